import PyProof.Rows.All
import Wide.All
import OpenK.AllK
import Wide.FinOn
import PySem.Challenge.RW_alikewritten_k11_written_down_and_read
import HandS.ForMost
import HandS.ForExc
import HandS.Conv
import HandS.CallSlots
import KE.KeyNested
import HandS.IsInst
set_option Elab.async false
set_option linter.all false
set_option maxRecDepth 100000
/-! DL: a layer of DATA over the hand layer: what a def computes, told by a function of plain data (no heap in sight). -/
namespace DL
open PySem PySem.Spec PyProof.Rows L2

structure KW where
  k : PySem.W.Frag
  w : World
abbrev kw (X : Cx) : KW := ⟨X.K, X.w⟩
/-- data -/
inductive D where
  | non | bl (b : Bool) | int (i : Int) | str (s : Str) | lst (xs : List D) | tup (xs : List D) | scr (ns : List Int)

mutual
inductive Rep (K : KW) (G : Hp) : V → D → Prop
  | non : Rep K G .non .non
  | bl (b : Bool) : Rep K G (.bl b) (.bl b)
  | int (i : Int) : Rep K G (.int i) (.int i)
  | str (x : Str) : Rep K G (.str x) (.str x)
  | lst {a : Addr} {xs : List V} {ds : List D} : G a = some (.lst xs) → Reps K G xs ds → Rep K G (.ref a) (.lst ds)
  | tup {a : Addr} {xs : List V} {ds : List D} : G a = some (.tup xs) → Reps K G xs ds → Rep K G (.ref a) (.tup ds)
  | scr {a : Addr} {ns : List Int} : SqL K.k G a (ns.map V.int) → Rep K G (.ref a) (.scr ns)
inductive Reps (K : KW) (G : Hp) : List V → List D → Prop
  | nil : Reps K G [] []
  | cons {v : V} {vs : List V} {d : D} {ds : List D} : Rep K G v d → Reps K G vs ds → Reps K G (v :: vs) (d :: ds)
end
section
variable {K : KW} {G G' : Hp}
mutual
theorem Rep.mono (e : Same G G') : ∀ (d : D) (v : V), Rep K G v d → Rep K G' v d
  | .non, _, h => by cases h; exact .non
  | .bl _, _, h => by cases h; exact .bl _
  | .int _, _, h => by cases h; exact .int _
  | .str _, _, h => by cases h; exact .str _
  | .lst ds, _, h => by
    cases h with
    | lst h1 h2 => exact .lst (e _ _ h1) (Reps.mono e ds _ h2)
  | .tup ds, _, h => by
    cases h with
    | tup h1 h2 => exact .tup (e _ _ h1) (Reps.mono e ds _ h2)
  | .scr ns, _, h => by
    cases h with
    | scr h1 => exact .scr (e.seq h1)
theorem Reps.mono (e : Same G G') : ∀ (ds : List D) (vs : List V), Reps K G vs ds → Reps K G' vs ds
  | [], _, h => by cases h; exact .nil
  | d :: ds, _, h => by
    cases h with
    | cons h1 h2 => exact .cons (Rep.mono e d _ h1) (Reps.mono e ds _ h2)
end
theorem Rep.up {v : V} {d : D} (h : Rep K G v d) (e : Same G G') : Rep K G' v d := Rep.mono e d v h
theorem Reps.up {vs : List V} {ds : List D} (h : Reps K G vs ds) (e : Same G G') : Reps K G' vs ds := Reps.mono e ds vs h
theorem Reps.length : ∀ {vs : List V} {ds : List D}, Reps K G vs ds → vs.length = ds.length
  | [], [], _ => rfl
  | _ :: _, _ :: _, .cons _ h => congrArg (· + 1) (Reps.length h)
theorem Reps.get : ∀ {vs : List V} {ds : List D} {i : Nat} {d : D}, Reps K G vs ds → ds[i]? = some d → ∃ v, vs[i]? = some v ∧ Rep K G v d
  | [], [], _, _, _, e => by simp at e
  | _ :: _, _ :: _, 0, _, .cons h _, e => by
    simp at e
    subst e
    exact ⟨_, rfl, h⟩
  | _ :: _, _ :: _, i + 1, d, .cons _ h, e => by
    obtain ⟨v, h1, h2⟩ := Reps.get (i := i) (d := d) h (by simpa using e)
    exact ⟨v, by simpa using h1, h2⟩
theorem Reps.getV : ∀ {vs : List V} {ds : List D} {i : Nat} {v : V}, Reps K G vs ds → vs[i]? = some v → ∃ d, ds[i]? = some d ∧ Rep K G v d
  | [], [], _, _, _, e => by simp at e
  | _ :: _, _ :: _, 0, _, .cons h _, e => by
    simp at e
    subst e
    exact ⟨_, rfl, h⟩
  | _ :: _, _ :: _, i + 1, d, .cons _ h, e => by
    obtain ⟨v, h1, h2⟩ := Reps.getV (i := i) (v := d) h (by simpa using e)
    exact ⟨v, by simpa using h1, h2⟩
theorem Reps.append : ∀ {vs ws : List V} {ds es : List D}, Reps K G vs ds → Reps K G ws es → Reps K G (vs ++ ws) (ds ++ es)
  | [], _, [], _, _, h => h
  | _ :: _, _, _ :: _, _, .cons h1 h2, h => .cons h1 (Reps.append h2 h)
theorem Reps.take : ∀ {vs : List V} {ds : List D} (n : Nat), Reps K G vs ds → Reps K G (vs.take n) (ds.take n)
  | [], [], 0, _ => .nil
  | [], [], _ + 1, _ => .nil
  | _ :: _, _ :: _, 0, _ => .nil
  | _ :: _, _ :: _, n + 1, .cons h1 h2 => .cons h1 (Reps.take n h2)
theorem Reps.drop : ∀ {vs : List V} {ds : List D} (n : Nat), Reps K G vs ds → Reps K G (vs.drop n) (ds.drop n)
  | [], [], 0, h => h
  | [], [], _ + 1, _ => .nil
  | _ :: _, _ :: _, 0, h => h
  | _ :: _, _ :: _, n + 1, .cons _ h2 => Reps.drop n h2
theorem Reps.set {v : V} {d : D} (r : Rep K G v d) : ∀ {vs : List V} {ds : List D} (i : Nat), Reps K G vs ds → Reps K G (vs.set i v) (ds.set i d)
  | [], [], _, h => by simpa using h
  | _ :: _, _ :: _, 0, .cons _ h2 => .cons r h2
  | _ :: _, _ :: _, n + 1, .cons h1 h2 => .cons h1 (Reps.set r n h2)
theorem Reps.one {v : V} {d : D} (h : Rep K G v d) : Reps K G [v] [d] := .cons h .nil
theorem Reps.ints : ∀ ns : List Int, Reps K G (ns.map V.int) (ns.map D.int)
  | [] => .nil
  | _ :: r => .cons (.int _) (Reps.ints r)
theorem Reps.strs : ∀ ns : List Str, Reps K G (ns.map V.str) (ns.map D.str)
  | [] => .nil
  | _ :: r => .cons (.str _) (Reps.strs r)
theorem Reps.of_strs : ∀ {ns : List Str} {vs : List V}, Reps K G vs (ns.map D.str) → vs = ns.map V.str
  | [], [], _ => rfl
  | _ :: r, _ :: _, .cons h1 h2 => by
    cases h1
    rw [Reps.of_strs h2]
    rfl
theorem Reps.of_ints : ∀ {ns : List Int} {vs : List V}, Reps K G vs (ns.map D.int) → vs = ns.map V.int
  | [], [], _ => rfl
  | _ :: r, _ :: _, .cons h1 h2 => by
    cases h1
    rw [Reps.of_ints h2]
    rfl
end

/-! ### dicts -/
mutual
def keyD : D → Option NestedKey
  | .non => some .none
  | .int i => some (.num i)
  | .str s => some (.text s)
  | .tup xs => (keyDs xs).map .tup
  | _ => none
def keyDs : List D → Option (List NestedKey)
  | [] => some []
  | x :: xs => match keyD x, keyDs xs with
    | some k, some ks => some (k :: ks)
    | _, _ => none
end
abbrev Ent := NestedKey × Value × Value
def entD (w : World) (x : Ent) : DictEntry := ⟨x.1.hash w, x.2.1, x.2.2⟩
/-- at p stands a dict with these entries -/
def RawD (w : World) (p : Addr) (xs : List Ent) (h : Heap) : Prop := xs.length ≤ sizeLine ∧ (p == sysModules) = false ∧ (xs.map (·.1)).Nodup ∧ ∃ o es ep, h.get? p = some o ∧ o.ExactDict ∧ o.data = .dict es ep ∧ es.toList = xs.map (entD w)
def DicO (w : World) (p : Addr) (xs : List Ent) : HO := .ext (RawD w p xs)
structure KRel (K : KW) (G : Hp) (x : Ent) (y : D × D) : Prop where
  key : keyD y.1 = some x.1
  dep : x.1.depth ≤ 8
  top : ∀ s, x.1 ≠ .text s
  kv : ∃ v, RelV v x.2.1 ∧ Rep K G v y.1
  vv : ∃ v, RelV v x.2.2 ∧ Rep K G v y.2
theorem KRel.up {K : KW} {G G' : Hp} {x : Ent} {y : D × D} (h : KRel K G x y) (e : Same G G') : KRel K G' x y where
  key := h.key
  dep := h.dep
  top := h.top
  kv := let ⟨v, a, b⟩ := h.kv; ⟨v, a, b.up e⟩
  vv := let ⟨v, a, b⟩ := h.vv; ⟨v, a, b.up e⟩

/-! ### results -/
inductive M (α : Type) where
  | ok (a : α) | ex (c : Str) | no
namespace M
@[simp] def bind {α β : Type} : M α → (α → M β) → M β
  | .ok a, f => f a
  | .ex c, _ => .ex c
  | .no, _ => .no
@[simp] def of {α : Type} : Option α → M α
  | some a => .ok a
  | none => .no
end M

/-- what is known of a slot: nothing, data, an own list (nobody else holds it), an own dict with tuple keys -/
inductive Cel where
  | un | dat (d : D) | own (xs : List D) | dic (kvs : List (D × D))
abbrev DEnv := List Cel
def Cel.owned : Cel → Prop
  | .own _ => True
  | .dic _ => True
  | _ => False

def CelAt (K : KW) (B G H : Hp) : Cel → Option V → Prop
  | .un, _ => True
  | .dat d, o => ∃ v, o = some v ∧ Rep K G v d
  | .own xs, o => ∃ p vs, o = some (.ref p) ∧ G p = none ∧ B p = none ∧ H p = some (.lst vs) ∧ Reps K G vs xs
  | .dic kvs, o => ∃ p xs, o = some (.ref p) ∧ G p = none ∧ B p = none ∧ H p = some (DicO K.w p xs) ∧ Paired (KRel K G) xs kvs

/-- the slots σ in the heap H hold env; B: the heap at the entry, G0: what was known to stand still there, G: what stands still now -/
structure Cn (K : KW) (B G0 G : Hp) (σ : L2.St) (H : Hp) (env : DEnv) : Prop where
  len : σ.length = env.length
  exB : Same B H
  exG : Same G H
  ex0 : Same G0 G
  new : ∀ a, G a ≠ none → G0 a ≠ none ∨ B a = none
  cel : ∀ (i : Nat) (s : Cel), env[i]? = some s → ∃ o, σ[i]? = some o ∧ CelAt K B G H s o
  sep : ∀ (i j : Nat) (s t : Cel) (p : Addr), i ≠ j → env[i]? = some s → env[j]? = some t → s.owned → t.owned → σ[i]? = some (some (.ref p)) → σ[j]? ≠ some (some (.ref p))

section
variable {K : KW} {B G0 G G' H H' : Hp} {σ : L2.St} {env : DEnv}
theorem CelAt.un (o : Option V) : CelAt K B G H .un o := True.intro
theorem same_upd {H : Hp} {p : Addr} {o : HO} (h : H p = none) : Same H (upd H p o) := fun b x e => by
  rw [upd_ne (ne_of_none e h)]
  exact e
theorem none_of_same {H H' : Hp} {p : Addr} (e : Same H H') (h : H' p = none) : H p = none := e.free h
/-- what happens within an expression -/
theorem Cn.grow (c : Cn K B G0 G σ H env) (eG : Same G G') (eH : Same H H') (gh : Same G' H') (nw : ∀ a, G' a ≠ none → G a ≠ none ∨ H a = none) : Cn K B G0 G' σ H' env where
  len := c.len
  exB := c.exB.trans eH
  exG := gh
  ex0 := c.ex0.trans eG
  new := fun a h => by
    rcases nw a h with z | z
    · exact c.new a z
    · exact .inr (c.exB.free z)
  cel := fun i s e => by
    obtain ⟨o, e1, h⟩ := c.cel i s e
    refine ⟨o, e1, ?_⟩
    have key : ∀ p u, G p = none → H p = some u → G' p = none := fun p u gp hp => by
      cases q : G' p with
      | none => rfl
      | some w =>
        rcases nw p (by rw [q]; intro z; cases z) with z | z
        · exact absurd gp z
        · rw [hp] at z; cases z
    cases s with
    | un => trivial
    | dat d => obtain ⟨v, e2, r⟩ := h; exact ⟨v, e2, r.up eG⟩
    | own xs => obtain ⟨p, vs, e2, gp, bp, hp, r⟩ := h; exact ⟨p, vs, e2, key p _ gp hp, bp, eH _ _ hp, r.up eG⟩
    | dic kvs => obtain ⟨p, vs, e2, gp, bp, hp, r⟩ := h; exact ⟨p, vs, e2, key p _ gp hp, bp, eH _ _ hp, L2.Paired.mapP r fun _ _ z => z.up eG⟩
  sep := c.sep
/-- a new object that stands still from now on -/
theorem Cn.laid (c : Cn K B G0 G σ H env) {p : Addr} {o : HO} (h : H p = none) : Cn K B G0 (upd G p o) σ (upd H p o) env := by
  have gp : G p = none := c.exG.free h
  refine c.grow (same_upd gp) (same_upd h) (fun a x e => ?_) (fun a e => ?_)
  · by_cases z : a = p
    · subst z; rw [upd_same] at e ⊢; exact e
    · rw [upd_ne z] at e ⊢; exact c.exG _ _ e
  · by_cases z : a = p
    · subst z; exact .inr h
    · rw [upd_ne z] at e; exact .inl e
/-- slots are forgotten -/
theorem Cn.weak {σ' : L2.St} {env' : DEnv} (c : Cn K B G0 G σ H env) (hl : σ'.length = env'.length) (w : ∀ (i : Nat) s, env'[i]? = some s → s = .un ∨ (env[i]? = some s ∧ σ'[i]? = σ[i]?)) : Cn K B G0 G σ' H env' where
  len := hl
  exB := c.exB
  exG := c.exG
  ex0 := c.ex0
  new := c.new
  cel := fun i s e => by
    have hi : i < σ'.length := by rw [hl]; exact (List.getElem?_eq_some_iff.mp e).1
    rcases w i s e with z | ⟨z, q⟩
    · subst z
      exact ⟨σ'[i], List.getElem?_eq_getElem hi, trivial⟩
    · obtain ⟨o, e1, h⟩ := c.cel i s z
      exact ⟨o, q.trans e1, h⟩
  sep := fun i j s t p ne e1 e2 o1 o2 q => by
    rcases w i s e1 with z | ⟨z, q1⟩
    · subst z; exact o1.elim
    · rcases w j t e2 with z' | ⟨z', q2⟩
      · subst z'; exact o2.elim
      · rw [q2]
        exact c.sep i j s t p ne z z' o1 o2 (q1 ▸ q)
/-- a slot is given data -/
theorem Cn.set (c : Cn K B G0 G σ H env) (i : Nat) {v : V} {d : D} (r : Rep K G v d) : Cn K B G0 G (σ.set i (some v)) H (env.set i (.dat d)) where
  len := by simp [c.len]
  exB := c.exB
  exG := c.exG
  ex0 := c.ex0
  new := c.new
  cel := fun j s e => by
    by_cases h : i = j
    · subst h
      have hi : i < env.length := by
        have := (List.getElem?_eq_some_iff.mp e).1
        simpa using this
      rw [List.getElem?_set_self hi] at e
      cases e
      refine ⟨some v, ?_, v, rfl, r⟩
      rw [List.getElem?_set_self (by rw [c.len]; exact hi)]
    · rw [List.getElem?_set_ne h] at e
      obtain ⟨o, e1, q⟩ := c.cel j s e
      exact ⟨o, by rw [List.getElem?_set_ne h]; exact e1, q⟩
  sep := fun j k s t p ne e1 e2 o1 o2 q => by
    have hj : i ≠ j := fun z => by
      subst z
      have hi : i < env.length := by
        have := (List.getElem?_eq_some_iff.mp e1).1
        simpa using this
      rw [List.getElem?_set_self hi] at e1
      cases e1
      exact o1
    have hk : i ≠ k := fun z => by
      subst z
      have hi : i < env.length := by
        have := (List.getElem?_eq_some_iff.mp e2).1
        simpa using this
      rw [List.getElem?_set_self hi] at e2
      cases e2
      exact o2
    rw [List.getElem?_set_ne hj] at e1 q
    rw [List.getElem?_set_ne hk] at e2 ⊢
    exact c.sep j k s t p ne e1 e2 o1 o2 q
end
end DL

namespace DL
open PySem PySem.Spec PyProof.Rows L2


/-! ### the combinators of the readings -/
@[simp] def celD (env : DEnv) (i : Nat) : M D := match env[i]? with
  | some (.dat d) => .ok d
  | _ => .no
@[simp] def asB : D → M Bool
  | .bl b => .ok b
  | _ => .no
@[simp] def xVar (i : Nat) (env : DEnv) : M D := celD env i
@[simp] def xC (d : D) (_ : DEnv) : M D := .ok d
@[simp] def xOp (h : D → D → Option D) (f g : DEnv → M D) (env : DEnv) : M D := (f env).bind fun a => (g env).bind fun b => .of (h a b)
@[simp] def xUn (h : D → Option D) (f : DEnv → M D) (env : DEnv) : M D := (f env).bind fun a => .of (h a)
@[simp] def aNil (_ : DEnv) : M (List D) := .ok []
@[simp] def aCons (f : DEnv → M D) (g : DEnv → M (List D)) (env : DEnv) : M (List D) := (f env).bind fun a => (g env).bind fun b => .ok (a :: b)
@[simp] def xCb (h : List D → Option D) (g : DEnv → M (List D)) (env : DEnv) : M D := (g env).bind fun a => .of (h a)
@[simp] def xTup (g : DEnv → M (List D)) (env : DEnv) : M D := (g env).bind fun a => if a.length ≤ sizeLine then .ok (.tup a) else .no
@[simp] def lLst (g : DEnv → M (List D)) (env : DEnv) : M (List D) := (g env).bind fun a => if a.length ≤ sizeLine then .ok a else .no
@[simp] def xL (g : DEnv → M (List D)) (env : DEnv) : M D := (g env).bind fun a => .ok (.lst a)
@[simp] def tE (f : DEnv → M D) (env : DEnv) : M Bool := (f env).bind asB
@[simp] def tNo (t : DEnv → M Bool) (env : DEnv) : M Bool := (t env).bind fun b => .ok (!b)
@[simp] def tBoth (t u : DEnv → M Bool) (env : DEnv) : M Bool := (t env).bind fun c => if c = true then u env else .ok false
@[simp] def tEither (t u : DEnv → M Bool) (env : DEnv) : M Bool := (t env).bind fun c => if c = true then .ok true else u env

/-! ### expressions -/
section
variable (K : KW) (mg : Str → Option Value) (W : WX) (B G0 G : Hp) (σ : L2.St) (env : DEnv)
def PoX (c : Str) : Prop := ∀ cls H' G', mg c = some cls → Cn K B G0 G' σ H' env → W cls none σ H'
def PoE (Q : VK) : M D → Prop
  | .ok d => ∀ v H' G', Same G G' → Cn K B G0 G' σ H' env → Rep K G' v d → Q v H'
  | .ex c => PoX K mg W B G0 σ env c
  | .no => False
def PoT (Q : Bool → Hp → Prop) : M Bool → Prop
  | .ok b => ∀ H' G', Same G G' → Cn K B G0 G' σ H' env → Q b H'
  | .ex c => PoX K mg W B G0 σ env c
  | .no => False
def PoA (Q : List V → Hp → Prop) : M (List D) → Prop
  | .ok ds => ∀ vs H' G', Same G G' → Cn K B G0 G' σ H' env → Reps K G' vs ds → Q vs H'
  | .ex c => PoX K mg W B G0 σ env c
  | .no => False
end
def RdE (K : KW) (mg : Str → Option Value) (W : WX) (te : TE) (f : DEnv → M D) : Prop :=
  ∀ B G0 G H σ env Q, Cn K B G0 G σ H env → PoE K mg W B G0 G σ env Q (f env) → te σ H Q
def RdT (K : KW) (mg : Str → Option Value) (W : WX) (tt : TT) (f : DEnv → M Bool) : Prop :=
  ∀ B G0 G H σ env Q, Cn K B G0 G σ H env → PoT K mg W B G0 G σ env Q (f env) → tt σ H Q
def RdA (K : KW) (mg : Str → Option Value) (W : WX) (ta : TA) (f : DEnv → M (List D)) : Prop :=
  ∀ B G0 G H σ env Q, Cn K B G0 G σ H env → PoA K mg W B G0 G σ env Q (f env) → ta σ H Q
/-- a two-place operation on data -/
def OpD (K : KW) (r : R2) (h : D → D → Option D) : Prop :=
  ∀ (B G0 G H : Hp) (σ : L2.St) (env : DEnv) (x y : V) (a b d : D) (Q : VK), Cn K B G0 G σ H env → Rep K G x a → Rep K G y b → h a b = some d →
    (∀ v H' G', Same G G' → Cn K B G0 G' σ H' env → Rep K G' v d → Q v H') → r x y H Q
/-- a call of a builtin on data -/
def CbD (K : KW) (r : List V → Hp → VK → Prop) (h : List D → Option D) : Prop :=
  ∀ (B G0 G H : Hp) (σ : L2.St) (env : DEnv) (vs : List V) (ds : List D) (d : D) (Q : VK), Cn K B G0 G σ H env → Reps K G vs ds → h ds = some d →
    (∀ v H' G', Same G G' → Cn K B G0 G' σ H' env → Rep K G' v d → Q v H') → r vs H Q
section
variable {K : KW} {mg : Str → Option Value} {W : WX} {ta tb te : TE} {f g : DEnv → M D}
theorem RdE.op {r : R2} {h : D → D → Option D} (ha : RdE K mg W ta f) (hb : RdE K mg W tb g) (hr : OpD K r h) :
    RdE K mg W (tOp r ta tb) (xOp h f g) := by
  intro B G0 G H σ env Q c p
  refine ha B G0 G H σ env _ c ?_
  cases e : f env with
  | no => simp [e, PoE] at p
  | ex n => simpa [e, PoE] using p
  | ok a =>
    intro v1 H1 G1 s1 c1 r1
    refine hb B G0 G1 H1 σ env _ c1 ?_
    cases e2 : g env with
    | no => simp [e, e2, PoE] at p
    | ex n => simpa [e, e2, PoE] using p
    | ok b =>
      intro v2 H2 G2 s2 c2 r2
      cases e3 : h a b with
      | none => simp [e, e2, e3, PoE] at p
      | some d =>
        simp only [xOp, xUn, aNil, aCons, xCb, xTup, lLst, xL, tE, tNo, tBoth, tEither, xVar, e, e2, e3, M.bind, M.of] at p
        exact hr _ _ _ _ _ _ _ _ _ _ _ _ c2 (r1.up s2) r2 e3 fun v H' G' s c' r' => p v H' G' ((s1.trans s2).trans s) c' r'
theorem RdE.un {r : V → Hp → VK → Prop} {h : D → Option D} (ha : RdE K mg W ta f)
    (hr : ∀ {B G0 G H : Hp} {σ : L2.St} {env : DEnv} {x : V} {a d : D} {Q : VK}, Cn K B G0 G σ H env → Rep K G x a → h a = some d → (∀ v H' G', Same G G' → Cn K B G0 G' σ H' env → Rep K G' v d → Q v H') → r x H Q) :
    RdE K mg W (tUn r ta) (xUn h f) := by
  intro B G0 G H σ env Q c p
  refine ha B G0 G H σ env _ c ?_
  cases e : f env with
  | no => simp [e, PoE] at p
  | ex n => simpa [e, PoE] using p
  | ok a =>
    intro v1 H1 G1 s1 c1 r1
    cases e3 : h a with
    | none => simp [e, e3, PoE] at p
    | some d =>
      simp only [xOp, xUn, aNil, aCons, xCb, xTup, lLst, xL, tE, tNo, tBoth, tEither, xVar, e, e3, M.bind, M.of] at p
      exact hr c1 r1 e3 fun v H' G' s c' r' => p v H' G' (s1.trans s) c' r'
theorem RdA.nil : RdA K mg W tNil aNil := by
  intro B G0 G H σ env Q c p
  exact p [] H G (Same.refl G) c .nil
theorem RdA.cons {tr : TA} {g : DEnv → M (List D)} (ha : RdE K mg W ta f) (hb : RdA K mg W tr g) :
    RdA K mg W (tCons ta tr) (aCons f g) := by
  intro B G0 G H σ env Q c p
  refine ha B G0 G H σ env _ c ?_
  cases e : f env with
  | no => simp [e, PoA] at p
  | ex n => simpa [e, PoA, PoE] using p
  | ok a =>
    intro v1 H1 G1 s1 c1 r1
    refine hb B G0 G1 H1 σ env _ c1 ?_
    cases e2 : g env with
    | no => simp [e, e2, PoA] at p
    | ex n => simpa [e, e2, PoA] using p
    | ok b =>
      intro v2 H2 G2 s2 c2 r2
      simp only [xOp, xUn, aNil, aCons, xCb, xTup, lLst, xL, tE, tNo, tBoth, tEither, xVar, e, e2, M.bind] at p
      exact p _ H2 G2 (s1.trans s2) c2 (.cons (r1.up s2) r2)
theorem RdE.cb {r : List V → Hp → VK → Prop} {h : List D → Option D} {tr : TA} {g : DEnv → M (List D)} (ha : RdA K mg W tr g) (hr : CbD K r h) :
    RdE K mg W (tCB r tr) (xCb h g) := by
  intro B G0 G H σ env Q c p
  refine ha B G0 G H σ env _ c ?_
  cases e : g env with
  | no => simp [e, PoE] at p
  | ex n => simpa [e, PoE, PoA] using p
  | ok a =>
    intro v1 H1 G1 s1 c1 r1
    cases e3 : h a with
    | none => simp [e, e3, PoE] at p
    | some d =>
      simp only [xOp, xUn, aNil, aCons, xCb, xTup, lLst, xL, tE, tNo, tBoth, tEither, xVar, e, e3, M.bind, M.of] at p
      exact hr _ _ _ _ _ _ _ _ _ _ c1 r1 e3 fun v H' G' s c' r' => p v H' G' (s1.trans s) c' r'
/-- a tuple's display -/
theorem RdE.tup {tr : TA} {g : DEnv → M (List D)} (ha : RdA K mg W tr g) :
    RdE K mg W (tTup tr) (xTup g) := by
  intro B G0 G H σ env Q c p
  refine ha B G0 G H σ env _ c ?_
  cases e : g env with
  | no => simp [e, PoE] at p
  | ex n => simpa [e, PoE, PoA] using p
  | ok a =>
    intro v1 H1 G1 s1 c1 r1
    simp only [xOp, xUn, aNil, aCons, xCb, xTup, lLst, xL, tE, tNo, tBoth, tEither, xVar, e, M.bind] at p
    by_cases hl : a.length ≤ sizeLine
    · rw [if_pos hl] at p
      refine ⟨by rw [r1.length]; exact hl, fun q hq => ?_⟩
      have gq := c1.exG.free hq
      exact p (.ref q) _ (upd G1 q (.tup v1)) (s1.trans (same_upd gq)) (c1.laid hq) (.tup upd_same (r1.up (same_upd gq)))
    · rw [if_neg hl] at p
      exact p.elim
end

/-! ### new lists -/
def PoL (K : KW) (mg : Str → Option Value) (W : WX) (B G0 G : Hp) (σ : L2.St) (env : DEnv) (Q : VK) : M (List D) → Prop
  | .ok ds => ∀ p vs H' G', Same G G' → Cn K B G0 G' σ H' env → H' p = none → Reps K G' vs ds → Q (.ref p) (upd H' p (.lst vs))
  | .ex c => PoX K mg W B G0 σ env c
  | .no => False
/-- an expression that gives a new list -/
def RdL (K : KW) (mg : Str → Option Value) (W : WX) (te : TE) (f : DEnv → M (List D)) : Prop :=
  ∀ B G0 G H σ env Q, Cn K B G0 G σ H env → PoL K mg W B G0 G σ env Q (f env) → te σ H Q
section
variable {K : KW} {mg : Str → Option Value} {W : WX} {ta tb te : TE} {f g : DEnv → M D}
theorem RdL.lst {tr : TA} {g : DEnv → M (List D)} (ha : RdA K mg W tr g) :
    RdL K mg W (tLst tr) (lLst g) := by
  intro B G0 G H σ env Q c p
  refine ha B G0 G H σ env _ c ?_
  cases e : g env with
  | no => simp [e, PoL] at p
  | ex n => simpa [e, PoL, PoA] using p
  | ok a =>
    intro v1 H1 G1 s1 c1 r1
    simp only [xOp, xUn, aNil, aCons, xCb, xTup, lLst, xL, tE, tNo, tBoth, tEither, xVar, e, M.bind] at p
    by_cases hl : a.length ≤ sizeLine
    · rw [if_pos hl] at p
      exact ⟨by rw [r1.length]; exact hl, fun q hq => p q v1 H1 G1 s1 c1 hq r1⟩
    · rw [if_neg hl] at p
      exact p.elim
/-- a new list as data -/
theorem RdL.dat {g : DEnv → M (List D)} (h : RdL K mg W te g) : RdE K mg W te (xL g) := by
  intro B G0 G H σ env Q c p
  refine h B G0 G H σ env _ c ?_
  cases e : g env with
  | no => simp [e, PoE] at p
  | ex n => simpa [e, PoE, PoL] using p
  | ok a =>
    intro q vs H1 G1 s1 c1 hq r1
    simp only [xOp, xUn, aNil, aCons, xCb, xTup, lLst, xL, tE, tNo, tBoth, tEither, xVar, e, M.bind] at p
    have gq := c1.exG.free hq
    exact p (.ref q) _ (upd G1 q (.lst vs)) (s1.trans (same_upd gq)) (c1.laid hq) (.lst upd_same (r1.up (same_upd gq)))
end

/-! ### the judgements -/
structure DE (X : Cx) (W : WX) (e : Expr) (f : DEnv → M D) : Prop where
  ex : ∃ te, PE X e te ∧ RdE (kw X) X.mg W te f
structure DT (X : Cx) (W : WX) (e : Expr) (f : DEnv → M Bool) : Prop where
  ex : ∃ te, PT X e te ∧ RdT (kw X) X.mg W te f
structure DW (X : Cx) (W : WX) (e : Expr) (f : DEnv → M Bool) : Prop where
  ex : ∃ te, PW X e te ∧ RdT (kw X) X.mg W te f
structure DA (X : Cx) (W : WX) (es : List Expr) (f : DEnv → M (List D)) : Prop where
  ex : ∃ ta, PA X es ta ∧ RdA (kw X) X.mg W ta f
structure DLs (X : Cx) (W : WX) (e : Expr) (f : DEnv → M (List D)) : Prop where
  ex : ∃ te, PE X e te ∧ RdL (kw X) X.mg W te f
structure OpX (X : Cx) (f : Value → Value → Sem Value) (h : D → D → Option D) : Prop where
  ex : ∃ r, OpR X f r ∧ OpD (kw X) r h
structure CbX (X : Cx) (f : Value) (h : List D → Option D) : Prop where
  ex : ∃ r, CallR X f r ∧ CbD (kw X) r h

section
variable {X : Cx} {W : WX} {a b e : Expr} {es : List Expr} {f g : DEnv → M D} {pos : Pos}
/-- a name of the def -/
theorem dv (i : Nat) {x : Str} {pos : Pos} (hN : X.N[i]? = some x := by rfl) (hv : Vis X.env.scope x := by first | exact Or.inl rfl | exact Or.inr (Or.inl rfl) | exact Or.inr (Or.inr rfl)) (hd : (x == ("__debug__" : Str)) = false := by decide)
    (hcd : (x == ("__classdict__" : Str)) = false := by decide) : DE X W (.Name x pos) (xVar i) := by
  refine ⟨_, pe_var hN hv hd hcd, ?_⟩
  intro B G0 G H σ env Q c p
  simp only [xOp, xUn, aNil, aCons, xCb, xTup, lLst, xL, tE, tNo, tBoth, tEither, xVar, celD] at p
  cases e : env[i]? with
  | none => simp [e, PoE] at p
  | some s =>
    cases s with
    | dat d =>
      rw [e] at p
      obtain ⟨o, e1, v, e2, r⟩ := c.cel i _ e
      subst e2
      exact ⟨v, e1, p v H G (Same.refl G) c r⟩
    | un => simp [e, PoE] at p
    | own _ => simp [e, PoE] at p
    | dic _ => simp [e, PoE] at p
theorem DE.const {te : TE} {v : V} {d : D} (h : PE X e te) (ht : te = tC v) (r : ∀ G, Rep (kw X) G v d) : DE X W e (xC d) := by
  refine ⟨_, h, ?_⟩
  subst ht
  intro B G0 G H σ env Q c p
  exact p v H G (Same.refl G) c (r G)
theorem de_int {i : Int} {k : Nat} : DE X W (.Constant (.int i) k pos) (xC (.int i)) := .const pe_int rfl fun _ => .int i
theorem de_str {x : Str} {k : Nat} : DE X W (.Constant (.str x) k pos) (xC (.str x)) := .const pe_str rfl fun _ => .str x
theorem de_non {k : Nat} : DE X W (.Constant .none k pos) (xC .non) := .const pe_non rfl fun _ => .non
theorem de_bl {b : Bool} {k : Nat} : DE X W (.Constant (.bool b) k pos) (xC (.bl b)) := .const pe_bl rfl fun _ => .bl b
theorem de_globI {x : Str} {i : Int} {t : Tok} (hg : Gl X x) (hm : X.mg x = some (.int i t)) (hd : (x == ("__debug__" : Str)) = false := by decide) : DE X W (.Name x pos) (xC (.int i)) :=
  .const (pe_glob (v := .int i) hg hm ⟨t, rfl⟩ hd) rfl fun _ => .int i
theorem de_globS {x y : Str} {t : Tok} (hg : Gl X x) (hm : X.mg x = some (.str y t)) (hd : (x == ("__debug__" : Str)) = false := by decide) : DE X W (.Name x pos) (xC (.str y)) :=
  .const (pe_glob (v := .str y) hg hm ⟨t, rfl⟩ hd) rfl fun _ => .str y
theorem de_bin {op : Operator} {h : D → D → Option D} (ho : OpX X (binaryOp op) h) (ha : DE X W a f) (hb : DE X W b g) :
    DE X W (.BinOp a op b pos) (xOp h f g) := by
  obtain ⟨r, o1, o2⟩ := ho.ex
  obtain ⟨ta, a1, a2⟩ := ha.ex
  obtain ⟨tb, b1, b2⟩ := hb.ex
  exact ⟨_, pe_op o1 a1 b1, a2.op b2 o2⟩
theorem de_cmp {op : CmpOp} {h : D → D → Option D} (ho : OpX X (compareOp op) h) (ha : DE X W a f) (hb : DE X W b g) (hm : behindInMarks op b = false) :
    DE X W (.Compare a [op] [b] pos) (xOp h f g) := by
  obtain ⟨r, o1, o2⟩ := ho.ex
  obtain ⟨ta, a1, a2⟩ := ha.ex
  obtain ⟨tb, b1, b2⟩ := hb.ex
  exact ⟨_, pe_cmpR o1 a1 b1 hm, a2.op b2 o2⟩
theorem RdE.test {K : KW} {mg : Str → Option Value} {te : TE} (h : RdE K mg W te f) : RdT K mg W (tTest te) (tE f) := by
  intro B G0 G H σ env Q c p
  refine h B G0 G H σ env _ c ?_
  cases e : f env with
  | no => simp [e, PoT] at p
  | ex n => simpa [e, PoE, PoT] using p
  | ok d =>
    intro v H1 G1 s1 c1 r1
    simp only [xOp, xUn, aNil, aCons, xCb, xTup, lLst, xL, tE, tNo, tBoth, tEither, xVar, e, M.bind] at p
    cases d with
    | bl b =>
      cases r1
      exact ⟨b, rfl, p H1 G1 s1 c1⟩
    | non => exact p.elim
    | int _ => exact p.elim
    | str _ => exact p.elim
    | lst _ => exact p.elim
    | tup _ => exact p.elim
    | scr _ => exact p.elim
theorem dt_cmp {op : CmpOp} {h : D → D → Option D} (ho : OpX X (compareOp op) h) (ha : DE X W a f) (hb : DE X W b g) (hm : behindInMarks op b = false) :
    DT X W (.Compare a [op] [b] pos) (tE (xOp h f g)) := by
  obtain ⟨r, o1, o2⟩ := ho.ex
  obtain ⟨ta, a1, a2⟩ := ha.ex
  obtain ⟨tb, b1, b2⟩ := hb.ex
  exact ⟨_, pt_cmpR o1 a1 b1 hm, (a2.op b2 o2).test⟩
/-- any expression that gives True or False, as a test -/
theorem dt_val (ha : DE X W a f) (he : ∀ whole, isTrue a X.env whole = (do let v ← whole; standAt a.pos; holding [v] (truthy v)) := by intro _; rfl) : DT X W a (tE f) := by
  obtain ⟨ta, a1, a2⟩ := ha.ex
  exact ⟨_, pt_val a1 he, a2.test⟩
theorem dt_w {t : DEnv → M Bool} (h : DW X W e t) : DT X W e t := by
  obtain ⟨_, a1, a2⟩ := h.ex
  exact ⟨_, a1.pt, a2⟩
theorem dt_not {t : DEnv → M Bool} (h : DT X W a t) : DT X W (.UnaryOp .Not a pos) (tNo t) := by
  obtain ⟨_, a1, a2⟩ := h.ex
  refine ⟨_, pt_not a1, ?_⟩
  intro B G0 G H σ env Q c p
  refine a2 B G0 G H σ env _ c ?_
  cases e : t env with
  | no => simp [e, PoT] at p
  | ex n => simpa [e, PoT] using p
  | ok d =>
    simp only [xOp, xUn, aNil, aCons, xCb, xTup, lLst, xL, tE, tNo, tBoth, tEither, xVar, e, M.bind] at p
    exact p
theorem dw_and1 {t : DEnv → M Bool} (h : DT X W a t) : DW X W (.BoolOp .And [a] pos) t := by
  obtain ⟨_, a1, a2⟩ := h.ex
  exact ⟨_, pw_and1 a1, a2⟩
theorem dw_or1 {t : DEnv → M Bool} (h : DT X W a t) : DW X W (.BoolOp .Or [a] pos) t := by
  obtain ⟨_, a1, a2⟩ := h.ex
  exact ⟨_, pw_or1 a1, a2⟩
theorem dw_and {t u : DEnv → M Bool} {rest : List Expr} (h : DT X W a t) (hr : DW X W (.BoolOp .And (b :: rest) pos) u) : DW X W (.BoolOp .And (a :: b :: rest) pos) (tBoth t u) := by
  obtain ⟨_, a1, a2⟩ := h.ex
  obtain ⟨_, b1, b2⟩ := hr.ex
  refine ⟨_, pw_and a1 b1, ?_⟩
  intro B G0 G H σ env Q c p
  refine a2 B G0 G H σ env _ c ?_
  cases e : t env with
  | no => simp [e, PoT] at p
  | ex n => simpa [e, PoT] using p
  | ok d =>
    intro H1 G1 s1 c1
    simp only [xOp, xUn, aNil, aCons, xCb, xTup, lLst, xL, tE, tNo, tBoth, tEither, xVar, e, M.bind] at p
    cases d with
    | true =>
      refine iteT (b2 B G0 G1 H1 σ env _ c1 ?_)
      simp only [xOp, xUn, aNil, aCons, xCb, xTup, lLst, xL, tE, tNo, tBoth, tEither, xVar, if_true] at p
      cases e2 : u env with
      | no => simp [e2, PoT] at p
      | ex n => simpa [e2, PoT] using p
      | ok d =>
        rw [e2] at p
        exact fun H2 G2 s2 c2 => p H2 G2 (s1.trans s2) c2
    | false =>
      refine iteF ?_
      simp only [xOp, xUn, aNil, aCons, xCb, xTup, lLst, xL, tE, tNo, tBoth, tEither, xVar, Bool.false_eq_true, if_false] at p
      exact p H1 G1 s1 c1
theorem dw_or {t u : DEnv → M Bool} {rest : List Expr} (h : DT X W a t) (hr : DW X W (.BoolOp .Or (b :: rest) pos) u) : DW X W (.BoolOp .Or (a :: b :: rest) pos) (tEither t u) := by
  obtain ⟨_, a1, a2⟩ := h.ex
  obtain ⟨_, b1, b2⟩ := hr.ex
  refine ⟨_, pw_or a1 b1, ?_⟩
  intro B G0 G H σ env Q c p
  refine a2 B G0 G H σ env _ c ?_
  cases e : t env with
  | no => simp [e, PoT] at p
  | ex n => simpa [e, PoT] using p
  | ok d =>
    intro H1 G1 s1 c1
    simp only [xOp, xUn, aNil, aCons, xCb, xTup, lLst, xL, tE, tNo, tBoth, tEither, xVar, e, M.bind] at p
    cases d with
    | false =>
      refine iteF (b2 B G0 G1 H1 σ env _ c1 ?_)
      simp only [xOp, xUn, aNil, aCons, xCb, xTup, lLst, xL, tE, tNo, tBoth, tEither, xVar, Bool.false_eq_true, if_false] at p
      cases e2 : u env with
      | no => simp [e2, PoT] at p
      | ex n => simpa [e2, PoT] using p
      | ok d =>
        rw [e2] at p
        exact fun H2 G2 s2 c2 => p H2 G2 (s1.trans s2) c2
    | true =>
      refine iteT ?_
      simp only [xOp, xUn, aNil, aCons, xCb, xTup, lLst, xL, tE, tNo, tBoth, tEither, xVar, if_true] at p
      exact p H1 G1 s1 c1
theorem da_nil : DA X W [] aNil := ⟨_, pa_nil, RdA.nil⟩
theorem da_cons {g : DEnv → M (List D)} (ha : DE X W a f) (hb : DA X W es g) (hs : starEach (a :: es) X.env = (false, eval a X.env) :: starEach es X.env := by rfl) :
    DA X W (a :: es) (aCons f g) := by
  obtain ⟨_, a1, a2⟩ := ha.ex
  obtain ⟨_, b1, b2⟩ := hb.ex
  exact ⟨_, pa_cons a1 b1 hs, RdA.cons a2 b2⟩
theorem de_tup {g : DEnv → M (List D)} {x1} (ha : DA X W es g) : DE X W (.Tuple es x1 pos) (xTup g) := by
  obtain ⟨_, a1, a2⟩ := ha.ex
  exact ⟨_, pe_tup a1, RdE.tup a2⟩
theorem dl_lst {g : DEnv → M (List D)} (ha : DA X W es g) : DLs X W (.List es pos) (lLst g) := by
  obtain ⟨_, a1, a2⟩ := ha.ex
  exact ⟨_, pe_lst a1, RdL.lst a2⟩
theorem de_ofL {g : DEnv → M (List D)} (ha : DLs X W e g) : DE X W e (xL g) := by
  obtain ⟨_, a1, a2⟩ := ha.ex
  exact ⟨_, a1, RdL.dat a2⟩
theorem de_cb {id : String} {h : List D → Option D} {x : Str} {p : Pos} {g : DEnv → M (List D)} (hc : CbX X (.builtin id) h) (hg : Gl X x) (hm : X.mg x = none) (hv : bootBuiltins x = some (.builtin id)) (ha : DA X W (e :: es) g) (hn : x ≠ "__name__" := by decide) (hdb : (x == ("__debug__" : Str)) = false := by decide)
    (he : starEach (e :: es) X.env = (false, eval e X.env) :: starEach es X.env := by rfl) (hpl : (backTo pos (starEach es X.env)).any (·.1) = false := by rfl) :
    DE X W (.Call (.Name x p) (e :: es) [] pos) (xCb h g) := by
  obtain ⟨_, c1, c2⟩ := hc.ex
  obtain ⟨_, a1, a2⟩ := ha.ex
  exact ⟨_, pe_callB c1 hg hm hv a1 hn hdb he hpl, RdE.cb a2 c2⟩
theorem de_ct {T : String} {h : List D → Option D} {x : Str} {p : Pos} {g : DEnv → M (List D)} (hc : CbX X (.type T) h) (hg : Gl X x) (hm : X.mg x = none) (hv : bootBuiltins x = some (.type T)) (ha : DA X W (e :: es) g) (hn : x ≠ "__name__" := by decide) (hdb : (x == ("__debug__" : Str)) = false := by decide)
    (he : starEach (e :: es) X.env = (false, eval e X.env) :: starEach es X.env := by rfl) (hpl : (backTo pos (starEach es X.env)).any (·.1) = false := by rfl) :
    DE X W (.Call (.Name x p) (e :: es) [] pos) (xCb h g) := by
  obtain ⟨_, c1, c2⟩ := hc.ex
  obtain ⟨_, a1, a2⟩ := ha.ex
  exact ⟨_, pe_callTy c1 hg hm hv a1 hn hdb he hpl, RdE.cb a2 c2⟩
end
end DL

namespace DL
open PySem PySem.Spec PyProof.Rows L2

/-! ### statements -/
inductive DOut where
  | nx (env : DEnv) | rt (d : D) | bk (env : DEnv) | ct (env : DEnv) | ex (c : Str) (env : DEnv) | no
@[simp] def M.to {α : Type} (env : DEnv) (k : α → DOut) : M α → DOut
  | .ok a => k a
  | .ex c => .ex c env
  | .no => .no
@[simp] def DOut.then (u : DEnv → DOut) : DOut → DOut
  | .nx e => u e
  | .rt d => .rt d
  | .bk e => .bk e
  | .ct e => .ct e
  | .ex c e => .ex c e
  | .no => .no
abbrev DStm := DEnv → DOut
abbrev DTgt := D → DEnv → Option DEnv
@[simp] def sNext : DStm := fun env => .nx env
@[simp] def sSeq (a b : DStm) : DStm := fun env => (a env).then b
@[simp] def sIf (t : DEnv → M Bool) (a b : DStm) : DStm := fun env => (t env).to env fun c => if c = true then a env else b env
@[simp] def sRet (f : DEnv → M D) : DStm := fun env => (f env).to env fun d => .rt d
@[simp] def sRetN : DStm := fun _ => .rt .non
@[simp] def sExpr (f : DEnv → M D) : DStm := fun env => (f env).to env fun _ => .nx env
@[simp] def sCont : DStm := fun env => .ct env
@[simp] def sBreak : DStm := fun env => .bk env
@[simp] def sSet (i : Nat) (f : DEnv → M D) : DStm := fun env => (f env).to env fun d => .nx (env.set i (.dat d))
@[simp] def sOwn (i : Nat) (f : DEnv → M (List D)) : DStm := fun env => (f env).to env fun d => .nx (env.set i (.own d))
@[simp] def ofEnv : Option DEnv → DOut
  | some e => .nx e
  | none => .no
@[simp] def sAsg (tg : DTgt) (f : DEnv → M D) : DStm := fun env => (f env).to env fun d => ofEnv (tg d env)
@[simp] def gN (i : Nat) : DTgt := fun d env => some (env.set i (.dat d))
@[simp] def gsNil : List D → DEnv → Option DEnv
  | [], env => some env
  | _, _ => none
@[simp] def gsCons (t : DTgt) (u : List D → DEnv → Option DEnv) : List D → DEnv → Option DEnv
  | d :: ds, env => (t d env).bind (u ds)
  | [], _ => none
@[simp] def gT (u : List D → DEnv → Option DEnv) : DTgt := fun d env => match d with
  | .tup ds => u ds env
  | _ => none
def dLoop (tg : DTgt) (body : DStm) : List D → DEnv → DOut
  | [], env => .nx env
  | d :: ds, env => match tg d env with
    | none => .no
    | some e => match body e with
      | .nx e' => dLoop tg body ds e'
      | .ct e' => dLoop tg body ds e'
      | .bk e' => .nx e'
      | .rt d => .rt d
      | .ex c e => .ex c e
      | .no => .no
@[simp] def sFor (it : DEnv → M (List D)) (tg : DTgt) (body : DStm) : DStm := fun env => (it env).to env fun ds => dLoop tg body ds env
def dWhile (t : DEnv → M Bool) (body : DStm) : Nat → DEnv → DOut
  | 0, _ => .no
  | n + 1, env => match t env with
    | .no => .no
    | .ex c => .ex c env
    | .ok false => .nx env
    | .ok true => match body env with
      | .nx e' => dWhile t body n e'
      | .ct e' => dWhile t body n e'
      | .bk e' => .nx e'
      | .rt d => .rt d
      | .ex c e => .ex c e
      | .no => .no

def PoS (K : KW) (mg : Str → Option Value) (W : WX) (B G0 G : Hp) (E : Ends) : DOut → Prop
  | .nx e => ∀ σ H G', Same G G' → Cn K B G0 G' σ H e → E.nx σ H
  | .rt d => ∀ v σ H G' e, Same G G' → Cn K B G0 G' σ H e → Rep K G' v d → E.rt v H
  | .bk e => ∀ σ H G', Same G G' → Cn K B G0 G' σ H e → E.bk σ H
  | .ct e => ∀ σ H G', Same G G' → Cn K B G0 G' σ H e → E.ct σ H
  | .ex c e => ∀ cls σ H G', mg c = some cls → Cn K B G0 G' σ H e → W cls none σ H
  | .no => False
theorem PoS.up {K : KW} {mg : Str → Option Value} {W : WX} {B G0 G G1 : Hp} {E : Ends} {o : DOut} (s : Same G G1) (h : PoS K mg W B G0 G E o) : PoS K mg W B G0 G1 E o := by
  cases o with
  | nx e => exact fun σ H G' s' => h σ H G' (s.trans s')
  | rt d => exact fun v σ H G' e s' => h v σ H G' e (s.trans s')
  | bk e => exact fun σ H G' s' => h σ H G' (s.trans s')
  | ct e => exact fun σ H G' s' => h σ H G' (s.trans s')
  | ex c e => exact h
  | no => exact h
def RdS (K : KW) (mg : Str → Option Value) (W : WX) (ts : TS) (g : DStm) : Prop :=
  ∀ B G0 G H σ env E, Cn K B G0 G σ H env → PoS K mg W B G0 G E (g env) → ts E σ H
/-- σ' and e' are as σ and e but at the places is -/
def But (is : List Nat) (σ σ' : L2.St) (e e' : DEnv) : Prop := e'.length = e.length ∧ ∀ i, i ∉ is → e'[i]? = e[i]? ∧ σ'[i]? = σ[i]?
def RdG (K : KW) (is : List Nat) (g : TG) (h : DTgt) : Prop :=
  ∀ {B G0 G H : Hp} {σ : L2.St} {env e' : DEnv} {v : V} {d : D} {Q : L2.St → Hp → Prop}, Cn K B G0 G σ H env → Rep K G v d → h d env = some e' → (∀ σ' H' G', Same G G' → Cn K B G0 G' σ' H' e' → But is σ σ' env e' → Q σ' H') → g v σ H Q
def RdGs (K : KW) (is : List Nat) (g : TGs) (h : List D → DEnv → Option DEnv) : Prop :=
  ∀ {B G0 G H : Hp} {σ : L2.St} {env e' : DEnv} {vs : List V} {ds : List D} {Q : L2.St → Hp → Prop}, Cn K B G0 G σ H env → Reps K G vs ds → h ds env = some e' → (∀ σ' H' G', Same G G' → Cn K B G0 G' σ' H' e' → But is σ σ' env e' → Q σ' H') → g vs σ H Q
structure DS (X : Cx) (W : WX) (st : Stmt) (g : DStm) : Prop where
  ex : ∃ ts, PS X st ts ∧ RdS (kw X) X.mg W ts g
structure DSs (X : Cx) (W : WX) (st : List Stmt) (g : DStm) : Prop where
  ex : ∃ ts, PSs X st ts ∧ RdS (kw X) X.mg W ts g
structure DG (X : Cx) (is : List Nat) (tg : Expr) (h : DTgt) : Prop where
  ex : ∃ g, PG X tg g ∧ RdG (kw X) is g h
structure DGs (X : Cx) (is : List Nat) (tg : List Expr) (h : List D → DEnv → Option DEnv) : Prop where
  ex : ∃ g, PGs X tg g ∧ RdGs (kw X) is g h
section
variable {X : Cx} {W : WX} {st : Stmt} {rest : List Stmt} {a b : DStm} {e tg : Expr} {f : DEnv → M D} {pos : Pos}
theorem PoX.s {K : KW} {mg : Str → Option Value} {B G0 G : Hp} {σ : L2.St} {env : DEnv} {E : Ends} {c : Str} (p : PoS K mg W B G0 G E (.ex c env)) : PoX K mg W B G0 σ env c :=
  fun cls H' G' hm c' => p cls σ H' G' hm c'
theorem dss_nil : DSs X W [] sNext := ⟨_, pss_nil, fun B G0 G H σ env E c p => p σ H G (Same.refl G) c⟩
theorem dss_cons (h1 : DS X W st a) (h2 : DSs X W rest b) : DSs X W (st :: rest) (sSeq a b) := by
  obtain ⟨t, a1, a2⟩ := h1.ex
  obtain ⟨u, b1, b2⟩ := h2.ex
  refine ⟨_, pss_cons a1 b1, fun B G0 G H σ env E c p => ?_⟩
  refine a2 B G0 G H σ env _ c ?_
  simp only [sSeq] at p
  cases o : a env with
  | nx e =>
    rw [o] at p
    intro σ' H' G' s c'
    exact b2 B G0 G' H' σ' e E c' (p.up s)
  | rt d => rw [o] at p; exact p
  | bk e => rw [o] at p; exact p
  | ct e => rw [o] at p; exact p
  | ex n e => rw [o] at p; exact p
  | no => rw [o] at p; exact p
theorem dss_one (h1 : DS X W st a) : DSs X W [st] a := by
  obtain ⟨t, a1, a2⟩ := h1.ex
  refine ⟨_, pss_one a1, a2⟩
theorem ds_if {c : Expr} {t : DEnv → M Bool} {as bs : List Stmt} (hc : DT X W c t) (ha : DSs X W as a) (hb : DSs X W bs b) : DS X W (.If c as bs pos) (sIf t a b) := by
  obtain ⟨_, c1, c2⟩ := hc.ex
  obtain ⟨_, a1, a2⟩ := ha.ex
  obtain ⟨_, b1, b2⟩ := hb.ex
  refine ⟨_, ps_if c1 a1 b1, fun B G0 G H σ env E c p => ?_⟩
  refine c2 B G0 G H σ env _ c ?_
  simp only [sIf] at p
  cases o : t env with
  | no => rw [o] at p; exact p
  | ex n => rw [o] at p; exact PoX.s p
  | ok k =>
    rw [o] at p
    intro H1 G1 s1 c1
    cases k with
    | true => exact iteT (a2 B G0 G1 H1 σ env E c1 (PoS.up s1 p))
    | false => exact iteF (b2 B G0 G1 H1 σ env E c1 (PoS.up s1 p))
theorem ds_ret (h : DE X W e f) : DS X W (.Return (some e) pos) (sRet f) := by
  obtain ⟨_, a1, a2⟩ := h.ex
  refine ⟨_, ps_ret a1, fun B G0 G H σ env E c p => ?_⟩
  refine a2 B G0 G H σ env _ c ?_
  simp only [sRet] at p
  cases o : f env with
  | no => rw [o] at p; exact p
  | ex n => rw [o] at p; exact PoX.s p
  | ok d =>
    rw [o] at p
    exact fun v H1 G1 s1 c1 r1 => p v σ H1 G1 env s1 c1 r1
theorem ds_retN : DS X W (.Return none pos) sRetN := ⟨_, ps_retN, fun B G0 G H σ env E c p => p .non σ H G env (Same.refl G) c .non⟩
theorem ds_expr (h : DE X W e f) (hs : swapsWith e none pos.line X.env = pure false := by rfl) : DS X W (.Expr e pos) (sExpr f) := by
  obtain ⟨_, a1, a2⟩ := h.ex
  refine ⟨_, ps_expr a1 hs, fun B G0 G H σ env E c p => ?_⟩
  refine a2 B G0 G H σ env _ c ?_
  simp only [sExpr] at p
  cases o : f env with
  | no => rw [o] at p; exact p
  | ex n => rw [o] at p; exact PoX.s p
  | ok d =>
    rw [o] at p
    exact fun v H1 G1 s1 c1 r1 => p σ H1 G1 s1 c1
theorem ds_cont : DS X W (.Continue pos) sCont := ⟨_, ps_continue, fun B G0 G H σ env E c p => p σ H G (Same.refl G) c⟩
theorem ds_break : DS X W (.Break pos) sBreak := ⟨_, ps_break, fun B G0 G H σ env E c p => p σ H G (Same.refl G) c⟩
theorem ds_pass : DS X W (.Pass pos) sNext := ⟨_, ps_pass, fun B G0 G H σ env E c p => p σ H G (Same.refl G) c⟩
/-- x = e -/
theorem ds_set (i : Nat) {x : Str} {pos' : Pos} (hN : X.N.Nodup) (h : DE X W e f) (hi : X.N[i]? = some x := by rfl) (hx : Loc X.env.scope x := by first | exact .inl rfl | exact .inr rfl) (hs : swapsWith e (some (.Name x pos')) pos.line X.env = pure false := by rfl) (hf : X.fn x = true ∨ X.env.scope.names.lookup x = some .local := by first | exact .inl rfl | exact .inr rfl) :
    DS X W (.Assign [.Name x pos'] e pos) (sSet i f) := by
  obtain ⟨_, a1, a2⟩ := h.ex
  refine ⟨_, ps_set (i := i) hN hi hx a1 hs hf, fun B G0 G H σ env E c p => ?_⟩
  refine a2 B G0 G H σ env _ c ?_
  simp only [sSet] at p
  cases o : f env with
  | no => rw [o] at p; exact p
  | ex n => rw [o] at p; exact PoX.s p
  | ok d =>
    rw [o] at p
    exact fun v H1 G1 s1 c1 r1 => p _ H1 G1 s1 (c1.set i r1)
theorem dg_name (i : Nat) {x : Str} {pos : Pos} (hN : X.N.Nodup) (hi : X.N[i]? = some x := by rfl) (hx : Loc X.env.scope x := by first | exact .inl rfl | exact .inr rfl) (hf : X.fn x = true ∨ X.env.scope.names.lookup x = some .local := by first | exact .inl rfl | exact .inr rfl) : DG X [i] (.Name x pos) (gN i) := by
  refine ⟨_, pg_name (i := i) hN hi hx hf, ?_⟩
  intro B G0 G H σ env e' v d Q c r h q
  simp only [gN, Option.some.injEq] at h
  subst h
  exact q _ H G (Same.refl G) (c.set i r) ⟨by simp, fun j hj => by
    have ne : i ≠ j := fun z => hj (by simp [z])
    rw [List.getElem?_set_ne ne, List.getElem?_set_ne ne]
    exact ⟨rfl, rfl⟩⟩
theorem dgs_nil : DGs X [] [] gsNil := by
  refine ⟨_, pgs_nil, ?_⟩
  intro B G0 G H σ env e' vs ds Q c r h q
  cases r with
  | nil =>
    simp only [gsNil, Option.some.injEq] at h
    subst h
    exact ⟨rfl, q σ H G (Same.refl G) c ⟨rfl, fun _ _ => ⟨rfl, rfl⟩⟩⟩
  | cons _ _ => simp [gsNil] at h
theorem dgs_cons {t : DTgt} {u : List D → DEnv → Option DEnv} {ts : List Expr} {is js : List Nat} (h1 : DG X is tg t) (h2 : DGs X js ts u) (ha : (assignEach (tg :: ts) X.env).map (fun x => x.2) = assign tg X.env :: (assignEach ts X.env).map (fun x => x.2) := by rfl) : DGs X (is ++ js) (tg :: ts) (gsCons t u) := by
  obtain ⟨g, a1, a2⟩ := h1.ex
  obtain ⟨gs, b1, b2⟩ := h2.ex
  refine ⟨_, pgs_cons a1 b1 ha, ?_⟩
  intro B G0 G H σ env e' vs ds Q c r h q
  cases r with
  | nil => simp [gsCons] at h
  | @cons v vs d ds r1 r2 =>
    simp only [gsCons] at h
    cases k : t d env with
    | none => rw [k] at h; cases h
    | some e1 =>
      rw [k] at h
      exact ⟨v, vs, rfl, a2 c r1 k fun σ1 H1 G1 s1 c1 u1 => b2 c1 (r2.up s1) h fun σ2 H2 G2 s2 c2 u2 => q σ2 H2 G2 (s1.trans s2) c2 ⟨u2.1.trans u1.1, fun i hi => by
        have h1 : i ∉ is := fun z => hi (List.mem_append_left _ z)
        have h2 : i ∉ js := fun z => hi (List.mem_append_right _ z)
        exact ⟨(u2.2 i h2).1.trans (u1.2 i h1).1, (u2.2 i h2).2.trans (u1.2 i h1).2⟩⟩⟩
theorem gsNil_len : ∀ {ds : List D} {env e' : DEnv}, gsNil ds env = some e' → ds.length = 0
  | [], _, _, _ => rfl
theorem dg_tup {es : List Expr} {k : Nat} {u : List D → DEnv → Option DEnv} {n : Nat} {is : List Nat} (hc : X.calm = true) (h : DGs X is es u) (hl : ∀ ds env e', u ds env = some e' → ds.length = n)
    (hn : (assignEach es X.env).length = n := by rfl) (hst : (assignEach es X.env).findIdx? (·.1) = none := by rfl) : DG X is (.Tuple es k pos) (gT u) := by
  obtain ⟨gs, b1, b2⟩ := h.ex
  refine ⟨_, pg_tup hc b1 hn hst, ?_⟩
  intro B G0 G H σ env e' v d Q c r h q
  cases d with
  | tup ds =>
    simp only [gT] at h
    cases r with
    | tup g1 g2 => exact ⟨_, _, rfl, .inl (.inl (c.exG _ _ g1)), by rw [g2.length]; exact hl _ _ _ h, b2 c g2 h q⟩
  | non => simp [gT] at h
  | bl _ => simp [gT] at h
  | int _ => simp [gT] at h
  | str _ => simp [gT] at h
  | lst _ => simp [gT] at h
  | scr _ => simp [gT] at h
theorem ds_asg {t : DTgt} {is : List Nat} (ht : DG X is tg t) (h : DE X W e f) (hs : swapsWithSole [tg] e pos.line X.env = pure false := by rfl) (hw : swappedStores [tg] e X.env = pure none := by rfl)
    (h1 : (assignEach [tg] X.env).map (·.2) = [assign tg X.env] := by rfl) : DS X W (.Assign [tg] e pos) (sAsg t f) := by
  obtain ⟨_, a1, a2⟩ := h.ex
  obtain ⟨g, b1, b2⟩ := ht.ex
  refine ⟨_, ps_asg a1 b1 hs hw h1, fun B G0 G H σ env E c p => ?_⟩
  refine a2 B G0 G H σ env _ c ?_
  simp only [sAsg] at p
  cases o : f env with
  | no => rw [o] at p; exact p
  | ex n => rw [o] at p; exact PoX.s p
  | ok d =>
    rw [o] at p
    intro v H1 G1 s1 c1 r1
    cases k : t d env with
    | none => simp [k, PoS] at p
    | some e1 =>
      simp only [k, M.to, ofEnv] at p
      exact b2 c1 r1 k fun σ2 H2 G2 s2 c2 _ => p σ2 H2 G2 (s1.trans s2) c2
end

/-! ### what a loop walks -/
def JOk (K : KW) (J : It) (G1 : Hp) (ds : List D) : Prop :=
  ∀ (B G0 G : Hp) (σ : L2.St) (H : Hp) (env : DEnv) (i : Nat), Same G1 G → Cn K B G0 G σ H env →
    (∀ d, ds[i]? = some d → J.go i H ∧ ∀ x H', J.yld i H x H' → ∃ G', Same G G' ∧ Cn K B G0 G' σ H' env ∧ Rep K G' x d) ∧ (ds.length ≤ i → J.stop i H)
def PoI (K : KW) (mg : Str → Option Value) (W : WX) (B G0 G : Hp) (σ : L2.St) (env : DEnv) (R : It → Hp → Prop) : M (List D) → Prop
  | .ok ds => ∀ J H1 G1, Same G G1 → Cn K B G0 G1 σ H1 env → JOk K J G1 ds → R J H1
  | .ex c => PoX K mg W B G0 σ env c
  | .no => False
def RdI (K : KW) (mg : Str → Option Value) (W : WX) (wi : TI) (f : DEnv → M (List D)) : Prop :=
  ∀ B G0 G H σ env R, Cn K B G0 G σ H env → PoI K mg W B G0 G σ env R (f env) → wi σ H R
structure DI (X : Cx) (W : WX) (tg it : Expr) (f : DEnv → M (List D)) : Prop where
  ex : ∃ wi, PI X tg it wi ∧ RdI (kw X) X.mg W wi f
section
variable {X : Cx} {W : WX} {st : Stmt} {a b : DStm} {e tg iter : Expr} {f : DEnv → M D} {pos : Pos} {body : List Stmt}
theorem ds_for {it : DEnv → M (List D)} {t : DTgt} {is : List Nat} (hp : PassesOwn (model X.prog X.w) X.A X.env X.xe) (hc : X.calm = true) (hi : DI X W tg iter it) (hg : DG X is tg t) (hb : DSs X W body a)
    (hs : ∀ x, foldedSetIterable iter X.env x = pure x := by intro _; rfl) : DS X W (.For tg iter body [] pos) (sFor it t a) := by
  obtain ⟨wi, i1, i2⟩ := hi.ex
  obtain ⟨g, g1, g2⟩ := hg.ex
  obtain ⟨tb, b1, b2⟩ := hb.ex
  refine ⟨_, ps_for hp hc i1 g1 b1 hs, fun B G0 G H σ env E c p => ?_⟩
  refine i2 B G0 G H σ env _ c ?_
  simp only [sFor] at p
  cases o : it env with
  | no => rw [o] at p; exact p
  | ex n => rw [o] at p; exact PoX.s p
  | ok ds =>
    rw [o] at p
    intro J H1 G1 s1 c1 jok
    have p : PoS (kw X) X.mg W B G0 G1 E (dLoop t a ds env) := PoS.up s1 p
    refine ⟨fun i m σ H => m = ds.length - i ∧ ∃ env G, Same G1 G ∧ Cn (kw X) B G0 G σ H env ∧ PoS (kw X) X.mg W B G0 G E (dLoop t a (ds.drop i) env), ⟨ds.length, rfl, env, G1, Same.refl _, c1, by rw [List.drop_zero]; exact p⟩, ?_⟩
    rintro i m σ2 H2 ⟨rfl, env2, G2, s2, c2, p2⟩
    obtain ⟨j1, j2⟩ := jok B G0 G2 σ2 H2 env2 i s2 c2
    by_cases hi : i < ds.length
    · have hd : ds[i]? = some ds[i] := List.getElem?_eq_getElem hi
      obtain ⟨go, yl⟩ := j1 _ hd
      rw [List.drop_eq_getElem_cons hi] at p2
      unfold dLoop at p2
      refine .inr ⟨go, fun σ' H' => ∃ env G, Same G1 G ∧ Cn (kw X) B G0 G σ' H' env ∧ PoS (kw X) X.mg W B G0 G E (dLoop t a (ds.drop (i + 1)) env), fun σ' H' ⟨env', G', x1, x2, x3⟩ => ⟨ds.length - (i + 1), by omega, rfl, env', G', x1, x2, x3⟩, fun x H' y => ?_⟩
      obtain ⟨G3, s3, c3, r3⟩ := yl x H' y
      cases k : t ds[i] env2 with
      | none => simp [k, PoS] at p2
      | some e1 =>
        rw [k] at p2
        refine g2 c3 r3 k fun σ4 H4 G4 s4 c4 _ => ?_
        refine b2 B G0 G4 H4 σ4 e1 _ c4 ?_
        have p2 : PoS (kw X) X.mg W B G0 G4 E (match a e1 with
          | .nx e' => dLoop t a (ds.drop (i + 1)) e'
          | .ct e' => dLoop t a (ds.drop (i + 1)) e'
          | .bk e' => .nx e'
          | .rt d => .rt d
          | .ex c e => .ex c e
          | .no => .no) := PoS.up (s3.trans s4) p2
        cases q : a e1 with
        | nx e' =>
          rw [q] at p2
          exact fun σ5 H5 G5 s5 c5 => ⟨e', G5, ((s2.trans s3).trans s4).trans s5, c5, PoS.up s5 p2⟩
        | ct e' =>
          rw [q] at p2
          exact fun σ5 H5 G5 s5 c5 => ⟨e', G5, ((s2.trans s3).trans s4).trans s5, c5, PoS.up s5 p2⟩
        | bk e' => rw [q] at p2; exact p2
        | rt d => rw [q] at p2; exact p2
        | ex n e => rw [q] at p2; exact p2
        | no => rw [q] at p2; exact p2
    · refine .inl ⟨j2 (by omega), ?_⟩
      rw [List.drop_of_length_le (by omega)] at p2
      exact p2 σ2 H2 G2 (Same.refl _) c2
theorem ds_while (n : Nat) {c : Expr} {t : DEnv → M Bool} (hp : PassesOwn (model X.prog X.w) X.A X.env X.xe) (hc : DT X W c t) (hb : DSs X W body a) : DS X W (.While c body [] pos) (dWhile t a n) := by
  obtain ⟨tc, c1, c2⟩ := hc.ex
  obtain ⟨tb, b1, b2⟩ := hb.ex
  refine ⟨_, ps_while hp c1 b1, fun B G0 G H σ env E c p => ?_⟩
  refine ⟨fun m σ H => ∃ env G, Cn (kw X) B G0 G σ H env ∧ PoS (kw X) X.mg W B G0 G E (dWhile t a m env), ⟨n, env, G, c, p⟩, ?_⟩
  rintro m σ1 H1 ⟨env1, G1, c1, p1⟩
  cases m with
  | zero => exact (show False from p1).elim
  | succ m =>
    unfold dWhile at p1
    refine c2 B G0 G1 H1 σ1 env1 _ c1 ?_
    cases o : t env1 with
    | no => rw [o] at p1; exact p1
    | ex k => rw [o] at p1; exact PoX.s p1
    | ok k =>
      rw [o] at p1
      intro H2 G2 s2 c2
      cases k with
      | false => exact iteF (p1 σ1 H2 G2 s2 c2)
      | true =>
        refine iteT ⟨fun σ' H' => ∃ env G, Cn (kw X) B G0 G σ' H' env ∧ PoS (kw X) X.mg W B G0 G E (dWhile t a m env), fun σ' H' x => ⟨m, Nat.lt_succ_self m, x⟩, ?_⟩
        refine b2 B G0 G2 H2 σ1 env1 _ c2 ?_
        have p2 : PoS (kw X) X.mg W B G0 G2 E (match a env1 with
          | .nx e' => dWhile t a m e'
          | .ct e' => dWhile t a m e'
          | .bk e' => .nx e'
          | .rt d => .rt d
          | .ex c e => .ex c e
          | .no => .no) := PoS.up s2 p1
        cases q : a env1 with
        | nx e' => rw [q] at p2; exact fun σ5 H5 G5 s5 c5 => ⟨e', G5, c5, PoS.up s5 p2⟩
        | ct e' => rw [q] at p2; exact fun σ5 H5 G5 s5 c5 => ⟨e', G5, c5, PoS.up s5 p2⟩
        | bk e' => rw [q] at p2; exact p2
        | rt d => rw [q] at p2; exact p2
        | ex n e => rw [q] at p2; exact p2
        | no => rw [q] at p2; exact p2
end
end DL

namespace DL
open PySem PySem.Spec PyProof.Rows L2

/-! ### defs -/
def PoF (mg : Str → Option Value) (K : KW) (G H : Hp) (Q : VK) (E : XK) : M D → Prop
  | .ok d => ∀ v H' G', Same G G' → Same G' H' → Same H H' → (∀ a, G' a ≠ none → G a ≠ none ∨ H a = none) → Rep K G' v d → Q v H'
  | .ex c => ∀ cls H', mg c = some cls → Same H H' → E cls none H'
  | .no => False
/-- a def's promise by a function of data: n arguments -/
def spD (K : KW) (mg : Str → Option Value) (n : Nat) (g : List D → M D) : Sp := fun vs H Q E => vs.length = n ∧ ∃ G ds, Same G H ∧ Reps K G vs ds ∧ PoF mg K G H Q E (g ds)
@[simp] def fnRes : DOut → M D
  | .nx _ => .ok .non
  | .rt d => .ok d
  | .ex c _ => .ex c
  | _ => .no
@[simp] def ini (n : Nat) (ds : List D) : DEnv := ds.map .dat ++ List.replicate (n - ds.length) .un
@[simp] def fnD (n : Nat) (g : DStm) (ds : List D) : M D := fnRes (g (ini n ds))
theorem cn_start {K : KW} {G H : Hp} {N : List Str} {vs : List V} {ds : List D} (e : Same G H) (r : Reps K G vs ds) : Cn K H G G (start N vs) H (ini N.length ds) where
  len := by
    simp only [L2.start, ini, List.length_append, List.length_map, List.length_replicate, r.length]
  exB := Same.refl H
  exG := e
  ex0 := Same.refl G
  new := fun a h => .inl h
  cel := fun i s hs => by
    simp only [ini] at hs
    by_cases h : i < ds.length
    · rw [List.getElem?_append_left (by simpa using h), List.getElem?_map, List.getElem?_eq_getElem h] at hs
      simp only [Option.map_some, Option.some.injEq] at hs
      subst hs
      obtain ⟨v, e1, r1⟩ := r.get (List.getElem?_eq_getElem h)
      refine ⟨some v, ?_, v, rfl, r1⟩
      unfold L2.start
      rw [List.getElem?_append_left (by rw [List.length_map, r.length]; exact h), List.getElem?_map, e1]
      rfl
    · rw [List.getElem?_append_right (by simpa using h), List.getElem?_replicate] at hs
      split at hs
      · rename_i h2
        simp only [Option.some.injEq] at hs
        subst hs
        refine ⟨none, ?_, trivial⟩
        unfold L2.start
        have hl := r.length
        rw [List.getElem?_append_right (by rw [List.length_map]; omega), List.getElem?_replicate, List.length_map, if_pos (by simp at h2; omega)]
      · cases hs
  sep := fun i j s t p ne e1 e2 o1 o2 q => by
    simp only [ini] at e1
    by_cases h : i < ds.length
    · rw [List.getElem?_append_left (by simpa using h), List.getElem?_map, List.getElem?_eq_getElem h] at e1
      simp only [Option.map_some, Option.some.injEq] at e1
      subst e1
      exact o1.elim
    · rw [List.getElem?_append_right (by simpa using h), List.getElem?_replicate] at e1
      split at e1
      · simp only [Option.some.injEq] at e1
        subst e1
        exact o1.elim
      · cases e1
section
variable (P : Program) (w : World) (K : PySem.W.Frag) (mg : Str → Option Value) (base : Heap)
/-- the def that the module's name x holds does what g tells -/
structure DFn (k : Nat) (x : Str) (n : Nat) (g : List D → M D) : Prop where
  ex : ∃ f fd ps, FnOk P w K mg base (L2.CX P w) k f fd ps (spD ⟨K, w⟩ mg n g) ∧ mg x = some (.ref f) ∧ PySem.W.keepIn K (.ref f) = true ∧ Binds K fd ps []
end
section
variable {P : Program} {w : World} {K : PySem.W.Frag} {mg : Str → Option Value} {base : Heap}
abbrev wOf (E : XK) : WX := fun cls d _ H => E cls d H
theorem fun_okD {x qual : Str} {st : Stmt} {f : Addr} {fd : FuncData} {N ps : List Str} {k n : Nat} {g : DStm} (F : Fun K x qual st f fd) (S : FnScope N ps (defScope st)) (hn : ps.length = n)
    (hbody : ∀ (cdv : Value) (A : Around) (outer : List Env) (s : Shared) (H : Hp) (E : XK), Room k (A.deeper (envOfC qual (defScope st) s.heap.objs.size f cdv)) →
      Takes (cxOf (L2.CX P w) P w K mg base N qual (defScope st) f cdv A outer s H E) (wOf E) →
      PassesOwn (model P w) (cxOf (L2.CX P w) P w K mg base N qual (defScope st) f cdv A outer s H E).A (cxOf (L2.CX P w) P w K mg base N qual (defScope st) f cdv A outer s H E).env (cxOf (L2.CX P w) P w K mg base N qual (defScope st) f cdv A outer s H E).xe →
      DSs (cxOf (L2.CX P w) P w K mg base N qual (defScope st) f cdv A outer s H E) (wOf E) (defBody st) g) :
    FnOk P w K mg base (L2.CX P w) (k + 1) f fd ps (spD ⟨K, w⟩ mg n (fnD N.length g)) := by
  refine F.okX S (fun vs H Q E h => h.1.trans hn.symm) (fun cdv A outer s H vs Q E hr h => ?_)
  obtain ⟨hl, G, ds, sG, r, p⟩ := h
  obtain ⟨ts, h1, h2⟩ := (hbody cdv A outer s H E hr (takes_of rfl rfl rfl rfl) (passes_of rfl)).ex
  refine ⟨ts, h1, h2 H G G H _ _ _ (cn_start sG r) ?_⟩
  simp only [fnD] at p
  cases o : g (ini N.length ds) with
  | nx e =>
    rw [o] at p
    intro σ' H' G' s' c'
    exact p .non H' G' s' c'.exG c'.exB (fun a h => c'.new a h) .non
  | rt d =>
    rw [o] at p
    intro v σ' H' G' e' s' c' r'
    exact p v H' G' s' c'.exG c'.exB (fun a h => c'.new a h) r'
  | ex c e =>
    rw [o] at p
    intro cls σ' H' G' hm c'
    exact p cls H' hm c'.exB
  | bk e => rw [o] at p; exact p.elim
  | ct e => rw [o] at p; exact p.elim
  | no => rw [o] at p; exact p.elim
theorem DFn.mk' {x qual : Str} {st : Stmt} {f : Addr} {fd : FuncData} {N ps : List Str} {k n : Nat} {g : DStm} (F : Fun K x qual st f fd) (S : FnScope N ps (defScope st)) (hn : ps.length = n) (hx : mg x = some (.ref f))
    (hb : ∀ (kV doc pm : Value) (an : Option Addr) (cdv ct : Value) (us : List Value), us.length = ps.length → bindArgs (PySem.W.fnOf x qual (defArgs st) (defBody st) (defScope st) .none kV doc pm an cdv ct) ⟨us, []⟩ = pure (ps.zip us))
    (hbody : ∀ (cdv : Value) (A : Around) (outer : List Env) (s : Shared) (H : Hp) (E : XK), Room k (A.deeper (envOfC qual (defScope st) s.heap.objs.size f cdv)) →
      Takes (cxOf (L2.CX P w) P w K mg base N qual (defScope st) f cdv A outer s H E) (wOf E) →
      PassesOwn (model P w) (cxOf (L2.CX P w) P w K mg base N qual (defScope st) f cdv A outer s H E).A (cxOf (L2.CX P w) P w K mg base N qual (defScope st) f cdv A outer s H E).env (cxOf (L2.CX P w) P w K mg base N qual (defScope st) f cdv A outer s H E).xe →
      DSs (cxOf (L2.CX P w) P w K mg base N qual (defScope st) f cdv A outer s H E) (wOf E) (defBody st) g) :
    DFn P w K mg base (k + 1) x n (fnD N.length g) :=
  ⟨f, fd, ps, fun_okD F S hn hbody, hx, F.kp, F.binds hb⟩
theorem DFn.eq {k n : Nat} {x : Str} {g g' : List D → M D} (h : DFn P w K mg base k x n g) (e : ∀ ds, g ds = g' ds) : DFn P w K mg base k x n g' := by
  have : g = g' := funext e
  subst this
  exact h
end
@[simp] def xCall (n : Nat) (g : List D → M D) (ga : DEnv → M (List D)) (env : DEnv) : M D := (ga env).bind fun ds => if ds.length = n then g ds else .no
section
variable {X : Cx} {W : WX} {e : Expr} {es : List Expr} {pos p : Pos}
theorem de_call {k j n : Nat} {x : Str} {g : List D → M D} {ga : DEnv → M (List D)} (F : DFn X.prog X.w X.K X.mg X.base k x n g) (hr : Room j X.A) (hj : k ≤ j) (tk : Takes X W) (ha : DA X W (e :: es) ga)
    (hg : Gl X x := by rfl) (hdb : (x == ("__debug__" : Str)) = false := by decide) (he : starEach (e :: es) X.env = (false, eval e X.env) :: starEach es X.env := by rfl) (hpl : (backTo pos (starEach es X.env)).any (·.1) = false := by rfl) :
    DE X W (.Call (.Name x p) (e :: es) [] pos) (xCall n g ga) := by
  obtain ⟨f, fd, ps, F1, F2, F3, F4⟩ := F.ex
  obtain ⟨_, a1, a2⟩ := ha.ex
  refine ⟨_, pe_callS F1 (hr.mono hj) hg F2 F3 F4 (fun σ => passAt tk σ) a1 hdb he hpl, ?_⟩
  intro B G0 G H σ env Q c po
  refine a2 B G0 G H σ env _ c ?_
  simp only [xCall] at po
  cases o : ga env with
  | no => rw [o] at po; exact po
  | ex m => rw [o] at po; exact po
  | ok ds =>
    intro vs H1 G1 s1 c1 r1
    simp only [o, M.bind] at po
    by_cases hl : ds.length = n
    · rw [if_pos hl] at po
      refine ⟨r1.length.trans hl, G1, ds, c1.exG, r1, ?_⟩
      cases q : g ds with
      | ok d =>
        rw [q] at po
        intro v H' G' s2 gh hh nw r
        exact po v H' G' (s1.trans s2) (c1.grow s2 hh gh nw) r
      | ex m =>
        rw [q] at po
        intro cls H' hm hh
        exact po cls H' G1 hm (c1.grow (Same.refl _) hh (c1.exG.trans hh) fun a z => .inl z)
      | no => rw [q] at po; exact po
    · rw [if_neg hl] at po
      exact po.elim
end

/-! ### sources of loops -/
def itemsD : D → M (List D)
  | .lst ds => .ok ds
  | .tup ds => .ok ds
  | .scr ns => .ok (ns.map D.int)
  | .str s => .ok (s.cps.toList.map fun c => D.str ⟨#[c]⟩)
  | _ => .no
@[simp] theorem items_lst (ds : List D) : itemsD (.lst ds) = .ok ds := rfl
@[simp] theorem items_tup (ds : List D) : itemsD (.tup ds) = .ok ds := rfl
@[simp] theorem items_scr (ns : List Int) : itemsD (.scr ns) = .ok (ns.map D.int) := rfl
@[simp] def iAny (f : DEnv → M D) (env : DEnv) : M (List D) := (f env).bind itemsD
theorem inB_ex : ∃ f : Int → Bool, ∀ j, f j = true ↔ (-(2 ^ 62) ≤ j ∧ j < 2 ^ 62) := ⟨fun j => decide (-(2 ^ 62) ≤ j ∧ j < 2 ^ 62), fun j => by simp⟩
/-- a bound that nothing unfolds -/
noncomputable def inB : Int → Bool := Classical.choose inB_ex
theorem inB_iff (j : Int) : inB j = true ↔ (-(2 ^ 62) ≤ j ∧ j < 2 ^ 62) := Classical.choose_spec inB_ex j
theorem inB_small {j : Int} (h0 : -1000000 ≤ j) (h : j ≤ 1000000) : inB j = true := (inB_iff j).mpr ⟨by omega, by omega⟩
noncomputable def rng1D : List D → Option (List D)
  | [.int j] => if inB j = true then some ((List.range j.toNat).map fun (m : Nat) => D.int (m : Int)) else none
  | _ => none
noncomputable def rng2D : List D → Option (List D)
  | [.int i, .int j] => if inB i = true ∧ inB j = true then some ((List.range (j - i).toNat).map fun (m : Nat) => D.int (i + (m : Int))) else none
  | _ => none
theorem rng1D_inv {ds its : List D} (h : rng1D ds = some its) : ∃ j, ds = [.int j] ∧ -(2 ^ 62) ≤ j ∧ j < 2 ^ 62 ∧ its = (List.range j.toNat).map fun (m : Nat) => D.int (m : Int) := by
  unfold rng1D at h
  split at h
  · split at h
    · rename_i h1
      obtain ⟨h1, h2⟩ := (inB_iff _).mp h1
      exact ⟨_, rfl, h1, h2, (Option.some.inj h).symm⟩
    · cases h
  · cases h
theorem rng2D_inv {ds its : List D} (h : rng2D ds = some its) : ∃ i j, ds = [.int i, .int j] ∧ (-(2 ^ 62) ≤ i ∧ i < 2 ^ 62 ∧ -(2 ^ 62) ≤ j ∧ j < 2 ^ 62) ∧ its = (List.range (j - i).toNat).map fun (m : Nat) => D.int (i + (m : Int)) := by
  unfold rng2D at h
  split at h
  · split at h
    · rename_i h1
      obtain ⟨h2, h3⟩ := (inB_iff _).mp h1.1
      obtain ⟨h4, h5⟩ := (inB_iff _).mp h1.2
      exact ⟨_, _, rfl, ⟨h2, h3, h4, h5⟩, (Option.some.inj h).symm⟩
    · cases h
  · cases h
@[simp] def iRng (r : List D → Option (List D)) (g : DEnv → M (List D)) (env : DEnv) : M (List D) := (g env).bind fun ds => .of (r ds)
section
variable {K : KW} {G1 : Hp}
theorem jok_list {a : Addr} {vs : List V} {ds : List D} (ga : SqL K.k G1 a vs) (r : Reps K G1 vs ds) : JOk K (Itl K.k a) G1 ds := by
  intro B G0 G σ H env i s c
  have hs : SqL K.k H a vs := (s.trans c.exG).seq ga
  refine ⟨fun d hd => ?_, fun hi => ⟨vs, hs, by rw [r.length]; exact hi⟩⟩
  obtain ⟨v, hv, rv⟩ := r.get hd
  refine ⟨⟨vs, v, hs, hv⟩, fun x H' y => ?_⟩
  obtain ⟨rfl, y⟩ := y
  have : v = x := Option.some.inj (hv.symm.trans (y vs hs))
  subst this
  exact ⟨G, Same.refl G, c, rv.up s⟩
theorem jok_tup {a : Addr} {vs : List V} {ds : List D} (ga : G1 a = some (.tup vs)) (r : Reps K G1 vs ds) : JOk K (Itt K.k a) G1 ds := by
  intro B G0 G σ H env i s c
  have hs : SqT K.k H a vs := .inl (.inl ((s.trans c.exG) _ _ ga))
  refine ⟨fun d hd => ?_, fun hi => ⟨vs, hs, by rw [r.length]; exact hi⟩⟩
  obtain ⟨v, hv, rv⟩ := r.get hd
  refine ⟨⟨vs, v, hs, hv⟩, fun x H' y => ?_⟩
  obtain ⟨rfl, y⟩ := y
  have : v = x := Option.some.inj (hv.symm.trans (y vs hs))
  subst this
  exact ⟨G, Same.refl G, c, rv.up s⟩
theorem jok_str {s : Str} : JOk K (Its s) G1 (s.cps.toList.map fun c => D.str ⟨#[c]⟩) := by
  intro B G0 G σ H env i _ c
  refine ⟨fun d hd => ?_, fun hi => by
    show s.cps.size ≤ i
    simpa using hi⟩
  have hi : i < s.cps.size := by
    have := (List.getElem?_eq_some_iff.mp hd).1
    simpa using this
  refine ⟨hi, fun x H' y => ?_⟩
  obtain ⟨rfl, k, hk, rfl⟩ := y
  refine ⟨G, Same.refl G, c, ?_⟩
  rw [List.getElem?_map, Array.getElem?_toList, hk] at hd
  simp only [Option.map_some, Option.some.injEq] at hd
  subst hd
  exact .str _
theorem jok_rng {lo : Int} {n : Nat} : JOk K (Itr lo n) G1 ((List.range n).map fun (m : Nat) => D.int (lo + (m : Int))) := by
  intro B G0 G σ H env i _ c
  refine ⟨fun d hd => ?_, fun hi => by
    show n ≤ i
    simpa using hi⟩
  have hi : i < n := by
    have := (List.getElem?_eq_some_iff.mp hd).1
    simpa using this
  refine ⟨hi, fun x H' y => ?_⟩
  obtain ⟨rfl, rfl⟩ := y
  refine ⟨G, Same.refl G, c, ?_⟩
  rw [List.getElem?_map, List.getElem?_range hi] at hd
  simp only [Option.map_some, Option.some.injEq] at hd
  subst hd
  exact .int _
end
section
variable {X : Cx} {W : WX} {e tg : Expr} {f : DEnv → M D} {pos p : Pos}
theorem pi_or {iter : Expr} {w1 w2 : TI} (h1 : PI X tg iter w1) (h2 : PI X tg iter w2) : PI X tg iter (fun σ H R => w1 σ H R ∨ w2 σ H R) :=
  ⟨fun pins s σ H R I h => h.elim (h1.run pins s σ H R I) (h2.run pins s σ H R I)⟩
/-- over a list, a tuple, a text -/
theorem di_any (h : DE X W e f) : DI X W tg e (iAny f) := by
  obtain ⟨te, a1, a2⟩ := h.ex
  refine ⟨_, pi_or (pi_list a1) (pi_or (pi_tup a1) (pi_str a1)), ?_⟩
  intro B G0 G H σ env R c po
  simp only [iAny] at po
  cases o : f env with
  | no => rw [o] at po; exact po.elim
  | ex m =>
    rw [o] at po
    exact .inl (a2 B G0 G H σ env _ c (by rw [o]; exact po))
  | ok d =>
    cases d with
    | lst ds =>
      rw [o] at po
      refine .inl (a2 B G0 G H σ env _ c ?_)
      rw [o]
      intro v H1 G1 s1 c1 r1
      cases r1 with
      | lst g1 g2 => exact ⟨_, rfl, ⟨_, .inl (.inl (c1.exG _ _ g1))⟩, po _ H1 G1 s1 c1 (jok_list (.inl (.inl g1)) g2)⟩
    | scr ns =>
      rw [o] at po
      refine .inl (a2 B G0 G H σ env _ c ?_)
      rw [o]
      intro v H1 G1 s1 c1 r1
      cases r1 with
      | scr g1 => exact ⟨_, rfl, ⟨_, c1.exG.seq g1⟩, po _ H1 G1 s1 c1 (jok_list g1 (Reps.ints ns))⟩
    | tup ds =>
      rw [o] at po
      refine .inr (.inl (a2 B G0 G H σ env _ c ?_))
      rw [o]
      intro v H1 G1 s1 c1 r1
      cases r1 with
      | tup g1 g2 => exact ⟨_, rfl, ⟨_, .inl (.inl (c1.exG _ _ g1))⟩, po _ H1 G1 s1 c1 (jok_tup g1 g2)⟩
    | str s =>
      rw [o] at po
      refine .inr (.inr (a2 B G0 G H σ env _ c ?_))
      rw [o]
      intro v H1 G1 s1 c1 r1
      cases r1
      exact ⟨s, rfl, po _ H1 G1 s1 c1 jok_str⟩
    | non => rw [o] at po; exact po.elim
    | bl _ => rw [o] at po; exact po.elim
    | int _ => rw [o] at po; exact po.elim
theorem di_rng1 {g : DEnv → M (List D)} (hm : X.mg "range" = none) (ha : DA X W [e] g) (hg : Gl X "range" := by rfl) (hs : starEach [e] X.env = [(false, eval e X.env)] := by rfl) : DI X W tg (.Call (.Name "range" p) [e] [] pos) (iRng rng1D g) := by
  obtain ⟨ta, a1, a2⟩ := ha.ex
  refine ⟨_, pi_range1 hg hm a1 hs, ?_⟩
  intro B G0 G H σ env R c po
  simp only [iRng] at po
  refine a2 B G0 G H σ env _ c ?_
  cases o : g env with
  | no => rw [o] at po; exact po
  | ex m => rw [o] at po; exact po
  | ok ds =>
    rw [o] at po
    intro vs H1 G1 s1 c1 r1
    simp only [M.bind] at po
    cases q : rng1D ds with
    | none => rw [q] at po; exact po.elim
    | some its =>
      rw [q] at po
      obtain ⟨j, rfl, h1, h2, rfl⟩ := rng1D_inv q
      cases r1 with
      | cons x y =>
        cases y
        cases x
        refine ⟨j, rfl, h1, h2, po (Itr 0 j.toNat) H1 G1 s1 c1 ?_⟩
        have z := jok_rng (K := kw X) (G1 := G1) (lo := 0) (n := j.toNat)
        simpa using z
theorem di_rng2 {a b : Expr} {g : DEnv → M (List D)} (hm : X.mg "range" = none) (ha : DA X W [a, b] g) (hg : Gl X "range" := by rfl) (hs : starEach [a, b] X.env = [(false, eval a X.env), (false, eval b X.env)] := by rfl)
    (hs2 : starEach [b] X.env = [(false, eval b X.env)] := by rfl) : DI X W tg (.Call (.Name "range" p) [a, b] [] pos) (iRng rng2D g) := by
  obtain ⟨ta, a1, a2⟩ := ha.ex
  refine ⟨_, pi_range2 hg hm a1 hs hs2, ?_⟩
  intro B G0 G H σ env R c po
  simp only [iRng] at po
  refine a2 B G0 G H σ env _ c ?_
  cases o : g env with
  | no => rw [o] at po; exact po
  | ex m => rw [o] at po; exact po
  | ok ds =>
    rw [o] at po
    intro vs H1 G1 s1 c1 r1
    simp only [M.bind] at po
    cases q : rng2D ds with
    | none => rw [q] at po; exact po.elim
    | some its =>
      rw [q] at po
      obtain ⟨i, j, rfl, h1, rfl⟩ := rng2D_inv q
      cases r1 with
      | cons x y =>
        cases y with
        | cons y z =>
          cases z
          cases x
          cases y
          exact ⟨i, j, rfl, h1, po (Itr i (j - i).toNat) H1 G1 s1 c1 jok_rng⟩
end

/-! ### own lists -/
section
variable {K : KW} {B G0 G G' H H' : Hp} {σ : L2.St} {env : DEnv}
/-- the own list (or dict) of slot i is replaced by another content -/
theorem Cn.updO (c : Cn K B G0 G σ H env) {i : Nat} {p : Addr} {s t : Cel} {o : HO} (hi : env[i]? = some s) (hs : s.owned) (hp : σ[i]? = some (some (.ref p))) (ht : CelAt K B G (L2.upd H p o) t (some (.ref p))) (ho : t.owned) :
    Cn K B G0 G σ (L2.upd H p o) (env.set i t) where
  len := by simp [c.len]
  exB := fun a x e => by
    obtain ⟨q, e1, h⟩ := c.cel i s hi
    rw [hp] at e1
    cases e1
    cases s with
    | own xs => obtain ⟨p', vs, e2, gp, bp, _⟩ := h; cases e2; rw [upd_ne (ne_of_none e bp)]; exact c.exB _ _ e
    | dic xs => obtain ⟨p', vs, e2, gp, bp, _⟩ := h; cases e2; rw [upd_ne (ne_of_none e bp)]; exact c.exB _ _ e
    | un => exact hs.elim
    | dat d => exact hs.elim
  exG := fun a x e => by
    obtain ⟨q, e1, h⟩ := c.cel i s hi
    rw [hp] at e1
    cases e1
    cases s with
    | own xs => obtain ⟨p', vs, e2, gp, bp, _⟩ := h; cases e2; rw [upd_ne (ne_of_none e gp)]; exact c.exG _ _ e
    | dic xs => obtain ⟨p', vs, e2, gp, bp, _⟩ := h; cases e2; rw [upd_ne (ne_of_none e gp)]; exact c.exG _ _ e
    | un => exact hs.elim
    | dat d => exact hs.elim
  ex0 := c.ex0
  new := c.new
  cel := fun j u e => by
    by_cases h : i = j
    · subst h
      have hl := (List.getElem?_eq_some_iff.mp hi).1
      rw [List.getElem?_set_self hl] at e
      cases e
      exact ⟨_, hp, ht⟩
    · rw [List.getElem?_set_ne h] at e
      obtain ⟨q, e1, h1⟩ := c.cel j u e
      refine ⟨q, e1, ?_⟩
      have ne : u.owned → q ≠ some (.ref p) := fun hu z => by
        rw [z] at e1
        exact c.sep i j s u p h hi e hs hu hp e1
      cases u with
      | un => trivial
      | dat d => exact h1
      | own xs =>
        obtain ⟨p', vs, e2, gp, bp, hp', r⟩ := h1
        have np : p' ≠ p := fun z => ne trivial (by rw [e2, z])
        exact ⟨p', vs, e2, gp, bp, by rw [upd_ne np]; exact hp', r⟩
      | dic xs =>
        obtain ⟨p', vs, e2, gp, bp, hp', r⟩ := h1
        have np : p' ≠ p := fun z => ne trivial (by rw [e2, z])
        exact ⟨p', vs, e2, gp, bp, by rw [upd_ne np]; exact hp', r⟩
  sep := fun j k u v q ne e1 e2 o1 o2 h1 => by
    have back : ∀ {j : Nat} {u : Cel}, (env.set i t)[j]? = some u → u.owned → ∃ u', env[j]? = some u' ∧ u'.owned := fun {j u} e o => by
      by_cases h : i = j
      · subst h; exact ⟨s, hi, hs⟩
      · rw [List.getElem?_set_ne h] at e; exact ⟨u, e, o⟩
    obtain ⟨u', a1, a2⟩ := back e1 o1
    obtain ⟨v', b1, b2⟩ := back e2 o2
    exact c.sep j k u' v' q ne a1 b1 a2 b2 h1
/-- a slot is given a new own list -/
theorem Cn.setOwn (c : Cn K B G0 G σ H env) (i : Nat) {p : Addr} {o : HO} {t : Cel} (hp : H p = none) (ht : CelAt K B G (L2.upd H p o) t (some (.ref p))) : Cn K B G0 G (σ.set i (some (.ref p))) (L2.upd H p o) (env.set i t) where
  len := by simp [c.len]
  exB := c.exB.trans (same_upd hp)
  exG := c.exG.trans (same_upd hp)
  ex0 := c.ex0
  new := c.new
  cel := fun j s e => by
    by_cases h : i = j
    · subst h
      have hi : i < env.length := by
        have := (List.getElem?_eq_some_iff.mp e).1
        simpa using this
      rw [List.getElem?_set_self hi] at e
      cases e
      refine ⟨some (.ref p), ?_, ht⟩
      rw [List.getElem?_set_self (by rw [c.len]; exact hi)]
    · rw [List.getElem?_set_ne h] at e
      obtain ⟨q, e1, h1⟩ := c.cel j s e
      refine ⟨q, by rw [List.getElem?_set_ne h]; exact e1, ?_⟩
      cases s with
      | un => trivial
      | dat d => exact h1
      | own xs => obtain ⟨p', vs, e2, gp, bp, hp', r⟩ := h1; exact ⟨p', vs, e2, gp, bp, same_upd hp _ _ hp', r⟩
      | dic xs => obtain ⟨p', vs, e2, gp, bp, hp', r⟩ := h1; exact ⟨p', vs, e2, gp, bp, same_upd hp _ _ hp', r⟩
  sep := fun j k s u q ne e1 e2 o1 o2 h1 h2 => by
    have other : ∀ {k : Nat} {u : Cel}, i ≠ k → (env.set i t)[k]? = some u → u.owned → (σ.set i (some (.ref p)))[k]? ≠ some (some (.ref p)) := fun {k u} h e o z => by
      rw [List.getElem?_set_ne h] at e z
      obtain ⟨q, e1, h1⟩ := c.cel k u e
      rw [z] at e1
      cases e1
      cases u with
      | un => exact o
      | dat d => exact o
      | own xs => obtain ⟨p', vs, e2, gp, bp, hp', r⟩ := h1; cases e2; rw [hp] at hp'; cases hp'
      | dic xs => obtain ⟨p', vs, e2, gp, bp, hp', r⟩ := h1; cases e2; rw [hp] at hp'; cases hp'
    by_cases hj : i = j
    · subst hj
      have hi : i < σ.length := by
        have := (List.getElem?_eq_some_iff.mp h1).1
        simpa using this
      rw [List.getElem?_set_self hi] at h1
      cases h1
      exact other ne e2 o2 h2
    · by_cases hk : i = k
      · subst hk
        have hi : i < σ.length := by
          have := (List.getElem?_eq_some_iff.mp h2).1
          simpa using this
        rw [List.getElem?_set_self hi] at h2
        cases h2
        exact other hj e1 o1 h1
      · rw [List.getElem?_set_ne hj] at e1 h1
        rw [List.getElem?_set_ne hk] at e2 h2
        exact c.sep j k s u q ne e1 e2 o1 o2 h1 h2
/-- an own list stands still from now on -/
theorem Cn.freeze (c : Cn K B G0 G σ H env) {i : Nat} {xs : List D} (hi : env[i]? = some (.own xs)) : ∃ G', Same G G' ∧ Cn K B G0 G' σ H (env.set i (.dat (.lst xs))) := by
  obtain ⟨o, e1, p, vs, e2, gp, bp, hp, r⟩ := c.cel i _ hi
  subst e2
  have hl := (List.getElem?_eq_some_iff.mp hi).1
  refine ⟨L2.upd G p (.lst vs), same_upd gp, ?_⟩
  exact {
    len := by simp [c.len]
    exB := c.exB
    exG := fun a x e => by
      by_cases z : a = p
      · subst z; rw [upd_same] at e; cases e; exact hp
      · rw [upd_ne z] at e; exact c.exG _ _ e
    ex0 := c.ex0.trans (same_upd gp)
    new := fun a h => by
      by_cases z : a = p
      · subst z; exact .inr bp
      · rw [upd_ne z] at h; exact c.new a h
    cel := fun j s e => by
      by_cases h : i = j
      · subst h
        rw [List.getElem?_set_self hl] at e
        cases e
        exact ⟨_, e1, _, rfl, .lst upd_same (r.up (same_upd gp))⟩
      · rw [List.getElem?_set_ne h] at e
        obtain ⟨q, e3, h1⟩ := c.cel j s e
        refine ⟨q, e3, ?_⟩
        have ne : s.owned → q ≠ some (.ref p) := fun hu z => by
          rw [z] at e3
          exact c.sep i j _ s p h hi e trivial hu e1 e3
        cases s with
        | un => trivial
        | dat d => obtain ⟨v, e4, r4⟩ := h1; exact ⟨v, e4, r4.up (same_upd gp)⟩
        | own xs => obtain ⟨p', vs', e4, gp', bp', hp', r'⟩ := h1; exact ⟨p', vs', e4, by rw [upd_ne (fun z => ne trivial (by rw [e4, z]))]; exact gp', bp', hp', r'.up (same_upd gp)⟩
        | dic xs => obtain ⟨p', vs', e4, gp', bp', hp', r'⟩ := h1; exact ⟨p', vs', e4, by rw [upd_ne (fun z => ne trivial (by rw [e4, z]))]; exact gp', bp', hp', L2.Paired.mapP r' fun _ _ z => z.up (same_upd gp)⟩
    sep := fun j k s u q ne f1 f2 o1 o2 h1 => by
      have nj : i ≠ j := fun z => by
        subst z
        rw [List.getElem?_set_self hl] at f1
        cases f1
        exact o1
      have nk : i ≠ k := fun z => by
        subst z
        rw [List.getElem?_set_self hl] at f2
        cases f2
        exact o2
      rw [List.getElem?_set_ne nj] at f1
      rw [List.getElem?_set_ne nk] at f2
      exact c.sep j k s u q ne f1 f2 o1 o2 h1 }
end
@[simp] def frz (i : Nat) (env : DEnv) : DEnv := match env[i]? with
  | some (.own xs) => env.set i (.dat (.lst xs))
  | _ => env
/-- the own list of slot i stands still ahead of the statement -/
@[simp] def sFrz (i : Nat) (g : DStm) : DStm := fun env => g (frz i env)
@[simp] def celO (env : DEnv) (i : Nat) : M (List D) := match env[i]? with
  | some (.own xs) => .ok xs
  | _ => .no
@[simp] def sApp (i : Nat) (f : DEnv → M D) : DStm := fun env => (celO env i).to env fun xs => (f env).to env fun d => if xs.length < sizeLine then .nx (env.set i (.own (xs ++ [d]))) else .no
@[simp] def xLenO (i : Nat) (env : DEnv) : M D := (celO env i).bind fun xs => .ok (.int xs.length)
def ixD (xs : List D) : D → Option D
  | .int i => atI xs i
  | _ => none
@[simp] def xIxO (i : Nat) (f : DEnv → M D) (env : DEnv) : M D := (celO env i).bind fun xs => (f env).bind fun d => .of (ixD xs d)
section
variable {X : Cx} {W : WX} {st : Stmt} {a : DStm} {e : Expr} {f : DEnv → M D} {pos p : Pos}
theorem ds_frz (i : Nat) (h : DS X W st a) : DS X W st (sFrz i a) := by
  obtain ⟨ts, a1, a2⟩ := h.ex
  refine ⟨ts, a1, fun B G0 G H σ env E c po => ?_⟩
  simp only [sFrz, frz] at po
  cases o : env[i]? with
  | none => rw [o] at po; exact a2 B G0 G H σ env E c po
  | some s =>
    rw [o] at po
    cases s with
    | own xs =>
      obtain ⟨G', s', c'⟩ := c.freeze o
      exact a2 B G0 G' H σ _ E c' (PoS.up s' po)
    | un => exact a2 B G0 G H σ env E c po
    | dat d => exact a2 B G0 G H σ env E c po
    | dic d => exact a2 B G0 G H σ env E c po
/-- x = [..], an own list from now on -/
theorem ds_own (i : Nat) {g : DEnv → M (List D)} {x : Str} {pos' : Pos} (hN : X.N.Nodup) (h : DLs X W e g) (hi : X.N[i]? = some x := by rfl) (hx : Loc X.env.scope x := by first | exact .inl rfl | exact .inr rfl) (hs : swapsWith e (some (.Name x pos')) pos.line X.env = pure false := by rfl) (hf : X.fn x = true ∨ X.env.scope.names.lookup x = some .local := by first | exact .inl rfl | exact .inr rfl) :
    DS X W (.Assign [.Name x pos'] e pos) (sOwn i g) := by
  obtain ⟨_, a1, a2⟩ := h.ex
  refine ⟨_, ps_set (i := i) hN hi hx a1 hs hf, fun B G0 G H σ env E c po => ?_⟩
  refine a2 B G0 G H σ env _ c ?_
  simp only [sOwn] at po
  cases o : g env with
  | no => rw [o] at po; exact po
  | ex n => rw [o] at po; exact PoX.s po
  | ok d =>
    rw [o] at po
    intro q vs H1 G1 s1 c1 hq r1
    exact po _ _ G1 s1 (c1.setOwn i hq ⟨q, vs, rfl, c1.exG.free hq, c1.exB.free hq, upd_same, r1⟩)
theorem celO_inv {env : DEnv} {i : Nat} {xs : List D} (h : celO env i = .ok xs) : env[i]? = some (.own xs) := by
  simp only [celO] at h
  split at h
  · rename_i e
    cases h
    exact e
  · cases h
theorem celO_no {env : DEnv} {i : Nat} {c : Str} (h : celO env i = .ex c) : False := by
  simp only [celO] at h
  split at h <;> cases h
/-- x.append(e), x an own list -/
theorem ds_app (i : Nat) {x : Str} {px apos cpos : Pos} (h : DE X W e f) (hN : X.N[i]? = some x := by rfl) (hv : Vis X.env.scope x := by first | exact Or.inl rfl | exact Or.inr (Or.inl rfl) | exact Or.inr (Or.inr rfl)) (hd : (x == ("__debug__" : Str)) = false := by decide)
    (hcd : (x == ("__classdict__" : Str)) = false := by decide) (hbase : attributeBase (.Name x px) "append" X.env (eval (.Name x px) X.env) = eval (.Name x px) X.env := by rfl)
    (hfew : ((backTo cpos (starEach [e] X.env)).all (fun x => !x.1) && (backToKw cpos (keywordEach [] X.env)).all (fun x => x.1.isSome)
      && decide ([e].length + ([] : List Keyword).length + (if ([] : List Keyword).isEmpty then 0 else 1) < 30)) = true := by rfl)
    (hline : (apos.endLine == cpos.line) = true := by rfl) (hse : starEach [e] X.env = (false, eval e X.env) :: starEach [] X.env := by rfl) (hplain : (backTo cpos (starEach [] X.env)).any (·.1) = false := by rfl)
    (hs : swapsWith (.Call (.Attribute (.Name x px) "append" apos) [e] [] cpos) none pos.line X.env = pure false := by rfl) :
    DS X W (.Expr (.Call (.Attribute (.Name x px) "append" apos) [e] [] cpos) pos) (sApp i f) := by
  obtain ⟨te, a1, a2⟩ := h.ex
  refine ⟨_, ps_expr (pe_bm PySem.F.plainAttrs_list PySem.F.slot_list_append PySem.F.type_list_append mt_append (pe_var hN hv hd hcd) (pa_cons a1 pa_nil hse) hbase hfew hline hse hplain) hs, fun B G0 G H σ env E c po => ?_⟩
  simp only [sApp] at po
  cases o : celO env i with
  | no => rw [o] at po; exact po.elim
  | ex n => exact (celO_no o).elim
  | ok xs =>
    rw [o] at po
    have hi := celO_inv o
    obtain ⟨q, e1, p, vs, e2, gp, bp, hp, r⟩ := c.cel i _ hi
    subst e2
    refine ⟨.ref p, e1, .inl ⟨rfl, _, .inl (.inl hp)⟩, ?_⟩
    refine a2 B G0 G H σ env _ c ?_
    simp only [M.to] at po
    cases q : f env with
    | no => rw [q] at po; exact po
    | ex n => rw [q] at po; exact PoX.s po
    | ok d =>
      rw [q] at po
      intro v H1 G1 s1 c1 r1
      simp only [M.to] at po
      obtain ⟨q', e1', p', vs', e2', gp', bp', hp', r'⟩ := c1.cel i _ hi
      rw [e1] at e1'
      cases e1'
      cases e2'
      by_cases hl : xs.length < sizeLine
      · rw [if_pos hl] at po
        refine ⟨p, vs', v, rfl, rfl, hp', by rw [r'.length]; exact hl, ?_⟩
        exact po σ _ G1 s1 (c1.updO hi trivial e1 ⟨p, _, rfl, gp', bp', upd_same, r'.append (.one r1)⟩ trivial)
      · rw [if_neg hl] at po
        exact po.elim
/-- len(x), x an own list -/
theorem de_lenO (i : Nat) {x : Str} {px : Pos} (hm : X.mg "len" = none) (hg : Gl X "len" := by rfl) (hN : X.N[i]? = some x := by rfl) (hv : Vis X.env.scope x := by first | exact Or.inl rfl | exact Or.inr (Or.inl rfl) | exact Or.inr (Or.inr rfl)) (hd : (x == ("__debug__" : Str)) = false := by decide)
    (hcd : (x == ("__classdict__" : Str)) = false := by decide) (hs : starEach [.Name x px] X.env = (false, eval (.Name x px) X.env) :: starEach [] X.env := by rfl) (hpl : (backTo pos (starEach [] X.env)).any (·.1) = false := by rfl) :
    DE X W (.Call (.Name "len" p) [.Name x px] [] pos) (xLenO i) := by
  refine ⟨_, pe_callB call_len_seq hg hm PySem.boot_len (pa_cons (pe_var hN hv hd hcd) pa_nil hs) (by decide) (by decide) hs hpl, fun B G0 G H σ env Q c po => ?_⟩
  simp only [xLenO] at po
  cases o : celO env i with
  | no => rw [o] at po; exact po.elim
  | ex n => exact (celO_no o).elim
  | ok xs =>
    rw [o] at po
    have hi := celO_inv o
    obtain ⟨q, e1, p, vs, e2, gp, bp, hp, r⟩ := c.cel i _ hi
    subst e2
    refine ⟨.ref p, e1, p, vs, rfl, .inl (.inl (.inl hp)), ?_⟩
    rw [r.length]
    exact po _ H G (Same.refl G) c (.int _)
theorem atI_rep {K : KW} {G : Hp} {vs : List V} {ds : List D} {i : Int} {d : D} (r : Reps K G vs ds) (h : atI ds i = some d) : ∃ v, atI vs i = some v ∧ Rep K G v d := by
  unfold atI at h ⊢
  rw [r.length]
  cases q : ixN ds.length i with
  | none => rw [q] at h; cases h
  | some j =>
    rw [q] at h
    exact r.get h
/-- x[e], x an own list -/
theorem de_ixO (i : Nat) {x : Str} {px : Pos} (h : DE X W e f) (hsl : PlainIx e := by intro _ _; rfl) (hN : X.N[i]? = some x := by rfl) (hv : Vis X.env.scope x := by first | exact Or.inl rfl | exact Or.inr (Or.inl rfl) | exact Or.inr (Or.inr rfl)) (hd : (x == ("__debug__" : Str)) = false := by decide)
    (hcd : (x == ("__classdict__" : Str)) = false := by decide) : DE X W (.Subscript (.Name x px) e pos) (xIxO i f) := by
  obtain ⟨te, a1, a2⟩ := h.ex
  refine ⟨_, pe_ix ix_list (pe_var hN hv hd hcd) a1 hsl, fun B G0 G H σ env Q c po => ?_⟩
  simp only [xIxO] at po
  cases o : celO env i with
  | no => rw [o] at po; exact po.elim
  | ex n => exact (celO_no o).elim
  | ok xs =>
    rw [o] at po
    have hi := celO_inv o
    obtain ⟨q, e1, p, vs, e2, gp, bp, hp, r⟩ := c.cel i _ hi
    subst e2
    refine ⟨.ref p, e1, ?_⟩
    refine a2 B G0 G H σ env _ c ?_
    simp only [M.bind] at po
    cases q : f env with
    | no => rw [q] at po; exact po
    | ex n => rw [q] at po; exact po
    | ok d =>
      rw [q] at po
      intro v H1 G1 s1 c1 r1
      simp only [M.bind] at po
      cases k : ixD xs d with
      | none => rw [k] at po; exact po.elim
      | some y =>
        rw [k] at po
        obtain ⟨q', e1', p', vs', e2', gp', bp', hp', r'⟩ := c1.cel i _ hi
        rw [e1] at e1'
        cases e1'
        cases e2'
        cases d with
        | int j =>
          cases r1
          obtain ⟨v, hv, rv⟩ := atI_rep r' k
          exact ⟨p, vs', j, v, rfl, rfl, .inl (.inl hp'), hv, po v H1 G1 s1 c1 rv⟩
        | non => cases k
        | bl _ => cases k
        | str _ => cases k
        | lst _ => cases k
        | tup _ => cases k
        | scr _ => cases k
end
end DL

namespace DL
open PySem PySem.Spec PyProof.Rows L2

/-! ### operations on data -/
def addD : D → D → Option D
  | .int i, .int j => some (.int (i + j))
  | .str a, .str b => if a.length + b.length ≤ sizeLine then some (.str (a ++ b)) else none
  | .lst a, .lst b => if a.length + b.length ≤ sizeLine then some (.lst (a ++ b)) else none
  | _, _ => none
def subD : D → D → Option D
  | .int i, .int j => some (.int (i - j))
  | _, _ => none
theorem inM_ex : ∃ f : Int → Bool, ∀ j, f j = true ↔ (-(2 ^ 64) < j ∧ j < 2 ^ 64) := ⟨fun j => decide (-(2 ^ 64) < j ∧ j < 2 ^ 64), fun j => by simp⟩
noncomputable def inM : Int → Bool := Classical.choose inM_ex
theorem inM_iff (j : Int) : inM j = true ↔ (-(2 ^ 64) < j ∧ j < 2 ^ 64) := Classical.choose_spec inM_ex j
theorem inM_small {j : Int} (h0 : -10000000000 ≤ j) (h : j ≤ 10000000000) : inM j = true := (inM_iff j).mpr ⟨by omega, by omega⟩
noncomputable def mulD : D → D → Option D
  | .int i, .int j => if inM i = true ∨ inM j = true then some (.int (i * j)) else none
  | _, _ => none
def fdivD : D → D → Option D
  | .int i, .int j => if 0 < j ∧ j < 1073741824 then some (.int (i / j)) else none
  | _, _ => none
def modD : D → D → Option D
  | .int i, .int j => if 0 < j then some (.int (i % j)) else none
  | _, _ => none
def powD : D → D → Option D
  | .int i, .int j => if 0 ≤ j ∧ j ≤ 1000000 ∧ i.natAbs < 2 ^ 64 then some (.int (i ^ j.toNat)) else none
  | _, _ => none
def ltD : D → D → Option D
  | .int i, .int j => some (.bl (decide (i < j)))
  | _, _ => none
def leD : D → D → Option D
  | .int i, .int j => some (.bl (decide (i ≤ j)))
  | _, _ => none
def gtD : D → D → Option D
  | .int i, .int j => some (.bl (decide (j < i)))
  | _, _ => none
def geD : D → D → Option D
  | .int i, .int j => some (.bl (decide (j ≤ i)))
  | _, _ => none
def isND : D → D → Option D
  | d, .non => some (.bl (match d with | .non => true | _ => false))
  | _, _ => none
def isNND : D → D → Option D
  | d, .non => some (.bl (match d with | .non => false | _ => true))
  | _, _ => none
def inSD : D → D → Option D
  | .str a, .str b => some (.bl (!(Builtin.Str.occurrences b a 0 b.length 1).isEmpty))
  | _, _ => none
def ninSD : D → D → Option D
  | .str a, .str b => some (.bl (!(!(Builtin.Str.occurrences b a 0 b.length 1).isEmpty)))
  | _, _ => none
mutual
def py : D → PyData
  | .non => .none
  | .bl b => .bool b
  | .int i => .int i
  | .str s => .str s
  | .lst xs => .list (pys xs)
  | .tup xs => .tuple (pys xs)
  | .scr _ => .none
def pys : List D → List PyData
  | [] => []
  | x :: xs => py x :: pys xs
end
-- data that == compares item by item: no bools, texts of plain signs, no deep nesting
mutual
def eqOk : Nat → D → Bool
  | _, .non => true
  | _, .int _ => true
  | _, .str s => PyData.strOk s
  | n + 1, .lst xs => eqOks n xs
  | n + 1, .tup xs => eqOks n xs
  | _, _ => false
def eqOks : Nat → List D → Bool
  | _, [] => true
  | n, x :: xs => eqOk n x && eqOks n xs
end
def scalD : D → D → Bool
  | .non, .non => true | .non, .int _ => true | .int _, .non => true | .non, .bl _ => true | .bl _, .non => true | .non, .str _ => true | .str _, .non => true
  | .int _, .int _ => true | .bl _, .bl _ => true | .str _, .str _ => true
  | .int _, .str _ => true | .str _, .int _ => true | .bl _, .str _ => true | .str _, .bl _ => true
  | _, _ => false
noncomputable instance : DecidableEq D := fun a b => Classical.propDecidable (a = b)
noncomputable def eqD (a b : D) : Option D := if (scalD a b || (eqOk 60 a && eqOk 60 b)) = true then some (.bl (decide (a = b))) else none
noncomputable def neD (a b : D) : Option D := if (scalD a b || (eqOk 60 a && eqOk 60 b)) = true then some (.bl (!decide (a = b))) else none

section
variable {K : KW} {G : Hp}
mutual
theorem Rep.dp : ∀ (n : Nat) (d : D) (v : V), eqOk n d = true → Rep K G v d → Dp K.k G v (py d)
  | _, .non, _, _, r => by cases r; exact .non
  | _, .int i, _, _, r => by cases r; exact .int i
  | _, .str s, _, _, r => by cases r; exact .str s
  | n + 1, .lst xs, _, h, r => by
    cases r with
    | lst g1 g2 => exact .lst (.inl (.inl g1)) (Reps.dp n xs _ (by simpa [eqOk] using h) g2)
  | n + 1, .tup xs, _, h, r => by
    cases r with
    | tup g1 g2 => exact .tup (.inl (.inl g1)) (Reps.dp n xs _ (by simpa [eqOk] using h) g2)
  | 0, .lst _, _, h, _ => by simp [eqOk] at h
  | 0, .tup _, _, h, _ => by simp [eqOk] at h
  | 0, .bl _, _, h, _ => by simp [eqOk] at h
  | _ + 1, .bl _, _, h, _ => by simp [eqOk] at h
  | 0, .scr _, _, h, _ => by simp [eqOk] at h
  | _ + 1, .scr _, _, h, _ => by simp [eqOk] at h
theorem Reps.dp : ∀ (n : Nat) (ds : List D) (vs : List V), eqOks n ds = true → Reps K G vs ds → DpAll K.k G vs (pys ds)
  | _, [], _, _, r => by cases r; exact .nil
  | n, d :: ds, _, h, r => by
    cases r with
    | cons r1 r2 =>
      have h' : eqOk n d = true ∧ eqOks n ds = true := by simpa [eqOks] using h
      exact .cons (Rep.dp n d _ h'.1 r1) (Reps.dp n ds _ h'.2 r2)
end
mutual
theorem eqOk_shape : ∀ (n : Nat) (d : D), eqOk n d = true → (py d).canLay0 = true ∧ (py d).depth ≤ n
  | _, .non, _ => ⟨rfl, Nat.zero_le _⟩
  | _, .int _, _ => ⟨rfl, Nat.zero_le _⟩
  | _, .str s, h => ⟨by simpa [eqOk, py, PyData.canLay0] using h, Nat.zero_le _⟩
  | n + 1, .lst xs, h => by
    obtain ⟨a, b⟩ := eqOks_shape n xs (by simpa [eqOk] using h)
    refine ⟨by simpa [py, PyData.canLay0] using a, ?_⟩
    simp only [py, PyData.depth]
    omega
  | n + 1, .tup xs, h => by
    obtain ⟨a, b⟩ := eqOks_shape n xs (by simpa [eqOk] using h)
    refine ⟨by simpa [py, PyData.canLay0] using a, ?_⟩
    simp only [py, PyData.depth]
    omega
  | 0, .lst _, h => by simp [eqOk] at h
  | 0, .tup _, h => by simp [eqOk] at h
  | 0, .bl _, h => by simp [eqOk] at h
  | _ + 1, .bl _, h => by simp [eqOk] at h
  | 0, .scr _, h => by simp [eqOk] at h
  | _ + 1, .scr _, h => by simp [eqOk] at h
theorem eqOks_shape : ∀ (n : Nat) (ds : List D), eqOks n ds = true → PyData.canLayAll0 (pys ds) = true ∧ PyData.depthAll (pys ds) ≤ n
  | _, [], _ => ⟨rfl, Nat.zero_le _⟩
  | n, d :: ds, h => by
    have h' : eqOk n d = true ∧ eqOks n ds = true := by simpa [eqOks] using h
    obtain ⟨a, b⟩ := eqOk_shape n d h'.1
    obtain ⟨a', b'⟩ := eqOks_shape n ds h'.2
    refine ⟨by simp only [pys, PyData.canLayAll0, a, a', Bool.and_self], ?_⟩
    simp only [pys, PyData.depthAll]
    omega
end
theorem eqOk_shaped {d : D} (h : eqOk 60 d = true) : SeqAt.shaped (py d) = true := by
  obtain ⟨a, b⟩ := eqOk_shape 60 d h
  unfold SeqAt.shaped
  rw [a, decide_eq_true (by omega : (py d).depth ≤ 64)]
  rfl
mutual
theorem eqv_of : ∀ (n m : Nat) (a b : D), eqOk n a = true → eqOk m b = true → (PyData.eqv (py a) (py b) = true ↔ a = b)
  | n, m, .non, b, _, hb => by cases b <;> simp [py, PyData.eqv, eqOk] at hb ⊢
  | n, m, .int i, b, _, hb => by cases b <;> simp [py, PyData.eqv, eqOk] at hb ⊢
  | n, m, .str s, b, _, hb => by cases b <;> simp [py, PyData.eqv, eqOk] at hb ⊢
  | n + 1, m, .lst xs, b, ha, hb => by
    cases b with
    | lst ys =>
      cases m with
      | zero => simp [eqOk] at hb
      | succ m =>
        have := eqv_ofs n m xs ys (by simpa [eqOk] using ha) (by simpa [eqOk] using hb)
        simp only [py, PyData.eqv, D.lst.injEq]
        exact this
    | non => simp [py, PyData.eqv]
    | bl _ => cases m <;> simp [eqOk] at hb
    | int _ => simp [py, PyData.eqv]
    | str _ => simp [py, PyData.eqv]
    | tup _ => simp [py, PyData.eqv]
    | scr _ => cases m <;> simp [eqOk] at hb
  | n + 1, m, .tup xs, b, ha, hb => by
    cases b with
    | tup ys =>
      cases m with
      | zero => simp [eqOk] at hb
      | succ m =>
        have := eqv_ofs n m xs ys (by simpa [eqOk] using ha) (by simpa [eqOk] using hb)
        simp only [py, PyData.eqv, D.tup.injEq]
        exact this
    | non => simp [py, PyData.eqv]
    | bl _ => cases m <;> simp [eqOk] at hb
    | int _ => simp [py, PyData.eqv]
    | str _ => simp [py, PyData.eqv]
    | lst _ => simp [py, PyData.eqv]
    | scr _ => cases m <;> simp [eqOk] at hb
  | 0, _, .lst _, _, h, _ => by simp [eqOk] at h
  | 0, _, .tup _, _, h, _ => by simp [eqOk] at h
  | 0, _, .bl _, _, h, _ => by simp [eqOk] at h
  | _ + 1, _, .bl _, _, h, _ => by simp [eqOk] at h
  | 0, _, .scr _, _, h, _ => by simp [eqOk] at h
  | _ + 1, _, .scr _, _, h, _ => by simp [eqOk] at h
theorem eqv_ofs : ∀ (n m : Nat) (a b : List D), eqOks n a = true → eqOks m b = true → (PyData.eqvAll (pys a) (pys b) = true ↔ a = b)
  | n, m, [], [], _, _ => by simp [pys, PyData.eqvAll]
  | n, m, [], _ :: _, _, _ => by simp [pys, PyData.eqvAll]
  | n, m, _ :: _, [], _, _ => by simp [pys, PyData.eqvAll]
  | n, m, a :: as, b :: bs, ha, hb => by
    have h1 : eqOk n a = true ∧ eqOks n as = true := by simpa [eqOks] using ha
    have h2 : eqOk m b = true ∧ eqOks m bs = true := by simpa [eqOks] using hb
    have q1 := eqv_of n m a b h1.1 h2.1
    have q2 := eqv_ofs n m as bs h1.2 h2.2
    simp only [pys, PyData.eqvAll, Bool.and_eq_true, List.cons.injEq]
    rw [q1, q2]
end
theorem eqv_dec {a b : D} (ha : eqOk 60 a = true) (hb : eqOk 60 b = true) : PyData.eqv (py a) (py b) = decide (a = b) := by
  rw [Bool.eq_iff_iff, eqv_of 60 60 a b ha hb]
  simp
theorem dp_mono {H : Hp} (s : Same G H) {v : V} {d : D} (h : eqOk 60 d = true) (r : Rep K G v d) : Dp K.k H v (py d) := Rep.dp 60 d v h (r.up s)
theorem scal_rep {x y : V} {a b : D} (h : scalD a b = true) (ra : Rep K G x a) (rb : Rep K G y b) : scal x y = true ∧ decide (x = y) = decide (a = b) := by
  cases ra <;> cases rb <;> first
    | (simp [scalD] at h; done)
    | (refine ⟨rfl, ?_⟩; simp)
end
section
variable {X : Cx}
theorem opd_pure {K : KW} {r : R2} {h : D → D → Option D} (q : ∀ {G H : Hp} {x y : V} {a b d : D} {Q : VK}, Same G H → Rep K G x a → Rep K G y b → h a b = some d → (∃ v, Rep K G v d ∧ (Q v H → r x y H Q))) : OpD K r h := by
  intro B G0 G H σ env x y a b d Q c ra rb e k
  obtain ⟨v, rv, kv⟩ := q (Q := Q) c.exG ra rb e
  exact kv (k v H G (Same.refl G) c rv)
theorem ox_add : OpX X (binaryOp .Add) addD := by
  refine ⟨_, op_add.or (op_add_str.or op_cat), ?_⟩
  intro B G0 G H σ env x y a b d Q c ra rb e k
  unfold addD at e
  split at e
  · cases ra; cases rb; cases e
    exact .inl ⟨_, _, rfl, rfl, k _ H G (Same.refl G) c (.int _)⟩
  · split at e
    · rename_i hl
      cases ra; cases rb; cases e
      exact .inr (.inl ⟨_, _, rfl, rfl, hl, k _ H G (Same.refl G) c (.str _)⟩)
    · cases e
  · split at e
    · rename_i hl
      cases e
      cases ra with
      | lst g1 r1 =>
        cases rb with
        | lst g2 r2 =>
          refine .inr (.inr ⟨_, _, _, _, rfl, rfl, c.exG _ _ g1, c.exG _ _ g2, by rw [r1.length, r2.length]; exact hl, fun p hp => ?_⟩)
          have gp := c.exG.free hp
          exact k _ _ (upd G p _) (same_upd gp) (c.laid hp) (.lst upd_same ((r1.append r2).up (same_upd gp)))
    · cases e
  · cases e
theorem ox_sub : OpX X (binaryOp .Sub) subD := by
  refine ⟨_, op_sub, opd_pure ?_⟩
  intro G H x y a b d Q s ra rb e
  unfold subD at e
  split at e
  · cases ra; cases rb; cases e
    exact ⟨_, .int _, fun q => ⟨_, _, rfl, rfl, q⟩⟩
  · cases e
theorem ox_mul : OpX X (binaryOp .Mult) mulD := by
  refine ⟨_, op_mul, opd_pure ?_⟩
  intro G H x y a b d Q s ra rb e
  unfold mulD at e
  split at e
  · split at e
    · rename_i hc
      cases ra; cases rb; cases e
      refine ⟨_, .int _, fun q => ⟨_, _, rfl, rfl, ?_, q⟩⟩
      rcases hc with hc | hc
      · exact .inl ((inM_iff _).mp hc)
      · exact .inr ((inM_iff _).mp hc)
    · cases e
  · cases e
theorem ox_fdiv : OpX X (binaryOp .FloorDiv) fdivD := by
  refine ⟨_, op_fdiv, opd_pure ?_⟩
  intro G H x y a b d Q s ra rb e
  unfold fdivD at e
  split at e
  · split at e
    · rename_i hc
      cases ra; cases rb; cases e
      exact ⟨_, .int _, fun q => ⟨_, _, rfl, rfl, hc, q⟩⟩
    · cases e
  · cases e
theorem ox_mod : OpX X (binaryOp .Mod) modD := by
  refine ⟨_, op_mod, opd_pure ?_⟩
  intro G H x y a b d Q s ra rb e
  unfold modD at e
  split at e
  · split at e
    · rename_i hc
      cases ra; cases rb; cases e
      exact ⟨_, .int _, fun q => ⟨_, _, rfl, rfl, hc, q⟩⟩
    · cases e
  · cases e
theorem ox_pow : OpX X (binaryOp .Pow) powD := by
  refine ⟨_, op_pow, opd_pure ?_⟩
  intro G H x y a b d Q s ra rb e
  unfold powD at e
  split at e
  · split at e
    · rename_i hc
      cases ra; cases rb; cases e
      exact ⟨_, .int _, fun q => ⟨_, _, rfl, rfl, hc, q⟩⟩
    · cases e
  · cases e
theorem ox_lt : OpX X (compareOp .Lt) ltD := by
  refine ⟨_, op_lt, opd_pure ?_⟩
  intro G H x y a b d Q s ra rb e
  unfold ltD at e
  split at e
  · cases ra; cases rb; cases e
    exact ⟨_, .bl _, fun q => ⟨_, _, rfl, rfl, q⟩⟩
  · cases e
theorem ox_le : OpX X (compareOp .LtE) leD := by
  refine ⟨_, op_le, opd_pure ?_⟩
  intro G H x y a b d Q s ra rb e
  unfold leD at e
  split at e
  · cases ra; cases rb; cases e
    exact ⟨_, .bl _, fun q => ⟨_, _, rfl, rfl, q⟩⟩
  · cases e
theorem ox_gt : OpX X (compareOp .Gt) gtD := by
  refine ⟨_, op_gt, opd_pure ?_⟩
  intro G H x y a b d Q s ra rb e
  unfold gtD at e
  split at e
  · cases ra; cases rb; cases e
    exact ⟨_, .bl _, fun q => ⟨_, _, rfl, rfl, q⟩⟩
  · cases e
theorem ox_ge : OpX X (compareOp .GtE) geD := by
  refine ⟨_, op_ge, opd_pure ?_⟩
  intro G H x y a b d Q s ra rb e
  unfold geD at e
  split at e
  · cases ra; cases rb; cases e
    exact ⟨_, .bl _, fun q => ⟨_, _, rfl, rfl, q⟩⟩
  · cases e
theorem ox_isN : OpX X (compareOp .Is) isND := by
  refine ⟨_, op_isN, opd_pure ?_⟩
  intro G H x y a b d Q s ra rb e
  cases b <;> simp only [isND, Option.some.injEq] at e <;> first | (cases e; done) | skip
  cases rb
  subst e
  refine ⟨_, .bl _, fun q => ⟨rfl, ?_⟩⟩
  cases ra <;> exact q
theorem ox_isNN : OpX X (compareOp .IsNot) isNND := by
  refine ⟨_, op_notN, opd_pure ?_⟩
  intro G H x y a b d Q s ra rb e
  cases b <;> simp only [isNND, Option.some.injEq] at e <;> first | (cases e; done) | skip
  cases rb
  subst e
  refine ⟨_, .bl _, fun q => ⟨rfl, ?_⟩⟩
  cases ra <;> exact q
theorem ox_inS : OpX X (compareOp .In) inSD := by
  refine ⟨_, op_in_str, opd_pure ?_⟩
  intro G H x y a b d Q s ra rb e
  unfold inSD at e
  split at e
  · cases ra; cases rb; cases e
    exact ⟨_, .bl _, fun q => ⟨_, _, rfl, rfl, q⟩⟩
  · cases e
theorem ox_ninS : OpX X (compareOp .NotIn) ninSD := by
  refine ⟨_, op_notIn_str, opd_pure ?_⟩
  intro G H x y a b d Q s ra rb e
  unfold ninSD at e
  split at e
  · cases ra; cases rb; cases e
    exact ⟨_, .bl _, fun q => ⟨_, _, rfl, rfl, q⟩⟩
  · cases e
theorem ox_eq (hu : X.A.units + 64 < cLine) : OpX X (compareOp .Eq) eqD := by
  refine ⟨_, op_eq.or (op_eqD hu), opd_pure ?_⟩
  intro G H x y a b d Q s ra rb e
  unfold eqD at e
  split at e
  · rename_i h
    cases e
    refine ⟨_, .bl _, fun q => ?_⟩
    by_cases hs : scalD a b = true
    · obtain ⟨h1, h2⟩ := scal_rep hs ra rb
      exact .inl ⟨h1, by rw [h2]; exact q⟩
    · have h' : eqOk 60 a = true ∧ eqOk 60 b = true := by simpa [hs] using h
      exact .inr ⟨_, _, dp_mono s h'.1 ra, dp_mono s h'.2 rb, eqOk_shaped h'.1, eqOk_shaped h'.2, by rw [eqv_dec h'.1 h'.2]; exact q⟩
  · cases e
theorem ox_ne (hu : X.A.units + 64 < cLine) : OpX X (compareOp .NotEq) neD := by
  refine ⟨_, op_ne.or (op_neD hu), opd_pure ?_⟩
  intro G H x y a b d Q s ra rb e
  unfold neD at e
  split at e
  · rename_i h
    cases e
    refine ⟨_, .bl _, fun q => ?_⟩
    by_cases hs : scalD a b = true
    · obtain ⟨h1, h2⟩ := scal_rep hs ra rb
      exact .inl ⟨h1, by rw [h2]; exact q⟩
    · have h' : eqOk 60 a = true ∧ eqOk 60 b = true := by simpa [hs] using h
      exact .inr ⟨_, _, dp_mono s h'.1 ra, dp_mono s h'.2 rb, eqOk_shaped h'.1, eqOk_shaped h'.2, by rw [eqv_dec h'.1 h'.2]; exact q⟩
  · cases e
end
end DL

namespace DL
open PySem PySem.Spec PyProof.Rows L2

/-! ### subscripts -/
def ixAD : D → D → Option D
  | .lst xs, .int i => atI xs i
  | .tup xs, .int i => atI xs i
  | .scr ns, .int i => (atI ns i).map D.int
  | .str s, .int i => if s.length ≤ sizeLine then (atI s.cps.toList i).map fun c => D.str ⟨#[c]⟩ else none
  | _, _ => none
theorem atI_map {α β : Type} (f : α → β) (xs : List α) (i : Int) : atI (xs.map f) i = (atI xs i).map f := by
  unfold atI
  rw [List.length_map]
  cases ixN xs.length i with
  | none => rfl
  | some j => simp
section
variable {X : Cx} {W : WX} {a b e : Expr} {es : List Expr} {f g : DEnv → M D} {pos p : Pos}
theorem de_ix (ha : DE X W a f) (hb : DE X W b g) (hs : PlainIx b := by intro _ _; rfl) : DE X W (.Subscript a b pos) (xOp ixAD f g) := by
  obtain ⟨_, a1, a2⟩ := ha.ex
  obtain ⟨_, b1, b2⟩ := hb.ex
  refine ⟨_, pe_ix ix_seq a1 b1 hs, a2.op b2 ?_⟩
  intro B G0 G H σ env x y a b d Q c ra rb h k
  unfold ixAD at h
  split at h
  · cases rb
    cases ra with
    | lst g1 g2 =>
      obtain ⟨v, hv, rv⟩ := atI_rep g2 h
      exact .inl ⟨_, _, _, v, rfl, rfl, .inl (.inl (c.exG _ _ g1)), hv, k v H G (Same.refl G) c rv⟩
  · cases rb
    cases ra with
    | tup g1 g2 =>
      obtain ⟨v, hv, rv⟩ := atI_rep g2 h
      exact .inr (.inl ⟨_, _, _, v, rfl, rfl, .inl (.inl (c.exG _ _ g1)), hv, k v H G (Same.refl G) c rv⟩)
  · rename_i ns i
    cases rb
    cases ra with
    | scr g1 =>
      cases q : atI ns i with
      | none => rw [q] at h; cases h
      | some n =>
        rw [q] at h
        cases h
        exact .inl ⟨_, _, _, .int n, rfl, rfl, c.exG.seq g1, by rw [atI_map, q]; rfl, k _ H G (Same.refl G) c (.int n)⟩
  · rename_i s i
    cases rb
    cases ra
    split at h
    · rename_i hl
      cases q : atI s.cps.toList i with
      | none => rw [q] at h; cases h
      | some n =>
        rw [q] at h
        cases h
        exact .inr (.inr ⟨_, _, n, rfl, rfl, hl, q, k _ H G (Same.refl G) c (.str _)⟩)
    · cases h
  · cases h
end

/-! ### slices -/
def cutL {α : Type} (xs : List α) (lo hi : Option Int) : List α := (xs.drop (HT.sIx xs.length 0 lo)).take (HT.sIx xs.length xs.length hi - HT.sIx xs.length 0 lo)
def slcD (lo hi : Option Int) : D → Option D
  | .lst xs => some (.lst (cutL xs lo hi))
  | .str s => if s.length ≤ sizeLine then some (.str (cutS s lo hi)) else none
  | .tup xs => if HT.sIx xs.length 0 lo = 0 ∧ HT.sIx xs.length xs.length hi = xs.length then none else some (.tup (cutL xs lo hi))
  | _ => none
def PoO (K : KW) (mg : Str → Option Value) (W : WX) (B G0 G : Hp) (σ : L2.St) (env : DEnv) (Q : Option Int → Hp → Prop) : M (Option Int) → Prop
  | .ok o => ∀ H' G', Same G G' → Cn K B G0 G' σ H' env → Q o H'
  | .ex c => PoX K mg W B G0 σ env c
  | .no => False
structure DO (X : Cx) (W : WX) (e : Option Expr) (f : DEnv → M (Option Int)) : Prop where
  ex : ∃ t, PO X e t ∧ ∀ B G0 G H σ env Q, Cn (kw X) B G0 G σ H env → PoO (kw X) X.mg W B G0 G σ env Q (f env) → t σ H Q
@[simp] def oNo (_ : DEnv) : M (Option Int) := .ok none
@[simp] def asI : D → M (Option Int)
  | .int i => .ok (some i)
  | _ => .no
@[simp] def oPart (f : DEnv → M D) (env : DEnv) : M (Option Int) := (f env).bind asI
@[simp] def xCut (f : DEnv → M D) (l u : DEnv → M (Option Int)) (env : DEnv) : M D := (f env).bind fun d => (l env).bind fun lo => (u env).bind fun hi => .of (slcD lo hi d)
section
variable {X : Cx} {W : WX} {a b e : Expr} {es : List Expr} {f g : DEnv → M D} {pos p : Pos}
theorem do_none : DO X W none oNo := ⟨_, po_none, fun B G0 G H σ env Q c p => p H G (Same.refl G) c⟩
theorem do_some (h : DE X W e f) : DO X W (some e) (oPart f) := by
  obtain ⟨_, a1, a2⟩ := h.ex
  refine ⟨_, po_some a1, fun B G0 G H σ env Q c p => ?_⟩
  refine a2 B G0 G H σ env _ c ?_
  simp only [oPart] at p
  cases o : f env with
  | no => rw [o] at p; exact p
  | ex n => rw [o] at p; exact p
  | ok d =>
    rw [o] at p
    intro v H1 G1 s1 c1 r1
    cases d with
    | int i => cases r1; exact ⟨i, rfl, p H1 G1 s1 c1⟩
    | non => exact p.elim
    | bl _ => exact p.elim
    | str _ => exact p.elim
    | lst _ => exact p.elim
    | tup _ => exact p.elim
    | scr _ => exact p.elim
theorem Reps.cut {K : KW} {G : Hp} {vs : List V} {ds : List D} (r : Reps K G vs ds) (lo hi : Option Int) : Reps K G (cutV vs lo hi) (cutL ds lo hi) := by
  unfold cutV cutL
  rw [r.length]
  exact (r.drop _).take _
theorem de_slice {lo hi : Option Expr} {l u : DEnv → M (Option Int)} {p2 : Pos} (he : DE X W e f) (hl : DO X W lo l) (hu : DO X W hi u) : DE X W (.Subscript e (.Slice lo hi none p2) pos) (xCut f l u) := by
  obtain ⟨_, a1, a2⟩ := he.ex
  obtain ⟨_, b1, b2⟩ := hl.ex
  obtain ⟨_, c1, c2⟩ := hu.ex
  refine ⟨_, pe_slice (sl_list.or (sl_str.or sl_tup)) a1 b1 c1, fun B G0 G H σ env Q c p => ?_⟩
  refine a2 B G0 G H σ env _ c ?_
  simp only [xCut] at p
  cases o : f env with
  | no => rw [o] at p; exact p
  | ex n => rw [o] at p; exact p
  | ok d =>
    rw [o] at p
    intro v H1 G1 s1 k1 r1
    refine b2 B G0 G1 H1 σ env _ k1 ?_
    simp only [M.bind] at p
    cases o2 : l env with
    | no => rw [o2] at p; exact p
    | ex n => rw [o2] at p; exact p
    | ok x =>
      rw [o2] at p
      intro H2 G2 s2 k2
      refine c2 B G0 G2 H2 σ env _ k2 ?_
      simp only [M.bind] at p
      cases o3 : u env with
      | no => rw [o3] at p; exact p
      | ex n => rw [o3] at p; exact p
      | ok y =>
        rw [o3] at p
        intro H3 G3 s3 k3
        have r3 := (r1.up s2).up s3
        have ss := (s1.trans s2).trans s3
        simp only [M.bind] at p
        cases q : slcD x y d with
        | none => rw [q] at p; exact p.elim
        | some z =>
          rw [q] at p
          unfold slcD at q
          split at q
          · cases q
            cases r3 with
            | lst g1 g2 =>
              refine .inl ⟨_, _, rfl, .inl (.inl (k3.exG _ _ g1)), fun q hq => ?_⟩
              have gq := k3.exG.free hq
              exact p _ _ (upd G3 q _) (ss.trans (same_upd gq)) (k3.laid hq) (.lst upd_same ((g2.cut x y).up (same_upd gq)))
          · split at q
            · rename_i hz
              cases q
              cases r3
              exact .inr (.inl ⟨_, rfl, hz, p _ H3 G3 ss k3 (.str _)⟩)
            · cases q
          · split at q
            · cases q
            · rename_i hz
              cases q
              cases r3 with
              | tup g1 g2 =>
                refine .inr (.inr ⟨_, _, rfl, .inl (.inl (k3.exG _ _ g1)), by rw [g2.length]; exact hz, fun q hq => ?_⟩)
                have gq := k3.exG.free hq
                exact p _ _ (upd G3 q _) (ss.trans (same_upd gq)) (k3.laid hq) (.tup upd_same ((g2.cut x y).up (same_upd gq)))
          · cases q
end

/-! ### builtins -/
def lenD : List D → Option D
  | [.str s] => if s.length ≤ sizeLine then some (.int s.length) else none
  | [.lst xs] => some (.int xs.length)
  | [.tup xs] => some (.int xs.length)
  | [.scr ns] => some (.int ns.length)
  | _ => none
def min2D : List D → Option D
  | [.int i, .int j] => some (.int (if j < i then j else i))
  | _ => none
def max2D : List D → Option D
  | [.int i, .int j] => some (.int (if j > i then j else i))
  | _ => none
def strD : List D → Option D
  | [.int i] => if i.natAbs.log2 < 1920 then some (.str (toString i)) else none
  | _ => none
def intD : List D → Option D
  | [.int i] => some (.int i)
  | [.bl b] => some (.int (if b then 1 else 0))
  | _ => none
def intSD : List D → Option D
  | [.str s] => match PySem.intText? s with
    | some n => if s.length ≤ 640 then some (.int n) else none
    | none => none
  | _ => none
def tupD : List D → Option D
  | [.lst xs] => some (.tup xs)
  | [.tup xs] => some (.tup xs)
  | _ => none
def intsOf : List D → Option (List Int)
  | [] => some []
  | .int i :: r => (intsOf r).map (i :: ·)
  | _ => none
def maxL : Int → List Int → Int
  | m, [] => m
  | m, x :: r => maxL (if x > m then x else m) r
def maxD : List D → Option D
  | [.lst xs] => match intsOf xs with
    | some (n :: r) => some (.int (maxL n r))
    | _ => none
  | _ => none
theorem intsOf_map : ∀ {xs : List D} {ns : List Int}, intsOf xs = some ns → xs = ns.map D.int
  | [], ns, h => by cases h; rfl
  | .int i :: r, ns, h => by
    simp only [intsOf, Option.map_eq_some_iff] at h
    obtain ⟨ms, h1, rfl⟩ := h
    rw [intsOf_map h1]
    rfl
  | .non :: _, _, h => by cases h
  | .bl _ :: _, _, h => by cases h
  | .str _ :: _, _, h => by cases h
  | .lst _ :: _, _, h => by cases h
  | .tup _ :: _, _, h => by cases h
  | .scr _ :: _, _, h => by cases h
theorem intsOf_ints : ∀ ns : List Int, intsOf (ns.map D.int) = some ns
  | [] => rfl
  | n :: r => by simp [intsOf, intsOf_ints r]
theorem maxL_ge : ∀ (r : List Int) (m : Int), m ≤ maxL m r ∧ ∀ x ∈ r, x ≤ maxL m r
  | [], m => ⟨Int.le_refl _, fun x h => by simp at h⟩
  | x :: r, m => by
    unfold maxL
    obtain ⟨h1, h2⟩ := maxL_ge r (if x > m then x else m)
    refine ⟨Int.le_trans (by split <;> omega) h1, fun y hy => ?_⟩
    rcases List.mem_cons.mp hy with rfl | hy
    · exact Int.le_trans (by split <;> omega) h1
    · exact h2 y hy
theorem maxL_mem : ∀ (r : List Int) (m : Int), maxL m r = m ∨ maxL m r ∈ r
  | [], m => .inl rfl
  | x :: r, m => by
    unfold maxL
    rcases maxL_mem r (if x > m then x else m) with h | h
    · rw [h]
      split
      · exact .inr List.mem_cons_self
      · exact .inl rfl
    · exact .inr (List.mem_cons_of_mem _ h)
section
variable {X : Cx} {W : WX} {a b e : Expr} {es : List Expr} {f g : DEnv → M D} {pos p : Pos}
theorem cx_len : CbX X (.builtin "len") lenD := by
  refine ⟨_, call_len, ?_⟩
  intro B G0 G H σ env vs ds d Q c r h k
  unfold lenD at h
  split at h
  · cases r with
    | cons r1 r2 =>
      cases r2
      cases r1
      split at h
      · rename_i hl
        cases h
        exact ⟨_, _, rfl, ⟨hl, rfl⟩, k _ H G (Same.refl G) c (.int _)⟩
      · cases h
  · cases h
    cases r with
    | cons r1 r2 =>
      cases r2
      cases r1 with
      | lst g1 g2 =>
        refine ⟨_, _, rfl, .inl ⟨_, .inl (.inl (c.exG _ _ g1)), rfl⟩, ?_⟩
        rw [g2.length]
        exact k _ H G (Same.refl G) c (.int _)
  · cases h
    cases r with
    | cons r1 r2 =>
      cases r2
      cases r1 with
      | tup g1 g2 =>
        refine ⟨_, _, rfl, .inr ⟨_, .inl (.inl (c.exG _ _ g1)), rfl⟩, ?_⟩
        rw [g2.length]
        exact k _ H G (Same.refl G) c (.int _)
  · cases h
    cases r with
    | cons r1 r2 =>
      cases r2
      cases r1 with
      | scr g1 =>
        refine ⟨_, _, rfl, .inl ⟨_, c.exG.seq g1, rfl⟩, ?_⟩
        rw [List.length_map]
        exact k _ H G (Same.refl G) c (.int _)
  · cases h
theorem cx_min2 (hc : X.calm = true) : CbX X (.builtin "min") min2D := by
  refine ⟨_, call_min2 hc, ?_⟩
  intro B G0 G H σ env vs ds d Q c r h k
  unfold min2D at h
  split at h
  · cases h
    cases r with
    | cons r1 r2 =>
      cases r2 with
      | cons r2 r3 =>
        cases r3; cases r1; cases r2
        exact ⟨_, _, rfl, k _ H G (Same.refl G) c (.int _)⟩
  · cases h
theorem cx_max2 (hc : X.calm = true) : CbX X (.builtin "max") max2D := by
  refine ⟨_, call_max2 hc, ?_⟩
  intro B G0 G H σ env vs ds d Q c r h k
  unfold max2D at h
  split at h
  · cases h
    cases r with
    | cons r1 r2 =>
      cases r2 with
      | cons r2 r3 =>
        cases r3; cases r1; cases r2
        exact ⟨_, _, rfl, k _ H G (Same.refl G) c (.int _)⟩
  · cases h
theorem cx_max (hc : X.calm = true) : CbX X (.builtin "max") maxD := by
  refine ⟨_, cr_max hc, ?_⟩
  intro B G0 G H σ env vs ds d Q c r h k
  unfold maxD at h
  split at h
  · split at h
    · rename_i xs n rs q
      cases h
      have e := intsOf_map q
      subst e
      cases r with
      | cons r1 r2 =>
        cases r2
        cases r1 with
        | lst g1 g2 =>
          have e2 := Reps.of_ints (ns := n :: rs) g2
          subst e2
          refine ⟨_, n :: rs, rfl, .inl (.inl (c.exG _ _ g1)), Nat.succ_pos _, fun m hm hle => ?_⟩
          have hm2 : m = maxL n rs := by
            obtain ⟨h1, h2⟩ := maxL_ge rs n
            refine Int.le_antisymm ?_ ?_
            · rcases List.mem_cons.mp hm with rfl | hm
              · exact h1
              · exact h2 m hm
            · rcases maxL_mem rs n with z | z
              · rw [z]; exact hle _ List.mem_cons_self
              · exact hle _ (List.mem_cons_of_mem _ z)
          rw [hm2]
          exact k _ H G (Same.refl G) c (.int _)
    · cases h
  · cases h
theorem cx_str : CbX X (.type "str") strD := by
  refine ⟨_, call_str_int, ?_⟩
  intro B G0 G H σ env vs ds d Q c r h k
  unfold strD at h
  split at h
  · split at h
    · rename_i hl
      cases h
      cases r with
      | cons r1 r2 =>
        cases r2; cases r1
        exact ⟨_, rfl, hl, k _ H G (Same.refl G) c (.str _)⟩
    · cases h
  · cases h
theorem cx_int : CbX X (.type "int") intD := by
  refine ⟨_, call_int1, ?_⟩
  intro B G0 G H σ env vs ds d Q c r h k
  unfold intD at h
  split at h
  · cases h
    cases r with
    | cons r1 r2 =>
      cases r2; cases r1
      exact .inl ⟨_, rfl, k _ H G (Same.refl G) c (.int _)⟩
  · cases h
    cases r with
    | cons r1 r2 =>
      cases r2; cases r1
      exact .inr ⟨_, rfl, k _ H G (Same.refl G) c (.int _)⟩
  · cases h
theorem cx_intS : CbX X (.type "int") intSD := by
  refine ⟨_, call_int_str, ?_⟩
  intro B G0 G H σ env vs ds d Q c r h k
  unfold intSD at h
  split at h
  · split at h
    · split at h
      · rename_i s n hn hl
        cases h
        cases r with
        | cons r1 r2 =>
          cases r2; cases r1
          exact ⟨_, _, rfl, hn, hl, k _ H G (Same.refl G) c (.int _)⟩
      · cases h
    · cases h
  · cases h
theorem cx_tup : CbX X (.type "tuple") tupD := by
  refine ⟨_, call_tuple_of, ?_⟩
  intro B G0 G H σ env vs ds d Q c r h k
  unfold tupD at h
  split at h
  · cases h
    cases r with
    | cons r1 r2 =>
      cases r2
      cases r1 with
      | lst g1 g2 =>
        refine ⟨_, _, rfl, .inl ⟨.inl (.inl (c.exG _ _ g1)), fun q hq => ?_⟩⟩
        have gq := c.exG.free hq
        exact k _ _ (upd G q _) (same_upd gq) (c.laid hq) (.tup upd_same (g2.up (same_upd gq)))
  · cases h
    cases r with
    | cons r1 r2 =>
      cases r2
      cases r1 with
      | tup g1 g2 => exact ⟨_, _, rfl, .inr ⟨.inl (.inl (c.exG _ _ g1)), k _ H G (Same.refl G) c (.tup g1 g2)⟩⟩
  · cases h
/-- list(x): a new list -/
@[simp] def lOf (f : DEnv → M D) (env : DEnv) : M (List D) := (f env).bind fun d => match d with
  | .lst xs => .ok xs
  | .tup xs => .ok xs
  | _ => .no
theorem dl_list {x : Expr} (hm : X.mg "list" = none) (h : DE X W x f) (hg : Gl X "list" := by rfl) (hs : starEach [x] X.env = (false, eval x X.env) :: starEach [] X.env := by rfl) (hpl : (backTo pos (starEach [] X.env)).any (·.1) = false := by rfl) :
    DLs X W (.Call (.Name "list" p) [x] [] pos) (lOf f) := by
  obtain ⟨_, a1, a2⟩ := h.ex
  refine ⟨_, pe_callTy call_list_of hg hm boot_list (pa_cons a1 pa_nil hs) (by decide) (by decide) hs hpl, fun B G0 G H σ env Q c p => ?_⟩
  refine a2 B G0 G H σ env _ c ?_
  simp only [lOf] at p
  cases o : f env with
  | no => rw [o] at p; exact p
  | ex n => rw [o] at p; exact p
  | ok d =>
    rw [o] at p
    intro v H1 G1 s1 c1 r1
    cases d with
    | lst xs =>
      cases r1 with
      | lst g1 g2 => exact ⟨_, _, rfl, .inl (.inl (.inl (c1.exG _ _ g1))), fun q hq => p q _ H1 G1 s1 c1 hq g2⟩
    | tup xs =>
      cases r1 with
      | tup g1 g2 => exact ⟨_, _, rfl, .inr (.inl (.inl (c1.exG _ _ g1))), fun q hq => p q _ H1 G1 s1 c1 hq g2⟩
    | int i => exact p.elim
    | non => exact p.elim
    | bl _ => exact p.elim
    | str _ => exact p.elim
    | scr _ => exact p.elim
/-! ### isinstance -/
def tyN : D → Option String
  | .non => some "NoneType"
  | .bl _ => some "bool"
  | .int _ => some "int"
  | .str _ => some "str"
  | .lst _ => some "list"
  | .tup _ => some "tuple"
  | .scr _ => none
def isiD (T : String) (d : D) : Option D := (tyN d).bind fun t => (kitB t T).map D.bl
theorem tyx_of {K : KW} {G H : Hp} {v : V} {d : D} {t : String} (s : Same G H) (r : Rep K G v d) (h : tyN d = some t) : TyX K.k H v (.type t) := by
  cases r <;> simp only [tyN, Option.some.injEq] at h <;> first | (subst h) | cases h
  · exact .base .non
  · exact .base (.bl _)
  · exact .base (.int _)
  · exact .base (.str _)
  · rename_i g1 _; exact .base (.lst (s _ _ g1))
  · rename_i g1 _; exact .base (.tup (s _ _ g1))
theorem de_isi {T : String} {x : Expr} {tn : Str} {pt : Pos} (hT : bootBuiltins tn = some (.type T)) (hm : X.mg "isinstance" = none) (hmt : X.mg tn = none) (h : DE X W x f) (hg : Gl X "isinstance" := by rfl) (hgt : Gl X tn := by rfl)
    (hs : starEach [x, .Name tn pt] X.env = (false, eval x X.env) :: starEach [.Name tn pt] X.env := by rfl) (hs2 : starEach [.Name tn pt] X.env = (false, eval (.Name tn pt) X.env) :: starEach [] X.env := by rfl)
    (hpl : (backTo pos (starEach [.Name tn pt] X.env)).any (·.1) = false := by rfl) (hn : tn ≠ "__name__" := by decide) (hd : (tn == ("__debug__" : Str)) = false := by decide) :
    DE X W (.Call (.Name "isinstance" p) [x, .Name tn pt] [] pos) (xUn (isiD T) f) := by
  obtain ⟨_, a1, a2⟩ := h.ex
  refine ⟨_, pe_callB call_isi hg hm boot_isinstance (pa_cons a1 (pa_cons (pe_bltn (v := .ty T) hgt hmt hT rfl hn hd) pa_nil hs2) hs) (by decide) (by decide) hs hpl, fun B G0 G H σ env Q c p => ?_⟩
  refine a2 B G0 G H σ env _ c ?_
  simp only [xUn] at p
  cases o : f env with
  | no => rw [o] at p; exact p
  | ex n => rw [o] at p; exact p
  | ok d =>
    rw [o] at p
    intro v H1 G1 s1 c1 r1
    simp only [M.bind] at p
    unfold isiD at p
    cases q : tyN d with
    | none => rw [q] at p; exact p.elim
    | some t =>
      rw [q] at p
      cases q2 : kitB t T with
      | none => simp [q2, PoE] at p
      | some b =>
        simp only [q2, Option.bind_some, Option.map_some, M.of] at p
        exact ⟨v, .ty T, _, _, b, rfl, .ty T, tyx_of c1.exG r1 q, kit_ty q2, p _ H1 G1 s1 c1 (.bl b)⟩
/-! ### and, or, not as values -/
@[simp] def xAnd (f g : DEnv → M D) (env : DEnv) : M D := (f env).bind fun d => match d with
  | .bl true => g env
  | .bl false => .ok (.bl false)
  | _ => .no
@[simp] def xOr (f g : DEnv → M D) (env : DEnv) : M D := (f env).bind fun d => match d with
  | .bl true => .ok (.bl true)
  | .bl false => g env
  | _ => .no
@[simp] def notD : D → Option D
  | .bl b => some (.bl (!b))
  | _ => none
theorem de_one {op} (h : DE X W a f) : DE X W (.BoolOp op [a] pos) f := by
  obtain ⟨_, a1, a2⟩ := h.ex
  exact ⟨_, pe_one a1, a2⟩
theorem de_and {rest : List Expr} (ha : DE X W a f) (hb : DE X W (.BoolOp .And (b :: rest) pos) g) : DE X W (.BoolOp .And (a :: b :: rest) pos) (xAnd f g) := by
  obtain ⟨_, a1, a2⟩ := ha.ex
  obtain ⟨_, b1, b2⟩ := hb.ex
  refine ⟨_, pe_and a1 b1, fun B G0 G H σ env Q c p => ?_⟩
  refine a2 B G0 G H σ env _ c ?_
  simp only [xAnd] at p
  cases o : f env with
  | no => rw [o] at p; exact p
  | ex n => rw [o] at p; exact p
  | ok d =>
    rw [o] at p
    intro v H1 G1 s1 c1 r1
    cases d with
    | bl k =>
      cases r1
      cases k with
      | true =>
        refine ⟨true, rfl, iteT (b2 B G0 G1 H1 σ env _ c1 ?_)⟩
        simp only [M.bind] at p
        cases o2 : g env with
        | no => rw [o2] at p; exact p
        | ex n => rw [o2] at p; exact p
        | ok d => rw [o2] at p; exact fun v H2 G2 s2 => p v H2 G2 (s1.trans s2)
      | false => exact ⟨false, rfl, iteF (p _ H1 G1 s1 c1 (.bl false))⟩
    | int i => exact p.elim
    | non => exact p.elim
    | str _ => exact p.elim
    | lst _ => exact p.elim
    | tup _ => exact p.elim
    | scr _ => exact p.elim
theorem de_or {rest : List Expr} (ha : DE X W a f) (hb : DE X W (.BoolOp .Or (b :: rest) pos) g) : DE X W (.BoolOp .Or (a :: b :: rest) pos) (xOr f g) := by
  obtain ⟨_, a1, a2⟩ := ha.ex
  obtain ⟨_, b1, b2⟩ := hb.ex
  refine ⟨_, pe_or a1 b1, fun B G0 G H σ env Q c p => ?_⟩
  refine a2 B G0 G H σ env _ c ?_
  simp only [xOr] at p
  cases o : f env with
  | no => rw [o] at p; exact p
  | ex n => rw [o] at p; exact p
  | ok d =>
    rw [o] at p
    intro v H1 G1 s1 c1 r1
    cases d with
    | bl k =>
      cases r1
      cases k with
      | false =>
        refine ⟨false, rfl, iteF (b2 B G0 G1 H1 σ env _ c1 ?_)⟩
        simp only [M.bind] at p
        cases o2 : g env with
        | no => rw [o2] at p; exact p
        | ex n => rw [o2] at p; exact p
        | ok d => rw [o2] at p; exact fun v H2 G2 s2 => p v H2 G2 (s1.trans s2)
      | true => exact ⟨true, rfl, iteT (p _ H1 G1 s1 c1 (.bl true))⟩
    | int i => exact p.elim
    | non => exact p.elim
    | str _ => exact p.elim
    | lst _ => exact p.elim
    | tup _ => exact p.elim
    | scr _ => exact p.elim
theorem de_not (ha : DE X W a f) : DE X W (.UnaryOp .Not a pos) (xUn notD f) := by
  obtain ⟨_, a1, a2⟩ := ha.ex
  refine ⟨_, pe_not a1, fun B G0 G H σ env Q c p => ?_⟩
  refine a2 B G0 G H σ env _ c ?_
  simp only [xUn] at p
  cases o : f env with
  | no => rw [o] at p; exact p
  | ex n => rw [o] at p; exact p
  | ok d =>
    rw [o] at p
    intro v H1 G1 s1 c1 r1
    cases d with
    | bl k => cases r1; exact ⟨k, rfl, p _ H1 G1 s1 c1 (.bl _)⟩
    | int i => exact p.elim
    | non => exact p.elim
    | str _ => exact p.elim
    | lst _ => exact p.elim
    | tup _ => exact p.elim
    | scr _ => exact p.elim
@[simp] def negD : D → Option D
  | .int i => some (.int (-i))
  | _ => none
theorem de_neg (ha : DE X W a f) : DE X W (.UnaryOp .USub a pos) (xUn negD f) := by
  obtain ⟨_, a1, a2⟩ := ha.ex
  refine ⟨_, pe_un un_neg a1, a2.un ?_⟩
  intro B G0 G H σ env x a d Q c r h k
  cases a with
  | int i => cases r; cases h; exact ⟨i, rfl, k _ H G (Same.refl G) c (.int _)⟩
  | bl _ => cases h
  | non => cases h
  | str _ => cases h
  | lst _ => cases h
  | tup _ => cases h
  | scr _ => cases h
end
end DL

namespace DL
open PySem PySem.Spec PyProof.Rows L2

/-! ### comprehensions -/
def wipeE (env : DEnv) : List Nat → DEnv
  | [] => env
  | v :: vs => (wipeE env vs).set v .un
theorem wipeE_len (env : DEnv) : ∀ vs, (wipeE env vs).length = env.length
  | [] => rfl
  | v :: vs => by unfold wipeE; rw [List.length_set, wipeE_len env vs]
theorem wipeE_out {env : DEnv} {i : Nat} : ∀ {vs : List Nat}, i ∉ vs → (wipeE env vs)[i]? = env[i]?
  | [], _ => rfl
  | v :: vs, h => by
    unfold wipeE
    rw [List.getElem?_set_ne (fun z => h (by simp [z])), wipeE_out (fun z => h (List.mem_cons_of_mem _ z))]
theorem wipeE_in {env : DEnv} {i : Nat} : ∀ {vs : List Nat}, i ∈ vs → i < env.length → (wipeE env vs)[i]? = some .un
  | v :: vs, h, hl => by
    unfold wipeE
    by_cases e : v = i
    · subst e; rw [List.getElem?_set_self (by rw [wipeE_len]; exact hl)]
    · rw [List.getElem?_set_ne e]
      rcases List.mem_cons.mp h with z | z
      · exact absurd z.symm e
      · exact wipeE_in z hl
theorem wipe_in {σ : L2.St} {i : Nat} : ∀ {vs : List Nat}, i ∈ vs → i < σ.length → (wipe σ vs)[i]? = some none
  | v :: vs, h, hl => by
    unfold wipe
    by_cases e : v = i
    · subst e; rw [List.getElem?_set_self (by rw [wipe_length]; exact hl)]
    · rw [List.getElem?_set_ne e]
      rcases List.mem_cons.mp h with z | z
      · exact absurd z.symm e
      · exact wipe_in z hl
theorem wipe_eq {σ σ2 : L2.St} {vs : List Nat} (hl : σ2.length = σ.length) (h : ∀ i, i ∉ vs → σ2[i]? = σ[i]?) : wipe σ2 vs = wipe σ vs := by
  refine List.ext_getElem? fun i => ?_
  by_cases hi : i ∈ vs
  · by_cases hr : i < σ.length
    · rw [wipe_in hi hr, wipe_in hi (by omega)]
    · rw [List.getElem?_eq_none (by rw [wipe_length]; omega), List.getElem?_eq_none (by rw [wipe_length]; omega)]
  · rw [wipe_out hi, wipe_out hi, h i hi]

/-! canonical readings: they don't lean on the context -/
def tEF (K : KW) (mg : Str → Option Value) (W : WX) (f : DEnv → M D) : TE := fun σ H Q => ∃ B G0 G env, Cn K B G0 G σ H env ∧ PoE K mg W B G0 G σ env Q (f env)
def tTF (K : KW) (mg : Str → Option Value) (W : WX) (f : DEnv → M Bool) : TT := fun σ H Q => ∃ B G0 G env, Cn K B G0 G σ H env ∧ PoT K mg W B G0 G σ env Q (f env)
def gF (K : KW) (is : List Nat) (h : DTgt) : TG := fun v σ H Q => ∃ B G0 G env e' d, Cn K B G0 G σ H env ∧ Rep K G v d ∧ h d env = some e' ∧ (∀ σ' H' G', Same G G' → Cn K B G0 G' σ' H' e' → But is σ σ' env e' → Q σ' H')
abbrev W0 : WX := fun _ _ _ _ => False
section
variable {X : Cx} {W : WX} {e : Expr}
theorem DE.canon {f : DEnv → M D} (h : DE X W e f) : PE X e (tEF (kw X) X.mg W f) := by
  obtain ⟨te, a1, a2⟩ := h.ex
  exact ⟨fun pins s σ H Q I ⟨B, G0, G, env, c, p⟩ => a1.run pins s σ H Q I (a2 B G0 G H σ env Q c p)⟩
theorem DT.canon {f : DEnv → M Bool} (h : DT X W e f) : PT X e (tTF (kw X) X.mg W f) := by
  obtain ⟨te, a1, a2⟩ := h.ex
  exact ⟨fun pins s σ H Q I ⟨B, G0, G, env, c, p⟩ => a1.run pins s σ H Q I (a2 B G0 G H σ env Q c p)⟩
theorem DG.canon {is : List Nat} {h : DTgt} (g : DG X is e h) : PG X e (gF (kw X) is h) := by
  obtain ⟨te, a1, a2⟩ := g.ex
  exact ⟨fun pins s σ H v u Q I r ⟨B, G0, G, env, e', d, c, rv, he, k⟩ => a1.run pins s σ H v u Q I r (a2 c rv he k)⟩
end

def cLoop (t : DTgt) (c : DEnv → M Bool) (f : DEnv → M D) (e0 : DEnv) : List D → M (List D)
  | [] => .ok []
  | d :: ds => match t d e0 with
    | none => .no
    | some e => match c e with
      | .ok true => match f e with
        | .ok y => match cLoop t c f e0 ds with
          | .ok ys => .ok (y :: ys)
          | _ => .no
        | _ => .no
      | .ok false => cLoop t c f e0 ds
      | _ => .no
def Cel.isOwned : Cel → Bool
  | .own _ => true
  | .dic _ => true
  | _ => false
@[simp] def lComp (vs : List Nat) (it : DEnv → M (List D)) (t : DTgt) (c : DEnv → M Bool) (f : DEnv → M D) (env : DEnv) : M (List D) :=
  (it env).bind fun ds => if ds.length < sizeLine ∧ (vs.all fun i => match env[i]? with | some s => !s.isOwned | none => true) = true then (match cLoop t c f (wipeE env vs) ds with | .ok ys => .ok ys | _ => .no) else .no
theorem cLoop_len {t : DTgt} {c : DEnv → M Bool} {f : DEnv → M D} {e0 : DEnv} : ∀ {ds ys : List D}, cLoop t c f e0 ds = .ok ys → ys.length ≤ ds.length
  | [], ys, h => by cases h; exact Nat.le_refl _
  | d :: ds, ys, h => by
    unfold cLoop at h
    split at h
    · cases h
    · split at h
      · split at h
        · split at h
          · rename_i q
            cases h
            have := cLoop_len q
            simp only [List.length_cons]
            omega
          · cases h
        · cases h
      · have := cLoop_len h
        simp only [List.length_cons]
        omega
      · cases h
section
variable {K : KW} {B B' G0 G G' H H' : Hp} {σ σ2 : L2.St} {env e' : DEnv} {p : Addr} {o : HO}
/-- no own thing of the slots stands at p -/
def Apart (σ : L2.St) (env : DEnv) (p : Addr) : Prop := ∀ (i : Nat) (s : Cel), env[i]? = some s → s.owned → σ[i]? ≠ some (some (.ref p))
theorem Cn.apart (c : Cn K B G0 G σ H env) (hp : H p = none) : Apart σ env p := fun i s e ho q => by
  obtain ⟨o, e1, h⟩ := c.cel i s e
  rw [q] at e1
  cases e1
  cases s with
  | un => exact ho
  | dat d => exact ho
  | own xs => obtain ⟨p', vs, e2, _, _, hp', _⟩ := h; cases e2; rw [hp] at hp'; cases hp'
  | dic xs => obtain ⟨p', vs, e2, _, _, hp', _⟩ := h; cases e2; rw [hp] at hp'; cases hp'
theorem Cn.cels (c : Cn K B G0 G σ H env) (ap : Apart σ env p) (hH : ∀ a, a ≠ p → H' a = H a) (hB : ∀ a, a ≠ p → B' a = B a) : ∀ (i : Nat) (s : Cel), env[i]? = some s → ∃ o, σ[i]? = some o ∧ CelAt K B' G H' s o := fun i s e => by
  obtain ⟨o, e1, h⟩ := c.cel i s e
  refine ⟨o, e1, ?_⟩
  cases s with
  | un => trivial
  | dat d => exact h
  | own xs =>
    obtain ⟨q, vs, e2, gp, bp, hp', r⟩ := h
    have ne : q ≠ p := fun z => ap i _ e trivial (by rw [e1, e2, z])
    exact ⟨q, vs, e2, gp, by rw [hB _ ne]; exact bp, by rw [hH _ ne]; exact hp', r⟩
  | dic xs =>
    obtain ⟨q, vs, e2, gp, bp, hp', r⟩ := h
    have ne : q ≠ p := fun z => ap i _ e trivial (by rw [e1, e2, z])
    exact ⟨q, vs, e2, gp, by rw [hB _ ne]; exact bp, by rw [hH _ ne]; exact hp', r⟩
/-- the thing at p, which nobody knows, is kept through what follows -/
theorem Cn.under (c : Cn K B G0 G σ H env) (hp : H p = some o) (gp : G p = none) (ap : Apart σ env p) : Cn K (upd B p o) G G σ H env where
  len := c.len
  exB := fun a x e => by
    by_cases z : a = p
    · subst z; rw [upd_same] at e; cases e; exact hp
    · rw [upd_ne z] at e; exact c.exB _ _ e
  exG := c.exG
  ex0 := Same.refl G
  new := fun a h => .inl h
  cel := c.cels ap (fun a z => rfl) fun a z => upd_ne z
  sep := c.sep
/-- the thing at p, which nobody knows, is changed -/
theorem Cn.poke (c : Cn K B G0 G σ H env) (gp : G p = none) (bp : B p = none) (ap : Apart σ env p) : Cn K B G0 G σ (upd H p o) env where
  len := c.len
  exB := fun a x e => by rw [upd_ne (ne_of_none e bp)]; exact c.exB _ _ e
  exG := fun a x e => by rw [upd_ne (ne_of_none e gp)]; exact c.exG _ _ e
  ex0 := c.ex0
  new := c.new
  cel := c.cels ap (fun a z => upd_ne z) fun a z => rfl
  sep := c.sep
def less (H : Hp) (p : Addr) : Hp := fun a => if a = p then none else H a
theorem less_ne {a : Addr} (h : a ≠ p) : less H p a = H a := by unfold less; rw [if_neg h]
theorem less_self : less H p p = none := by unfold less; rw [if_pos rfl]
theorem upd_less (h : H p = some o) : upd (less H p) p o = H := by
  funext a
  by_cases z : a = p
  · subst z; rw [upd_same, h]
  · rw [upd_ne z, less_ne z]
/-- .. is forgotten -/
theorem Cn.minus (c : Cn K B G0 G σ H env) (gp : G p = none) (bp : B p = none) (ap : Apart σ env p) : Cn K B G0 G σ (less H p) env where
  len := c.len
  exB := fun a x e => by rw [less_ne (ne_of_none e bp)]; exact c.exB _ _ e
  exG := fun a x e => by rw [less_ne (ne_of_none e gp)]; exact c.exG _ _ e
  ex0 := c.ex0
  new := c.new
  cel := c.cels ap (fun a z => less_ne z) fun a z => rfl
  sep := c.sep
/-- from the block back to the def -/
theorem Cn.back {vs is : List Nat} (c0 : Cn K B G0 G σ H env) (bp : B p = none) (c1 : Cn K (upd B p o) G G' σ2 H' e') (sub : ∀ i ∈ is, i ∈ vs) (bt : But is (wipe σ vs) σ2 (wipeE env vs) e')
    (no : ∀ i ∈ vs, ∀ s, env[i]? = some s → s.isOwned = false) : Cn K B G0 G' σ H' env where
  len := c0.len
  exB := (same_upd bp).trans c1.exB
  exG := c1.exG
  ex0 := c0.ex0.trans c1.ex0
  new := fun a h => by
    rcases c1.new a h with z | z
    · exact c0.new a z
    · exact .inr ((same_upd bp).free z)
  cel := fun i s e => by
    obtain ⟨o0, e0, h0⟩ := c0.cel i s e
    refine ⟨o0, e0, ?_⟩
    by_cases hi : i ∈ vs
    · have q := no i hi s e
      cases s with
      | un => trivial
      | dat d => obtain ⟨v, e2, r⟩ := h0; exact ⟨v, e2, r.up c1.ex0⟩
      | own xs => cases q
      | dic xs => cases q
    · obtain ⟨b1, b2⟩ := bt.2 i fun z => hi (sub i z)
      rw [wipeE_out hi] at b1
      rw [wipe_out hi] at b2
      obtain ⟨o1, e1, h1⟩ := c1.cel i s (b1.trans e)
      rw [b2, e0] at e1
      cases e1
      cases s with
      | un => trivial
      | dat d => exact h1
      | own xs => obtain ⟨q, vs, e2, gp, bp', hp', r⟩ := h1; exact ⟨q, vs, e2, gp, (same_upd bp).free bp', hp', r⟩
      | dic xs => obtain ⟨q, vs, e2, gp, bp', hp', r⟩ := h1; exact ⟨q, vs, e2, gp, (same_upd bp).free bp', hp', r⟩
  sep := c0.sep
theorem Cn.wiped (c : Cn K B G0 G σ H env) (vs : List Nat) : Cn K B G0 G (wipe σ vs) H (wipeE env vs) := by
  refine c.weak (by rw [wipe_length, wipeE_len, c.len]) fun i s e => ?_
  by_cases hi : i ∈ vs
  · have hl : i < env.length := by
      have := (List.getElem?_eq_some_iff.mp e).1
      rw [wipeE_len] at this
      exact this
    rw [wipeE_in hi hl] at e
    cases e
    exact .inl rfl
  · rw [wipeE_out hi] at e
    exact .inr ⟨e, wipe_out hi⟩
end
section
variable {K : KW} {mg : Str → Option Value} {W : WX}
theorem RdL.comp {wi : TI} {it : DEnv → M (List D)} {t : DTgt} {c : DEnv → M Bool} {f : DEnv → M D} {is vs : List Nat} (hi : RdI K mg W wi it) (sub : ∀ i ∈ is, i ∈ vs) :
    RdL K mg W (tLc wi (gF K is t) (tTF K mg W0 c) (tEF K mg W0 f) vs) (lComp vs it t c f) := by
  intro B G0 G H σ env Q cn po
  refine hi B G0 G H σ env _ cn ?_
  simp only [lComp] at po
  cases o : it env with
  | no => rw [o] at po; exact po
  | ex n => rw [o] at po; exact po
  | ok ds =>
    rw [o] at po
    simp only [M.bind] at po
    intro J H1 G1 s1 c1 jok
    split at po
    · rename_i hcond
      obtain ⟨hlen, hno⟩ := hcond
      have no : ∀ i ∈ vs, ∀ s, env[i]? = some s → s.isOwned = false := fun i hi s e => by
        have q := List.all_eq_true.mp hno i hi
        rw [e] at q
        simpa using q
      cases q : cLoop t c f (wipeE env vs) ds with
      | no => rw [q] at po; exact po.elim
      | ex n => rw [q] at po; exact po.elim
      | ok total =>
        rw [q] at po
        intro Dl hD
        have ap : Apart σ env Dl := c1.apart hD
        have bD : B Dl = none := c1.exB.free hD
        have gD : G1 Dl = none := c1.exG.free hD
        refine ⟨fun i m H => m = ds.length - i ∧ ∃ G2 acc ys zs, Same G1 G2 ∧ Cn K B G0 G2 σ H env ∧ H Dl = some (.lst acc) ∧ G2 Dl = none ∧ Reps K G2 acc ys ∧ ys.length ≤ i ∧ cLoop t c f (wipeE env vs) (ds.drop i) = .ok zs ∧ total = ys ++ zs,
          ⟨ds.length, rfl, G1, [], [], total, Same.refl _, c1.poke gD bD ap, upd_same, gD, .nil, Nat.zero_le _, q, rfl⟩, ?_⟩
        rintro i m H2 ⟨rfl, G2, acc, ys, zs, s2, c2, hD2, gD2, ra, hys, hz, ht⟩
        by_cases hi : i < ds.length
        · have hd : ds[i]? = some ds[i] := List.getElem?_eq_getElem hi
          obtain ⟨j1, _⟩ := jok B G0 G2 σ H2 env i s2 c2
          obtain ⟨go, _⟩ := j1 _ hd
          rw [List.drop_eq_getElem_cons hi] at hz
          refine .inr ⟨go, fun H => ∃ G2 acc ys zs, Same G1 G2 ∧ Cn K B G0 G2 σ H env ∧ H Dl = some (.lst acc) ∧ G2 Dl = none ∧ Reps K G2 acc ys ∧ ys.length ≤ i + 1 ∧ cLoop t c f (wipeE env vs) (ds.drop (i + 1)) = .ok zs ∧ total = ys ++ zs,
            fun H' h => ⟨ds.length - (i + 1), by omega, rfl, h⟩, fun x H3 y => ?_⟩
          have cU := c2.under hD2 gD2 ap
          obtain ⟨k1, _⟩ := jok (upd B Dl (.lst acc)) G2 G2 σ H2 env i s2 cU
          obtain ⟨G3, s3, c3, r3⟩ := (k1 _ hd).2 x H3 y
          have key : ∀ {G4 : Hp} {σ' : L2.St} {H4 : Hp} {e4 : DEnv}, Cn K (upd B Dl (.lst acc)) G2 G4 σ' H4 e4 → G4 Dl = none := fun {G4 σ' H4 e4} c4 => by
            cases z : G4 Dl with
            | none => rfl
            | some w =>
              rcases c4.new Dl (by rw [z]; intro k; cases k) with k | k
              · exact absurd gD2 k
              · rw [upd_same] at k; cases k
          unfold cLoop at hz
          cases kt : t ds[i] (wipeE env vs) with
          | none => rw [kt] at hz; cases hz
          | some e1 =>
            rw [kt] at hz
            refine ⟨upd B Dl (.lst acc), G2, G3, wipeE env vs, e1, ds[i], c3.wiped vs, r3, kt, fun σ4 H4 G4 s4 c4 bt => ⟨wipe_eq ?_ ?_, ?_⟩⟩
            · rw [c4.len, bt.1, wipeE_len, c2.len]
            · intro j hj
              rw [(bt.2 j fun z => hj (sub j z)).2, wipe_out hj]
            · refine ⟨upd B Dl (.lst acc), G2, G4, e1, c4, ?_⟩
              simp only at hz
              cases kc : c e1 with
              | no => rw [kc] at hz; cases hz
              | ex n => rw [kc] at hz; cases hz
              | ok b =>
                rw [kc] at hz
                intro H5 G5 s5 c5
                cases b with
                | false =>
                  refine iteF ⟨G5, acc, ys, zs, s2.trans ((s3.trans s4).trans s5), c2.back bD c5 sub bt no, c5.exB _ _ upd_same, key c5, ra.up ((s3.trans s4).trans s5), by omega, hz, ht⟩
                | true =>
                  refine iteT ⟨upd B Dl (.lst acc), G2, G5, e1, c5, ?_⟩
                  simp only at hz
                  cases kf : f e1 with
                  | no => rw [kf] at hz; cases hz
                  | ex n => rw [kf] at hz; cases hz
                  | ok y =>
                    rw [kf] at hz
                    intro v H6 G6 s6 c6 r6
                    simp only at hz
                    cases kl : cLoop t c f (wipeE env vs) (ds.drop (i + 1)) with
                    | no => rw [kl] at hz; cases hz
                    | ex n => rw [kl] at hz; cases hz
                    | ok zs' =>
                      rw [kl] at hz
                      cases hz
                      have cB := c2.back bD c6 sub bt no
                      have s26 := ((s3.trans s4).trans s5).trans s6
                      refine ⟨acc, c6.exB _ _ upd_same, by rw [ra.length]; omega, G6, acc ++ [v], ys ++ [y], zs', s2.trans s26, cB.poke (key c6) bD ap, upd_same, key c6, (ra.up s26).append (.one r6), (by simp; omega), rfl, (by rw [ht]; simp)⟩
        · refine .inl ⟨(jok B G0 G2 σ H2 env i s2 c2).2 (by omega), ?_⟩
          rw [List.drop_of_length_le (by omega)] at hz
          cases hz
          rw [List.append_nil] at ht
          subst ht
          have z := po Dl acc (less H2 Dl) G2 (s1.trans s2) (c2.minus gD2 bD ap) less_self ra
          rw [upd_less hD2] at z
          exact z
    · exact po.elim
end
section
variable {X : Cx} {W : WX} {elt tg iter c : Expr}
/-- [elt for tg in iter] -/
theorem dl_comp {scope : Scope} {own : List (Str × Nat)} {pos : Pos} {it : DEnv → M (List D)} {t : DTgt} {f : DEnv → M D} {is : List Nat} (own' : List (Str × Nat)) (ho : own' = own) (hc : X.calm = true) (hN : X.N.Nodup) (hi : DI X W tg iter it) (ok : BlkOk X.N X.env.scope scope own)
    (hg : ∀ (s : Shared) (H : Hp) (C : Addr) (cl : List (Str × Addr)) (fp : List Addr), DG (X.blk s H scope (compEnvC scope cl C X.env) fp) is tg t)
    (he : ∀ (s : Shared) (H : Hp) (C : Addr) (cl : List (Str × Addr)) (fp : List Addr), DE (X.blk s H scope (compEnvC scope cl C X.env) fp) W0 elt f)
    (sub : ∀ i ∈ is, i ∈ own.map (·.2)) (hs : ∀ x, foldedSetIterable iter X.env x = pure x := by intro _; rfl) :
    DLs X W (.ListComp elt [⟨tg, iter, [], 0⟩] scope pos) (lComp (own.map (·.2)) it t (fun _ => .ok true) f) := by
  obtain ⟨wi, i1, i2⟩ := hi.ex
  refine ⟨_, pe_lc (tt := tTF (kw X) X.mg W0 (fun _ => .ok true)) hc hN i1 ok (fun s H C cl fp => (hg s H C cl fp).canon) (fun s H C cl fp => ?_) (fun s H C cl fp => (he s H C cl fp).canon) hs, RdL.comp i2 sub⟩
  exact ⟨fun pins s σ H Q I ⟨B, G0, G, env, cn, p⟩ => wpAny_tests_nil ⟨H, I, p H G (Same.refl G) cn⟩⟩
/-- [elt for tg in iter if c] -/
theorem dl_compIf {scope : Scope} {own : List (Str × Nat)} {pos : Pos} {it : DEnv → M (List D)} {t : DTgt} {k : DEnv → M Bool} {f : DEnv → M D} {is : List Nat} (own' : List (Str × Nat)) (ho : own' = own) (hc : X.calm = true) (hN : X.N.Nodup) (hi : DI X W tg iter it) (ok : BlkOk X.N X.env.scope scope own)
    (hg : ∀ (s : Shared) (H : Hp) (C : Addr) (cl : List (Str × Addr)) (fp : List Addr), DG (X.blk s H scope (compEnvC scope cl C X.env) fp) is tg t)
    (ht : ∀ (s : Shared) (H : Hp) (C : Addr) (cl : List (Str × Addr)) (fp : List Addr), DT (X.blk s H scope (compEnvC scope cl C X.env) fp) W0 c k)
    (he : ∀ (s : Shared) (H : Hp) (C : Addr) (cl : List (Str × Addr)) (fp : List Addr), DE (X.blk s H scope (compEnvC scope cl C X.env) fp) W0 elt f)
    (sub : ∀ i ∈ is, i ∈ own.map (·.2)) (hs : ∀ x, foldedSetIterable iter X.env x = pure x := by intro _; rfl) :
    DLs X W (.ListComp elt [⟨tg, iter, [c], 0⟩] scope pos) (lComp (own.map (·.2)) it t k f) := by
  obtain ⟨wi, i1, i2⟩ := hi.ex
  exact ⟨_, pe_lc hc hN i1 ok (fun s H C cl fp => (hg s H C cl fp).canon) (fun s H C cl fp => pts_one (ht s H C cl fp).canon) (fun s H C cl fp => (he s H C cl fp).canon) hs, RdL.comp i2 sub⟩
end
end DL

namespace DL
open PySem PySem.Spec PyProof.Rows L2

/-! ### raise -/
/-- the own exception class that the module's name x holds -/
structure ExcF (K : PySem.W.Frag) (mg : Str → Option Value) (x : Str) : Prop where
  ex : ∃ C, mg x = some (.ref C) ∧ PySem.W.excIn K C [.type "ValueError", .type "Exception", .type "BaseException", .type "object"] "ValueError.__new__" = true ∧ PySem.W.keepIn K (.ref C) = true ∧
    PySem.W.subIn K (.ref C) (.type "BaseException") = some true ∧ PySem.W.typeIn K (.ref C) = some (.type "type")
@[simp] def sRaise (c : Str) : DStm := fun env => .ex c env
section
variable {X : Cx} {W : WX} {e : Expr} {f g : DEnv → M D} {pos p : Pos}
theorem ds_raise {x m : Str} {j : Nat} {p p2 pos pos2 : Pos} (T : ExcF X.K X.mg x) (tk : Takes X W) (hc : X.calm = true := by rfl) (hg : Gl X x := by rfl) (hdb : (x == ("__debug__" : Str)) = false := by decide) :
    DS X W (.Raise (some (.Call (.Name x p) [.Constant (.str m) j p2] [] pos)) none pos2) (sRaise x) := by
  obtain ⟨C, h1, h2, h3, h4, h5⟩ := T.ex
  refine ⟨_, ps_raise hc tk (pmk_own PySem.F.excBase_ValueError h2 h1 h3 (raises_own h4 h5) hg hdb), fun B G0 G H σ env E c po => ?_⟩
  exact po _ σ H G h1 c
/-! ### name = [..] -/
theorem ds_setC (i : Nat) {x : Str} {pos' : Pos} {elt tg iter : Expr} {ifs : List Expr} {scope : Scope} {own : List (Str × Nat)} {it : DEnv → M (List D)} {t : DTgt} {k : DEnv → M Bool} {is : List Nat} (hN : X.N.Nodup) (hc : X.calm = true) (hx : X.env.scope.names.lookup x = some .local) (hsw : swapsWith (.ListComp elt [⟨tg, iter, ifs, 0⟩] scope p) (some (.Name x pos')) pos.line X.env = pure true)
    (hi : DI X W tg iter it) (ok : BlkOk X.N X.env.scope scope own)
    (hg : ∀ (s : Shared) (H : Hp) (C : Addr) (cl : List (Str × Addr)) (fp : List Addr), DG (X.blk s H scope (compEnvC scope cl C X.env) fp) is tg t)
    (ht : ∀ (s : Shared) (H : Hp) (C : Addr) (cl : List (Str × Addr)) (fp : List Addr), PTs (X.blk s H scope (compEnvC scope cl C X.env) fp) ifs (tTF (kw X) X.mg W0 k))
    (he : ∀ (s : Shared) (H : Hp) (C : Addr) (cl : List (Str × Addr)) (fp : List Addr), DE (X.blk s H scope (compEnvC scope cl C X.env) fp) W0 elt f)
    (sub : ∀ i ∈ is, i ∈ own.map (·.2)) (hn : X.N[i]? = some x := by rfl) (hs : ∀ x, foldedSetIterable iter X.env x = pure x := by intro _; rfl) :
    DS X W (.Assign [.Name x pos'] (.ListComp elt [⟨tg, iter, ifs, 0⟩] scope p) pos) (sSet i (xL (lComp (own.map (·.2)) it t k f))) := by
  obtain ⟨wi, i1, i2⟩ := hi.ex
  refine ⟨_, ps_setLc (g := gF (kw X) is t) (tt := tTF (kw X) X.mg W0 k) (te := tEF (kw X) X.mg W0 f) hc hN hn hx hsw i1 ok (fun s H C cl fp => (hg s H C cl fp).canon) ht (fun s H C cl fp => (he s H C cl fp).canon) hs, fun B G0 G H σ env E c po => ?_⟩
  refine RdL.dat (RdL.comp i2 sub) B G0 G H σ env _ c ?_
  simp only [sSet] at po
  cases o : xL (lComp (own.map (·.2)) it t k f) env with
  | no => rw [o] at po; exact po
  | ex n => rw [o] at po; exact PoX.s po
  | ok d =>
    rw [o] at po
    exact fun v H1 G1 s1 c1 r1 => po _ H1 G1 s1 (c1.set i r1)
theorem ds_ownC (i : Nat) {x : Str} {pos' : Pos} {elt tg iter : Expr} {ifs : List Expr} {scope : Scope} {own : List (Str × Nat)} {it : DEnv → M (List D)} {t : DTgt} {k : DEnv → M Bool} {is : List Nat} (hN : X.N.Nodup) (hc : X.calm = true) (hx : X.env.scope.names.lookup x = some .local) (hsw : swapsWith (.ListComp elt [⟨tg, iter, ifs, 0⟩] scope p) (some (.Name x pos')) pos.line X.env = pure true)
    (hi : DI X W tg iter it) (ok : BlkOk X.N X.env.scope scope own)
    (hg : ∀ (s : Shared) (H : Hp) (C : Addr) (cl : List (Str × Addr)) (fp : List Addr), DG (X.blk s H scope (compEnvC scope cl C X.env) fp) is tg t)
    (ht : ∀ (s : Shared) (H : Hp) (C : Addr) (cl : List (Str × Addr)) (fp : List Addr), PTs (X.blk s H scope (compEnvC scope cl C X.env) fp) ifs (tTF (kw X) X.mg W0 k))
    (he : ∀ (s : Shared) (H : Hp) (C : Addr) (cl : List (Str × Addr)) (fp : List Addr), DE (X.blk s H scope (compEnvC scope cl C X.env) fp) W0 elt f)
    (sub : ∀ i ∈ is, i ∈ own.map (·.2)) (hn : X.N[i]? = some x := by rfl) (hs : ∀ x, foldedSetIterable iter X.env x = pure x := by intro _; rfl) :
    DS X W (.Assign [.Name x pos'] (.ListComp elt [⟨tg, iter, ifs, 0⟩] scope p) pos) (sOwn i (lComp (own.map (·.2)) it t k f)) := by
  obtain ⟨wi, i1, i2⟩ := hi.ex
  refine ⟨_, ps_setLc (g := gF (kw X) is t) (tt := tTF (kw X) X.mg W0 k) (te := tEF (kw X) X.mg W0 f) hc hN hn hx hsw i1 ok (fun s H C cl fp => (hg s H C cl fp).canon) ht (fun s H C cl fp => (he s H C cl fp).canon) hs, fun B G0 G H σ env E c po => ?_⟩
  refine RdL.comp i2 sub B G0 G H σ env _ c ?_
  simp only [sOwn] at po
  cases o : lComp (own.map (·.2)) it t k f env with
  | no => rw [o] at po; exact po
  | ex n => rw [o] at po; exact PoX.s po
  | ok d =>
    rw [o] at po
    intro q vs H1 G1 s1 c1 hq r1
    exact po _ _ G1 s1 (c1.setOwn i hq ⟨q, vs, rfl, c1.exG.free hq, c1.exB.free hq, upd_same, r1⟩)
theorem pts_no {K : KW} {mg : Str → Option Value} : PTs X [] (tTF K mg W0 (fun _ => .ok true)) :=
  ⟨fun pins s σ H Q I ⟨B, G0, G, env, cn, p⟩ => wpAny_tests_nil ⟨H, I, p H G (Same.refl G) cn⟩⟩
theorem pts_if {c : Expr} {k : DEnv → M Bool} (h : DT X W0 c k) : PTs X [c] (tTF (kw X) X.mg W0 k) := pts_one h.canon
/-! ### how many targets -/
theorem gsl_nil {ds : List D} {env e' : DEnv} (h : gsNil ds env = some e') : ds.length = 0 := by
  cases ds with
  | nil => rfl
  | cons _ _ => cases h
theorem gsl_cons {t : DTgt} {u : List D → DEnv → Option DEnv} {n : Nat} (hu : ∀ ds env e', u ds env = some e' → ds.length = n) : ∀ ds env e', gsCons t u ds env = some e' → ds.length = n + 1 := by
  intro ds env e' h
  cases ds with
  | nil => cases h
  | cons d ds =>
    simp only [gsCons, Option.bind_eq_some_iff] at h
    obtain ⟨e1, _, h2⟩ := h
    simp [hu _ _ _ h2]
/-! ### texts -/
def strsOf : List D → Option (List Str)
  | [] => some []
  | .str s :: r => (strsOf r).map (s :: ·)
  | _ => none
theorem strsOf_map : ∀ {xs : List D} {ns : List Str}, strsOf xs = some ns → xs = ns.map D.str
  | [], ns, h => by cases h; rfl
  | .str i :: r, ns, h => by
    simp only [strsOf, Option.map_eq_some_iff] at h
    obtain ⟨ms, h1, rfl⟩ := h
    rw [strsOf_map h1]
    rfl
  | .non :: _, _, h => by cases h
  | .bl _ :: _, _, h => by cases h
  | .int _ :: _, _, h => by cases h
  | .lst _ :: _, _, h => by cases h
  | .tup _ :: _, _, h => by cases h
  | .scr _ :: _, _, h => by cases h
theorem strsOf_strs : ∀ ns : List Str, strsOf (ns.map D.str) = some ns
  | [] => rfl
  | n :: r => by simp [strsOf, strsOf_strs r]
end
def fuel : Nat := 4000000
def intAD (ds : List D) : Option D := match intD ds with
  | some d => some d
  | none => intSD ds
theorem cx_intA {X : Cx} : CbX X (.type "int") intAD := by
  obtain ⟨r1, a1, a2⟩ := (cx_int (X := X)).ex
  obtain ⟨r2, b1, b2⟩ := (cx_intS (X := X)).ex
  refine ⟨_, a1.or b1, ?_⟩
  intro B G0 G H σ env vs ds d Q c r h k
  unfold intAD at h
  split at h
  · rename_i q
    cases h
    exact .inl (a2 _ _ _ _ _ _ _ _ _ _ c r q k)
  · exact .inr (b2 _ _ _ _ _ _ _ _ _ _ c r h k)
/-! ### the end -/
/-- the law's promise -/
def spEnd (K : PySem.W.Frag) : Sp := fun vs H Q _ => ∃ (a : Addr) (ns : List Int), vs = [.ref a] ∧ SqL K H a (ns.map V.int) ∧ ns.length ≤ 63 ∧ ∀ H', Q (.bl true) H'
theorem sp_law {w : World} {K : PySem.W.Frag} {mg : Str → Option Value} {g : List D → M D} (h : ∀ ns : List Int, ns.length ≤ 63 → g [.scr ns] = .ok (.bl true)) (vs : List V) (H : Hp) (Q : VK) (E : XK) (x : spEnd K vs H Q E) : spD ⟨K, w⟩ mg 1 g vs H Q E := by
  obtain ⟨a, ns, rfl, hS, hl, q⟩ := x
  refine ⟨rfl, H, [.scr ns], Same.refl H, .cons (.scr hS) .nil, ?_⟩
  rw [h ns hl]
  intro v H' G' _ _ _ _ r
  cases r
  exact q H'
theorem cx_no {P : Program} {w : World} {H : Hp} {s : Shared} {e : Value} {s' : Shared} (h : L2.CX P w [] H s (fun _ _ _ => False) e s') : False := by
  obtain ⟨_, _, _, _, _, _, _, _, _, _, _, _, z⟩ := h
  exact z
theorem glob_str {K : PySem.W.Frag} {mg : Str → Option Value} {h : Heap} {x : Str} {v : Value} (X : K.In h) (G : h.Ns mainGlobals mg) (a : PySem.W.nsIn K mainGlobals x = some (some v)) : mg x = some v := PySem.W.mg_of X G a
end DL

namespace DL
open PySem PySem.Spec PyProof.Rows L2

/-! ### methods of texts -/
def asS : D → M Str
  | .str s => .ok s
  | _ => .no
/-- a method of a text with one argument -/
@[simp] def xM1 (h : D → D → Option D) (f g : DEnv → M D) (env : DEnv) : M D := (f env).bind fun a => (asS a).bind fun _ => (g env).bind fun b => .of (h a b)
/-- one that gives a new list -/
@[simp] def lM1 (h : D → D → Option (List D)) (f g : DEnv → M D) (env : DEnv) : M (List D) := (f env).bind fun a => (asS a).bind fun _ => (g env).bind fun b => .of (h a b)
section
variable {K : KW} {mg : Str → Option Value} {W : WX} {ta tb te : TE} {f g : DEnv → M D}
theorem asS_ok {d : D} {s : Str} (h : asS d = .ok s) : d = .str s := by
  cases d <;> simp [asS] at h
  rw [h]
theorem asS_ex {d : D} {c : Str} (h : asS d = .ex c) : False := by
  cases d <;> simp [asS] at h
theorem RdE.m1 {r : V → List V → Hp → VK → Prop} {h : D → D → Option D} (ha : RdE K mg W ta f) (hb : RdE K mg W tb g) (hr : OpD K (fun x y H Q => r x [y] H Q) h) :
    RdE K mg W (tM1 r ta tb) (xM1 h f g) := by
  intro B G0 G H σ env Q c p
  refine ha B G0 G H σ env _ c ?_
  simp only [xM1] at p
  cases e : f env with
  | no => rw [e] at p; exact p
  | ex n => rw [e] at p; exact p
  | ok a =>
    rw [e] at p
    intro v1 H1 G1 s1 c1 r1
    simp only [M.bind] at p
    cases e2 : asS a with
    | no => rw [e2] at p; exact p.elim
    | ex n => exact (asS_ex e2).elim
    | ok s =>
      rw [e2] at p
      simp only [M.bind] at p
      have hs := asS_ok e2
      subst hs
      refine ⟨⟨s, by cases r1; rfl⟩, hb B G0 G1 H1 σ env _ c1 ?_⟩
      cases e3 : g env with
      | no => rw [e3] at p; exact p
      | ex n => rw [e3] at p; exact p
      | ok b =>
        rw [e3] at p
        intro v2 H2 G2 s2 c2 r2
        simp only [M.bind] at p
        cases e4 : h (.str s) b with
        | none => rw [e4] at p; exact p.elim
        | some d =>
          rw [e4] at p
          exact hr _ _ _ _ _ _ _ _ _ _ _ _ c2 (r1.up s2) r2 e4 fun v H' G' s' c' r' => p v H' G' ((s1.trans s2).trans s') c' r'
theorem RdL.m1 {h : D → D → Option (List D)} {r : V → List V → Hp → VK → Prop} (ha : RdE K mg W ta f) (hb : RdE K mg W tb g)
    (hr : ∀ (G H : Hp) (x y : V) (a b : D) (ds : List D) (Q : VK), Same G H → Rep K G x a → Rep K G y b → h a b = some ds → (∃ vs, Reps K G vs ds ∧ ((∀ p, H p = none → Q (.ref p) (upd H p (.lst vs))) → r x [y] H Q))) :
    RdL K mg W (tM1 r ta tb) (lM1 h f g) := by
  intro B G0 G H σ env Q c p
  refine ha B G0 G H σ env _ c ?_
  simp only [lM1] at p
  cases e : f env with
  | no => rw [e] at p; exact p
  | ex n => rw [e] at p; exact p
  | ok a =>
    rw [e] at p
    intro v1 H1 G1 s1 c1 r1
    simp only [M.bind] at p
    cases e2 : asS a with
    | no => rw [e2] at p; exact p.elim
    | ex n => exact (asS_ex e2).elim
    | ok s =>
      rw [e2] at p
      simp only [M.bind] at p
      have hs := asS_ok e2
      subst hs
      refine ⟨⟨s, by cases r1; rfl⟩, hb B G0 G1 H1 σ env _ c1 ?_⟩
      cases e3 : g env with
      | no => rw [e3] at p; exact p
      | ex n => rw [e3] at p; exact p
      | ok b =>
        rw [e3] at p
        intro v2 H2 G2 s2 c2 r2
        simp only [M.bind] at p
        cases e4 : h (.str s) b with
        | none => rw [e4] at p; exact p.elim
        | some d =>
          rw [e4] at p
          obtain ⟨vs, rv, k⟩ := hr G2 H2 v1 v2 _ _ d Q c2.exG (r1.up s2) r2 e4
          exact k fun q hq => p q vs H2 G2 (s1.trans s2) c2 hq rv
end
def splitL : D → D → Option (List D)
  | .str a, .str b => if (b.length == 0) = false ∧ a.length + 2 ≤ sizeLine then some ((Txt.split a b).map D.str) else none
  | _, _ => none
def joinD : D → D → Option D
  | .str a, .lst xs => match strsOf xs with
    | some ys => if (ys.map (·.length)).sum + ys.length * a.length ≤ 16777216 then some (.str (Txt.join a ys)) else none
    | none => none
  | _, _ => none
section
variable {X : Cx} {W : WX} {o e : Expr} {f g : DEnv → M D} {apos pos : Pos}
theorem dl_split (ho : DE X W o f) (he : DE X W e g) (hs : starEach [e] X.env = [(false, eval e X.env)] := by rfl) (hbase : attributeBase o "split" X.env (eval o X.env) = eval o X.env := by rfl) (hline : (apos.endLine == pos.line) = true := by rfl) :
    DLs X W (.Call (.Attribute o "split" apos) [e] [] pos) (lM1 splitL f g) := by
  obtain ⟨_, a1, a2⟩ := ho.ex
  obtain ⟨_, b1, b2⟩ := he.ex
  refine ⟨_, pe_split a1 b1 hs hbase hline, RdL.m1 a2 b2 ?_⟩
  intro G H x y a b ds Q s ra rb h
  unfold splitL at h
  split at h
  · split at h
    · rename_i hc
      cases h
      cases ra; cases rb
      exact ⟨_, Reps.strs _, fun k => ⟨_, _, rfl, rfl, hc.1, hc.2, k⟩⟩
    · cases h
  · cases h
theorem de_join (ho : DE X W o f) (he : DE X W e g) (hs : starEach [e] X.env = [(false, eval e X.env)] := by rfl) (hbase : attributeBase o "join" X.env (eval o X.env) = eval o X.env := by rfl) (hline : (apos.endLine == pos.line) = true := by rfl) :
    DE X W (.Call (.Attribute o "join" apos) [e] [] pos) (xM1 joinD f g) := by
  obtain ⟨_, a1, a2⟩ := ho.ex
  obtain ⟨_, b1, b2⟩ := he.ex
  refine ⟨_, pe_join a1 b1 hs hbase hline, RdE.m1 a2 b2 ?_⟩
  intro B G0 G H σ env x y a b d Q c ra rb h k
  unfold joinD at h
  split at h
  · split at h
    · split at h
      · rename_i xs ys q hc
        cases h
        have e := strsOf_map q
        subst e
        cases ra
        cases rb with
        | lst g1 g2 =>
          have e2 := Reps.of_strs g2
          subst e2
          exact ⟨_, _, ys, rfl, rfl, .inl (.inl (.inl (c.exG _ _ g1))), hc, k _ H G (Same.refl G) c (.str _)⟩
      · cases h
    · cases h
  · cases h
end

/-! ### try, where nothing is raised -/
@[simp] def noX : DOut → DOut
  | .ex _ _ => .no
  | o => o
@[simp] def sThru (g : DStm) : DStm := fun env => noX (g env)
section
variable {X : Cx} {W : WX} {body : List Stmt} {h₀ : ExceptHandler} {hs : List ExceptHandler} {g : DStm} {pos : Pos}
theorem ds_thru (hb : DSs X.nox W0 body g) : DS X W (.Try body (h₀ :: hs) [] [] pos) (sThru g) := by
  obtain ⟨_, a1, a2⟩ := hb.ex
  refine ⟨_, ps_try_thru0 a1, fun B G0 G H σ env E c po => ?_⟩
  refine a2 B G0 G H σ env E c ?_
  simp only [sThru] at po
  cases o : g env with
  | ex n e => rw [o] at po; exact po.elim
  | nx e => rw [o] at po; exact po
  | rt e => rw [o] at po; exact po
  | bk e => rw [o] at po; exact po
  | ct e => rw [o] at po; exact po
  | no => rw [o] at po; exact po
end
end DL

namespace Wk
open PySem PySem.Spec PyProof.Rows L2 DL
/-! ### the text -/
def topS (i : Nat) : Stmt := PySem.Challenge.pw_alikewritten_k11_written_down_and_read.main.body.getD i (.Pass ⟨0, 0, 0, 0⟩)

abbrev s_is_word : Stmt := topS 9
abbrev N_is_word : List Str := ["word", "letter"]
theorem sc_is_word : FnScope N_is_word ["word"] (defScope s_is_word) := ⟨rfl, rfl, rfl, by decide +kernel, rfl, by decide +kernel, by decide +kernel⟩
abbrev s_asked_writer : Stmt := topS 10
abbrev N_asked_writer : List Str := ["writer", "signs", "rows", "endings", "row", "word", "after"]
theorem sc_asked_writer : FnScope N_asked_writer ["writer"] (defScope s_asked_writer) := ⟨rfl, rfl, rfl, by decide +kernel, rfl, by decide +kernel, by decide +kernel⟩
abbrev s_shown_word : Stmt := topS 13
abbrev N_shown_word : List Str := ["word"]
theorem sc_shown_word : FnScope N_shown_word ["word"] (defScope s_shown_word) := ⟨rfl, rfl, rfl, by decide +kernel, rfl, by decide +kernel, by decide +kernel⟩
abbrev s_shown : Stmt := topS 14
abbrev N_shown : List Str := ["writer", "lines", "state", "parts", "word", "after"]
theorem sc_shown : FnScope N_shown ["writer"] (defScope s_shown) := ⟨rfl, rfl, rfl, by decide +kernel, rfl, by decide +kernel, by decide +kernel⟩
abbrev s_word_of : Stmt := topS 15
abbrev N_word_of : List Str := ["part"]
theorem sc_word_of : FnScope N_word_of ["part"] (defScope s_word_of) := ⟨rfl, rfl, rfl, by decide +kernel, rfl, by decide +kernel, by decide +kernel⟩
abbrev s_pair_of : Stmt := topS 16
abbrev N_pair_of : List Str := ["part", "parts"]
theorem sc_pair_of : FnScope N_pair_of ["part"] (defScope s_pair_of) := ⟨rfl, rfl, rfl, by decide +kernel, rfl, by decide +kernel, by decide +kernel⟩
abbrev s_read : Stmt := topS 17
abbrev N_read : List Str := ["text", "rows", "endings", "line", "parts", "writer", "part"]
theorem sc_read : FnScope N_read ["text"] (defScope s_read) := ⟨rfl, rfl, rfl, by decide +kernel, rfl, by decide +kernel, by decide +kernel⟩
abbrev s__law_cell_at : Stmt := topS 19
abbrev N__law_cell_at : List Str := ["script", "k"]
theorem sc__law_cell_at : FnScope N__law_cell_at ["script", "k"] (defScope s__law_cell_at) := ⟨rfl, rfl, rfl, by decide +kernel, rfl, by decide +kernel, by decide +kernel⟩
abbrev s__law_stirred : Stmt := topS 20
abbrev N__law_stirred : List Str := ["cell", "k", "mixed"]
theorem sc__law_stirred : FnScope N__law_stirred ["cell", "k"] (defScope s__law_stirred) := ⟨rfl, rfl, rfl, by decide +kernel, rfl, by decide +kernel, by decide +kernel⟩
abbrev s__law_word : Stmt := topS 21
abbrev N__law_word : List Str := ["cell", "most", "letters", "size", "word", "k"]
theorem sc__law_word : FnScope N__law_word ["cell", "most", "letters"] (defScope s__law_word) := ⟨rfl, rfl, rfl, by decide +kernel, rfl, by decide +kernel, by decide +kernel⟩
abbrev s__law_writer : Stmt := topS 22
abbrev N__law_writer : List Str := ["script", "at", "most", "head", "states", "size", "letters", "seed", "own", "rows", "ends", "state", "row", "sign", "after", "word"]
theorem sc__law_writer : FnScope N__law_writer ["script", "at", "most"] (defScope s__law_writer) := ⟨rfl, rfl, rfl, by decide +kernel, rfl, by decide +kernel, by decide +kernel⟩
abbrev s__law_dashed : Stmt := topS 23
abbrev N__law_dashed : List Str := ["word"]
theorem sc__law_dashed : FnScope N__law_dashed ["word"] (defScope s__law_dashed) := ⟨rfl, rfl, rfl, by decide +kernel, rfl, by decide +kernel, by decide +kernel⟩
abbrev s__law_text : Stmt := topS 24
abbrev N__law_text : List Str := ["writer", "lines", "state", "line", "word", "after"]
theorem sc__law_text : FnScope N__law_text ["writer"] (defScope s__law_text) := ⟨rfl, rfl, rfl, by decide +kernel, rfl, by decide +kernel, by decide +kernel⟩
abbrev s_law : Stmt := topS 25
abbrev N_law : List Str := ["script", "writer", "text", "found", "row", "word", "after"]
theorem sc_law : FnScope N_law ["script"] (defScope s_law) := ⟨rfl, rfl, rfl, by decide +kernel, rfl, by decide +kernel, by decide +kernel⟩
/-! ### the readings -/
noncomputable def r_is_word : DStm := sRet (xAnd (xOp leD (xCb lenD (aCons (xVar 0) (aNil))) (xC (.int 8))) (xOp eqD (xL (lComp [1] (iAny (xVar 0)) (gN 1) (tE (xOp ninSD (xVar 1) (xC (.str "abcd")))) (xVar 1))) (xL (lLst (aNil)))))
noncomputable def f_is_word : List D → M D := fnD 2 r_is_word
noncomputable def r_asked_writer_b1 : DStm := sIf (tEither (tNo (tE (xCall 1 f_is_word (aCons (xVar 5) (aNil))))) (tEither (tE (xOp ltD (xVar 6) (xC (.int 0)))) (tE (xOp geD (xVar 6) (xCb lenD (aCons (xVar 2) (aNil))))))) (sRaise "NoWriter") (sNext)
noncomputable def r_asked_writer_b2 : DStm := sSeq (sIf (tE (xOp neD (xCb lenD (aCons (xVar 4) (aNil))) (xVar 1))) (sRaise "NoWriter") (sNext)) (sFor (iAny (xVar 4)) (gT (gsCons (gN 5) (gsCons (gN 6) (gsNil)))) r_asked_writer_b1)
noncomputable def r_asked_writer_b3 : DStm := sIf (tNo (tE (xCall 1 f_is_word (aCons (xVar 5) (aNil))))) (sRaise "NoWriter") (sNext)
noncomputable def r_asked_writer : DStm := sSeq (sAsg (gT (gsCons (gN 1) (gsCons (gN 2) (gsCons (gN 3) (gsNil))))) (xVar 0)) (sSeq (sIf (tEither (tE (xOp ltD (xVar 1) (xC (.int 1)))) (tEither (tE (xOp gtD (xVar 1) (xC (.int 4)))) (tEither (tE (xOp ltD (xCb lenD (aCons (xVar 2) (aNil))) (xC (.int 1)))) (tEither (tE (xOp gtD (xCb lenD (aCons (xVar 2) (aNil))) (xC (.int 6)))) (tE (xOp neD (xCb lenD (aCons (xVar 3) (aNil))) (xCb lenD (aCons (xVar 2) (aNil))))))))) (sRaise "NoWriter") (sNext)) (sSeq (sFor (iAny (xVar 2)) (gN 4) r_asked_writer_b2) (sFor (iAny (xVar 3)) (gN 5) r_asked_writer_b3)))
noncomputable def f_asked_writer : List D → M D := fnD 7 r_asked_writer
noncomputable def r_shown_word : DStm := sSeq (sIf (tE (xOp eqD (xVar 0) (xC (.str "")))) (sRet (xC (.str "-"))) (sNext)) (sRet (xVar 0))
noncomputable def f_shown_word : List D → M D := fnD 1 r_shown_word
noncomputable def r_shown_b1 : DStm := sSeq (sSet 3 (xL (lComp [4, 5] (iAny (xOp ixAD (xOp ixAD (xVar 0) (xC (.int 1))) (xVar 2))) (gT (gsCons (gN 4) (gsCons (gN 5) (gsNil)))) (fun _ => .ok true) (xOp addD (xOp addD (xCall 1 f_shown_word (aCons (xVar 4) (aNil))) (xC (.str ">"))) (xCb strD (aCons (xVar 5) (aNil))))))) (sApp 1 (xM1 joinD (xC (.str " ")) (xOp addD (xVar 3) (xL (lLst (aCons (xCall 1 f_shown_word (aCons (xOp ixAD (xOp ixAD (xVar 0) (xC (.int 2))) (xVar 2)) (aNil))) (aNil)))))))
noncomputable def r_shown : DStm := sSeq (sExpr (xCall 1 f_asked_writer (aCons (xVar 0) (aNil)))) (sSeq (sOwn 1 (lLst (aNil))) (sSeq (sFor (iRng rng1D (aCons (xCb lenD (aCons (xOp ixAD (xVar 0) (xC (.int 1))) (aNil))) (aNil))) (gN 2) r_shown_b1) (sFrz 1 (sRet (xM1 joinD (xC (.str "\n")) (xVar 1))))))
noncomputable def f_shown : List D → M D := fnD 6 r_shown
noncomputable def r_word_of : DStm := sSeq (sIf (tE (xOp eqD (xVar 0) (xC (.str "-")))) (sRet (xC (.str ""))) (sNext)) (sSeq (sIf (tE (xOp eqD (xVar 0) (xC (.str "")))) (sRaise "NoNote") (sNext)) (sRet (xVar 0)))
noncomputable def f_word_of : List D → M D := fnD 1 r_word_of
noncomputable def r_pair_of : DStm := sSeq (sSet 1 (xL (lM1 splitL (xVar 0) (xC (.str ">"))))) (sSeq (sIf (tEither (tE (xOp neD (xCb lenD (aCons (xVar 1) (aNil))) (xC (.int 2)))) (tEither (tE (xOp neD (xCb lenD (aCons (xOp ixAD (xVar 1) (xC (.int 1))) (aNil))) (xC (.int 1)))) (tE (xOp ninSD (xOp ixAD (xVar 1) (xC (.int 1))) (xC (.str "0123456789")))))) (sRaise "NoNote") (sNext)) (sRet (xTup (aCons (xCall 1 f_word_of (aCons (xOp ixAD (xVar 1) (xC (.int 0))) (aNil))) (aCons (xCb intAD (aCons (xOp ixAD (xVar 1) (xC (.int 1))) (aNil))) (aNil))))))
noncomputable def f_pair_of : List D → M D := fnD 2 r_pair_of
noncomputable def r_read_b1 : DStm := sSeq (sSet 4 (xL (lM1 splitL (xVar 3) (xC (.str " "))))) (sSeq (sApp 1 (xCb tupD (aCons (xL (lComp [6] (iAny (xCut (xVar 4) (oNo) (oPart (xUn negD (xC (.int 1)))))) (gN 6) (fun _ => .ok true) (xCall 1 f_pair_of (aCons (xVar 6) (aNil))))) (aNil)))) (sApp 2 (xCall 1 f_word_of (aCons (xOp ixAD (xVar 4) (xUn negD (xC (.int 1)))) (aNil)))))
noncomputable def r_read : DStm := sSeq (sOwn 1 (lLst (aNil))) (sSeq (sOwn 2 (lLst (aNil))) (sSeq (sFor (iAny (xL (lM1 splitL (xVar 0) (xC (.str "\n"))))) (gN 3) r_read_b1) (sSeq (sFrz 2 (sFrz 1 (sSet 5 (xTup (aCons (xCb lenD (aCons (xOp ixAD (xVar 1) (xC (.int 0))) (aNil))) (aCons (xCb tupD (aCons (xVar 1) (aNil))) (aCons (xCb tupD (aCons (xVar 2) (aNil))) (aNil)))))))) (sSeq (sThru (sExpr (xCall 1 f_asked_writer (aCons (xVar 5) (aNil))))) (sRet (xVar 5))))))
noncomputable def f_read : List D → M D := fnD 7 r_read
noncomputable def r__law_cell_at : DStm := sSeq (sIf (tE (xOp ltD (xVar 1) (xCb lenD (aCons (xVar 0) (aNil))))) (sRet (xOp ixAD (xVar 0) (xVar 1))) (sNext)) (sRet (xC (.int 0)))
noncomputable def f__law_cell_at : List D → M D := fnD 2 r__law_cell_at
noncomputable def r__law_stirred : DStm := sSeq (sSet 2 (xOp modD (xOp mulD (xOp addD (xOp addD (xVar 0) (xOp mulD (xC (.int 1009)) (xVar 1))) (xC (.int 17))) (xC (.int 48271))) (xC (.int 2147483647)))) (sSeq (sSet 2 (xOp modD (xOp mulD (xVar 2) (xVar 2)) (xC (.int 2147483647)))) (sRet (xOp fdivD (xOp modD (xOp mulD (xVar 2) (xC (.int 48271))) (xC (.int 2147483647))) (xC (.int 8)))))
noncomputable def f__law_stirred : List D → M D := fnD 3 r__law_stirred
noncomputable def r__law_word_b1 : DStm := sSeq (sSet 4 (xOp addD (xVar 4) (xOp ixAD (xC (.str "abcd")) (xOp modD (xVar 0) (xVar 2))))) (sSet 0 (xOp fdivD (xVar 0) (xVar 2)))
noncomputable def r__law_word : DStm := sSeq (sSet 3 (xOp modD (xVar 0) (xOp addD (xVar 1) (xC (.int 1))))) (sSeq (sSet 0 (xOp fdivD (xVar 0) (xOp addD (xVar 1) (xC (.int 1))))) (sSeq (sSet 4 (xC (.str ""))) (sSeq (sFor (iRng rng1D (aCons (xVar 3) (aNil))) (gN 5) r__law_word_b1) (sRet (xTup (aCons (xVar 4) (aCons (xVar 0) (aNil))))))))
noncomputable def f__law_word : List D → M D := fnD 6 r__law_word
noncomputable def r__law_writer_b1 : DStm := sSeq (sIf (tE (xOp eqD (xOp modD (xOp fdivD (xVar 3) (xC (.int 6048))) (xC (.int 2))) (xC (.int 0)))) (sSet 8 (xCall 2 f__law_stirred (aCons (xVar 7) (aCons (xOp addD (xOp mulD (xC (.int 97)) (xVar 11)) (xOp mulD (xC (.int 11)) (xVar 13))) (aNil))))) (sNext)) (sSeq (sSet 14 (xOp modD (xVar 8) (xVar 4))) (sSeq (sAsg (gT (gsCons (gN 15) (gsCons (gN 8) (gsNil)))) (xCall 3 f__law_word (aCons (xOp fdivD (xVar 8) (xVar 4)) (aCons (xVar 5) (aCons (xVar 6) (aNil)))))) (sApp 12 (xTup (aCons (xVar 15) (aCons (xVar 14) (aNil)))))))
noncomputable def r__law_writer_b2 : DStm := sSeq (sOwn 12 (lLst (aNil))) (sSeq (sFor (iRng rng1D (aCons (xOp addD (xC (.int 1)) (xOp modD (xVar 3) (xOp ixAD (xVar 2) (xC (.int 0))))) (aNil))) (gN 13) r__law_writer_b1) (sSeq (sFrz 12 (sApp 9 (xCb tupD (aCons (xVar 12) (aNil))))) (sSeq (sIf (tE (xOp eqD (xOp modD (xOp fdivD (xVar 3) (xC (.int 6048))) (xC (.int 2))) (xC (.int 0)))) (sSet 8 (xCall 2 f__law_stirred (aCons (xVar 7) (aCons (xOp addD (xOp mulD (xC (.int 97)) (xVar 11)) (xC (.int 71))) (aNil))))) (sNext)) (sSeq (sAsg (gT (gsCons (gN 15) (gsCons (gN 8) (gsNil)))) (xCall 3 f__law_word (aCons (xVar 8) (aCons (xCb min2D (aCons (xVar 5) (aCons (xOp addD (xC (.int 2)) (xOp modD (xOp fdivD (xVar 3) (xC (.int 864))) (xC (.int 7)))) (aNil)))) (aCons (xVar 6) (aNil)))))) (sApp 10 (xVar 15))))))
noncomputable def r__law_writer : DStm := sSeq (sSet 3 (xCall 2 f__law_cell_at (aCons (xVar 0) (aCons (xVar 1) (aNil))))) (sSeq (sSet 4 (xOp addD (xC (.int 1)) (xOp modD (xOp fdivD (xVar 3) (xC (.int 4))) (xOp ixAD (xVar 2) (xC (.int 1)))))) (sSeq (sSet 5 (xOp modD (xOp fdivD (xVar 3) (xC (.int 24))) (xOp addD (xOp ixAD (xVar 2) (xC (.int 2))) (xC (.int 1))))) (sSeq (sSet 6 (xOp addD (xC (.int 1)) (xOp modD (xOp fdivD (xVar 3) (xC (.int 216))) (xC (.int 4))))) (sSeq (sSet 7 (xCall 2 f__law_cell_at (aCons (xVar 0) (aCons (xOp addD (xVar 1) (xC (.int 1))) (aNil))))) (sSeq (sSet 8 (xVar 7)) (sSeq (sOwn 9 (lLst (aNil))) (sSeq (sOwn 10 (lLst (aNil))) (sSeq (sFor (iRng rng1D (aCons (xVar 4) (aNil))) (gN 11) r__law_writer_b2) (sFrz 10 (sFrz 9 (sRet (xTup (aCons (xOp addD (xC (.int 1)) (xOp modD (xVar 3) (xOp ixAD (xVar 2) (xC (.int 0))))) (aCons (xCb tupD (aCons (xVar 9) (aNil))) (aCons (xCb tupD (aCons (xVar 10) (aNil))) (aNil))))))))))))))))
noncomputable def f__law_writer : List D → M D := fnD 16 r__law_writer
noncomputable def r__law_dashed : DStm := sSeq (sIf (tE (xOp eqD (xVar 0) (xC (.str "")))) (sRet (xC (.str "-"))) (sNext)) (sRet (xVar 0))
noncomputable def f__law_dashed : List D → M D := fnD 1 r__law_dashed
noncomputable def r__law_text_b1 : DStm := sSet 3 (xOp addD (xOp addD (xOp addD (xOp addD (xVar 3) (xCall 1 f__law_dashed (aCons (xVar 4) (aNil)))) (xC (.str ">"))) (xCb strD (aCons (xVar 5) (aNil)))) (xC (.str " ")))
noncomputable def r__law_text_b2 : DStm := sSeq (sSet 3 (xC (.str ""))) (sSeq (sFor (iAny (xOp ixAD (xOp ixAD (xVar 0) (xC (.int 1))) (xVar 2))) (gT (gsCons (gN 4) (gsCons (gN 5) (gsNil)))) r__law_text_b1) (sApp 1 (xOp addD (xVar 3) (xCall 1 f__law_dashed (aCons (xOp ixAD (xOp ixAD (xVar 0) (xC (.int 2))) (xVar 2)) (aNil))))))
noncomputable def r__law_text : DStm := sSeq (sOwn 1 (lLst (aNil))) (sSeq (sFor (iRng rng1D (aCons (xCb lenD (aCons (xOp ixAD (xVar 0) (xC (.int 1))) (aNil))) (aNil))) (gN 2) r__law_text_b2) (sFrz 1 (sRet (xM1 joinD (xC (.str "\n")) (xVar 1)))))
noncomputable def f__law_text : List D → M D := fnD 6 r__law_text
noncomputable def r_law_b1 : DStm := sIf (tE (xUn (isiD "bool") (xVar 6))) (sRet (xC (.bl false))) (sNext)
noncomputable def r_law_b2 : DStm := sFor (iAny (xVar 4)) (gT (gsCons (gN 5) (gsCons (gN 6) (gsNil)))) r_law_b1
noncomputable def r_law : DStm := sSeq (sSet 1 (xCall 3 f__law_writer (aCons (xVar 0) (aCons (xC (.int 0)) (aCons (xTup (aCons (xC (.int 4)) (aCons (xC (.int 6)) (aCons (xC (.int 8)) (aNil))))) (aNil)))))) (sSeq (sSet 2 (xCall 1 f_shown (aCons (xVar 1) (aNil)))) (sSeq (sIf (tEither (tNo (tE (xUn (isiD "str") (xVar 2)))) (tE (xOp neD (xVar 2) (xCall 1 f__law_text (aCons (xVar 1) (aNil)))))) (sRet (xC (.bl false))) (sNext)) (sSeq (sSet 3 (xCall 1 f_read (aCons (xVar 2) (aNil)))) (sSeq (sIf (tEither (tNo (tE (xUn (isiD "tuple") (xVar 3)))) (tEither (tE (xOp neD (xVar 3) (xVar 1))) (tE (xUn (isiD "bool") (xOp ixAD (xVar 3) (xC (.int 0))))))) (sRet (xC (.bl false))) (sNext)) (sSeq (sFor (iAny (xOp ixAD (xVar 3) (xC (.int 1)))) (gN 4) r_law_b2) (sRet (xC (.bl true))))))))
noncomputable def f_law : List D → M D := fnD 7 r_law
/-! ### the walks -/
structure Txt (K : PySem.W.Frag) (mg : Str → Option Value) : Prop where
  f_is_word : ∃ f fd, Fun K "is_word" "is_word" s_is_word f fd ∧ mg "is_word" = some (.ref f)
  f_asked_writer : ∃ f fd, Fun K "asked_writer" "asked_writer" s_asked_writer f fd ∧ mg "asked_writer" = some (.ref f)
  f_shown_word : ∃ f fd, Fun K "shown_word" "shown_word" s_shown_word f fd ∧ mg "shown_word" = some (.ref f)
  f_shown : ∃ f fd, Fun K "shown" "shown" s_shown f fd ∧ mg "shown" = some (.ref f)
  f_word_of : ∃ f fd, Fun K "word_of" "word_of" s_word_of f fd ∧ mg "word_of" = some (.ref f)
  f_pair_of : ∃ f fd, Fun K "pair_of" "pair_of" s_pair_of f fd ∧ mg "pair_of" = some (.ref f)
  f_read : ∃ f fd, Fun K "read" "read" s_read f fd ∧ mg "read" = some (.ref f)
  f__law_cell_at : ∃ f fd, Fun K "_law_cell_at" "_law_cell_at" s__law_cell_at f fd ∧ mg "_law_cell_at" = some (.ref f)
  f__law_stirred : ∃ f fd, Fun K "_law_stirred" "_law_stirred" s__law_stirred f fd ∧ mg "_law_stirred" = some (.ref f)
  f__law_word : ∃ f fd, Fun K "_law_word" "_law_word" s__law_word f fd ∧ mg "_law_word" = some (.ref f)
  f__law_writer : ∃ f fd, Fun K "_law_writer" "_law_writer" s__law_writer f fd ∧ mg "_law_writer" = some (.ref f)
  f__law_dashed : ∃ f fd, Fun K "_law_dashed" "_law_dashed" s__law_dashed f fd ∧ mg "_law_dashed" = some (.ref f)
  f__law_text : ∃ f fd, Fun K "_law_text" "_law_text" s__law_text f fd ∧ mg "_law_text" = some (.ref f)
  f_law : ∃ f fd, Fun K "law" "law" s_law f fd ∧ mg "law" = some (.ref f)
  z_bool : mg "bool" = none
  z_int : mg "int" = none
  z_isinstance : mg "isinstance" = none
  z_len : mg "len" = none
  z_min : mg "min" = none
  z_range : mg "range" = none
  z_str : mg "str" = none
  z_tuple : mg "tuple" = none
  t_FIGURES : ∃ t, mg "FIGURES" = some (.str "0123456789" t)
  t_LETTERS : ∃ t, mg "LETTERS" = some (.str "abcd" t)
  t_LONGEST : ∃ t, mg "LONGEST" = some (.int 8 t)
  t_SIGNS : ∃ t, mg "SIGNS" = some (.int 4 t)
  t_STATES : ∃ t, mg "STATES" = some (.int 6 t)
  e_NoNote : ExcF K mg "NoNote"
  e_NoWriter : ExcF K mg "NoWriter"
section
variable {P : Program} {w : World} {K : PySem.W.Frag} {mg : Str → Option Value} {base : Heap}
theorem w_is_word (T : Txt K mg) : DFn P w K mg base 1 "is_word" 1 f_is_word := by
  obtain ⟨f, fd, F, hx⟩ := T.f_is_word
  obtain ⟨k_LETTERS, g_LETTERS⟩ := T.t_LETTERS
  obtain ⟨k_LONGEST, g_LONGEST⟩ := T.t_LONGEST
  refine DFn.mk' (k := 0) (N := N_is_word) F sc_is_word rfl hx (fun _ _ _ _ _ _ us hl => match us, hl with | [_], _ => rfl) (fun cdv A outer s H E hr tk hp => ?_)
  have nd := sc_is_word.nd
  exact (dss_one (ds_ret (de_and (de_cmp ox_le (de_cb cx_len rfl T.z_len PySem.boot_len (da_cons (dv 0) da_nil)) (de_globI rfl g_LONGEST) (nomark _)) (de_one (de_cmp (ox_eq hr.units) (de_ofL (dl_compIf [("letter", 1)] rfl rfl nd (di_any (dv 0)) (blkOk_by (own := [("letter", 1)]) (N := N_is_word) (sc := defScope s_is_word) (by decide +kernel)) (fun _ _ _ _ _ => (dg_name 1 nd)) (fun _ _ _ _ _ => (dt_cmp ox_ninS (dv 1) (de_globS rfl g_LETTERS) (by rfl))) (fun _ _ _ _ _ => (dv 1)) (by decide))) (de_ofL (dl_lst da_nil)) (nomark _))))))
theorem w_asked_writer (T : Txt K mg) : DFn P w K mg base 2 "asked_writer" 1 f_asked_writer := by
  obtain ⟨f, fd, F, hx⟩ := T.f_asked_writer
  obtain ⟨k_SIGNS, g_SIGNS⟩ := T.t_SIGNS
  obtain ⟨k_STATES, g_STATES⟩ := T.t_STATES
  refine DFn.mk' (k := 1) (N := N_asked_writer) F sc_asked_writer rfl hx (fun _ _ _ _ _ _ us hl => match us, hl with | [_], _ => rfl) (fun cdv A outer s H E hr tk hp => ?_)
  have nd := sc_asked_writer.nd
  exact (dss_cons (ds_asg (dg_tup rfl (dgs_cons (dg_name 1 nd) (dgs_cons (dg_name 2 nd) (dgs_cons (dg_name 3 nd) dgs_nil))) (gsl_cons (gsl_cons (gsl_cons (fun _ _ _ h => gsl_nil h))))) (dv 0))
  (dss_cons (ds_if (dt_w (dw_or (dt_cmp ox_lt (dv 1) de_int (nomark _)) (dw_or (dt_cmp ox_gt (dv 1) (de_globI rfl g_SIGNS) (nomark _)) (dw_or (dt_cmp ox_lt (de_cb cx_len rfl T.z_len PySem.boot_len (da_cons (dv 2) da_nil)) de_int (nomark _)) (dw_or (dt_cmp ox_gt (de_cb cx_len rfl T.z_len PySem.boot_len (da_cons (dv 2) da_nil)) (de_globI rfl g_STATES) (nomark _)) (dw_or1 (dt_cmp (ox_ne hr.units) (de_cb cx_len rfl T.z_len PySem.boot_len (da_cons (dv 3) da_nil)) (de_cb cx_len rfl T.z_len PySem.boot_len (da_cons (dv 2) da_nil)) (nomark _))))))))
   (dss_one (ds_raise T.e_NoWriter tk))
   dss_nil)
  (dss_cons (ds_for hp rfl (di_any (dv 2)) (dg_name 4 nd)
   (dss_cons (ds_if (dt_cmp (ox_ne hr.units) (de_cb cx_len rfl T.z_len PySem.boot_len (da_cons (dv 4) da_nil)) (dv 1) (nomark _))
   (dss_one (ds_raise T.e_NoWriter tk))
   dss_nil)
  (dss_one (ds_for hp rfl (di_any (dv 4)) (dg_tup rfl (dgs_cons (dg_name 5 nd) (dgs_cons (dg_name 6 nd) dgs_nil)) (gsl_cons (gsl_cons (fun _ _ _ h => gsl_nil h))))
   (dss_one (ds_if (dt_w (dw_or (dt_not (dt_val (de_call (w_is_word T) hr (by decide) tk (da_cons (dv 5) da_nil)))) (dw_or (dt_cmp ox_lt (dv 6) de_int (nomark _)) (dw_or1 (dt_cmp ox_ge (dv 6) (de_cb cx_len rfl T.z_len PySem.boot_len (da_cons (dv 2) da_nil)) (nomark _))))))
   (dss_one (ds_raise T.e_NoWriter tk))
   dss_nil))))))
  (dss_one (ds_for hp rfl (di_any (dv 3)) (dg_name 5 nd)
   (dss_one (ds_if (dt_not (dt_val (de_call (w_is_word T) hr (by decide) tk (da_cons (dv 5) da_nil))))
   (dss_one (ds_raise T.e_NoWriter tk))
   dss_nil)))))))
theorem w_shown_word (T : Txt K mg) : DFn P w K mg base 1 "shown_word" 1 f_shown_word := by
  obtain ⟨f, fd, F, hx⟩ := T.f_shown_word
  refine DFn.mk' (k := 0) (N := N_shown_word) F sc_shown_word rfl hx (fun _ _ _ _ _ _ us hl => match us, hl with | [_], _ => rfl) (fun cdv A outer s H E hr tk hp => ?_)
  have nd := sc_shown_word.nd
  exact (dss_cons (ds_if (dt_cmp (ox_eq hr.units) (dv 0) de_str (nomark _))
   (dss_one (ds_ret de_str))
   dss_nil)
  (dss_one (ds_ret (dv 0))))
theorem w_shown (T : Txt K mg) : DFn P w K mg base 3 "shown" 1 f_shown := by
  obtain ⟨f, fd, F, hx⟩ := T.f_shown
  refine DFn.mk' (k := 2) (N := N_shown) F sc_shown rfl hx (fun _ _ _ _ _ _ us hl => match us, hl with | [_], _ => rfl) (fun cdv A outer s H E hr tk hp => ?_)
  have nd := sc_shown.nd
  exact (dss_cons (ds_expr (de_call (w_asked_writer T) hr (by decide) tk (da_cons (dv 0) da_nil)))
  (dss_cons (ds_own 1 nd (dl_lst da_nil))
  (dss_cons (ds_for hp rfl (di_rng1 T.z_range (da_cons (de_cb cx_len rfl T.z_len PySem.boot_len (da_cons (de_ix (dv 0) de_int) da_nil)) da_nil)) (dg_name 2 nd)
   (dss_cons (ds_setC 3 (own := [("word", 4), ("after", 5)]) nd rfl rfl (sw_true rfl rfl rfl (by decide +kernel)) (di_any (de_ix (de_ix (dv 0) de_int) (dv 2))) (blkOk_by (own := [("word", 4), ("after", 5)]) (N := N_shown) (sc := defScope s_shown) (by decide +kernel)) (fun _ _ _ _ _ => (dg_tup rfl (dgs_cons (dg_name 4 nd) (dgs_cons (dg_name 5 nd) dgs_nil)) (gsl_cons (gsl_cons (fun _ _ _ h => gsl_nil h))))) (fun _ _ _ _ _ => pts_no) (fun _ _ _ _ _ => (de_bin ox_add (de_bin ox_add (de_call (w_shown_word T) hr (by decide) takes0 (da_cons (dv 4) da_nil)) de_str) (de_ct cx_str rfl T.z_str boot_str (da_cons (dv 5) da_nil)))) (by decide))
  (dss_one (ds_app 1 (de_join de_str (de_bin ox_add (dv 3) (de_ofL (dl_lst (da_cons (de_call (w_shown_word T) hr (by decide) tk (da_cons (de_ix (de_ix (dv 0) de_int) (dv 2)) da_nil)) da_nil)))))))))
  (dss_one (ds_frz 1 (ds_ret (de_join de_str (dv 1))))))))
theorem w_word_of (T : Txt K mg) : DFn P w K mg base 1 "word_of" 1 f_word_of := by
  obtain ⟨f, fd, F, hx⟩ := T.f_word_of
  refine DFn.mk' (k := 0) (N := N_word_of) F sc_word_of rfl hx (fun _ _ _ _ _ _ us hl => match us, hl with | [_], _ => rfl) (fun cdv A outer s H E hr tk hp => ?_)
  have nd := sc_word_of.nd
  exact (dss_cons (ds_if (dt_cmp (ox_eq hr.units) (dv 0) de_str (nomark _))
   (dss_one (ds_ret de_str))
   dss_nil)
  (dss_cons (ds_if (dt_cmp (ox_eq hr.units) (dv 0) de_str (nomark _))
   (dss_one (ds_raise T.e_NoNote tk))
   dss_nil)
  (dss_one (ds_ret (dv 0)))))
theorem w_pair_of (T : Txt K mg) : DFn P w K mg base 2 "pair_of" 1 f_pair_of := by
  obtain ⟨f, fd, F, hx⟩ := T.f_pair_of
  obtain ⟨k_FIGURES, g_FIGURES⟩ := T.t_FIGURES
  refine DFn.mk' (k := 1) (N := N_pair_of) F sc_pair_of rfl hx (fun _ _ _ _ _ _ us hl => match us, hl with | [_], _ => rfl) (fun cdv A outer s H E hr tk hp => ?_)
  have nd := sc_pair_of.nd
  exact (dss_cons (ds_set 1 nd (de_ofL (dl_split (dv 0) de_str)))
  (dss_cons (ds_if (dt_w (dw_or (dt_cmp (ox_ne hr.units) (de_cb cx_len rfl T.z_len PySem.boot_len (da_cons (dv 1) da_nil)) de_int (nomark _)) (dw_or (dt_cmp (ox_ne hr.units) (de_cb cx_len rfl T.z_len PySem.boot_len (da_cons (de_ix (dv 1) de_int) da_nil)) de_int (nomark _)) (dw_or1 (dt_cmp ox_ninS (de_ix (dv 1) de_int) (de_globS rfl g_FIGURES) (by rfl))))))
   (dss_one (ds_raise T.e_NoNote tk))
   dss_nil)
  (dss_one (ds_ret (de_tup (da_cons (de_call (w_word_of T) hr (by decide) tk (da_cons (de_ix (dv 1) de_int) da_nil)) (da_cons (de_ct cx_intA rfl T.z_int boot_int (da_cons (de_ix (dv 1) de_int) da_nil)) da_nil)))))))
theorem w_read (T : Txt K mg) : DFn P w K mg base 3 "read" 1 f_read := by
  obtain ⟨f, fd, F, hx⟩ := T.f_read
  refine DFn.mk' (k := 2) (N := N_read) F sc_read rfl hx (fun _ _ _ _ _ _ us hl => match us, hl with | [_], _ => rfl) (fun cdv A outer s H E hr tk hp => ?_)
  have nd := sc_read.nd
  exact (dss_cons (ds_own 1 nd (dl_lst da_nil))
  (dss_cons (ds_own 2 nd (dl_lst da_nil))
  (dss_cons (ds_for hp rfl (di_any (de_ofL (dl_split (dv 0) de_str))) (dg_name 3 nd)
   (dss_cons (ds_set 4 nd (de_ofL (dl_split (dv 3) de_str)))
  (dss_cons (ds_app 1 (de_ct cx_tup rfl T.z_tuple boot_tuple (da_cons (de_ofL (dl_comp [("part", 6)] rfl rfl nd (di_any (de_slice (dv 4) do_none (do_some (de_neg de_int)))) (blkOk_by (own := [("part", 6)]) (N := N_read) (sc := defScope s_read) (by decide +kernel)) (fun _ _ _ _ _ => (dg_name 6 nd)) (fun _ _ _ _ _ => (de_call (w_pair_of T) hr (by decide) takes0 (da_cons (dv 6) da_nil))) (by decide))) da_nil)))
  (dss_one (ds_app 2 (de_call (w_word_of T) hr (by decide) tk (da_cons (de_ix (dv 4) (de_neg de_int)) da_nil)))))))
  (dss_cons (ds_frz 2 (ds_frz 1 (ds_set 5 nd (de_tup (da_cons (de_cb cx_len rfl T.z_len PySem.boot_len (da_cons (de_ix (dv 1) de_int) da_nil)) (da_cons (de_ct cx_tup rfl T.z_tuple boot_tuple (da_cons (dv 1) da_nil)) (da_cons (de_ct cx_tup rfl T.z_tuple boot_tuple (da_cons (dv 2) da_nil)) da_nil)))))))
  (dss_cons (ds_thru (dss_one (ds_expr (de_call (w_asked_writer T) hr (by decide) takes0 (da_cons (dv 5) da_nil)))))
  (dss_one (ds_ret (dv 5))))))))
theorem w__law_cell_at (T : Txt K mg) : DFn P w K mg base 1 "_law_cell_at" 2 f__law_cell_at := by
  obtain ⟨f, fd, F, hx⟩ := T.f__law_cell_at
  refine DFn.mk' (k := 0) (N := N__law_cell_at) F sc__law_cell_at rfl hx (fun _ _ _ _ _ _ us hl => match us, hl with | [_, _], _ => rfl) (fun cdv A outer s H E hr tk hp => ?_)
  have nd := sc__law_cell_at.nd
  exact (dss_cons (ds_if (dt_cmp ox_lt (dv 1) (de_cb cx_len rfl T.z_len PySem.boot_len (da_cons (dv 0) da_nil)) (nomark _))
   (dss_one (ds_ret (de_ix (dv 0) (dv 1))))
   dss_nil)
  (dss_one (ds_ret de_int)))
theorem w__law_stirred (T : Txt K mg) : DFn P w K mg base 1 "_law_stirred" 2 f__law_stirred := by
  obtain ⟨f, fd, F, hx⟩ := T.f__law_stirred
  refine DFn.mk' (k := 0) (N := N__law_stirred) F sc__law_stirred rfl hx (fun _ _ _ _ _ _ us hl => match us, hl with | [_, _], _ => rfl) (fun cdv A outer s H E hr tk hp => ?_)
  have nd := sc__law_stirred.nd
  exact (dss_cons (ds_set 2 nd (de_bin ox_mod (de_bin ox_mul (de_bin ox_add (de_bin ox_add (dv 0) (de_bin ox_mul de_int (dv 1))) de_int) de_int) de_int))
  (dss_cons (ds_set 2 nd (de_bin ox_mod (de_bin ox_mul (dv 2) (dv 2)) de_int))
  (dss_one (ds_ret (de_bin ox_fdiv (de_bin ox_mod (de_bin ox_mul (dv 2) de_int) de_int) de_int)))))
theorem w__law_word (T : Txt K mg) : DFn P w K mg base 1 "_law_word" 3 f__law_word := by
  obtain ⟨f, fd, F, hx⟩ := T.f__law_word
  refine DFn.mk' (k := 0) (N := N__law_word) F sc__law_word rfl hx (fun _ _ _ _ _ _ us hl => match us, hl with | [_, _, _], _ => rfl) (fun cdv A outer s H E hr tk hp => ?_)
  have nd := sc__law_word.nd
  exact (dss_cons (ds_set 3 nd (de_bin ox_mod (dv 0) (de_bin ox_add (dv 1) de_int)))
  (dss_cons (ds_set 0 nd (de_bin ox_fdiv (dv 0) (de_bin ox_add (dv 1) de_int)))
  (dss_cons (ds_set 4 nd de_str)
  (dss_cons (ds_for hp rfl (di_rng1 T.z_range (da_cons (dv 3) da_nil)) (dg_name 5 nd)
   (dss_cons (ds_set 4 nd (de_bin ox_add (dv 4) (de_ix de_str (de_bin ox_mod (dv 0) (dv 2)))))
  (dss_one (ds_set 0 nd (de_bin ox_fdiv (dv 0) (dv 2))))))
  (dss_one (ds_ret (de_tup (da_cons (dv 4) (da_cons (dv 0) da_nil)))))))))
theorem w__law_writer (T : Txt K mg) : DFn P w K mg base 2 "_law_writer" 3 f__law_writer := by
  obtain ⟨f, fd, F, hx⟩ := T.f__law_writer
  refine DFn.mk' (k := 1) (N := N__law_writer) F sc__law_writer rfl hx (fun _ _ _ _ _ _ us hl => match us, hl with | [_, _, _], _ => rfl) (fun cdv A outer s H E hr tk hp => ?_)
  have nd := sc__law_writer.nd
  exact (dss_cons (ds_set 3 nd (de_call (w__law_cell_at T) hr (by decide) tk (da_cons (dv 0) (da_cons (dv 1) da_nil))))
  (dss_cons (ds_set 4 nd (de_bin ox_add de_int (de_bin ox_mod (de_bin ox_fdiv (dv 3) de_int) (de_ix (dv 2) de_int))))
  (dss_cons (ds_set 5 nd (de_bin ox_mod (de_bin ox_fdiv (dv 3) de_int) (de_bin ox_add (de_ix (dv 2) de_int) de_int)))
  (dss_cons (ds_set 6 nd (de_bin ox_add de_int (de_bin ox_mod (de_bin ox_fdiv (dv 3) de_int) de_int)))
  (dss_cons (ds_set 7 nd (de_call (w__law_cell_at T) hr (by decide) tk (da_cons (dv 0) (da_cons (de_bin ox_add (dv 1) de_int) da_nil))))
  (dss_cons (ds_set 8 nd (dv 7))
  (dss_cons (ds_own 9 nd (dl_lst da_nil))
  (dss_cons (ds_own 10 nd (dl_lst da_nil))
  (dss_cons (ds_for hp rfl (di_rng1 T.z_range (da_cons (dv 4) da_nil)) (dg_name 11 nd)
   (dss_cons (ds_own 12 nd (dl_lst da_nil))
  (dss_cons (ds_for hp rfl (di_rng1 T.z_range (da_cons (de_bin ox_add de_int (de_bin ox_mod (dv 3) (de_ix (dv 2) de_int))) da_nil)) (dg_name 13 nd)
   (dss_cons (ds_if (dt_cmp (ox_eq hr.units) (de_bin ox_mod (de_bin ox_fdiv (dv 3) de_int) de_int) de_int (nomark _))
   (dss_one (ds_set 8 nd (de_call (w__law_stirred T) hr (by decide) tk (da_cons (dv 7) (da_cons (de_bin ox_add (de_bin ox_mul de_int (dv 11)) (de_bin ox_mul de_int (dv 13))) da_nil)))))
   dss_nil)
  (dss_cons (ds_set 14 nd (de_bin ox_mod (dv 8) (dv 4)))
  (dss_cons (ds_asg (dg_tup rfl (dgs_cons (dg_name 15 nd) (dgs_cons (dg_name 8 nd) dgs_nil)) (gsl_cons (gsl_cons (fun _ _ _ h => gsl_nil h)))) (de_call (w__law_word T) hr (by decide) tk (da_cons (de_bin ox_fdiv (dv 8) (dv 4)) (da_cons (dv 5) (da_cons (dv 6) da_nil)))))
  (dss_one (ds_app 12 (de_tup (da_cons (dv 15) (da_cons (dv 14) da_nil)))))))))
  (dss_cons (ds_frz 12 (ds_app 9 (de_ct cx_tup rfl T.z_tuple boot_tuple (da_cons (dv 12) da_nil))))
  (dss_cons (ds_if (dt_cmp (ox_eq hr.units) (de_bin ox_mod (de_bin ox_fdiv (dv 3) de_int) de_int) de_int (nomark _))
   (dss_one (ds_set 8 nd (de_call (w__law_stirred T) hr (by decide) tk (da_cons (dv 7) (da_cons (de_bin ox_add (de_bin ox_mul de_int (dv 11)) de_int) da_nil)))))
   dss_nil)
  (dss_cons (ds_asg (dg_tup rfl (dgs_cons (dg_name 15 nd) (dgs_cons (dg_name 8 nd) dgs_nil)) (gsl_cons (gsl_cons (fun _ _ _ h => gsl_nil h)))) (de_call (w__law_word T) hr (by decide) tk (da_cons (dv 8) (da_cons (de_cb (cx_min2 rfl) rfl T.z_min boot_min (da_cons (dv 5) (da_cons (de_bin ox_add de_int (de_bin ox_mod (de_bin ox_fdiv (dv 3) de_int) de_int)) da_nil))) (da_cons (dv 6) da_nil)))))
  (dss_one (ds_app 10 (dv 15)))))))))
  (dss_one (ds_frz 10 (ds_frz 9 (ds_ret (de_tup (da_cons (de_bin ox_add de_int (de_bin ox_mod (dv 3) (de_ix (dv 2) de_int))) (da_cons (de_ct cx_tup rfl T.z_tuple boot_tuple (da_cons (dv 9) da_nil)) (da_cons (de_ct cx_tup rfl T.z_tuple boot_tuple (da_cons (dv 10) da_nil)) da_nil)))))))))))))))))
theorem w__law_dashed (T : Txt K mg) : DFn P w K mg base 1 "_law_dashed" 1 f__law_dashed := by
  obtain ⟨f, fd, F, hx⟩ := T.f__law_dashed
  refine DFn.mk' (k := 0) (N := N__law_dashed) F sc__law_dashed rfl hx (fun _ _ _ _ _ _ us hl => match us, hl with | [_], _ => rfl) (fun cdv A outer s H E hr tk hp => ?_)
  have nd := sc__law_dashed.nd
  exact (dss_cons (ds_if (dt_cmp (ox_eq hr.units) (dv 0) de_str (nomark _))
   (dss_one (ds_ret de_str))
   dss_nil)
  (dss_one (ds_ret (dv 0))))
theorem w__law_text (T : Txt K mg) : DFn P w K mg base 2 "_law_text" 1 f__law_text := by
  obtain ⟨f, fd, F, hx⟩ := T.f__law_text
  refine DFn.mk' (k := 1) (N := N__law_text) F sc__law_text rfl hx (fun _ _ _ _ _ _ us hl => match us, hl with | [_], _ => rfl) (fun cdv A outer s H E hr tk hp => ?_)
  have nd := sc__law_text.nd
  exact (dss_cons (ds_own 1 nd (dl_lst da_nil))
  (dss_cons (ds_for hp rfl (di_rng1 T.z_range (da_cons (de_cb cx_len rfl T.z_len PySem.boot_len (da_cons (de_ix (dv 0) de_int) da_nil)) da_nil)) (dg_name 2 nd)
   (dss_cons (ds_set 3 nd de_str)
  (dss_cons (ds_for hp rfl (di_any (de_ix (de_ix (dv 0) de_int) (dv 2))) (dg_tup rfl (dgs_cons (dg_name 4 nd) (dgs_cons (dg_name 5 nd) dgs_nil)) (gsl_cons (gsl_cons (fun _ _ _ h => gsl_nil h))))
   (dss_one (ds_set 3 nd (de_bin ox_add (de_bin ox_add (de_bin ox_add (de_bin ox_add (dv 3) (de_call (w__law_dashed T) hr (by decide) tk (da_cons (dv 4) da_nil))) de_str) (de_ct cx_str rfl T.z_str boot_str (da_cons (dv 5) da_nil))) de_str))))
  (dss_one (ds_app 1 (de_bin ox_add (dv 3) (de_call (w__law_dashed T) hr (by decide) tk (da_cons (de_ix (de_ix (dv 0) de_int) (dv 2)) da_nil))))))))
  (dss_one (ds_frz 1 (ds_ret (de_join de_str (dv 1)))))))
theorem w_law (T : Txt K mg) : DFn P w K mg base 4 "law" 1 f_law := by
  obtain ⟨f, fd, F, hx⟩ := T.f_law
  refine DFn.mk' (k := 3) (N := N_law) F sc_law rfl hx (fun _ _ _ _ _ _ us hl => match us, hl with | [_], _ => rfl) (fun cdv A outer s H E hr tk hp => ?_)
  have nd := sc_law.nd
  exact (dss_cons (ds_set 1 nd (de_call (w__law_writer T) hr (by decide) tk (da_cons (dv 0) (da_cons de_int (da_cons (de_tup (da_cons de_int (da_cons de_int (da_cons de_int da_nil)))) da_nil)))))
  (dss_cons (ds_set 2 nd (de_call (w_shown T) hr (by decide) tk (da_cons (dv 1) da_nil)))
  (dss_cons (ds_if (dt_w (dw_or (dt_not (dt_val (de_isi boot_str T.z_isinstance T.z_str (dv 2)))) (dw_or1 (dt_cmp (ox_ne hr.units) (dv 2) (de_call (w__law_text T) hr (by decide) tk (da_cons (dv 1) da_nil)) (nomark _)))))
   (dss_one (ds_ret de_bl))
   dss_nil)
  (dss_cons (ds_set 3 nd (de_call (w_read T) hr (by decide) tk (da_cons (dv 2) da_nil)))
  (dss_cons (ds_if (dt_w (dw_or (dt_not (dt_val (de_isi boot_tuple T.z_isinstance T.z_tuple (dv 3)))) (dw_or (dt_cmp (ox_ne hr.units) (dv 3) (dv 1) (nomark _)) (dw_or1 (dt_val (de_isi boot_bool T.z_isinstance T.z_bool (de_ix (dv 3) de_int)))))))
   (dss_one (ds_ret de_bl))
   dss_nil)
  (dss_cons (ds_for hp rfl (di_any (de_ix (dv 3) de_int)) (dg_name 4 nd)
   (dss_one (ds_for hp rfl (di_any (dv 4)) (dg_tup rfl (dgs_cons (dg_name 5 nd) (dgs_cons (dg_name 6 nd) dgs_nil)) (gsl_cons (gsl_cons (fun _ _ _ h => gsl_nil h))))
   (dss_one (ds_if (dt_val (de_isi boot_bool T.z_isinstance T.z_bool (dv 6)))
   (dss_one (ds_ret de_bl))
   dss_nil)))))
  (dss_one (ds_ret de_bl))))))))
end
/-! ### what the top has written -/
section
variable {P : Program} {w : World} {K : PySem.W.Frag} {mg : Str → Option Value} {base : Heap}
theorem fn_law {f : Addr} {fd : FuncData} (F : Fun K "law" "law" s_law f fd) (T : Txt K mg) : FnOk P w K mg base (L2.CX P w) 4 f fd ["script"] (spD ⟨K, w⟩ mg 1 f_law) := by
  refine fun_okD (k := 3) (N := N_law) (n := 1) F sc_law rfl (fun cdv A outer s H E hr tk hp => ?_)
  have nd := sc_law.nd
  exact (dss_cons (ds_set 1 nd (de_call (w__law_writer T) hr (by decide) tk (da_cons (dv 0) (da_cons de_int (da_cons (de_tup (da_cons de_int (da_cons de_int (da_cons de_int da_nil)))) da_nil)))))
  (dss_cons (ds_set 2 nd (de_call (w_shown T) hr (by decide) tk (da_cons (dv 1) da_nil)))
  (dss_cons (ds_if (dt_w (dw_or (dt_not (dt_val (de_isi boot_str T.z_isinstance T.z_str (dv 2)))) (dw_or1 (dt_cmp (ox_ne hr.units) (dv 2) (de_call (w__law_text T) hr (by decide) tk (da_cons (dv 1) da_nil)) (nomark _)))))
   (dss_one (ds_ret de_bl))
   dss_nil)
  (dss_cons (ds_set 3 nd (de_call (w_read T) hr (by decide) tk (da_cons (dv 2) da_nil)))
  (dss_cons (ds_if (dt_w (dw_or (dt_not (dt_val (de_isi boot_tuple T.z_isinstance T.z_tuple (dv 3)))) (dw_or (dt_cmp (ox_ne hr.units) (dv 3) (dv 1) (nomark _)) (dw_or1 (dt_val (de_isi boot_bool T.z_isinstance T.z_bool (de_ix (dv 3) de_int)))))))
   (dss_one (ds_ret de_bl))
   dss_nil)
  (dss_cons (ds_for hp rfl (di_any (de_ix (dv 3) de_int)) (dg_name 4 nd)
   (dss_one (ds_for hp rfl (di_any (dv 4)) (dg_tup rfl (dgs_cons (dg_name 5 nd) (dgs_cons (dg_name 6 nd) dgs_nil)) (gsl_cons (gsl_cons (fun _ _ _ h => gsl_nil h))))
   (dss_one (ds_if (dt_val (de_isi boot_bool T.z_isinstance T.z_bool (dv 6)))
   (dss_one (ds_ret de_bl))
   dss_nil)))))
  (dss_one (ds_ret de_bl))))))))
end
theorem all_mk {P : Program} {w : World} {K : PySem.W.Frag} {h : Heap} {mg : Str → Option Value} {fa : Addr} (X : K.In h) (G : h.Ns mainGlobals mg) (hfa : mg "law" = some (.ref fa)) (law_true : ∀ ns : List Int, ns.length ≤ 63 → f_law [.scr ns] = .ok (.bl true))
    {f0 : Addr} {od0 an0 : Option Addr} {sl0 : Array (Option Value)} {oc0 kV0 dc0 pm0 cd0 ct0 : Value}
    {f1 : Addr} {od1 an1 : Option Addr} {sl1 : Array (Option Value)} {oc1 kV1 dc1 pm1 cd1 ct1 : Value}
    {f2 : Addr} {od2 an2 : Option Addr} {sl2 : Array (Option Value)} {oc2 kV2 dc2 pm2 cd2 ct2 : Value}
    {f3 : Addr} {od3 an3 : Option Addr} {sl3 : Array (Option Value)} {oc3 kV3 dc3 pm3 cd3 ct3 : Value}
    {f4 : Addr} {od4 an4 : Option Addr} {sl4 : Array (Option Value)} {oc4 kV4 dc4 pm4 cd4 ct4 : Value}
    {f5 : Addr} {od5 an5 : Option Addr} {sl5 : Array (Option Value)} {oc5 kV5 dc5 pm5 cd5 ct5 : Value}
    {f6 : Addr} {od6 an6 : Option Addr} {sl6 : Array (Option Value)} {oc6 kV6 dc6 pm6 cd6 ct6 : Value}
    {f7 : Addr} {od7 an7 : Option Addr} {sl7 : Array (Option Value)} {oc7 kV7 dc7 pm7 cd7 ct7 : Value}
    {f8 : Addr} {od8 an8 : Option Addr} {sl8 : Array (Option Value)} {oc8 kV8 dc8 pm8 cd8 ct8 : Value}
    {f9 : Addr} {od9 an9 : Option Addr} {sl9 : Array (Option Value)} {oc9 kV9 dc9 pm9 cd9 ct9 : Value}
    {f10 : Addr} {od10 an10 : Option Addr} {sl10 : Array (Option Value)} {oc10 kV10 dc10 pm10 cd10 ct10 : Value}
    {f11 : Addr} {od11 an11 : Option Addr} {sl11 : Array (Option Value)} {oc11 kV11 dc11 pm11 cd11 ct11 : Value}
    {f12 : Addr} {od12 an12 : Option Addr} {sl12 : Array (Option Value)} {oc12 kV12 dc12 pm12 cd12 ct12 : Value}
    {f13 : Addr} {od13 an13 : Option Addr} {sl13 : Array (Option Value)} {oc13 kV13 dc13 pm13 cd13 ct13 : Value}
    {tk_FIGURES : Tok}
    {tk_LETTERS : Tok}
    {tk_LONGEST : Tok}
    {tk_SIGNS : Tok}
    {tk_STATES : Tok}
    {C_NoNote : Addr}
    {C_NoWriter : Addr}
    (a0 : PySem.W.nsIn K mainGlobals "is_word" = some (some (.ref f0))) (l0 : K.lookup f0 = some ⟨oc0, od0, .func (PySem.W.fnOf "is_word" "is_word" (defArgs s_is_word) (defBody s_is_word) (defScope s_is_word) .none kV0 dc0 pm0 an0 cd0 ct0), sl0⟩) (c0 : PySem.W.codeIn K cd0 "is_word" = true) (k0 : PySem.W.keepIn K (.ref f0) = true)
    (a1 : PySem.W.nsIn K mainGlobals "asked_writer" = some (some (.ref f1))) (l1 : K.lookup f1 = some ⟨oc1, od1, .func (PySem.W.fnOf "asked_writer" "asked_writer" (defArgs s_asked_writer) (defBody s_asked_writer) (defScope s_asked_writer) .none kV1 dc1 pm1 an1 cd1 ct1), sl1⟩) (c1 : PySem.W.codeIn K cd1 "asked_writer" = true) (k1 : PySem.W.keepIn K (.ref f1) = true)
    (a2 : PySem.W.nsIn K mainGlobals "shown_word" = some (some (.ref f2))) (l2 : K.lookup f2 = some ⟨oc2, od2, .func (PySem.W.fnOf "shown_word" "shown_word" (defArgs s_shown_word) (defBody s_shown_word) (defScope s_shown_word) .none kV2 dc2 pm2 an2 cd2 ct2), sl2⟩) (c2 : PySem.W.codeIn K cd2 "shown_word" = true) (k2 : PySem.W.keepIn K (.ref f2) = true)
    (a3 : PySem.W.nsIn K mainGlobals "shown" = some (some (.ref f3))) (l3 : K.lookup f3 = some ⟨oc3, od3, .func (PySem.W.fnOf "shown" "shown" (defArgs s_shown) (defBody s_shown) (defScope s_shown) .none kV3 dc3 pm3 an3 cd3 ct3), sl3⟩) (c3 : PySem.W.codeIn K cd3 "shown" = true) (k3 : PySem.W.keepIn K (.ref f3) = true)
    (a4 : PySem.W.nsIn K mainGlobals "word_of" = some (some (.ref f4))) (l4 : K.lookup f4 = some ⟨oc4, od4, .func (PySem.W.fnOf "word_of" "word_of" (defArgs s_word_of) (defBody s_word_of) (defScope s_word_of) .none kV4 dc4 pm4 an4 cd4 ct4), sl4⟩) (c4 : PySem.W.codeIn K cd4 "word_of" = true) (k4 : PySem.W.keepIn K (.ref f4) = true)
    (a5 : PySem.W.nsIn K mainGlobals "pair_of" = some (some (.ref f5))) (l5 : K.lookup f5 = some ⟨oc5, od5, .func (PySem.W.fnOf "pair_of" "pair_of" (defArgs s_pair_of) (defBody s_pair_of) (defScope s_pair_of) .none kV5 dc5 pm5 an5 cd5 ct5), sl5⟩) (c5 : PySem.W.codeIn K cd5 "pair_of" = true) (k5 : PySem.W.keepIn K (.ref f5) = true)
    (a6 : PySem.W.nsIn K mainGlobals "read" = some (some (.ref f6))) (l6 : K.lookup f6 = some ⟨oc6, od6, .func (PySem.W.fnOf "read" "read" (defArgs s_read) (defBody s_read) (defScope s_read) .none kV6 dc6 pm6 an6 cd6 ct6), sl6⟩) (c6 : PySem.W.codeIn K cd6 "read" = true) (k6 : PySem.W.keepIn K (.ref f6) = true)
    (a7 : PySem.W.nsIn K mainGlobals "_law_cell_at" = some (some (.ref f7))) (l7 : K.lookup f7 = some ⟨oc7, od7, .func (PySem.W.fnOf "_law_cell_at" "_law_cell_at" (defArgs s__law_cell_at) (defBody s__law_cell_at) (defScope s__law_cell_at) .none kV7 dc7 pm7 an7 cd7 ct7), sl7⟩) (c7 : PySem.W.codeIn K cd7 "_law_cell_at" = true) (k7 : PySem.W.keepIn K (.ref f7) = true)
    (a8 : PySem.W.nsIn K mainGlobals "_law_stirred" = some (some (.ref f8))) (l8 : K.lookup f8 = some ⟨oc8, od8, .func (PySem.W.fnOf "_law_stirred" "_law_stirred" (defArgs s__law_stirred) (defBody s__law_stirred) (defScope s__law_stirred) .none kV8 dc8 pm8 an8 cd8 ct8), sl8⟩) (c8 : PySem.W.codeIn K cd8 "_law_stirred" = true) (k8 : PySem.W.keepIn K (.ref f8) = true)
    (a9 : PySem.W.nsIn K mainGlobals "_law_word" = some (some (.ref f9))) (l9 : K.lookup f9 = some ⟨oc9, od9, .func (PySem.W.fnOf "_law_word" "_law_word" (defArgs s__law_word) (defBody s__law_word) (defScope s__law_word) .none kV9 dc9 pm9 an9 cd9 ct9), sl9⟩) (c9 : PySem.W.codeIn K cd9 "_law_word" = true) (k9 : PySem.W.keepIn K (.ref f9) = true)
    (a10 : PySem.W.nsIn K mainGlobals "_law_writer" = some (some (.ref f10))) (l10 : K.lookup f10 = some ⟨oc10, od10, .func (PySem.W.fnOf "_law_writer" "_law_writer" (defArgs s__law_writer) (defBody s__law_writer) (defScope s__law_writer) .none kV10 dc10 pm10 an10 cd10 ct10), sl10⟩) (c10 : PySem.W.codeIn K cd10 "_law_writer" = true) (k10 : PySem.W.keepIn K (.ref f10) = true)
    (a11 : PySem.W.nsIn K mainGlobals "_law_dashed" = some (some (.ref f11))) (l11 : K.lookup f11 = some ⟨oc11, od11, .func (PySem.W.fnOf "_law_dashed" "_law_dashed" (defArgs s__law_dashed) (defBody s__law_dashed) (defScope s__law_dashed) .none kV11 dc11 pm11 an11 cd11 ct11), sl11⟩) (c11 : PySem.W.codeIn K cd11 "_law_dashed" = true) (k11 : PySem.W.keepIn K (.ref f11) = true)
    (a12 : PySem.W.nsIn K mainGlobals "_law_text" = some (some (.ref f12))) (l12 : K.lookup f12 = some ⟨oc12, od12, .func (PySem.W.fnOf "_law_text" "_law_text" (defArgs s__law_text) (defBody s__law_text) (defScope s__law_text) .none kV12 dc12 pm12 an12 cd12 ct12), sl12⟩) (c12 : PySem.W.codeIn K cd12 "_law_text" = true) (k12 : PySem.W.keepIn K (.ref f12) = true)
    (a13 : PySem.W.nsIn K mainGlobals "law" = some (some (.ref f13))) (l13 : K.lookup f13 = some ⟨oc13, od13, .func (PySem.W.fnOf "law" "law" (defArgs s_law) (defBody s_law) (defScope s_law) .none kV13 dc13 pm13 an13 cd13 ct13), sl13⟩) (c13 : PySem.W.codeIn K cd13 "law" = true) (k13 : PySem.W.keepIn K (.ref f13) = true)
    (z_bool : PySem.W.nsIn K mainGlobals "bool" = some none)
    (z_int : PySem.W.nsIn K mainGlobals "int" = some none)
    (z_isinstance : PySem.W.nsIn K mainGlobals "isinstance" = some none)
    (z_len : PySem.W.nsIn K mainGlobals "len" = some none)
    (z_min : PySem.W.nsIn K mainGlobals "min" = some none)
    (z_range : PySem.W.nsIn K mainGlobals "range" = some none)
    (z_str : PySem.W.nsIn K mainGlobals "str" = some none)
    (z_tuple : PySem.W.nsIn K mainGlobals "tuple" = some none)
    (g_FIGURES : PySem.W.nsIn K mainGlobals "FIGURES" = some (some (.str "0123456789" tk_FIGURES)))
    (g_LETTERS : PySem.W.nsIn K mainGlobals "LETTERS" = some (some (.str "abcd" tk_LETTERS)))
    (g_LONGEST : PySem.W.nsIn K mainGlobals "LONGEST" = some (some (.int 8 tk_LONGEST)))
    (g_SIGNS : PySem.W.nsIn K mainGlobals "SIGNS" = some (some (.int 4 tk_SIGNS)))
    (g_STATES : PySem.W.nsIn K mainGlobals "STATES" = some (some (.int 6 tk_STATES)))
    (ea_NoNote : PySem.W.nsIn K mainGlobals "NoNote" = some (some (.ref C_NoNote))) (ex_NoNote : PySem.W.excIn K C_NoNote [.type "ValueError", .type "Exception", .type "BaseException", .type "object"] "ValueError.__new__" = true) (ek_NoNote : PySem.W.keepIn K (.ref C_NoNote) = true) (eb_NoNote : PySem.W.subIn K (.ref C_NoNote) (.type "BaseException") = some true) (et_NoNote : PySem.W.typeIn K (.ref C_NoNote) = some (.type "type"))
    (ea_NoWriter : PySem.W.nsIn K mainGlobals "NoWriter" = some (some (.ref C_NoWriter))) (ex_NoWriter : PySem.W.excIn K C_NoWriter [.type "ValueError", .type "Exception", .type "BaseException", .type "object"] "ValueError.__new__" = true) (ek_NoWriter : PySem.W.keepIn K (.ref C_NoWriter) = true) (eb_NoWriter : PySem.W.subIn K (.ref C_NoWriter) (.type "BaseException") = some true) (et_NoWriter : PySem.W.typeIn K (.ref C_NoWriter) = some (.type "type"))
    : ∃ fd : FuncData, (∀ (s : Shared) (v : Value), BindsTo s fd ⟨[v], []⟩ [("script", v)]) ∧ ∀ base : Heap, K.In base → base.Ns mainGlobals mg → FnOk P w K mg base (L2.CX P w) 4 fa fd ["script"] (spEnd K) := by
  have e := hfa.symm.trans (PySem.W.mg_of X G a13)
  cases e
  have F0 := fun_mk (st := s_is_word) l0 c0 k0
  have F1 := fun_mk (st := s_asked_writer) l1 c1 k1
  have F2 := fun_mk (st := s_shown_word) l2 c2 k2
  have F3 := fun_mk (st := s_shown) l3 c3 k3
  have F4 := fun_mk (st := s_word_of) l4 c4 k4
  have F5 := fun_mk (st := s_pair_of) l5 c5 k5
  have F6 := fun_mk (st := s_read) l6 c6 k6
  have F7 := fun_mk (st := s__law_cell_at) l7 c7 k7
  have F8 := fun_mk (st := s__law_stirred) l8 c8 k8
  have F9 := fun_mk (st := s__law_word) l9 c9 k9
  have F10 := fun_mk (st := s__law_writer) l10 c10 k10
  have F11 := fun_mk (st := s__law_dashed) l11 c11 k11
  have F12 := fun_mk (st := s__law_text) l12 c12 k12
  have F13 := fun_mk (st := s_law) l13 c13 k13
  have T : Txt K mg := { f_is_word := ⟨_, _, F0, PySem.W.mg_of X G a0⟩, f_asked_writer := ⟨_, _, F1, PySem.W.mg_of X G a1⟩, f_shown_word := ⟨_, _, F2, PySem.W.mg_of X G a2⟩, f_shown := ⟨_, _, F3, PySem.W.mg_of X G a3⟩, f_word_of := ⟨_, _, F4, PySem.W.mg_of X G a4⟩, f_pair_of := ⟨_, _, F5, PySem.W.mg_of X G a5⟩, f_read := ⟨_, _, F6, PySem.W.mg_of X G a6⟩, f__law_cell_at := ⟨_, _, F7, PySem.W.mg_of X G a7⟩, f__law_stirred := ⟨_, _, F8, PySem.W.mg_of X G a8⟩, f__law_word := ⟨_, _, F9, PySem.W.mg_of X G a9⟩, f__law_writer := ⟨_, _, F10, PySem.W.mg_of X G a10⟩, f__law_dashed := ⟨_, _, F11, PySem.W.mg_of X G a11⟩, f__law_text := ⟨_, _, F12, PySem.W.mg_of X G a12⟩, f_law := ⟨_, _, F13, PySem.W.mg_of X G a13⟩, z_bool := PySem.W.mg_none_of X G z_bool, z_int := PySem.W.mg_none_of X G z_int, z_isinstance := PySem.W.mg_none_of X G z_isinstance, z_len := PySem.W.mg_none_of X G z_len, z_min := PySem.W.mg_none_of X G z_min, z_range := PySem.W.mg_none_of X G z_range, z_str := PySem.W.mg_none_of X G z_str, z_tuple := PySem.W.mg_none_of X G z_tuple, t_FIGURES := ⟨_, PySem.W.mg_of X G g_FIGURES⟩, t_LETTERS := ⟨_, PySem.W.mg_of X G g_LETTERS⟩, t_LONGEST := ⟨_, PySem.W.mg_of X G g_LONGEST⟩, t_SIGNS := ⟨_, PySem.W.mg_of X G g_SIGNS⟩, t_STATES := ⟨_, PySem.W.mg_of X G g_STATES⟩, e_NoNote := ⟨_, PySem.W.mg_of X G ea_NoNote, ex_NoNote, ek_NoNote, eb_NoNote, et_NoNote⟩, e_NoWriter := ⟨_, PySem.W.mg_of X G ea_NoWriter, ex_NoWriter, ek_NoWriter, eb_NoWriter, et_NoWriter⟩ }
  refine ⟨PySem.W.fnOf "law" "law" (defArgs s_law) (defBody s_law) (defScope s_law) .none kV13 dc13 pm13 an13 cd13 ct13, fun s v => .of_eq rfl, fun base _ _ => ?_⟩
  exact (fn_law F13 T).imp (sp_law law_true)
end Wk

namespace Wk
open PySem PySem.Spec PyProof.Rows L2 TL DL
/-! ### plain facts -/
theorem line_big : 1000000 ≤ sizeLine := by rw [sizeLine_eq]; decide
theorem atI_nat' {α : Type} (xs : List α) (n : Nat) : atI xs (n : Int) = xs[n]? := by
  cases h : xs[n]? with
  | some v => exact atI_nat h
  | none =>
    have hn : xs.length ≤ n := List.getElem?_eq_none_iff.mp h
    unfold atI ixN
    rw [if_pos (by omega), if_neg (by omega)]
    rfl
@[simp] theorem dLoop_nil (t : DTgt) (b : DStm) (e : DEnv) : dLoop t b [] e = .nx e := rfl
theorem dLoop_cons (t : DTgt) (b : DStm) (d : D) (ds : List D) (e : DEnv) : dLoop t b (d :: ds) e = (match t d e with
    | none => .no
    | some e => match b e with
      | .nx e' => dLoop t b ds e'
      | .ct e' => dLoop t b ds e'
      | .bk e' => .nx e'
      | .rt d => .rt d
      | .ex c e => .ex c e
      | .no => .no) := rfl
theorem dLoop_step {t : DTgt} {b : DStm} {d : D} {ds : List D} {e e1 e2 : DEnv} {r : DOut} (h1 : t d e = some e1) (h2 : b e1 = .nx e2) (h3 : dLoop t b ds e2 = r) : dLoop t b (d :: ds) e = r := by
  rw [dLoop_cons, h1]
  simp only [h2]
  exact h3
/-- a loop whose turns go on, by an invariant of the turns -/
theorem dLoop_inv {t : DTgt} {b : DStm} {α : Type} (I : List α → DEnv → Prop) (P : DEnv → Prop) (f : α → D) (step : ∀ a as e, I (a :: as) e → ∃ e1, t (f a) e = some e1 ∧ ∃ e2, (b e1 = .nx e2 ∨ b e1 = .ct e2) ∧ I as e2) (fin : ∀ e, I [] e → P e) :
    ∀ (as : List α) (e : DEnv), I as e → ∃ e', dLoop t b (as.map f) e = .nx e' ∧ P e'
  | [], e, h => ⟨e, rfl, fin e h⟩
  | a :: as, e, h => by
    obtain ⟨e1, h1, e2, h2, h3⟩ := step a as e h
    obtain ⟨e', q1, q2⟩ := dLoop_inv I P f step fin as e2 h3
    refine ⟨e', ?_, q2⟩
    rw [List.map_cons, dLoop_cons, h1]
    rcases h2 with h2 | h2
    · simp only [h2]; exact q1
    · simp only [h2]; exact q1

/-! ### texts by their signs -/
abbrev T := List Nat
def sv (l : T) : Str := ⟨l.toArray⟩
theorem sv_tl (l : T) : tl (sv l) = l := rfl
theorem tl_sv (s : Str) : sv (tl s) = s := mk_tl s
@[simp] theorem sv_app (a b : T) : sv a ++ sv b = sv (a ++ b) := ext_tl (by rw [tl_append]; rfl)
@[simp] theorem sv_len (a : T) : (sv a).length = a.length := by rw [len_tl, sv_tl]
@[simp] theorem sv_inj {a b : T} : sv a = sv b ↔ a = b := ⟨fun h => by have := congrArg tl h; exact this, fun h => by rw [h]⟩
@[simp] theorem sv_cps (a : T) : (sv a).cps.toList = a := rfl
def tD (l : T) : D := .str (sv l)
theorem tD_def (l : T) : D.str (sv l) = tD l := rfl
@[simp] theorem tD_inj {a b : T} : tD a = tD b ↔ a = b := by simp [tD]
theorem nil_tD : (D.str "") = tD [] := by
  unfold tD; congr 1
theorem abcd_tD : (D.str "abcd") = tD [97, 98, 99, 100] := by
  unfold tD; congr 1
@[simp] theorem add_tD {a b : T} (h : a.length + b.length ≤ 100000) : addD (tD a) (tD b) = some (tD (a ++ b)) := by
  unfold tD addD
  have := line_big
  simp only [sv_len, sv_app]
  rw [if_pos (by omega)]
@[simp] theorem len_tD {a : T} (h : a.length ≤ 100000) : lenD [tD a] = some (.int a.length) := by
  unfold tD lenD
  have := line_big
  simp only [sv_len]
  rw [if_pos (by omega)]

/-! ### writers -/
structure Wr where
  signs : Nat
  rows : List (List (T × Nat))
  ends : List T
def pairD (p : T × Nat) : D := .tup [tD p.1, .int (p.2 : Int)]
def rowD (r : List (T × Nat)) : D := .tup (r.map pairD)
def rowsD (r : List (List (T × Nat))) : D := .tup (r.map rowD)
def endsD (e : List T) : D := .tup (e.map tD)
def wrD (w : Wr) : D := .tup [.int (w.signs : Int), rowsD w.rows, endsD w.ends]
def Wd (l : T) : Prop := l.length ≤ 8 ∧ ∀ c ∈ l, 97 ≤ c ∧ c ≤ 100
structure Wr.Ok (w : Wr) : Prop where
  s1 : 1 ≤ w.signs
  s4 : w.signs ≤ 4
  r1 : 1 ≤ w.rows.length
  r6 : w.rows.length ≤ 6
  el : w.ends.length = w.rows.length
  rl : ∀ r ∈ w.rows, r.length = w.signs
  pr : ∀ r ∈ w.rows, ∀ p ∈ r, Wd p.1 ∧ p.2 < w.rows.length
  en : ∀ e ∈ w.ends, Wd e
def Wr.at (w : Wr) (st m : Nat) : T × Nat := (w.rows.getD st []).getD m ([], 0)
def Wr.fin (w : Wr) (st : Nat) : T := w.ends.getD st []
def Wr.gone (w : Wr) : Nat → List Nat → T × Nat
  | st, [] => ([], st)
  | st, m :: ms => ((w.at st m).1 ++ (w.gone (w.at st m).2 ms).1, (w.gone (w.at st m).2 ms).2)
def Wr.text (w : Wr) (ms : List Nat) : T := (w.gone 0 ms).1 ++ w.fin (w.gone 0 ms).2
/-- a message as data -/
def mD (ms : List Nat) : D := .lst (ms.map fun (m : Nat) => D.int (m : Int))
def Msg (w : Wr) (ms : List Nat) : Prop := ∀ m ∈ ms, m < w.signs

theorem Wr.Ok.at_ok {w : Wr} (o : w.Ok) {st m : Nat} (hs : st < w.rows.length) (hm : m < w.signs) : ∃ r, w.rows[st]? = some r ∧ r[m]? = some (w.at st m) ∧ Wd (w.at st m).1 ∧ (w.at st m).2 < w.rows.length := by
  have h1 : w.rows[st]? = some w.rows[st] := List.getElem?_eq_getElem hs
  have mem := List.getElem_mem hs
  have hl := o.rl _ mem
  have h2 : (w.rows[st])[m]? = some (w.rows[st])[m] := List.getElem?_eq_getElem (by omega)
  have e : w.at st m = (w.rows[st])[m] := by
    unfold Wr.at
    simp only [List.getD_eq_getElem?_getD, h1, Option.getD_some, h2]
  refine ⟨_, h1, by rw [h2, e], ?_⟩
  rw [e]
  exact o.pr _ mem _ (List.getElem_mem _)
theorem Wr.Ok.fin_ok {w : Wr} (o : w.Ok) {st : Nat} (hs : st < w.rows.length) : w.ends[st]? = some (w.fin st) ∧ Wd (w.fin st) := by
  have hl : st < w.ends.length := by rw [o.el]; exact hs
  have h1 : w.ends[st]? = some w.ends[st] := List.getElem?_eq_getElem hl
  have e : w.fin st = w.ends[st] := by
    unfold Wr.fin
    rw [List.getD_eq_getElem?_getD, h1, Option.getD_some]
  rw [e]
  exact ⟨h1, o.en _ (List.getElem_mem _)⟩
theorem Wr.Ok.gone_ok {w : Wr} (o : w.Ok) : ∀ (ms : List Nat) (st : Nat), st < w.rows.length → Msg w ms → (w.gone st ms).2 < w.rows.length ∧ (w.gone st ms).1.length ≤ 8 * ms.length
  | [], st, h, _ => ⟨h, by simp [Wr.gone]⟩
  | m :: ms, st, h, hm => by
    obtain ⟨r, h1, h2, h3, h4⟩ := o.at_ok h (hm m List.mem_cons_self)
    obtain ⟨q1, q2⟩ := o.gone_ok ms _ h4 fun x hx => hm x (List.mem_cons_of_mem _ hx)
    refine ⟨q1, ?_⟩
    simp only [Wr.gone, List.length_append, List.length_cons]
    have := h3.1
    omega
@[simp] theorem wr0 (w : Wr) : ixAD (wrD w) (.int 0) = some (.int w.signs) := rfl
@[simp] theorem wr1 (w : Wr) : ixAD (wrD w) (.int 1) = some (rowsD w.rows) := rfl
@[simp] theorem wr2 (w : Wr) : ixAD (wrD w) (.int 2) = some (endsD w.ends) := rfl
theorem ix_rows {rs : List (List (T × Nat))} {n : Nat} {r : List (T × Nat)} (h : rs[n]? = some r) : ixAD (rowsD rs) (.int n) = some (rowD r) := by
  simp only [rowsD, ixAD]
  rw [atI_nat', List.getElem?_map, h]
  rfl
theorem ix_row {r : List (T × Nat)} {n : Nat} {p : T × Nat} (h : r[n]? = some p) : ixAD (rowD r) (.int n) = some (pairD p) := by
  simp only [rowD, ixAD]
  rw [atI_nat', List.getElem?_map, h]
  rfl
theorem ix_ends {es : List T} {n : Nat} {e : T} (h : es[n]? = some e) : ixAD (endsD es) (.int n) = some (tD e) := by
  simp only [endsD, ixAD]
  rw [atI_nat', List.getElem?_map, h]
  rfl
@[simp] theorem pair0 (p : T × Nat) : ixAD (pairD p) (.int 0) = some (tD p.1) := rfl
@[simp] theorem pair1 (p : T × Nat) : ixAD (pairD p) (.int 1) = some (.int p.2) := rfl

end Wk

namespace Wk
open PySem PySem.Spec PyProof.Rows L2 TL DL
theorem cLoop_filter {t : DTgt} {c : DEnv → M Bool} {f : DEnv → M D} {e0 : DEnv} {α : Type} (g : α → D) (p : α → Bool) (y : α → D) : ∀ (as : List α), (∀ a ∈ as, ∃ e, t (g a) e0 = some e ∧ c e = .ok (p a) ∧ (p a = true → f e = .ok (y a))) → cLoop t c f e0 (as.map g) = .ok ((as.filter p).map y)
  | [], _ => rfl
  | a :: as, h => by
    obtain ⟨e, h1, h2, h3⟩ := h a List.mem_cons_self
    have ih := cLoop_filter g p y as fun x hx => h x (List.mem_cons_of_mem _ hx)
    rw [List.map_cons]
    unfold cLoop
    simp only [h1, h2]
    cases q : p a with
    | true => simp [h3 q, ih, List.filter_cons, q]
    | false => simp [ih, List.filter_cons, q]
theorem cLoop_map {t : DTgt} {f : DEnv → M D} {e0 : DEnv} {α : Type} (g : α → D) (y : α → D) (as : List α) (h : ∀ a ∈ as, ∃ e, t (g a) e0 = some e ∧ f e = .ok (y a)) : cLoop t (fun _ => .ok true) f e0 (as.map g) = .ok (as.map y) := by
  have := cLoop_filter (t := t) (c := fun _ => .ok true) (f := f) (e0 := e0) g (fun _ => true) y as fun a ha => by
    obtain ⟨e, h1, h2⟩ := h a ha
    exact ⟨e, h1, rfl, fun _ => h2⟩
  rw [this, List.filter_eq_self.mpr (fun _ _ => rfl)]
theorem found_sv (l : T) (c : Nat) : (!(Builtin.Str.occurrences (sv l) (sv [c]) 0 (sv l).length 1).isEmpty) = decide (c ∈ l) := PySem.StrLaws.found_one (sv l) c
@[simp] theorem inS_one (c : Nat) (l : T) : inSD (tD [c]) (tD l) = some (.bl (decide (c ∈ l))) := by
  unfold tD inSD
  simp only [found_sv]
@[simp] theorem ninS_one (c : Nat) (l : T) : ninSD (tD [c]) (tD l) = some (.bl (!decide (c ∈ l))) := by
  unfold tD ninSD
  simp only [found_sv]
@[simp] theorem items_tD (l : T) : itemsD (tD l) = .ok (l.map fun c => tD [c]) := rfl
theorem small_line {n : Nat} (h : n ≤ 100000) : n ≤ sizeLine := Nat.le_trans (Nat.le_trans h (by decide)) line_big
theorem small_lt {n : Nat} (h : n ≤ 100000) : n < sizeLine := Nat.lt_of_le_of_lt h (Nat.lt_of_lt_of_le (by decide) line_big)

/-! ### == -/
theorem strOk_sv {l : T} (h : ∀ c ∈ l, c < 1114112) : PyData.strOk (sv l) = true := by
  unfold PyData.strOk sv
  simpa using h
theorem eqOk_tD {n : Nat} {l : T} (h : ∀ c ∈ l, c < 1114112) : eqOk n (tD l) = true := by
  unfold tD
  cases n <;> simpa [eqOk] using strOk_sv h
theorem eqD_eq {a b : D} (h : (scalD a b || (eqOk 60 a && eqOk 60 b)) = true) : eqD a b = some (.bl (decide (a = b))) := by unfold eqD; rw [if_pos h]
theorem neD_eq {a b : D} (h : (scalD a b || (eqOk 60 a && eqOk 60 b)) = true) : neD a b = some (.bl (!decide (a = b))) := by unfold neD; rw [if_pos h]
@[simp] theorem eqD_int (a b : Int) : eqD (.int a) (.int b) = some (.bl (decide (a = b))) := by rw [eqD_eq rfl]; simp
@[simp] theorem neD_int (a b : Int) : neD (.int a) (.int b) = some (.bl (!decide (a = b))) := by rw [neD_eq rfl]; simp
@[simp] theorem eqD_tD (a b : T) : eqD (tD a) (tD b) = some (.bl (decide (a = b))) := by rw [eqD_eq rfl]; simp
@[simp] theorem neD_tD (a b : T) : neD (tD a) (tD b) = some (.bl (!decide (a = b))) := by rw [neD_eq rfl]; simp

/-! ### the sizes of bool lists -/
theorem eqOks_of {n : Nat} {α : Type} (f : α → D) : ∀ (l : List α), (∀ a ∈ l, eqOk n (f a) = true) → eqOks n (l.map f) = true
  | [], _ => by cases n <;> rfl
  | a :: l, h => by
    rw [List.map_cons]
    unfold eqOks
    rw [h a List.mem_cons_self, eqOks_of f l fun x hx => h x (List.mem_cons_of_mem _ hx)]
    rfl
theorem eqOk_lst {n : Nat} {α : Type} (f : α → D) (l : List α) (h : ∀ a ∈ l, eqOk n (f a) = true) : eqOk (n + 1) (.lst (l.map f)) = true := by
  unfold eqOk
  exact eqOks_of f l h
theorem eqOk_tup {n : Nat} {α : Type} (f : α → D) (l : List α) (h : ∀ a ∈ l, eqOk n (f a) = true) : eqOk (n + 1) (.tup (l.map f)) = true := by
  unfold eqOk
  exact eqOks_of f l h
theorem eqOk_int {n : Nat} (i : Int) : eqOk n (.int i) = true := by cases n <;> rfl

/-! ### is_word -/
def wdB (l : T) : Bool := decide (l.length ≤ 8) && decide (∀ c ∈ l, 97 ≤ c ∧ c ≤ 100)
theorem wdB_iff {l : T} : wdB l = true ↔ Wd l := by simp [wdB, Wd]
theorem is_word_eq (l : T) (hl : l.length ≤ 100000) (hc : ∀ c ∈ l, c < 1114112) : f_is_word [tD l] = .ok (.bl (wdB l)) := by
  have e : f_is_word [tD l] = fnRes (r_is_word [.dat (tD l), .un]) := rfl
  rw [e]
  have comp : cLoop (gN 1) (tE (xOp ninSD (xVar 1) (xC (.str "abcd")))) (xVar 1) (wipeE [.dat (tD l), .un] [1]) (l.map fun c => tD [c]) = .ok ((l.filter fun c => !decide (c ∈ [97, 98, 99, 100])).map fun c => tD [c]) := by
    refine cLoop_filter (fun c => tD [c]) _ (fun c => tD [c]) l fun c hc => ?_
    refine ⟨_, rfl, ?_, fun _ => ?_⟩
    · simp [wipeE, abcd_tD]
    · simp [wipeE]
  have key : (decide (D.lst ((l.filter fun c => !decide (c ∈ [97, 98, 99, 100])).map fun c => tD [c]) = D.lst [])) = decide (∀ c ∈ l, 97 ≤ c ∧ c ≤ 100) := by
    rw [Bool.eq_iff_iff]
    simp only [decide_eq_true_eq, D.lst.injEq, List.map_eq_nil_iff, List.filter_eq_nil_iff]
    constructor
    · intro h c hc
      have := h c hc
      simp at this
      omega
    · intro h c hc
      have := h c hc
      simp
      omega
  have hE : eqD (D.lst ((l.filter fun c => !decide (c ∈ [97, 98, 99, 100])).map fun c => tD [c])) (D.lst []) = some (.bl (decide (∀ c ∈ l, 97 ≤ c ∧ c ≤ 100))) := by
    rw [eqD_eq, key]
    have h1 : eqOk 60 (D.lst ((l.filter fun c => !decide (c ∈ [97, 98, 99, 100])).map fun c => tD [c])) = true :=
      eqOk_lst (n := 59) _ _ fun c hc' => eqOk_tD fun x hx => by
        simp at hx
        subst hx
        exact hc _ (List.mem_filter.mp hc').1
    rw [h1]
    rfl
  by_cases h8 : l.length ≤ 8
  · have i8 : ((l.length : Int) ≤ 8) := by omega
    simp only [r_is_word, sRet, xAnd, xOp, xCb, aCons, aNil, xVar, xC, celD, xL, lComp, lLst, iAny, List.getElem?_cons_zero, M.bind, len_tD hl, M.of, leD, decide_eq_true i8, items_tD, List.length_map]
    rw [if_pos ⟨small_lt hl, by simp [Cel.isOwned]⟩, comp]
    simp only [M.bind, M.of, List.length_nil, Nat.zero_le, if_true, hE, M.to, fnRes]
    simp [wdB, h8]
  · have i8 : ¬ ((l.length : Int) ≤ 8) := by omega
    simp [r_is_word, len_tD hl, leD, i8, wdB, h8]
end Wk

namespace Wk
open PySem PySem.Spec PyProof.Rows L2 TL DL
theorem Wd.small {l : T} (h : Wd l) : l.length ≤ 100000 := by have := h.1; omega
theorem Wd.uni {l : T} (h : Wd l) : ∀ c ∈ l, c < 1114112 := fun c hc => by have := (h.2 c hc).2; omega
theorem is_word_ok {l : T} (h : Wd l) : f_is_word [tD l] = .ok (.bl true) := by rw [is_word_eq l h.small h.uni, wdB_iff.mpr h]
@[simp] theorem len_rows (rs : List (List (T × Nat))) : lenD [rowsD rs] = some (.int rs.length) := by simp [rowsD, lenD]
@[simp] theorem len_row (rs : List (T × Nat)) : lenD [rowD rs] = some (.int rs.length) := by simp [rowD, lenD]
@[simp] theorem len_ends (rs : List T) : lenD [endsD rs] = some (.int rs.length) := by simp [endsD, lenD]
@[simp] theorem items_rows (rs : List (List (T × Nat))) : itemsD (rowsD rs) = .ok (rs.map rowD) := rfl
@[simp] theorem items_row (rs : List (T × Nat)) : itemsD (rowD rs) = .ok (rs.map pairD) := rfl
@[simp] theorem items_ends (rs : List T) : itemsD (endsD rs) = .ok (rs.map tD) := rfl
theorem asked_row_loop {rs : List (List (T × Nat))} (a b c d : Cel) : ∀ (r : List (T × Nat)) (x y : Cel), (∀ p ∈ r, Wd p.1 ∧ p.2 < rs.length) →
    ∃ x' y', dLoop (gT (gsCons (gN 5) (gsCons (gN 6) gsNil))) r_asked_writer_b1 (r.map pairD) [a, b, .dat (rowsD rs), c, d, x, y] = .nx [a, b, .dat (rowsD rs), c, d, x', y']
  | [], x, y, _ => ⟨x, y, rfl⟩
  | p :: r, x, y, h => by
    obtain ⟨h1, h2⟩ := h p List.mem_cons_self
    obtain ⟨x', y', e⟩ := asked_row_loop a b c d r (.dat (tD p.1)) (.dat (.int p.2)) fun q hq => h q (List.mem_cons_of_mem _ hq)
    refine ⟨x', y', dLoop_step rfl ?_ e⟩
    have n1 : ¬ ((p.2 : Int) < 0) := by omega
    have n2 : ¬ ((rs.length : Int) ≤ (p.2 : Int)) := by omega
    simp [r_asked_writer_b1, is_word_ok h1, ltD, geD, n1, n2]
theorem asked_rows_loop {rs : List (List (T × Nat))} {s : Nat} (a c : Cel) : ∀ (r : List (List (T × Nat))) (d x y : Cel), (∀ q ∈ r, q.length = s ∧ ∀ p ∈ q, Wd p.1 ∧ p.2 < rs.length) →
    ∃ d' x' y', dLoop (gN 4) r_asked_writer_b2 (r.map rowD) [a, .dat (.int s), .dat (rowsD rs), c, d, x, y] = .nx [a, .dat (.int s), .dat (rowsD rs), c, d', x', y']
  | [], d, x, y, _ => ⟨d, x, y, rfl⟩
  | q :: r, d, x, y, h => by
    obtain ⟨h1, h2⟩ := h q List.mem_cons_self
    obtain ⟨x1, y1, e1⟩ := asked_row_loop (rs := rs) a (.dat (.int s)) c (.dat (rowD q)) q x y h2
    obtain ⟨d', x', y', e⟩ := asked_rows_loop a c r (.dat (rowD q)) x1 y1 fun p hp => h p (List.mem_cons_of_mem _ hp)
    refine ⟨d', x', y', dLoop_step rfl ?_ e⟩
    simp [r_asked_writer_b2, h1, e1]
theorem asked_ends_loop (a b c d x y : Cel) : ∀ (r : List T) (z : Cel), (∀ q ∈ r, Wd q) →
    ∃ z', dLoop (gN 5) r_asked_writer_b3 (r.map tD) [a, b, c, d, x, z, y] = .nx [a, b, c, d, x, z', y]
  | [], z, _ => ⟨z, rfl⟩
  | q :: r, z, h => by
    obtain ⟨z', e⟩ := asked_ends_loop a b c d x y r (.dat (tD q)) fun p hp => h p (List.mem_cons_of_mem _ hp)
    refine ⟨z', dLoop_step rfl ?_ e⟩
    simp [r_asked_writer_b3, is_word_ok (h q List.mem_cons_self)]
theorem asked_writer_ok {w : Wr} (o : w.Ok) : f_asked_writer [wrD w] = .ok .non := by
  have e : f_asked_writer [wrD w] = fnRes (r_asked_writer [.dat (wrD w), .un, .un, .un, .un, .un, .un]) := rfl
  rw [e]
  obtain ⟨d1, x1, y1, e1⟩ := asked_rows_loop (rs := w.rows) (s := w.signs) (.dat (wrD w)) (.dat (endsD w.ends)) w.rows .un .un .un fun q hq => ⟨o.rl q hq, o.pr q hq⟩
  obtain ⟨z1, e2⟩ := asked_ends_loop (.dat (wrD w)) (.dat (.int w.signs)) (.dat (rowsD w.rows)) (.dat (endsD w.ends)) d1 y1 w.ends x1 o.en
  have s1 := o.s1; have s4 := o.s4; have r1 := o.r1; have r6 := o.r6
  have n1 : ¬ ((w.signs : Int) < 1) := by omega
  have n2 : ¬ ((4 : Int) < (w.signs : Int)) := by omega
  have n3 : ¬ ((w.rows.length : Int) < 1) := by omega
  have n4 : ¬ ((6 : Int) < (w.rows.length : Int)) := by omega
  have wd : wrD w = .tup [.int w.signs, rowsD w.rows, endsD w.ends] := rfl
  rw [wd] at e1 e2 ⊢
  simp [r_asked_writer, ltD, gtD, n1, n2, n3, n4, o.el, e1, e2]
end Wk

namespace Wk
open PySem PySem.Spec PyProof.Rows L2 TL DL
/-! ### cells -/
def IntsD (d : D) (ns : List Int) : Prop := d = .scr ns ∨ d = .lst (ns.map D.int)
def cellAt (ns : List Int) (k : Nat) : Int := ns.getD k 0
theorem cell_eq {d : D} {ns : List Int} (h : IntsD d ns) (k : Nat) : f__law_cell_at [d, .int k] = .ok (.int (cellAt ns k)) := by
  have e : f__law_cell_at [d, .int k] = fnRes (r__law_cell_at [.dat d, .dat (.int k)]) := rfl
  rw [e]
  have hl : lenD [d] = some (.int ns.length) := by
    rcases h with rfl | rfl
    · rfl
    · simp [lenD]
  by_cases hk : k < ns.length
  · have hi : ixAD d (.int k) = some (.int (cellAt ns k)) := by
      have e1 : ns[k]? = some (cellAt ns k) := by
        unfold cellAt
        rw [List.getD_eq_getElem?_getD, List.getElem?_eq_getElem hk]
        rfl
      rcases h with rfl | rfl
      · simp only [ixAD]
        rw [atI_nat', e1]
        rfl
      · simp only [ixAD]
        rw [atI_nat', List.getElem?_map, e1]
        rfl
    simp [r__law_cell_at, hl, ltD, hk, hi]
  · have e1 : cellAt ns k = 0 := by
      unfold cellAt
      rw [List.getD_eq_getElem?_getD, List.getElem?_eq_none_iff.mpr (by omega)]
      rfl
    simp [r__law_cell_at, hl, ltD, hk, e1]
theorem mulD_r {a b : Int} (h : -10000000000 ≤ b ∧ b ≤ 10000000000) : mulD (.int a) (.int b) = some (.int (a * b)) := if_pos (.inr (inM_small h.1 h.2))
theorem mulD_l {a b : Int} (h : -10000000000 ≤ a ∧ a ≤ 10000000000) : mulD (.int a) (.int b) = some (.int (a * b)) := if_pos (.inl (inM_small h.1 h.2))
theorem modD_p {a b : Int} (h : 0 < b) : modD (.int a) (.int b) = some (.int (a % b)) := if_pos h
theorem fdivD_p {a b : Int} (h : 0 < b ∧ b < 1073741824) : fdivD (.int a) (.int b) = some (.int (a / b)) := if_pos h
@[simp] theorem addD_int (a b : Int) : addD (.int a) (.int b) = some (.int (a + b)) := rfl
@[simp] theorem subD_int (a b : Int) : subD (.int a) (.int b) = some (.int (a - b)) := rfl
@[simp] theorem ltD_int (a b : Int) : ltD (.int a) (.int b) = some (.bl (decide (a < b))) := rfl
@[simp] theorem leD_int (a b : Int) : leD (.int a) (.int b) = some (.bl (decide (a ≤ b))) := rfl
@[simp] theorem gtD_int (a b : Int) : gtD (.int a) (.int b) = some (.bl (decide (b < a))) := rfl
@[simp] theorem geD_int (a b : Int) : geD (.int a) (.int b) = some (.bl (decide (b ≤ a))) := rfl
theorem stirred_eq (c k : Int) : ∃ r : Int, 0 ≤ r ∧ f__law_stirred [.int c, .int k] = .ok (.int r) := by
  have e : f__law_stirred [.int c, .int k] = fnRes (r__law_stirred [.dat (.int c), .dat (.int k), .un]) := rfl
  rw [e]
  have b1 : ∀ x : Int, 0 ≤ x % 2147483647 ∧ x % 2147483647 < 2147483647 := fun x => by omega
  have m1 := mulD_l (a := 1009) (b := k) (by decide)
  have m2 := mulD_r (a := c + 1009 * k + 17) (b := 48271) (by decide)
  have m3 := modD_p (a := (c + 1009 * k + 17) * 48271) (b := 2147483647) (by decide)
  generalize hx : (c + 1009 * k + 17) * 48271 % 2147483647 = x at m3
  have bx := b1 ((c + 1009 * k + 17) * 48271)
  rw [hx] at bx
  have m4 := mulD_l (a := x) (b := x) (by omega)
  have m5 := modD_p (a := x * x) (b := 2147483647) (by decide)
  generalize hy : x * x % 2147483647 = y at m5
  have m6 := mulD_r (a := y) (b := 48271) (by decide)
  have m7 := modD_p (a := y * 48271) (b := 2147483647) (by decide)
  generalize hz : y * 48271 % 2147483647 = z at m7
  have bz := b1 (y * 48271)
  rw [hz] at bz
  have m8 := fdivD_p (a := z) (b := 8) (by decide)
  refine ⟨z / 8, by omega, ?_⟩
  simp [r__law_stirred, m1, m2, m3, m4, m5, m6, m7, m8]
theorem ix_abcd {i : Int} (h0 : 0 ≤ i) (h4 : i < 4) : ∃ c : Nat, (97 ≤ c ∧ c ≤ 100) ∧ c = 97 + i.toNat ∧ ixAD (.str "abcd") (.int i) = some (tD [c]) := by
  obtain ⟨n, rfl⟩ := Int.eq_ofNat_of_zero_le h0
  have hn : n < 4 := by omega
  refine ⟨97 + n, by omega, by simp, ?_⟩
  have hs : ("abcd" : Str).length ≤ sizeLine := small_line (by decide)
  have e : ("abcd" : Str).cps.toList = [97, 98, 99, 100] := by decide
  unfold ixAD
  simp only
  rw [if_pos hs, e]
  have h2 : atI [97, 98, 99, 100] (n : Int) = some (97 + n) := by
    have := atI_nat' [97, 98, 99, 100] n
    rw [this]
    match n, hn with
    | 0, _ => rfl
    | 1, _ => rfl
    | 2, _ => rfl
    | 3, _ => rfl
  rw [h2]
  rfl
theorem word_loop {L : Int} (h1 : 1 ≤ L) (h4 : L ≤ 4) (a c3 : Cel) : ∀ (ds : List D) (cell : Int) (acc : T) (c5 : Cel), acc.length + ds.length ≤ 8 → Wd acc →
    ∃ (acc' : T) (cell' : Int) (c5' : Cel), Wd acc' ∧ acc'.length = acc.length + ds.length ∧
      dLoop (gN 5) r__law_word_b1 ds [.dat (.int cell), a, .dat (.int L), c3, .dat (tD acc), c5] = .nx [.dat (.int cell'), a, .dat (.int L), c3, .dat (tD acc'), c5']
  | [], cell, acc, c5, _, hw => ⟨acc, cell, c5, hw, by simp, rfl⟩
  | d :: ds, cell, acc, c5, hl, hw => by
    simp only [List.length_cons] at hl
    have hm : 0 ≤ cell % L ∧ cell % L < 4 := ⟨Int.emod_nonneg _ (by omega), by have := Int.emod_lt_of_pos cell (show 0 < L by omega); omega⟩
    obtain ⟨c, hc, _, hi⟩ := ix_abcd hm.1 hm.2
    have ha : addD (tD acc) (tD [c]) = some (tD (acc ++ [c])) := add_tD (by simp; omega)
    obtain ⟨acc', cell', c5', q1, q2, q3⟩ := word_loop h1 h4 a c3 ds (cell / L) (acc ++ [c]) (.dat d) (by simp; omega) ⟨by simp; omega, fun x hx => by
      rcases List.mem_append.mp hx with hx | hx
      · exact hw.2 x hx
      · rw [List.mem_singleton.mp hx]; exact hc⟩
    refine ⟨acc', cell', c5', q1, by rw [q2]; simp; omega, dLoop_step rfl ?_ q3⟩
    simp [r__law_word_b1, modD_p (a := cell) (b := L) (by omega), fdivD_p (a := cell) (b := L) (by omega), hi, ha]
theorem rng1_nat {n : Nat} (h : n ≤ 1000) : rng1D [.int (n : Int)] = some ((List.range n).map fun (m : Nat) => D.int (m : Int)) :=
  (if_pos (inB_small (j := (n : Int)) (by omega) (by omega))).trans (by rw [Int.toNat_natCast])
theorem sSeq_nx {a b : DStm} {env e1 : DEnv} {r : DOut} (h1 : a env = .nx e1) (h2 : b e1 = r) : sSeq a b env = r := by
  simp only [sSeq, h1, DOut.then]
  exact h2
theorem sSet_ok {i : Nat} {f : DEnv → M D} {env e1 : DEnv} {d : D} (h : f env = .ok d) (he : env.set i (.dat d) = e1) : sSet i f env = .nx e1 := by
  simp only [sSet, h, M.to, he]
theorem sFor_ok {it : DEnv → M (List D)} {t : DTgt} {b : DStm} {env : DEnv} {ds : List D} {r : DOut} (h : it env = .ok ds) (hl : dLoop t b ds env = r) : sFor it t b env = r := by
  simp only [sFor, h, M.to]
  exact hl
theorem sRet_ok {f : DEnv → M D} {env : DEnv} {d : D} (h : f env = .ok d) : sRet f env = .rt d := by
  simp only [sRet, h, M.to]
theorem word_eq (cell : Int) {most : Nat} (hm : most ≤ 8) {L : Int} (h1 : 1 ≤ L) (h4 : L ≤ 4) : ∃ (l : T) (c : Int), Wd l ∧ l.length ≤ most ∧ f__law_word [.int cell, .int most, .int L] = .ok (.tup [tD l, .int c]) := by
  have e : f__law_word [.int cell, .int most, .int L] = fnRes (r__law_word [.dat (.int cell), .dat (.int most), .dat (.int L), .un, .un, .un]) := rfl
  rw [e]
  have m1 := modD_p (a := cell) (b := (most : Int) + 1) (by omega)
  have m2 := fdivD_p (a := cell) (b := (most : Int) + 1) (by omega)
  obtain ⟨n, hn⟩ := Int.eq_ofNat_of_zero_le (Int.emod_nonneg cell (show (most : Int) + 1 ≠ 0 by omega))
  have hn' : cell % ((most : Int) + 1) = (n : Int) := hn
  have hlt := Int.emod_lt_of_pos cell (show 0 < (most : Int) + 1 by omega)
  rw [hn'] at m1 hlt
  obtain ⟨acc, c', c5, w1, w2, w3⟩ := word_loop h1 h4 (.dat (.int most)) (.dat (.int n)) ((List.range n).map fun (m : Nat) => D.int (m : Int)) (cell / ((most : Int) + 1)) [] .un (by simp; omega) ⟨by simp, by simp⟩
  refine ⟨acc, c', w1, by rw [w2]; simp; omega, ?_⟩
  have hr : r__law_word [.dat (.int cell), .dat (.int most), .dat (.int L), .un, .un, .un] = .rt (.tup [tD acc, .int c']) := by
    refine sSeq_nx (sSet_ok (d := .int n) ?_ rfl) (sSeq_nx (sSet_ok (d := .int (cell / ((most : Int) + 1))) ?_ rfl) (sSeq_nx (sSet_ok (d := tD []) ?_ rfl) (sSeq_nx (sFor_ok ?_ w3) (sRet_ok ?_))))
    · simp [m1]
    · simp [m2]
    · simp [nil_tD]
    · simp [rng1_nat (show n ≤ 1000 by omega)]
    · simp [small_line]
  rw [hr]
  rfl
theorem iRng_ok {r : List D → Option (List D)} {g : DEnv → M (List D)} {env : DEnv} {ds its : List D} (h1 : g env = .ok ds) (h2 : r ds = some its) : iRng r g env = .ok its := by
  simp only [iRng, h1, M.bind, h2, M.of]
theorem lComp_ok {vs : List Nat} {it : DEnv → M (List D)} {t : DTgt} {c : DEnv → M Bool} {f : DEnv → M D} {env : DEnv} {ds r : List D} (h1 : it env = .ok ds) (h2 : ds.length ≤ 100000) (h3 : (vs.all fun i => match env[i]? with | some s => !s.isOwned | none => true) = true) (h4 : cLoop t c f (wipeE env vs) ds = .ok r) : lComp vs it t c f env = .ok r := by
  simp only [lComp, h1, M.bind]
  rw [if_pos ⟨small_lt h2, h3⟩, h4]
end Wk

namespace Wk
open PySem PySem.Spec PyProof.Rows L2 TL DL
/-! ### _law_writer -/
/-- the pairs of a row, of words to n letters and states below S -/
def RowOk (n S : Nat) (r : List (T × Nat)) : Prop := ∀ p ∈ r, Wd p.1 ∧ p.1.length ≤ n ∧ p.2 < S
theorem natOf {i : Int} (h : 0 ≤ i) : ∃ n : Nat, i = (n : Int) := ⟨i.toNat, by omega⟩
theorem writer_in {S n : Nat} (hS : 1 ≤ S ∧ S ≤ 6) (hn : n ≤ 8) {L : Int} (hL : 1 ≤ L ∧ L ≤ 4) (head seed state : Int) (c0 c1 c2 c9 c10 : Cel) : ∀ (ds : List Nat) (own : Int) (row : List (T × Nat)) (c13 c14 c15 : Cel), row.length + ds.length ≤ 1000 → RowOk n S row →
    ∃ (own' : Int) (row' : List (T × Nat)) (c13' c14' c15' : Cel), RowOk n S row' ∧ row'.length = row.length + ds.length ∧
      dLoop (gN 13) r__law_writer_b1 (ds.map fun (m : Nat) => D.int (m : Int)) [c0, c1, c2, .dat (.int head), .dat (.int S), .dat (.int n), .dat (.int L), .dat (.int seed), .dat (.int own), c9, c10, .dat (.int state), .own (row.map pairD), c13, c14, c15] =
        .nx [c0, c1, c2, .dat (.int head), .dat (.int S), .dat (.int n), .dat (.int L), .dat (.int seed), .dat (.int own'), c9, c10, .dat (.int state), .own (row'.map pairD), c13', c14', c15']
  | [], own, row, c13, c14, c15, _, hr => ⟨own, row, c13, c14, c15, hr, by simp, rfl⟩
  | d :: ds, own, row, c13, c14, c15, hl, hr => by
    simp only [List.length_cons] at hl
    have f1 := fdivD_p (a := head) (b := 6048) (by decide)
    have f2 := modD_p (a := head / 6048) (b := 2) (by decide)
    have m1 := mulD_l (a := 97) (b := state) (by decide)
    have m2 := mulD_l (a := 11) (b := (d : Int)) (by decide)
    obtain ⟨q, hq0, hq⟩ := stirred_eq seed (97 * state + 11 * (d : Int))
    -- the value of own behind the if
    have step : ∀ o : Int, ∃ (own' : Int) (p : T × Nat), (Wd p.1 ∧ p.1.length ≤ n ∧ p.2 < S) ∧ modD (.int o) (.int S) = some (.int (p.2 : Int)) ∧ fdivD (.int o) (.int S) = some (.int (o / S)) ∧ f__law_word [.int (o / S), .int n, .int L] = .ok (.tup [tD p.1, .int own']) := fun o => by
      obtain ⟨l, c, w1, w2, w3⟩ := word_eq (o / S) hn hL.1 hL.2
      obtain ⟨a, ha⟩ := natOf (Int.emod_nonneg o (show (S : Int) ≠ 0 by omega))
      have hlt := Int.emod_lt_of_pos o (show (0 : Int) < S by omega)
      refine ⟨c, (l, a), ⟨w1, w2, by show a < S; omega⟩, ?_, fdivD_p ⟨by omega, by omega⟩, w3⟩
      rw [modD_p (by omega), ha]
    have big : (List.map pairD row).length < sizeLine := small_lt (by rw [List.length_map]; omega)
    by_cases hb : head / 6048 % 2 = 0
    · obtain ⟨own1, p, h1, h2, h3, h4⟩ := step q
      obtain ⟨own', row', x, y, z, r1, r2, r3⟩ := writer_in hS hn hL head seed state c0 c1 c2 c9 c10 ds own1 (row ++ [p]) (.dat (.int d)) (.dat (.int p.2)) (.dat (tD p.1)) (by simp; omega) (fun x hx => by
        rcases List.mem_append.mp hx with hx | hx
        · exact hr x hx
        · rw [List.mem_singleton.mp hx]; exact h1)
      refine ⟨own', row', x, y, z, r1, by rw [r2]; simp; omega, dLoop_step rfl ?_ r3⟩
      simp [r__law_writer_b1, f1, f2, hb, m1, m2, hq, h2, h3, h4, small_line, big, pairD]
      simpa using big
    · obtain ⟨own1, p, h1, h2, h3, h4⟩ := step own
      obtain ⟨own', row', x, y, z, r1, r2, r3⟩ := writer_in hS hn hL head seed state c0 c1 c2 c9 c10 ds own1 (row ++ [p]) (.dat (.int d)) (.dat (.int p.2)) (.dat (tD p.1)) (by simp; omega) (fun x hx => by
        rcases List.mem_append.mp hx with hx | hx
        · exact hr x hx
        · rw [List.mem_singleton.mp hx]; exact h1)
      refine ⟨own', row', x, y, z, r1, by rw [r2]; simp; omega, dLoop_step rfl ?_ r3⟩
      simp [r__law_writer_b1, f1, f2, hb, m1, m2, hq, h2, h3, h4, small_line, big, pairD]
      simpa using big

theorem min2_int (i j : Int) : min2D [.int i, .int j] = some (.int (min i j)) := by
  have e : (if j < i then j else i) = min i j := by split <;> omega
  show some (D.int (if j < i then j else i)) = _
  rw [e]
theorem writer_out {S n g : Nat} (hS : 1 ≤ S ∧ S ≤ 6) (hn : n ≤ 8) {L : Int} (hL : 1 ≤ L ∧ L ≤ 4) (head seed : Int) (c0 c1 : Cel) (a b c : Nat) (ha : 1 ≤ a) (hg : 1 + head % (a : Int) = (g : Int)) (hg4 : g ≤ 4) :
    ∀ (ds : List Nat) (own : Int) (rows : List (List (T × Nat))) (ends : List T) (c11 c12 c13 c14 c15 : Cel), rows.length + ds.length ≤ 1000 → ends.length = rows.length → (∀ r ∈ rows, r.length = g ∧ RowOk n S r) → (∀ e ∈ ends, Wd e ∧ e.length ≤ n) →
    ∃ (own' : Int) (rows' : List (List (T × Nat))) (ends' : List T) (c11' c12' c13' c14' c15' : Cel), rows'.length = rows.length + ds.length ∧ ends'.length = rows'.length ∧ (∀ r ∈ rows', r.length = g ∧ RowOk n S r) ∧ (∀ e ∈ ends', Wd e ∧ e.length ≤ n) ∧
      dLoop (gN 11) r__law_writer_b2 (ds.map fun (m : Nat) => D.int (m : Int)) [c0, c1, .dat (.tup [.int a, .int b, .int c]), .dat (.int head), .dat (.int S), .dat (.int n), .dat (.int L), .dat (.int seed), .dat (.int own), .own (rows.map rowD), .own (ends.map tD), c11, c12, c13, c14, c15] =
        .nx [c0, c1, .dat (.tup [.int a, .int b, .int c]), .dat (.int head), .dat (.int S), .dat (.int n), .dat (.int L), .dat (.int seed), .dat (.int own'), .own (rows'.map rowD), .own (ends'.map tD), c11', c12', c13', c14', c15']
  | [], own, rows, ends, c11, c12, c13, c14, c15, _, he, hr, hen => ⟨own, rows, ends, c11, c12, c13, c14, c15, by simp, he, hr, hen, rfl⟩
  | d :: ds, own, rows, ends, c11, c12, c13, c14, c15, hl, he, hr, hen => by
    simp only [List.length_cons] at hl
    have f1 := fdivD_p (a := head) (b := 6048) (by decide)
    have f2 := modD_p (a := head / 6048) (b := 2) (by decide)
    have f3 := fdivD_p (a := head) (b := 864) (by decide)
    have f4 := modD_p (a := head / 864) (b := 7) (by decide)
    have f5 := modD_p (a := head) (b := (a : Int)) (by omega)
    have m1 := mulD_l (a := 97) (b := (d : Int)) (by decide)
    obtain ⟨q, hq0, hq⟩ := stirred_eq seed (97 * (d : Int) + 71)
    have hrng : iRng rng1D (aCons (xOp addD (xC (.int 1)) (xOp modD (xVar 3) (xOp ixAD (xVar 2) (xC (.int 0))))) (aNil)) [c0, c1, .dat (.tup [.int a, .int b, .int c]), .dat (.int head), .dat (.int S), .dat (.int n), .dat (.int L), .dat (.int seed), .dat (.int own), .own (rows.map rowD), .own (ends.map tD), .dat (.int d), .own [], c13, c14, c15] = .ok ((List.range g).map fun (m : Nat) => D.int (m : Int)) := by
      have : ixAD (.tup [.int a, .int b, .int c]) (.int 0) = some (.int a) := rfl
      simp [this, f5, hg, rng1_nat (show g ≤ 1000 by omega)]
    obtain ⟨own1, row1, x1, y1, z1, r1, r2, r3⟩ := writer_in hS hn hL head seed (d : Int) c0 c1 (.dat (.tup [.int a, .int b, .int c])) (.own (rows.map rowD)) (.own (ends.map tD)) (List.range g) own [] c13 c14 c15 (by simp; omega) (fun x hx => by simp at hx)
    have hmin : ∃ k : Nat, k ≤ 8 ∧ k ≤ n ∧ min (n : Int) (2 + head / 864 % 7) = (k : Int) := by
      refine ⟨(min (n : Int) (2 + head / 864 % 7)).toNat, ?_, ?_, ?_⟩ <;> omega
    obtain ⟨k, hk8, hkn, hk⟩ := hmin
    have big1 : rows.length < sizeLine := small_lt (by omega)
    have big2 : ends.length < sizeLine := small_lt (by omega)
    simp only [List.length_nil, Nat.zero_add, List.length_range] at r2
    have key : ∀ (o : Int), ∃ (own' : Int) (l : T), (Wd l ∧ l.length ≤ n) ∧ f__law_word [.int o, .int k, .int L] = .ok (.tup [tD l, .int own']) := fun o => by
      obtain ⟨l, c, w1, w2, w3⟩ := word_eq o hk8 hL.1 hL.2
      exact ⟨c, l, ⟨w1, by omega⟩, w3⟩
    have rowD_eq : D.tup (row1.map pairD) = rowD row1 := rfl
    have tail := fun (own2 : Int) (l : T) (h1 : Wd l ∧ l.length ≤ n) => writer_out hS hn hL head seed c0 c1 a b c ha hg hg4 ds own2 (rows ++ [row1]) (ends ++ [l]) (.dat (.int d)) (.dat (.lst (row1.map pairD))) x1 y1 (.dat (tD l)) (by simp; omega) (by simp; omega) (fun x hx => by
      rcases List.mem_append.mp hx with hx | hx
      · exact hr x hx
      · rw [List.mem_singleton.mp hx]; exact ⟨r2, r1⟩) (fun x hx => by
      rcases List.mem_append.mp hx with hx | hx
      · exact hen x hx
      · rw [List.mem_singleton.mp hx]; exact h1)
    by_cases hb : head / 6048 % 2 = 0
    · obtain ⟨own2, l, h1, h2⟩ := key q
      obtain ⟨own', rows', ends', e1, e2, e3, e4, e5, t1, t2, t3, t4, t5⟩ := tail own2 l h1
      refine ⟨own', rows', ends', e1, e2, e3, e4, e5, by rw [t1]; simp; omega, t2, t3, t4, dLoop_step rfl ?_ t5⟩
      unfold r__law_writer_b2
      refine sSeq_nx (e1 := [c0, c1, .dat (.tup [.int a, .int b, .int c]), .dat (.int head), .dat (.int S), .dat (.int n), .dat (.int L), .dat (.int seed), .dat (.int own), .own (rows.map rowD), .own (ends.map tD), .dat (.int d), .own [], c13, c14, c15]) (by simp [small_line]) ?_
      refine sSeq_nx (sFor_ok hrng r3) ?_
      simp [f1, f2, f3, f4, hb, m1, hq, min2_int, hk, h2, big1, big2, tupD, rowD_eq]
    · obtain ⟨own2, l, h1, h2⟩ := key own1
      obtain ⟨own', rows', ends', e1, e2, e3, e4, e5, t1, t2, t3, t4, t5⟩ := tail own2 l h1
      refine ⟨own', rows', ends', e1, e2, e3, e4, e5, by rw [t1]; simp; omega, t2, t3, t4, dLoop_step rfl ?_ t5⟩
      unfold r__law_writer_b2
      refine sSeq_nx (e1 := [c0, c1, .dat (.tup [.int a, .int b, .int c]), .dat (.int head), .dat (.int S), .dat (.int n), .dat (.int L), .dat (.int seed), .dat (.int own), .own (rows.map rowD), .own (ends.map tD), .dat (.int d), .own [], c13, c14, c15]) (by simp [small_line]) ?_
      refine sSeq_nx (sFor_ok hrng r3) ?_
      simp [f1, f2, f3, f4, hb, m1, hq, min2_int, hk, h2, big1, big2, tupD, rowD_eq]
theorem writer_eq {d : D} {ns : List Int} (hd : IntsD d ns) (at' : Nat) {a b c : Nat} (ha : 1 ≤ a ∧ a ≤ 4) (hb : 1 ≤ b ∧ b ≤ 6) (hc : c ≤ 8) :
    ∃ w : Wr, w.Ok ∧ w.signs ≤ a ∧ (w.signs : Int) = 1 + cellAt ns at' % a ∧ w.rows.length ≤ b ∧ (∀ r ∈ w.rows, ∀ p ∈ r, p.1.length ≤ c) ∧ (∀ e ∈ w.ends, e.length ≤ c) ∧
      f__law_writer [d, .int at', .tup [.int a, .int b, .int c]] = .ok (wrD w) := by
  have e : f__law_writer [d, .int at', .tup [.int a, .int b, .int c]] = fnRes (r__law_writer [.dat d, .dat (.int at'), .dat (.tup [.int a, .int b, .int c]), .un, .un, .un, .un, .un, .un, .un, .un, .un, .un, .un, .un, .un]) := rfl
  rw [e]
  generalize hh : cellAt ns at' = head
  have c1 : f__law_cell_at [d, .int at'] = .ok (.int head) := by rw [cell_eq hd, hh]
  have c2 := cell_eq hd (at' + 1)
  simp only [Int.natCast_add, Int.cast_ofNat_Int] at c2
  generalize hs : cellAt ns (at' + 1) = seed at c2
  have f0 := fdivD_p (a := head) (b := 4) (by decide)
  have f1 := modD_p (a := head / 4) (b := (b : Int)) (by omega)
  have f2 := fdivD_p (a := head) (b := 24) (by decide)
  have f3 := modD_p (a := head / 24) (b := (c : Int) + 1) (by omega)
  have f4 := fdivD_p (a := head) (b := 216) (by decide)
  have f5 := modD_p (a := head / 216) (b := 4) (by decide)
  have f6 := modD_p (a := head) (b := (a : Int)) (by omega)
  have l1 : 0 ≤ head / 4 % (b : Int) ∧ head / 4 % (b : Int) < b := ⟨Int.emod_nonneg _ (by omega), Int.emod_lt_of_pos _ (by omega)⟩
  have l2 : 0 ≤ head / 24 % ((c : Int) + 1) ∧ head / 24 % ((c : Int) + 1) < c + 1 := ⟨Int.emod_nonneg _ (by omega), Int.emod_lt_of_pos _ (by omega)⟩
  have l3 : 0 ≤ head / 216 % 4 ∧ head / 216 % 4 < 4 := by omega
  have l4 : 0 ≤ head % (a : Int) ∧ head % (a : Int) < a := ⟨Int.emod_nonneg _ (by omega), Int.emod_lt_of_pos _ (by omega)⟩
  obtain ⟨S, hS⟩ := natOf (show 0 ≤ 1 + head / 4 % (b : Int) by omega)
  obtain ⟨n, hn⟩ := natOf l2.1
  obtain ⟨g, hg⟩ := natOf (show 0 ≤ 1 + head % (a : Int) by omega)
  obtain ⟨own', rows, ends, c11, c12, c13, c14, c15, t1, t2, t3, t4, t5⟩ := writer_out (S := S) (n := n) (g := g) (by omega) (by omega) (L := 1 + head / 216 % 4) (by omega) head seed (.dat d) (.dat (.int at')) a b c ha.1 hg (by omega) (List.range S) seed [] [] .un .un .un .un .un (by simp; omega) rfl (fun _ h => by simp at h) (fun _ h => by simp at h)
  simp only [List.length_nil, Nat.zero_add, List.length_range] at t1
  have hrng := rng1_nat (show S ≤ 1000 by omega)
  refine ⟨⟨g, rows, ends⟩, ⟨by show 1 ≤ g; omega, by show g ≤ 4; omega, by show 1 ≤ rows.length; omega, by show rows.length ≤ 6; omega, t2, fun r h => (t3 r h).1, fun r h p hp => ⟨((t3 r h).2 p hp).1, by show p.2 < rows.length; have := ((t3 r h).2 p hp).2.2; omega⟩, fun e h => (t4 e h).1⟩,
    by show g ≤ a; omega, by show (g : Int) = _; omega, by show rows.length ≤ b; omega, fun r h p hp => by have := ((t3 r h).2 p hp).2.1; omega, fun e h => by have := (t4 e h).2; omega, ?_⟩
  have i0 : ixAD (.tup [.int a, .int b, .int c]) (.int 0) = some (.int a) := rfl
  have i1 : ixAD (.tup [.int a, .int b, .int c]) (.int 1) = some (.int b) := rfl
  have i2 : ixAD (.tup [.int a, .int b, .int c]) (.int 2) = some (.int c) := rfl
  have hr : r__law_writer [.dat d, .dat (.int at'), .dat (.tup [.int a, .int b, .int c]), .un, .un, .un, .un, .un, .un, .un, .un, .un, .un, .un, .un, .un] = .rt (wrD ⟨g, rows, ends⟩) := by
    unfold r__law_writer
    refine sSeq_nx (sSet_ok (d := .int head) (by simp [c1]) rfl) ?_
    refine sSeq_nx (sSet_ok (d := .int S) (by simp [f0, f1, i1, hS]) rfl) ?_
    refine sSeq_nx (sSet_ok (d := .int n) (by simp [f2, f3, i2, hn]) rfl) ?_
    refine sSeq_nx (sSet_ok (d := .int (1 + head / 216 % 4)) (by simp [f4, f5]) rfl) ?_
    refine sSeq_nx (sSet_ok (d := .int seed) (by simp [c2]) rfl) ?_
    refine sSeq_nx (sSet_ok (d := .int seed) (by simp) rfl) ?_
    refine sSeq_nx (e1 := [.dat d, .dat (.int at'), .dat (.tup [.int a, .int b, .int c]), .dat (.int head), .dat (.int S), .dat (.int n), .dat (.int (1 + head / 216 % 4)), .dat (.int seed), .dat (.int seed), .own [], .un, .un, .un, .un, .un, .un]) (by simp [small_line]) ?_
    refine sSeq_nx (e1 := [.dat d, .dat (.int at'), .dat (.tup [.int a, .int b, .int c]), .dat (.int head), .dat (.int S), .dat (.int n), .dat (.int (1 + head / 216 % 4)), .dat (.int seed), .dat (.int seed), .own [], .own [], .un, .un, .un, .un, .un]) (by simp [small_line]) ?_
    refine sSeq_nx (sFor_ok (by simp [hrng]) t5) ?_
    simp [i0, f6, hg, tupD, small_line]
    rfl
  rw [hr]
  rfl
end Wk

namespace Wk
open PySem PySem.Spec PyProof.Rows L2 TL DL
/-! ### slices -/
theorem cutL_take {α : Type} (l : List α) (k : Nat) : cutL l none (some (k : Int)) = l.take k := by
  unfold cutL
  rw [HT.sIx_none, HT.sIx_nat, Nat.sub_zero, List.drop_zero]
  rw [List.take_eq_take_iff]
  omega
theorem cutL_drop {α : Type} (l : List α) (k : Nat) : cutL l (some (k : Int)) none = l.drop k := by
  unfold cutL
  rw [HT.sIx_none, HT.sIx_nat]
  rw [List.take_of_length_le (by rw [List.length_drop]; omega)]
  by_cases h : k ≤ l.length
  · rw [Nat.min_eq_left h]
  · rw [Nat.min_eq_right (by omega), List.drop_of_length_le (Nat.le_refl _), List.drop_of_length_le (by omega)]
theorem cutL_mid {α : Type} (l : List α) (j k : Nat) : cutL l (some (j : Int)) (some (k : Int)) = (l.drop j).take (k - j) := by
  unfold cutL
  rw [HT.sIx_nat, HT.sIx_nat]
  by_cases h : j ≤ l.length
  · rw [Nat.min_eq_left h, List.take_eq_take_iff, List.length_drop]
    omega
  · rw [List.drop_of_length_le (show l.length ≤ min j l.length by omega), List.drop_of_length_le (show l.length ≤ j by omega)]
    simp
theorem cut_tD {l : T} (h : l.length ≤ 100000) (lo hi : Option Int) : slcD lo hi (tD l) = some (tD (cutL l lo hi)) := by
  unfold tD slcD
  simp only [sv_len]
  rw [if_pos (small_line h)]
  congr 2
@[simp] theorem cut_mD (ms : List Nat) (k : Nat) : slcD none (some (k : Int)) (mD ms) = some (mD (ms.take k)) := by
  simp only [mD, slcD, cutL_take, List.map_take]
@[simp] theorem isi_str (l : T) : isiD "str" (tD l) = some (.bl true) := rfl
theorem len_mD (ms : List Nat) : lenD [mD ms] = some (.int ms.length) := by simp [mD, lenD]
theorem eqOk_mD (ms : List Nat) : eqOk 60 (mD ms) = true := eqOk_lst (n := 59) _ ms fun m _ => eqOk_int _
theorem mD_inj {a b : List Nat} : mD a = mD b ↔ a = b := by
  constructor
  · intro h
    simp only [mD, D.lst.injEq] at h
    exact (List.map_inj_right (fun x y h => by simp only [D.int.injEq] at h; omega)).mp h
  · rintro rfl; rfl
theorem eq_mD (a b : List Nat) : eqD (mD a) (mD b) = some (.bl (decide (a = b))) := by
  rw [eqD_eq (by rw [eqOk_mD, eqOk_mD]; simp)]
  simp only [mD_inj]
theorem tup3 (a b c : Int) : xTup (aCons (xC (.int a)) (aCons (xC (.int b)) (aCons (xC (.int c)) aNil))) = fun _ => .ok (.tup [.int a, .int b, .int c]) := by
  funext env
  simp [small_line]
theorem cells0 (ns : List Int) : IntsD (.scr ns) ns := .inl rfl
theorem eqOk_wrD {w : Wr} (o : w.Ok) : eqOk 60 (wrD w) = true := by
  have h1 : eqOk 59 (rowsD w.rows) = true := eqOk_tup (n := 58) rowD w.rows fun r hr => eqOk_tup (n := 57) pairD r fun p hp => by
    have := eqOk_tD (n := 56) ((o.pr r hr p hp).1.uni)
    simp only [pairD, eqOk, eqOks, this, Bool.and_self]
  have h2 : eqOk 59 (endsD w.ends) = true := eqOk_tup (n := 58) tD w.ends fun l hl => eqOk_tD (o.en l hl).uni
  have h3 : eqOk 59 (.int (w.signs : Int)) = true := eqOk_int _
  show eqOks 59 [.int (w.signs : Int), rowsD w.rows, endsD w.ends] = true
  simp only [eqOks, h1, h2, h3, Bool.and_self]
end Wk

namespace Wk
open PySem PySem.Spec PyProof.Rows L2 TL DL
/-! ### joined and split texts -/
theorem strsOf_tD (ls : List T) : strsOf (ls.map tD) = some (ls.map sv) := by
  have : ls.map tD = (ls.map sv).map D.str := by simp [tD]
  rw [this, strsOf_strs]
theorem join_sv (s : T) (ls : List T) : Txt.join (sv s) (ls.map sv) = sv (joinL s ls) := by
  refine ext_tl ?_
  rw [TL.join_eq, tl_join, sv_tl, sv_tl, List.map_map]
  have : (tl ∘ sv) = (id : T → T) := by funext l; rfl
  rw [this, List.map_id]
theorem join_tD {s : T} {ls : List T} (h : (ls.map List.length).sum + ls.length * s.length ≤ 16777216) : joinD (tD s) (.lst (ls.map tD)) = some (tD (joinL s ls)) := by
  have e : joinD (tD s) (.lst (ls.map tD)) = match strsOf (ls.map tD) with
    | some ys => if (ys.map (·.length)).sum + ys.length * (sv s).length ≤ 16777216 then some (.str (Txt.join (sv s) ys)) else none
    | none => none := rfl
  rw [e, strsOf_tD]
  have h2 : ((ls.map sv).map (·.length)).sum + (ls.map sv).length * (sv s).length ≤ 16777216 := by
    have : (ls.map sv).map (·.length) = ls.map List.length := by
      rw [List.map_map]
      exact List.map_congr_left fun l _ => sv_len l
    rw [this, List.length_map, sv_len]
    exact h
  simp only
  rw [if_pos h2, join_sv]
  rfl
/-- a text split at a sign -/
def splT (s : Nat) (l : T) : List T := spl [s] 0 [] l
theorem split_sv {s : Nat} (hs : s < 256) (l : T) : Txt.split (sv l) (sv [s]) = (splT s l).map sv := by
  have h := split_spl (sv l) (sv [s]) (by rw [sv_tl]; simp) (kind_ok (by simp [sv]; omega))
  rw [sv_tl, sv_tl] at h
  have e : (Txt.split (sv l) (sv [s])).map (sv ∘ tl) = (splT s l).map sv := by
    rw [← List.map_map, h]
    rfl
  have i : (sv ∘ tl) = (id : Str → Str) := by funext x; exact tl_sv x
  rw [i, List.map_id] at e
  exact e
theorem split_tD {s : Nat} (hs : s < 256) {l : T} (hl : l.length ≤ 90000) : splitL (tD l) (tD [s]) = some ((splT s l).map tD) := by
  have e : splitL (tD l) (tD [s]) = if ((sv [s]).length == 0) = false ∧ (sv l).length + 2 ≤ sizeLine then some ((Txt.split (sv l) (sv [s])).map D.str) else none := rfl
  have := small_line (show l.length + 2 ≤ 100000 by omega)
  rw [e, if_pos ⟨rfl, by rw [sv_len]; exact this⟩, split_sv hs, List.map_map]
  rfl
theorem splT_join {s : Nat} {ls : List T} (h : ls ≠ []) (hp : ∀ p ∈ ls, s ∉ p) : splT s (joinL [s] ls) = ls := spl_join h hp
theorem joinL_snoc (s : T) : ∀ (ps : List T) (e : T), joinL s (ps ++ [e]) = ps.flatMap (· ++ s) ++ e
  | [], e => rfl
  | [p], e => by simp [joinL]
  | p :: q :: r, e => by
    have := joinL_snoc s (q :: r) e
    simp only [List.cons_append] at this ⊢
    simp only [joinL, List.flatMap_cons, this, List.append_assoc]
theorem mem_joinL {s : T} {c : Nat} : ∀ {ls : List T}, c ∈ joinL s ls → c ∈ s ∨ ∃ l ∈ ls, c ∈ l
  | [], h => by simp [joinL] at h
  | [p], h => .inr ⟨p, by simp, h⟩
  | p :: q :: r, h => by
    simp only [joinL, List.mem_append] at h
    rcases h with h | h | h
    · exact .inr ⟨p, by simp, h⟩
    · exact .inl h
    · rcases mem_joinL (ls := q :: r) h with h | ⟨l, hl, h⟩
      · exact .inl h
      · exact .inr ⟨l, List.mem_cons_of_mem _ hl, h⟩
theorem len_joinL (s : T) : ∀ (ls : List T), (joinL s ls).length ≤ (ls.map List.length).sum + ls.length * s.length
  | [] => by simp [joinL]
  | [p] => by simp [joinL]
  | p :: q :: r => by
    have ih := len_joinL s (q :: r)
    simp only [joinL, List.length_append, List.map_cons, List.sum_cons, List.length_cons] at ih ⊢
    have : (r.length + 1 + 1) * s.length = (r.length + 1) * s.length + s.length := by rw [Nat.succ_mul]
    omega
theorem sum_le {b : Nat} : ∀ {ls : List T}, (∀ l ∈ ls, l.length ≤ b) → (ls.map List.length).sum ≤ ls.length * b
  | [], _ => by simp
  | l :: ls, h => by
    have ih := sum_le (ls := ls) fun x hx => h x (List.mem_cons_of_mem _ hx)
    have := h l List.mem_cons_self
    simp only [List.map_cons, List.sum_cons, List.length_cons, Nat.succ_mul]
    omega
/-! ### the text of a writer -/
theorem dash_tD : (D.str "-") = tD [45] := by
  unfold tD; congr 1
theorem blank_tD : (D.str " ") = tD [32] := by
  unfold tD; congr 1
theorem line_tD : (D.str "\n") = tD [10] := by
  unfold tD; congr 1
theorem gt_tD : (D.str ">") = tD [62] := by
  unfold tD; congr 1
theorem figs_tD : (D.str "0123456789") = tD [48, 49, 50, 51, 52, 53, 54, 55, 56, 57] := by
  unfold tD; congr 1
def dash (l : T) : T := if l = [] then [45] else l
def partT (p : T × Nat) : T := dash p.1 ++ [62] ++ [48 + p.2]
def lineT (r : List (T × Nat)) (e : T) : T := joinL [32] (r.map partT ++ [dash e])
def Wr.line (w : Wr) (k : Nat) : T := lineT (w.rows.getD k []) (w.fin k)
def Wr.note (w : Wr) : T := joinL [10] ((List.range w.rows.length).map w.line)
theorem str_fig {n : Nat} (h : n < 10) : strD [.int (n : Int)] = some (tD [48 + n]) := by
  match n, h with
  | 0, _ => rfl
  | 1, _ => rfl
  | 2, _ => rfl
  | 3, _ => rfl
  | 4, _ => rfl
  | 5, _ => rfl
  | 6, _ => rfl
  | 7, _ => rfl
  | 8, _ => rfl
  | 9, _ => rfl
theorem int_text {n : Nat} (h : n < 10) : PySem.intText? (sv [48 + n]) = some (n : Int) := by
  match n, h with
  | 0, _ => decide +kernel
  | 1, _ => decide +kernel
  | 2, _ => decide +kernel
  | 3, _ => decide +kernel
  | 4, _ => decide +kernel
  | 5, _ => decide +kernel
  | 6, _ => decide +kernel
  | 7, _ => decide +kernel
  | 8, _ => decide +kernel
  | 9, _ => decide +kernel
theorem int_fig {n : Nat} (h : n < 10) : intAD [tD [48 + n]] = some (.int (n : Int)) := by
  have h1 : intD [tD [48 + n]] = none := rfl
  unfold intAD
  rw [h1]
  show (match PySem.intText? (sv [48 + n]) with
    | some m => if (sv [48 + n]).length ≤ 640 then some (D.int m) else none
    | none => none) = _
  rw [int_text h]
  simp
theorem dash_len {l : T} (h : Wd l) : 1 ≤ (dash l).length ∧ (dash l).length ≤ 8 := by
  have := h.1
  unfold dash
  split
  · simp
  · rename_i z
    have := List.length_pos_iff.mpr z
    omega
theorem dash_mem {l : T} (h : Wd l) {c : Nat} (hc : c ∈ dash l) : c = 45 ∨ (97 ≤ c ∧ c ≤ 100) := by
  unfold dash at hc
  split at hc
  · exact .inl (List.mem_singleton.mp hc)
  · exact .inr (h.2 c hc)
theorem part_len {p : T × Nat} (h : Wd p.1) : (partT p).length ≤ 10 := by
  have := dash_len h
  simp [partT]
  omega
theorem part_mem {p : T × Nat} (h : Wd p.1) (hp : p.2 < 10) {c : Nat} (hc : c ∈ partT p) : c = 45 ∨ (97 ≤ c ∧ c ≤ 100) ∨ c = 62 ∨ (48 ≤ c ∧ c ≤ 57) := by
  simp only [partT, List.mem_append, List.mem_singleton] at hc
  rcases hc with (hc | hc) | hc
  · rcases dash_mem h hc with h | h <;> omega
  · omega
  · omega
end Wk

namespace Wk
open PySem PySem.Spec PyProof.Rows L2 TL DL
@[simp] theorem asS_tD (l : T) : asS (tD l) = .ok (sv l) := rfl
theorem xL_ok {g : DEnv → M (List D)} {env : DEnv} {a : List D} (h : g env = .ok a) : xL g env = .ok (.lst a) := by
  simp only [xL, h, M.bind]
theorem shown_word_eq (l : T) : f_shown_word [tD l] = .ok (tD (dash l)) := by
  have e : f_shown_word [tD l] = fnRes (r_shown_word [.dat (tD l)]) := rfl
  rw [e]
  unfold dash
  by_cases h : l = []
  · simp [r_shown_word, nil_tD, dash_tD, h]
  · simp [r_shown_word, nil_tD, dash_tD, h]
/-- the parts of a row -/
theorem parts_comp {it : DEnv → M (List D)} {env : DEnv} {i j : Nat} {r : List (T × Nat)} {g : List D → M D} (hg : ∀ l, g [tD l] = .ok (tD (dash l))) (hi : it env = .ok (r.map pairD)) (ij : i ≠ j) (li : i < env.length) (lj : j < env.length) (h3 : ([i, j].all fun i => match env[i]? with | some s => !s.isOwned | none => true) = true) (hr : ∀ p ∈ r, Wd p.1 ∧ p.2 < 10) (hl : r.length ≤ 1000) :
    lComp [i, j] it (gT (gsCons (gN i) (gsCons (gN j) gsNil))) (fun _ => .ok true) (xOp addD (xOp addD (xCall 1 g (aCons (xVar i) (aNil))) (xC (.str ">"))) (xCb strD (aCons (xVar j) (aNil)))) env = .ok ((r.map partT).map tD) := by
  refine lComp_ok hi (by simp; omega) h3 ?_
  rw [List.map_map]
  refine cLoop_map pairD (tD ∘ partT) r fun p hp => ?_
  obtain ⟨h1, h2⟩ := hr p hp
  have l1 := (dash_len h1).2
  refine ⟨_, rfl, ?_⟩
  have a1 : addD (tD (dash p.1)) (tD [62]) = some (tD (dash p.1 ++ [62])) := add_tD (by simp; omega)
  have a2 : addD (tD (dash p.1 ++ [62])) (tD [48 + p.2]) = some (tD (dash p.1 ++ [62] ++ [48 + p.2])) := add_tD (by simp; omega)
  have e1 : (((wipeE env [i, j]).set i (.dat (tD p.1))).set j (.dat (.int p.2)))[i]? = some (.dat (tD p.1)) := by
    rw [List.getElem?_set_ne (Ne.symm ij), List.getElem?_set_self (by rw [wipeE_len]; exact li)]
  have e2 : (((wipeE env [i, j]).set i (.dat (tD p.1))).set j (.dat (.int p.2)))[j]? = some (.dat (.int p.2)) := by
    rw [List.getElem?_set_self (by rw [List.length_set, wipeE_len]; exact lj)]
  simp only [xOp, xCall, aCons, aNil, xVar, celD, e1, e2, M.bind, List.length_cons, List.length_nil, Nat.zero_add, if_true, hg, xC, gt_tD, M.of, a1, xCb, str_fig h2, a2]
  rfl
theorem Wr.Ok.row_ok {w : Wr} (o : w.Ok) {k : Nat} (h : k < w.rows.length) : ∃ r, w.rows[k]? = some r ∧ w.rows.getD k [] = r ∧ r.length = w.signs ∧ ∀ p ∈ r, Wd p.1 ∧ p.2 < w.rows.length := by
  have h1 : w.rows[k]? = some w.rows[k] := List.getElem?_eq_getElem h
  exact ⟨_, h1, by rw [List.getD_eq_getElem?_getD, h1]; rfl, o.rl _ (List.getElem_mem _), o.pr _ (List.getElem_mem _)⟩
theorem line_sum {r : List (T × Nat)} {e : T} (hr : ∀ p ∈ r, Wd p.1 ∧ p.2 < 10) (he : Wd e) : ((r.map partT ++ [dash e]).map List.length).sum ≤ (r.length + 1) * 10 := by
  have := sum_le (b := 10) (ls := r.map partT ++ [dash e]) fun l hl => by
    rcases List.mem_append.mp hl with hl | hl
    · obtain ⟨p, hp, rfl⟩ := List.mem_map.mp hl
      exact part_len (hr p hp).1
    · rw [List.mem_singleton.mp hl]
      have := (dash_len he).2
      omega
  simpa using this
theorem lineT_len {r : List (T × Nat)} {e : T} (hr : ∀ p ∈ r, Wd p.1 ∧ p.2 < 10) (he : Wd e) : (lineT r e).length ≤ (r.length + 1) * 11 := by
  have h1 := len_joinL [32] (r.map partT ++ [dash e])
  have h2 := line_sum hr he
  simp only [List.length_append, List.length_map, List.length_cons, List.length_nil, Nat.zero_add] at h1
  unfold lineT
  omega
theorem lineT_mem {r : List (T × Nat)} {e : T} (hr : ∀ p ∈ r, Wd p.1 ∧ p.2 < 10) (he : Wd e) {c : Nat} (hc : c ∈ lineT r e) : c = 32 ∨ c = 45 ∨ (97 ≤ c ∧ c ≤ 100) ∨ c = 62 ∨ (48 ≤ c ∧ c ≤ 57) := by
  rcases mem_joinL hc with h | ⟨l, hl, h⟩
  · exact .inl (List.mem_singleton.mp h)
  · rcases List.mem_append.mp hl with hl | hl
    · obtain ⟨p, hp, rfl⟩ := List.mem_map.mp hl
      exact .inr (part_mem (hr p hp).1 (hr p hp).2 h)
    · rw [List.mem_singleton.mp hl] at h
      rcases dash_mem he h with h | h
      · exact .inr (.inl h)
      · exact .inr (.inr (.inl h))
theorem line_join {r : List (T × Nat)} {e : T} (hr : ∀ p ∈ r, Wd p.1 ∧ p.2 < 10) (he : Wd e) (hl : r.length ≤ 1000) : joinD (tD [32]) (.lst ((r.map partT ++ [dash e]).map tD)) = some (tD (lineT r e)) := by
  have h2 := line_sum hr he
  refine join_tD ?_
  simp only [List.length_append, List.length_map, List.length_cons, List.length_nil] at h2 ⊢
  omega
theorem shown_loop {w : Wr} (o : w.Ok) : ∀ (ks : List Nat) (acc : List T) (c2 c3 c4 c5 : Cel), (∀ k ∈ ks, k < w.rows.length) → acc.length + ks.length ≤ 1000 → c4.isOwned = false → c5.isOwned = false →
    ∃ c2' c3' c4' c5', dLoop (gN 2) r_shown_b1 (ks.map fun (m : Nat) => D.int (m : Int)) [.dat (wrD w), .own (acc.map tD), c2, c3, c4, c5] = .nx [.dat (wrD w), .own ((acc ++ ks.map w.line).map tD), c2', c3', c4', c5']
  | [], acc, c2, c3, c4, c5, _, _, _, _ => ⟨c2, c3, c4, c5, by simp⟩
  | k :: ks, acc, c2, c3, c4, c5, h, hl, h4, h5 => by
    simp only [List.length_cons] at hl
    have hk := h k List.mem_cons_self
    obtain ⟨r, r1, r2, r3, r4⟩ := o.row_ok hk
    obtain ⟨f1, f2⟩ := o.fin_ok hk
    have s4 := o.s4; have r6 := o.r6
    have r4' : ∀ p ∈ r, Wd p.1 ∧ p.2 < 10 := fun p hp => ⟨(r4 p hp).1, by have := (r4 p hp).2; omega⟩
    have comp := parts_comp (i := 4) (j := 5) (env := [.dat (wrD w), .own (acc.map tD), .dat (.int k), c3, c4, c5]) (it := iAny (xOp ixAD (xOp ixAD (xVar 0) (xC (.int 1))) (xVar 2))) (r := r) shown_word_eq (by simp [ix_rows r1]) (by decide) (by simp) (by simp) (by simp [h4, h5]) r4' (by omega)
    have jn := line_join (r := r) (e := w.fin k) r4' f2 (by omega)
    have ln : w.line k = lineT r (w.fin k) := by unfold Wr.line; rw [r2]
    rw [← ln] at jn
    obtain ⟨a, b, c, d, e⟩ := shown_loop o ks (acc ++ [w.line k]) (.dat (.int k)) (.dat (.lst ((r.map partT).map tD))) c4 c5 (fun x hx => h x (List.mem_cons_of_mem _ hx)) (by simp; omega) h4 h5
    have ad : addD (.lst ((r.map partT).map tD)) (.lst [tD (dash (w.fin k))]) = some (.lst ((r.map partT ++ [dash (w.fin k)]).map tD)) := by
      have : ((r.map partT).map tD).length + ([tD (dash (w.fin k))] : List D).length ≤ sizeLine := small_line (by simp; omega)
      show (if ((r.map partT).map tD).length + ([tD (dash (w.fin k))] : List D).length ≤ sizeLine then some _ else none) = _
      rw [if_pos this]
      simp
    have big : acc.length < sizeLine := small_lt (by omega)
    refine ⟨a, b, c, d, dLoop_step (e1 := [.dat (wrD w), .own (acc.map tD), .dat (.int k), c3, c4, c5]) rfl ?_ (e.trans (by simp))⟩
    unfold r_shown_b1
    refine sSeq_nx (sSet_ok (xL_ok comp) rfl) ?_
    have jn' : joinD (tD [32]) (.lst (((r.map partT).map tD) ++ [tD (dash (w.fin k))])) = some (tD (w.line k)) := by
      rw [← jn]; simp
    have ad' : addD (.lst ((r.map partT).map tD)) (.lst [tD (dash (w.fin k))]) = some (.lst (((r.map partT).map tD) ++ [tD (dash (w.fin k))])) := by
      rw [ad]; simp
    generalize (r.map partT).map tD = P at jn' ad'
    simp [ix_ends f1, shown_word_eq, blank_tD, small_line, ad', jn', big]
theorem note_join {w : Wr} (o : w.Ok) : joinD (tD [10]) (.lst (((List.range w.rows.length).map w.line).map tD)) = some (tD w.note) ∧ w.note.length ≤ 1000 ∧ ∀ k, k < w.rows.length → (w.line k).length ≤ 55 ∧ ∀ c ∈ w.line k, c = 32 ∨ c = 45 ∨ (97 ≤ c ∧ c ≤ 100) ∨ c = 62 ∨ (48 ≤ c ∧ c ≤ 57) := by
  have s4 := o.s4; have r6 := o.r6
  have each : ∀ k, k < w.rows.length → (w.line k).length ≤ 55 ∧ ∀ c ∈ w.line k, c = 32 ∨ c = 45 ∨ (97 ≤ c ∧ c ≤ 100) ∨ c = 62 ∨ (48 ≤ c ∧ c ≤ 57) := fun k hk => by
    obtain ⟨r, r1, r2, r3, r4⟩ := o.row_ok hk
    obtain ⟨f1, f2⟩ := o.fin_ok hk
    have r4' : ∀ p ∈ r, Wd p.1 ∧ p.2 < 10 := fun p hp => ⟨(r4 p hp).1, by have := (r4 p hp).2; omega⟩
    have ln : w.line k = lineT r (w.fin k) := by unfold Wr.line; rw [r2]
    rw [ln]
    have := lineT_len r4' f2
    exact ⟨by omega, fun c hc => lineT_mem r4' f2 hc⟩
  have sum := sum_le (b := 55) (ls := (List.range w.rows.length).map w.line) fun l hl => by
    obtain ⟨k, hk, rfl⟩ := List.mem_map.mp hl
    exact (each k (List.mem_range.mp hk)).1
  have len := len_joinL [10] ((List.range w.rows.length).map w.line)
  simp only [List.length_map, List.length_range, List.length_cons, List.length_nil] at sum len
  refine ⟨join_tD ?_, ?_, each⟩
  · simp only [List.length_map, List.length_range, List.length_cons, List.length_nil]
    omega
  · unfold Wr.note
    omega
theorem shown_eq {w : Wr} (o : w.Ok) : f_shown [wrD w] = .ok (tD w.note) := by
  have e : f_shown [wrD w] = fnRes (r_shown [.dat (wrD w), .un, .un, .un, .un, .un]) := rfl
  rw [e]
  have r6 := o.r6
  obtain ⟨a, b, c, d, e1⟩ := shown_loop o (List.range w.rows.length) [] .un .un .un .un (fun k h => List.mem_range.mp h) (by simp; omega) rfl rfl
  obtain ⟨j1, _⟩ := note_join o
  have hr : r_shown [.dat (wrD w), .un, .un, .un, .un, .un] = .rt (tD w.note) := by
    unfold r_shown
    refine sSeq_nx (e1 := [.dat (wrD w), .un, .un, .un, .un, .un]) (by simp [asked_writer_ok o]) ?_
    refine sSeq_nx (e1 := [.dat (wrD w), .own [], .un, .un, .un, .un]) (by simp [small_line]) ?_
    refine sSeq_nx (sFor_ok (iRng_ok (ds := [.int (w.rows.length : Int)]) (by simp) (rng1_nat (by omega))) e1) ?_
    simp only [List.nil_append]
    generalize ((List.range w.rows.length).map w.line).map tD = P at j1
    simp [line_tD, j1]
  rw [hr]
  rfl
/-! ### read -/
theorem word_of_eq {l : T} (h : Wd l) : f_word_of [tD (dash l)] = .ok (tD l) := by
  have e : f_word_of [tD (dash l)] = fnRes (r_word_of [.dat (tD (dash l))]) := rfl
  rw [e]
  unfold dash
  by_cases hl : l = []
  · simp [r_word_of, nil_tD, dash_tD, hl]
  · have : l ≠ [45] := fun z => by
      have := h.2 45 (by rw [z]; simp)
      omega
    simp [r_word_of, nil_tD, dash_tD, hl, this]
theorem pair_of_eq {p : T × Nat} (h : Wd p.1) (hp : p.2 < 10) : f_pair_of [tD (partT p)] = .ok (pairD p) := by
  have e : f_pair_of [tD (partT p)] = fnRes (r_pair_of [.dat (tD (partT p)), .un]) := rfl
  rw [e]
  have l1 := part_len h
  have s1 : splT 62 (partT p) = [dash p.1, [48 + p.2]] := by
    have : partT p = joinL [62] [dash p.1, [48 + p.2]] := by simp [partT, joinL]
    rw [this]
    refine splT_join (by simp) fun q hq => ?_
    simp only [List.mem_cons, List.not_mem_nil, or_false] at hq
    rcases hq with rfl | rfl
    · intro hc
      rcases dash_mem h hc with h | h <;> omega
    · simp; omega
  have s2 := split_tD (s := 62) (by decide) (l := partT p) (by omega)
  rw [s1] at s2
  have i0 : ixAD (.lst [tD (dash p.1), tD [48 + p.2]]) (.int 0) = some (tD (dash p.1)) := rfl
  have i1 : ixAD (.lst [tD (dash p.1), tD [48 + p.2]]) (.int 1) = some (tD [48 + p.2]) := rfl
  have fig : (48 + p.2 ∈ [48, 49, 50, 51, 52, 53, 54, 55, 56, 57]) := by simp; omega
  have ln : lenD [.lst [tD (dash p.1), tD [48 + p.2]]] = some (.int 2) := rfl
  have hr : r_pair_of [.dat (tD (partT p)), .un] = .rt (pairD p) := by
    unfold r_pair_of
    refine sSeq_nx (sSet_ok (d := .lst [tD (dash p.1), tD [48 + p.2]]) (by simp [gt_tD, s2]) rfl) ?_
    simp only [List.set]
    have nin : ninSD (tD [48 + p.2]) (tD [48, 49, 50, 51, 52, 53, 54, 55, 56, 57]) = some (.bl false) := by
      rw [ninS_one, decide_eq_true fig]
      rfl
    have inf := int_fig hp
    generalize 48 + p.2 = q at i0 i1 nin ln inf ⊢
    simp [ln, i0, i1, figs_tD, word_of_eq h, small_line, pairD, nin, inf]
  rw [hr]
  rfl
theorem cutL_last {α : Type} (xs : List α) (x : α) : cutL (xs ++ [x]) none (some (-1)) = xs := by
  have e1 : HT.sIx (xs ++ [x]).length (xs ++ [x]).length (some (-1)) = xs.length := by
    show (if (-1 : Int) < 0 then ((-1 : Int) + ((xs ++ [x]).length : Int)).toNat else min (-1 : Int).toNat (xs ++ [x]).length) = xs.length
    rw [if_pos (by decide), List.length_append, List.length_singleton]
    omega
  unfold cutL
  rw [e1, HT.sIx_none, Nat.sub_zero, List.drop_zero, List.take_left]
theorem atI_last {α : Type} (xs : List α) (x : α) : atI (xs ++ [x]) (-1) = some x := by
  have e : ixN (xs ++ [x]).length (-1) = some xs.length := by
    unfold ixN
    rw [List.length_append, List.length_singleton, if_neg (by decide), if_pos (by omega)]
    congr 1
    omega
  unfold atI
  rw [e]
  simp
theorem getD_range {α : Type} (l : List α) (d : α) : (List.range l.length).map (fun k => l.getD k d) = l := by
  refine List.ext_getElem (by simp) fun i h1 h2 => ?_
  simp at h1
  simp [h1]
theorem read_loop {w : Wr} (o : w.Ok) (c0 : Cel) : ∀ (ks : List Nat) (R : List (List (T × Nat))) (E : List T) (c3 c4 c5 c6 : Cel), (∀ k ∈ ks, k < w.rows.length) → R.length + ks.length ≤ 1000 → E.length + ks.length ≤ 1000 → c6.isOwned = false →
    ∃ c3' c4' c6', dLoop (gN 3) r_read_b1 ((ks.map w.line).map tD) [c0, .own (R.map rowD), .own (E.map tD), c3, c4, c5, c6] = .nx [c0, .own ((R ++ ks.map fun k => w.rows.getD k []).map rowD), .own ((E ++ ks.map w.fin).map tD), c3', c4', c5, c6']
  | [], R, E, c3, c4, c5, c6, _, _, _, _ => ⟨c3, c4, c6, by simp⟩
  | k :: ks, R, E, c3, c4, c5, c6, h, hl, hl2, h6 => by
    simp only [List.length_cons] at hl hl2
    have hk := h k List.mem_cons_self
    obtain ⟨r, r1, r2, r3, r4⟩ := o.row_ok hk
    obtain ⟨f1, f2⟩ := o.fin_ok hk
    have s4 := o.s4; have r6 := o.r6
    have r4' : ∀ p ∈ r, Wd p.1 ∧ p.2 < 10 := fun p hp => ⟨(r4 p hp).1, by have := (r4 p hp).2; omega⟩
    have ln : w.line k = lineT r (w.fin k) := by unfold Wr.line; rw [r2]
    have ll := lineT_len r4' f2
    have s1 : splT 32 (w.line k) = r.map partT ++ [dash (w.fin k)] := by
      rw [ln]
      refine splT_join (by simp) fun q hq => ?_
      rcases List.mem_append.mp hq with hq | hq
      · obtain ⟨p, hp, rfl⟩ := List.mem_map.mp hq
        intro hc
        rcases part_mem (r4' p hp).1 (r4' p hp).2 hc with h | h | h | h <;> omega
      · rw [List.mem_singleton.mp hq]
        intro hc
        rcases dash_mem f2 hc with h | h <;> omega
    have s2 := split_tD (s := 32) (by decide) (l := w.line k) (by rw [ln]; omega)
    rw [s1, List.map_append, List.map_cons, List.map_nil] at s2
    have cut : slcD none (some (-1)) (.lst ((r.map partT).map tD ++ [tD (dash (w.fin k))])) = some (.lst ((r.map partT).map tD)) := by
      show some (D.lst (cutL _ none (some (-1)))) = _
      rw [cutL_last]
    have last : ixAD (.lst ((r.map partT).map tD ++ [tD (dash (w.fin k))])) (.int (-1)) = some (tD (dash (w.fin k))) := atI_last _ _
    have comp : lComp [6] (iAny (xCut (xVar 4) (oNo) (oPart (xUn negD (xC (.int 1)))))) (gN 6) (fun _ => .ok true) (xCall 1 f_pair_of (aCons (xVar 6) (aNil))) [c0, .own (R.map rowD), .own (E.map tD), .dat (tD (w.line k)), .dat (.lst ((r.map partT).map tD ++ [tD (dash (w.fin k))])), c5, c6] = .ok (r.map pairD) := by
      refine lComp_ok (ds := (r.map partT).map tD) (by simp only [iAny, xCut, xVar, celD, List.getElem?_cons_succ, List.getElem?_cons_zero, M.bind, oNo, oPart, xUn, xC, negD, M.of, asI]; rw [cut]; rfl) (by simp; omega) (by simp [h6]) ?_
      rw [List.map_map]
      refine cLoop_map (tD ∘ partT) pairD r fun p hp => ⟨_, rfl, ?_⟩
      simp [wipeE, pair_of_eq (r4' p hp).1 (r4' p hp).2]
    obtain ⟨a, b, c, e⟩ := read_loop o c0 ks (R ++ [r]) (E ++ [w.fin k]) (.dat (tD (w.line k))) (.dat (.lst ((r.map partT).map tD ++ [tD (dash (w.fin k))]))) c5 c6 (fun x hx => h x (List.mem_cons_of_mem _ hx)) (by simp; omega) (by simp; omega) h6
    refine ⟨a, b, c, dLoop_step (e1 := [c0, .own (R.map rowD), .own (E.map tD), .dat (tD (w.line k)), c4, c5, c6]) rfl ?_ (e.trans (by rw [← r2]; simp))⟩
    have b1 : R.length < sizeLine := small_lt (by omega)
    have b2 : E.length < sizeLine := small_lt (by omega)
    unfold r_read_b1
    refine sSeq_nx (sSet_ok (xL_ok (a := (r.map partT).map tD ++ [tD (dash (w.fin k))]) (by simp only [lM1, xVar, celD, List.getElem?_cons_succ, List.getElem?_cons_zero, M.bind, asS_tD, xC, blank_tD]; rw [s2]; rfl)) rfl) ?_
    refine sSeq_nx (e1 := [c0, .own ((R ++ [r]).map rowD), .own (E.map tD), .dat (tD (w.line k)), .dat (.lst ((r.map partT).map tD ++ [tD (dash (w.fin k))])), c5, c6]) ?_ ?_
    · have t1 : tupD [.lst (r.map pairD)] = some (rowD r) := rfl
      simp only [sApp, celO, List.set, List.getElem?_cons_succ, List.getElem?_cons_zero, M.to, xCb, aCons, aNil]
      rw [xL_ok comp]
      simp [t1, b1]
    · generalize (r.map partT).map tD ++ [tD (dash (w.fin k))] = P at last
      simp [last, word_of_eq f2, b2]
theorem read_eq {w : Wr} (o : w.Ok) : f_read [tD w.note] = .ok (wrD w) := by
  have e : f_read [tD w.note] = fnRes (r_read [.dat (tD w.note), .un, .un, .un, .un, .un, .un]) := rfl
  rw [e]
  have r1 := o.r1; have r6 := o.r6
  obtain ⟨_, n2, n3⟩ := note_join o
  have s1 : splT 10 w.note = (List.range w.rows.length).map w.line := by
    refine splT_join (fun z => ?_) fun q hq => ?_
    · have := congrArg List.length z
      rw [List.length_map, List.length_range, List.length_nil] at this
      omega
    · obtain ⟨k, hk, rfl⟩ := List.mem_map.mp hq
      intro hc
      have := (n3 k (List.mem_range.mp hk)).2 10 hc
      omega
  have s2 := split_tD (s := 10) (by decide) (l := w.note) (by omega)
  rw [s1] at s2
  obtain ⟨a, b, c, e1⟩ := read_loop o (.dat (tD w.note)) (List.range w.rows.length) [] [] .un .un .un .un (fun k h => List.mem_range.mp h) (by simp; omega) (by simp; omega) rfl
  have er : (List.range w.rows.length).map (fun k => w.rows.getD k []) = w.rows := getD_range _ _
  have ee : (List.range w.rows.length).map w.fin = w.ends := by
    rw [← o.el]
    exact getD_range _ _
  rw [List.nil_append, List.nil_append, er, ee] at e1
  have hr : r_read [.dat (tD w.note), .un, .un, .un, .un, .un, .un] = .rt (wrD w) := by
    unfold r_read
    refine sSeq_nx (e1 := [.dat (tD w.note), .own [], .un, .un, .un, .un, .un]) (by simp [small_line]) ?_
    refine sSeq_nx (e1 := [.dat (tD w.note), .own [], .own [], .un, .un, .un, .un]) (by simp [small_line]) ?_
    refine sSeq_nx (sFor_ok (ds := ((List.range w.rows.length).map w.line).map tD) (by simp only [iAny, xL, lM1, xVar, celD, List.getElem?_cons_succ, List.getElem?_cons_zero, M.bind, asS_tD, xC, line_tD]; rw [s2]; rfl) e1) ?_
    obtain ⟨row, q1, _, q3, _⟩ := o.row_ok (k := 0) (by omega)
    have i0 : ixAD (.lst (w.rows.map rowD)) (.int 0) = some (rowD row) := by
      have := ix_rows (rs := w.rows) (n := 0) q1
      simpa [rowsD, ixAD] using this
    have t1 : tupD [.lst (w.rows.map rowD)] = some (rowsD w.rows) := rfl
    have t2 : tupD [.lst (w.ends.map tD)] = some (endsD w.ends) := rfl
    have wd : D.tup [.int (w.signs : Int), rowsD w.rows, endsD w.ends] = wrD w := rfl
    refine sSeq_nx (e1 := [.dat (tD w.note), .dat (.lst (w.rows.map rowD)), .dat (.lst (w.ends.map tD)), a, b, .dat (wrD w), c]) ?_ ?_
    · simp [i0, t1, t2, small_line, q3, wd]
    · simp [asked_writer_ok o]
  rw [hr]
  rfl
end Wk

namespace Wk
open PySem PySem.Spec PyProof.Rows L2 TL DL
theorem dashed_eq (l : T) : f__law_dashed [tD l] = .ok (tD (dash l)) := by
  have e : f__law_dashed [tD l] = fnRes (r__law_dashed [.dat (tD l)]) := rfl
  rw [e]
  unfold dash
  by_cases h : l = []
  · simp [r__law_dashed, nil_tD, dash_tD, h]
  · simp [r__law_dashed, nil_tD, dash_tD, h]
theorem text_in (a b c : Cel) : ∀ (r : List (T × Nat)) (acc : T) (c4 c5 : Cel), (∀ p ∈ r, Wd p.1 ∧ p.2 < 10) → acc.length + 11 * r.length ≤ 50000 →
    ∃ c4' c5', dLoop (gT (gsCons (gN 4) (gsCons (gN 5) (gsNil)))) r__law_text_b1 (r.map pairD) [a, b, c, .dat (tD acc), c4, c5] = .nx [a, b, c, .dat (tD (acc ++ (r.map partT).flatMap (· ++ [32]))), c4', c5']
  | [], acc, c4, c5, _, _ => ⟨c4, c5, by simp⟩
  | p :: r, acc, c4, c5, h, hl => by
    obtain ⟨h1, h2⟩ := h p List.mem_cons_self
    have l1 := (dash_len h1).2
    simp only [List.length_cons] at hl
    obtain ⟨x, y, e⟩ := text_in a b c r (acc ++ (partT p ++ [32])) (.dat (tD p.1)) (.dat (.int p.2)) (fun q hq => h q (List.mem_cons_of_mem _ hq)) (by have := part_len h1; simp; omega)
    have a1 : addD (tD acc) (tD (dash p.1)) = some (tD (acc ++ dash p.1)) := add_tD (by omega)
    have a2 : addD (tD (acc ++ dash p.1)) (tD [62]) = some (tD (acc ++ dash p.1 ++ [62])) := add_tD (by simp; omega)
    have a3 : addD (tD (acc ++ dash p.1 ++ [62])) (tD [48 + p.2]) = some (tD (acc ++ dash p.1 ++ [62] ++ [48 + p.2])) := add_tD (by simp; omega)
    have a4 : addD (tD (acc ++ dash p.1 ++ [62] ++ [48 + p.2])) (tD [32]) = some (tD (acc ++ (partT p ++ [32]))) := by
      rw [add_tD (by simp; omega)]
      simp [partT]
    refine ⟨x, y, dLoop_step (e1 := [a, b, c, .dat (tD acc), .dat (tD p.1), .dat (.int p.2)]) rfl ?_ (e.trans (by simp))⟩
    simp only [r__law_text_b1, sSet, xOp, xVar, celD, List.getElem?_cons_succ, List.getElem?_cons_zero, xCall, aCons, aNil, M.bind, List.length_cons, List.length_nil, Nat.zero_add, if_true, dashed_eq, M.of, a1, xC, gt_tD, a2, xCb, str_fig h2, a3, blank_tD, a4, M.to, List.set]
theorem text_out {w : Wr} (o : w.Ok) : ∀ (ks : List Nat) (acc : List T) (c2 c3 c4 c5 : Cel), (∀ k ∈ ks, k < w.rows.length) → acc.length + ks.length ≤ 1000 →
    ∃ c2' c3' c4' c5', dLoop (gN 2) r__law_text_b2 (ks.map fun (m : Nat) => D.int (m : Int)) [.dat (wrD w), .own (acc.map tD), c2, c3, c4, c5] = .nx [.dat (wrD w), .own ((acc ++ ks.map w.line).map tD), c2', c3', c4', c5']
  | [], acc, c2, c3, c4, c5, _, _ => ⟨c2, c3, c4, c5, by simp⟩
  | k :: ks, acc, c2, c3, c4, c5, h, hl => by
    simp only [List.length_cons] at hl
    have hk := h k List.mem_cons_self
    obtain ⟨r, r1, r2, r3, r4⟩ := o.row_ok hk
    obtain ⟨f1, f2⟩ := o.fin_ok hk
    have s4 := o.s4; have r6 := o.r6
    have r4' : ∀ p ∈ r, Wd p.1 ∧ p.2 < 10 := fun p hp => ⟨(r4 p hp).1, by have := (r4 p hp).2; omega⟩
    have ln : w.line k = (r.map partT).flatMap (· ++ [32]) ++ dash (w.fin k) := by
      unfold Wr.line lineT
      rw [r2, joinL_snoc]
    have l55 := ((note_join o).2.2 k hk).1
    rw [ln, List.length_append] at l55
    obtain ⟨x, y, e1⟩ := text_in (.dat (wrD w)) (.own (acc.map tD)) (.dat (.int k)) r [] c4 c5 r4' (by simp; omega)
    rw [List.nil_append] at e1
    obtain ⟨a, b, c, d, e⟩ := text_out o ks (acc ++ [w.line k]) (.dat (.int k)) (.dat (tD ((r.map partT).flatMap (· ++ [32])))) x y (fun x hx => h x (List.mem_cons_of_mem _ hx)) (by simp; omega)
    have ad : addD (tD ((r.map partT).flatMap (· ++ [32]))) (tD (dash (w.fin k))) = some (tD (w.line k)) := by
      rw [add_tD (by omega), ln]
    have big : acc.length < sizeLine := small_lt (by omega)
    refine ⟨a, b, c, d, dLoop_step (e1 := [.dat (wrD w), .own (acc.map tD), .dat (.int k), c3, c4, c5]) rfl ?_ (e.trans (by simp))⟩
    unfold r__law_text_b2
    refine sSeq_nx (sSet_ok (d := tD []) (by simp [nil_tD]) rfl) ?_
    refine sSeq_nx (sFor_ok (ds := r.map pairD) (by simp [ix_rows r1]) e1) ?_
    generalize (r.map partT).flatMap (· ++ [32]) = P at ad
    simp [ix_ends f1, dashed_eq, ad, big]
theorem ltext_eq {w : Wr} (o : w.Ok) : f__law_text [wrD w] = .ok (tD w.note) := by
  have e : f__law_text [wrD w] = fnRes (r__law_text [.dat (wrD w), .un, .un, .un, .un, .un]) := rfl
  rw [e]
  have r6 := o.r6
  obtain ⟨a, b, c, d, e1⟩ := text_out o (List.range w.rows.length) [] .un .un .un .un (fun k h => List.mem_range.mp h) (by simp; omega)
  obtain ⟨j1, _⟩ := note_join o
  have hr : r__law_text [.dat (wrD w), .un, .un, .un, .un, .un] = .rt (tD w.note) := by
    unfold r__law_text
    refine sSeq_nx (e1 := [.dat (wrD w), .own [], .un, .un, .un, .un]) (by simp [small_line]) ?_
    refine sSeq_nx (sFor_ok (iRng_ok (ds := [.int (w.rows.length : Int)]) (by simp) (rng1_nat (by omega))) e1) ?_
    simp only [List.nil_append]
    generalize ((List.range w.rows.length).map w.line).map tD = P at j1
    simp [line_tD, j1]
  rw [hr]
  rfl
theorem law_in (a b c d e : Cel) : ∀ (r : List (T × Nat)) (x y : Cel), ∃ x' y', dLoop (gT (gsCons (gN 5) (gsCons (gN 6) (gsNil)))) r_law_b1 (r.map pairD) [a, b, c, d, e, x, y] = .nx [a, b, c, d, e, x', y']
  | [], x, y => ⟨x, y, rfl⟩
  | p :: r, x, y => by
    obtain ⟨x', y', h⟩ := law_in a b c d e r (.dat (tD p.1)) (.dat (.int p.2))
    have : isiD "bool" (.int p.2) = some (.bl false) := rfl
    exact ⟨x', y', dLoop_step rfl (by simp [r_law_b1, this]) h⟩
theorem law_out (a b c d : Cel) : ∀ (r : List (List (T × Nat))) (e x y : Cel), ∃ e' x' y', dLoop (gN 4) r_law_b2 (r.map rowD) [a, b, c, d, e, x, y] = .nx [a, b, c, d, e', x', y']
  | [], e, x, y => ⟨e, x, y, rfl⟩
  | p :: r, e, x, y => by
    obtain ⟨x1, y1, h1⟩ := law_in a b c d (.dat (rowD p)) p x y
    obtain ⟨e', x', y', h⟩ := law_out a b c d r (.dat (rowD p)) x1 y1
    exact ⟨e', x', y', dLoop_step (e1 := [a, b, c, d, .dat (rowD p), x, y]) rfl (sFor_ok (by simp) h1) h⟩
theorem law_true (ns : List Int) (hn : ns.length ≤ 63) : f_law [.scr ns] = .ok (.bl true) := by
  have e : f_law [.scr ns] = fnRes (r_law [.dat (.scr ns), .un, .un, .un, .un, .un, .un]) := rfl
  rw [e]
  obtain ⟨w, o, _, _, _, _, _, hw⟩ := writer_eq (cells0 ns) 0 (a := 4) (b := 6) (c := 8) (by omega) (by omega) (by omega)
  simp only [Int.natCast_zero, Int.cast_ofNat_Int] at hw
  have ne : neD (wrD w) (wrD w) = some (.bl false) := by
    rw [neD_eq (by rw [eqOk_wrD o]; simp)]
    simp
  have isT : isiD "tuple" (wrD w) = some (.bl true) := rfl
  have isB : isiD "bool" (.int w.signs) = some (.bl false) := rfl
  obtain ⟨e', x', y', lo⟩ := law_out (.dat (.scr ns)) (.dat (wrD w)) (.dat (tD w.note)) (.dat (wrD w)) w.rows .un .un .un
  have hr : r_law [.dat (.scr ns), .un, .un, .un, .un, .un, .un] = .rt (.bl true) := by
    unfold r_law
    refine sSeq_nx (sSet_ok (d := wrD w) (by rw [tup3]; simp [hw]) rfl) ?_
    refine sSeq_nx (sSet_ok (d := tD w.note) (by simp [shown_eq o]) rfl) ?_
    refine sSeq_nx (e1 := [.dat (.scr ns), .dat (wrD w), .dat (tD w.note), .un, .un, .un, .un]) (by simp [ltext_eq o]) ?_
    refine sSeq_nx (sSet_ok (d := wrD w) (by simp [read_eq o]) rfl) ?_
    refine sSeq_nx (e1 := [.dat (.scr ns), .dat (wrD w), .dat (tD w.note), .dat (wrD w), .un, .un, .un]) (by simp [ne, isT, isB]) ?_
    refine sSeq_nx (sFor_ok (ds := w.rows.map rowD) (by simp) lo) ?_
    simp
  rw [hr]
  rfl
end Wk

open PySem PySem.W PyProof.Rows
set_option maxHeartbeats 0 in
theorem PySem.Challenge.cw_alikewritten_k11_written_down_and_read_holds : PySem.Challenge.rw_alikewritten_k11_written_down_and_read.Holds := by
  w_on; o_law; k_head; (case hw => w_witness2)
  k_fill
  refine L2.walk_of (l := PySem.Challenge.rw_alikewritten_k11_written_down_and_read) (n := 63) (k := 4) (x := "script") (CX := fun w => L2.CX PySem.Challenge.rw_alikewritten_k11_written_down_and_read.prog w) (sp := fun w => DL.spEnd _) rfl (by decide) rfl ⟨rfl, by decide, by decide⟩ (fun w h Y => PySem.W.kIn_of Y) ?F (fun _ _ a ns hl _ hS => ⟨a, ns, rfl, hS, hl, fun _ => rfl⟩) (fun _ _ _ _ _ h => DL.cx_no h)
  case F =>
    intro w mg fa h KX G hmg
    refine' Wk.all_mk KX G hmg Wk.law_true ?a0 ?l0 ?c0 ?k0 ?a1 ?l1 ?c1 ?k1 ?a2 ?l2 ?c2 ?k2 ?a3 ?l3 ?c3 ?k3 ?a4 ?l4 ?c4 ?k4 ?a5 ?l5 ?c5 ?k5 ?a6 ?l6 ?c6 ?k6 ?a7 ?l7 ?c7 ?k7 ?a8 ?l8 ?c8 ?k8 ?a9 ?l9 ?c9 ?k9 ?a10 ?l10 ?c10 ?k10 ?a11 ?l11 ?c11 ?k11 ?a12 ?l12 ?c12 ?k12 ?a13 ?l13 ?c13 ?k13 ?z_bool ?z_int ?z_isinstance ?z_len ?z_min ?z_range ?z_str ?z_tuple ?g_FIGURES ?g_LETTERS ?g_LONGEST ?g_SIGNS ?g_STATES ?ea_NoNote ?ex_NoNote ?ek_NoNote ?eb_NoNote ?et_NoNote ?ea_NoWriter ?ex_NoWriter ?ek_NoWriter ?eb_NoWriter ?et_NoWriter
    (case a0 => k_is); (case l0 => k_is); (case c0 => k_is); (case k0 => k_is); (case a1 => k_is); (case l1 => k_is); (case c1 => k_is); (case k1 => k_is); (case a2 => k_is); (case l2 => k_is); (case c2 => k_is); (case k2 => k_is); (case a3 => k_is); (case l3 => k_is); (case c3 => k_is); (case k3 => k_is); (case a4 => k_is); (case l4 => k_is); (case c4 => k_is); (case k4 => k_is); (case a5 => k_is); (case l5 => k_is); (case c5 => k_is); (case k5 => k_is); (case a6 => k_is); (case l6 => k_is); (case c6 => k_is); (case k6 => k_is); (case a7 => k_is); (case l7 => k_is); (case c7 => k_is); (case k7 => k_is); (case a8 => k_is); (case l8 => k_is); (case c8 => k_is); (case k8 => k_is); (case a9 => k_is); (case l9 => k_is); (case c9 => k_is); (case k9 => k_is); (case a10 => k_is); (case l10 => k_is); (case c10 => k_is); (case k10 => k_is); (case a11 => k_is); (case l11 => k_is); (case c11 => k_is); (case k11 => k_is); (case a12 => k_is); (case l12 => k_is); (case c12 => k_is); (case k12 => k_is); (case a13 => k_is); (case l13 => k_is); (case c13 => k_is); (case k13 => k_is); (case z_bool => k_is); (case z_int => k_is); (case z_isinstance => k_is); (case z_len => k_is); (case z_min => k_is); (case z_range => k_is); (case z_str => k_is); (case z_tuple => k_is); (case g_FIGURES => k_is); (case g_LETTERS => k_is); (case g_LONGEST => k_is); (case g_SIGNS => k_is); (case g_STATES => k_is); (case ea_NoNote => k_is); (case ex_NoNote => k_exc); (case ek_NoNote => k_is); (case eb_NoNote => k_is); (case et_NoNote => k_is); (case ea_NoWriter => k_is); (case ex_NoWriter => k_exc); (case ek_NoWriter => k_is); (case eb_NoWriter => k_is); (case et_NoWriter => k_is)
