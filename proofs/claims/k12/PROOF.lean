import PyProof.Rows.All
import Wide.All
import OpenK.AllK
import Wide.FinOn
import PySem.Challenge.RW_alikewritten_k12_read_or_refused
import HandS.ForMost
import HandS.ForExc
import HandS.Conv
import HandS.CallSlots
import KE.KeyNested
import HandS.IsInst
import PyProof.DictMoreH
import KE.KDictKeyed
import KE.KDictDisplayH
import HandS.TupLen
import HandS.ExcIs
import HandS.SetFor
import HandS.StrMore
import HandS.More
import KE.RegKTryMore
import KE.SortData
import KE.DataMinMax
import KE.KDictCopyH
import KE.KDictList
import KE.DataCmp
import HandS.TryOnly
import HandS.TupMul
import HandS.TupAny
import KE.GoesComp
import HandS.SuiteRaise
import HandS.Deep
set_option Elab.async false
set_option linter.all false
set_option maxRecDepth 100000
/-! DL: a layer of DATA over the hand layer: what a def computes, told by a function of plain data (no heap in sight). -/
namespace DL
open PySem PySem.Spec PyProof.Rows L2

structure KW where
  k : PySem.W.Frag
  w : World
abbrev kw (X : Cx) : KW := ⟨X.K, X.w⟩
/-- data -/
inductive D where
  | non | bl (b : Bool) | int (i : Int) | str (s : Str) | lst (xs : List D) | tup (xs : List D) | scr (ns : List Int)

mutual
inductive Rep (K : KW) (G : Hp) : V → D → Prop
  | non : Rep K G .non .non
  | bl (b : Bool) : Rep K G (.bl b) (.bl b)
  | int (i : Int) : Rep K G (.int i) (.int i)
  | str (x : Str) : Rep K G (.str x) (.str x)
  | lst {a : Addr} {xs : List V} {ds : List D} : G a = some (.lst xs) → Reps K G xs ds → Rep K G (.ref a) (.lst ds)
  | tup {a : Addr} {xs : List V} {ds : List D} : G a = some (.tup xs) → Reps K G xs ds → Rep K G (.ref a) (.tup ds)
  | scr {a : Addr} {ns : List Int} : SqL K.k G a (ns.map V.int) → Rep K G (.ref a) (.scr ns)
inductive Reps (K : KW) (G : Hp) : List V → List D → Prop
  | nil : Reps K G [] []
  | cons {v : V} {vs : List V} {d : D} {ds : List D} : Rep K G v d → Reps K G vs ds → Reps K G (v :: vs) (d :: ds)
end
section
variable {K : KW} {G G' : Hp}
mutual
theorem Rep.mono (e : Same G G') : ∀ (d : D) (v : V), Rep K G v d → Rep K G' v d
  | .non, _, h => by cases h; exact .non
  | .bl _, _, h => by cases h; exact .bl _
  | .int _, _, h => by cases h; exact .int _
  | .str _, _, h => by cases h; exact .str _
  | .lst ds, _, h => by
    cases h with
    | lst h1 h2 => exact .lst (e _ _ h1) (Reps.mono e ds _ h2)
  | .tup ds, _, h => by
    cases h with
    | tup h1 h2 => exact .tup (e _ _ h1) (Reps.mono e ds _ h2)
  | .scr ns, _, h => by
    cases h with
    | scr h1 => exact .scr (e.seq h1)
theorem Reps.mono (e : Same G G') : ∀ (ds : List D) (vs : List V), Reps K G vs ds → Reps K G' vs ds
  | [], _, h => by cases h; exact .nil
  | d :: ds, _, h => by
    cases h with
    | cons h1 h2 => exact .cons (Rep.mono e d _ h1) (Reps.mono e ds _ h2)
end
theorem Rep.up {v : V} {d : D} (h : Rep K G v d) (e : Same G G') : Rep K G' v d := Rep.mono e d v h
theorem Reps.up {vs : List V} {ds : List D} (h : Reps K G vs ds) (e : Same G G') : Reps K G' vs ds := Reps.mono e ds vs h
theorem Reps.length : ∀ {vs : List V} {ds : List D}, Reps K G vs ds → vs.length = ds.length
  | [], [], _ => rfl
  | _ :: _, _ :: _, .cons _ h => congrArg (· + 1) (Reps.length h)
theorem Reps.get : ∀ {vs : List V} {ds : List D} {i : Nat} {d : D}, Reps K G vs ds → ds[i]? = some d → ∃ v, vs[i]? = some v ∧ Rep K G v d
  | [], [], _, _, _, e => by simp at e
  | _ :: _, _ :: _, 0, _, .cons h _, e => by
    simp at e
    subst e
    exact ⟨_, rfl, h⟩
  | _ :: _, _ :: _, i + 1, d, .cons _ h, e => by
    obtain ⟨v, h1, h2⟩ := Reps.get (i := i) (d := d) h (by simpa using e)
    exact ⟨v, by simpa using h1, h2⟩
theorem Reps.getV : ∀ {vs : List V} {ds : List D} {i : Nat} {v : V}, Reps K G vs ds → vs[i]? = some v → ∃ d, ds[i]? = some d ∧ Rep K G v d
  | [], [], _, _, _, e => by simp at e
  | _ :: _, _ :: _, 0, _, .cons h _, e => by
    simp at e
    subst e
    exact ⟨_, rfl, h⟩
  | _ :: _, _ :: _, i + 1, d, .cons _ h, e => by
    obtain ⟨v, h1, h2⟩ := Reps.getV (i := i) (v := d) h (by simpa using e)
    exact ⟨v, by simpa using h1, h2⟩
theorem Reps.append : ∀ {vs ws : List V} {ds es : List D}, Reps K G vs ds → Reps K G ws es → Reps K G (vs ++ ws) (ds ++ es)
  | [], _, [], _, _, h => h
  | _ :: _, _, _ :: _, _, .cons h1 h2, h => .cons h1 (Reps.append h2 h)
theorem Reps.take : ∀ {vs : List V} {ds : List D} (n : Nat), Reps K G vs ds → Reps K G (vs.take n) (ds.take n)
  | [], [], 0, _ => .nil
  | [], [], _ + 1, _ => .nil
  | _ :: _, _ :: _, 0, _ => .nil
  | _ :: _, _ :: _, n + 1, .cons h1 h2 => .cons h1 (Reps.take n h2)
theorem Reps.drop : ∀ {vs : List V} {ds : List D} (n : Nat), Reps K G vs ds → Reps K G (vs.drop n) (ds.drop n)
  | [], [], 0, h => h
  | [], [], _ + 1, _ => .nil
  | _ :: _, _ :: _, 0, h => h
  | _ :: _, _ :: _, n + 1, .cons _ h2 => Reps.drop n h2
theorem Reps.set {v : V} {d : D} (r : Rep K G v d) : ∀ {vs : List V} {ds : List D} (i : Nat), Reps K G vs ds → Reps K G (vs.set i v) (ds.set i d)
  | [], [], _, h => by simpa using h
  | _ :: _, _ :: _, 0, .cons _ h2 => .cons r h2
  | _ :: _, _ :: _, n + 1, .cons h1 h2 => .cons h1 (Reps.set r n h2)
theorem Reps.one {v : V} {d : D} (h : Rep K G v d) : Reps K G [v] [d] := .cons h .nil
theorem Reps.ints : ∀ ns : List Int, Reps K G (ns.map V.int) (ns.map D.int)
  | [] => .nil
  | _ :: r => .cons (.int _) (Reps.ints r)
theorem Reps.strs : ∀ ns : List Str, Reps K G (ns.map V.str) (ns.map D.str)
  | [] => .nil
  | _ :: r => .cons (.str _) (Reps.strs r)
theorem Reps.of_strs : ∀ {ns : List Str} {vs : List V}, Reps K G vs (ns.map D.str) → vs = ns.map V.str
  | [], [], _ => rfl
  | _ :: r, _ :: _, .cons h1 h2 => by
    cases h1
    rw [Reps.of_strs h2]
    rfl
theorem Reps.of_ints : ∀ {ns : List Int} {vs : List V}, Reps K G vs (ns.map D.int) → vs = ns.map V.int
  | [], [], _ => rfl
  | _ :: r, _ :: _, .cons h1 h2 => by
    cases h1
    rw [Reps.of_ints h2]
    rfl
end

/-! ### dicts -/
mutual
def keyD : D → Option NestedKey
  | .non => some .none
  | .int i => some (.num i)
  | .str s => some (.text s)
  | .tup xs => (keyDs xs).map .tup
  | _ => none
def keyDs : List D → Option (List NestedKey)
  | [] => some []
  | x :: xs => match keyD x, keyDs xs with
    | some k, some ks => some (k :: ks)
    | _, _ => none
end
/-- what may be a key of a dict: a whole number or a tuple -/
def keyOk : D → Option NestedKey
  | .int i => some (.num i)
  | .tup xs => (keyDs xs).bind fun ks => if NestedKey.depth (.tup ks) ≤ 8 then some (.tup ks) else none
  | _ => none
abbrev Ent := NestedKey × Value × Value
def entD (w : World) (x : Ent) : DictEntry := ⟨x.1.hash w, x.2.1, x.2.2⟩
/-- at p stands a dict with these entries -/
def RawD (w : World) (p : Addr) (xs : List Ent) (h : Heap) : Prop := xs.length ≤ sizeLine ∧ (p == sysModules) = false ∧ (xs.map (·.1)).Nodup ∧ ∃ o es ep, h.get? p = some o ∧ o.ExactDict ∧ o.data = .dict es ep ∧ es.toList = xs.map (entD w)
def DicO (w : World) (p : Addr) (xs : List Ent) : HO := .ext (RawD w p xs)
structure KRel (K : KW) (G : Hp) (x : Ent) (y : D × D) : Prop where
  key : keyOk y.1 = some x.1
  kv : ∃ v, RelV v x.2.1 ∧ Rep K G v y.1
  vv : ∃ v, RelV v x.2.2 ∧ Rep K G v y.2
theorem KRel.up {K : KW} {G G' : Hp} {x : Ent} {y : D × D} (h : KRel K G x y) (e : Same G G') : KRel K G' x y where
  key := h.key
  kv := let ⟨v, a, b⟩ := h.kv; ⟨v, a, b.up e⟩
  vv := let ⟨v, a, b⟩ := h.vv; ⟨v, a, b.up e⟩

/-! ### results -/
inductive M (α : Type) where
  | ok (a : α) | ex (c : Str) | no
namespace M
@[simp] def bind {α β : Type} : M α → (α → M β) → M β
  | .ok a, f => f a
  | .ex c, _ => .ex c
  | .no, _ => .no
@[simp] def of {α : Type} : Option α → M α
  | some a => .ok a
  | none => .no
end M

/-- what is known of a slot: nothing, data, an own list (nobody else holds it), an own dict with tuple keys -/
inductive Cel where
  | un | dat (d : D) | own (xs : List D) | dic (kvs : List (D × D)) | fdc (kvs : List (D × D)) | exc (a : Addr)
abbrev DEnv := List Cel
def Cel.owned : Cel → Prop
  | .own _ => True
  | .dic _ => True
  | _ => False

def CelAt (K : KW) (B G H : Hp) : Cel → Option V → Prop
  | .un, _ => True
  | .dat d, o => ∃ v, o = some v ∧ Rep K G v d
  | .own xs, o => ∃ p vs, o = some (.ref p) ∧ G p = none ∧ B p = none ∧ H p = some (.lst vs) ∧ Reps K G vs xs
  | .dic kvs, o => ∃ p xs, o = some (.ref p) ∧ G p = none ∧ B p = none ∧ H p = some (DicO K.w p xs) ∧ Paired (KRel K G) xs kvs
  | .exc a, o => o = some (.ref a)
  | .fdc kvs, o => ∃ p xs od, o = some (.ref p) ∧ G p = some (.frz od (DicO K.w p xs)) ∧ Paired (KRel K G) xs kvs

/-- the slots σ in the heap H hold env; B: the heap at the entry, G0: what was known to stand still there, G: what stands still now -/
structure Cn (K : KW) (B G0 G : Hp) (σ : L2.St) (H : Hp) (env : DEnv) : Prop where
  len : σ.length = env.length
  exB : Same B H
  exG : Same G H
  ex0 : Same G0 G
  new : ∀ a, G a ≠ none → G0 a ≠ none ∨ B a = none
  cel : ∀ (i : Nat) (s : Cel), env[i]? = some s → ∃ o, σ[i]? = some o ∧ CelAt K B G H s o
  sep : ∀ (i j : Nat) (s t : Cel) (p : Addr), i ≠ j → env[i]? = some s → env[j]? = some t → s.owned → t.owned → σ[i]? = some (some (.ref p)) → σ[j]? ≠ some (some (.ref p))

section
variable {K : KW} {B G0 G G' H H' : Hp} {σ : L2.St} {env : DEnv}
theorem CelAt.un (o : Option V) : CelAt K B G H .un o := True.intro
theorem same_upd {H : Hp} {p : Addr} {o : HO} (h : H p = none) : Same H (upd H p o) := fun b x e => by
  rw [upd_ne (ne_of_none e h)]
  exact e
theorem none_of_same {H H' : Hp} {p : Addr} (e : Same H H') (h : H' p = none) : H p = none := e.free h
/-- what happens within an expression -/
theorem Cn.grow (c : Cn K B G0 G σ H env) (eG : Same G G') (eH : Same H H') (gh : Same G' H') (nw : ∀ a, G' a ≠ none → G a ≠ none ∨ H a = none) : Cn K B G0 G' σ H' env where
  len := c.len
  exB := c.exB.trans eH
  exG := gh
  ex0 := c.ex0.trans eG
  new := fun a h => by
    rcases nw a h with z | z
    · exact c.new a z
    · exact .inr (c.exB.free z)
  cel := fun i s e => by
    obtain ⟨o, e1, h⟩ := c.cel i s e
    refine ⟨o, e1, ?_⟩
    have key : ∀ p u, G p = none → H p = some u → G' p = none := fun p u gp hp => by
      cases q : G' p with
      | none => rfl
      | some w =>
        rcases nw p (by rw [q]; intro z; cases z) with z | z
        · exact absurd gp z
        · rw [hp] at z; cases z
    cases s with
    | un => trivial
    | dat d => obtain ⟨v, e2, r⟩ := h; exact ⟨v, e2, r.up eG⟩
    | own xs => obtain ⟨p, vs, e2, gp, bp, hp, r⟩ := h; exact ⟨p, vs, e2, key p _ gp hp, bp, eH _ _ hp, r.up eG⟩
    | dic kvs => obtain ⟨p, vs, e2, gp, bp, hp, r⟩ := h; exact ⟨p, vs, e2, key p _ gp hp, bp, eH _ _ hp, L2.Paired.mapP r fun _ _ z => z.up eG⟩
    | exc a => exact h
    | fdc kvs => obtain ⟨p, vs, od, e2, gp, r⟩ := h; exact ⟨p, vs, od, e2, eG _ _ gp, L2.Paired.mapP r fun _ _ z => z.up eG⟩
  sep := c.sep
/-- a new object that stands still from now on -/
theorem Cn.laid (c : Cn K B G0 G σ H env) {p : Addr} {o : HO} (h : H p = none) : Cn K B G0 (upd G p o) σ (upd H p o) env := by
  have gp : G p = none := c.exG.free h
  refine c.grow (same_upd gp) (same_upd h) (fun a x e => ?_) (fun a e => ?_)
  · by_cases z : a = p
    · subst z; rw [upd_same] at e ⊢; exact e
    · rw [upd_ne z] at e ⊢; exact c.exG _ _ e
  · by_cases z : a = p
    · subst z; exact .inr h
    · rw [upd_ne z] at e; exact .inl e
/-- slots are forgotten -/
theorem Cn.weak {σ' : L2.St} {env' : DEnv} (c : Cn K B G0 G σ H env) (hl : σ'.length = env'.length) (w : ∀ (i : Nat) s, env'[i]? = some s → s = .un ∨ (env[i]? = some s ∧ σ'[i]? = σ[i]?)) : Cn K B G0 G σ' H env' where
  len := hl
  exB := c.exB
  exG := c.exG
  ex0 := c.ex0
  new := c.new
  cel := fun i s e => by
    have hi : i < σ'.length := by rw [hl]; exact (List.getElem?_eq_some_iff.mp e).1
    rcases w i s e with z | ⟨z, q⟩
    · subst z
      exact ⟨σ'[i], List.getElem?_eq_getElem hi, trivial⟩
    · obtain ⟨o, e1, h⟩ := c.cel i s z
      exact ⟨o, q.trans e1, h⟩
  sep := fun i j s t p ne e1 e2 o1 o2 q => by
    rcases w i s e1 with z | ⟨z, q1⟩
    · subst z; exact o1.elim
    · rcases w j t e2 with z' | ⟨z', q2⟩
      · subst z'; exact o2.elim
      · rw [q2]
        exact c.sep i j s t p ne z z' o1 o2 (q1 ▸ q)
/-- a slot is given data -/
theorem Cn.set (c : Cn K B G0 G σ H env) (i : Nat) {v : V} {d : D} (r : Rep K G v d) : Cn K B G0 G (σ.set i (some v)) H (env.set i (.dat d)) where
  len := by simp [c.len]
  exB := c.exB
  exG := c.exG
  ex0 := c.ex0
  new := c.new
  cel := fun j s e => by
    by_cases h : i = j
    · subst h
      have hi : i < env.length := by
        have := (List.getElem?_eq_some_iff.mp e).1
        simpa using this
      rw [List.getElem?_set_self hi] at e
      cases e
      refine ⟨some v, ?_, v, rfl, r⟩
      rw [List.getElem?_set_self (by rw [c.len]; exact hi)]
    · rw [List.getElem?_set_ne h] at e
      obtain ⟨o, e1, q⟩ := c.cel j s e
      exact ⟨o, by rw [List.getElem?_set_ne h]; exact e1, q⟩
  sep := fun j k s t p ne e1 e2 o1 o2 q => by
    have hj : i ≠ j := fun z => by
      subst z
      have hi : i < env.length := by
        have := (List.getElem?_eq_some_iff.mp e1).1
        simpa using this
      rw [List.getElem?_set_self hi] at e1
      cases e1
      exact o1
    have hk : i ≠ k := fun z => by
      subst z
      have hi : i < env.length := by
        have := (List.getElem?_eq_some_iff.mp e2).1
        simpa using this
      rw [List.getElem?_set_self hi] at e2
      cases e2
      exact o2
    rw [List.getElem?_set_ne hj] at e1 q
    rw [List.getElem?_set_ne hk] at e2 ⊢
    exact c.sep j k s t p ne e1 e2 o1 o2 q
end
end DL

namespace DL
open PySem PySem.Spec PyProof.Rows L2


/-! ### the combinators of the readings -/
@[simp] def celD (env : DEnv) (i : Nat) : M D := match env[i]? with
  | some (.dat d) => .ok d
  | _ => .no
@[simp] def asB : D → M Bool
  | .bl b => .ok b
  | _ => .no
@[simp] def xVar (i : Nat) (env : DEnv) : M D := celD env i
@[simp] def xC (d : D) (_ : DEnv) : M D := .ok d
@[simp] def xOp (h : D → D → Option D) (f g : DEnv → M D) (env : DEnv) : M D := (f env).bind fun a => (g env).bind fun b => .of (h a b)
@[simp] def xUn (h : D → Option D) (f : DEnv → M D) (env : DEnv) : M D := (f env).bind fun a => .of (h a)
@[simp] def aNil (_ : DEnv) : M (List D) := .ok []
@[simp] def aCons (f : DEnv → M D) (g : DEnv → M (List D)) (env : DEnv) : M (List D) := (f env).bind fun a => (g env).bind fun b => .ok (a :: b)
@[simp] def xCb (h : List D → Option D) (g : DEnv → M (List D)) (env : DEnv) : M D := (g env).bind fun a => .of (h a)
@[simp] def xTup (g : DEnv → M (List D)) (env : DEnv) : M D := (g env).bind fun a => if a.length ≤ sizeLine then .ok (.tup a) else .no
@[simp] def lLst (g : DEnv → M (List D)) (env : DEnv) : M (List D) := (g env).bind fun a => if a.length ≤ sizeLine then .ok a else .no
@[simp] def xL (g : DEnv → M (List D)) (env : DEnv) : M D := (g env).bind fun a => .ok (.lst a)
@[simp] def tE (f : DEnv → M D) (env : DEnv) : M Bool := (f env).bind asB
@[simp] def tNo (t : DEnv → M Bool) (env : DEnv) : M Bool := (t env).bind fun b => .ok (!b)
@[simp] def tBoth (t u : DEnv → M Bool) (env : DEnv) : M Bool := (t env).bind fun c => if c = true then u env else .ok false
@[simp] def tEither (t u : DEnv → M Bool) (env : DEnv) : M Bool := (t env).bind fun c => if c = true then .ok true else u env

/-! ### expressions -/
section
variable (K : KW) (mg : Str → Option Value) (W : WX) (B G0 G : Hp) (σ : L2.St) (env : DEnv)
def PoX (c : Str) : Prop := ∀ cls H' G', mg c = some cls → Cn K B G0 G' σ H' env → W cls none σ H'
def PoE (Q : VK) : M D → Prop
  | .ok d => ∀ v H' G', Same G G' → Cn K B G0 G' σ H' env → Rep K G' v d → Q v H'
  | .ex c => PoX K mg W B G0 σ env c
  | .no => False
def PoT (Q : Bool → Hp → Prop) : M Bool → Prop
  | .ok b => ∀ H' G', Same G G' → Cn K B G0 G' σ H' env → Q b H'
  | .ex c => PoX K mg W B G0 σ env c
  | .no => False
def PoA (Q : List V → Hp → Prop) : M (List D) → Prop
  | .ok ds => ∀ vs H' G', Same G G' → Cn K B G0 G' σ H' env → Reps K G' vs ds → Q vs H'
  | .ex c => PoX K mg W B G0 σ env c
  | .no => False
end
def RdE (K : KW) (mg : Str → Option Value) (W : WX) (te : TE) (f : DEnv → M D) : Prop :=
  ∀ B G0 G H σ env Q, Cn K B G0 G σ H env → PoE K mg W B G0 G σ env Q (f env) → te σ H Q
def RdT (K : KW) (mg : Str → Option Value) (W : WX) (tt : TT) (f : DEnv → M Bool) : Prop :=
  ∀ B G0 G H σ env Q, Cn K B G0 G σ H env → PoT K mg W B G0 G σ env Q (f env) → tt σ H Q
def RdA (K : KW) (mg : Str → Option Value) (W : WX) (ta : TA) (f : DEnv → M (List D)) : Prop :=
  ∀ B G0 G H σ env Q, Cn K B G0 G σ H env → PoA K mg W B G0 G σ env Q (f env) → ta σ H Q
/-- a two-place operation on data -/
def OpD (K : KW) (r : R2) (h : D → D → Option D) : Prop :=
  ∀ (B G0 G H : Hp) (σ : L2.St) (env : DEnv) (x y : V) (a b d : D) (Q : VK), Cn K B G0 G σ H env → Rep K G x a → Rep K G y b → h a b = some d →
    (∀ v H' G', Same G G' → Cn K B G0 G' σ H' env → Rep K G' v d → Q v H') → r x y H Q
/-- a call of a builtin on data -/
def CbD (K : KW) (r : List V → Hp → VK → Prop) (h : List D → Option D) : Prop :=
  ∀ (B G0 G H : Hp) (σ : L2.St) (env : DEnv) (vs : List V) (ds : List D) (d : D) (Q : VK), Cn K B G0 G σ H env → Reps K G vs ds → h ds = some d →
    (∀ v H' G', Same G G' → Cn K B G0 G' σ H' env → Rep K G' v d → Q v H') → r vs H Q
section
variable {K : KW} {mg : Str → Option Value} {W : WX} {ta tb te : TE} {f g : DEnv → M D}
theorem RdE.op {r : R2} {h : D → D → Option D} (ha : RdE K mg W ta f) (hb : RdE K mg W tb g) (hr : OpD K r h) :
    RdE K mg W (tOp r ta tb) (xOp h f g) := by
  intro B G0 G H σ env Q c p
  refine ha B G0 G H σ env _ c ?_
  cases e : f env with
  | no => simp [e, PoE] at p
  | ex n => simpa [e, PoE] using p
  | ok a =>
    intro v1 H1 G1 s1 c1 r1
    refine hb B G0 G1 H1 σ env _ c1 ?_
    cases e2 : g env with
    | no => simp [e, e2, PoE] at p
    | ex n => simpa [e, e2, PoE] using p
    | ok b =>
      intro v2 H2 G2 s2 c2 r2
      cases e3 : h a b with
      | none => simp [e, e2, e3, PoE] at p
      | some d =>
        simp only [xOp, xUn, aNil, aCons, xCb, xTup, lLst, xL, tE, tNo, tBoth, tEither, xVar, e, e2, e3, M.bind, M.of] at p
        exact hr _ _ _ _ _ _ _ _ _ _ _ _ c2 (r1.up s2) r2 e3 fun v H' G' s c' r' => p v H' G' ((s1.trans s2).trans s) c' r'
theorem RdE.un {r : V → Hp → VK → Prop} {h : D → Option D} (ha : RdE K mg W ta f)
    (hr : ∀ {B G0 G H : Hp} {σ : L2.St} {env : DEnv} {x : V} {a d : D} {Q : VK}, Cn K B G0 G σ H env → Rep K G x a → h a = some d → (∀ v H' G', Same G G' → Cn K B G0 G' σ H' env → Rep K G' v d → Q v H') → r x H Q) :
    RdE K mg W (tUn r ta) (xUn h f) := by
  intro B G0 G H σ env Q c p
  refine ha B G0 G H σ env _ c ?_
  cases e : f env with
  | no => simp [e, PoE] at p
  | ex n => simpa [e, PoE] using p
  | ok a =>
    intro v1 H1 G1 s1 c1 r1
    cases e3 : h a with
    | none => simp [e, e3, PoE] at p
    | some d =>
      simp only [xOp, xUn, aNil, aCons, xCb, xTup, lLst, xL, tE, tNo, tBoth, tEither, xVar, e, e3, M.bind, M.of] at p
      exact hr c1 r1 e3 fun v H' G' s c' r' => p v H' G' (s1.trans s) c' r'
theorem RdA.nil : RdA K mg W tNil aNil := by
  intro B G0 G H σ env Q c p
  exact p [] H G (Same.refl G) c .nil
theorem RdA.cons {tr : TA} {g : DEnv → M (List D)} (ha : RdE K mg W ta f) (hb : RdA K mg W tr g) :
    RdA K mg W (tCons ta tr) (aCons f g) := by
  intro B G0 G H σ env Q c p
  refine ha B G0 G H σ env _ c ?_
  cases e : f env with
  | no => simp [e, PoA] at p
  | ex n => simpa [e, PoA, PoE] using p
  | ok a =>
    intro v1 H1 G1 s1 c1 r1
    refine hb B G0 G1 H1 σ env _ c1 ?_
    cases e2 : g env with
    | no => simp [e, e2, PoA] at p
    | ex n => simpa [e, e2, PoA] using p
    | ok b =>
      intro v2 H2 G2 s2 c2 r2
      simp only [xOp, xUn, aNil, aCons, xCb, xTup, lLst, xL, tE, tNo, tBoth, tEither, xVar, e, e2, M.bind] at p
      exact p _ H2 G2 (s1.trans s2) c2 (.cons (r1.up s2) r2)
theorem RdE.cb {r : List V → Hp → VK → Prop} {h : List D → Option D} {tr : TA} {g : DEnv → M (List D)} (ha : RdA K mg W tr g) (hr : CbD K r h) :
    RdE K mg W (tCB r tr) (xCb h g) := by
  intro B G0 G H σ env Q c p
  refine ha B G0 G H σ env _ c ?_
  cases e : g env with
  | no => simp [e, PoE] at p
  | ex n => simpa [e, PoE, PoA] using p
  | ok a =>
    intro v1 H1 G1 s1 c1 r1
    cases e3 : h a with
    | none => simp [e, e3, PoE] at p
    | some d =>
      simp only [xOp, xUn, aNil, aCons, xCb, xTup, lLst, xL, tE, tNo, tBoth, tEither, xVar, e, e3, M.bind, M.of] at p
      exact hr _ _ _ _ _ _ _ _ _ _ c1 r1 e3 fun v H' G' s c' r' => p v H' G' (s1.trans s) c' r'
/-- a tuple's display -/
theorem RdE.tup {tr : TA} {g : DEnv → M (List D)} (ha : RdA K mg W tr g) :
    RdE K mg W (tTup tr) (xTup g) := by
  intro B G0 G H σ env Q c p
  refine ha B G0 G H σ env _ c ?_
  cases e : g env with
  | no => simp [e, PoE] at p
  | ex n => simpa [e, PoE, PoA] using p
  | ok a =>
    intro v1 H1 G1 s1 c1 r1
    simp only [xOp, xUn, aNil, aCons, xCb, xTup, lLst, xL, tE, tNo, tBoth, tEither, xVar, e, M.bind] at p
    by_cases hl : a.length ≤ sizeLine
    · rw [if_pos hl] at p
      refine ⟨by rw [r1.length]; exact hl, fun q hq => ?_⟩
      have gq := c1.exG.free hq
      exact p (.ref q) _ (upd G1 q (.tup v1)) (s1.trans (same_upd gq)) (c1.laid hq) (.tup upd_same (r1.up (same_upd gq)))
    · rw [if_neg hl] at p
      exact p.elim
end

/-! ### new lists -/
def PoL (K : KW) (mg : Str → Option Value) (W : WX) (B G0 G : Hp) (σ : L2.St) (env : DEnv) (Q : VK) : M (List D) → Prop
  | .ok ds => ∀ p vs H' G', Same G G' → Cn K B G0 G' σ H' env → H' p = none → Reps K G' vs ds → Q (.ref p) (upd H' p (.lst vs))
  | .ex c => PoX K mg W B G0 σ env c
  | .no => False
/-- an expression that gives a new list -/
def RdL (K : KW) (mg : Str → Option Value) (W : WX) (te : TE) (f : DEnv → M (List D)) : Prop :=
  ∀ B G0 G H σ env Q, Cn K B G0 G σ H env → PoL K mg W B G0 G σ env Q (f env) → te σ H Q
section
variable {K : KW} {mg : Str → Option Value} {W : WX} {ta tb te : TE} {f g : DEnv → M D}
theorem RdL.lst {tr : TA} {g : DEnv → M (List D)} (ha : RdA K mg W tr g) :
    RdL K mg W (tLst tr) (lLst g) := by
  intro B G0 G H σ env Q c p
  refine ha B G0 G H σ env _ c ?_
  cases e : g env with
  | no => simp [e, PoL] at p
  | ex n => simpa [e, PoL, PoA] using p
  | ok a =>
    intro v1 H1 G1 s1 c1 r1
    simp only [xOp, xUn, aNil, aCons, xCb, xTup, lLst, xL, tE, tNo, tBoth, tEither, xVar, e, M.bind] at p
    by_cases hl : a.length ≤ sizeLine
    · rw [if_pos hl] at p
      exact ⟨by rw [r1.length]; exact hl, fun q hq => p q v1 H1 G1 s1 c1 hq r1⟩
    · rw [if_neg hl] at p
      exact p.elim
/-- a new list as data -/
theorem RdL.dat {g : DEnv → M (List D)} (h : RdL K mg W te g) : RdE K mg W te (xL g) := by
  intro B G0 G H σ env Q c p
  refine h B G0 G H σ env _ c ?_
  cases e : g env with
  | no => simp [e, PoE] at p
  | ex n => simpa [e, PoE, PoL] using p
  | ok a =>
    intro q vs H1 G1 s1 c1 hq r1
    simp only [xOp, xUn, aNil, aCons, xCb, xTup, lLst, xL, tE, tNo, tBoth, tEither, xVar, e, M.bind] at p
    have gq := c1.exG.free hq
    exact p (.ref q) _ (upd G1 q (.lst vs)) (s1.trans (same_upd gq)) (c1.laid hq) (.lst upd_same (r1.up (same_upd gq)))
end

/-! ### the judgements -/
structure DE (X : Cx) (W : WX) (e : Expr) (f : DEnv → M D) : Prop where
  ex : ∃ te, PE X e te ∧ RdE (kw X) X.mg W te f
structure DT (X : Cx) (W : WX) (e : Expr) (f : DEnv → M Bool) : Prop where
  ex : ∃ te, PT X e te ∧ RdT (kw X) X.mg W te f
structure DW (X : Cx) (W : WX) (e : Expr) (f : DEnv → M Bool) : Prop where
  ex : ∃ te, PW X e te ∧ RdT (kw X) X.mg W te f
structure DA (X : Cx) (W : WX) (es : List Expr) (f : DEnv → M (List D)) : Prop where
  ex : ∃ ta, PA X es ta ∧ RdA (kw X) X.mg W ta f
structure DLs (X : Cx) (W : WX) (e : Expr) (f : DEnv → M (List D)) : Prop where
  ex : ∃ te, PE X e te ∧ RdL (kw X) X.mg W te f
structure OpX (X : Cx) (f : Value → Value → Sem Value) (h : D → D → Option D) : Prop where
  ex : ∃ r, OpR X f r ∧ OpD (kw X) r h
structure CbX (X : Cx) (f : Value) (h : List D → Option D) : Prop where
  ex : ∃ r, CallR X f r ∧ CbD (kw X) r h

section
variable {X : Cx} {W : WX} {a b e : Expr} {es : List Expr} {f g : DEnv → M D} {pos : Pos}
/-- a name of the def -/
theorem dv (i : Nat) {x : Str} {pos : Pos} (hN : X.N[i]? = some x := by rfl) (hv : Vis X.env.scope x := by first | exact Or.inl rfl | exact Or.inr (Or.inl rfl) | exact Or.inr (Or.inr rfl)) (hd : (x == ("__debug__" : Str)) = false := by decide)
    (hcd : (x == ("__classdict__" : Str)) = false := by decide) : DE X W (.Name x pos) (xVar i) := by
  refine ⟨_, pe_var hN hv hd hcd, ?_⟩
  intro B G0 G H σ env Q c p
  simp only [xOp, xUn, aNil, aCons, xCb, xTup, lLst, xL, tE, tNo, tBoth, tEither, xVar, celD] at p
  cases e : env[i]? with
  | none => simp [e, PoE] at p
  | some s =>
    cases s with
    | dat d =>
      rw [e] at p
      obtain ⟨o, e1, v, e2, r⟩ := c.cel i _ e
      subst e2
      exact ⟨v, e1, p v H G (Same.refl G) c r⟩
    | un => simp [e, PoE] at p
    | own _ => simp [e, PoE] at p
    | dic _ => simp [e, PoE] at p
    | fdc _ => simp [e, PoE] at p
    | exc _ => simp [e, PoE] at p
theorem DE.const {te : TE} {v : V} {d : D} (h : PE X e te) (ht : te = tC v) (r : ∀ G, Rep (kw X) G v d) : DE X W e (xC d) := by
  refine ⟨_, h, ?_⟩
  subst ht
  intro B G0 G H σ env Q c p
  exact p v H G (Same.refl G) c (r G)
theorem de_int {i : Int} {k : Nat} : DE X W (.Constant (.int i) k pos) (xC (.int i)) := .const pe_int rfl fun _ => .int i
theorem de_str {x : Str} {k : Nat} : DE X W (.Constant (.str x) k pos) (xC (.str x)) := .const pe_str rfl fun _ => .str x
theorem de_non {k : Nat} : DE X W (.Constant .none k pos) (xC .non) := .const pe_non rfl fun _ => .non
theorem de_bl {b : Bool} {k : Nat} : DE X W (.Constant (.bool b) k pos) (xC (.bl b)) := .const pe_bl rfl fun _ => .bl b
theorem de_globI {x : Str} {i : Int} {t : Tok} (hg : Gl X x) (hm : X.mg x = some (.int i t)) (hd : (x == ("__debug__" : Str)) = false := by decide) : DE X W (.Name x pos) (xC (.int i)) :=
  .const (pe_glob (v := .int i) hg hm ⟨t, rfl⟩ hd) rfl fun _ => .int i
theorem de_globS {x y : Str} {t : Tok} (hg : Gl X x) (hm : X.mg x = some (.str y t)) (hd : (x == ("__debug__" : Str)) = false := by decide) : DE X W (.Name x pos) (xC (.str y)) :=
  .const (pe_glob (v := .str y) hg hm ⟨t, rfl⟩ hd) rfl fun _ => .str y
theorem de_bin {op : Operator} {h : D → D → Option D} (ho : OpX X (binaryOp op) h) (ha : DE X W a f) (hb : DE X W b g) :
    DE X W (.BinOp a op b pos) (xOp h f g) := by
  obtain ⟨r, o1, o2⟩ := ho.ex
  obtain ⟨ta, a1, a2⟩ := ha.ex
  obtain ⟨tb, b1, b2⟩ := hb.ex
  exact ⟨_, pe_op o1 a1 b1, a2.op b2 o2⟩
theorem de_cmp {op : CmpOp} {h : D → D → Option D} (ho : OpX X (compareOp op) h) (ha : DE X W a f) (hb : DE X W b g) (hm : behindInMarks op b = false) :
    DE X W (.Compare a [op] [b] pos) (xOp h f g) := by
  obtain ⟨r, o1, o2⟩ := ho.ex
  obtain ⟨ta, a1, a2⟩ := ha.ex
  obtain ⟨tb, b1, b2⟩ := hb.ex
  exact ⟨_, pe_cmpR o1 a1 b1 hm, a2.op b2 o2⟩
theorem RdE.test {K : KW} {mg : Str → Option Value} {te : TE} (h : RdE K mg W te f) : RdT K mg W (tTest te) (tE f) := by
  intro B G0 G H σ env Q c p
  refine h B G0 G H σ env _ c ?_
  cases e : f env with
  | no => simp [e, PoT] at p
  | ex n => simpa [e, PoE, PoT] using p
  | ok d =>
    intro v H1 G1 s1 c1 r1
    simp only [xOp, xUn, aNil, aCons, xCb, xTup, lLst, xL, tE, tNo, tBoth, tEither, xVar, e, M.bind] at p
    cases d with
    | bl b =>
      cases r1
      exact ⟨b, rfl, p H1 G1 s1 c1⟩
    | non => exact p.elim
    | int _ => exact p.elim
    | str _ => exact p.elim
    | lst _ => exact p.elim
    | tup _ => exact p.elim
    | scr _ => exact p.elim
theorem dt_cmp {op : CmpOp} {h : D → D → Option D} (ho : OpX X (compareOp op) h) (ha : DE X W a f) (hb : DE X W b g) (hm : behindInMarks op b = false) :
    DT X W (.Compare a [op] [b] pos) (tE (xOp h f g)) := by
  obtain ⟨r, o1, o2⟩ := ho.ex
  obtain ⟨ta, a1, a2⟩ := ha.ex
  obtain ⟨tb, b1, b2⟩ := hb.ex
  exact ⟨_, pt_cmpR o1 a1 b1 hm, (a2.op b2 o2).test⟩
/-- any expression that gives True or False, as a test -/
theorem dt_val (ha : DE X W a f) (he : ∀ whole, isTrue a X.env whole = (do let v ← whole; standAt a.pos; holding [v] (truthy v)) := by intro _; rfl) : DT X W a (tE f) := by
  obtain ⟨ta, a1, a2⟩ := ha.ex
  exact ⟨_, pt_val a1 he, a2.test⟩
theorem dt_w {t : DEnv → M Bool} (h : DW X W e t) : DT X W e t := by
  obtain ⟨_, a1, a2⟩ := h.ex
  exact ⟨_, a1.pt, a2⟩
theorem dt_not {t : DEnv → M Bool} (h : DT X W a t) : DT X W (.UnaryOp .Not a pos) (tNo t) := by
  obtain ⟨_, a1, a2⟩ := h.ex
  refine ⟨_, pt_not a1, ?_⟩
  intro B G0 G H σ env Q c p
  refine a2 B G0 G H σ env _ c ?_
  cases e : t env with
  | no => simp [e, PoT] at p
  | ex n => simpa [e, PoT] using p
  | ok d =>
    simp only [xOp, xUn, aNil, aCons, xCb, xTup, lLst, xL, tE, tNo, tBoth, tEither, xVar, e, M.bind] at p
    exact p
theorem dw_and1 {t : DEnv → M Bool} (h : DT X W a t) : DW X W (.BoolOp .And [a] pos) t := by
  obtain ⟨_, a1, a2⟩ := h.ex
  exact ⟨_, pw_and1 a1, a2⟩
theorem dw_or1 {t : DEnv → M Bool} (h : DT X W a t) : DW X W (.BoolOp .Or [a] pos) t := by
  obtain ⟨_, a1, a2⟩ := h.ex
  exact ⟨_, pw_or1 a1, a2⟩
theorem dw_and {t u : DEnv → M Bool} {rest : List Expr} (h : DT X W a t) (hr : DW X W (.BoolOp .And (b :: rest) pos) u) : DW X W (.BoolOp .And (a :: b :: rest) pos) (tBoth t u) := by
  obtain ⟨_, a1, a2⟩ := h.ex
  obtain ⟨_, b1, b2⟩ := hr.ex
  refine ⟨_, pw_and a1 b1, ?_⟩
  intro B G0 G H σ env Q c p
  refine a2 B G0 G H σ env _ c ?_
  cases e : t env with
  | no => simp [e, PoT] at p
  | ex n => simpa [e, PoT] using p
  | ok d =>
    intro H1 G1 s1 c1
    simp only [xOp, xUn, aNil, aCons, xCb, xTup, lLst, xL, tE, tNo, tBoth, tEither, xVar, e, M.bind] at p
    cases d with
    | true =>
      refine iteT (b2 B G0 G1 H1 σ env _ c1 ?_)
      simp only [xOp, xUn, aNil, aCons, xCb, xTup, lLst, xL, tE, tNo, tBoth, tEither, xVar, if_true] at p
      cases e2 : u env with
      | no => simp [e2, PoT] at p
      | ex n => simpa [e2, PoT] using p
      | ok d =>
        rw [e2] at p
        exact fun H2 G2 s2 c2 => p H2 G2 (s1.trans s2) c2
    | false =>
      refine iteF ?_
      simp only [xOp, xUn, aNil, aCons, xCb, xTup, lLst, xL, tE, tNo, tBoth, tEither, xVar, Bool.false_eq_true, if_false] at p
      exact p H1 G1 s1 c1
theorem dw_or {t u : DEnv → M Bool} {rest : List Expr} (h : DT X W a t) (hr : DW X W (.BoolOp .Or (b :: rest) pos) u) : DW X W (.BoolOp .Or (a :: b :: rest) pos) (tEither t u) := by
  obtain ⟨_, a1, a2⟩ := h.ex
  obtain ⟨_, b1, b2⟩ := hr.ex
  refine ⟨_, pw_or a1 b1, ?_⟩
  intro B G0 G H σ env Q c p
  refine a2 B G0 G H σ env _ c ?_
  cases e : t env with
  | no => simp [e, PoT] at p
  | ex n => simpa [e, PoT] using p
  | ok d =>
    intro H1 G1 s1 c1
    simp only [xOp, xUn, aNil, aCons, xCb, xTup, lLst, xL, tE, tNo, tBoth, tEither, xVar, e, M.bind] at p
    cases d with
    | false =>
      refine iteF (b2 B G0 G1 H1 σ env _ c1 ?_)
      simp only [xOp, xUn, aNil, aCons, xCb, xTup, lLst, xL, tE, tNo, tBoth, tEither, xVar, Bool.false_eq_true, if_false] at p
      cases e2 : u env with
      | no => simp [e2, PoT] at p
      | ex n => simpa [e2, PoT] using p
      | ok d =>
        rw [e2] at p
        exact fun H2 G2 s2 c2 => p H2 G2 (s1.trans s2) c2
    | true =>
      refine iteT ?_
      simp only [xOp, xUn, aNil, aCons, xCb, xTup, lLst, xL, tE, tNo, tBoth, tEither, xVar, if_true] at p
      exact p H1 G1 s1 c1
theorem da_nil : DA X W [] aNil := ⟨_, pa_nil, RdA.nil⟩
theorem da_cons {g : DEnv → M (List D)} (ha : DE X W a f) (hb : DA X W es g) (hs : starEach (a :: es) X.env = (false, eval a X.env) :: starEach es X.env := by rfl) :
    DA X W (a :: es) (aCons f g) := by
  obtain ⟨_, a1, a2⟩ := ha.ex
  obtain ⟨_, b1, b2⟩ := hb.ex
  exact ⟨_, pa_cons a1 b1 hs, RdA.cons a2 b2⟩
theorem de_tup {g : DEnv → M (List D)} {x1} (ha : DA X W es g) : DE X W (.Tuple es x1 pos) (xTup g) := by
  obtain ⟨_, a1, a2⟩ := ha.ex
  exact ⟨_, pe_tup a1, RdE.tup a2⟩
theorem dl_lst {g : DEnv → M (List D)} (ha : DA X W es g) : DLs X W (.List es pos) (lLst g) := by
  obtain ⟨_, a1, a2⟩ := ha.ex
  exact ⟨_, pe_lst a1, RdL.lst a2⟩
theorem de_ofL {g : DEnv → M (List D)} (ha : DLs X W e g) : DE X W e (xL g) := by
  obtain ⟨_, a1, a2⟩ := ha.ex
  exact ⟨_, a1, RdL.dat a2⟩
theorem de_cb {id : String} {h : List D → Option D} {x : Str} {p : Pos} {g : DEnv → M (List D)} (hc : CbX X (.builtin id) h) (hg : Gl X x) (hm : X.mg x = none) (hv : bootBuiltins x = some (.builtin id)) (ha : DA X W (e :: es) g) (hn : x ≠ "__name__" := by decide) (hdb : (x == ("__debug__" : Str)) = false := by decide)
    (he : starEach (e :: es) X.env = (false, eval e X.env) :: starEach es X.env := by rfl) (hpl : (backTo pos (starEach es X.env)).any (·.1) = false := by rfl) :
    DE X W (.Call (.Name x p) (e :: es) [] pos) (xCb h g) := by
  obtain ⟨_, c1, c2⟩ := hc.ex
  obtain ⟨_, a1, a2⟩ := ha.ex
  exact ⟨_, pe_callB c1 hg hm hv a1 hn hdb he hpl, RdE.cb a2 c2⟩
theorem de_ct {T : String} {h : List D → Option D} {x : Str} {p : Pos} {g : DEnv → M (List D)} (hc : CbX X (.type T) h) (hg : Gl X x) (hm : X.mg x = none) (hv : bootBuiltins x = some (.type T)) (ha : DA X W (e :: es) g) (hn : x ≠ "__name__" := by decide) (hdb : (x == ("__debug__" : Str)) = false := by decide)
    (he : starEach (e :: es) X.env = (false, eval e X.env) :: starEach es X.env := by rfl) (hpl : (backTo pos (starEach es X.env)).any (·.1) = false := by rfl) :
    DE X W (.Call (.Name x p) (e :: es) [] pos) (xCb h g) := by
  obtain ⟨_, c1, c2⟩ := hc.ex
  obtain ⟨_, a1, a2⟩ := ha.ex
  exact ⟨_, pe_callTy c1 hg hm hv a1 hn hdb he hpl, RdE.cb a2 c2⟩
end
end DL

namespace DL
open PySem PySem.Spec PyProof.Rows L2

/-! ### statements -/
inductive DOut where
  | nx (env : DEnv) | rt (d : D) | bk (env : DEnv) | ct (env : DEnv) | ex (c : Str) (env : DEnv) | no
@[simp] def M.to {α : Type} (env : DEnv) (k : α → DOut) : M α → DOut
  | .ok a => k a
  | .ex c => .ex c env
  | .no => .no
@[simp] def DOut.then (u : DEnv → DOut) : DOut → DOut
  | .nx e => u e
  | .rt d => .rt d
  | .bk e => .bk e
  | .ct e => .ct e
  | .ex c e => .ex c e
  | .no => .no
abbrev DStm := DEnv → DOut
abbrev DTgt := D → DEnv → Option DEnv
@[simp] def sNext : DStm := fun env => .nx env
@[simp] def sSeq (a b : DStm) : DStm := fun env => (a env).then b
@[simp] def sIf (t : DEnv → M Bool) (a b : DStm) : DStm := fun env => (t env).to env fun c => if c = true then a env else b env
@[simp] def sRet (f : DEnv → M D) : DStm := fun env => (f env).to env fun d => .rt d
@[simp] def sRetN : DStm := fun _ => .rt .non
@[simp] def sExpr (f : DEnv → M D) : DStm := fun env => (f env).to env fun _ => .nx env
@[simp] def sCont : DStm := fun env => .ct env
@[simp] def sBreak : DStm := fun env => .bk env
@[simp] def sSet (i : Nat) (f : DEnv → M D) : DStm := fun env => (f env).to env fun d => .nx (env.set i (.dat d))
@[simp] def sOwn (i : Nat) (f : DEnv → M (List D)) : DStm := fun env => (f env).to env fun d => .nx (env.set i (.own d))
@[simp] def ofEnv : Option DEnv → DOut
  | some e => .nx e
  | none => .no
@[simp] def sAsg (tg : DTgt) (f : DEnv → M D) : DStm := fun env => (f env).to env fun d => ofEnv (tg d env)
@[simp] def gN (i : Nat) : DTgt := fun d env => some (env.set i (.dat d))
@[simp] def gsNil : List D → DEnv → Option DEnv
  | [], env => some env
  | _, _ => none
@[simp] def gsCons (t : DTgt) (u : List D → DEnv → Option DEnv) : List D → DEnv → Option DEnv
  | d :: ds, env => (t d env).bind (u ds)
  | [], _ => none
@[simp] def gT (u : List D → DEnv → Option DEnv) : DTgt := fun d env => match d with
  | .tup ds => u ds env
  | _ => none
def dLoop (tg : DTgt) (body : DStm) : List D → DEnv → DOut
  | [], env => .nx env
  | d :: ds, env => match tg d env with
    | none => .no
    | some e => match body e with
      | .nx e' => dLoop tg body ds e'
      | .ct e' => dLoop tg body ds e'
      | .bk e' => .nx e'
      | .rt d => .rt d
      | .ex c e => .ex c e
      | .no => .no
@[simp] def sFor (it : DEnv → M (List D)) (tg : DTgt) (body : DStm) : DStm := fun env => (it env).to env fun ds => dLoop tg body ds env
def dWhile (t : DEnv → M Bool) (body : DStm) : Nat → DEnv → DOut
  | 0, _ => .no
  | n + 1, env => match t env with
    | .no => .no
    | .ex c => .ex c env
    | .ok false => .nx env
    | .ok true => match body env with
      | .nx e' => dWhile t body n e'
      | .ct e' => dWhile t body n e'
      | .bk e' => .nx e'
      | .rt d => .rt d
      | .ex c e => .ex c e
      | .no => .no

def PoS (K : KW) (mg : Str → Option Value) (W : WX) (B G0 G : Hp) (E : Ends) : DOut → Prop
  | .nx e => ∀ σ H G', Same G G' → Cn K B G0 G' σ H e → E.nx σ H
  | .rt d => ∀ v σ H G' e, Same G G' → Cn K B G0 G' σ H e → Rep K G' v d → E.rt v H
  | .bk e => ∀ σ H G', Same G G' → Cn K B G0 G' σ H e → E.bk σ H
  | .ct e => ∀ σ H G', Same G G' → Cn K B G0 G' σ H e → E.ct σ H
  | .ex c e => ∀ cls σ H G', mg c = some cls → Cn K B G0 G' σ H e → W cls none σ H
  | .no => False
theorem PoS.up {K : KW} {mg : Str → Option Value} {W : WX} {B G0 G G1 : Hp} {E : Ends} {o : DOut} (s : Same G G1) (h : PoS K mg W B G0 G E o) : PoS K mg W B G0 G1 E o := by
  cases o with
  | nx e => exact fun σ H G' s' => h σ H G' (s.trans s')
  | rt d => exact fun v σ H G' e s' => h v σ H G' e (s.trans s')
  | bk e => exact fun σ H G' s' => h σ H G' (s.trans s')
  | ct e => exact fun σ H G' s' => h σ H G' (s.trans s')
  | ex c e => exact h
  | no => exact h
def RdS (K : KW) (mg : Str → Option Value) (W : WX) (ts : TS) (g : DStm) : Prop :=
  ∀ B G0 G H σ env E, Cn K B G0 G σ H env → PoS K mg W B G0 G E (g env) → ts E σ H
/-- σ' and e' are as σ and e but at the places is -/
def But (is : List Nat) (σ σ' : L2.St) (e e' : DEnv) : Prop := e'.length = e.length ∧ ∀ i, i ∉ is → e'[i]? = e[i]? ∧ σ'[i]? = σ[i]?
def RdG (K : KW) (is : List Nat) (g : TG) (h : DTgt) : Prop :=
  ∀ {B G0 G H : Hp} {σ : L2.St} {env e' : DEnv} {v : V} {d : D} {Q : L2.St → Hp → Prop}, Cn K B G0 G σ H env → Rep K G v d → h d env = some e' → (∀ σ' H' G', Same G G' → Cn K B G0 G' σ' H' e' → But is σ σ' env e' → Q σ' H') → g v σ H Q
def RdGs (K : KW) (is : List Nat) (g : TGs) (h : List D → DEnv → Option DEnv) : Prop :=
  ∀ {B G0 G H : Hp} {σ : L2.St} {env e' : DEnv} {vs : List V} {ds : List D} {Q : L2.St → Hp → Prop}, Cn K B G0 G σ H env → Reps K G vs ds → h ds env = some e' → (∀ σ' H' G', Same G G' → Cn K B G0 G' σ' H' e' → But is σ σ' env e' → Q σ' H') → g vs σ H Q
structure DS (X : Cx) (W : WX) (st : Stmt) (g : DStm) : Prop where
  ex : ∃ ts, PS X st ts ∧ RdS (kw X) X.mg W ts g
structure DSs (X : Cx) (W : WX) (st : List Stmt) (g : DStm) : Prop where
  ex : ∃ ts, PSs X st ts ∧ RdS (kw X) X.mg W ts g
structure DG (X : Cx) (is : List Nat) (tg : Expr) (h : DTgt) : Prop where
  ex : ∃ g, PG X tg g ∧ RdG (kw X) is g h
structure DGs (X : Cx) (is : List Nat) (tg : List Expr) (h : List D → DEnv → Option DEnv) : Prop where
  ex : ∃ g, PGs X tg g ∧ RdGs (kw X) is g h
section
variable {X : Cx} {W : WX} {st : Stmt} {rest : List Stmt} {a b : DStm} {e tg : Expr} {f : DEnv → M D} {pos : Pos}
theorem PoX.s {K : KW} {mg : Str → Option Value} {B G0 G : Hp} {σ : L2.St} {env : DEnv} {E : Ends} {c : Str} (p : PoS K mg W B G0 G E (.ex c env)) : PoX K mg W B G0 σ env c :=
  fun cls H' G' hm c' => p cls σ H' G' hm c'
theorem dss_nil : DSs X W [] sNext := ⟨_, pss_nil, fun B G0 G H σ env E c p => p σ H G (Same.refl G) c⟩
theorem dss_cons (h1 : DS X W st a) (h2 : DSs X W rest b) : DSs X W (st :: rest) (sSeq a b) := by
  obtain ⟨t, a1, a2⟩ := h1.ex
  obtain ⟨u, b1, b2⟩ := h2.ex
  refine ⟨_, pss_cons a1 b1, fun B G0 G H σ env E c p => ?_⟩
  refine a2 B G0 G H σ env _ c ?_
  simp only [sSeq] at p
  cases o : a env with
  | nx e =>
    rw [o] at p
    intro σ' H' G' s c'
    exact b2 B G0 G' H' σ' e E c' (p.up s)
  | rt d => rw [o] at p; exact p
  | bk e => rw [o] at p; exact p
  | ct e => rw [o] at p; exact p
  | ex n e => rw [o] at p; exact p
  | no => rw [o] at p; exact p
theorem dss_one (h1 : DS X W st a) : DSs X W [st] a := by
  obtain ⟨t, a1, a2⟩ := h1.ex
  refine ⟨_, pss_one a1, a2⟩
theorem ds_if {c : Expr} {t : DEnv → M Bool} {as bs : List Stmt} (hc : DT X W c t) (ha : DSs X W as a) (hb : DSs X W bs b) : DS X W (.If c as bs pos) (sIf t a b) := by
  obtain ⟨_, c1, c2⟩ := hc.ex
  obtain ⟨_, a1, a2⟩ := ha.ex
  obtain ⟨_, b1, b2⟩ := hb.ex
  refine ⟨_, ps_if c1 a1 b1, fun B G0 G H σ env E c p => ?_⟩
  refine c2 B G0 G H σ env _ c ?_
  simp only [sIf] at p
  cases o : t env with
  | no => rw [o] at p; exact p
  | ex n => rw [o] at p; exact PoX.s p
  | ok k =>
    rw [o] at p
    intro H1 G1 s1 c1
    cases k with
    | true => exact iteT (a2 B G0 G1 H1 σ env E c1 (PoS.up s1 p))
    | false => exact iteF (b2 B G0 G1 H1 σ env E c1 (PoS.up s1 p))
theorem ds_ret (h : DE X W e f) : DS X W (.Return (some e) pos) (sRet f) := by
  obtain ⟨_, a1, a2⟩ := h.ex
  refine ⟨_, ps_ret a1, fun B G0 G H σ env E c p => ?_⟩
  refine a2 B G0 G H σ env _ c ?_
  simp only [sRet] at p
  cases o : f env with
  | no => rw [o] at p; exact p
  | ex n => rw [o] at p; exact PoX.s p
  | ok d =>
    rw [o] at p
    exact fun v H1 G1 s1 c1 r1 => p v σ H1 G1 env s1 c1 r1
theorem ds_retN : DS X W (.Return none pos) sRetN := ⟨_, ps_retN, fun B G0 G H σ env E c p => p .non σ H G env (Same.refl G) c .non⟩
theorem ds_expr (h : DE X W e f) (hs : swapsWith e none pos.line X.env = pure false := by rfl) : DS X W (.Expr e pos) (sExpr f) := by
  obtain ⟨_, a1, a2⟩ := h.ex
  refine ⟨_, ps_expr a1 hs, fun B G0 G H σ env E c p => ?_⟩
  refine a2 B G0 G H σ env _ c ?_
  simp only [sExpr] at p
  cases o : f env with
  | no => rw [o] at p; exact p
  | ex n => rw [o] at p; exact PoX.s p
  | ok d =>
    rw [o] at p
    exact fun v H1 G1 s1 c1 r1 => p σ H1 G1 s1 c1
theorem ds_cont : DS X W (.Continue pos) sCont := ⟨_, ps_continue, fun B G0 G H σ env E c p => p σ H G (Same.refl G) c⟩
theorem ds_break : DS X W (.Break pos) sBreak := ⟨_, ps_break, fun B G0 G H σ env E c p => p σ H G (Same.refl G) c⟩
theorem ds_pass : DS X W (.Pass pos) sNext := ⟨_, ps_pass, fun B G0 G H σ env E c p => p σ H G (Same.refl G) c⟩
/-- x = e -/
theorem ds_set (i : Nat) {x : Str} {pos' : Pos} (hN : X.N.Nodup) (h : DE X W e f) (hi : X.N[i]? = some x := by rfl) (hx : Loc X.env.scope x := by first | exact .inl rfl | exact .inr rfl) (hs : swapsWith e (some (.Name x pos')) pos.line X.env = pure false := by rfl) (hf : X.fn x = true ∨ X.env.scope.names.lookup x = some .local := by first | exact .inl rfl | exact .inr rfl) :
    DS X W (.Assign [.Name x pos'] e pos) (sSet i f) := by
  obtain ⟨_, a1, a2⟩ := h.ex
  refine ⟨_, ps_set (i := i) hN hi hx a1 hs hf, fun B G0 G H σ env E c p => ?_⟩
  refine a2 B G0 G H σ env _ c ?_
  simp only [sSet] at p
  cases o : f env with
  | no => rw [o] at p; exact p
  | ex n => rw [o] at p; exact PoX.s p
  | ok d =>
    rw [o] at p
    exact fun v H1 G1 s1 c1 r1 => p _ H1 G1 s1 (c1.set i r1)
theorem dg_name (i : Nat) {x : Str} {pos : Pos} (hN : X.N.Nodup) (hi : X.N[i]? = some x := by rfl) (hx : Loc X.env.scope x := by first | exact .inl rfl | exact .inr rfl) (hf : X.fn x = true ∨ X.env.scope.names.lookup x = some .local := by first | exact .inl rfl | exact .inr rfl) : DG X [i] (.Name x pos) (gN i) := by
  refine ⟨_, pg_name (i := i) hN hi hx hf, ?_⟩
  intro B G0 G H σ env e' v d Q c r h q
  simp only [gN, Option.some.injEq] at h
  subst h
  exact q _ H G (Same.refl G) (c.set i r) ⟨by simp, fun j hj => by
    have ne : i ≠ j := fun z => hj (by simp [z])
    rw [List.getElem?_set_ne ne, List.getElem?_set_ne ne]
    exact ⟨rfl, rfl⟩⟩
theorem dgs_nil : DGs X [] [] gsNil := by
  refine ⟨_, pgs_nil, ?_⟩
  intro B G0 G H σ env e' vs ds Q c r h q
  cases r with
  | nil =>
    simp only [gsNil, Option.some.injEq] at h
    subst h
    exact ⟨rfl, q σ H G (Same.refl G) c ⟨rfl, fun _ _ => ⟨rfl, rfl⟩⟩⟩
  | cons _ _ => simp [gsNil] at h
theorem dgs_cons {t : DTgt} {u : List D → DEnv → Option DEnv} {ts : List Expr} {is js : List Nat} (h1 : DG X is tg t) (h2 : DGs X js ts u) (ha : (assignEach (tg :: ts) X.env).map (fun x => x.2) = assign tg X.env :: (assignEach ts X.env).map (fun x => x.2) := by rfl) : DGs X (is ++ js) (tg :: ts) (gsCons t u) := by
  obtain ⟨g, a1, a2⟩ := h1.ex
  obtain ⟨gs, b1, b2⟩ := h2.ex
  refine ⟨_, pgs_cons a1 b1 ha, ?_⟩
  intro B G0 G H σ env e' vs ds Q c r h q
  cases r with
  | nil => simp [gsCons] at h
  | @cons v vs d ds r1 r2 =>
    simp only [gsCons] at h
    cases k : t d env with
    | none => rw [k] at h; cases h
    | some e1 =>
      rw [k] at h
      exact ⟨v, vs, rfl, a2 c r1 k fun σ1 H1 G1 s1 c1 u1 => b2 c1 (r2.up s1) h fun σ2 H2 G2 s2 c2 u2 => q σ2 H2 G2 (s1.trans s2) c2 ⟨u2.1.trans u1.1, fun i hi => by
        have h1 : i ∉ is := fun z => hi (List.mem_append_left _ z)
        have h2 : i ∉ js := fun z => hi (List.mem_append_right _ z)
        exact ⟨(u2.2 i h2).1.trans (u1.2 i h1).1, (u2.2 i h2).2.trans (u1.2 i h1).2⟩⟩⟩
theorem gsNil_len : ∀ {ds : List D} {env e' : DEnv}, gsNil ds env = some e' → ds.length = 0
  | [], _, _, _ => rfl
theorem dg_tup {es : List Expr} {k : Nat} {u : List D → DEnv → Option DEnv} {n : Nat} {is : List Nat} (hc : X.calm = true) (h : DGs X is es u) (hl : ∀ ds env e', u ds env = some e' → ds.length = n)
    (hn : (assignEach es X.env).length = n := by rfl) (hst : (assignEach es X.env).findIdx? (·.1) = none := by rfl) : DG X is (.Tuple es k pos) (gT u) := by
  obtain ⟨gs, b1, b2⟩ := h.ex
  refine ⟨_, pg_tup hc b1 hn hst, ?_⟩
  intro B G0 G H σ env e' v d Q c r h q
  cases d with
  | tup ds =>
    simp only [gT] at h
    cases r with
    | tup g1 g2 => exact ⟨_, _, rfl, .inl (.inl (c.exG _ _ g1)), by rw [g2.length]; exact hl _ _ _ h, b2 c g2 h q⟩
  | non => simp [gT] at h
  | bl _ => simp [gT] at h
  | int _ => simp [gT] at h
  | str _ => simp [gT] at h
  | lst _ => simp [gT] at h
  | scr _ => simp [gT] at h
theorem ds_asg {t : DTgt} {is : List Nat} (ht : DG X is tg t) (h : DE X W e f) (hs : swapsWithSole [tg] e pos.line X.env = pure false := by rfl) (hw : swappedStores [tg] e X.env = pure none := by rfl)
    (h1 : (assignEach [tg] X.env).map (·.2) = [assign tg X.env] := by rfl) : DS X W (.Assign [tg] e pos) (sAsg t f) := by
  obtain ⟨_, a1, a2⟩ := h.ex
  obtain ⟨g, b1, b2⟩ := ht.ex
  refine ⟨_, ps_asg a1 b1 hs hw h1, fun B G0 G H σ env E c p => ?_⟩
  refine a2 B G0 G H σ env _ c ?_
  simp only [sAsg] at p
  cases o : f env with
  | no => rw [o] at p; exact p
  | ex n => rw [o] at p; exact PoX.s p
  | ok d =>
    rw [o] at p
    intro v H1 G1 s1 c1 r1
    cases k : t d env with
    | none => simp [k, PoS] at p
    | some e1 =>
      simp only [k, M.to, ofEnv] at p
      exact b2 c1 r1 k fun σ2 H2 G2 s2 c2 _ => p σ2 H2 G2 (s1.trans s2) c2
end

/-! ### what a loop walks -/
def JOk (K : KW) (J : It) (G1 : Hp) (ds : List D) : Prop :=
  ∀ (B G0 G : Hp) (σ : L2.St) (H : Hp) (env : DEnv) (i : Nat), Same G1 G → Cn K B G0 G σ H env →
    (∀ d, ds[i]? = some d → J.go i H ∧ ∀ x H', J.yld i H x H' → ∃ G', Same G G' ∧ Cn K B G0 G' σ H' env ∧ Rep K G' x d) ∧ (ds.length ≤ i → J.stop i H)
def PoI (K : KW) (mg : Str → Option Value) (W : WX) (B G0 G : Hp) (σ : L2.St) (env : DEnv) (R : It → Hp → Prop) : M (List D) → Prop
  | .ok ds => ∀ J H1 G1, Same G G1 → Cn K B G0 G1 σ H1 env → JOk K J G1 ds → R J H1
  | .ex c => PoX K mg W B G0 σ env c
  | .no => False
def RdI (K : KW) (mg : Str → Option Value) (W : WX) (wi : TI) (f : DEnv → M (List D)) : Prop :=
  ∀ B G0 G H σ env R, Cn K B G0 G σ H env → PoI K mg W B G0 G σ env R (f env) → wi σ H R
structure DI (X : Cx) (W : WX) (tg it : Expr) (f : DEnv → M (List D)) : Prop where
  ex : ∃ wi, PI X tg it wi ∧ RdI (kw X) X.mg W wi f
section
variable {X : Cx} {W : WX} {st : Stmt} {a b : DStm} {e tg iter : Expr} {f : DEnv → M D} {pos : Pos} {body : List Stmt}
theorem ds_for {it : DEnv → M (List D)} {t : DTgt} {is : List Nat} (hp : PassesOwn (model X.prog X.w) X.A X.env X.xe) (hc : X.calm = true) (hi : DI X W tg iter it) (hg : DG X is tg t) (hb : DSs X W body a)
    (hs : ∀ x, foldedSetIterable iter X.env x = pure x := by intro _; rfl) : DS X W (.For tg iter body [] pos) (sFor it t a) := by
  obtain ⟨wi, i1, i2⟩ := hi.ex
  obtain ⟨g, g1, g2⟩ := hg.ex
  obtain ⟨tb, b1, b2⟩ := hb.ex
  refine ⟨_, ps_for hp hc i1 g1 b1 hs, fun B G0 G H σ env E c p => ?_⟩
  refine i2 B G0 G H σ env _ c ?_
  simp only [sFor] at p
  cases o : it env with
  | no => rw [o] at p; exact p
  | ex n => rw [o] at p; exact PoX.s p
  | ok ds =>
    rw [o] at p
    intro J H1 G1 s1 c1 jok
    have p : PoS (kw X) X.mg W B G0 G1 E (dLoop t a ds env) := PoS.up s1 p
    refine ⟨fun i m σ H => m = ds.length - i ∧ ∃ env G, Same G1 G ∧ Cn (kw X) B G0 G σ H env ∧ PoS (kw X) X.mg W B G0 G E (dLoop t a (ds.drop i) env), ⟨ds.length, rfl, env, G1, Same.refl _, c1, by rw [List.drop_zero]; exact p⟩, ?_⟩
    rintro i m σ2 H2 ⟨rfl, env2, G2, s2, c2, p2⟩
    obtain ⟨j1, j2⟩ := jok B G0 G2 σ2 H2 env2 i s2 c2
    by_cases hi : i < ds.length
    · have hd : ds[i]? = some ds[i] := List.getElem?_eq_getElem hi
      obtain ⟨go, yl⟩ := j1 _ hd
      rw [List.drop_eq_getElem_cons hi] at p2
      unfold dLoop at p2
      refine .inr ⟨go, fun σ' H' => ∃ env G, Same G1 G ∧ Cn (kw X) B G0 G σ' H' env ∧ PoS (kw X) X.mg W B G0 G E (dLoop t a (ds.drop (i + 1)) env), fun σ' H' ⟨env', G', x1, x2, x3⟩ => ⟨ds.length - (i + 1), by omega, rfl, env', G', x1, x2, x3⟩, fun x H' y => ?_⟩
      obtain ⟨G3, s3, c3, r3⟩ := yl x H' y
      cases k : t ds[i] env2 with
      | none => simp [k, PoS] at p2
      | some e1 =>
        rw [k] at p2
        refine g2 c3 r3 k fun σ4 H4 G4 s4 c4 _ => ?_
        refine b2 B G0 G4 H4 σ4 e1 _ c4 ?_
        have p2 : PoS (kw X) X.mg W B G0 G4 E (match a e1 with
          | .nx e' => dLoop t a (ds.drop (i + 1)) e'
          | .ct e' => dLoop t a (ds.drop (i + 1)) e'
          | .bk e' => .nx e'
          | .rt d => .rt d
          | .ex c e => .ex c e
          | .no => .no) := PoS.up (s3.trans s4) p2
        cases q : a e1 with
        | nx e' =>
          rw [q] at p2
          exact fun σ5 H5 G5 s5 c5 => ⟨e', G5, ((s2.trans s3).trans s4).trans s5, c5, PoS.up s5 p2⟩
        | ct e' =>
          rw [q] at p2
          exact fun σ5 H5 G5 s5 c5 => ⟨e', G5, ((s2.trans s3).trans s4).trans s5, c5, PoS.up s5 p2⟩
        | bk e' => rw [q] at p2; exact p2
        | rt d => rw [q] at p2; exact p2
        | ex n e => rw [q] at p2; exact p2
        | no => rw [q] at p2; exact p2
    · refine .inl ⟨j2 (by omega), ?_⟩
      rw [List.drop_of_length_le (by omega)] at p2
      exact p2 σ2 H2 G2 (Same.refl _) c2
theorem ds_while (n : Nat) {c : Expr} {t : DEnv → M Bool} (hp : PassesOwn (model X.prog X.w) X.A X.env X.xe) (hc : DT X W c t) (hb : DSs X W body a) : DS X W (.While c body [] pos) (dWhile t a n) := by
  obtain ⟨tc, c1, c2⟩ := hc.ex
  obtain ⟨tb, b1, b2⟩ := hb.ex
  refine ⟨_, ps_while hp c1 b1, fun B G0 G H σ env E c p => ?_⟩
  refine ⟨fun m σ H => ∃ env G, Cn (kw X) B G0 G σ H env ∧ PoS (kw X) X.mg W B G0 G E (dWhile t a m env), ⟨n, env, G, c, p⟩, ?_⟩
  rintro m σ1 H1 ⟨env1, G1, c1, p1⟩
  cases m with
  | zero => exact (show False from p1).elim
  | succ m =>
    unfold dWhile at p1
    refine c2 B G0 G1 H1 σ1 env1 _ c1 ?_
    cases o : t env1 with
    | no => rw [o] at p1; exact p1
    | ex k => rw [o] at p1; exact PoX.s p1
    | ok k =>
      rw [o] at p1
      intro H2 G2 s2 c2
      cases k with
      | false => exact iteF (p1 σ1 H2 G2 s2 c2)
      | true =>
        refine iteT ⟨fun σ' H' => ∃ env G, Cn (kw X) B G0 G σ' H' env ∧ PoS (kw X) X.mg W B G0 G E (dWhile t a m env), fun σ' H' x => ⟨m, Nat.lt_succ_self m, x⟩, ?_⟩
        refine b2 B G0 G2 H2 σ1 env1 _ c2 ?_
        have p2 : PoS (kw X) X.mg W B G0 G2 E (match a env1 with
          | .nx e' => dWhile t a m e'
          | .ct e' => dWhile t a m e'
          | .bk e' => .nx e'
          | .rt d => .rt d
          | .ex c e => .ex c e
          | .no => .no) := PoS.up s2 p1
        cases q : a env1 with
        | nx e' => rw [q] at p2; exact fun σ5 H5 G5 s5 c5 => ⟨e', G5, c5, PoS.up s5 p2⟩
        | ct e' => rw [q] at p2; exact fun σ5 H5 G5 s5 c5 => ⟨e', G5, c5, PoS.up s5 p2⟩
        | bk e' => rw [q] at p2; exact p2
        | rt d => rw [q] at p2; exact p2
        | ex n e => rw [q] at p2; exact p2
        | no => rw [q] at p2; exact p2
end
end DL

namespace DL
open PySem PySem.Spec PyProof.Rows L2

/-! ### defs -/
def PoF (mg : Str → Option Value) (K : KW) (G H : Hp) (Q : VK) (E : XK) : M D → Prop
  | .ok d => ∀ v H' G', Same G G' → Same G' H' → Same H H' → (∀ a, G' a ≠ none → G a ≠ none ∨ H a = none) → Rep K G' v d → Q v H'
  | .ex c => ∀ cls H', mg c = some cls → Same H H' → E cls none H'
  | .no => False
/-- a def's promise by a function of data: n arguments -/
def spD (K : KW) (mg : Str → Option Value) (n : Nat) (g : List D → M D) : Sp := fun vs H Q E => vs.length = n ∧ ∃ G ds, Same G H ∧ Reps K G vs ds ∧ PoF mg K G H Q E (g ds)
@[simp] def fnRes : DOut → M D
  | .nx _ => .ok .non
  | .rt d => .ok d
  | .ex c _ => .ex c
  | _ => .no
@[simp] def ini (n : Nat) (ds : List D) : DEnv := ds.map .dat ++ List.replicate (n - ds.length) .un
@[simp] def fnD (n : Nat) (g : DStm) (ds : List D) : M D := fnRes (g (ini n ds))
theorem cn_start {K : KW} {G H : Hp} {N : List Str} {vs : List V} {ds : List D} (e : Same G H) (r : Reps K G vs ds) : Cn K H G G (start N vs) H (ini N.length ds) where
  len := by
    simp only [L2.start, ini, List.length_append, List.length_map, List.length_replicate, r.length]
  exB := Same.refl H
  exG := e
  ex0 := Same.refl G
  new := fun a h => .inl h
  cel := fun i s hs => by
    simp only [ini] at hs
    by_cases h : i < ds.length
    · rw [List.getElem?_append_left (by simpa using h), List.getElem?_map, List.getElem?_eq_getElem h] at hs
      simp only [Option.map_some, Option.some.injEq] at hs
      subst hs
      obtain ⟨v, e1, r1⟩ := r.get (List.getElem?_eq_getElem h)
      refine ⟨some v, ?_, v, rfl, r1⟩
      unfold L2.start
      rw [List.getElem?_append_left (by rw [List.length_map, r.length]; exact h), List.getElem?_map, e1]
      rfl
    · rw [List.getElem?_append_right (by simpa using h), List.getElem?_replicate] at hs
      split at hs
      · rename_i h2
        simp only [Option.some.injEq] at hs
        subst hs
        refine ⟨none, ?_, trivial⟩
        unfold L2.start
        have hl := r.length
        rw [List.getElem?_append_right (by rw [List.length_map]; omega), List.getElem?_replicate, List.length_map, if_pos (by simp at h2; omega)]
      · cases hs
  sep := fun i j s t p ne e1 e2 o1 o2 q => by
    simp only [ini] at e1
    by_cases h : i < ds.length
    · rw [List.getElem?_append_left (by simpa using h), List.getElem?_map, List.getElem?_eq_getElem h] at e1
      simp only [Option.map_some, Option.some.injEq] at e1
      subst e1
      exact o1.elim
    · rw [List.getElem?_append_right (by simpa using h), List.getElem?_replicate] at e1
      split at e1
      · simp only [Option.some.injEq] at e1
        subst e1
        exact o1.elim
      · cases e1
section
variable (P : Program) (w : World) (K : PySem.W.Frag) (mg : Str → Option Value) (base : Heap)
/-- the def that the module's name x holds does what g tells -/
structure DFn (k : Nat) (x : Str) (n : Nat) (g : List D → M D) : Prop where
  ex : ∃ f fd ps, FnOk P w K mg base (L2.CX P w) k f fd ps (spD ⟨K, w⟩ mg n g) ∧ mg x = some (.ref f) ∧ PySem.W.keepIn K (.ref f) = true ∧ Binds K fd ps []
end
section
variable {P : Program} {w : World} {K : PySem.W.Frag} {mg : Str → Option Value} {base : Heap}
abbrev wOf (E : XK) : WX := fun cls d _ H => E cls d H
theorem fun_okD {x qual : Str} {st : Stmt} {f : Addr} {fd : FuncData} {N ps : List Str} {k n : Nat} {g : DStm} (F : Fun K x qual st f fd) (S : FnScope N ps (defScope st)) (hn : ps.length = n)
    (hbody : ∀ (cdv : Value) (A : Around) (outer : List Env) (s : Shared) (H : Hp) (E : XK), Room k (A.deeper (envOfC qual (defScope st) s.heap.objs.size f cdv)) →
      Takes (cxOf (L2.CX P w) P w K mg base N qual (defScope st) f cdv A outer s H E) (wOf E) →
      PassesOwn (model P w) (cxOf (L2.CX P w) P w K mg base N qual (defScope st) f cdv A outer s H E).A (cxOf (L2.CX P w) P w K mg base N qual (defScope st) f cdv A outer s H E).env (cxOf (L2.CX P w) P w K mg base N qual (defScope st) f cdv A outer s H E).xe →
      DSs (cxOf (L2.CX P w) P w K mg base N qual (defScope st) f cdv A outer s H E) (wOf E) (defBody st) g) :
    FnOk P w K mg base (L2.CX P w) (k + 1) f fd ps (spD ⟨K, w⟩ mg n (fnD N.length g)) := by
  refine F.okX S (fun vs H Q E h => h.1.trans hn.symm) (fun cdv A outer s H vs Q E hr h => ?_)
  obtain ⟨hl, G, ds, sG, r, p⟩ := h
  obtain ⟨ts, h1, h2⟩ := (hbody cdv A outer s H E hr (takes_of rfl rfl rfl rfl) (passes_of rfl)).ex
  refine ⟨ts, h1, h2 H G G H _ _ _ (cn_start sG r) ?_⟩
  simp only [fnD] at p
  cases o : g (ini N.length ds) with
  | nx e =>
    rw [o] at p
    intro σ' H' G' s' c'
    exact p .non H' G' s' c'.exG c'.exB (fun a h => c'.new a h) .non
  | rt d =>
    rw [o] at p
    intro v σ' H' G' e' s' c' r'
    exact p v H' G' s' c'.exG c'.exB (fun a h => c'.new a h) r'
  | ex c e =>
    rw [o] at p
    intro cls σ' H' G' hm c'
    exact p cls H' hm c'.exB
  | bk e => rw [o] at p; exact p.elim
  | ct e => rw [o] at p; exact p.elim
  | no => rw [o] at p; exact p.elim
theorem DFn.mk' {x qual : Str} {st : Stmt} {f : Addr} {fd : FuncData} {N ps : List Str} {k n : Nat} {g : DStm} (F : Fun K x qual st f fd) (S : FnScope N ps (defScope st)) (hn : ps.length = n) (hx : mg x = some (.ref f))
    (hb : ∀ (kV doc pm : Value) (an : Option Addr) (cdv ct : Value) (us : List Value), us.length = ps.length → bindArgs (PySem.W.fnOf x qual (defArgs st) (defBody st) (defScope st) .none kV doc pm an cdv ct) ⟨us, []⟩ = pure (ps.zip us))
    (hbody : ∀ (cdv : Value) (A : Around) (outer : List Env) (s : Shared) (H : Hp) (E : XK), Room k (A.deeper (envOfC qual (defScope st) s.heap.objs.size f cdv)) →
      Takes (cxOf (L2.CX P w) P w K mg base N qual (defScope st) f cdv A outer s H E) (wOf E) →
      PassesOwn (model P w) (cxOf (L2.CX P w) P w K mg base N qual (defScope st) f cdv A outer s H E).A (cxOf (L2.CX P w) P w K mg base N qual (defScope st) f cdv A outer s H E).env (cxOf (L2.CX P w) P w K mg base N qual (defScope st) f cdv A outer s H E).xe →
      DSs (cxOf (L2.CX P w) P w K mg base N qual (defScope st) f cdv A outer s H E) (wOf E) (defBody st) g) :
    DFn P w K mg base (k + 1) x n (fnD N.length g) :=
  ⟨f, fd, ps, fun_okD F S hn hbody, hx, F.kp, F.binds hb⟩
theorem DFn.eq {k n : Nat} {x : Str} {g g' : List D → M D} (h : DFn P w K mg base k x n g) (e : ∀ ds, g ds = g' ds) : DFn P w K mg base k x n g' := by
  have : g = g' := funext e
  subst this
  exact h
end
@[simp] def xCall (n : Nat) (g : List D → M D) (ga : DEnv → M (List D)) (env : DEnv) : M D := (ga env).bind fun ds => if ds.length = n then g ds else .no
section
variable {X : Cx} {W : WX} {e : Expr} {es : List Expr} {pos p : Pos}
theorem de_call {k j n : Nat} {x : Str} {g : List D → M D} {ga : DEnv → M (List D)} (F : DFn X.prog X.w X.K X.mg X.base k x n g) (hr : Room j X.A) (hj : k ≤ j) (tk : Takes X W) (ha : DA X W (e :: es) ga)
    (hg : Gl X x := by rfl) (hdb : (x == ("__debug__" : Str)) = false := by decide) (he : starEach (e :: es) X.env = (false, eval e X.env) :: starEach es X.env := by rfl) (hpl : (backTo pos (starEach es X.env)).any (·.1) = false := by rfl) :
    DE X W (.Call (.Name x p) (e :: es) [] pos) (xCall n g ga) := by
  obtain ⟨f, fd, ps, F1, F2, F3, F4⟩ := F.ex
  obtain ⟨_, a1, a2⟩ := ha.ex
  refine ⟨_, pe_callS F1 (hr.mono hj) hg F2 F3 F4 (fun σ => passAt tk σ) a1 hdb he hpl, ?_⟩
  intro B G0 G H σ env Q c po
  refine a2 B G0 G H σ env _ c ?_
  simp only [xCall] at po
  cases o : ga env with
  | no => rw [o] at po; exact po
  | ex m => rw [o] at po; exact po
  | ok ds =>
    intro vs H1 G1 s1 c1 r1
    simp only [o, M.bind] at po
    by_cases hl : ds.length = n
    · rw [if_pos hl] at po
      refine ⟨r1.length.trans hl, G1, ds, c1.exG, r1, ?_⟩
      cases q : g ds with
      | ok d =>
        rw [q] at po
        intro v H' G' s2 gh hh nw r
        exact po v H' G' (s1.trans s2) (c1.grow s2 hh gh nw) r
      | ex m =>
        rw [q] at po
        intro cls H' hm hh
        exact po cls H' G1 hm (c1.grow (Same.refl _) hh (c1.exG.trans hh) fun a z => .inl z)
      | no => rw [q] at po; exact po
    · rw [if_neg hl] at po
      exact po.elim
end

/-! ### sources of loops -/
def itemsD : D → M (List D)
  | .lst ds => .ok ds
  | .tup ds => .ok ds
  | .scr ns => .ok (ns.map D.int)
  | .str s => .ok (s.cps.toList.map fun c => D.str ⟨#[c]⟩)
  | _ => .no
@[simp] theorem items_lst (ds : List D) : itemsD (.lst ds) = .ok ds := rfl
@[simp] theorem items_tup (ds : List D) : itemsD (.tup ds) = .ok ds := rfl
@[simp] theorem items_scr (ns : List Int) : itemsD (.scr ns) = .ok (ns.map D.int) := rfl
@[simp] def iAny (f : DEnv → M D) (env : DEnv) : M (List D) := (f env).bind itemsD
theorem inB_ex : ∃ f : Int → Bool, ∀ j, f j = true ↔ (-(2 ^ 62) ≤ j ∧ j < 2 ^ 62) := ⟨fun j => decide (-(2 ^ 62) ≤ j ∧ j < 2 ^ 62), fun j => by simp⟩
/-- a bound that nothing unfolds -/
noncomputable def inB : Int → Bool := Classical.choose inB_ex
theorem inB_iff (j : Int) : inB j = true ↔ (-(2 ^ 62) ≤ j ∧ j < 2 ^ 62) := Classical.choose_spec inB_ex j
theorem inB_small {j : Int} (h0 : -1000000 ≤ j) (h : j ≤ 1000000) : inB j = true := (inB_iff j).mpr ⟨by omega, by omega⟩
noncomputable def rng1D : List D → Option (List D)
  | [.int j] => if inB j = true then some ((List.range j.toNat).map fun (m : Nat) => D.int (m : Int)) else none
  | _ => none
noncomputable def rng2D : List D → Option (List D)
  | [.int i, .int j] => if inB i = true ∧ inB j = true then some ((List.range (j - i).toNat).map fun (m : Nat) => D.int (i + (m : Int))) else none
  | _ => none
theorem rng1D_inv {ds its : List D} (h : rng1D ds = some its) : ∃ j, ds = [.int j] ∧ -(2 ^ 62) ≤ j ∧ j < 2 ^ 62 ∧ its = (List.range j.toNat).map fun (m : Nat) => D.int (m : Int) := by
  unfold rng1D at h
  split at h
  · split at h
    · rename_i h1
      obtain ⟨h1, h2⟩ := (inB_iff _).mp h1
      exact ⟨_, rfl, h1, h2, (Option.some.inj h).symm⟩
    · cases h
  · cases h
theorem rng2D_inv {ds its : List D} (h : rng2D ds = some its) : ∃ i j, ds = [.int i, .int j] ∧ (-(2 ^ 62) ≤ i ∧ i < 2 ^ 62 ∧ -(2 ^ 62) ≤ j ∧ j < 2 ^ 62) ∧ its = (List.range (j - i).toNat).map fun (m : Nat) => D.int (i + (m : Int)) := by
  unfold rng2D at h
  split at h
  · split at h
    · rename_i h1
      obtain ⟨h2, h3⟩ := (inB_iff _).mp h1.1
      obtain ⟨h4, h5⟩ := (inB_iff _).mp h1.2
      exact ⟨_, _, rfl, ⟨h2, h3, h4, h5⟩, (Option.some.inj h).symm⟩
    · cases h
  · cases h
@[simp] def iRng (r : List D → Option (List D)) (g : DEnv → M (List D)) (env : DEnv) : M (List D) := (g env).bind fun ds => .of (r ds)
section
variable {K : KW} {G1 : Hp}
theorem jok_list {a : Addr} {vs : List V} {ds : List D} (ga : SqL K.k G1 a vs) (r : Reps K G1 vs ds) : JOk K (Itl K.k a) G1 ds := by
  intro B G0 G σ H env i s c
  have hs : SqL K.k H a vs := (s.trans c.exG).seq ga
  refine ⟨fun d hd => ?_, fun hi => ⟨vs, hs, by rw [r.length]; exact hi⟩⟩
  obtain ⟨v, hv, rv⟩ := r.get hd
  refine ⟨⟨vs, v, hs, hv⟩, fun x H' y => ?_⟩
  obtain ⟨rfl, y⟩ := y
  have : v = x := Option.some.inj (hv.symm.trans (y vs hs))
  subst this
  exact ⟨G, Same.refl G, c, rv.up s⟩
theorem jok_tup {a : Addr} {vs : List V} {ds : List D} (ga : G1 a = some (.tup vs)) (r : Reps K G1 vs ds) : JOk K (Itt K.k a) G1 ds := by
  intro B G0 G σ H env i s c
  have hs : SqT K.k H a vs := .inl (.inl ((s.trans c.exG) _ _ ga))
  refine ⟨fun d hd => ?_, fun hi => ⟨vs, hs, by rw [r.length]; exact hi⟩⟩
  obtain ⟨v, hv, rv⟩ := r.get hd
  refine ⟨⟨vs, v, hs, hv⟩, fun x H' y => ?_⟩
  obtain ⟨rfl, y⟩ := y
  have : v = x := Option.some.inj (hv.symm.trans (y vs hs))
  subst this
  exact ⟨G, Same.refl G, c, rv.up s⟩
theorem jok_str {s : Str} : JOk K (Its s) G1 (s.cps.toList.map fun c => D.str ⟨#[c]⟩) := by
  intro B G0 G σ H env i _ c
  refine ⟨fun d hd => ?_, fun hi => by
    show s.cps.size ≤ i
    simpa using hi⟩
  have hi : i < s.cps.size := by
    have := (List.getElem?_eq_some_iff.mp hd).1
    simpa using this
  refine ⟨hi, fun x H' y => ?_⟩
  obtain ⟨rfl, k, hk, rfl⟩ := y
  refine ⟨G, Same.refl G, c, ?_⟩
  rw [List.getElem?_map, Array.getElem?_toList, hk] at hd
  simp only [Option.map_some, Option.some.injEq] at hd
  subst hd
  exact .str _
theorem jok_rng {lo : Int} {n : Nat} : JOk K (Itr lo n) G1 ((List.range n).map fun (m : Nat) => D.int (lo + (m : Int))) := by
  intro B G0 G σ H env i _ c
  refine ⟨fun d hd => ?_, fun hi => by
    show n ≤ i
    simpa using hi⟩
  have hi : i < n := by
    have := (List.getElem?_eq_some_iff.mp hd).1
    simpa using this
  refine ⟨hi, fun x H' y => ?_⟩
  obtain ⟨rfl, rfl⟩ := y
  refine ⟨G, Same.refl G, c, ?_⟩
  rw [List.getElem?_map, List.getElem?_range hi] at hd
  simp only [Option.map_some, Option.some.injEq] at hd
  subst hd
  exact .int _
end
section
variable {X : Cx} {W : WX} {e tg : Expr} {f : DEnv → M D} {pos p : Pos}
theorem pi_or {iter : Expr} {w1 w2 : TI} (h1 : PI X tg iter w1) (h2 : PI X tg iter w2) : PI X tg iter (fun σ H R => w1 σ H R ∨ w2 σ H R) :=
  ⟨fun pins s σ H R I h => h.elim (h1.run pins s σ H R I) (h2.run pins s σ H R I)⟩
/-- over a list, a tuple, a text -/
theorem di_any (h : DE X W e f) : DI X W tg e (iAny f) := by
  obtain ⟨te, a1, a2⟩ := h.ex
  refine ⟨_, pi_or (pi_list a1) (pi_or (pi_tup a1) (pi_str a1)), ?_⟩
  intro B G0 G H σ env R c po
  simp only [iAny] at po
  cases o : f env with
  | no => rw [o] at po; exact po.elim
  | ex m =>
    rw [o] at po
    exact .inl (a2 B G0 G H σ env _ c (by rw [o]; exact po))
  | ok d =>
    cases d with
    | lst ds =>
      rw [o] at po
      refine .inl (a2 B G0 G H σ env _ c ?_)
      rw [o]
      intro v H1 G1 s1 c1 r1
      cases r1 with
      | lst g1 g2 => exact ⟨_, rfl, ⟨_, .inl (.inl (c1.exG _ _ g1))⟩, po _ H1 G1 s1 c1 (jok_list (.inl (.inl g1)) g2)⟩
    | scr ns =>
      rw [o] at po
      refine .inl (a2 B G0 G H σ env _ c ?_)
      rw [o]
      intro v H1 G1 s1 c1 r1
      cases r1 with
      | scr g1 => exact ⟨_, rfl, ⟨_, c1.exG.seq g1⟩, po _ H1 G1 s1 c1 (jok_list g1 (Reps.ints ns))⟩
    | tup ds =>
      rw [o] at po
      refine .inr (.inl (a2 B G0 G H σ env _ c ?_))
      rw [o]
      intro v H1 G1 s1 c1 r1
      cases r1 with
      | tup g1 g2 => exact ⟨_, rfl, ⟨_, .inl (.inl (c1.exG _ _ g1))⟩, po _ H1 G1 s1 c1 (jok_tup g1 g2)⟩
    | str s =>
      rw [o] at po
      refine .inr (.inr (a2 B G0 G H σ env _ c ?_))
      rw [o]
      intro v H1 G1 s1 c1 r1
      cases r1
      exact ⟨s, rfl, po _ H1 G1 s1 c1 jok_str⟩
    | non => rw [o] at po; exact po.elim
    | bl _ => rw [o] at po; exact po.elim
    | int _ => rw [o] at po; exact po.elim
theorem di_rng1 {g : DEnv → M (List D)} (hm : X.mg "range" = none) (ha : DA X W [e] g) (hg : Gl X "range" := by rfl) (hs : starEach [e] X.env = [(false, eval e X.env)] := by rfl) : DI X W tg (.Call (.Name "range" p) [e] [] pos) (iRng rng1D g) := by
  obtain ⟨ta, a1, a2⟩ := ha.ex
  refine ⟨_, pi_range1 hg hm a1 hs, ?_⟩
  intro B G0 G H σ env R c po
  simp only [iRng] at po
  refine a2 B G0 G H σ env _ c ?_
  cases o : g env with
  | no => rw [o] at po; exact po
  | ex m => rw [o] at po; exact po
  | ok ds =>
    rw [o] at po
    intro vs H1 G1 s1 c1 r1
    simp only [M.bind] at po
    cases q : rng1D ds with
    | none => rw [q] at po; exact po.elim
    | some its =>
      rw [q] at po
      obtain ⟨j, rfl, h1, h2, rfl⟩ := rng1D_inv q
      cases r1 with
      | cons x y =>
        cases y
        cases x
        refine ⟨j, rfl, h1, h2, po (Itr 0 j.toNat) H1 G1 s1 c1 ?_⟩
        have z := jok_rng (K := kw X) (G1 := G1) (lo := 0) (n := j.toNat)
        simpa using z
theorem di_rng2 {a b : Expr} {g : DEnv → M (List D)} (hm : X.mg "range" = none) (ha : DA X W [a, b] g) (hg : Gl X "range" := by rfl) (hs : starEach [a, b] X.env = [(false, eval a X.env), (false, eval b X.env)] := by rfl)
    (hs2 : starEach [b] X.env = [(false, eval b X.env)] := by rfl) : DI X W tg (.Call (.Name "range" p) [a, b] [] pos) (iRng rng2D g) := by
  obtain ⟨ta, a1, a2⟩ := ha.ex
  refine ⟨_, pi_range2 hg hm a1 hs hs2, ?_⟩
  intro B G0 G H σ env R c po
  simp only [iRng] at po
  refine a2 B G0 G H σ env _ c ?_
  cases o : g env with
  | no => rw [o] at po; exact po
  | ex m => rw [o] at po; exact po
  | ok ds =>
    rw [o] at po
    intro vs H1 G1 s1 c1 r1
    simp only [M.bind] at po
    cases q : rng2D ds with
    | none => rw [q] at po; exact po.elim
    | some its =>
      rw [q] at po
      obtain ⟨i, j, rfl, h1, rfl⟩ := rng2D_inv q
      cases r1 with
      | cons x y =>
        cases y with
        | cons y z =>
          cases z
          cases x
          cases y
          exact ⟨i, j, rfl, h1, po (Itr i (j - i).toNat) H1 G1 s1 c1 jok_rng⟩
end

/-! ### own lists -/
section
variable {K : KW} {B G0 G G' H H' : Hp} {σ : L2.St} {env : DEnv}
/-- the own list (or dict) of slot i is replaced by another content -/
theorem Cn.updO (c : Cn K B G0 G σ H env) {i : Nat} {p : Addr} {s t : Cel} {o : HO} (hi : env[i]? = some s) (hs : s.owned) (hp : σ[i]? = some (some (.ref p))) (ht : CelAt K B G (L2.upd H p o) t (some (.ref p))) (ho : t.owned) :
    Cn K B G0 G σ (L2.upd H p o) (env.set i t) where
  len := by simp [c.len]
  exB := fun a x e => by
    obtain ⟨q, e1, h⟩ := c.cel i s hi
    rw [hp] at e1
    cases e1
    cases s with
    | own xs => obtain ⟨p', vs, e2, gp, bp, _⟩ := h; cases e2; rw [upd_ne (ne_of_none e bp)]; exact c.exB _ _ e
    | dic xs => obtain ⟨p', vs, e2, gp, bp, _⟩ := h; cases e2; rw [upd_ne (ne_of_none e bp)]; exact c.exB _ _ e
    | un => exact hs.elim
    | dat d => exact hs.elim
    | fdc d => exact hs.elim
    | exc d => exact hs.elim
  exG := fun a x e => by
    obtain ⟨q, e1, h⟩ := c.cel i s hi
    rw [hp] at e1
    cases e1
    cases s with
    | own xs => obtain ⟨p', vs, e2, gp, bp, _⟩ := h; cases e2; rw [upd_ne (ne_of_none e gp)]; exact c.exG _ _ e
    | dic xs => obtain ⟨p', vs, e2, gp, bp, _⟩ := h; cases e2; rw [upd_ne (ne_of_none e gp)]; exact c.exG _ _ e
    | un => exact hs.elim
    | dat d => exact hs.elim
    | fdc d => exact hs.elim
    | exc d => exact hs.elim
  ex0 := c.ex0
  new := c.new
  cel := fun j u e => by
    by_cases h : i = j
    · subst h
      have hl := (List.getElem?_eq_some_iff.mp hi).1
      rw [List.getElem?_set_self hl] at e
      cases e
      exact ⟨_, hp, ht⟩
    · rw [List.getElem?_set_ne h] at e
      obtain ⟨q, e1, h1⟩ := c.cel j u e
      refine ⟨q, e1, ?_⟩
      have ne : u.owned → q ≠ some (.ref p) := fun hu z => by
        rw [z] at e1
        exact c.sep i j s u p h hi e hs hu hp e1
      cases u with
      | un => trivial
      | dat d => exact h1
      | fdc d => exact h1
      | exc d => exact h1
      | own xs =>
        obtain ⟨p', vs, e2, gp, bp, hp', r⟩ := h1
        have np : p' ≠ p := fun z => ne trivial (by rw [e2, z])
        exact ⟨p', vs, e2, gp, bp, by rw [upd_ne np]; exact hp', r⟩
      | dic xs =>
        obtain ⟨p', vs, e2, gp, bp, hp', r⟩ := h1
        have np : p' ≠ p := fun z => ne trivial (by rw [e2, z])
        exact ⟨p', vs, e2, gp, bp, by rw [upd_ne np]; exact hp', r⟩
  sep := fun j k u v q ne e1 e2 o1 o2 h1 => by
    have back : ∀ {j : Nat} {u : Cel}, (env.set i t)[j]? = some u → u.owned → ∃ u', env[j]? = some u' ∧ u'.owned := fun {j u} e o => by
      by_cases h : i = j
      · subst h; exact ⟨s, hi, hs⟩
      · rw [List.getElem?_set_ne h] at e; exact ⟨u, e, o⟩
    obtain ⟨u', a1, a2⟩ := back e1 o1
    obtain ⟨v', b1, b2⟩ := back e2 o2
    exact c.sep j k u' v' q ne a1 b1 a2 b2 h1
/-- a slot is given a new own list -/
theorem Cn.setOwn (c : Cn K B G0 G σ H env) (i : Nat) {p : Addr} {o : HO} {t : Cel} (hp : H p = none) (ht : CelAt K B G (L2.upd H p o) t (some (.ref p))) : Cn K B G0 G (σ.set i (some (.ref p))) (L2.upd H p o) (env.set i t) where
  len := by simp [c.len]
  exB := c.exB.trans (same_upd hp)
  exG := c.exG.trans (same_upd hp)
  ex0 := c.ex0
  new := c.new
  cel := fun j s e => by
    by_cases h : i = j
    · subst h
      have hi : i < env.length := by
        have := (List.getElem?_eq_some_iff.mp e).1
        simpa using this
      rw [List.getElem?_set_self hi] at e
      cases e
      refine ⟨some (.ref p), ?_, ht⟩
      rw [List.getElem?_set_self (by rw [c.len]; exact hi)]
    · rw [List.getElem?_set_ne h] at e
      obtain ⟨q, e1, h1⟩ := c.cel j s e
      refine ⟨q, by rw [List.getElem?_set_ne h]; exact e1, ?_⟩
      cases s with
      | un => trivial
      | dat d => exact h1
      | fdc d => exact h1
      | exc d => exact h1
      | own xs => obtain ⟨p', vs, e2, gp, bp, hp', r⟩ := h1; exact ⟨p', vs, e2, gp, bp, same_upd hp _ _ hp', r⟩
      | dic xs => obtain ⟨p', vs, e2, gp, bp, hp', r⟩ := h1; exact ⟨p', vs, e2, gp, bp, same_upd hp _ _ hp', r⟩
  sep := fun j k s u q ne e1 e2 o1 o2 h1 h2 => by
    have other : ∀ {k : Nat} {u : Cel}, i ≠ k → (env.set i t)[k]? = some u → u.owned → (σ.set i (some (.ref p)))[k]? ≠ some (some (.ref p)) := fun {k u} h e o z => by
      rw [List.getElem?_set_ne h] at e z
      obtain ⟨q, e1, h1⟩ := c.cel k u e
      rw [z] at e1
      cases e1
      cases u with
      | un => exact o
      | dat d => exact o
      | fdc d => exact o
      | exc d => exact o
      | own xs => obtain ⟨p', vs, e2, gp, bp, hp', r⟩ := h1; cases e2; rw [hp] at hp'; cases hp'
      | dic xs => obtain ⟨p', vs, e2, gp, bp, hp', r⟩ := h1; cases e2; rw [hp] at hp'; cases hp'
    by_cases hj : i = j
    · subst hj
      have hi : i < σ.length := by
        have := (List.getElem?_eq_some_iff.mp h1).1
        simpa using this
      rw [List.getElem?_set_self hi] at h1
      cases h1
      exact other ne e2 o2 h2
    · by_cases hk : i = k
      · subst hk
        have hi : i < σ.length := by
          have := (List.getElem?_eq_some_iff.mp h2).1
          simpa using this
        rw [List.getElem?_set_self hi] at h2
        cases h2
        exact other hj e1 o1 h1
      · rw [List.getElem?_set_ne hj] at e1 h1
        rw [List.getElem?_set_ne hk] at e2 h2
        exact c.sep j k s u q ne e1 e2 o1 o2 h1 h2
/-- an own list stands still from now on -/
theorem Cn.freeze (c : Cn K B G0 G σ H env) {i : Nat} {xs : List D} (hi : env[i]? = some (.own xs)) : ∃ G', Same G G' ∧ Cn K B G0 G' σ H (env.set i (.dat (.lst xs))) := by
  obtain ⟨o, e1, p, vs, e2, gp, bp, hp, r⟩ := c.cel i _ hi
  subst e2
  have hl := (List.getElem?_eq_some_iff.mp hi).1
  refine ⟨L2.upd G p (.lst vs), same_upd gp, ?_⟩
  exact {
    len := by simp [c.len]
    exB := c.exB
    exG := fun a x e => by
      by_cases z : a = p
      · subst z; rw [upd_same] at e; cases e; exact hp
      · rw [upd_ne z] at e; exact c.exG _ _ e
    ex0 := c.ex0.trans (same_upd gp)
    new := fun a h => by
      by_cases z : a = p
      · subst z; exact .inr bp
      · rw [upd_ne z] at h; exact c.new a h
    cel := fun j s e => by
      by_cases h : i = j
      · subst h
        rw [List.getElem?_set_self hl] at e
        cases e
        exact ⟨_, e1, _, rfl, .lst upd_same (r.up (same_upd gp))⟩
      · rw [List.getElem?_set_ne h] at e
        obtain ⟨q, e3, h1⟩ := c.cel j s e
        refine ⟨q, e3, ?_⟩
        have ne : s.owned → q ≠ some (.ref p) := fun hu z => by
          rw [z] at e3
          exact c.sep i j _ s p h hi e trivial hu e1 e3
        cases s with
        | un => trivial
        | dat d => obtain ⟨v, e4, r4⟩ := h1; exact ⟨v, e4, r4.up (same_upd gp)⟩
        | exc d => exact h1
        | fdc d => obtain ⟨p', vs', od, e4, gp', r'⟩ := h1; exact ⟨p', vs', od, e4, same_upd gp _ _ gp', L2.Paired.mapP r' fun _ _ z => z.up (same_upd gp)⟩
        | own xs => obtain ⟨p', vs', e4, gp', bp', hp', r'⟩ := h1; exact ⟨p', vs', e4, by rw [upd_ne (fun z => ne trivial (by rw [e4, z]))]; exact gp', bp', hp', r'.up (same_upd gp)⟩
        | dic xs => obtain ⟨p', vs', e4, gp', bp', hp', r'⟩ := h1; exact ⟨p', vs', e4, by rw [upd_ne (fun z => ne trivial (by rw [e4, z]))]; exact gp', bp', hp', L2.Paired.mapP r' fun _ _ z => z.up (same_upd gp)⟩
    sep := fun j k s u q ne f1 f2 o1 o2 h1 => by
      have nj : i ≠ j := fun z => by
        subst z
        rw [List.getElem?_set_self hl] at f1
        cases f1
        exact o1
      have nk : i ≠ k := fun z => by
        subst z
        rw [List.getElem?_set_self hl] at f2
        cases f2
        exact o2
      rw [List.getElem?_set_ne nj] at f1
      rw [List.getElem?_set_ne nk] at f2
      exact c.sep j k s u q ne f1 f2 o1 o2 h1 }
end
@[simp] def frz (i : Nat) (env : DEnv) : DEnv := match env[i]? with
  | some (.own xs) => env.set i (.dat (.lst xs))
  | _ => env
/-- the own list of slot i stands still ahead of the statement -/
@[simp] def sFrz (i : Nat) (g : DStm) : DStm := fun env => g (frz i env)
@[simp] def celO (env : DEnv) (i : Nat) : M (List D) := match env[i]? with
  | some (.own xs) => .ok xs
  | _ => .no
@[simp] def sApp (i : Nat) (f : DEnv → M D) : DStm := fun env => (celO env i).to env fun xs => (f env).to env fun d => if xs.length < sizeLine then .nx (env.set i (.own (xs ++ [d]))) else .no
@[simp] def xLenO (i : Nat) (env : DEnv) : M D := (celO env i).bind fun xs => .ok (.int xs.length)
def ixD (xs : List D) : D → Option D
  | .int i => atI xs i
  | _ => none
@[simp] def xIxO (i : Nat) (f : DEnv → M D) (env : DEnv) : M D := (celO env i).bind fun xs => (f env).bind fun d => .of (ixD xs d)
section
variable {X : Cx} {W : WX} {st : Stmt} {a : DStm} {e : Expr} {f : DEnv → M D} {pos p : Pos}
theorem ds_frz (i : Nat) (h : DS X W st a) : DS X W st (sFrz i a) := by
  obtain ⟨ts, a1, a2⟩ := h.ex
  refine ⟨ts, a1, fun B G0 G H σ env E c po => ?_⟩
  simp only [sFrz, frz] at po
  cases o : env[i]? with
  | none => rw [o] at po; exact a2 B G0 G H σ env E c po
  | some s =>
    rw [o] at po
    cases s with
    | own xs =>
      obtain ⟨G', s', c'⟩ := c.freeze o
      exact a2 B G0 G' H σ _ E c' (PoS.up s' po)
    | un => exact a2 B G0 G H σ env E c po
    | dat d => exact a2 B G0 G H σ env E c po
    | dic d => exact a2 B G0 G H σ env E c po
    | fdc d => exact a2 B G0 G H σ env E c po
    | exc d => exact a2 B G0 G H σ env E c po
/-- x = [..], an own list from now on -/
theorem ds_own (i : Nat) {g : DEnv → M (List D)} {x : Str} {pos' : Pos} (hN : X.N.Nodup) (h : DLs X W e g) (hi : X.N[i]? = some x := by rfl) (hx : Loc X.env.scope x := by first | exact .inl rfl | exact .inr rfl) (hs : swapsWith e (some (.Name x pos')) pos.line X.env = pure false := by rfl) (hf : X.fn x = true ∨ X.env.scope.names.lookup x = some .local := by first | exact .inl rfl | exact .inr rfl) :
    DS X W (.Assign [.Name x pos'] e pos) (sOwn i g) := by
  obtain ⟨_, a1, a2⟩ := h.ex
  refine ⟨_, ps_set (i := i) hN hi hx a1 hs hf, fun B G0 G H σ env E c po => ?_⟩
  refine a2 B G0 G H σ env _ c ?_
  simp only [sOwn] at po
  cases o : g env with
  | no => rw [o] at po; exact po
  | ex n => rw [o] at po; exact PoX.s po
  | ok d =>
    rw [o] at po
    intro q vs H1 G1 s1 c1 hq r1
    exact po _ _ G1 s1 (c1.setOwn i hq ⟨q, vs, rfl, c1.exG.free hq, c1.exB.free hq, upd_same, r1⟩)
theorem celO_inv {env : DEnv} {i : Nat} {xs : List D} (h : celO env i = .ok xs) : env[i]? = some (.own xs) := by
  simp only [celO] at h
  split at h
  · rename_i e
    cases h
    exact e
  · cases h
theorem celO_no {env : DEnv} {i : Nat} {c : Str} (h : celO env i = .ex c) : False := by
  simp only [celO] at h
  split at h <;> cases h
/-- x.append(e), x an own list -/
theorem ds_app (i : Nat) {x : Str} {px apos cpos : Pos} (h : DE X W e f) (hN : X.N[i]? = some x := by rfl) (hv : Vis X.env.scope x := by first | exact Or.inl rfl | exact Or.inr (Or.inl rfl) | exact Or.inr (Or.inr rfl)) (hd : (x == ("__debug__" : Str)) = false := by decide)
    (hcd : (x == ("__classdict__" : Str)) = false := by decide) (hbase : attributeBase (.Name x px) "append" X.env (eval (.Name x px) X.env) = eval (.Name x px) X.env := by rfl)
    (hfew : ((backTo cpos (starEach [e] X.env)).all (fun x => !x.1) && (backToKw cpos (keywordEach [] X.env)).all (fun x => x.1.isSome)
      && decide ([e].length + ([] : List Keyword).length + (if ([] : List Keyword).isEmpty then 0 else 1) < 30)) = true := by rfl)
    (hline : (apos.endLine == cpos.line) = true := by rfl) (hse : starEach [e] X.env = (false, eval e X.env) :: starEach [] X.env := by rfl) (hplain : (backTo cpos (starEach [] X.env)).any (·.1) = false := by rfl)
    (hs : swapsWith (.Call (.Attribute (.Name x px) "append" apos) [e] [] cpos) none pos.line X.env = pure false := by rfl) :
    DS X W (.Expr (.Call (.Attribute (.Name x px) "append" apos) [e] [] cpos) pos) (sApp i f) := by
  obtain ⟨te, a1, a2⟩ := h.ex
  refine ⟨_, ps_expr (pe_bm PySem.F.plainAttrs_list PySem.F.slot_list_append PySem.F.type_list_append mt_append (pe_var hN hv hd hcd) (pa_cons a1 pa_nil hse) hbase hfew hline hse hplain) hs, fun B G0 G H σ env E c po => ?_⟩
  simp only [sApp] at po
  cases o : celO env i with
  | no => rw [o] at po; exact po.elim
  | ex n => exact (celO_no o).elim
  | ok xs =>
    rw [o] at po
    have hi := celO_inv o
    obtain ⟨q, e1, p, vs, e2, gp, bp, hp, r⟩ := c.cel i _ hi
    subst e2
    refine ⟨.ref p, e1, .inl ⟨rfl, _, .inl (.inl hp)⟩, ?_⟩
    refine a2 B G0 G H σ env _ c ?_
    simp only [M.to] at po
    cases q : f env with
    | no => rw [q] at po; exact po
    | ex n => rw [q] at po; exact PoX.s po
    | ok d =>
      rw [q] at po
      intro v H1 G1 s1 c1 r1
      simp only [M.to] at po
      obtain ⟨q', e1', p', vs', e2', gp', bp', hp', r'⟩ := c1.cel i _ hi
      rw [e1] at e1'
      cases e1'
      cases e2'
      by_cases hl : xs.length < sizeLine
      · rw [if_pos hl] at po
        refine ⟨p, vs', v, rfl, rfl, hp', by rw [r'.length]; exact hl, ?_⟩
        exact po σ _ G1 s1 (c1.updO hi trivial e1 ⟨p, _, rfl, gp', bp', upd_same, r'.append (.one r1)⟩ trivial)
      · rw [if_neg hl] at po
        exact po.elim
/-- len(x), x an own list -/
theorem de_lenO (i : Nat) {x : Str} {px : Pos} (hm : X.mg "len" = none) (hg : Gl X "len" := by rfl) (hN : X.N[i]? = some x := by rfl) (hv : Vis X.env.scope x := by first | exact Or.inl rfl | exact Or.inr (Or.inl rfl) | exact Or.inr (Or.inr rfl)) (hd : (x == ("__debug__" : Str)) = false := by decide)
    (hcd : (x == ("__classdict__" : Str)) = false := by decide) (hs : starEach [.Name x px] X.env = (false, eval (.Name x px) X.env) :: starEach [] X.env := by rfl) (hpl : (backTo pos (starEach [] X.env)).any (·.1) = false := by rfl) :
    DE X W (.Call (.Name "len" p) [.Name x px] [] pos) (xLenO i) := by
  refine ⟨_, pe_callB call_len_seq hg hm PySem.boot_len (pa_cons (pe_var hN hv hd hcd) pa_nil hs) (by decide) (by decide) hs hpl, fun B G0 G H σ env Q c po => ?_⟩
  simp only [xLenO] at po
  cases o : celO env i with
  | no => rw [o] at po; exact po.elim
  | ex n => exact (celO_no o).elim
  | ok xs =>
    rw [o] at po
    have hi := celO_inv o
    obtain ⟨q, e1, p, vs, e2, gp, bp, hp, r⟩ := c.cel i _ hi
    subst e2
    refine ⟨.ref p, e1, p, vs, rfl, .inl (.inl (.inl hp)), ?_⟩
    rw [r.length]
    exact po _ H G (Same.refl G) c (.int _)
theorem atI_rep {K : KW} {G : Hp} {vs : List V} {ds : List D} {i : Int} {d : D} (r : Reps K G vs ds) (h : atI ds i = some d) : ∃ v, atI vs i = some v ∧ Rep K G v d := by
  unfold atI at h ⊢
  rw [r.length]
  cases q : ixN ds.length i with
  | none => rw [q] at h; cases h
  | some j =>
    rw [q] at h
    exact r.get h
/-- x[e], x an own list -/
theorem de_ixO (i : Nat) {x : Str} {px : Pos} (h : DE X W e f) (hsl : PlainIx e := by intro _ _; rfl) (hN : X.N[i]? = some x := by rfl) (hv : Vis X.env.scope x := by first | exact Or.inl rfl | exact Or.inr (Or.inl rfl) | exact Or.inr (Or.inr rfl)) (hd : (x == ("__debug__" : Str)) = false := by decide)
    (hcd : (x == ("__classdict__" : Str)) = false := by decide) : DE X W (.Subscript (.Name x px) e pos) (xIxO i f) := by
  obtain ⟨te, a1, a2⟩ := h.ex
  refine ⟨_, pe_ix ix_list (pe_var hN hv hd hcd) a1 hsl, fun B G0 G H σ env Q c po => ?_⟩
  simp only [xIxO] at po
  cases o : celO env i with
  | no => rw [o] at po; exact po.elim
  | ex n => exact (celO_no o).elim
  | ok xs =>
    rw [o] at po
    have hi := celO_inv o
    obtain ⟨q, e1, p, vs, e2, gp, bp, hp, r⟩ := c.cel i _ hi
    subst e2
    refine ⟨.ref p, e1, ?_⟩
    refine a2 B G0 G H σ env _ c ?_
    simp only [M.bind] at po
    cases q : f env with
    | no => rw [q] at po; exact po
    | ex n => rw [q] at po; exact po
    | ok d =>
      rw [q] at po
      intro v H1 G1 s1 c1 r1
      simp only [M.bind] at po
      cases k : ixD xs d with
      | none => rw [k] at po; exact po.elim
      | some y =>
        rw [k] at po
        obtain ⟨q', e1', p', vs', e2', gp', bp', hp', r'⟩ := c1.cel i _ hi
        rw [e1] at e1'
        cases e1'
        cases e2'
        cases d with
        | int j =>
          cases r1
          obtain ⟨v, hv, rv⟩ := atI_rep r' k
          exact ⟨p, vs', j, v, rfl, rfl, .inl (.inl hp'), hv, po v H1 G1 s1 c1 rv⟩
        | non => cases k
        | bl _ => cases k
        | str _ => cases k
        | lst _ => cases k
        | tup _ => cases k
        | scr _ => cases k
end
end DL

namespace DL
open PySem PySem.Spec PyProof.Rows L2

/-! ### operations on data -/
def addD : D → D → Option D
  | .int i, .int j => some (.int (i + j))
  | .str a, .str b => if a.length + b.length ≤ sizeLine then some (.str (a ++ b)) else none
  | .lst a, .lst b => if a.length + b.length ≤ sizeLine then some (.lst (a ++ b)) else none
  | _, _ => none
def subD : D → D → Option D
  | .int i, .int j => some (.int (i - j))
  | _, _ => none
theorem inM_ex : ∃ f : Int → Bool, ∀ j, f j = true ↔ (-(2 ^ 64) < j ∧ j < 2 ^ 64) := ⟨fun j => decide (-(2 ^ 64) < j ∧ j < 2 ^ 64), fun j => by simp⟩
noncomputable def inM : Int → Bool := Classical.choose inM_ex
theorem inM_iff (j : Int) : inM j = true ↔ (-(2 ^ 64) < j ∧ j < 2 ^ 64) := Classical.choose_spec inM_ex j
theorem inM_small {j : Int} (h0 : -10000000000 ≤ j) (h : j ≤ 10000000000) : inM j = true := (inM_iff j).mpr ⟨by omega, by omega⟩
noncomputable def mulD : D → D → Option D
  | .int i, .int j => if inM i = true ∨ inM j = true then some (.int (i * j)) else none
  | _, _ => none
def fdivD : D → D → Option D
  | .int i, .int j => if 0 < j ∧ j < 1073741824 then some (.int (i / j)) else none
  | _, _ => none
def modD : D → D → Option D
  | .int i, .int j => if 0 < j then some (.int (i % j)) else none
  | _, _ => none
def powD : D → D → Option D
  | .int i, .int j => if 0 ≤ j ∧ j ≤ 1000000 ∧ i.natAbs < 2 ^ 64 then some (.int (i ^ j.toNat)) else none
  | _, _ => none
def ltD : D → D → Option D
  | .int i, .int j => some (.bl (decide (i < j)))
  | _, _ => none
def leD : D → D → Option D
  | .int i, .int j => some (.bl (decide (i ≤ j)))
  | _, _ => none
def gtD : D → D → Option D
  | .int i, .int j => some (.bl (decide (j < i)))
  | _, _ => none
def geD : D → D → Option D
  | .int i, .int j => some (.bl (decide (j ≤ i)))
  | _, _ => none
def isND : D → D → Option D
  | d, .non => some (.bl (match d with | .non => true | _ => false))
  | _, _ => none
def isNND : D → D → Option D
  | d, .non => some (.bl (match d with | .non => false | _ => true))
  | _, _ => none
def inSD : D → D → Option D
  | .str a, .str b => some (.bl (!(Builtin.Str.occurrences b a 0 b.length 1).isEmpty))
  | _, _ => none
def ninSD : D → D → Option D
  | .str a, .str b => some (.bl (!(!(Builtin.Str.occurrences b a 0 b.length 1).isEmpty)))
  | _, _ => none
mutual
def py : D → PyData
  | .non => .none
  | .bl b => .bool b
  | .int i => .int i
  | .str s => .str s
  | .lst xs => .list (pys xs)
  | .tup xs => .tuple (pys xs)
  | .scr _ => .none
def pys : List D → List PyData
  | [] => []
  | x :: xs => py x :: pys xs
end
-- data that == compares item by item: no bools, texts of plain signs, no deep nesting
mutual
def eqOk : Nat → D → Bool
  | _, .non => true
  | _, .int _ => true
  | _, .str s => PyData.strOk s
  | n + 1, .lst xs => eqOks n xs
  | n + 1, .tup xs => eqOks n xs
  | _, _ => false
def eqOks : Nat → List D → Bool
  | _, [] => true
  | n, x :: xs => eqOk n x && eqOks n xs
end
def scalD : D → D → Bool
  | .non, .non => true | .non, .int _ => true | .int _, .non => true | .non, .bl _ => true | .bl _, .non => true | .non, .str _ => true | .str _, .non => true
  | .int _, .int _ => true | .bl _, .bl _ => true | .str _, .str _ => true
  | .int _, .str _ => true | .str _, .int _ => true | .bl _, .str _ => true | .str _, .bl _ => true
  | _, _ => false
noncomputable instance : DecidableEq D := fun a b => Classical.propDecidable (a = b)
noncomputable def eqD (a b : D) : Option D := if (scalD a b || (eqOk 60 a && eqOk 60 b)) = true then some (.bl (decide (a = b))) else none
noncomputable def neD (a b : D) : Option D := if (scalD a b || (eqOk 60 a && eqOk 60 b)) = true then some (.bl (!decide (a = b))) else none

section
variable {K : KW} {G : Hp}
mutual
theorem Rep.dp : ∀ (n : Nat) (d : D) (v : V), eqOk n d = true → Rep K G v d → Dp K.k G v (py d)
  | _, .non, _, _, r => by cases r; exact .non
  | _, .int i, _, _, r => by cases r; exact .int i
  | _, .str s, _, _, r => by cases r; exact .str s
  | n + 1, .lst xs, _, h, r => by
    cases r with
    | lst g1 g2 => exact .lst (.inl (.inl g1)) (Reps.dp n xs _ (by simpa [eqOk] using h) g2)
  | n + 1, .tup xs, _, h, r => by
    cases r with
    | tup g1 g2 => exact .tup (.inl (.inl g1)) (Reps.dp n xs _ (by simpa [eqOk] using h) g2)
  | 0, .lst _, _, h, _ => by simp [eqOk] at h
  | 0, .tup _, _, h, _ => by simp [eqOk] at h
  | 0, .bl _, _, h, _ => by simp [eqOk] at h
  | _ + 1, .bl _, _, h, _ => by simp [eqOk] at h
  | 0, .scr _, _, h, _ => by simp [eqOk] at h
  | _ + 1, .scr _, _, h, _ => by simp [eqOk] at h
theorem Reps.dp : ∀ (n : Nat) (ds : List D) (vs : List V), eqOks n ds = true → Reps K G vs ds → DpAll K.k G vs (pys ds)
  | _, [], _, _, r => by cases r; exact .nil
  | n, d :: ds, _, h, r => by
    cases r with
    | cons r1 r2 =>
      have h' : eqOk n d = true ∧ eqOks n ds = true := by simpa [eqOks] using h
      exact .cons (Rep.dp n d _ h'.1 r1) (Reps.dp n ds _ h'.2 r2)
end
mutual
theorem eqOk_shape : ∀ (n : Nat) (d : D), eqOk n d = true → (py d).canLay0 = true ∧ (py d).depth ≤ n
  | _, .non, _ => ⟨rfl, Nat.zero_le _⟩
  | _, .int _, _ => ⟨rfl, Nat.zero_le _⟩
  | _, .str s, h => ⟨by simpa [eqOk, py, PyData.canLay0] using h, Nat.zero_le _⟩
  | n + 1, .lst xs, h => by
    obtain ⟨a, b⟩ := eqOks_shape n xs (by simpa [eqOk] using h)
    refine ⟨by simpa [py, PyData.canLay0] using a, ?_⟩
    simp only [py, PyData.depth]
    omega
  | n + 1, .tup xs, h => by
    obtain ⟨a, b⟩ := eqOks_shape n xs (by simpa [eqOk] using h)
    refine ⟨by simpa [py, PyData.canLay0] using a, ?_⟩
    simp only [py, PyData.depth]
    omega
  | 0, .lst _, h => by simp [eqOk] at h
  | 0, .tup _, h => by simp [eqOk] at h
  | 0, .bl _, h => by simp [eqOk] at h
  | _ + 1, .bl _, h => by simp [eqOk] at h
  | 0, .scr _, h => by simp [eqOk] at h
  | _ + 1, .scr _, h => by simp [eqOk] at h
theorem eqOks_shape : ∀ (n : Nat) (ds : List D), eqOks n ds = true → PyData.canLayAll0 (pys ds) = true ∧ PyData.depthAll (pys ds) ≤ n
  | _, [], _ => ⟨rfl, Nat.zero_le _⟩
  | n, d :: ds, h => by
    have h' : eqOk n d = true ∧ eqOks n ds = true := by simpa [eqOks] using h
    obtain ⟨a, b⟩ := eqOk_shape n d h'.1
    obtain ⟨a', b'⟩ := eqOks_shape n ds h'.2
    refine ⟨by simp only [pys, PyData.canLayAll0, a, a', Bool.and_self], ?_⟩
    simp only [pys, PyData.depthAll]
    omega
end
theorem eqOk_shaped {d : D} (h : eqOk 60 d = true) : SeqAt.shaped (py d) = true := by
  obtain ⟨a, b⟩ := eqOk_shape 60 d h
  unfold SeqAt.shaped
  rw [a, decide_eq_true (by omega : (py d).depth ≤ 64)]
  rfl
mutual
theorem eqv_of : ∀ (n m : Nat) (a b : D), eqOk n a = true → eqOk m b = true → (PyData.eqv (py a) (py b) = true ↔ a = b)
  | n, m, .non, b, _, hb => by cases b <;> simp [py, PyData.eqv, eqOk] at hb ⊢
  | n, m, .int i, b, _, hb => by cases b <;> simp [py, PyData.eqv, eqOk] at hb ⊢
  | n, m, .str s, b, _, hb => by cases b <;> simp [py, PyData.eqv, eqOk] at hb ⊢
  | n + 1, m, .lst xs, b, ha, hb => by
    cases b with
    | lst ys =>
      cases m with
      | zero => simp [eqOk] at hb
      | succ m =>
        have := eqv_ofs n m xs ys (by simpa [eqOk] using ha) (by simpa [eqOk] using hb)
        simp only [py, PyData.eqv, D.lst.injEq]
        exact this
    | non => simp [py, PyData.eqv]
    | bl _ => cases m <;> simp [eqOk] at hb
    | int _ => simp [py, PyData.eqv]
    | str _ => simp [py, PyData.eqv]
    | tup _ => simp [py, PyData.eqv]
    | scr _ => cases m <;> simp [eqOk] at hb
  | n + 1, m, .tup xs, b, ha, hb => by
    cases b with
    | tup ys =>
      cases m with
      | zero => simp [eqOk] at hb
      | succ m =>
        have := eqv_ofs n m xs ys (by simpa [eqOk] using ha) (by simpa [eqOk] using hb)
        simp only [py, PyData.eqv, D.tup.injEq]
        exact this
    | non => simp [py, PyData.eqv]
    | bl _ => cases m <;> simp [eqOk] at hb
    | int _ => simp [py, PyData.eqv]
    | str _ => simp [py, PyData.eqv]
    | lst _ => simp [py, PyData.eqv]
    | scr _ => cases m <;> simp [eqOk] at hb
  | 0, _, .lst _, _, h, _ => by simp [eqOk] at h
  | 0, _, .tup _, _, h, _ => by simp [eqOk] at h
  | 0, _, .bl _, _, h, _ => by simp [eqOk] at h
  | _ + 1, _, .bl _, _, h, _ => by simp [eqOk] at h
  | 0, _, .scr _, _, h, _ => by simp [eqOk] at h
  | _ + 1, _, .scr _, _, h, _ => by simp [eqOk] at h
theorem eqv_ofs : ∀ (n m : Nat) (a b : List D), eqOks n a = true → eqOks m b = true → (PyData.eqvAll (pys a) (pys b) = true ↔ a = b)
  | n, m, [], [], _, _ => by simp [pys, PyData.eqvAll]
  | n, m, [], _ :: _, _, _ => by simp [pys, PyData.eqvAll]
  | n, m, _ :: _, [], _, _ => by simp [pys, PyData.eqvAll]
  | n, m, a :: as, b :: bs, ha, hb => by
    have h1 : eqOk n a = true ∧ eqOks n as = true := by simpa [eqOks] using ha
    have h2 : eqOk m b = true ∧ eqOks m bs = true := by simpa [eqOks] using hb
    have q1 := eqv_of n m a b h1.1 h2.1
    have q2 := eqv_ofs n m as bs h1.2 h2.2
    simp only [pys, PyData.eqvAll, Bool.and_eq_true, List.cons.injEq]
    rw [q1, q2]
end
theorem eqv_dec {a b : D} (ha : eqOk 60 a = true) (hb : eqOk 60 b = true) : PyData.eqv (py a) (py b) = decide (a = b) := by
  rw [Bool.eq_iff_iff, eqv_of 60 60 a b ha hb]
  simp
theorem dp_mono {H : Hp} (s : Same G H) {v : V} {d : D} (h : eqOk 60 d = true) (r : Rep K G v d) : Dp K.k H v (py d) := Rep.dp 60 d v h (r.up s)
theorem scal_rep {x y : V} {a b : D} (h : scalD a b = true) (ra : Rep K G x a) (rb : Rep K G y b) : scal x y = true ∧ decide (x = y) = decide (a = b) := by
  cases ra <;> cases rb <;> first
    | (simp [scalD] at h; done)
    | (refine ⟨rfl, ?_⟩; simp)
end
section
variable {X : Cx}
theorem opd_pure {K : KW} {r : R2} {h : D → D → Option D} (q : ∀ {G H : Hp} {x y : V} {a b d : D} {Q : VK}, Same G H → Rep K G x a → Rep K G y b → h a b = some d → (∃ v, Rep K G v d ∧ (Q v H → r x y H Q))) : OpD K r h := by
  intro B G0 G H σ env x y a b d Q c ra rb e k
  obtain ⟨v, rv, kv⟩ := q (Q := Q) c.exG ra rb e
  exact kv (k v H G (Same.refl G) c rv)
theorem ox_add : OpX X (binaryOp .Add) addD := by
  refine ⟨_, op_add.or (op_add_str.or op_cat), ?_⟩
  intro B G0 G H σ env x y a b d Q c ra rb e k
  unfold addD at e
  split at e
  · cases ra; cases rb; cases e
    exact .inl ⟨_, _, rfl, rfl, k _ H G (Same.refl G) c (.int _)⟩
  · split at e
    · rename_i hl
      cases ra; cases rb; cases e
      exact .inr (.inl ⟨_, _, rfl, rfl, hl, k _ H G (Same.refl G) c (.str _)⟩)
    · cases e
  · split at e
    · rename_i hl
      cases e
      cases ra with
      | lst g1 r1 =>
        cases rb with
        | lst g2 r2 =>
          refine .inr (.inr ⟨_, _, _, _, rfl, rfl, c.exG _ _ g1, c.exG _ _ g2, by rw [r1.length, r2.length]; exact hl, fun p hp => ?_⟩)
          have gp := c.exG.free hp
          exact k _ _ (upd G p _) (same_upd gp) (c.laid hp) (.lst upd_same ((r1.append r2).up (same_upd gp)))
    · cases e
  · cases e
theorem ox_sub : OpX X (binaryOp .Sub) subD := by
  refine ⟨_, op_sub, opd_pure ?_⟩
  intro G H x y a b d Q s ra rb e
  unfold subD at e
  split at e
  · cases ra; cases rb; cases e
    exact ⟨_, .int _, fun q => ⟨_, _, rfl, rfl, q⟩⟩
  · cases e
theorem ox_mul : OpX X (binaryOp .Mult) mulD := by
  refine ⟨_, op_mul, opd_pure ?_⟩
  intro G H x y a b d Q s ra rb e
  unfold mulD at e
  split at e
  · split at e
    · rename_i hc
      cases ra; cases rb; cases e
      refine ⟨_, .int _, fun q => ⟨_, _, rfl, rfl, ?_, q⟩⟩
      rcases hc with hc | hc
      · exact .inl ((inM_iff _).mp hc)
      · exact .inr ((inM_iff _).mp hc)
    · cases e
  · cases e
theorem ox_fdiv : OpX X (binaryOp .FloorDiv) fdivD := by
  refine ⟨_, op_fdiv, opd_pure ?_⟩
  intro G H x y a b d Q s ra rb e
  unfold fdivD at e
  split at e
  · split at e
    · rename_i hc
      cases ra; cases rb; cases e
      exact ⟨_, .int _, fun q => ⟨_, _, rfl, rfl, hc, q⟩⟩
    · cases e
  · cases e
theorem ox_mod : OpX X (binaryOp .Mod) modD := by
  refine ⟨_, op_mod, opd_pure ?_⟩
  intro G H x y a b d Q s ra rb e
  unfold modD at e
  split at e
  · split at e
    · rename_i hc
      cases ra; cases rb; cases e
      exact ⟨_, .int _, fun q => ⟨_, _, rfl, rfl, hc, q⟩⟩
    · cases e
  · cases e
theorem ox_pow : OpX X (binaryOp .Pow) powD := by
  refine ⟨_, op_pow, opd_pure ?_⟩
  intro G H x y a b d Q s ra rb e
  unfold powD at e
  split at e
  · split at e
    · rename_i hc
      cases ra; cases rb; cases e
      exact ⟨_, .int _, fun q => ⟨_, _, rfl, rfl, hc, q⟩⟩
    · cases e
  · cases e
theorem ox_lt : OpX X (compareOp .Lt) ltD := by
  refine ⟨_, op_lt, opd_pure ?_⟩
  intro G H x y a b d Q s ra rb e
  unfold ltD at e
  split at e
  · cases ra; cases rb; cases e
    exact ⟨_, .bl _, fun q => ⟨_, _, rfl, rfl, q⟩⟩
  · cases e
theorem ox_le : OpX X (compareOp .LtE) leD := by
  refine ⟨_, op_le, opd_pure ?_⟩
  intro G H x y a b d Q s ra rb e
  unfold leD at e
  split at e
  · cases ra; cases rb; cases e
    exact ⟨_, .bl _, fun q => ⟨_, _, rfl, rfl, q⟩⟩
  · cases e
theorem ox_gt : OpX X (compareOp .Gt) gtD := by
  refine ⟨_, op_gt, opd_pure ?_⟩
  intro G H x y a b d Q s ra rb e
  unfold gtD at e
  split at e
  · cases ra; cases rb; cases e
    exact ⟨_, .bl _, fun q => ⟨_, _, rfl, rfl, q⟩⟩
  · cases e
theorem ox_ge : OpX X (compareOp .GtE) geD := by
  refine ⟨_, op_ge, opd_pure ?_⟩
  intro G H x y a b d Q s ra rb e
  unfold geD at e
  split at e
  · cases ra; cases rb; cases e
    exact ⟨_, .bl _, fun q => ⟨_, _, rfl, rfl, q⟩⟩
  · cases e
theorem ox_isN : OpX X (compareOp .Is) isND := by
  refine ⟨_, op_isN, opd_pure ?_⟩
  intro G H x y a b d Q s ra rb e
  cases b <;> simp only [isND, Option.some.injEq] at e <;> first | (cases e; done) | skip
  cases rb
  subst e
  refine ⟨_, .bl _, fun q => ⟨rfl, ?_⟩⟩
  cases ra <;> exact q
theorem ox_isNN : OpX X (compareOp .IsNot) isNND := by
  refine ⟨_, op_notN, opd_pure ?_⟩
  intro G H x y a b d Q s ra rb e
  cases b <;> simp only [isNND, Option.some.injEq] at e <;> first | (cases e; done) | skip
  cases rb
  subst e
  refine ⟨_, .bl _, fun q => ⟨rfl, ?_⟩⟩
  cases ra <;> exact q
theorem ox_inS : OpX X (compareOp .In) inSD := by
  refine ⟨_, op_in_str, opd_pure ?_⟩
  intro G H x y a b d Q s ra rb e
  unfold inSD at e
  split at e
  · cases ra; cases rb; cases e
    exact ⟨_, .bl _, fun q => ⟨_, _, rfl, rfl, q⟩⟩
  · cases e
theorem ox_ninS : OpX X (compareOp .NotIn) ninSD := by
  refine ⟨_, op_notIn_str, opd_pure ?_⟩
  intro G H x y a b d Q s ra rb e
  unfold ninSD at e
  split at e
  · cases ra; cases rb; cases e
    exact ⟨_, .bl _, fun q => ⟨_, _, rfl, rfl, q⟩⟩
  · cases e
theorem ox_eq (hu : X.A.units + 64 < cLine) : OpX X (compareOp .Eq) eqD := by
  refine ⟨_, op_eq.or (op_eqD hu), opd_pure ?_⟩
  intro G H x y a b d Q s ra rb e
  unfold eqD at e
  split at e
  · rename_i h
    cases e
    refine ⟨_, .bl _, fun q => ?_⟩
    by_cases hs : scalD a b = true
    · obtain ⟨h1, h2⟩ := scal_rep hs ra rb
      exact .inl ⟨h1, by rw [h2]; exact q⟩
    · have h' : eqOk 60 a = true ∧ eqOk 60 b = true := by simpa [hs] using h
      exact .inr ⟨_, _, dp_mono s h'.1 ra, dp_mono s h'.2 rb, eqOk_shaped h'.1, eqOk_shaped h'.2, by rw [eqv_dec h'.1 h'.2]; exact q⟩
  · cases e
theorem ox_ne (hu : X.A.units + 64 < cLine) : OpX X (compareOp .NotEq) neD := by
  refine ⟨_, op_ne.or (op_neD hu), opd_pure ?_⟩
  intro G H x y a b d Q s ra rb e
  unfold neD at e
  split at e
  · rename_i h
    cases e
    refine ⟨_, .bl _, fun q => ?_⟩
    by_cases hs : scalD a b = true
    · obtain ⟨h1, h2⟩ := scal_rep hs ra rb
      exact .inl ⟨h1, by rw [h2]; exact q⟩
    · have h' : eqOk 60 a = true ∧ eqOk 60 b = true := by simpa [hs] using h
      exact .inr ⟨_, _, dp_mono s h'.1 ra, dp_mono s h'.2 rb, eqOk_shaped h'.1, eqOk_shaped h'.2, by rw [eqv_dec h'.1 h'.2]; exact q⟩
  · cases e
end
end DL

namespace DL
open PySem PySem.Spec PyProof.Rows L2

/-! ### subscripts -/
def ixAD : D → D → Option D
  | .lst xs, .int i => atI xs i
  | .tup xs, .int i => atI xs i
  | .scr ns, .int i => (atI ns i).map D.int
  | .str s, .int i => if s.length ≤ sizeLine then (atI s.cps.toList i).map fun c => D.str ⟨#[c]⟩ else none
  | _, _ => none
theorem atI_map {α β : Type} (f : α → β) (xs : List α) (i : Int) : atI (xs.map f) i = (atI xs i).map f := by
  unfold atI
  rw [List.length_map]
  cases ixN xs.length i with
  | none => rfl
  | some j => simp
section
variable {X : Cx} {W : WX} {a b e : Expr} {es : List Expr} {f g : DEnv → M D} {pos p : Pos}
theorem de_ix (ha : DE X W a f) (hb : DE X W b g) (hs : PlainIx b := by intro _ _; rfl) : DE X W (.Subscript a b pos) (xOp ixAD f g) := by
  obtain ⟨_, a1, a2⟩ := ha.ex
  obtain ⟨_, b1, b2⟩ := hb.ex
  refine ⟨_, pe_ix ix_seq a1 b1 hs, a2.op b2 ?_⟩
  intro B G0 G H σ env x y a b d Q c ra rb h k
  unfold ixAD at h
  split at h
  · cases rb
    cases ra with
    | lst g1 g2 =>
      obtain ⟨v, hv, rv⟩ := atI_rep g2 h
      exact .inl ⟨_, _, _, v, rfl, rfl, .inl (.inl (c.exG _ _ g1)), hv, k v H G (Same.refl G) c rv⟩
  · cases rb
    cases ra with
    | tup g1 g2 =>
      obtain ⟨v, hv, rv⟩ := atI_rep g2 h
      exact .inr (.inl ⟨_, _, _, v, rfl, rfl, .inl (.inl (c.exG _ _ g1)), hv, k v H G (Same.refl G) c rv⟩)
  · rename_i ns i
    cases rb
    cases ra with
    | scr g1 =>
      cases q : atI ns i with
      | none => rw [q] at h; cases h
      | some n =>
        rw [q] at h
        cases h
        exact .inl ⟨_, _, _, .int n, rfl, rfl, c.exG.seq g1, by rw [atI_map, q]; rfl, k _ H G (Same.refl G) c (.int n)⟩
  · rename_i s i
    cases rb
    cases ra
    split at h
    · rename_i hl
      cases q : atI s.cps.toList i with
      | none => rw [q] at h; cases h
      | some n =>
        rw [q] at h
        cases h
        exact .inr (.inr ⟨_, _, n, rfl, rfl, hl, q, k _ H G (Same.refl G) c (.str _)⟩)
    · cases h
  · cases h
end

/-! ### slices -/
def cutL {α : Type} (xs : List α) (lo hi : Option Int) : List α := (xs.drop (HT.sIx xs.length 0 lo)).take (HT.sIx xs.length xs.length hi - HT.sIx xs.length 0 lo)
def slcD (lo hi : Option Int) : D → Option D
  | .lst xs => some (.lst (cutL xs lo hi))
  | .str s => if s.length ≤ sizeLine then some (.str (cutS s lo hi)) else none
  | .tup xs => if HT.sIx xs.length 0 lo = 0 ∧ HT.sIx xs.length xs.length hi = xs.length then none else some (.tup (cutL xs lo hi))
  | _ => none
def PoO (K : KW) (mg : Str → Option Value) (W : WX) (B G0 G : Hp) (σ : L2.St) (env : DEnv) (Q : Option Int → Hp → Prop) : M (Option Int) → Prop
  | .ok o => ∀ H' G', Same G G' → Cn K B G0 G' σ H' env → Q o H'
  | .ex c => PoX K mg W B G0 σ env c
  | .no => False
structure DO (X : Cx) (W : WX) (e : Option Expr) (f : DEnv → M (Option Int)) : Prop where
  ex : ∃ t, PO X e t ∧ ∀ B G0 G H σ env Q, Cn (kw X) B G0 G σ H env → PoO (kw X) X.mg W B G0 G σ env Q (f env) → t σ H Q
@[simp] def oNo (_ : DEnv) : M (Option Int) := .ok none
@[simp] def asI : D → M (Option Int)
  | .int i => .ok (some i)
  | _ => .no
@[simp] def oPart (f : DEnv → M D) (env : DEnv) : M (Option Int) := (f env).bind asI
@[simp] def xCut (f : DEnv → M D) (l u : DEnv → M (Option Int)) (env : DEnv) : M D := (f env).bind fun d => (l env).bind fun lo => (u env).bind fun hi => .of (slcD lo hi d)
section
variable {X : Cx} {W : WX} {a b e : Expr} {es : List Expr} {f g : DEnv → M D} {pos p : Pos}
theorem do_none : DO X W none oNo := ⟨_, po_none, fun B G0 G H σ env Q c p => p H G (Same.refl G) c⟩
theorem do_some (h : DE X W e f) : DO X W (some e) (oPart f) := by
  obtain ⟨_, a1, a2⟩ := h.ex
  refine ⟨_, po_some a1, fun B G0 G H σ env Q c p => ?_⟩
  refine a2 B G0 G H σ env _ c ?_
  simp only [oPart] at p
  cases o : f env with
  | no => rw [o] at p; exact p
  | ex n => rw [o] at p; exact p
  | ok d =>
    rw [o] at p
    intro v H1 G1 s1 c1 r1
    cases d with
    | int i => cases r1; exact ⟨i, rfl, p H1 G1 s1 c1⟩
    | non => exact p.elim
    | bl _ => exact p.elim
    | str _ => exact p.elim
    | lst _ => exact p.elim
    | tup _ => exact p.elim
    | scr _ => exact p.elim
theorem Reps.cut {K : KW} {G : Hp} {vs : List V} {ds : List D} (r : Reps K G vs ds) (lo hi : Option Int) : Reps K G (cutV vs lo hi) (cutL ds lo hi) := by
  unfold cutV cutL
  rw [r.length]
  exact (r.drop _).take _
theorem de_slice {lo hi : Option Expr} {l u : DEnv → M (Option Int)} {p2 : Pos} (he : DE X W e f) (hl : DO X W lo l) (hu : DO X W hi u) : DE X W (.Subscript e (.Slice lo hi none p2) pos) (xCut f l u) := by
  obtain ⟨_, a1, a2⟩ := he.ex
  obtain ⟨_, b1, b2⟩ := hl.ex
  obtain ⟨_, c1, c2⟩ := hu.ex
  refine ⟨_, pe_slice (sl_list.or (sl_str.or sl_tup)) a1 b1 c1, fun B G0 G H σ env Q c p => ?_⟩
  refine a2 B G0 G H σ env _ c ?_
  simp only [xCut] at p
  cases o : f env with
  | no => rw [o] at p; exact p
  | ex n => rw [o] at p; exact p
  | ok d =>
    rw [o] at p
    intro v H1 G1 s1 k1 r1
    refine b2 B G0 G1 H1 σ env _ k1 ?_
    simp only [M.bind] at p
    cases o2 : l env with
    | no => rw [o2] at p; exact p
    | ex n => rw [o2] at p; exact p
    | ok x =>
      rw [o2] at p
      intro H2 G2 s2 k2
      refine c2 B G0 G2 H2 σ env _ k2 ?_
      simp only [M.bind] at p
      cases o3 : u env with
      | no => rw [o3] at p; exact p
      | ex n => rw [o3] at p; exact p
      | ok y =>
        rw [o3] at p
        intro H3 G3 s3 k3
        have r3 := (r1.up s2).up s3
        have ss := (s1.trans s2).trans s3
        simp only [M.bind] at p
        cases q : slcD x y d with
        | none => rw [q] at p; exact p.elim
        | some z =>
          rw [q] at p
          unfold slcD at q
          split at q
          · cases q
            cases r3 with
            | lst g1 g2 =>
              refine .inl ⟨_, _, rfl, .inl (.inl (k3.exG _ _ g1)), fun q hq => ?_⟩
              have gq := k3.exG.free hq
              exact p _ _ (upd G3 q _) (ss.trans (same_upd gq)) (k3.laid hq) (.lst upd_same ((g2.cut x y).up (same_upd gq)))
          · split at q
            · rename_i hz
              cases q
              cases r3
              exact .inr (.inl ⟨_, rfl, hz, p _ H3 G3 ss k3 (.str _)⟩)
            · cases q
          · split at q
            · cases q
            · rename_i hz
              cases q
              cases r3 with
              | tup g1 g2 =>
                refine .inr (.inr ⟨_, _, rfl, .inl (.inl (k3.exG _ _ g1)), by rw [g2.length]; exact hz, fun q hq => ?_⟩)
                have gq := k3.exG.free hq
                exact p _ _ (upd G3 q _) (ss.trans (same_upd gq)) (k3.laid hq) (.tup upd_same ((g2.cut x y).up (same_upd gq)))
          · cases q
end

/-! ### builtins -/
def lenD : List D → Option D
  | [.str s] => if s.length ≤ sizeLine then some (.int s.length) else none
  | [.lst xs] => some (.int xs.length)
  | [.tup xs] => some (.int xs.length)
  | [.scr ns] => some (.int ns.length)
  | _ => none
def min2D : List D → Option D
  | [.int i, .int j] => some (.int (if j < i then j else i))
  | _ => none
def max2D : List D → Option D
  | [.int i, .int j] => some (.int (if j > i then j else i))
  | _ => none
def strD : List D → Option D
  | [.int i] => if i.natAbs.log2 < 1920 then some (.str (toString i)) else none
  | _ => none
def intD : List D → Option D
  | [.int i] => some (.int i)
  | [.bl b] => some (.int (if b then 1 else 0))
  | _ => none
def intSD : List D → Option D
  | [.str s] => match PySem.intText? s with
    | some n => if s.length ≤ 640 then some (.int n) else none
    | none => none
  | _ => none
def tupD : List D → Option D
  | [.lst xs] => some (.tup xs)
  | [.tup xs] => some (.tup xs)
  | _ => none
def intsOf : List D → Option (List Int)
  | [] => some []
  | .int i :: r => (intsOf r).map (i :: ·)
  | _ => none
def maxL : Int → List Int → Int
  | m, [] => m
  | m, x :: r => maxL (if x > m then x else m) r
def maxD : List D → Option D
  | [.lst xs] => match intsOf xs with
    | some (n :: r) => some (.int (maxL n r))
    | _ => none
  | _ => none
theorem intsOf_map : ∀ {xs : List D} {ns : List Int}, intsOf xs = some ns → xs = ns.map D.int
  | [], ns, h => by cases h; rfl
  | .int i :: r, ns, h => by
    simp only [intsOf, Option.map_eq_some_iff] at h
    obtain ⟨ms, h1, rfl⟩ := h
    rw [intsOf_map h1]
    rfl
  | .non :: _, _, h => by cases h
  | .bl _ :: _, _, h => by cases h
  | .str _ :: _, _, h => by cases h
  | .lst _ :: _, _, h => by cases h
  | .tup _ :: _, _, h => by cases h
  | .scr _ :: _, _, h => by cases h
theorem intsOf_ints : ∀ ns : List Int, intsOf (ns.map D.int) = some ns
  | [] => rfl
  | n :: r => by simp [intsOf, intsOf_ints r]
theorem maxL_ge : ∀ (r : List Int) (m : Int), m ≤ maxL m r ∧ ∀ x ∈ r, x ≤ maxL m r
  | [], m => ⟨Int.le_refl _, fun x h => by simp at h⟩
  | x :: r, m => by
    unfold maxL
    obtain ⟨h1, h2⟩ := maxL_ge r (if x > m then x else m)
    refine ⟨Int.le_trans (by split <;> omega) h1, fun y hy => ?_⟩
    rcases List.mem_cons.mp hy with rfl | hy
    · exact Int.le_trans (by split <;> omega) h1
    · exact h2 y hy
theorem maxL_mem : ∀ (r : List Int) (m : Int), maxL m r = m ∨ maxL m r ∈ r
  | [], m => .inl rfl
  | x :: r, m => by
    unfold maxL
    rcases maxL_mem r (if x > m then x else m) with h | h
    · rw [h]
      split
      · exact .inr List.mem_cons_self
      · exact .inl rfl
    · exact .inr (List.mem_cons_of_mem _ h)
section
variable {X : Cx} {W : WX} {a b e : Expr} {es : List Expr} {f g : DEnv → M D} {pos p : Pos}
theorem cx_len : CbX X (.builtin "len") lenD := by
  refine ⟨_, call_len, ?_⟩
  intro B G0 G H σ env vs ds d Q c r h k
  unfold lenD at h
  split at h
  · cases r with
    | cons r1 r2 =>
      cases r2
      cases r1
      split at h
      · rename_i hl
        cases h
        exact ⟨_, _, rfl, ⟨hl, rfl⟩, k _ H G (Same.refl G) c (.int _)⟩
      · cases h
  · cases h
    cases r with
    | cons r1 r2 =>
      cases r2
      cases r1 with
      | lst g1 g2 =>
        refine ⟨_, _, rfl, .inl ⟨_, .inl (.inl (c.exG _ _ g1)), rfl⟩, ?_⟩
        rw [g2.length]
        exact k _ H G (Same.refl G) c (.int _)
  · cases h
    cases r with
    | cons r1 r2 =>
      cases r2
      cases r1 with
      | tup g1 g2 =>
        refine ⟨_, _, rfl, .inr ⟨_, .inl (.inl (c.exG _ _ g1)), rfl⟩, ?_⟩
        rw [g2.length]
        exact k _ H G (Same.refl G) c (.int _)
  · cases h
    cases r with
    | cons r1 r2 =>
      cases r2
      cases r1 with
      | scr g1 =>
        refine ⟨_, _, rfl, .inl ⟨_, c.exG.seq g1, rfl⟩, ?_⟩
        rw [List.length_map]
        exact k _ H G (Same.refl G) c (.int _)
  · cases h
theorem cx_min2 (hc : X.calm = true) : CbX X (.builtin "min") min2D := by
  refine ⟨_, call_min2 hc, ?_⟩
  intro B G0 G H σ env vs ds d Q c r h k
  unfold min2D at h
  split at h
  · cases h
    cases r with
    | cons r1 r2 =>
      cases r2 with
      | cons r2 r3 =>
        cases r3; cases r1; cases r2
        exact ⟨_, _, rfl, k _ H G (Same.refl G) c (.int _)⟩
  · cases h
theorem cx_max2 (hc : X.calm = true) : CbX X (.builtin "max") max2D := by
  refine ⟨_, call_max2 hc, ?_⟩
  intro B G0 G H σ env vs ds d Q c r h k
  unfold max2D at h
  split at h
  · cases h
    cases r with
    | cons r1 r2 =>
      cases r2 with
      | cons r2 r3 =>
        cases r3; cases r1; cases r2
        exact ⟨_, _, rfl, k _ H G (Same.refl G) c (.int _)⟩
  · cases h
theorem cx_max (hc : X.calm = true) : CbX X (.builtin "max") maxD := by
  refine ⟨_, cr_max hc, ?_⟩
  intro B G0 G H σ env vs ds d Q c r h k
  unfold maxD at h
  split at h
  · split at h
    · rename_i xs n rs q
      cases h
      have e := intsOf_map q
      subst e
      cases r with
      | cons r1 r2 =>
        cases r2
        cases r1 with
        | lst g1 g2 =>
          have e2 := Reps.of_ints (ns := n :: rs) g2
          subst e2
          refine ⟨_, n :: rs, rfl, .inl (.inl (c.exG _ _ g1)), Nat.succ_pos _, fun m hm hle => ?_⟩
          have hm2 : m = maxL n rs := by
            obtain ⟨h1, h2⟩ := maxL_ge rs n
            refine Int.le_antisymm ?_ ?_
            · rcases List.mem_cons.mp hm with rfl | hm
              · exact h1
              · exact h2 m hm
            · rcases maxL_mem rs n with z | z
              · rw [z]; exact hle _ List.mem_cons_self
              · exact hle _ (List.mem_cons_of_mem _ z)
          rw [hm2]
          exact k _ H G (Same.refl G) c (.int _)
    · cases h
  · cases h
theorem cx_str : CbX X (.type "str") strD := by
  refine ⟨_, call_str_int, ?_⟩
  intro B G0 G H σ env vs ds d Q c r h k
  unfold strD at h
  split at h
  · split at h
    · rename_i hl
      cases h
      cases r with
      | cons r1 r2 =>
        cases r2; cases r1
        exact ⟨_, rfl, hl, k _ H G (Same.refl G) c (.str _)⟩
    · cases h
  · cases h
theorem cx_int : CbX X (.type "int") intD := by
  refine ⟨_, call_int1, ?_⟩
  intro B G0 G H σ env vs ds d Q c r h k
  unfold intD at h
  split at h
  · cases h
    cases r with
    | cons r1 r2 =>
      cases r2; cases r1
      exact .inl ⟨_, rfl, k _ H G (Same.refl G) c (.int _)⟩
  · cases h
    cases r with
    | cons r1 r2 =>
      cases r2; cases r1
      exact .inr ⟨_, rfl, k _ H G (Same.refl G) c (.int _)⟩
  · cases h
theorem cx_intS : CbX X (.type "int") intSD := by
  refine ⟨_, call_int_str, ?_⟩
  intro B G0 G H σ env vs ds d Q c r h k
  unfold intSD at h
  split at h
  · split at h
    · split at h
      · rename_i s n hn hl
        cases h
        cases r with
        | cons r1 r2 =>
          cases r2; cases r1
          exact ⟨_, _, rfl, hn, hl, k _ H G (Same.refl G) c (.int _)⟩
      · cases h
    · cases h
  · cases h
theorem cx_tup : CbX X (.type "tuple") tupD := by
  refine ⟨_, call_tuple_of, ?_⟩
  intro B G0 G H σ env vs ds d Q c r h k
  unfold tupD at h
  split at h
  · cases h
    cases r with
    | cons r1 r2 =>
      cases r2
      cases r1 with
      | lst g1 g2 =>
        refine ⟨_, _, rfl, .inl ⟨.inl (.inl (c.exG _ _ g1)), fun q hq => ?_⟩⟩
        have gq := c.exG.free hq
        exact k _ _ (upd G q _) (same_upd gq) (c.laid hq) (.tup upd_same (g2.up (same_upd gq)))
  · cases h
    cases r with
    | cons r1 r2 =>
      cases r2
      cases r1 with
      | tup g1 g2 => exact ⟨_, _, rfl, .inr ⟨.inl (.inl (c.exG _ _ g1)), k _ H G (Same.refl G) c (.tup g1 g2)⟩⟩
  · cases h
/-- list(x): a new list -/
@[simp] def lOf (f : DEnv → M D) (env : DEnv) : M (List D) := (f env).bind fun d => match d with
  | .lst xs => .ok xs
  | .tup xs => .ok xs
  | _ => .no
theorem dl_list {x : Expr} (hm : X.mg "list" = none) (h : DE X W x f) (hg : Gl X "list" := by rfl) (hs : starEach [x] X.env = (false, eval x X.env) :: starEach [] X.env := by rfl) (hpl : (backTo pos (starEach [] X.env)).any (·.1) = false := by rfl) :
    DLs X W (.Call (.Name "list" p) [x] [] pos) (lOf f) := by
  obtain ⟨_, a1, a2⟩ := h.ex
  refine ⟨_, pe_callTy call_list_of hg hm boot_list (pa_cons a1 pa_nil hs) (by decide) (by decide) hs hpl, fun B G0 G H σ env Q c p => ?_⟩
  refine a2 B G0 G H σ env _ c ?_
  simp only [lOf] at p
  cases o : f env with
  | no => rw [o] at p; exact p
  | ex n => rw [o] at p; exact p
  | ok d =>
    rw [o] at p
    intro v H1 G1 s1 c1 r1
    cases d with
    | lst xs =>
      cases r1 with
      | lst g1 g2 => exact ⟨_, _, rfl, .inl (.inl (.inl (c1.exG _ _ g1))), fun q hq => p q _ H1 G1 s1 c1 hq g2⟩
    | tup xs =>
      cases r1 with
      | tup g1 g2 => exact ⟨_, _, rfl, .inr (.inl (.inl (c1.exG _ _ g1))), fun q hq => p q _ H1 G1 s1 c1 hq g2⟩
    | int i => exact p.elim
    | non => exact p.elim
    | bl _ => exact p.elim
    | str _ => exact p.elim
    | scr _ => exact p.elim
/-! ### isinstance -/
def tyN : D → Option String
  | .non => some "NoneType"
  | .bl _ => some "bool"
  | .int _ => some "int"
  | .str _ => some "str"
  | .lst _ => some "list"
  | .tup _ => some "tuple"
  | .scr _ => none
def isiD (T : String) (d : D) : Option D := (tyN d).bind fun t => (kitB t T).map D.bl
theorem tyx_of {K : KW} {G H : Hp} {v : V} {d : D} {t : String} (s : Same G H) (r : Rep K G v d) (h : tyN d = some t) : TyX K.k H v (.type t) := by
  cases r <;> simp only [tyN, Option.some.injEq] at h <;> first | (subst h) | cases h
  · exact .base .non
  · exact .base (.bl _)
  · exact .base (.int _)
  · exact .base (.str _)
  · rename_i g1 _; exact .base (.lst (s _ _ g1))
  · rename_i g1 _; exact .base (.tup (s _ _ g1))
theorem de_isi {T : String} {x : Expr} {tn : Str} {pt : Pos} (hT : bootBuiltins tn = some (.type T)) (hm : X.mg "isinstance" = none) (hmt : X.mg tn = none) (h : DE X W x f) (hg : Gl X "isinstance" := by rfl) (hgt : Gl X tn := by rfl)
    (hs : starEach [x, .Name tn pt] X.env = (false, eval x X.env) :: starEach [.Name tn pt] X.env := by rfl) (hs2 : starEach [.Name tn pt] X.env = (false, eval (.Name tn pt) X.env) :: starEach [] X.env := by rfl)
    (hpl : (backTo pos (starEach [.Name tn pt] X.env)).any (·.1) = false := by rfl) (hn : tn ≠ "__name__" := by decide) (hd : (tn == ("__debug__" : Str)) = false := by decide) :
    DE X W (.Call (.Name "isinstance" p) [x, .Name tn pt] [] pos) (xUn (isiD T) f) := by
  obtain ⟨_, a1, a2⟩ := h.ex
  refine ⟨_, pe_callB call_isi hg hm boot_isinstance (pa_cons a1 (pa_cons (pe_bltn (v := .ty T) hgt hmt hT rfl hn hd) pa_nil hs2) hs) (by decide) (by decide) hs hpl, fun B G0 G H σ env Q c p => ?_⟩
  refine a2 B G0 G H σ env _ c ?_
  simp only [xUn] at p
  cases o : f env with
  | no => rw [o] at p; exact p
  | ex n => rw [o] at p; exact p
  | ok d =>
    rw [o] at p
    intro v H1 G1 s1 c1 r1
    simp only [M.bind] at p
    unfold isiD at p
    cases q : tyN d with
    | none => rw [q] at p; exact p.elim
    | some t =>
      rw [q] at p
      cases q2 : kitB t T with
      | none => simp [q2, PoE] at p
      | some b =>
        simp only [q2, Option.bind_some, Option.map_some, M.of] at p
        exact ⟨v, .ty T, _, _, b, rfl, .ty T, tyx_of c1.exG r1 q, kit_ty q2, p _ H1 G1 s1 c1 (.bl b)⟩
/-! ### and, or, not as values -/
@[simp] def xAnd (f g : DEnv → M D) (env : DEnv) : M D := (f env).bind fun d => match d with
  | .bl true => g env
  | .bl false => .ok (.bl false)
  | _ => .no
@[simp] def xOr (f g : DEnv → M D) (env : DEnv) : M D := (f env).bind fun d => match d with
  | .bl true => .ok (.bl true)
  | .bl false => g env
  | _ => .no
@[simp] def notD : D → Option D
  | .bl b => some (.bl (!b))
  | _ => none
theorem de_one {op} (h : DE X W a f) : DE X W (.BoolOp op [a] pos) f := by
  obtain ⟨_, a1, a2⟩ := h.ex
  exact ⟨_, pe_one a1, a2⟩
theorem de_and {rest : List Expr} (ha : DE X W a f) (hb : DE X W (.BoolOp .And (b :: rest) pos) g) : DE X W (.BoolOp .And (a :: b :: rest) pos) (xAnd f g) := by
  obtain ⟨_, a1, a2⟩ := ha.ex
  obtain ⟨_, b1, b2⟩ := hb.ex
  refine ⟨_, pe_and a1 b1, fun B G0 G H σ env Q c p => ?_⟩
  refine a2 B G0 G H σ env _ c ?_
  simp only [xAnd] at p
  cases o : f env with
  | no => rw [o] at p; exact p
  | ex n => rw [o] at p; exact p
  | ok d =>
    rw [o] at p
    intro v H1 G1 s1 c1 r1
    cases d with
    | bl k =>
      cases r1
      cases k with
      | true =>
        refine ⟨true, rfl, iteT (b2 B G0 G1 H1 σ env _ c1 ?_)⟩
        simp only [M.bind] at p
        cases o2 : g env with
        | no => rw [o2] at p; exact p
        | ex n => rw [o2] at p; exact p
        | ok d => rw [o2] at p; exact fun v H2 G2 s2 => p v H2 G2 (s1.trans s2)
      | false => exact ⟨false, rfl, iteF (p _ H1 G1 s1 c1 (.bl false))⟩
    | int i => exact p.elim
    | non => exact p.elim
    | str _ => exact p.elim
    | lst _ => exact p.elim
    | tup _ => exact p.elim
    | scr _ => exact p.elim
theorem de_or {rest : List Expr} (ha : DE X W a f) (hb : DE X W (.BoolOp .Or (b :: rest) pos) g) : DE X W (.BoolOp .Or (a :: b :: rest) pos) (xOr f g) := by
  obtain ⟨_, a1, a2⟩ := ha.ex
  obtain ⟨_, b1, b2⟩ := hb.ex
  refine ⟨_, pe_or a1 b1, fun B G0 G H σ env Q c p => ?_⟩
  refine a2 B G0 G H σ env _ c ?_
  simp only [xOr] at p
  cases o : f env with
  | no => rw [o] at p; exact p
  | ex n => rw [o] at p; exact p
  | ok d =>
    rw [o] at p
    intro v H1 G1 s1 c1 r1
    cases d with
    | bl k =>
      cases r1
      cases k with
      | false =>
        refine ⟨false, rfl, iteF (b2 B G0 G1 H1 σ env _ c1 ?_)⟩
        simp only [M.bind] at p
        cases o2 : g env with
        | no => rw [o2] at p; exact p
        | ex n => rw [o2] at p; exact p
        | ok d => rw [o2] at p; exact fun v H2 G2 s2 => p v H2 G2 (s1.trans s2)
      | true => exact ⟨true, rfl, iteT (p _ H1 G1 s1 c1 (.bl true))⟩
    | int i => exact p.elim
    | non => exact p.elim
    | str _ => exact p.elim
    | lst _ => exact p.elim
    | tup _ => exact p.elim
    | scr _ => exact p.elim
theorem de_not (ha : DE X W a f) : DE X W (.UnaryOp .Not a pos) (xUn notD f) := by
  obtain ⟨_, a1, a2⟩ := ha.ex
  refine ⟨_, pe_not a1, fun B G0 G H σ env Q c p => ?_⟩
  refine a2 B G0 G H σ env _ c ?_
  simp only [xUn] at p
  cases o : f env with
  | no => rw [o] at p; exact p
  | ex n => rw [o] at p; exact p
  | ok d =>
    rw [o] at p
    intro v H1 G1 s1 c1 r1
    cases d with
    | bl k => cases r1; exact ⟨k, rfl, p _ H1 G1 s1 c1 (.bl _)⟩
    | int i => exact p.elim
    | non => exact p.elim
    | str _ => exact p.elim
    | lst _ => exact p.elim
    | tup _ => exact p.elim
    | scr _ => exact p.elim
@[simp] def negD : D → Option D
  | .int i => some (.int (-i))
  | _ => none
theorem de_neg (ha : DE X W a f) : DE X W (.UnaryOp .USub a pos) (xUn negD f) := by
  obtain ⟨_, a1, a2⟩ := ha.ex
  refine ⟨_, pe_un un_neg a1, a2.un ?_⟩
  intro B G0 G H σ env x a d Q c r h k
  cases a with
  | int i => cases r; cases h; exact ⟨i, rfl, k _ H G (Same.refl G) c (.int _)⟩
  | bl _ => cases h
  | non => cases h
  | str _ => cases h
  | lst _ => cases h
  | tup _ => cases h
  | scr _ => cases h
end
end DL

namespace DL
open PySem PySem.Spec PyProof.Rows L2

/-! ### comprehensions -/
def wipeE (env : DEnv) : List Nat → DEnv
  | [] => env
  | v :: vs => (wipeE env vs).set v .un
theorem wipeE_len (env : DEnv) : ∀ vs, (wipeE env vs).length = env.length
  | [] => rfl
  | v :: vs => by unfold wipeE; rw [List.length_set, wipeE_len env vs]
theorem wipeE_out {env : DEnv} {i : Nat} : ∀ {vs : List Nat}, i ∉ vs → (wipeE env vs)[i]? = env[i]?
  | [], _ => rfl
  | v :: vs, h => by
    unfold wipeE
    rw [List.getElem?_set_ne (fun z => h (by simp [z])), wipeE_out (fun z => h (List.mem_cons_of_mem _ z))]
theorem wipeE_in {env : DEnv} {i : Nat} : ∀ {vs : List Nat}, i ∈ vs → i < env.length → (wipeE env vs)[i]? = some .un
  | v :: vs, h, hl => by
    unfold wipeE
    by_cases e : v = i
    · subst e; rw [List.getElem?_set_self (by rw [wipeE_len]; exact hl)]
    · rw [List.getElem?_set_ne e]
      rcases List.mem_cons.mp h with z | z
      · exact absurd z.symm e
      · exact wipeE_in z hl
theorem wipe_in {σ : L2.St} {i : Nat} : ∀ {vs : List Nat}, i ∈ vs → i < σ.length → (wipe σ vs)[i]? = some none
  | v :: vs, h, hl => by
    unfold wipe
    by_cases e : v = i
    · subst e; rw [List.getElem?_set_self (by rw [wipe_length]; exact hl)]
    · rw [List.getElem?_set_ne e]
      rcases List.mem_cons.mp h with z | z
      · exact absurd z.symm e
      · exact wipe_in z hl
theorem wipe_eq {σ σ2 : L2.St} {vs : List Nat} (hl : σ2.length = σ.length) (h : ∀ i, i ∉ vs → σ2[i]? = σ[i]?) : wipe σ2 vs = wipe σ vs := by
  refine List.ext_getElem? fun i => ?_
  by_cases hi : i ∈ vs
  · by_cases hr : i < σ.length
    · rw [wipe_in hi hr, wipe_in hi (by omega)]
    · rw [List.getElem?_eq_none (by rw [wipe_length]; omega), List.getElem?_eq_none (by rw [wipe_length]; omega)]
  · rw [wipe_out hi, wipe_out hi, h i hi]

/-! canonical readings: they don't lean on the context -/
def tEF (K : KW) (mg : Str → Option Value) (W : WX) (f : DEnv → M D) : TE := fun σ H Q => ∃ B G0 G env, Cn K B G0 G σ H env ∧ PoE K mg W B G0 G σ env Q (f env)
def tTF (K : KW) (mg : Str → Option Value) (W : WX) (f : DEnv → M Bool) : TT := fun σ H Q => ∃ B G0 G env, Cn K B G0 G σ H env ∧ PoT K mg W B G0 G σ env Q (f env)
def gF (K : KW) (is : List Nat) (h : DTgt) : TG := fun v σ H Q => ∃ B G0 G env e' d, Cn K B G0 G σ H env ∧ Rep K G v d ∧ h d env = some e' ∧ (∀ σ' H' G', Same G G' → Cn K B G0 G' σ' H' e' → But is σ σ' env e' → Q σ' H')
abbrev W0 : WX := fun _ _ _ _ => False
section
variable {X : Cx} {W : WX} {e : Expr}
theorem DE.canon {f : DEnv → M D} (h : DE X W e f) : PE X e (tEF (kw X) X.mg W f) := by
  obtain ⟨te, a1, a2⟩ := h.ex
  exact ⟨fun pins s σ H Q I ⟨B, G0, G, env, c, p⟩ => a1.run pins s σ H Q I (a2 B G0 G H σ env Q c p)⟩
theorem DT.canon {f : DEnv → M Bool} (h : DT X W e f) : PT X e (tTF (kw X) X.mg W f) := by
  obtain ⟨te, a1, a2⟩ := h.ex
  exact ⟨fun pins s σ H Q I ⟨B, G0, G, env, c, p⟩ => a1.run pins s σ H Q I (a2 B G0 G H σ env Q c p)⟩
theorem DG.canon {is : List Nat} {h : DTgt} (g : DG X is e h) : PG X e (gF (kw X) is h) := by
  obtain ⟨te, a1, a2⟩ := g.ex
  exact ⟨fun pins s σ H v u Q I r ⟨B, G0, G, env, e', d, c, rv, he, k⟩ => a1.run pins s σ H v u Q I r (a2 c rv he k)⟩
end

def cLoop (t : DTgt) (c : DEnv → M Bool) (f : DEnv → M D) (e0 : DEnv) : List D → M (List D)
  | [] => .ok []
  | d :: ds => match t d e0 with
    | none => .no
    | some e => match c e with
      | .ok true => match f e with
        | .ok y => match cLoop t c f e0 ds with
          | .ok ys => .ok (y :: ys)
          | _ => .no
        | _ => .no
      | .ok false => cLoop t c f e0 ds
      | _ => .no
def Cel.isOwned : Cel → Bool
  | .own _ => true
  | .dic _ => true
  | _ => false
@[simp] def lComp (vs : List Nat) (it : DEnv → M (List D)) (t : DTgt) (c : DEnv → M Bool) (f : DEnv → M D) (env : DEnv) : M (List D) :=
  (it env).bind fun ds => if ds.length < sizeLine ∧ (vs.all fun i => match env[i]? with | some s => !s.isOwned | none => true) = true then (match cLoop t c f (wipeE env vs) ds with | .ok ys => .ok ys | _ => .no) else .no
theorem cLoop_len {t : DTgt} {c : DEnv → M Bool} {f : DEnv → M D} {e0 : DEnv} : ∀ {ds ys : List D}, cLoop t c f e0 ds = .ok ys → ys.length ≤ ds.length
  | [], ys, h => by cases h; exact Nat.le_refl _
  | d :: ds, ys, h => by
    unfold cLoop at h
    split at h
    · cases h
    · split at h
      · split at h
        · split at h
          · rename_i q
            cases h
            have := cLoop_len q
            simp only [List.length_cons]
            omega
          · cases h
        · cases h
      · have := cLoop_len h
        simp only [List.length_cons]
        omega
      · cases h
section
variable {K : KW} {B B' G0 G G' H H' : Hp} {σ σ2 : L2.St} {env e' : DEnv} {p : Addr} {o : HO}
/-- no own thing of the slots stands at p -/
def Apart (σ : L2.St) (env : DEnv) (p : Addr) : Prop := ∀ (i : Nat) (s : Cel), env[i]? = some s → s.owned → σ[i]? ≠ some (some (.ref p))
theorem Cn.apart (c : Cn K B G0 G σ H env) (hp : H p = none) : Apart σ env p := fun i s e ho q => by
  obtain ⟨o, e1, h⟩ := c.cel i s e
  rw [q] at e1
  cases e1
  cases s with
  | un => exact ho
  | dat d => exact ho
  | fdc d => exact ho
  | exc d => exact ho
  | own xs => obtain ⟨p', vs, e2, _, _, hp', _⟩ := h; cases e2; rw [hp] at hp'; cases hp'
  | dic xs => obtain ⟨p', vs, e2, _, _, hp', _⟩ := h; cases e2; rw [hp] at hp'; cases hp'
theorem Cn.cels (c : Cn K B G0 G σ H env) (ap : Apart σ env p) (hH : ∀ a, a ≠ p → H' a = H a) (hB : ∀ a, a ≠ p → B' a = B a) : ∀ (i : Nat) (s : Cel), env[i]? = some s → ∃ o, σ[i]? = some o ∧ CelAt K B' G H' s o := fun i s e => by
  obtain ⟨o, e1, h⟩ := c.cel i s e
  refine ⟨o, e1, ?_⟩
  cases s with
  | un => trivial
  | dat d => exact h
  | fdc d => exact h
  | exc d => exact h
  | own xs =>
    obtain ⟨q, vs, e2, gp, bp, hp', r⟩ := h
    have ne : q ≠ p := fun z => ap i _ e trivial (by rw [e1, e2, z])
    exact ⟨q, vs, e2, gp, by rw [hB _ ne]; exact bp, by rw [hH _ ne]; exact hp', r⟩
  | dic xs =>
    obtain ⟨q, vs, e2, gp, bp, hp', r⟩ := h
    have ne : q ≠ p := fun z => ap i _ e trivial (by rw [e1, e2, z])
    exact ⟨q, vs, e2, gp, by rw [hB _ ne]; exact bp, by rw [hH _ ne]; exact hp', r⟩
/-- the thing at p, which nobody knows, is kept through what follows -/
theorem Cn.under (c : Cn K B G0 G σ H env) (hp : H p = some o) (gp : G p = none) (ap : Apart σ env p) : Cn K (upd B p o) G G σ H env where
  len := c.len
  exB := fun a x e => by
    by_cases z : a = p
    · subst z; rw [upd_same] at e; cases e; exact hp
    · rw [upd_ne z] at e; exact c.exB _ _ e
  exG := c.exG
  ex0 := Same.refl G
  new := fun a h => .inl h
  cel := c.cels ap (fun a z => rfl) fun a z => upd_ne z
  sep := c.sep
/-- the thing at p, which nobody knows, is changed -/
theorem Cn.poke (c : Cn K B G0 G σ H env) (gp : G p = none) (bp : B p = none) (ap : Apart σ env p) : Cn K B G0 G σ (upd H p o) env where
  len := c.len
  exB := fun a x e => by rw [upd_ne (ne_of_none e bp)]; exact c.exB _ _ e
  exG := fun a x e => by rw [upd_ne (ne_of_none e gp)]; exact c.exG _ _ e
  ex0 := c.ex0
  new := c.new
  cel := c.cels ap (fun a z => upd_ne z) fun a z => rfl
  sep := c.sep
def less (H : Hp) (p : Addr) : Hp := fun a => if a = p then none else H a
theorem less_ne {a : Addr} (h : a ≠ p) : less H p a = H a := by unfold less; rw [if_neg h]
theorem less_self : less H p p = none := by unfold less; rw [if_pos rfl]
theorem upd_less (h : H p = some o) : upd (less H p) p o = H := by
  funext a
  by_cases z : a = p
  · subst z; rw [upd_same, h]
  · rw [upd_ne z, less_ne z]
/-- .. is forgotten -/
theorem Cn.minus (c : Cn K B G0 G σ H env) (gp : G p = none) (bp : B p = none) (ap : Apart σ env p) : Cn K B G0 G σ (less H p) env where
  len := c.len
  exB := fun a x e => by rw [less_ne (ne_of_none e bp)]; exact c.exB _ _ e
  exG := fun a x e => by rw [less_ne (ne_of_none e gp)]; exact c.exG _ _ e
  ex0 := c.ex0
  new := c.new
  cel := c.cels ap (fun a z => less_ne z) fun a z => rfl
  sep := c.sep
/-- from the block back to the def -/
theorem Cn.back {vs is : List Nat} (c0 : Cn K B G0 G σ H env) (bp : B p = none) (c1 : Cn K (upd B p o) G G' σ2 H' e') (sub : ∀ i ∈ is, i ∈ vs) (bt : But is (wipe σ vs) σ2 (wipeE env vs) e')
    (no : ∀ i ∈ vs, ∀ s, env[i]? = some s → s.isOwned = false) : Cn K B G0 G' σ H' env where
  len := c0.len
  exB := (same_upd bp).trans c1.exB
  exG := c1.exG
  ex0 := c0.ex0.trans c1.ex0
  new := fun a h => by
    rcases c1.new a h with z | z
    · exact c0.new a z
    · exact .inr ((same_upd bp).free z)
  cel := fun i s e => by
    obtain ⟨o0, e0, h0⟩ := c0.cel i s e
    refine ⟨o0, e0, ?_⟩
    by_cases hi : i ∈ vs
    · have q := no i hi s e
      cases s with
      | un => trivial
      | dat d => obtain ⟨v, e2, r⟩ := h0; exact ⟨v, e2, r.up c1.ex0⟩
      | exc d => exact h0
      | fdc d => obtain ⟨q, vs, od, e2, gp, r⟩ := h0; exact ⟨q, vs, od, e2, c1.ex0 _ _ gp, L2.Paired.mapP r fun _ _ z => z.up c1.ex0⟩
      | own xs => cases q
      | dic xs => cases q
    · obtain ⟨b1, b2⟩ := bt.2 i fun z => hi (sub i z)
      rw [wipeE_out hi] at b1
      rw [wipe_out hi] at b2
      obtain ⟨o1, e1, h1⟩ := c1.cel i s (b1.trans e)
      rw [b2, e0] at e1
      cases e1
      cases s with
      | un => trivial
      | dat d => exact h1
      | fdc d => exact h1
      | exc d => exact h1
      | own xs => obtain ⟨q, vs, e2, gp, bp', hp', r⟩ := h1; exact ⟨q, vs, e2, gp, (same_upd bp).free bp', hp', r⟩
      | dic xs => obtain ⟨q, vs, e2, gp, bp', hp', r⟩ := h1; exact ⟨q, vs, e2, gp, (same_upd bp).free bp', hp', r⟩
  sep := c0.sep
theorem Cn.wiped (c : Cn K B G0 G σ H env) (vs : List Nat) : Cn K B G0 G (wipe σ vs) H (wipeE env vs) := by
  refine c.weak (by rw [wipe_length, wipeE_len, c.len]) fun i s e => ?_
  by_cases hi : i ∈ vs
  · have hl : i < env.length := by
      have := (List.getElem?_eq_some_iff.mp e).1
      rw [wipeE_len] at this
      exact this
    rw [wipeE_in hi hl] at e
    cases e
    exact .inl rfl
  · rw [wipeE_out hi] at e
    exact .inr ⟨e, wipe_out hi⟩
end
section
variable {K : KW} {mg : Str → Option Value} {W : WX}
theorem RdL.comp {wi : TI} {it : DEnv → M (List D)} {t : DTgt} {c : DEnv → M Bool} {f : DEnv → M D} {is vs : List Nat} (hi : RdI K mg W wi it) (sub : ∀ i ∈ is, i ∈ vs) :
    RdL K mg W (tLc wi (gF K is t) (tTF K mg W0 c) (tEF K mg W0 f) vs) (lComp vs it t c f) := by
  intro B G0 G H σ env Q cn po
  refine hi B G0 G H σ env _ cn ?_
  simp only [lComp] at po
  cases o : it env with
  | no => rw [o] at po; exact po
  | ex n => rw [o] at po; exact po
  | ok ds =>
    rw [o] at po
    simp only [M.bind] at po
    intro J H1 G1 s1 c1 jok
    split at po
    · rename_i hcond
      obtain ⟨hlen, hno⟩ := hcond
      have no : ∀ i ∈ vs, ∀ s, env[i]? = some s → s.isOwned = false := fun i hi s e => by
        have q := List.all_eq_true.mp hno i hi
        rw [e] at q
        simpa using q
      cases q : cLoop t c f (wipeE env vs) ds with
      | no => rw [q] at po; exact po.elim
      | ex n => rw [q] at po; exact po.elim
      | ok total =>
        rw [q] at po
        intro Dl hD
        have ap : Apart σ env Dl := c1.apart hD
        have bD : B Dl = none := c1.exB.free hD
        have gD : G1 Dl = none := c1.exG.free hD
        refine ⟨fun i m H => m = ds.length - i ∧ ∃ G2 acc ys zs, Same G1 G2 ∧ Cn K B G0 G2 σ H env ∧ H Dl = some (.lst acc) ∧ G2 Dl = none ∧ Reps K G2 acc ys ∧ ys.length ≤ i ∧ cLoop t c f (wipeE env vs) (ds.drop i) = .ok zs ∧ total = ys ++ zs,
          ⟨ds.length, rfl, G1, [], [], total, Same.refl _, c1.poke gD bD ap, upd_same, gD, .nil, Nat.zero_le _, q, rfl⟩, ?_⟩
        rintro i m H2 ⟨rfl, G2, acc, ys, zs, s2, c2, hD2, gD2, ra, hys, hz, ht⟩
        by_cases hi : i < ds.length
        · have hd : ds[i]? = some ds[i] := List.getElem?_eq_getElem hi
          obtain ⟨j1, _⟩ := jok B G0 G2 σ H2 env i s2 c2
          obtain ⟨go, _⟩ := j1 _ hd
          rw [List.drop_eq_getElem_cons hi] at hz
          refine .inr ⟨go, fun H => ∃ G2 acc ys zs, Same G1 G2 ∧ Cn K B G0 G2 σ H env ∧ H Dl = some (.lst acc) ∧ G2 Dl = none ∧ Reps K G2 acc ys ∧ ys.length ≤ i + 1 ∧ cLoop t c f (wipeE env vs) (ds.drop (i + 1)) = .ok zs ∧ total = ys ++ zs,
            fun H' h => ⟨ds.length - (i + 1), by omega, rfl, h⟩, fun x H3 y => ?_⟩
          have cU := c2.under hD2 gD2 ap
          obtain ⟨k1, _⟩ := jok (upd B Dl (.lst acc)) G2 G2 σ H2 env i s2 cU
          obtain ⟨G3, s3, c3, r3⟩ := (k1 _ hd).2 x H3 y
          have key : ∀ {G4 : Hp} {σ' : L2.St} {H4 : Hp} {e4 : DEnv}, Cn K (upd B Dl (.lst acc)) G2 G4 σ' H4 e4 → G4 Dl = none := fun {G4 σ' H4 e4} c4 => by
            cases z : G4 Dl with
            | none => rfl
            | some w =>
              rcases c4.new Dl (by rw [z]; intro k; cases k) with k | k
              · exact absurd gD2 k
              · rw [upd_same] at k; cases k
          unfold cLoop at hz
          cases kt : t ds[i] (wipeE env vs) with
          | none => rw [kt] at hz; cases hz
          | some e1 =>
            rw [kt] at hz
            refine ⟨upd B Dl (.lst acc), G2, G3, wipeE env vs, e1, ds[i], c3.wiped vs, r3, kt, fun σ4 H4 G4 s4 c4 bt => ⟨wipe_eq ?_ ?_, ?_⟩⟩
            · rw [c4.len, bt.1, wipeE_len, c2.len]
            · intro j hj
              rw [(bt.2 j fun z => hj (sub j z)).2, wipe_out hj]
            · refine ⟨upd B Dl (.lst acc), G2, G4, e1, c4, ?_⟩
              simp only at hz
              cases kc : c e1 with
              | no => rw [kc] at hz; cases hz
              | ex n => rw [kc] at hz; cases hz
              | ok b =>
                rw [kc] at hz
                intro H5 G5 s5 c5
                cases b with
                | false =>
                  refine iteF ⟨G5, acc, ys, zs, s2.trans ((s3.trans s4).trans s5), c2.back bD c5 sub bt no, c5.exB _ _ upd_same, key c5, ra.up ((s3.trans s4).trans s5), by omega, hz, ht⟩
                | true =>
                  refine iteT ⟨upd B Dl (.lst acc), G2, G5, e1, c5, ?_⟩
                  simp only at hz
                  cases kf : f e1 with
                  | no => rw [kf] at hz; cases hz
                  | ex n => rw [kf] at hz; cases hz
                  | ok y =>
                    rw [kf] at hz
                    intro v H6 G6 s6 c6 r6
                    simp only at hz
                    cases kl : cLoop t c f (wipeE env vs) (ds.drop (i + 1)) with
                    | no => rw [kl] at hz; cases hz
                    | ex n => rw [kl] at hz; cases hz
                    | ok zs' =>
                      rw [kl] at hz
                      cases hz
                      have cB := c2.back bD c6 sub bt no
                      have s26 := ((s3.trans s4).trans s5).trans s6
                      refine ⟨acc, c6.exB _ _ upd_same, by rw [ra.length]; omega, G6, acc ++ [v], ys ++ [y], zs', s2.trans s26, cB.poke (key c6) bD ap, upd_same, key c6, (ra.up s26).append (.one r6), (by simp; omega), rfl, (by rw [ht]; simp)⟩
        · refine .inl ⟨(jok B G0 G2 σ H2 env i s2 c2).2 (by omega), ?_⟩
          rw [List.drop_of_length_le (by omega)] at hz
          cases hz
          rw [List.append_nil] at ht
          subst ht
          have z := po Dl acc (less H2 Dl) G2 (s1.trans s2) (c2.minus gD2 bD ap) less_self ra
          rw [upd_less hD2] at z
          exact z
    · exact po.elim
end
section
variable {X : Cx} {W : WX} {elt tg iter c : Expr}
/-- [elt for tg in iter] -/
theorem dl_comp {scope : Scope} {own : List (Str × Nat)} {pos : Pos} {it : DEnv → M (List D)} {t : DTgt} {f : DEnv → M D} {is : List Nat} (own' : List (Str × Nat)) (ho : own' = own) (hc : X.calm = true) (hN : X.N.Nodup) (hi : DI X W tg iter it) (ok : BlkOk X.N X.env.scope scope own)
    (hg : ∀ (s : Shared) (H : Hp) (C : Addr) (cl : List (Str × Addr)) (fp : List Addr), DG (X.blk s H scope (compEnvC scope cl C X.env) fp) is tg t)
    (he : ∀ (s : Shared) (H : Hp) (C : Addr) (cl : List (Str × Addr)) (fp : List Addr), DE (X.blk s H scope (compEnvC scope cl C X.env) fp) W0 elt f)
    (sub : ∀ i ∈ is, i ∈ own.map (·.2)) (hs : ∀ x, foldedSetIterable iter X.env x = pure x := by intro _; rfl) :
    DLs X W (.ListComp elt [⟨tg, iter, [], 0⟩] scope pos) (lComp (own.map (·.2)) it t (fun _ => .ok true) f) := by
  obtain ⟨wi, i1, i2⟩ := hi.ex
  refine ⟨_, pe_lc (tt := tTF (kw X) X.mg W0 (fun _ => .ok true)) hc hN i1 ok (fun s H C cl fp => (hg s H C cl fp).canon) (fun s H C cl fp => ?_) (fun s H C cl fp => (he s H C cl fp).canon) hs, RdL.comp i2 sub⟩
  exact ⟨fun pins s σ H Q I ⟨B, G0, G, env, cn, p⟩ => wpAny_tests_nil ⟨H, I, p H G (Same.refl G) cn⟩⟩
/-- [elt for tg in iter if c] -/
theorem dl_compIf {scope : Scope} {own : List (Str × Nat)} {pos : Pos} {it : DEnv → M (List D)} {t : DTgt} {k : DEnv → M Bool} {f : DEnv → M D} {is : List Nat} (own' : List (Str × Nat)) (ho : own' = own) (hc : X.calm = true) (hN : X.N.Nodup) (hi : DI X W tg iter it) (ok : BlkOk X.N X.env.scope scope own)
    (hg : ∀ (s : Shared) (H : Hp) (C : Addr) (cl : List (Str × Addr)) (fp : List Addr), DG (X.blk s H scope (compEnvC scope cl C X.env) fp) is tg t)
    (ht : ∀ (s : Shared) (H : Hp) (C : Addr) (cl : List (Str × Addr)) (fp : List Addr), DT (X.blk s H scope (compEnvC scope cl C X.env) fp) W0 c k)
    (he : ∀ (s : Shared) (H : Hp) (C : Addr) (cl : List (Str × Addr)) (fp : List Addr), DE (X.blk s H scope (compEnvC scope cl C X.env) fp) W0 elt f)
    (sub : ∀ i ∈ is, i ∈ own.map (·.2)) (hs : ∀ x, foldedSetIterable iter X.env x = pure x := by intro _; rfl) :
    DLs X W (.ListComp elt [⟨tg, iter, [c], 0⟩] scope pos) (lComp (own.map (·.2)) it t k f) := by
  obtain ⟨wi, i1, i2⟩ := hi.ex
  exact ⟨_, pe_lc hc hN i1 ok (fun s H C cl fp => (hg s H C cl fp).canon) (fun s H C cl fp => pts_one (ht s H C cl fp).canon) (fun s H C cl fp => (he s H C cl fp).canon) hs, RdL.comp i2 sub⟩
end
end DL

namespace DL
open PySem PySem.Spec PyProof.Rows L2

/-! ### raise -/
/-- the own exception class that the module's name x holds -/
structure ExcF (K : PySem.W.Frag) (mg : Str → Option Value) (x : Str) : Prop where
  ex : ∃ C, mg x = some (.ref C) ∧ PySem.W.excIn K C [.type "ValueError", .type "Exception", .type "BaseException", .type "object"] "ValueError.__new__" = true ∧ PySem.W.keepIn K (.ref C) = true ∧
    PySem.W.subIn K (.ref C) (.type "BaseException") = some true ∧ PySem.W.typeIn K (.ref C) = some (.type "type")
@[simp] def sRaise (c : Str) : DStm := fun env => .ex c env
section
variable {X : Cx} {W : WX} {e : Expr} {f g : DEnv → M D} {pos p : Pos}
theorem ds_raise {x m : Str} {j : Nat} {p p2 pos pos2 : Pos} (T : ExcF X.K X.mg x) (tk : Takes X W) (hc : X.calm = true := by rfl) (hg : Gl X x := by rfl) (hdb : (x == ("__debug__" : Str)) = false := by decide) :
    DS X W (.Raise (some (.Call (.Name x p) [.Constant (.str m) j p2] [] pos)) none pos2) (sRaise x) := by
  obtain ⟨C, h1, h2, h3, h4, h5⟩ := T.ex
  refine ⟨_, ps_raise hc tk (pmk_own PySem.F.excBase_ValueError h2 h1 h3 (raises_own h4 h5) hg hdb), fun B G0 G H σ env E c po => ?_⟩
  exact po _ σ H G h1 c
/-! ### name = [..] -/
theorem ds_setC (i : Nat) {x : Str} {pos' : Pos} {elt tg iter : Expr} {ifs : List Expr} {scope : Scope} {own : List (Str × Nat)} {it : DEnv → M (List D)} {t : DTgt} {k : DEnv → M Bool} {is : List Nat} (hN : X.N.Nodup) (hc : X.calm = true) (hx : X.env.scope.names.lookup x = some .local) (hsw : swapsWith (.ListComp elt [⟨tg, iter, ifs, 0⟩] scope p) (some (.Name x pos')) pos.line X.env = pure true)
    (hi : DI X W tg iter it) (ok : BlkOk X.N X.env.scope scope own)
    (hg : ∀ (s : Shared) (H : Hp) (C : Addr) (cl : List (Str × Addr)) (fp : List Addr), DG (X.blk s H scope (compEnvC scope cl C X.env) fp) is tg t)
    (ht : ∀ (s : Shared) (H : Hp) (C : Addr) (cl : List (Str × Addr)) (fp : List Addr), PTs (X.blk s H scope (compEnvC scope cl C X.env) fp) ifs (tTF (kw X) X.mg W0 k))
    (he : ∀ (s : Shared) (H : Hp) (C : Addr) (cl : List (Str × Addr)) (fp : List Addr), DE (X.blk s H scope (compEnvC scope cl C X.env) fp) W0 elt f)
    (sub : ∀ i ∈ is, i ∈ own.map (·.2)) (hn : X.N[i]? = some x := by rfl) (hs : ∀ x, foldedSetIterable iter X.env x = pure x := by intro _; rfl) :
    DS X W (.Assign [.Name x pos'] (.ListComp elt [⟨tg, iter, ifs, 0⟩] scope p) pos) (sSet i (xL (lComp (own.map (·.2)) it t k f))) := by
  obtain ⟨wi, i1, i2⟩ := hi.ex
  refine ⟨_, ps_setLc (g := gF (kw X) is t) (tt := tTF (kw X) X.mg W0 k) (te := tEF (kw X) X.mg W0 f) hc hN hn hx hsw i1 ok (fun s H C cl fp => (hg s H C cl fp).canon) ht (fun s H C cl fp => (he s H C cl fp).canon) hs, fun B G0 G H σ env E c po => ?_⟩
  refine RdL.dat (RdL.comp i2 sub) B G0 G H σ env _ c ?_
  simp only [sSet] at po
  cases o : xL (lComp (own.map (·.2)) it t k f) env with
  | no => rw [o] at po; exact po
  | ex n => rw [o] at po; exact PoX.s po
  | ok d =>
    rw [o] at po
    exact fun v H1 G1 s1 c1 r1 => po _ H1 G1 s1 (c1.set i r1)
theorem ds_ownC (i : Nat) {x : Str} {pos' : Pos} {elt tg iter : Expr} {ifs : List Expr} {scope : Scope} {own : List (Str × Nat)} {it : DEnv → M (List D)} {t : DTgt} {k : DEnv → M Bool} {is : List Nat} (hN : X.N.Nodup) (hc : X.calm = true) (hx : X.env.scope.names.lookup x = some .local) (hsw : swapsWith (.ListComp elt [⟨tg, iter, ifs, 0⟩] scope p) (some (.Name x pos')) pos.line X.env = pure true)
    (hi : DI X W tg iter it) (ok : BlkOk X.N X.env.scope scope own)
    (hg : ∀ (s : Shared) (H : Hp) (C : Addr) (cl : List (Str × Addr)) (fp : List Addr), DG (X.blk s H scope (compEnvC scope cl C X.env) fp) is tg t)
    (ht : ∀ (s : Shared) (H : Hp) (C : Addr) (cl : List (Str × Addr)) (fp : List Addr), PTs (X.blk s H scope (compEnvC scope cl C X.env) fp) ifs (tTF (kw X) X.mg W0 k))
    (he : ∀ (s : Shared) (H : Hp) (C : Addr) (cl : List (Str × Addr)) (fp : List Addr), DE (X.blk s H scope (compEnvC scope cl C X.env) fp) W0 elt f)
    (sub : ∀ i ∈ is, i ∈ own.map (·.2)) (hn : X.N[i]? = some x := by rfl) (hs : ∀ x, foldedSetIterable iter X.env x = pure x := by intro _; rfl) :
    DS X W (.Assign [.Name x pos'] (.ListComp elt [⟨tg, iter, ifs, 0⟩] scope p) pos) (sOwn i (lComp (own.map (·.2)) it t k f)) := by
  obtain ⟨wi, i1, i2⟩ := hi.ex
  refine ⟨_, ps_setLc (g := gF (kw X) is t) (tt := tTF (kw X) X.mg W0 k) (te := tEF (kw X) X.mg W0 f) hc hN hn hx hsw i1 ok (fun s H C cl fp => (hg s H C cl fp).canon) ht (fun s H C cl fp => (he s H C cl fp).canon) hs, fun B G0 G H σ env E c po => ?_⟩
  refine RdL.comp i2 sub B G0 G H σ env _ c ?_
  simp only [sOwn] at po
  cases o : lComp (own.map (·.2)) it t k f env with
  | no => rw [o] at po; exact po
  | ex n => rw [o] at po; exact PoX.s po
  | ok d =>
    rw [o] at po
    intro q vs H1 G1 s1 c1 hq r1
    exact po _ _ G1 s1 (c1.setOwn i hq ⟨q, vs, rfl, c1.exG.free hq, c1.exB.free hq, upd_same, r1⟩)
theorem pts_no {K : KW} {mg : Str → Option Value} : PTs X [] (tTF K mg W0 (fun _ => .ok true)) :=
  ⟨fun pins s σ H Q I ⟨B, G0, G, env, cn, p⟩ => wpAny_tests_nil ⟨H, I, p H G (Same.refl G) cn⟩⟩
theorem pts_if {c : Expr} {k : DEnv → M Bool} (h : DT X W0 c k) : PTs X [c] (tTF (kw X) X.mg W0 k) := pts_one h.canon
/-! ### how many targets -/
theorem gsl_nil {ds : List D} {env e' : DEnv} (h : gsNil ds env = some e') : ds.length = 0 := by
  cases ds with
  | nil => rfl
  | cons _ _ => cases h
theorem gsl_cons {t : DTgt} {u : List D → DEnv → Option DEnv} {n : Nat} (hu : ∀ ds env e', u ds env = some e' → ds.length = n) : ∀ ds env e', gsCons t u ds env = some e' → ds.length = n + 1 := by
  intro ds env e' h
  cases ds with
  | nil => cases h
  | cons d ds =>
    simp only [gsCons, Option.bind_eq_some_iff] at h
    obtain ⟨e1, _, h2⟩ := h
    simp [hu _ _ _ h2]
/-! ### texts -/
def strsOf : List D → Option (List Str)
  | [] => some []
  | .str s :: r => (strsOf r).map (s :: ·)
  | _ => none
theorem strsOf_map : ∀ {xs : List D} {ns : List Str}, strsOf xs = some ns → xs = ns.map D.str
  | [], ns, h => by cases h; rfl
  | .str i :: r, ns, h => by
    simp only [strsOf, Option.map_eq_some_iff] at h
    obtain ⟨ms, h1, rfl⟩ := h
    rw [strsOf_map h1]
    rfl
  | .non :: _, _, h => by cases h
  | .bl _ :: _, _, h => by cases h
  | .int _ :: _, _, h => by cases h
  | .lst _ :: _, _, h => by cases h
  | .tup _ :: _, _, h => by cases h
  | .scr _ :: _, _, h => by cases h
theorem strsOf_strs : ∀ ns : List Str, strsOf (ns.map D.str) = some ns
  | [] => rfl
  | n :: r => by simp [strsOf, strsOf_strs r]
end
def fuel : Nat := 4000000
def intAD (ds : List D) : Option D := match intD ds with
  | some d => some d
  | none => intSD ds
theorem cx_intA {X : Cx} : CbX X (.type "int") intAD := by
  obtain ⟨r1, a1, a2⟩ := (cx_int (X := X)).ex
  obtain ⟨r2, b1, b2⟩ := (cx_intS (X := X)).ex
  refine ⟨_, a1.or b1, ?_⟩
  intro B G0 G H σ env vs ds d Q c r h k
  unfold intAD at h
  split at h
  · rename_i q
    cases h
    exact .inl (a2 _ _ _ _ _ _ _ _ _ _ c r q k)
  · exact .inr (b2 _ _ _ _ _ _ _ _ _ _ c r h k)
/-! ### the end -/
/-- the law's promise -/
def spEnd (K : PySem.W.Frag) : Sp := fun vs H Q _ => ∃ (a : Addr) (ns : List Int), vs = [.ref a] ∧ SqL K H a (ns.map V.int) ∧ ns.length ≤ 63 ∧ ∀ H', Q (.bl true) H'
theorem sp_law {w : World} {K : PySem.W.Frag} {mg : Str → Option Value} {g : List D → M D} (h : ∀ ns : List Int, ns.length ≤ 63 → g [.scr ns] = .ok (.bl true)) (vs : List V) (H : Hp) (Q : VK) (E : XK) (x : spEnd K vs H Q E) : spD ⟨K, w⟩ mg 1 g vs H Q E := by
  obtain ⟨a, ns, rfl, hS, hl, q⟩ := x
  refine ⟨rfl, H, [.scr ns], Same.refl H, .cons (.scr hS) .nil, ?_⟩
  rw [h ns hl]
  intro v H' G' _ _ _ _ r
  cases r
  exact q H'
theorem cx_no {P : Program} {w : World} {H : Hp} {s : Shared} {e : Value} {s' : Shared} (h : L2.CX P w [] H s (fun _ _ _ => False) e s') : False := by
  obtain ⟨_, _, _, _, _, _, _, _, _, _, _, _, z⟩ := h
  exact z
theorem glob_str {K : PySem.W.Frag} {mg : Str → Option Value} {h : Heap} {x : Str} {v : Value} (X : K.In h) (G : h.Ns mainGlobals mg) (a : PySem.W.nsIn K mainGlobals x = some (some v)) : mg x = some v := PySem.W.mg_of X G a
end DL

namespace DL
open PySem PySem.Spec PyProof.Rows L2

/-! ### methods of texts -/
def asS : D → M Str
  | .str s => .ok s
  | _ => .no
/-- a method of a text with one argument -/
@[simp] def xM1 (h : D → D → Option D) (f g : DEnv → M D) (env : DEnv) : M D := (f env).bind fun a => (asS a).bind fun _ => (g env).bind fun b => .of (h a b)
/-- one that gives a new list -/
@[simp] def lM1 (h : D → D → Option (List D)) (f g : DEnv → M D) (env : DEnv) : M (List D) := (f env).bind fun a => (asS a).bind fun _ => (g env).bind fun b => .of (h a b)
section
variable {K : KW} {mg : Str → Option Value} {W : WX} {ta tb te : TE} {f g : DEnv → M D}
theorem asS_ok {d : D} {s : Str} (h : asS d = .ok s) : d = .str s := by
  cases d <;> simp [asS] at h
  rw [h]
theorem asS_ex {d : D} {c : Str} (h : asS d = .ex c) : False := by
  cases d <;> simp [asS] at h
theorem RdE.m1 {r : V → List V → Hp → VK → Prop} {h : D → D → Option D} (ha : RdE K mg W ta f) (hb : RdE K mg W tb g) (hr : OpD K (fun x y H Q => r x [y] H Q) h) :
    RdE K mg W (tM1 r ta tb) (xM1 h f g) := by
  intro B G0 G H σ env Q c p
  refine ha B G0 G H σ env _ c ?_
  simp only [xM1] at p
  cases e : f env with
  | no => rw [e] at p; exact p
  | ex n => rw [e] at p; exact p
  | ok a =>
    rw [e] at p
    intro v1 H1 G1 s1 c1 r1
    simp only [M.bind] at p
    cases e2 : asS a with
    | no => rw [e2] at p; exact p.elim
    | ex n => exact (asS_ex e2).elim
    | ok s =>
      rw [e2] at p
      simp only [M.bind] at p
      have hs := asS_ok e2
      subst hs
      refine ⟨⟨s, by cases r1; rfl⟩, hb B G0 G1 H1 σ env _ c1 ?_⟩
      cases e3 : g env with
      | no => rw [e3] at p; exact p
      | ex n => rw [e3] at p; exact p
      | ok b =>
        rw [e3] at p
        intro v2 H2 G2 s2 c2 r2
        simp only [M.bind] at p
        cases e4 : h (.str s) b with
        | none => rw [e4] at p; exact p.elim
        | some d =>
          rw [e4] at p
          exact hr _ _ _ _ _ _ _ _ _ _ _ _ c2 (r1.up s2) r2 e4 fun v H' G' s' c' r' => p v H' G' ((s1.trans s2).trans s') c' r'
theorem RdL.m1 {h : D → D → Option (List D)} {r : V → List V → Hp → VK → Prop} (ha : RdE K mg W ta f) (hb : RdE K mg W tb g)
    (hr : ∀ (G H : Hp) (x y : V) (a b : D) (ds : List D) (Q : VK), Same G H → Rep K G x a → Rep K G y b → h a b = some ds → (∃ vs, Reps K G vs ds ∧ ((∀ p, H p = none → Q (.ref p) (upd H p (.lst vs))) → r x [y] H Q))) :
    RdL K mg W (tM1 r ta tb) (lM1 h f g) := by
  intro B G0 G H σ env Q c p
  refine ha B G0 G H σ env _ c ?_
  simp only [lM1] at p
  cases e : f env with
  | no => rw [e] at p; exact p
  | ex n => rw [e] at p; exact p
  | ok a =>
    rw [e] at p
    intro v1 H1 G1 s1 c1 r1
    simp only [M.bind] at p
    cases e2 : asS a with
    | no => rw [e2] at p; exact p.elim
    | ex n => exact (asS_ex e2).elim
    | ok s =>
      rw [e2] at p
      simp only [M.bind] at p
      have hs := asS_ok e2
      subst hs
      refine ⟨⟨s, by cases r1; rfl⟩, hb B G0 G1 H1 σ env _ c1 ?_⟩
      cases e3 : g env with
      | no => rw [e3] at p; exact p
      | ex n => rw [e3] at p; exact p
      | ok b =>
        rw [e3] at p
        intro v2 H2 G2 s2 c2 r2
        simp only [M.bind] at p
        cases e4 : h (.str s) b with
        | none => rw [e4] at p; exact p.elim
        | some d =>
          rw [e4] at p
          obtain ⟨vs, rv, k⟩ := hr G2 H2 v1 v2 _ _ d Q c2.exG (r1.up s2) r2 e4
          exact k fun q hq => p q vs H2 G2 (s1.trans s2) c2 hq rv
end
def splitL : D → D → Option (List D)
  | .str a, .str b => if (b.length == 0) = false ∧ a.length + 2 ≤ sizeLine then some ((Txt.split a b).map D.str) else none
  | _, _ => none
def joinD : D → D → Option D
  | .str a, .lst xs => match strsOf xs with
    | some ys => if (ys.map (·.length)).sum + ys.length * a.length ≤ 16777216 then some (.str (Txt.join a ys)) else none
    | none => none
  | _, _ => none
section
variable {X : Cx} {W : WX} {o e : Expr} {f g : DEnv → M D} {apos pos : Pos}
theorem dl_split (ho : DE X W o f) (he : DE X W e g) (hs : starEach [e] X.env = [(false, eval e X.env)] := by rfl) (hbase : attributeBase o "split" X.env (eval o X.env) = eval o X.env := by rfl) (hline : (apos.endLine == pos.line) = true := by rfl) :
    DLs X W (.Call (.Attribute o "split" apos) [e] [] pos) (lM1 splitL f g) := by
  obtain ⟨_, a1, a2⟩ := ho.ex
  obtain ⟨_, b1, b2⟩ := he.ex
  refine ⟨_, pe_split a1 b1 hs hbase hline, RdL.m1 a2 b2 ?_⟩
  intro G H x y a b ds Q s ra rb h
  unfold splitL at h
  split at h
  · split at h
    · rename_i hc
      cases h
      cases ra; cases rb
      exact ⟨_, Reps.strs _, fun k => ⟨_, _, rfl, rfl, hc.1, hc.2, k⟩⟩
    · cases h
  · cases h
theorem de_join (ho : DE X W o f) (he : DE X W e g) (hs : starEach [e] X.env = [(false, eval e X.env)] := by rfl) (hbase : attributeBase o "join" X.env (eval o X.env) = eval o X.env := by rfl) (hline : (apos.endLine == pos.line) = true := by rfl) :
    DE X W (.Call (.Attribute o "join" apos) [e] [] pos) (xM1 joinD f g) := by
  obtain ⟨_, a1, a2⟩ := ho.ex
  obtain ⟨_, b1, b2⟩ := he.ex
  refine ⟨_, pe_join a1 b1 hs hbase hline, RdE.m1 a2 b2 ?_⟩
  intro B G0 G H σ env x y a b d Q c ra rb h k
  unfold joinD at h
  split at h
  · split at h
    · split at h
      · rename_i xs ys q hc
        cases h
        have e := strsOf_map q
        subst e
        cases ra
        cases rb with
        | lst g1 g2 =>
          have e2 := Reps.of_strs g2
          subst e2
          exact ⟨_, _, ys, rfl, rfl, .inl (.inl (.inl (c.exG _ _ g1))), hc, k _ H G (Same.refl G) c (.str _)⟩
      · cases h
    · cases h
  · cases h
end

/-! ### try, where nothing is raised -/
@[simp] def noX : DOut → DOut
  | .ex _ _ => .no
  | o => o
@[simp] def sThru (g : DStm) : DStm := fun env => noX (g env)
section
variable {X : Cx} {W : WX} {body : List Stmt} {h₀ : ExceptHandler} {hs : List ExceptHandler} {g : DStm} {pos : Pos}
theorem ds_thru (hb : DSs X.nox W0 body g) : DS X W (.Try body (h₀ :: hs) [] [] pos) (sThru g) := by
  obtain ⟨_, a1, a2⟩ := hb.ex
  refine ⟨_, ps_try_thru0 a1, fun B G0 G H σ env E c po => ?_⟩
  refine a2 B G0 G H σ env E c ?_
  simp only [sThru] at po
  cases o : g env with
  | ex n e => rw [o] at po; exact po.elim
  | nx e => rw [o] at po; exact po
  | rt e => rw [o] at po; exact po
  | bk e => rw [o] at po; exact po
  | ct e => rw [o] at po; exact po
  | no => rw [o] at po; exact po
end
end DL

/-! dicts whose keys are whole numbers or tuples of any depth, in one dict -/
namespace DX
open PySem PySem.Spec PyProof.Rows L2 DL
/-- v is the key k: a whole number or a tuple -/
structure IsK (h : Heap) (k : NestedKey) (v : Value) : Prop where
  is : NestedIs h k v
  dep : k.depth ≤ 8
  top : (∃ i t, v = .int i t) ∨ ∃ a, v = .ref a
section
variable {prog : Program} {w : World} {A : Around} {E : Value → Shared → Prop} {s : Shared} {es : Array DictEntry} {xs : List Ent} {k : NestedKey} {v : Value}
theorem ent_at (he : es.toList = xs.map (entD w)) (j : Nat) : es[j]? = (xs[j]?).map (entD w) := by
  rw [← Array.getElem?_toList, he, List.getElem?_map]
def spots (w : World) (es : Array DictEntry) (k : NestedKey) : List Nat := placesWithHash es.size (fun i => es[i]?.map (·.hash)) (k.hash w)
theorem spots_mem (he : es.toList = xs.map (entD w)) {i : Nat} (h : i ∈ spots w es k) : ∃ x, xs[i]? = some x ∧ es[i]? = some (entD w x) ∧ x.1.hash w = k.hash w := by
  unfold spots placesWithHash at h
  obtain ⟨h1, h2⟩ := List.mem_filter.mp h
  dsimp only at h2
  have h3 := ent_at (w := w) he i
  cases q : xs[i]? with
  | none =>
    rw [h3, q] at h2
    simp at h2
  | some x =>
    rw [q] at h3
    refine ⟨x, rfl, h3, ?_⟩
    rw [h3] at h2
    simpa [entD] using h2
theorem spots_in (he : es.toList = xs.map (entD w)) {i : Nat} {x : Ent} (h : xs[i]? = some x) (hk : x.1 = k) : i ∈ spots w es k := by
  unfold spots placesWithHash
  have h3 := ent_at (w := w) he i
  rw [h] at h3
  refine List.mem_filter.mpr ⟨List.mem_range.mpr ?_, ?_⟩
  · have := (Array.getElem?_eq_some_iff.mp h3).1
    exact this
  · dsimp only
    rw [h3]
    simp [entD, hk]
theorem spots_nodup : (spots w es k).Nodup := List.Pairwise.filter _ List.nodup_range
/-- u == v of two keys -/
theorem eq_keys {x : NestedKey} {u : Value} {Q : Bool → Shared → Prop} (hu : A.units + 8 < cLine) (hx : IsK s.heap x u) (hk : IsK s.heap k v) (h : Q (decide (x = k)) s) : wpAny (model prog w) A (eqBool u v) Q E s := by
  have := eqAt_key x k A s u v hx.is hk.is (by have := hx.dep; omega)
  exact this _ _ _ _ (by rw [← NestedKey.decide_eq]; exact h)
theorem plain_find {d : Addr} {o : Obj} {ep : Nat} {Q : Option Nat → Shared → Prop} (hu : A.units + 8 < cLine) (hk : IsK s.heap k v) (ho : s.heap.get? d = some o) (hd : o.data = .dict es ep) (he : es.toList = xs.map (entD w))
    (his : ∀ x ∈ xs, IsK s.heap x.1 x.2.1) (hn : (xs.map (·.1)).Nodup) (hnone : (∀ x ∈ xs, x.1 ≠ k) → Q none s) (hsome : ∀ (j : Nat) (x : Ent), xs[j]? = some x → x.1 = k → Q (some j) s) :
    wpAny (model prog w) A (dictWalkPlain d v (k.hash w) es (spots w es k)) Q E s := by
  unfold dictWalkPlain
  refine wpAny_bind ?_
  refine wpAny_forIn_list _ (fun rest b s' => s' = s ∧ b = (none, ()) ∧ (∀ i ∈ rest, i ∈ spots w es k) ∧ (∀ i ∈ spots w es k, i ∉ rest → ∀ x, xs[i]? = some x → x.1 ≠ k)) _ ?_ ?_ _ _ ⟨rfl, rfl, fun i h => h, fun i h1 h2 => absurd h1 h2⟩
  · rintro i rest b s' ⟨rfl, rfl, h1, h2⟩
    obtain ⟨x, e1, e2, e3⟩ := spots_mem he (h1 i List.mem_cons_self)
    rw [e2]
    dsimp only
    have hh : ((entD w x).hash == k.hash w) = true := by simp [entD, e3]
    rw [if_pos hh]
    refine wpAny_bind (wpAny_dictEpoch ho hd (wpAny_bind (eq_keys hu (his x (List.mem_of_getElem? e1)) hk (wpAny_bind (wpAny_dictEpoch ho hd ?_)))))
    rw [if_neg (by simp)]
    by_cases hkk : x.1 = k
    · rw [decide_eq_true hkk, if_pos rfl]
      exact wpAny_bind (wpAny_rule (wpAny_pure (wpAny_pure (hsome i x e1 hkk))))
    · rw [decide_eq_false hkk, if_neg (by decide)]
      refine wpAny_bind (wpAny_rule (wpAny_pure ⟨rfl, rfl, fun j hj => h1 j (List.mem_cons_of_mem _ hj), fun j hj hr y hy => ?_⟩))
      by_cases hji : j = i
      · subst hji
        rw [e1] at hy
        cases hy
        exact hkk
      · exact h2 j hj (fun z => by
          rcases List.mem_cons.mp z with z | z
          · exact hji z
          · exact hr z) y hy
  · rintro b s' ⟨rfl, rfl, h1, h2⟩
    refine wpAny_pure (hnone fun x hx hkk => ?_)
    obtain ⟨j, hj⟩ := List.mem_iff_getElem?.mp hx
    exact h2 j (spots_in he hj hkk) (by simp) x hj hkk
theorem tells_not {stored : List Value} {Q : Bool → Shared → Prop} (hk : IsK s.heap k v) (hst : ∀ u ∈ stored, ∃ k', IsK s.heap k' u) (h : Q false s) : wpAny (model prog w) A (tableMayTell v stored) Q E s := by
  unfold tableMayTell
  split
  · exact wpAny_pure h
  · refine wpAny_bind (quiet_key k v 8 s hk.is hk.dep _ _ _ ?_)
    rw [if_neg (by decide)]
    refine wpAny_bind ?_
    refine wpAny_forIn_list _ (fun rest r s' => s' = s ∧ r = (none, ()) ∧ ∀ u ∈ rest, ∃ k', IsK s.heap k' u) _ ?_ ?_ _ _ ⟨rfl, rfl, hst⟩
    · rintro u rest r s' ⟨rfl, rfl, hr⟩
      obtain ⟨k', hk'⟩ := hr u List.mem_cons_self
      refine wpAny_bind (quiet_key k' u 8 s' hk'.is hk'.dep _ _ _ ?_)
      rw [if_neg (by decide)]
      exact wpAny_pure ⟨rfl, rfl, fun y hy => hr y (List.mem_cons_of_mem _ hy)⟩
    · rintro r s' ⟨rfl, rfl, _⟩
      exact wpAny_pure h
theorem idx_same (hn : (xs.map (·.1)).Nodup) {i j : Nat} {x y : Ent} (hi : xs[i]? = some x) (hj : xs[j]? = some y) (e : x.1 = y.1) : i = j := by
  have hi' : (xs.map (·.1))[i]? = some x.1 := by rw [List.getElem?_map, hi]; rfl
  have hj' : (xs.map (·.1))[j]? = some x.1 := by rw [List.getElem?_map, hj, e]; rfl
  exact (List.getElem?_inj (List.getElem?_eq_some_iff.mp hi').1 hn).mp (hi'.trans hj'.symm)
theorem find_key {d : Addr} {o : Obj} {ep : Nat} {Q : Option Nat → Shared → Prop} (hu : A.units + 8 < cLine) (hk : IsK s.heap k v) (ho : s.heap.get? d = some o) (hd : o.data = .dict es ep) (he : es.toList = xs.map (entD w))
    (his : ∀ x ∈ xs, IsK s.heap x.1 x.2.1) (hn : (xs.map (·.1)).Nodup) (hnone : (∀ x ∈ xs, x.1 ≠ k) → Q none s) (hsome : ∀ (j : Nat) (x : Ent), xs[j]? = some x → x.1 = k → Q (some j) s) :
    wpAny (model prog w) A (dictFind d v (k.hash w)) Q E s := by
  have hst : ∀ u ∈ (spots w es k).filterMap (fun i => es[i]?.map (·.key)), ∃ k', IsK s.heap k' u := by
    intro u hu'
    obtain ⟨i, h1, h2⟩ := List.mem_filterMap.mp hu'
    obtain ⟨x, e1, e2, e3⟩ := spots_mem he h1
    rw [e2] at h2
    simp only [Option.map_some, Option.some.injEq] at h2
    subst h2
    exact ⟨x.1, his x (List.mem_of_getElem? e1)⟩
  have hany : ¬ (es.any fun e => e.key == v && e.hash != k.hash w) = true := by
    rw [← Array.any_toList, List.any_eq_true]
    rintro ⟨e, hin, hc⟩
    rw [he] at hin
    obtain ⟨x, hx, rfl⟩ := List.mem_map.mp hin
    simp only [entD, Bool.and_eq_true, beq_iff_eq, bne_iff_ne, ne_eq] at hc
    obtain ⟨c1, c2⟩ := hc
    have i1 := (his x hx).is
    rw [c1] at i1
    exact c2 (by rw [NestedIs.inj _ _ _ i1 hk.is])
  unfold dictFind
  try with_reducible refine wpAny_holding ?_
  refine wpAny_bind (wpAny_dictEntries ho hd ?_)
  dsimp only
  rcases hk.top with ⟨i0, t0, rfl⟩ | ⟨a0, rfl⟩
  · dsimp only
    by_cases hall : ((Value.int i0 t0 :: (spots w es k).filterMap (fun i => es[i]?.map (·.key))).all carriedByValue) = true
    · erw [if_pos hall]
      exact plain_find hu hk ho hd he his hn hnone hsome
    · erw [if_neg hall]
      by_cases hone : (((spots w es k).filterMap (fun i => es[i]?.map (·.key))) == [Value.int i0 t0]) = true
      · erw [if_pos hone]
        refine wpAny_bind (wpAny_pure ?_)
        rw [if_neg (by simp)]
        refine wpAny_bind ?_
        refine wpAny_forIn_list _ (fun rest b s' => s' = s ∧ rest.Nodup ∧ ∃ hit, b = (none, hit) ∧ (∀ i ∈ rest, i ∈ spots w es k) ∧
          ((hit = none ∧ ∀ i ∈ spots w es k, i ∉ rest → ∀ x, xs[i]? = some x → x.1 ≠ k) ∨ ∃ j x, hit = some j ∧ j ∉ rest ∧ xs[j]? = some x ∧ x.1 = k)) _ ?_ ?_ _ _ ⟨rfl, spots_nodup, none, rfl, fun i h => h, .inl ⟨rfl, fun i h1 h2 => absurd h1 h2⟩⟩
        · rintro i rest b s' ⟨rfl, nd, hit, rfl, h1, h2⟩
          obtain ⟨nd1, nd2⟩ := List.nodup_cons.mp nd
          obtain ⟨x, e1, e2, e3⟩ := spots_mem he (h1 i List.mem_cons_self)
          rw [e2]
          dsimp only
          have hh : ((entD w x).hash == k.hash w) = true := by simp [entD, e3]
          rw [if_pos hh]
          refine wpAny_bind (wpAny_dictEpoch ho hd (wpAny_bind (eq_keys hu (his x (List.mem_of_getElem? e1)) hk (wpAny_bind (wpAny_dictEpoch ho hd ?_)))))
          rw [if_neg (by simp)]
          by_cases hkk : x.1 = k
          · rw [decide_eq_true hkk, if_pos rfl]
            rcases h2 with ⟨rfl, h2⟩ | ⟨j, y, rfl, j1, j2, j3⟩
            · rw [if_neg (by simp)]
              refine wpAny_bind (wpAny_rule ?_)
              split
              · exact wpAny_pure (wpAny_pure (hsome i x e1 hkk))
              · exact wpAny_pure ⟨rfl, nd2, some i, rfl, fun j hj => h1 j (List.mem_cons_of_mem _ hj), .inr ⟨i, x, rfl, nd1, e1, hkk⟩⟩
            · refine absurd (idx_same hn e1 j2 (hkk.trans j3.symm)) fun z => j1 ?_
              rw [← z]
              exact List.mem_cons_self
          · rw [decide_eq_false hkk, if_neg (by decide)]
            refine wpAny_bind (wpAny_rule ?_)
            rw [if_neg (by simp)]
            refine wpAny_pure ⟨rfl, nd2, hit, rfl, fun j hj => h1 j (List.mem_cons_of_mem _ hj), ?_⟩
            rcases h2 with ⟨h0, h2⟩ | ⟨j, y, h0, j1, j2, j3⟩
            · refine .inl ⟨h0, fun j hj hr y hy => ?_⟩
              by_cases hji : j = i
              · subst hji
                rw [e1] at hy
                cases hy
                exact hkk
              · exact h2 j hj (fun z => by
                  rcases List.mem_cons.mp z with z | z
                  · exact hji z
                  · exact hr z) y hy
            · exact .inr ⟨j, y, h0, fun z => j1 (List.mem_cons_of_mem _ z), j2, j3⟩
        · rintro b s' ⟨rfl, nd, hit, rfl, h1, h2⟩
          rcases h2 with ⟨rfl, h2⟩ | ⟨j, y, rfl, j1, j2, j3⟩
          · refine wpAny_pure (hnone fun x hx hkk => ?_)
            obtain ⟨j, hj⟩ := List.mem_iff_getElem?.mp hx
            exact h2 j (spots_in he hj hkk) (by simp) x hj hkk
          · exact wpAny_pure (hsome j y j2 j3)
      · erw [if_neg hone]
        refine wpAny_bind (tells_not hk hst ?_)
        rw [if_neg (by simp)]
        refine wpAny_bind ?_
        refine wpAny_forIn_list _ (fun rest b s' => s' = s ∧ rest.Nodup ∧ ∃ hit, b = (none, hit) ∧ (∀ i ∈ rest, i ∈ spots w es k) ∧
          ((hit = none ∧ ∀ i ∈ spots w es k, i ∉ rest → ∀ x, xs[i]? = some x → x.1 ≠ k) ∨ ∃ j x, hit = some j ∧ j ∉ rest ∧ xs[j]? = some x ∧ x.1 = k)) _ ?_ ?_ _ _ ⟨rfl, spots_nodup, none, rfl, fun i h => h, .inl ⟨rfl, fun i h1 h2 => absurd h1 h2⟩⟩
        · rintro i rest b s' ⟨rfl, nd, hit, rfl, h1, h2⟩
          obtain ⟨nd1, nd2⟩ := List.nodup_cons.mp nd
          obtain ⟨x, e1, e2, e3⟩ := spots_mem he (h1 i List.mem_cons_self)
          rw [e2]
          dsimp only
          have hh : ((entD w x).hash == k.hash w) = true := by simp [entD, e3]
          rw [if_pos hh]
          refine wpAny_bind (wpAny_dictEpoch ho hd (wpAny_bind (eq_keys hu (his x (List.mem_of_getElem? e1)) hk (wpAny_bind (wpAny_dictEpoch ho hd ?_)))))
          rw [if_neg (by simp)]
          by_cases hkk : x.1 = k
          · rw [decide_eq_true hkk, if_pos rfl]
            rcases h2 with ⟨rfl, h2⟩ | ⟨j, y, rfl, j1, j2, j3⟩
            · rw [if_neg (by simp)]
              refine wpAny_bind (wpAny_rule ?_)
              split
              · exact wpAny_pure (wpAny_pure (hsome i x e1 hkk))
              · exact wpAny_pure ⟨rfl, nd2, some i, rfl, fun j hj => h1 j (List.mem_cons_of_mem _ hj), .inr ⟨i, x, rfl, nd1, e1, hkk⟩⟩
            · refine absurd (idx_same hn e1 j2 (hkk.trans j3.symm)) fun z => j1 ?_
              rw [← z]
              exact List.mem_cons_self
          · rw [decide_eq_false hkk, if_neg (by decide)]
            refine wpAny_bind (wpAny_rule ?_)
            rw [if_neg (by simp)]
            refine wpAny_pure ⟨rfl, nd2, hit, rfl, fun j hj => h1 j (List.mem_cons_of_mem _ hj), ?_⟩
            rcases h2 with ⟨h0, h2⟩ | ⟨j, y, h0, j1, j2, j3⟩
            · refine .inl ⟨h0, fun j hj hr y hy => ?_⟩
              by_cases hji : j = i
              · subst hji
                rw [e1] at hy
                cases hy
                exact hkk
              · exact h2 j hj (fun z => by
                  rcases List.mem_cons.mp z with z | z
                  · exact hji z
                  · exact hr z) y hy
            · exact .inr ⟨j, y, h0, fun z => j1 (List.mem_cons_of_mem _ z), j2, j3⟩
        · rintro b s' ⟨rfl, nd, hit, rfl, h1, h2⟩
          rcases h2 with ⟨rfl, h2⟩ | ⟨j, y, rfl, j1, j2, j3⟩
          · refine wpAny_pure (hnone fun x hx hkk => ?_)
            obtain ⟨j, hj⟩ := List.mem_iff_getElem?.mp hx
            exact h2 j (spots_in he hj hkk) (by simp) x hj hkk
          · exact wpAny_pure (hsome j y j2 j3)
  · dsimp only
    have hall : ¬ ((Value.ref a0 :: (spots w es k).filterMap (fun i => es[i]?.map (·.key))).all carriedByValue) = true := by simp [carriedByValue]
    erw [if_neg hall]
    erw [if_neg hany]
    by_cases hone : (((spots w es k).filterMap (fun i => es[i]?.map (·.key))) == [Value.ref a0]) = true
    · erw [if_pos hone]
      refine wpAny_bind (wpAny_pure ?_)
      rw [if_neg (by simp)]
      refine wpAny_bind ?_
      refine wpAny_forIn_list _ (fun rest b s' => s' = s ∧ rest.Nodup ∧ ∃ hit, b = (none, hit) ∧ (∀ i ∈ rest, i ∈ spots w es k) ∧
        ((hit = none ∧ ∀ i ∈ spots w es k, i ∉ rest → ∀ x, xs[i]? = some x → x.1 ≠ k) ∨ ∃ j x, hit = some j ∧ j ∉ rest ∧ xs[j]? = some x ∧ x.1 = k)) _ ?_ ?_ _ _ ⟨rfl, spots_nodup, none, rfl, fun i h => h, .inl ⟨rfl, fun i h1 h2 => absurd h1 h2⟩⟩
      · rintro i rest b s' ⟨rfl, nd, hit, rfl, h1, h2⟩
        obtain ⟨nd1, nd2⟩ := List.nodup_cons.mp nd
        obtain ⟨x, e1, e2, e3⟩ := spots_mem he (h1 i List.mem_cons_self)
        rw [e2]
        dsimp only
        have hh : ((entD w x).hash == k.hash w) = true := by simp [entD, e3]
        rw [if_pos hh]
        refine wpAny_bind (wpAny_dictEpoch ho hd (wpAny_bind (eq_keys hu (his x (List.mem_of_getElem? e1)) hk (wpAny_bind (wpAny_dictEpoch ho hd ?_)))))
        rw [if_neg (by simp)]
        by_cases hkk : x.1 = k
        · rw [decide_eq_true hkk, if_pos rfl]
          rcases h2 with ⟨rfl, h2⟩ | ⟨j, y, rfl, j1, j2, j3⟩
          · rw [if_neg (by simp)]
            refine wpAny_bind (wpAny_rule ?_)
            split
            · exact wpAny_pure (wpAny_pure (hsome i x e1 hkk))
            · exact wpAny_pure ⟨rfl, nd2, some i, rfl, fun j hj => h1 j (List.mem_cons_of_mem _ hj), .inr ⟨i, x, rfl, nd1, e1, hkk⟩⟩
          · refine absurd (idx_same hn e1 j2 (hkk.trans j3.symm)) fun z => j1 ?_
            rw [← z]
            exact List.mem_cons_self
        · rw [decide_eq_false hkk, if_neg (by decide)]
          refine wpAny_bind (wpAny_rule ?_)
          rw [if_neg (by simp)]
          refine wpAny_pure ⟨rfl, nd2, hit, rfl, fun j hj => h1 j (List.mem_cons_of_mem _ hj), ?_⟩
          rcases h2 with ⟨h0, h2⟩ | ⟨j, y, h0, j1, j2, j3⟩
          · refine .inl ⟨h0, fun j hj hr y hy => ?_⟩
            by_cases hji : j = i
            · subst hji
              rw [e1] at hy
              cases hy
              exact hkk
            · exact h2 j hj (fun z => by
                rcases List.mem_cons.mp z with z | z
                · exact hji z
                · exact hr z) y hy
          · exact .inr ⟨j, y, h0, fun z => j1 (List.mem_cons_of_mem _ z), j2, j3⟩
      · rintro b s' ⟨rfl, nd, hit, rfl, h1, h2⟩
        rcases h2 with ⟨rfl, h2⟩ | ⟨j, y, rfl, j1, j2, j3⟩
        · refine wpAny_pure (hnone fun x hx hkk => ?_)
          obtain ⟨j, hj⟩ := List.mem_iff_getElem?.mp hx
          exact h2 j (spots_in he hj hkk) (by simp) x hj hkk
        · exact wpAny_pure (hsome j y j2 j3)
    · erw [if_neg hone]
      refine wpAny_bind (tells_not hk hst ?_)
      rw [if_neg (by simp)]
      refine wpAny_bind ?_
      refine wpAny_forIn_list _ (fun rest b s' => s' = s ∧ rest.Nodup ∧ ∃ hit, b = (none, hit) ∧ (∀ i ∈ rest, i ∈ spots w es k) ∧
        ((hit = none ∧ ∀ i ∈ spots w es k, i ∉ rest → ∀ x, xs[i]? = some x → x.1 ≠ k) ∨ ∃ j x, hit = some j ∧ j ∉ rest ∧ xs[j]? = some x ∧ x.1 = k)) _ ?_ ?_ _ _ ⟨rfl, spots_nodup, none, rfl, fun i h => h, .inl ⟨rfl, fun i h1 h2 => absurd h1 h2⟩⟩
      · rintro i rest b s' ⟨rfl, nd, hit, rfl, h1, h2⟩
        obtain ⟨nd1, nd2⟩ := List.nodup_cons.mp nd
        obtain ⟨x, e1, e2, e3⟩ := spots_mem he (h1 i List.mem_cons_self)
        rw [e2]
        dsimp only
        have hh : ((entD w x).hash == k.hash w) = true := by simp [entD, e3]
        rw [if_pos hh]
        refine wpAny_bind (wpAny_dictEpoch ho hd (wpAny_bind (eq_keys hu (his x (List.mem_of_getElem? e1)) hk (wpAny_bind (wpAny_dictEpoch ho hd ?_)))))
        rw [if_neg (by simp)]
        by_cases hkk : x.1 = k
        · rw [decide_eq_true hkk, if_pos rfl]
          rcases h2 with ⟨rfl, h2⟩ | ⟨j, y, rfl, j1, j2, j3⟩
          · rw [if_neg (by simp)]
            refine wpAny_bind (wpAny_rule ?_)
            split
            · exact wpAny_pure (wpAny_pure (hsome i x e1 hkk))
            · exact wpAny_pure ⟨rfl, nd2, some i, rfl, fun j hj => h1 j (List.mem_cons_of_mem _ hj), .inr ⟨i, x, rfl, nd1, e1, hkk⟩⟩
          · refine absurd (idx_same hn e1 j2 (hkk.trans j3.symm)) fun z => j1 ?_
            rw [← z]
            exact List.mem_cons_self
        · rw [decide_eq_false hkk, if_neg (by decide)]
          refine wpAny_bind (wpAny_rule ?_)
          rw [if_neg (by simp)]
          refine wpAny_pure ⟨rfl, nd2, hit, rfl, fun j hj => h1 j (List.mem_cons_of_mem _ hj), ?_⟩
          rcases h2 with ⟨h0, h2⟩ | ⟨j, y, h0, j1, j2, j3⟩
          · refine .inl ⟨h0, fun j hj hr y hy => ?_⟩
            by_cases hji : j = i
            · subst hji
              rw [e1] at hy
              cases hy
              exact hkk
            · exact h2 j hj (fun z => by
                rcases List.mem_cons.mp z with z | z
                · exact hji z
                · exact hr z) y hy
          · exact .inr ⟨j, y, h0, fun z => j1 (List.mem_cons_of_mem _ z), j2, j3⟩
      · rintro b s' ⟨rfl, nd, hit, rfl, h1, h2⟩
        rcases h2 with ⟨rfl, h2⟩ | ⟨j, y, rfl, j1, j2, j3⟩
        · refine wpAny_pure (hnone fun x hx hkk => ?_)
          obtain ⟨j, hj⟩ := List.mem_iff_getElem?.mp hx
          exact h2 j (spots_in he hj hkk) (by simp) x hj hkk
        · exact wpAny_pure (hsome j y j2 j3)
/-- the entry of a key -/
def atD (xs : List Ent) (k : NestedKey) : Option Ent := xs.find? fun x => decide (x.1 = k)
theorem atD_none {xs : List Ent} {k : NestedKey} (h : ∀ x ∈ xs, x.1 ≠ k) : atD xs k = none := by
  unfold atD
  rw [List.find?_eq_none]
  intro x hx z
  exact h x hx (of_decide_eq_true z)
theorem atD_some : ∀ {xs : List Ent} {k : NestedKey} (_ : (xs.map (·.1)).Nodup) {j : Nat} {x : Ent}, xs[j]? = some x → x.1 = k → atD xs k = some x
  | [], _, _, _, _, h, _ => by simp at h
  | y :: ys, k, hn, 0, x, h, e => by
    simp only [List.getElem?_cons_zero, Option.some.injEq] at h
    subst h
    unfold atD
    rw [List.find?_cons, decide_eq_true e]
  | y :: ys, k, hn, j + 1, x, h, e => by
    simp only [List.getElem?_cons_succ] at h
    rw [List.map_cons, List.nodup_cons] at hn
    have ne : y.1 ≠ k := fun z => hn.1 (List.mem_map.mpr ⟨x, List.mem_of_getElem? h, e.trans z.symm⟩)
    have ih := atD_some hn.2 h e
    unfold atD at ih ⊢
    rw [List.find?_cons, decide_eq_false ne]
    exact ih
/-- d[k] = v -/
def putD (xs : List Ent) (k : NestedKey) (kv v : Value) : List Ent := if (atD xs k).isSome then xs.map (fun x => if x.1 = k then (x.1, x.2.1, v) else x) else xs ++ [(k, kv, v)]
theorem dget_key {d : Addr} {Q : Option Value → Shared → Prop} (hu : A.units + 8 < cLine) (hk : IsK s.heap k v) (hr : RawD w d xs s.heap) (his : ∀ x ∈ xs, IsK s.heap x.1 x.2.1)
    (h : Q ((atD xs k).map (·.2.2)) { s with toks := s.toks + k.draws }) : wpAny (model prog w) A (dictGet d v) Q E s := by
  obtain ⟨_, _, hn, o, es, ep, ho, _, hd, he⟩ := hr
  unfold dictGet
  try with_reducible refine wpAny_holding ?_
  refine wpAny_bind (pyHash_key k v A s _ hk.is (by have := hk.dep; omega) ?_)
  refine wpAny_bind (find_key (s := { s with toks := s.toks + k.draws }) hu ⟨hk.is, hk.dep, hk.top⟩ ho hd he (fun x hx => ⟨(his x hx).is, (his x hx).dep, (his x hx).top⟩) hn ?_ ?_)
  · intro hno
    rw [atD_none hno] at h
    exact wpAny_pure h
  · intro j x hj hx
    rw [atD_some hn hj hx] at h
    refine wpAny_bind (wpAny_dictEntries (s := { s with toks := s.toks + k.draws }) ho hd ?_)
    rw [ent_at he j, hj]
    exact wpAny_pure h
theorem map_put : ∀ {xs : List Ent} {k : NestedKey} {v : Value} (_ : (xs.map (·.1)).Nodup) {j : Nat} {x : Ent}, xs[j]? = some x → x.1 = k → (xs.map (entD w)).modify j (fun e => { e with val := v }) = (xs.map (fun x => if x.1 = k then (x.1, x.2.1, v) else x)).map (entD w)
  | [], _, _, _, _, _, h, _ => by simp at h
  | y :: ys, k, v, hn, 0, x, h, e => by
    simp only [List.getElem?_cons_zero, Option.some.injEq] at h
    subst h
    rw [List.map_cons, List.nodup_cons] at hn
    have rest : ys.map (fun x => if x.1 = k then (x.1, x.2.1, v) else x) = ys := by
      conv => rhs; rw [← List.map_id ys]
      refine List.map_congr_left fun z hz => ?_
      have ne : ¬ z.1 = k := fun q => hn.1 (List.mem_map.mpr ⟨z, hz, q.trans e.symm⟩)
      show (if z.1 = k then _ else z) = z
      rw [if_neg ne]
    rw [List.map_cons, List.map_cons, List.map_cons, rest, if_pos e]
    rfl
  | y :: ys, k, v, hn, j + 1, x, h, e => by
    simp only [List.getElem?_cons_succ] at h
    rw [List.map_cons, List.nodup_cons] at hn
    have ne : ¬ y.1 = k := fun z => hn.1 (List.mem_map.mpr ⟨x, List.mem_of_getElem? h, e.trans z.symm⟩)
    have ih := map_put (v := v) hn.2 h e
    rw [List.map_cons, List.map_cons, List.map_cons, if_neg ne, ← ih]
    rfl
theorem put_keys {xs : List Ent} {k : NestedKey} {v : Value} : (xs.map (fun x => if x.1 = k then (x.1, x.2.1, v) else x)).map (·.1) = xs.map (·.1) := by
  rw [List.map_map]
  refine List.map_congr_left fun x _ => ?_
  show (if x.1 = k then _ else x).1 = x.1
  split <;> rfl
theorem dset_key {d : Addr} {u : Value} {Q : Unit → Shared → Prop} (hu : A.units + 8 < cLine) (hk : IsK s.heap k v) (hr : RawD w d xs s.heap) (his : ∀ x ∈ xs, IsK s.heap x.1 x.2.1) (hsz : xs.length < sizeLine)
    (hQ : ∀ h', RawD w d (putD xs k v u) h' → Heap.SameBut d s.heap h' → Q () { s with heap := h', toks := s.toks + k.draws }) : wpAny (model prog w) A (dictSet d v u) Q E s := by
  obtain ⟨hl, hsys, hn, o, es, ep, ho, hc, hd, he⟩ := hr
  have hes : es.size = xs.length := by rw [← Array.length_toList, he, List.length_map]
  unfold dictSet
  try with_reducible refine wpAny_holding ?_
  refine wpAny_bind (pyHash_key k v A s _ hk.is (by have := hk.dep; omega) ?_)
  unfold dictSetHashed
  try with_reducible refine wpAny_holding ?_
  refine wpAny_bind (find_key (s := { s with toks := s.toks + k.draws }) hu ⟨hk.is, hk.dep, hk.top⟩ ho hd he (fun x hx => ⟨(his x hx).is, (his x hx).dep, (his x hx).top⟩) hn ?_ ?_)
  · intro hno
    have e0 : putD xs k v u = xs ++ [(k, v, u)] := by unfold putD; rw [atD_none hno]; rfl
    rw [e0] at hQ
    refine wpAny_bind (wpAny_rule (wpAny_updateDictKeys (hz := by omega) (s := { s with toks := s.toks + k.draws }) ho hd (hQ _ ⟨by simp; omega, hsys, ?_, _, _, ep + 1,
      Heap.get?_update_self _ ho (Obj.isFreed_of_dict (Obj.data_mapDictKeys hd _)), hc.mapDictKeys _, Obj.data_mapDictKeys hd _, ?_⟩ (Heap.SameBut.update ..))))
    · rw [List.map_append, List.nodup_append]
      refine ⟨hn, by simp, fun x hx y hy => ?_⟩
      simp only [List.map_cons, List.map_nil, List.mem_singleton] at hy
      subst hy
      obtain ⟨z, hz, rfl⟩ := List.mem_map.mp hx
      exact hno z hz
    · simp [he, entD]
  · intro j x hj hx
    have e0 : putD xs k v u = xs.map (fun x => if x.1 = k then (x.1, x.2.1, u) else x) := by unfold putD; rw [atD_some hn hj hx]; rfl
    rw [e0] at hQ
    refine wpAny_bind (wpAny_rule (wpAny_bind (wpAny_updateDict (s := { s with toks := s.toks + k.draws }) ho hd (wpAny_point (hQ _ ⟨by simp; omega, hsys, ?_, _, _, ep,
      Heap.get?_update_self _ ho (Obj.isFreed_of_dict (Obj.data_mapDict hd _)), hc.mapDict _, Obj.data_mapDict hd _, ?_⟩ (Heap.SameBut.update ..))))))
    · rw [put_keys]; exact hn
    · have := map_put (w := w) (v := u) hn hj hx
      rw [← he] at this
      obtain ⟨l⟩ := es
      simpa using this
theorem RawD.typeIs {d : Addr} (hr : RawD w d xs s.heap) : s.TypeIs (.ref d) "dict" := by
  obtain ⟨_, _, _, o, _, _, ho, hc, _⟩ := hr
  exact ⟨o, ho, hc.1⟩
theorem has_key {d : Addr} {Q : Bool → Shared → Prop} (hu : A.in1.units + 8 < cLine) (hk : IsK s.heap k v) (hr : RawD w d xs s.heap) (his : ∀ x ∈ xs, IsK s.heap x.1 x.2.1)
    (h : Q (atD xs k).isSome { s with toks := s.toks + k.draws }) : wpAny (model prog w) A (contains (.ref d) v) Q E s := by
  have hsys := hr.2.1
  have hty := RawD.typeIs hr
  refine wpAny_contains_slot hty PySem.F.slot_dict_contains ?_
  refine call_meetsIn PySem.F.slot_dict_contains hty PySem.F.entry_dict_contains (PySem.F.args_dict_contains_2 _ _)
    (S := fun A2 R s2 => A2 = A ∧ s2 = s ∧ R (.ok (.ret (.bool (atD xs k).isSome))) { s with toks := s.toks + k.draws }) (fun A2 R s2 hS => ?_) ⟨rfl, rfl, wpAny_truthy_bool h⟩
  obtain ⟨rfl, rfl, hq⟩ := hS
  show wpAny _ _ (dictGet d v >>= _) _ _ _
  refine wpAny_bind (dget_key hu hk hr his ?_)
  cases hf : atD xs k with
  | some p =>
    rw [hf] at hq
    exact (show wpAny _ _ (ret (.bool true)) _ _ _ from wpAny_pure hq)
  | none =>
    rw [hf] at hq
    exact (show wpAny _ _ (Builtin.Dict.pendingKey? d v >>= _) _ _ _ from wpAny_bind (wpAny_pendingKey_other hsys (wpAny_pure hq)))
/-- k in d -/
theorem in_key {d : Addr} {Q : Value → Shared → Prop} (hu : A.in1.units + 8 < cLine) (hk : IsK s.heap k v) (hr : RawD w d xs s.heap) (his : ∀ x ∈ xs, IsK s.heap x.1 x.2.1)
    (h : Q (.bool (atD xs k).isSome) { s with toks := s.toks + k.draws }) : wpAny (model prog w) A (compareOp .In v (.ref d)) Q E s :=
  (show wpAny _ _ (do return .bool (← contains (.ref d) v)) Q E s from wpAny_bind (has_key hu hk hr his (wpAny_pure h)))
/-- k not in d -/
theorem nin_key {d : Addr} {Q : Value → Shared → Prop} (hu : A.in1.units + 8 < cLine) (hk : IsK s.heap k v) (hr : RawD w d xs s.heap) (his : ∀ x ∈ xs, IsK s.heap x.1 x.2.1)
    (h : Q (.bool (!(atD xs k).isSome)) { s with toks := s.toks + k.draws }) : wpAny (model prog w) A (compareOp .NotIn v (.ref d)) Q E s :=
  (show wpAny _ _ (do return .bool (!(← contains (.ref d) v))) Q E s from wpAny_bind (has_key hu hk hr his (wpAny_pure h)))
/-- d[k] -/
theorem item_key {d : Addr} {x : Ent} {Q : Value → Shared → Prop} (hu : A.in1.units + 8 < cLine) (hk : IsK s.heap k v) (hr : RawD w d xs s.heap) (his : ∀ x ∈ xs, IsK s.heap x.1 x.2.1) (hx : atD xs k = some x)
    (h : Q x.2.2 { s with toks := s.toks + k.draws }) : wpAny (model prog w) A (getItem (.ref d) v) Q E s := by
  have hty := RawD.typeIs hr
  unfold getItem
  try with_reducible refine wpAny_holding ?_
  refine wpAny_bind (wpAny_sequenceKey hty (by decide) ?_)
  refine wpAny_bind (wpAny_callSpecial?_slot (name := Str.ofString "__getitem__") hty slot_dict_getitem (wpAny_call_entry slot_dict_getitem hty entry_dict_getitem ?_ (args_dict_getitem _ _)))
  show wpAny _ _ (dictGet d v >>= _) _ _ s
  refine wpAny_bind (dget_key hu hk hr his ?_)
  rw [hx]
  exact wpAny_pure ⟨x.2.2, rfl, wpAny_pure h⟩
/-- d[k] = u -/
theorem store_key {d : Addr} {u : Value} {Q : Unit → Shared → Prop} (hu : A.in1.units + 8 < cLine) (hk : IsK s.heap k v) (hr : RawD w d xs s.heap) (his : ∀ x ∈ xs, IsK s.heap x.1 x.2.1) (hsz : xs.length < sizeLine)
    (hQ : ∀ h', RawD w d (putD xs k v u) h' → Heap.SameBut d s.heap h' → Q () { s with heap := h', toks := s.toks + k.draws }) : wpAny (model prog w) A (setItem (.ref d) v u) Q E s := by
  have hty := RawD.typeIs hr
  unfold setItem
  try with_reducible refine wpAny_holding ?_
  refine wpAny_bind (wpAny_sequenceKey hty (by decide) ?_)
  refine wpAny_bind (wpAny_callSpecial?_slot (name := Str.ofString "__setitem__") hty slot_dict_setitem (wpAny_call_entry slot_dict_setitem hty entry_dict_setitem ?_ (args_dict_setitem _ _ _)))
  show wpAny _ _ (Builtin.Dict.notOrdered "__setitem__" ⟨[.ref d, v, u], []⟩ >>= _) _ _ s
  refine wpAny_bind (wpAny_notOrdered_dict hty ?_)
  show wpAny _ _ (dictSet d v u >>= _) _ _ s
  exact wpAny_bind (dset_key hu hk hr his hsz fun h' r' same => wpAny_pure ⟨.none, rfl, wpAny_pure (hQ h' r' same)⟩)
/-- d.get(k, u) -/
theorem meets_get2 (d : Addr) (v u : Value) (hsys : (d == sysModules) = false) :
    MeetsIn prog w (Builtin.«dict.get» ⟨[.ref d, v, u], []⟩) (fun A R s => A.in1.units + 8 < cLine ∧ ∃ k xs, IsK s.heap k v ∧ RawD w d xs s.heap ∧ (∀ x ∈ xs, IsK s.heap x.1 x.2.1) ∧
      R (.ok (.ret (((atD xs k).map (·.2.2)).getD u))) { s with toks := s.toks + k.draws }) :=
  .of_wp fun A R s ⟨hu, k, xs, hk, hr, his, h⟩ => by
    show wpAny _ _ (dictGet d v >>= _) _ _ s
    refine wpAny_bind (dget_key hu hk hr his ?_)
    cases hf : (atD xs k).map (·.2.2) with
    | some x =>
      rw [hf] at h
      exact wpAny_pure ⟨x, rfl, h⟩
    | none =>
      rw [hf] at h
      exact (show wpAny _ _ (Builtin.Dict.missed d v >>= _) _ _ _ from wpAny_bind (wpAny_missed_other hsys (wpAny_pure ⟨u, rfl, h⟩)))
end
end DX

namespace DX
open PySem PySem.Spec PyProof.Rows L2 DL

/-! ### keys in the abstract heap -/
def KeyIn (X : Cx) (H : Hp) (y : V) (k : NestedKey) : Prop := ∀ h u, HOk X.prog X.w H h → RelV y u → IsK h k u
def EntsIn (X : Cx) (H : Hp) (xs : List Ent) : Prop := ∀ h, HOk X.prog X.w H h → ∀ x ∈ xs, IsK h x.1 x.2.1
mutual
theorem nested_of {P : Program} {w : World} {K : KW} {G H : Hp} {h : Heap} (s : Same G H) (ok : HOk P w H h) : ∀ (d : D) (v : V) (u : Value) (k : NestedKey), keyD d = some k → Rep K G v d → RelV v u → NestedIs h k u
  | .non, _, _, k, e, r, rv => by
    cases r
    simp only [keyD, Option.some.injEq] at e
    subst e
    obtain rfl : _ = Value.none := rv
    exact .none
  | .int i, _, _, k, e, r, rv => by
    cases r
    simp only [keyD, Option.some.injEq] at e
    subst e
    obtain ⟨t, rfl⟩ := id rv
    exact .int _ _
  | .str x, _, _, k, e, r, rv => by
    cases r
    simp only [keyD, Option.some.injEq] at e
    subst e
    obtain ⟨t, rfl⟩ := id rv
    exact .text _ _
  | .tup xs, _, _, k, e, r, rv => by
    cases r with
    | @tup a vs _ g1 g2 =>
      simp only [keyD, Option.map_eq_some_iff] at e
      obtain ⟨ks, e1, rfl⟩ := e
      obtain rfl : _ = Value.ref a := rv
      obtain ⟨_, its, r2, ob, ho, hc, n, hd⟩ := ok a _ (s _ _ g1)
      exact .tup ho hc hd (by simpa using nested_all s ok xs vs its ks e1 g2 r2)
  | .bl _, _, _, k, e, _, _ => by simp [keyD] at e
  | .lst _, _, _, k, e, _, _ => by simp [keyD] at e
  | .scr _, _, _, k, e, _, _ => by simp [keyD] at e
theorem nested_all {P : Program} {w : World} {K : KW} {G H : Hp} {h : Heap} (s : Same G H) (ok : HOk P w H h) : ∀ (ds : List D) (vs : List V) (us : List Value) (ks : List NestedKey), keyDs ds = some ks → Reps K G vs ds → Vals vs us → NestedAll h ks us
  | [], _, _, ks, e, r, rv => by
    cases r; cases rv
    simp only [keyDs, Option.some.injEq] at e
    subst e
    exact .nil
  | d :: ds, _, _, ks, e, r, rv => by
    cases r with
    | cons r1 r2 =>
      cases rv with
      | cons q1 q2 =>
        unfold keyDs at e
        split at e
        · rename_i k ks' e1 e2
          cases e
          exact .cons (nested_of s ok d _ _ _ e1 r1 q1) (nested_all s ok ds _ _ _ e2 r2 q2)
        · cases e
end
theorem keyOk_inv {d : D} {k : NestedKey} (h : keyOk d = some k) : keyD d = some k ∧ k.depth ≤ 8 ∧ ((∃ i, d = .int i) ∨ ∃ xs, d = .tup xs) := by
  cases d with
  | int i =>
    simp only [keyOk, Option.some.injEq] at h
    subst h
    exact ⟨rfl, Nat.zero_le _, .inl ⟨i, rfl⟩⟩
  | tup xs =>
    simp only [keyOk, Option.bind_eq_some_iff] at h
    obtain ⟨ks, h1, h2⟩ := h
    split at h2
    · rename_i h3
      cases h2
      exact ⟨by simp [keyD, h1], h3, .inr ⟨xs, rfl⟩⟩
    · cases h2
  | non => simp [keyOk] at h
  | bl _ => simp [keyOk] at h
  | str _ => simp [keyOk] at h
  | lst _ => simp [keyOk] at h
  | scr _ => simp [keyOk] at h
theorem isK_of {P : Program} {w : World} {K : KW} {G H : Hp} {h : Heap} {d : D} {v : V} {u : Value} {k : NestedKey} (s : Same G H) (ok : HOk P w H h) (e : keyOk d = some k) (r : Rep K G v d) (rv : RelV v u) : IsK h k u := by
  obtain ⟨e1, e2, e3⟩ := keyOk_inv e
  refine ⟨nested_of s ok d v u k e1 r rv, e2, ?_⟩
  rcases e3 with ⟨i, rfl⟩ | ⟨xs, rfl⟩
  · cases r
    obtain ⟨t, rfl⟩ := id rv
    exact .inl ⟨_, _, rfl⟩
  · cases r with
    | @tup a vs _ g1 g2 => exact .inr ⟨a, rv⟩
theorem keyIn_of {X : Cx} {K : KW} {G H : Hp} {d : D} {v : V} {k : NestedKey} (s : Same G H) (e : keyOk d = some k) (r : Rep K G v d) : KeyIn X H v k := fun h u ok rv => isK_of s ok e r rv
theorem paired_mem {α β : Type} {F : α → β → Prop} : ∀ {l : List α} {m : List β}, Paired F l m → ∀ x ∈ l, ∃ y ∈ m, F x y
  | _, _, .nil, x, h => by cases h
  | _, _, .cons r t, x, h => by
    rcases List.mem_cons.mp h with rfl | h
    · exact ⟨_, List.mem_cons_self, r⟩
    · obtain ⟨y, hy, q⟩ := paired_mem t x h
      exact ⟨y, List.mem_cons_of_mem _ hy, q⟩
theorem entsIn_of {X : Cx} {K : KW} {G H : Hp} {xs : List Ent} {kvs : List (D × D)} (s : Same G H) (r : Paired (KRel K G) xs kvs) : EntsIn X H xs := fun h ok x hx => by
  obtain ⟨y, _, q⟩ := paired_mem r x hx
  obtain ⟨v, v1, v2⟩ := q.kv
  exact isK_of s ok q.key v2 v1
theorem raw_at {P : Program} {w : World} {H : Hp} {h : Heap} {a : Addr} {xs : List Ent} (r : Rd H a (DicO w a xs)) (ok : HOk P w H h) : RawD w a xs h := (r.ok ok).1
theorem raw_obj {P : Program} {w w' : World} {H : Hp} {h : Heap} {a : Addr} {xs : List Ent} (r : RawD w a xs h) : ObjOk P w' H h a (DicO w a xs) := by
  obtain ⟨r1, r2, r3, o, es, ep, ho, r4⟩ := id r
  exact ⟨r, ⟨o, ho⟩, fun h1 h2 ⟨q1, q2, q3, o', es', ep', ho', q4⟩ k => ⟨q1, q2, q3, o', es', ep', k _ ho', q4⟩⟩
theorem small1 : 1 ≤ sizeLine := by rw [sizeLine_eq]; decide
theorem in1_room {A : Around} (hu : A.units + 64 < cLine) : A.in1.units + 8 < cLine := by
  rw [Around.in1_units]
  omega

/-! ### readings -/
def tXGet (X : Cx) (td ty : TE) : TE := fun σ H Q => td σ H fun x H1 => ty σ H1 fun y H2 => ∃ a xs k e v, x = .ref a ∧ Rd H2 a (DicO X.w a xs) ∧ KeyIn X H2 y k ∧ EntsIn X H2 xs ∧ atD xs k = some e ∧ RelV v e.2.2 ∧ Q v H2
def rXIn (X : Cx) : R2 := fun x y H Q => ∃ a xs k, y = .ref a ∧ Rd H a (DicO X.w a xs) ∧ KeyIn X H x k ∧ EntsIn X H xs ∧ Q (.bl (atD xs k).isSome) H
def rXNin (X : Cx) : R2 := fun x y H Q => ∃ a xs k, y = .ref a ∧ Rd H a (DicO X.w a xs) ∧ KeyIn X H x k ∧ EntsIn X H xs ∧ Q (.bl (!(atD xs k).isSome)) H
def sXPut (X : Cx) (td ty tv : TE) : TS := fun D σ H => tv σ H fun v H1 => td σ H1 fun x H2 => ty σ H2 fun y H3 => ∃ a xs k, x = .ref a ∧ H3 a = some (DicO X.w a xs) ∧ KeyIn X H3 y k ∧ EntsIn X H3 xs ∧ xs.length < sizeLine ∧
  ∀ iv r, RelV y iv → RelV v r → D.nx σ (upd H3 a (DicO X.w a (putD xs k iv r)))
def tXNew (X : Cx) : TE := fun _ H Q => ∀ p, H p = none → Q (.ref p) (upd H p (DicO X.w p []))
def rXLen (X : Cx) : List V → Hp → VK → Prop := fun vs H Q => ∃ a xs, vs = [.ref a] ∧ Rd H a (DicO X.w a xs) ∧ Q (.int xs.length) H
def tXGet2 (X : Cx) (td ty tx : TE) : TE := fun σ H Q => td σ H fun x H1 => ∃ a xs0, x = .ref a ∧ Rd H1 a (DicO X.w a xs0) ∧ ty σ H1 fun y H2 => tx σ H2 fun z H3 => ∃ xs k v, Rd H3 a (DicO X.w a xs) ∧ KeyIn X H3 y k ∧ EntsIn X H3 xs ∧
  (∀ e, atD xs k = some e → RelV v e.2.2) ∧ (atD xs k = none → v = z) ∧ Q v H3
section
variable {X : Cx} {o i e f value : Expr} {pos pos' apos cpos : Pos} {td ty tv tx : TE}
theorem pe_xget (hu : X.A.units + 64 < cLine) (ho : PE X o td) (hi : PE X i ty) (hs : NoSl i) : PE X (.Subscript o i pos) (tXGet X td ty) := by
  refine ⟨fun pins s σ H Q I h => ?_⟩
  refine subD_of PySem.F.slot_dict_getitem.lookup hs (thn (ho.run pins s σ H _ I h) fun u s1 ⟨x, H1, I1, rx, q1⟩ => thn (hi.run pins s1 σ H1 _ I1 q1) fun iv s2 ⟨y, H2, I2, ry, a, xs, k, en, v, ex, hr, hk, he, hat, rv, q2⟩ => ?_)
  subst ex
  obtain rfl : u = Value.ref a := rx
  have raw := raw_at hr I2.hok
  exact ⟨RawD.typeIs raw, item_key (in1_room hu) (hk _ _ I2.hok ry) raw (he _ I2.hok) hat ⟨v, H2, I2.tok _, rv, q2⟩⟩
theorem or_xin (hu : X.A.units + 64 < cLine) : OpR X (compareOp .In) (rXIn X) := by
  intro pins s σ H x y v u Q I rx ry h
  obtain ⟨a, xs, k, rfl, hr, hk, he, q⟩ := h
  obtain rfl : u = Value.ref a := ry
  exact in_key (in1_room hu) (hk _ _ I.hok rx) (raw_at hr I.hok) (he _ I.hok) ⟨.bl _, H, I.tok _, rfl, q⟩
theorem or_xnin (hu : X.A.units + 64 < cLine) : OpR X (compareOp .NotIn) (rXNin X) := by
  intro pins s σ H x y v u Q I rx ry h
  obtain ⟨a, xs, k, rfl, hr, hk, he, q⟩ := h
  obtain rfl : u = Value.ref a := ry
  exact nin_key (in1_room hu) (hk _ _ I.hok rx) (raw_at hr I.hok) (he _ I.hok) ⟨.bl _, H, I.tok _, rfl, q⟩
theorem ps_xput (hu : X.A.units + 64 < cLine) (ho : PE X o td) (hi : PE X i ty) (hv : PE X value tv) (hs : swapsWith value (some (.Subscript o i pos')) pos.line X.env = pure false) :
    PS X (.Assign [.Subscript o i pos'] value pos) (sXPut X td ty tv) := by
  refine ⟨fun pins s σ H D I h => ?_⟩
  refine wpAny_Assign_Subscript (thn (hv.run pins s σ H _ I h) fun r s1 ⟨v, H1, I1, rv, q1⟩ => thn (ho.run pins s1 σ H1 _ I1 q1) fun u s2 ⟨x, H2, I2, rx, q2⟩ => thn (hi.run pins s2 σ H2 _ I2 q2) fun iv s3 ⟨y, H3, I3, ry, a, xs, k, ex, hr, hk, he, hl, q3⟩ => ?_) hs
  subst ex
  obtain rfl : u = Value.ref a := rx
  refine store_key (in1_room hu) (hk _ _ I3.hok ry) (raw_at (.inl hr) I3.hok) (he _ I3.hok) hl fun h' raw' same => ⟨σ, _, I3.write (e := a) (t' := s3.toks + k.draws) (by rw [hr]; trivial) (.inl rfl) (fun b u hb hu => (same.2 b hb).trans hu) ?_ (raw_obj raw'), q3 iv r ry rv⟩
  obtain ⟨_, _, _, ob, _, _, hob, _⟩ := raw'
  exact ⟨ob, hob⟩
theorem raw_empty {w : World} {h : Heap} (hb : sysModules < h.objs.size) : RawD w h.objs.size [] (h.push { cls := .type "dict", data := .dict #[] }) :=
  ⟨Nat.zero_le _, beq_eq_false_iff_ne.mpr (Ne.symm (Nat.ne_of_lt hb)), List.nodup_nil, _, #[], 0, Heap.get?_push_size _ rfl, ⟨rfl, rfl, rfl⟩, rfl, rfl⟩
theorem pe_xnew : PE X (.Dict [] [] pos) (tXNew X) := ⟨fun pins s σ H Q I h =>
  wpAny_Dict_empty ⟨.ref s.heap.objs.size, _, I.laid (a := s.heap.objs.size) (o := DicO X.w s.heap.objs.size []) (t' := s.toks) (fun _ _ q => Heap.get?_push_of_some _ q) (Nat.le_refl _) (raw_obj (raw_empty I.big)), rfl, h _ (I.hok.fresh (Nat.le_refl _))⟩⟩
theorem pe_xget2 (hu : X.A.units + 64 < cLine) (ho : PE X o td) (he : PE X e ty) (hf : PE X f tx) (m : M2 X o "get" apos e f cpos) : PE X (.Call (.Attribute o "get" apos) [e, f] [] cpos) (tXGet2 X td ty tx) := by
  refine ⟨fun pins s σ H Q I h => ?_⟩
  refine wpAny_Call_method m.base m.few m.line PySem.F.plainAttrs_dict PySem.F.slot_dict_get PySem.F.type_dict_get (thn (ho.run pins s σ H _ I h) fun u s1 ⟨x, H1, I1, rx, a, xs0, ex, d, q1⟩ => ?_)
  subst ex
  obtain rfl : u = Value.ref a := rx
  have raw0 := raw_at d I1.hok
  refine ⟨RawD.typeIs raw0, fun b q => ?_, ?_⟩
  · cases q
    obtain ⟨_, _, _, ob, _, _, h1, h2, _⟩ := raw0
    exact ⟨ob, h1, h2.2.1⟩
  rw [m.trees]
  refine Calls.callWith_builtin rfl (Calls.evalArgs_plain (Calls.spliced_cons (thn (he.run pins s1 σ H1 _ I1 q1) fun iv s2 ⟨y, H2, I2, ry, q2⟩ =>
    Calls.spliced_cons (thn (hf.run pins s2 σ H2 _ I2 q2) fun fv s3 ⟨z, H3, I3, rz, xs, k, v, hr, hk, hes, r1, r2, q3⟩ => Calls.spliced_nil ?_))))
  have raw := raw_at hr I3.hok
  refine call_meetsIn PySem.F.slot_dict_get (RawD.typeIs raw) PySem.F.entry_dict_get (PySem.F.args_dict_get_3 _ _ _) (meets_get2 a iv fv raw.2.1) ⟨in1_room hu, k, xs, hk _ _ I3.hok ry, raw, hes _ I3.hok, v, H3, I3.tok _, ?_, q3⟩
  cases ha : atD xs k with
  | some en => exact r1 en ha
  | none => rw [r2 ha]; exact rz
/-! ### {k: v} -/
def tXDisp1 (X : Cx) (tk tv : TE) : TE := fun σ H Q => ∀ p, H p = none → tk σ (upd H p (DicO X.w p [])) fun y H1 => tv σ H1 fun v H2 => H2 p = some (DicO X.w p []) ∧ ∃ a k, y = .ref a ∧ KeyIn X H2 y k ∧ ∀ r, RelV v r → Q (.ref p) (upd H2 p (DicO X.w p [(k, .ref a, r)]))
theorem pe_xdisp1 {k v : Expr} {tk tv : TE} (hu : X.A.units + 64 < cLine) (hk : PE X k tk) (hv : PE X v tv) (hsh : (evalEachOpt [some k] X.env).zip ((evalEach [v] X.env).map fun v => do let x ← v; standAt pos; pure x) = (pairTrees [some k] [v] X.env pos).map fun p => (some p.1, p.2) := by rfl) :
    PE X (.Dict [some k] [v] pos) (tXDisp1 X tk tv) := by
  refine ⟨fun pins s σ H Q I q => ?_⟩
  have hn := I.hok.fresh (Nat.le_refl s.heap.objs.size)
  have I1 := I.laid (a := s.heap.objs.size) (o := DicO X.w s.heap.objs.size []) (h' := s.heap.push { cls := .type "dict", data := .dict #[] }) (t' := s.toks) (fun _ _ q => Heap.get?_push_of_some _ q) (Nat.le_refl _) (raw_obj (raw_empty I.big))
  rw [arm_eval_Dict, hsh, dictDisplay_pairs _ (by simp [pairTrees]) (by simp [pairTrees])]
  refine wpAny_bind (wpAny_standAt (wpAny_bind (wpAny_subDictH (knd := nestedKind X.prog X.w) (Q := fun d s2 => wpAny (model X.prog X.w) X.A (pure (Value.ref d)) (EP X pins σ Q) X.xe s2) (show X.A.units + 8 < cLine by omega) (by simp [pairTrees]) ?_)))
  refine pairTrees_cons_walk (thn (hk.run pins _ σ _ _ I1 (q _ hn)) fun u s1 ⟨y, H1, I2, ry, q1⟩ => thn (hv.run pins s1 σ H1 _ I2 q1) fun r s2 ⟨x, H2, I3, rx, ep, a, key, ey, hkey, q2⟩ => pairTrees_nil_walk ?_)
  subst ey
  obtain rfl : u = Value.ref a := ry
  have isk := hkey _ _ I3.hok (show RelV (.ref a) (.ref a) from rfl)
  have raw0 := raw_at (.inl ep) I3.hok
  obtain ⟨z1, z2, z3, ob, es, en, z4, z5, z6, z7⟩ := id raw0
  refine ⟨[(key, a, r)], ⟨rfl, rfl, ⟨isk.is, isk.dep⟩, trivial⟩, ⟨ob, es, en, z4, z5, z6, z7, by simp, by simp⟩, fun h' tok dk same => wpAny_pure ⟨.ref s.heap.objs.size, _, ?_, rfl, q2 r rx⟩⟩
  obtain ⟨o2, es2, ep2, d1, d2, d3, d4, _, d5⟩ := dk
  have raw2 : RawD X.w s.heap.objs.size [(key, .ref a, r)] h' := ⟨small1, z2, by simp, o2, es2, ep2, d1, d2, d3, d4⟩
  exact I3.write (e := s.heap.objs.size) (t' := tok) (by rw [ep]; trivial) (.inl rfl) (fun b u hb hu => (same.2 b hb).trans hu) ⟨o2, d1⟩ (raw_obj raw2)
/-! ### len -/
theorem len_key {prog : Program} {w : World} {A : Around} {E : Value → Shared → Prop} {s : Shared} {d : Addr} {xs : List Ent} {Q : Value → Shared → Prop} (hr : RawD w d xs s.heap)
    (h : Q (.int xs.length (s.toks + 1)) { s with toks := s.toks + 1 + 1 }) : wpAny (model prog w) A (call (.builtin "len") [.ref d]) Q E s := by
  have hty := RawD.typeIs hr
  obtain ⟨hl, hsys, hn, o, es, ep, ho, hc, hd, he⟩ := hr
  have hes : es.size = xs.length := by rw [← Array.length_toList, he, List.length_map]
  have line := sizeLine_eq
  have m : MeetsIn prog w (Builtin.«dict.__len__» ⟨[.ref d], []⟩) (fun _ R s2 => s2 = s ∧ R (.ok (.ret (.int xs.length s2.toks))) { s2 with toks := s2.toks + 1 }) := .of_wp fun A R s2 ⟨e, q⟩ => by
    subst e
    show wpAny _ _ (dictSize d >>= _) _ _ s2
    unfold dictSize
    refine wpAny_bind (wpAny_bind (wpAny_dictEntries ho hd (wpAny_pure ?_)))
    show wpAny _ _ (Builtin.Dict.pendingCount d >>= _) _ _ s2
    refine wpAny_bind (wpAny_pendingCount_other hsys ?_)
    refine wpAny_ret_mkInt ?_
    rw [Nat.add_zero, hes]
    exact q
  refine Calls.call_function_entry kind_len plain_len entry_len (args_len1 _) ?_
  unfold Builtin.«len»
  refine wpAny_bind (m := oneArg "len" _) (wpAny_pure ?_)
  refine wpAny_bind (m := callSpecial? (.ref d) (Str.ofString "__len__")) (wpAny_callSpecial?_slot (name := Str.ofString "__len__") hty PySem.F.slot_dict_len
    (call_meetsIn PySem.F.slot_dict_len hty PySem.F.entry_dict_len (PySem.F.args_dict_len_1 _) m ⟨rfl, ?_⟩))
  show wpAny _ _ _ _ _ { s with toks := s.toks + 1 }
  refine wpAny_bind (wpAny_holding (wpAny_pure ?_))
  refine wpAny_bind (wpAny_letGo ?_)
  show wpAny _ _ (if ((xs.length : Nat) : Int) < 0 then _ else _) _ _ _
  rw [if_neg (by omega)]
  show wpAny _ _ (if ((xs.length : Nat) : Int) ≥ 2 ^ 63 then _ else _) _ _ _
  rw [if_neg (by omega)]
  exact wpAny_bind (wpAny_mkInt (wpAny_pure ⟨_, rfl, h⟩))
theorem call_xlen : CallR X (.builtin "len") (rXLen X) := by
  intro pins s σ H vs us Q I r h
  obtain ⟨a, xs, rfl, hr, q⟩ := h
  cases r with
  | cons r1 r2 =>
    cases r2
    obtain rfl : _ = Value.ref a := r1
    exact len_key (raw_at hr I.hok) ⟨.int ((xs.length : Nat) : Int), H, I.tok _, ⟨_, rfl⟩, q⟩
/-! ### a loop over the keys -/
def vOf : Value → V
  | .int i _ => .int i
  | .ref a => .ref a
  | _ => .non
theorem vOf_of {v : V} {u : Value} (h : (∃ i t, u = .int i t) ∨ ∃ a, u = .ref a) (r : RelV v u) : v = vOf u := by
  rcases h with ⟨i, t, rfl⟩ | ⟨a, rfl⟩
  · cases v with
    | int j => obtain ⟨t', e⟩ := r; cases e; rfl
    | str _ => obtain ⟨t', e⟩ := r; cases e
    | byt _ => obtain ⟨t', e⟩ := r; cases e
    | flt _ => obtain ⟨t', e⟩ := r; cases e
    | non => cases r
    | bl _ => cases r
    | ref _ => cases r
    | ty _ => cases r
  · cases v with
    | ref b => cases r; rfl
    | str _ => obtain ⟨t', e⟩ := r; cases e
    | byt _ => obtain ⟨t', e⟩ := r; cases e
    | flt _ => obtain ⟨t', e⟩ := r; cases e
    | int _ => obtain ⟨t', e⟩ := r; cases e
    | non => cases r
    | bl _ => cases r
    | ty _ => cases r
theorem rel_vOf {u : Value} (h : (∃ i t, u = .int i t) ∨ ∃ a, u = .ref a) : RelV (vOf u) u := by
  rcases h with ⟨i, t, rfl⟩ | ⟨a, rfl⟩
  · exact ⟨t, rfl⟩
  · exact rfl
/-- the keys of the dict at d, which stands still -/
def Itx (X : Cx) (d : Addr) (o : Obj) (xs : List Ent) : It :=
  ⟨fun i H => H d = some (.frz o (DicO X.w d xs)) ∧ EntsIn X H xs ∧ i < xs.length, fun i H x H' => H' = H ∧ ∃ e, xs[i]? = some e ∧ x = vOf e.2.1, fun i H => H d = some (.frz o (DicO X.w d xs)) ∧ xs.length ≤ i⟩
theorem frz_raw {pins : List (Addr × Obj)} {σ : L2.St} {H : Hp} {s : Shared} {d : Addr} {o : Obj} {xs : List Ent} (I : Inv X pins σ H s) (h : H d = some (.frz o (DicO X.w d xs))) :
    (d == sysModules) = false ∧ s.heap.get? d = some o ∧ o.ExactDict ∧ ∃ (es : Array DictEntry) (ep : Nat), o.data = .dict es ep ∧ es.size = xs.length ∧ es.toList = xs.map (entD X.w) := by
  obtain ⟨hd, q, _⟩ := I.hok d _ h
  obtain ⟨z1, z2, z3, o', es, ep, ho, hx, hdt, he⟩ := q
  rw [hd] at ho
  cases ho
  exact ⟨z2, hd, hx, es, ep, hdt, by rw [← Array.length_toList, he, List.length_map], he⟩
theorem turn_x {X0 : Cx} {tg : Expr} {d : Addr} {o : Obj} {es : Array DictEntry} {ep : Nat} {xs : List Ent} (it : Addr) (hod : o.data = .dict es ep) : Turn X0.prog X0.w X0.K tg (Itx X0 d o xs) [it] it (fun i h => h.IsKeyIter it d i xs.length ep) where
  mem := by simp
  obj := fun i h st b hb => by
    have e : b = it := by simpa using hb
    subst e
    obtain ⟨oi, e, c, dd⟩ := st
    exact ⟨oi, e, fun v z => by rw [dd] at z; cases z⟩
  keep := fun i h h' st k => st.at fun oi e => k it (by simp) oi e
  item := by
    intro X hP hw hK hc i pins s σ H E I hf st hg
    obtain ⟨hd, hents, hi⟩ := hg
    rw [← hw] at hd
    obtain ⟨f0, f1, f2, f3, f4, f5⟩ := hf it (by simp)
    obtain ⟨hs, hgd, hx, es', ep', hdt, hsz, ent⟩ := frz_raw I hd
    obtain ⟨rfl, rfl⟩ := dict_ep hod hdt
    obtain ⟨e, he⟩ : ∃ e, xs[i]? = some e := ⟨xs[i], List.getElem?_eq_getElem hi⟩
    have hen := ent_at ent i
    rw [he] at hen
    have isk : IsK s.heap e.1 e.2.1 := hents s.heap (by rw [← hP, ← hw]; exact I.hok) e (List.mem_of_getElem? he)
    refine next_key_item st hgd hdt hsz hen fun h' st' sb => ?_
    have I1 : Inv X pins σ H { s with heap := h' } := I.turned (t' := s.toks) (fun b ob hb e => (sb.2 b hb).trans e) f0 f1 f3 f4 f5
    obtain ⟨oi, e2, c, dd⟩ := id st'
    exact ⟨e.2.1, rfl, go_of (s := { s with heap := h' }) e2 c dd (by decide) ⟨vOf e.2.1, H, I1, rel_vOf isk.top, ⟨rfl, e, he, rfl⟩, st', fun b hb => (hf b hb).1⟩⟩
  done := by
    intro X hP hw hK hc i pins s σ H E I hf st hg
    obtain ⟨hd, hi⟩ := hg
    rw [← hw] at hd
    obtain ⟨f0, f1, f2, f3, f4, f5⟩ := hf it (by simp)
    obtain ⟨hs, hgd, hx, es', ep', hdt, hsz, ent⟩ := frz_raw I hd
    obtain ⟨rfl, rfl⟩ := dict_ep hod hdt
    exact next_key_end (I.ok.hd hc) st hgd hdt hsz hi fun h' eb => ⟨rfl, I.turned (t' := s.toks) (fun b ob hb e => eb b ob hb e) f0 f1 f3 f4 f5⟩
  self := fun A i s Q E st h => by
    refine wpAny_pyIter_slot st.typeIs PySem.F.slot_dict_keyiterator_iter (wpAny_call_entry PySem.F.slot_dict_keyiterator_iter st.typeIs PySem.F.entry_dict_keyiterator_iter ?_ (PySem.F.args_dict_keyiterator_iter_1 _))
    exact (show wpAny _ _ (ret (.ref it)) _ _ s from wpAny_pure ⟨_, rfl, "dict_keyiterator", _, st.typeIs, PySem.F.slot_dict_keyiterator_next.lookup, h⟩)
def iXKeys (X : Cx) (td : TE) : TI := fun σ H R => td σ H fun x H1 => ∃ d o xs, x = .ref d ∧ H1 d = some (.frz o (DicO X.w d xs)) ∧ R (Itx X d o xs) H1
theorem pi_xkeys {tg : Expr} (he : PE X e td) : PI X tg e (iXKeys X td) := by
  refine ⟨fun pins s σ H R I h => ?_⟩
  refine thn (he.run pins s σ H _ I h) fun u s1 ⟨x, H1, I1, rx, d, o, xs, ex, hd, q⟩ => ?_
  subst ex
  obtain rfl : u = Value.ref d := rx
  obtain ⟨hs, hgd, hx, es, ep, hdt, hsz, ent⟩ := frz_raw I1 hd
  refine iter_keys hs hgd hx hdt (pi_one (tk := s1.toks) I1 _ (turn_x _ hdt) ⟨_, Heap.get?_push_size _ rfl, rfl, ?_⟩ q)
  rw [hsz]
  rfl
/-- the dict at d stands still from now on -/
theorem ps_frz {st : Stmt} {t : TS} (h : PS X st t) : PS X st (fun D σ H => t D σ H ∨ ∃ d u, H d = some u ∧ Mut (some u) ∧ ∀ od, t D σ (upd H d (.frz od u))) := by
  refine ⟨fun pins s σ H D I hw => ?_⟩
  rcases hw with hw | ⟨d, u, hd, mu, hw⟩
  · exact h.run pins s σ _ _ I hw
  · obtain ⟨od, I1⟩ := I.lock hd mu
    exact h.run pins s σ _ _ I1 (hw od)
end
end DX

namespace DL
open PySem PySem.Spec PyProof.Rows L2
/-! ### dicts as data -/
mutual
theorem keyD_inj : ∀ (a b : D) (k : NestedKey), keyD a = some k → keyD b = some k → a = b
  | .non, b, k, h1, h2 => by
    simp only [keyD, Option.some.injEq] at h1
    subst h1
    cases b <;> simp [keyD] at h2
    rfl
  | .int i, b, k, h1, h2 => by
    simp only [keyD, Option.some.injEq] at h1
    subst h1
    cases b <;> simp [keyD] at h2
    rw [h2]
  | .str s, b, k, h1, h2 => by
    simp only [keyD, Option.some.injEq] at h1
    subst h1
    cases b <;> simp [keyD] at h2
    rw [h2]
  | .tup xs, b, k, h1, h2 => by
    simp only [keyD, Option.map_eq_some_iff] at h1
    obtain ⟨ks, e1, rfl⟩ := h1
    cases b with
    | tup ys =>
      simp only [keyD, Option.map_eq_some_iff] at h2
      obtain ⟨ks', e2, e3⟩ := h2
      cases e3
      rw [keyDs_inj xs ys ks e1 e2]
    | non => simp [keyD] at h2
    | bl _ => simp [keyD] at h2
    | int _ => simp [keyD] at h2
    | str _ => simp [keyD] at h2
    | lst _ => simp [keyD] at h2
    | scr _ => simp [keyD] at h2
  | .bl _, _, _, h1, _ => by simp [keyD] at h1
  | .lst _, _, _, h1, _ => by simp [keyD] at h1
  | .scr _, _, _, h1, _ => by simp [keyD] at h1
theorem keyDs_inj : ∀ (a b : List D) (ks : List NestedKey), keyDs a = some ks → keyDs b = some ks → a = b
  | [], b, ks, h1, h2 => by
    simp only [keyDs, Option.some.injEq] at h1
    subst h1
    cases b with
    | nil => rfl
    | cons y ys =>
      unfold keyDs at h2
      split at h2 <;> cases h2
  | x :: xs, b, ks, h1, h2 => by
    unfold keyDs at h1
    split at h1
    · rename_i k ks' e1 e2
      cases h1
      cases b with
      | nil => simp [keyDs] at h2
      | cons y ys =>
        unfold keyDs at h2
        split at h2
        · rename_i k2 ks2 e3 e4
          cases h2
          rw [keyD_inj x y _ e1 e3, keyDs_inj xs ys _ e2 e4]
        · cases h2
    · cases h1
end
theorem keyOk_inj {a b : D} {k : NestedKey} (h1 : keyOk a = some k) (h2 : keyOk b = some k) : a = b := keyD_inj a b k (DX.keyOk_inv h1).1 (DX.keyOk_inv h2).1
noncomputable def dAt (kvs : List (D × D)) (d : D) : Option D := (kvs.find? fun x => decide (x.1 = d)).map (·.2)
noncomputable def dPut (kvs : List (D × D)) (d v : D) : List (D × D) := if (dAt kvs d).isSome then kvs.map (fun x => if x.1 = d then (x.1, v) else x) else kvs ++ [(d, v)]
section
variable {K : KW} {G : Hp}
theorem at_rel {d : D} {k : NestedKey} (hk : keyOk d = some k) : ∀ {xs : List Ent} {kvs : List (D × D)}, Paired (KRel K G) xs kvs → (∃ e y, DX.atD xs k = some e ∧ dAt kvs d = some y ∧ ∃ v, RelV v e.2.2 ∧ Rep K G v y) ∨ (DX.atD xs k = none ∧ dAt kvs d = none)
  | _, _, .nil => .inr ⟨rfl, rfl⟩
  | _, _, .cons (a := x) (b := y) r t => by
    by_cases h : x.1 = k
    · have e2 : y.1 = d := keyOk_inj (by rw [r.key, h]) hk
      refine .inl ⟨x, y.2, ?_, ?_, r.vv⟩
      · unfold DX.atD
        rw [List.find?_cons, decide_eq_true h]
      · unfold dAt
        rw [List.find?_cons, decide_eq_true e2]
        rfl
    · have e2 : ¬ y.1 = d := fun z => h (by
        have := r.key
        rw [z, hk] at this
        exact (Option.some.inj this).symm)
      have ih := at_rel hk t
      unfold DX.atD dAt at ih ⊢
      rw [List.find?_cons, decide_eq_false h, List.find?_cons, decide_eq_false e2]
      exact ih
theorem put_map {d v : D} {k : NestedKey} {r : Value} (hk : keyOk d = some k) (hv : ∃ v0, RelV v0 r ∧ Rep K G v0 v) : ∀ {xs : List Ent} {kvs : List (D × D)}, Paired (KRel K G) xs kvs →
    Paired (KRel K G) (xs.map fun x => if x.1 = k then (x.1, x.2.1, r) else x) (kvs.map fun x => if x.1 = d then (x.1, v) else x)
  | _, _, .nil => .nil
  | _, _, .cons (a := x) (b := y) q t => by
    have ih := put_map hk hv t
    rw [List.map_cons, List.map_cons]
    refine .cons ?_ ih
    by_cases h : x.1 = k
    · have e2 : y.1 = d := keyOk_inj (by rw [q.key, h]) hk
      rw [if_pos h, if_pos e2]
      exact ⟨q.key, q.kv, hv⟩
    · have e2 : ¬ y.1 = d := fun z => h (by
        have := q.key
        rw [z, hk] at this
        exact (Option.some.inj this).symm)
      rw [if_neg h, if_neg e2]
      exact q
theorem paired_snoc {α β : Type} {F : α → β → Prop} {a : α} {b : β} (h : F a b) : ∀ {l : List α} {m : List β}, Paired F l m → Paired F (l ++ [a]) (m ++ [b])
  | _, _, .nil => .cons h .nil
  | _, _, .cons r t => .cons r (paired_snoc h t)
theorem put_rel {d v : D} {k : NestedKey} {iv r : Value} {xs : List Ent} {kvs : List (D × D)} (hk : keyOk d = some k) (p : Paired (KRel K G) xs kvs) (hi : ∃ v0, RelV v0 iv ∧ Rep K G v0 d) (hv : ∃ v0, RelV v0 r ∧ Rep K G v0 v) :
    Paired (KRel K G) (DX.putD xs k iv r) (dPut kvs d v) := by
  unfold DX.putD dPut
  rcases at_rel hk p with ⟨e, y, h1, h2, _⟩ | ⟨h1, h2⟩
  · rw [h1, h2]
    exact put_map hk hv p
  · rw [h1, h2]
    exact paired_snoc ⟨hk, hi, hv⟩ p
end
@[simp] def celX (env : DEnv) (i : Nat) : M (List (D × D)) := match env[i]? with
  | some (.dic kvs) => .ok kvs
  | some (.fdc kvs) => .ok kvs
  | _ => .no
@[simp] def celW (env : DEnv) (i : Nat) : M (List (D × D)) := match env[i]? with
  | some (.dic kvs) => .ok kvs
  | _ => .no
@[simp] def celF (env : DEnv) (i : Nat) : M (List (D × D)) := match env[i]? with
  | some (.fdc kvs) => .ok kvs
  | _ => .no
noncomputable def inX (kvs : List (D × D)) (d : D) : Option D := (keyOk d).map fun _ => .bl (dAt kvs d).isSome
noncomputable def ninX (kvs : List (D × D)) (d : D) : Option D := (keyOk d).map fun _ => .bl (!(dAt kvs d).isSome)
noncomputable def getX (kvs : List (D × D)) (d : D) : Option D := (keyOk d).bind fun _ => dAt kvs d
noncomputable def get2X (kvs : List (D × D)) (d z : D) : Option D := (keyOk d).map fun _ => (dAt kvs d).getD z
noncomputable def putX (kvs : List (D × D)) (d v : D) : Option (List (D × D)) := (keyOk d).bind fun _ => if kvs.length < sizeLine then some (dPut kvs d v) else none
noncomputable def newX (d v : D) : Option (List (D × D)) := match d with
  | .tup xs => (keyOk (.tup xs)).map fun _ => [(.tup xs, v)]
  | _ => none
@[simp] noncomputable def xInX (i : Nat) (f : DEnv → M D) (env : DEnv) : M D := (f env).bind fun d => (celX env i).bind fun kvs => .of (inX kvs d)
@[simp] noncomputable def xNinX (i : Nat) (f : DEnv → M D) (env : DEnv) : M D := (f env).bind fun d => (celX env i).bind fun kvs => .of (ninX kvs d)
@[simp] noncomputable def xGetX (i : Nat) (f : DEnv → M D) (env : DEnv) : M D := (celX env i).bind fun kvs => (f env).bind fun d => .of (getX kvs d)
@[simp] noncomputable def xGet2X (i : Nat) (f g : DEnv → M D) (env : DEnv) : M D := (celX env i).bind fun kvs => (f env).bind fun d => (g env).bind fun z => .of (get2X kvs d z)
@[simp] noncomputable def xLenX (i : Nat) (env : DEnv) : M D := (celX env i).bind fun kvs => .ok (.int kvs.length)
@[simp] noncomputable def sPutX (i : Nat) (f g : DEnv → M D) : DStm := fun env => (g env).to env fun v => (celW env i).to env fun kvs => (f env).to env fun d => (M.of (putX kvs d v)).to env fun k2 => .nx (env.set i (.dic k2))
@[simp] noncomputable def sDic0 (i : Nat) : DStm := fun env => .nx (env.set i (.dic []))
@[simp] noncomputable def sDic1 (i : Nat) (f g : DEnv → M D) : DStm := fun env => (f env).to env fun d => (g env).to env fun v => (M.of (newX d v)).to env fun k2 => .nx (env.set i (.dic k2))
@[simp] def sFrzD (i : Nat) (g : DStm) : DStm := fun env => match env[i]? with
  | some (.dic kvs) => g (env.set i (.fdc kvs))
  | some (.fdc _) => g env
  | _ => .no
@[simp] def iKeysX (i : Nat) (env : DEnv) : M (List D) := (celF env i).bind fun kvs => .ok (kvs.map (·.1))
@[simp] def sMove (i j : Nat) : DStm := fun env => (celW env j).to env fun kvs => .nx ((env.set j .un).set i (.dic kvs))
theorem celX_inv {env : DEnv} {i : Nat} {kvs : List (D × D)} (h : celX env i = .ok kvs) : env[i]? = some (.dic kvs) ∨ env[i]? = some (.fdc kvs) := by
  simp only [celX] at h
  split at h
  · rename_i e
    cases h
    exact .inl e
  · rename_i e
    cases h
    exact .inr e
  · cases h
theorem celX_no {env : DEnv} {i : Nat} {c : Str} (h : celX env i = .ex c) : False := by
  simp only [celX] at h
  split at h <;> cases h
theorem celW_inv {env : DEnv} {i : Nat} {kvs : List (D × D)} (h : celW env i = .ok kvs) : env[i]? = some (.dic kvs) := by
  simp only [celW] at h
  split at h
  · rename_i e
    cases h
    exact e
  · cases h
theorem celW_no {env : DEnv} {i : Nat} {c : Str} (h : celW env i = .ex c) : False := by
  simp only [celW] at h
  split at h <;> cases h
theorem celF_inv {env : DEnv} {i : Nat} {kvs : List (D × D)} (h : celF env i = .ok kvs) : env[i]? = some (.fdc kvs) := by
  simp only [celF] at h
  split at h
  · rename_i e
    cases h
    exact e
  · cases h
theorem celF_no {env : DEnv} {i : Nat} {c : Str} (h : celF env i = .ex c) : False := by
  simp only [celF] at h
  split at h <;> cases h
/-- where a dict of a slot stands -/
theorem Cn.dict {K : KW} {B G0 G H : Hp} {σ : L2.St} {env : DEnv} {i : Nat} {kvs : List (D × D)} (c : Cn K B G0 G σ H env) (h : env[i]? = some (.dic kvs) ∨ env[i]? = some (.fdc kvs)) :
    ∃ p xs, σ[i]? = some (some (.ref p)) ∧ Rd H p (DicO K.w p xs) ∧ Paired (KRel K G) xs kvs := by
  rcases h with h | h
  · obtain ⟨o, e1, p, xs, e2, gp, bp, hp, r⟩ := c.cel i _ h
    subst e2
    exact ⟨p, xs, e1, .inl hp, r⟩
  · obtain ⟨o, e1, p, xs, od, e2, gp, r⟩ := c.cel i _ h
    subst e2
    exact ⟨p, xs, e1, .inr ⟨od, c.exG _ _ gp⟩, r⟩
theorem paired_len {α β : Type} {F : α → β → Prop} : ∀ {l : List α} {m : List β}, Paired F l m → l.length = m.length
  | _, _, .nil => rfl
  | _, _, .cons _ t => congrArg (· + 1) (paired_len t)
section
variable {X : Cx} {W : WX} {e e1 e2 value : Expr} {f g : DEnv → M D} {pos p : Pos}
theorem RdE.inX {te tv : TE} {r : R2} {h : List (D × D) → D → Option D} (i : Nat) (a2 : RdE (kw X) X.mg W te f)
    (hv : ∀ (σ : L2.St) (H : Hp) (Q : VK) (q : Addr), σ[i]? = some (some (.ref q)) → Q (.ref q) H → tv σ H Q)
    (hr : ∀ (G H : Hp) (x : V) (q : Addr) (d : D) (xs : List Ent) (kvs : List (D × D)) (d' : D) (Q : VK), Same G H → Rep (kw X) G x d → Rd H q (DicO X.w q xs) → Paired (KRel (kw X) G) xs kvs → h kvs d = some d' → (∃ v, Rep (kw X) G v d' ∧ (Q v H → r x (.ref q) H Q))) :
    RdE (kw X) X.mg W (tOp r te tv) (fun env => (f env).bind fun d => (celX env i).bind fun kvs => .of (h kvs d)) := by
  intro B G0 G H σ env Q c p
  refine a2 B G0 G H σ env _ c ?_
  cases o : f env with
  | no => simp only [o] at p; exact p
  | ex n => simp only [o] at p; exact p
  | ok d =>
    simp only [o, M.bind] at p
    intro v1 H1 G1 s1 c1 r1
    cases o2 : celX env i with
    | no => rw [o2] at p; exact p.elim
    | ex n => exact (celX_no o2).elim
    | ok kvs =>
      simp only [o2, M.bind] at p
      obtain ⟨q, xs, e1, hq, pr⟩ := c1.dict (celX_inv o2)
      cases o3 : h kvs d with
      | none => rw [o3] at p; exact p.elim
      | some d' =>
        rw [o3] at p
        obtain ⟨v, rv, k⟩ := hr G1 H1 v1 q d xs kvs d' Q c1.exG r1 hq pr o3
        exact hv σ H1 _ q e1 (k (p v H1 G1 s1 c1 rv))
theorem de_inX (i : Nat) {x : Str} {px : Pos} (hu : X.A.units + 64 < cLine) (h : DE X W e f) (hN : X.N[i]? = some x := by rfl) (hv : Vis X.env.scope x := by first | exact Or.inl rfl | exact Or.inr (Or.inl rfl) | exact Or.inr (Or.inr rfl)) (hd : (x == ("__debug__" : Str)) = false := by decide)
    (hcd : (x == ("__classdict__" : Str)) = false := by decide) (hm : behindInMarks .In (.Name x px) = false := by rfl) : DE X W (.Compare e [.In] [.Name x px] pos) (xInX i f) ∧ DT X W (.Compare e [.In] [.Name x px] pos) (tE (xInX i f)) := by
  obtain ⟨te, a1, a2⟩ := h.ex
  have key : RdE (kw X) X.mg W (tOp (DX.rXIn X) te (tVar i)) (xInX i f) := by
    refine RdE.inX (h := inX) i a2 (fun σ H Q q e1 hq => ⟨.ref q, e1, hq⟩) ?_
    intro G H v q d xs kvs d' Q s r hq pr h
    unfold inX at h
    cases hk : keyOk d with
    | none => rw [hk] at h; cases h
    | some k =>
      rw [hk] at h
      cases h
      refine ⟨_, .bl _, fun q2 => ⟨q, xs, k, rfl, hq, DX.keyIn_of s hk r, DX.entsIn_of s pr, ?_⟩⟩
      rcases at_rel hk pr with ⟨_, _, h1, h2, _⟩ | ⟨h1, h2⟩
      · rw [h1]; rw [h2] at q2; exact q2
      · rw [h1]; rw [h2] at q2; exact q2
  exact ⟨⟨_, pe_cmpR (DX.or_xin hu) a1 (pe_var hN hv hd hcd) hm, key⟩, ⟨_, pt_cmpR (DX.or_xin hu) a1 (pe_var hN hv hd hcd) hm, key.test⟩⟩
theorem de_ninX (i : Nat) {x : Str} {px : Pos} (hu : X.A.units + 64 < cLine) (h : DE X W e f) (hN : X.N[i]? = some x := by rfl) (hv : Vis X.env.scope x := by first | exact Or.inl rfl | exact Or.inr (Or.inl rfl) | exact Or.inr (Or.inr rfl)) (hd : (x == ("__debug__" : Str)) = false := by decide)
    (hcd : (x == ("__classdict__" : Str)) = false := by decide) (hm : behindInMarks .NotIn (.Name x px) = false := by rfl) : DE X W (.Compare e [.NotIn] [.Name x px] pos) (xNinX i f) ∧ DT X W (.Compare e [.NotIn] [.Name x px] pos) (tE (xNinX i f)) := by
  obtain ⟨te, a1, a2⟩ := h.ex
  have key : RdE (kw X) X.mg W (tOp (DX.rXNin X) te (tVar i)) (xNinX i f) := by
    refine RdE.inX (h := ninX) i a2 (fun σ H Q q e1 hq => ⟨.ref q, e1, hq⟩) ?_
    intro G H v q d xs kvs d' Q s r hq pr h
    unfold ninX at h
    cases hk : keyOk d with
    | none => rw [hk] at h; cases h
    | some k =>
      rw [hk] at h
      cases h
      refine ⟨_, .bl _, fun q2 => ⟨q, xs, k, rfl, hq, DX.keyIn_of s hk r, DX.entsIn_of s pr, ?_⟩⟩
      rcases at_rel hk pr with ⟨_, _, h1, h2, _⟩ | ⟨h1, h2⟩
      · rw [h1]; rw [h2] at q2; exact q2
      · rw [h1]; rw [h2] at q2; exact q2
  exact ⟨⟨_, pe_cmpR (DX.or_xnin hu) a1 (pe_var hN hv hd hcd) hm, key⟩, ⟨_, pt_cmpR (DX.or_xnin hu) a1 (pe_var hN hv hd hcd) hm, key.test⟩⟩
end
end DL

namespace DL
open PySem PySem.Spec PyProof.Rows L2
section
variable {X : Cx} {W : WX} {e e1 e2 value : Expr} {f g : DEnv → M D} {st : Stmt} {a : DStm} {pos p : Pos}
/-- d[k] -/
theorem de_getX (i : Nat) {x : Str} {px : Pos} (hu : X.A.units + 64 < cLine) (h : DE X W e f) (hs : NoSl e := by intro _ _; rfl) (hN : X.N[i]? = some x := by rfl) (hv : Vis X.env.scope x := by first | exact Or.inl rfl | exact Or.inr (Or.inl rfl) | exact Or.inr (Or.inr rfl)) (hd : (x == ("__debug__" : Str)) = false := by decide)
    (hcd : (x == ("__classdict__" : Str)) = false := by decide) : DE X W (.Subscript (.Name x px) e pos) (xGetX i f) := by
  obtain ⟨te, a1, a2⟩ := h.ex
  refine ⟨_, DX.pe_xget hu (pe_var hN hv hd hcd) a1 hs, fun B G0 G H σ env Q c po => ?_⟩
  simp only [xGetX] at po
  cases o : celX env i with
  | no => rw [o] at po; exact po.elim
  | ex n => exact (celX_no o).elim
  | ok kvs =>
    simp only [o, M.bind] at po
    obtain ⟨q, xs, e1, hq, pr⟩ := c.dict (celX_inv o)
    refine ⟨.ref q, e1, a2 B G0 G H σ env _ c ?_⟩
    cases o2 : f env with
    | no => rw [o2] at po; exact po
    | ex n => rw [o2] at po; exact po
    | ok d =>
      simp only [o2, M.bind] at po
      intro v1 H1 G1 s1 c1 r1
      obtain ⟨q', xs', e1', hq', pr'⟩ := c1.dict (celX_inv o)
      rw [e1] at e1'
      cases e1'
      unfold getX at po
      cases hk : keyOk d with
      | none => rw [hk] at po; exact po.elim
      | some k =>
        simp only [hk, Option.bind_some] at po
        rcases at_rel hk pr' with ⟨en, y, h1, h2, v, rv, r⟩ | ⟨h1, h2⟩
        · rw [h2] at po
          exact ⟨q, xs', k, en, v, rfl, hq', DX.keyIn_of c1.exG hk r1, DX.entsIn_of c1.exG pr', h1, rv, po v H1 G1 s1 c1 r⟩
        · rw [h2] at po
          exact po.elim
/-- d.get(k, z) -/
theorem de_get2X (i : Nat) {x : Str} {px apos cpos : Pos} (hu : X.A.units + 64 < cLine) (h : DE X W e f) (h2 : DE X W e2 g) (hN : X.N[i]? = some x := by rfl) (m : M2 X (.Name x px) "get" apos e e2 cpos := by exact ⟨rfl, rfl, rfl, rfl⟩) (hv : Vis X.env.scope x := by first | exact Or.inl rfl | exact Or.inr (Or.inl rfl) | exact Or.inr (Or.inr rfl)) (hd : (x == ("__debug__" : Str)) = false := by decide)
    (hcd : (x == ("__classdict__" : Str)) = false := by decide) : DE X W (.Call (.Attribute (.Name x px) "get" apos) [e, e2] [] cpos) (xGet2X i f g) := by
  obtain ⟨te, a1, a2⟩ := h.ex
  obtain ⟨tx, b1, b2⟩ := h2.ex
  refine ⟨_, DX.pe_xget2 hu (pe_var hN hv hd hcd) a1 b1 m, fun B G0 G H σ env Q c po => ?_⟩
  simp only [xGet2X] at po
  cases o : celX env i with
  | no => rw [o] at po; exact po.elim
  | ex n => exact (celX_no o).elim
  | ok kvs =>
    simp only [o, M.bind] at po
    obtain ⟨q, xs, e1, hq, pr⟩ := c.dict (celX_inv o)
    refine ⟨.ref q, e1, q, xs, rfl, hq, a2 B G0 G H σ env _ c ?_⟩
    cases o2 : f env with
    | no => rw [o2] at po; exact po
    | ex n => rw [o2] at po; exact po
    | ok d =>
      simp only [o2, M.bind] at po
      intro v1 H1 G1 s1 c1 r1
      refine b2 B G0 G1 H1 σ env _ c1 ?_
      cases o3 : g env with
      | no => rw [o3] at po; exact po
      | ex n => rw [o3] at po; exact po
      | ok z =>
        simp only [o3, M.bind] at po
        intro v2 H2 G2 s2 c2 r2
        obtain ⟨q', xs', e1', hq', pr'⟩ := c2.dict (celX_inv o)
        rw [e1] at e1'
        cases e1'
        unfold get2X at po
        cases hk : keyOk d with
        | none => rw [hk] at po; exact po.elim
        | some k =>
          simp only [hk, Option.map_some] at po
          rcases at_rel hk pr' with ⟨en, y, h1, h2, v, rv, r⟩ | ⟨h1, h2⟩
          · rw [h2] at po
            exact ⟨xs', k, v, hq', DX.keyIn_of c2.exG hk (r1.up s2), DX.entsIn_of c2.exG pr', fun e q => (by rw [h1] at q; cases q; exact rv), fun q => (by rw [h1] at q; cases q), po v H2 G2 (s1.trans s2) c2 r⟩
          · rw [h2] at po
            exact ⟨xs', k, v2, hq', DX.keyIn_of c2.exG hk (r1.up s2), DX.entsIn_of c2.exG pr', fun e q => (by rw [h1] at q; cases q), fun _ => rfl, po v2 H2 G2 (s1.trans s2) c2 r2⟩
/-- len(d) -/
theorem de_lenX (i : Nat) {x : Str} {px : Pos} (hm : X.mg "len" = none) (hg : Gl X "len" := by rfl) (hN : X.N[i]? = some x := by rfl) (hv : Vis X.env.scope x := by first | exact Or.inl rfl | exact Or.inr (Or.inl rfl) | exact Or.inr (Or.inr rfl)) (hd : (x == ("__debug__" : Str)) = false := by decide)
    (hcd : (x == ("__classdict__" : Str)) = false := by decide) (hs : starEach [.Name x px] X.env = (false, eval (.Name x px) X.env) :: starEach [] X.env := by rfl) (hpl : (backTo pos (starEach [] X.env)).any (·.1) = false := by rfl) :
    DE X W (.Call (.Name "len" p) [.Name x px] [] pos) (xLenX i) := by
  refine ⟨_, pe_callB DX.call_xlen hg hm PySem.boot_len (pa_cons (pe_var hN hv hd hcd) pa_nil hs) (by decide) (by decide) hs hpl, fun B G0 G H σ env Q c po => ?_⟩
  simp only [xLenX] at po
  cases o : celX env i with
  | no => rw [o] at po; exact po.elim
  | ex n => exact (celX_no o).elim
  | ok kvs =>
    simp only [o, M.bind] at po
    obtain ⟨q, xs, e1, hq, pr⟩ := c.dict (celX_inv o)
    refine ⟨.ref q, e1, q, xs, rfl, hq, ?_⟩
    rw [paired_len pr]
    exact po _ H G (Same.refl G) c (.int _)
/-- d[k] = v -/
theorem ds_putX (i : Nat) {x : Str} {px pos' : Pos} (hu : X.A.units + 64 < cLine) (h : DE X W e f) (hv2 : DE X W value g) (hs : swapsWith value (some (.Subscript (.Name x px) e pos')) pos.line X.env = pure false := by rfl) (hN : X.N[i]? = some x := by rfl) (hv : Vis X.env.scope x := by first | exact Or.inl rfl | exact Or.inr (Or.inl rfl) | exact Or.inr (Or.inr rfl)) (hd : (x == ("__debug__" : Str)) = false := by decide)
    (hcd : (x == ("__classdict__" : Str)) = false := by decide) : DS X W (.Assign [.Subscript (.Name x px) e pos'] value pos) (sPutX i f g) := by
  obtain ⟨te, a1, a2⟩ := h.ex
  obtain ⟨tv, b1, b2⟩ := hv2.ex
  refine ⟨_, DX.ps_xput hu (pe_var hN hv hd hcd) a1 b1 hs, fun B G0 G H σ env E c po => ?_⟩
  refine b2 B G0 G H σ env _ c ?_
  simp only [sPutX] at po
  cases o : g env with
  | no => rw [o] at po; exact po
  | ex n => rw [o] at po; exact PoX.s po
  | ok v =>
    simp only [o, M.to] at po
    intro v1 H1 G1 s1 c1 r1
    cases o1 : celW env i with
    | no => rw [o1] at po; exact po.elim
    | ex n => exact (celW_no o1).elim
    | ok kvs =>
      simp only [o1, M.to] at po
      have hi := celW_inv o1
      obtain ⟨oo, e1, q, xs, e2, gp, bp, hp, pr⟩ := c1.cel i _ hi
      subst e2
      refine ⟨.ref q, e1, a2 B G0 G1 H1 σ env _ c1 ?_⟩
      cases o2 : f env with
      | no => rw [o2] at po; exact po
      | ex n => rw [o2] at po; exact PoX.s po
      | ok d =>
        simp only [o2, M.to] at po
        intro v2 H2 G2 s2 c2 r2
        obtain ⟨oo', e1', q', xs', e2', gp', bp', hp', pr'⟩ := c2.cel i _ hi
        rw [e1] at e1'
        cases e1'
        cases e2'
        unfold putX at po
        cases hk : keyOk d with
        | none => rw [hk] at po; exact po.elim
        | some k =>
          simp only [hk, Option.bind_some] at po
          by_cases hl : kvs.length < sizeLine
          · rw [if_pos hl] at po
            simp only [M.of, M.to] at po
            refine ⟨q, xs', k, rfl, hp', DX.keyIn_of c2.exG hk r2, DX.entsIn_of c2.exG pr', by rw [paired_len pr']; exact hl, fun iv r hiv hr => ?_⟩
            exact po σ _ G2 (s1.trans s2) (c2.updO hi trivial e1 ⟨q, _, rfl, gp', bp', upd_same, put_rel hk pr' ⟨v2, hiv, r2⟩ ⟨v1, hr, r1.up s2⟩⟩ trivial)
          · rw [if_neg hl] at po
            exact po.elim
/-- x = {} -/
theorem ds_dic0 (i : Nat) {x : Str} {pos' : Pos} (hN : X.N.Nodup) (hi : X.N[i]? = some x := by rfl) (hx : Loc X.env.scope x := by first | exact .inl rfl | exact .inr rfl) (hs : swapsWith (.Dict [] [] p) (some (.Name x pos')) pos.line X.env = pure false := by rfl) (hf : X.fn x = true ∨ X.env.scope.names.lookup x = some .local := by first | exact .inl rfl | exact .inr rfl) :
    DS X W (.Assign [.Name x pos'] (.Dict [] [] p) pos) (sDic0 i) := by
  refine ⟨_, ps_set (i := i) hN hi hx DX.pe_xnew hs hf, fun B G0 G H σ env E c po => ?_⟩
  intro q hq
  exact po _ _ G (Same.refl G) (c.setOwn i hq ⟨q, [], rfl, c.exG.free hq, c.exB.free hq, upd_same, .nil⟩)
theorem upd_less2 {H : Hp} {p : Addr} {o : HO} : upd (less H p) p o = upd H p o := by
  funext a
  by_cases z : a = p
  · subst z; rw [upd_same, upd_same]
  · rw [upd_ne z, less_ne z, upd_ne z]
/-- what was under a new thing comes back -/
theorem Cn.over {K : KW} {B G0 G G' H H' : Hp} {σ : L2.St} {env : DEnv} {p : Addr} {o : HO} (c0 : Cn K B G0 G σ H env) (bp : B p = none) (c1 : Cn K (upd B p o) G G' σ H' env) : Cn K B G0 G' σ H' env where
  len := c0.len
  exB := (same_upd bp).trans c1.exB
  exG := c1.exG
  ex0 := c0.ex0.trans c1.ex0
  new := fun a h => by
    rcases c1.new a h with z | z
    · exact c0.new a z
    · exact .inr ((same_upd bp).free z)
  cel := fun i s e => by
    obtain ⟨q, e1, h⟩ := c1.cel i s e
    refine ⟨q, e1, ?_⟩
    cases s with
    | un => trivial
    | dat d => exact h
    | own xs => obtain ⟨q, vs, e2, gp, bp', hp', r⟩ := h; exact ⟨q, vs, e2, gp, (same_upd bp).free bp', hp', r⟩
    | dic xs => obtain ⟨q, vs, e2, gp, bp', hp', r⟩ := h; exact ⟨q, vs, e2, gp, (same_upd bp).free bp', hp', r⟩
    | fdc xs => exact h
    | exc xs => exact h
  sep := c1.sep
theorem ds_dic1 (i : Nat) {k v : Expr} {x : Str} {pos' : Pos} (hu : X.A.units + 64 < cLine) (hN : X.N.Nodup) (h : DE X W k f) (h2 : DE X W v g) (hi : X.N[i]? = some x := by rfl) (hx : Loc X.env.scope x := by first | exact .inl rfl | exact .inr rfl) (hs : swapsWith (.Dict [some k] [v] p) (some (.Name x pos')) pos.line X.env = pure false := by rfl) (hf : X.fn x = true ∨ X.env.scope.names.lookup x = some .local := by first | exact .inl rfl | exact .inr rfl)
    (hsh : (evalEachOpt [some k] X.env).zip ((evalEach [v] X.env).map fun v => do let x ← v; standAt p; pure x) = (pairTrees [some k] [v] X.env p).map fun p => (some p.1, p.2) := by rfl) :
    DS X W (.Assign [.Name x pos'] (.Dict [some k] [v] p) pos) (sDic1 i f g) := by
  obtain ⟨te, a1, a2⟩ := h.ex
  obtain ⟨tv, b1, b2⟩ := h2.ex
  refine ⟨_, ps_set (i := i) hN hi hx (DX.pe_xdisp1 hu a1 b1 hsh) hs hf, fun B G0 G H σ env E c po => ?_⟩
  intro q hq
  have bq := c.exB.free hq
  have gq := c.exG.free hq
  have ap := c.apart hq
  have c1 : Cn (kw X) (upd B q (DicO X.w q [])) G G σ (upd H q (DicO X.w q [])) env := (c.poke gq bq ap).under upd_same gq ap
  have noG : ∀ {G4 σ4 H4 e4}, Cn (kw X) (upd B q (DicO X.w q [])) G G4 σ4 H4 e4 → G4 q = none := fun {G4 σ4 H4 e4} c4 => by
    cases z : G4 q with
    | none => rfl
    | some w =>
      rcases c4.new q (by rw [z]; intro k; cases k) with k | k
      · exact absurd gq k
      · rw [upd_same] at k; cases k
  refine a2 _ G G _ σ env _ c1 ?_
  simp only [sDic1] at po
  cases o : f env with
  | no => rw [o] at po; exact po
  | ex n =>
    rw [o] at po
    intro cls H' G' hm c'
    exact po cls σ H' G' hm (c.over bq c')
  | ok d =>
    simp only [o, M.to] at po
    intro v1 H1 G1 s1 c2 r1
    have c2' : Cn (kw X) (upd B q (DicO X.w q [])) G G1 σ H1 env := c2
    refine b2 _ G G1 H1 σ env _ c2 ?_
    cases o2 : g env with
    | no => rw [o2] at po; exact po
    | ex n =>
      rw [o2] at po
      intro cls H' G' hm c'
      exact po cls σ H' G' hm (c.over bq c')
    | ok z =>
      simp only [o2, M.to] at po
      intro v2 H2 G2 s2 c3 r2
      cases d with
      | tup ys =>
        simp only [newX] at po
        cases hk : keyOk (.tup ys) with
        | none => rw [hk] at po; exact po.elim
        | some key =>
          simp only [hk, Option.map_some, M.of, M.to] at po
          have hp2 : H2 q = some (DicO X.w q []) := c3.exB _ _ upd_same
          have r1' := r1.up s2
          cases r1' with
          | @tup ad vs _ g1 g2 =>
            refine ⟨hp2, ad, key, rfl, DX.keyIn_of c3.exG hk (.tup g1 g2), fun r hr => ?_⟩
            have c4 := c.over bq c3
            have g4 := noG c3
            have ap4 : Apart σ env q := ap
            have c5 := (c4.minus g4 bq ap4).setOwn i (t := .dic [(.tup ys, z)]) (o := DicO X.w q [(key, .ref ad, r)]) less_self ⟨q, _, rfl, g4, bq, upd_same, .cons ⟨hk, ⟨.ref ad, rfl, .tup g1 g2⟩, v2, hr, r2⟩ .nil⟩
            rw [upd_less2] at c5
            exact po _ _ G2 (s1.trans s2) c5
      | non => exact po.elim
      | bl _ => exact po.elim
      | int _ => exact po.elim
      | str _ => exact po.elim
      | lst _ => exact po.elim
      | scr _ => exact po.elim
/-- the dict of a slot stands still ahead of the statement -/
theorem ds_frzD (i : Nat) (h : DS X W st a) : DS X W st (sFrzD i a) := by
  obtain ⟨ts, a1, a2⟩ := h.ex
  refine ⟨_, DX.ps_frz a1, fun B G0 G H σ env E c po => ?_⟩
  simp only [sFrzD] at po
  cases o : env[i]? with
  | none => simp only [o] at po; exact po.elim
  | some s =>
    cases s with
    | dic kvs =>
      simp only [o] at po
      obtain ⟨oo, e1, p, xs, e2, gp, bp, hp, r⟩ := c.cel i _ o
      subst e2
      refine .inr ⟨p, _, hp, trivial, fun od => ?_⟩
      have hl := (List.getElem?_eq_some_iff.mp o).1
      have sG : Same G (upd G p (.frz od (DicO X.w p xs))) := same_upd gp
      have c' : Cn (kw X) B G0 (upd G p (.frz od (DicO X.w p xs))) σ (upd H p (.frz od (DicO X.w p xs))) (env.set i (.fdc kvs)) := {
        len := by simp [c.len]
        exB := fun a x e => by rw [upd_ne (ne_of_none e bp)]; exact c.exB _ _ e
        exG := fun a x e => by
          by_cases z : a = p
          · subst z; rw [upd_same] at e ⊢; exact e
          · rw [upd_ne z] at e ⊢; exact c.exG _ _ e
        ex0 := c.ex0.trans sG
        new := fun a h => by
          by_cases z : a = p
          · subst z; exact .inr bp
          · rw [upd_ne z] at h; exact c.new a h
        cel := fun j s e => by
          by_cases hj : i = j
          · subst hj
            rw [List.getElem?_set_self hl] at e
            cases e
            exact ⟨_, e1, p, xs, od, rfl, upd_same, L2.Paired.mapP r fun _ _ z => z.up sG⟩
          · rw [List.getElem?_set_ne hj] at e
            obtain ⟨q, f1, h1⟩ := c.cel j s e
            refine ⟨q, f1, ?_⟩
            have ne : s.owned → q ≠ some (.ref p) := fun hu z => by
              rw [z] at f1
              exact c.sep i j _ s p hj o e trivial hu e1 f1
            cases s with
            | un => trivial
            | dat d => obtain ⟨v, e4, r4⟩ := h1; exact ⟨v, e4, r4.up sG⟩
            | own xs =>
              obtain ⟨p', vs', e4, gp', bp', hp', r'⟩ := h1
              have np : p' ≠ p := fun z => ne trivial (by rw [e4, z])
              exact ⟨p', vs', e4, by rw [upd_ne np]; exact gp', bp', by rw [upd_ne np]; exact hp', r'.up sG⟩
            | dic xs =>
              obtain ⟨p', vs', e4, gp', bp', hp', r'⟩ := h1
              have np : p' ≠ p := fun z => ne trivial (by rw [e4, z])
              exact ⟨p', vs', e4, by rw [upd_ne np]; exact gp', bp', by rw [upd_ne np]; exact hp', L2.Paired.mapP r' fun _ _ z => z.up sG⟩
            | exc xs => exact h1
            | fdc xs => obtain ⟨p', vs', od', e4, gp', r'⟩ := h1; exact ⟨p', vs', od', e4, sG _ _ gp', L2.Paired.mapP r' fun _ _ z => z.up sG⟩
        sep := fun j k s u q ne f1 f2 o1 o2 h1 => by
          have nj : i ≠ j := fun z => by
            subst z
            rw [List.getElem?_set_self hl] at f1
            cases f1
            exact o1
          have nk : i ≠ k := fun z => by
            subst z
            rw [List.getElem?_set_self hl] at f2
            cases f2
            exact o2
          rw [List.getElem?_set_ne nj] at f1
          rw [List.getElem?_set_ne nk] at f2
          exact c.sep j k s u q ne f1 f2 o1 o2 h1 }
      exact a2 B G0 _ _ σ _ E c' (PoS.up sG po)
    | un => simp only [o] at po; exact po.elim
    | dat d => simp only [o] at po; exact po.elim
    | own d => simp only [o] at po; exact po.elim
    | fdc d => simp only [o] at po; exact .inl (a2 B G0 G H σ env E c po)
    | exc d => simp only [o] at po; exact po.elim
theorem paired_at {α β : Type} {F : α → β → Prop} : ∀ {l : List α} {m : List β} {j : Nat} {y : β}, Paired F l m → m[j]? = some y → ∃ x, l[j]? = some x ∧ F x y
  | _, _, _, _, .nil, h => by simp at h
  | _, _, 0, _, .cons r _, h => by
    simp only [List.getElem?_cons_zero, Option.some.injEq] at h
    subst h
    exact ⟨_, rfl, r⟩
  | _, _, j + 1, _, .cons _ t, h => by
    simp only [List.getElem?_cons_succ] at h
    obtain ⟨x, h1, h2⟩ := paired_at t h
    exact ⟨x, by rw [List.getElem?_cons_succ]; exact h1, h2⟩
theorem top_of {K : KW} {G : Hp} {d : D} {k : NestedKey} {v : V} {u : Value} (hk : keyOk d = some k) (r : Rep K G v d) (rv : RelV v u) : (∃ i t, u = .int i t) ∨ ∃ a, u = .ref a := by
  obtain ⟨_, _, h⟩ := DX.keyOk_inv hk
  rcases h with ⟨i, rfl⟩ | ⟨xs, rfl⟩
  · cases r
    obtain ⟨t, rfl⟩ := id rv
    exact .inl ⟨_, _, rfl⟩
  · cases r with
    | @tup a vs _ g1 g2 => exact .inr ⟨a, rv⟩
/-- for .. in d, d standing still -/
theorem di_keysX {tg : Expr} (i : Nat) {x : Str} {px : Pos} (hN : X.N[i]? = some x := by rfl) (hv : Vis X.env.scope x := by first | exact Or.inl rfl | exact Or.inr (Or.inl rfl) | exact Or.inr (Or.inr rfl)) (hd : (x == ("__debug__" : Str)) = false := by decide)
    (hcd : (x == ("__classdict__" : Str)) = false := by decide) : DI X W tg (.Name x px) (iKeysX i) := by
  refine ⟨_, DX.pi_xkeys (pe_var hN hv hd hcd), fun B G0 G H σ env R c po => ?_⟩
  simp only [iKeysX] at po
  cases o : celF env i with
  | no => rw [o] at po; exact po.elim
  | ex n => exact (celF_no o).elim
  | ok kvs =>
    simp only [o, M.bind] at po
    obtain ⟨oo, e1, p, xs, od, e2, gp, r⟩ := c.cel i _ (celF_inv o)
    subst e2
    refine ⟨.ref p, e1, p, od, xs, rfl, c.exG _ _ gp, po _ H G (Same.refl G) c ?_⟩
    intro B2 G02 G2 σ2 H2 env2 j s2 c2
    have gp2 := s2 _ _ gp
    have ents : DX.EntsIn X H2 xs := DX.entsIn_of (s2.trans c2.exG) r
    refine ⟨fun d hd => ?_, fun hl => ⟨c2.exG _ _ gp2, by rw [paired_len r]; simpa using hl⟩⟩
    rw [List.getElem?_map] at hd
    cases q : kvs[j]? with
    | none => rw [q] at hd; cases hd
    | some y =>
      rw [q] at hd
      cases hd
      obtain ⟨en, hen, kr⟩ := paired_at r q
      have hj : j < xs.length := (List.getElem?_eq_some_iff.mp hen).1
      refine ⟨⟨c2.exG _ _ gp2, ents, hj⟩, fun v H3 z => ?_⟩
      obtain ⟨rfl, e3, he3, rfl⟩ := z
      rw [hen] at he3
      cases he3
      obtain ⟨v0, rv, rp⟩ := kr.kv
      have top := top_of kr.key rp rv
      exact ⟨G2, Same.refl _, c2, by rw [← DX.vOf_of top rv]; exact rp.up s2⟩
/-- the own thing of slot j goes to slot i -/
theorem Cn.move {K : KW} {B G0 G H : Hp} {σ : L2.St} {env : DEnv} {i j : Nat} {t : Cel} {o : Option V} (c : Cn K B G0 G σ H env) (hij : i ≠ j) (hj : env[j]? = some t) (ho : σ[j]? = some o) : Cn K B G0 G (σ.set i o) H ((env.set j .un).set i t) where
  len := by simp [c.len]
  exB := c.exB
  exG := c.exG
  ex0 := c.ex0
  new := c.new
  cel := fun k s e => by
    by_cases hk : i = k
    · subst hk
      have hi : i < env.length := by
        have := (List.getElem?_eq_some_iff.mp e).1
        simpa using this
      rw [List.getElem?_set_self (by simpa using hi)] at e
      cases e
      obtain ⟨o', e1, h1⟩ := c.cel j _ hj
      rw [ho] at e1
      cases e1
      exact ⟨o, by rw [List.getElem?_set_self (by rw [c.len]; exact hi)], h1⟩
    · rw [List.getElem?_set_ne hk] at e
      by_cases hk2 : j = k
      · subst hk2
        rw [List.getElem?_set_self (List.getElem?_eq_some_iff.mp hj).1] at e
        cases e
        exact ⟨o, by rw [List.getElem?_set_ne hk]; exact ho, trivial⟩
      · rw [List.getElem?_set_ne hk2] at e
        obtain ⟨o', e1, h1⟩ := c.cel k s e
        exact ⟨o', by rw [List.getElem?_set_ne hk]; exact e1, h1⟩
  sep := fun k l s u q ne f1 f2 o1 o2 h1 => by
    have back : ∀ {k : Nat} {s : Cel}, ((env.set j .un).set i t)[k]? = some s → s.owned → ∃ k' , ((k = i ∧ k' = j) ∨ (k ≠ i ∧ k' = k ∧ k ≠ j)) ∧ env[k']? = some s ∧ (σ.set i o)[k]? = σ[k']? := fun {k s} f oo => by
      by_cases hk : i = k
      · subst hk
        have hi : i < env.length := by
          have := (List.getElem?_eq_some_iff.mp f).1
          simpa using this
        rw [List.getElem?_set_self (by simpa using hi)] at f
        cases f
        exact ⟨j, .inl ⟨rfl, rfl⟩, hj, by rw [List.getElem?_set_self (by rw [c.len]; exact hi), ho]⟩
      · rw [List.getElem?_set_ne hk] at f
        by_cases hk2 : j = k
        · subst hk2
          rw [List.getElem?_set_self (List.getElem?_eq_some_iff.mp hj).1] at f
          cases f
          exact oo.elim
        · rw [List.getElem?_set_ne hk2] at f
          exact ⟨k, .inr ⟨fun z => hk z.symm, rfl, fun z => hk2 z.symm⟩, f, by rw [List.getElem?_set_ne hk]⟩
    obtain ⟨k', a1, a2, a3⟩ := back f1 o1
    obtain ⟨l', b1, b2, b3⟩ := back f2 o2
    rw [a3] at h1
    rw [b3]
    refine c.sep k' l' s u q ?_ a2 b2 o1 o2 h1
    rcases a1 with ⟨a, a'⟩ | ⟨a, a', a4⟩ <;> rcases b1 with ⟨b, b'⟩ | ⟨b, b', b4⟩ <;> omega
/-- x = y, y's own dict; y is not read behind it -/
theorem ds_move (i j : Nat) {x y : Str} {py pos' : Pos} (hij : i ≠ j) (hN : X.N.Nodup) (hj : X.N[j]? = some y := by rfl) (hv : Vis X.env.scope y := by first | exact Or.inl rfl | exact Or.inr (Or.inl rfl) | exact Or.inr (Or.inr rfl)) (hd : (y == ("__debug__" : Str)) = false := by decide) (hcd : (y == ("__classdict__" : Str)) = false := by decide)
    (hi : X.N[i]? = some x := by rfl) (hx : Loc X.env.scope x := by first | exact .inl rfl | exact .inr rfl) (hs : swapsWith (.Name y py) (some (.Name x pos')) pos.line X.env = pure false := by rfl) (hf : X.fn x = true ∨ X.env.scope.names.lookup x = some .local := by first | exact .inl rfl | exact .inr rfl) :
    DS X W (.Assign [.Name x pos'] (.Name y py) pos) (sMove i j) := by
  refine ⟨_, ps_set (i := i) hN hi hx (pe_var hj hv hd hcd) hs hf, fun B G0 G H σ env E c po => ?_⟩
  simp only [sMove] at po
  cases o : celW env j with
  | no => rw [o] at po; exact po.elim
  | ex n => exact (celW_no o).elim
  | ok kvs =>
    simp only [o, M.to] at po
    have h := celW_inv o
    obtain ⟨oo, e1, p, xs, e2, gp, bp, hp, r⟩ := c.cel j _ h
    subst e2
    exact ⟨.ref p, e1, po _ H G (Same.refl G) (c.move hij h e1)⟩
end
end DL

namespace DL
open PySem PySem.Spec PyProof.Rows L2
/-! ### while all stands still -/
/-- own lists are lent as data -/
def stillC : Cel → Cel
  | .own xs => .dat (.lst xs)
  | .dic _ => .un
  | c => c
@[simp] def still (env : DEnv) : DEnv := env.map stillC
/-- data that hold no object -/
def flatD : D → Bool
  | .non => true
  | .bl _ => true
  | .int _ => true
  | .str _ => true
  | _ => false
theorem flat_rep {K : KW} {G G' : Hp} {v : V} {d : D} (h : flatD d = true) (r : Rep K G v d) : Rep K G' v d := by
  cases r <;> simp [flatD] at h
  · exact .non
  · exact .bl _
  · exact .int _
  · exact .str _
@[simp] def xStill (f : DEnv → M D) (env : DEnv) : M D := (f (still env)).bind fun d => if flatD d = true then .ok d else .no
@[simp] def tStill (t : DEnv → M Bool) (env : DEnv) : M Bool := t (still env)
theorem Cn.still {K : KW} {B G0 G H : Hp} {σ : L2.St} {env : DEnv} (c : Cn K B G0 G σ H env) : Cn K H H H σ H (still env) where
  len := by simp [c.len]
  exB := Same.refl H
  exG := Same.refl H
  ex0 := Same.refl H
  new := fun a h => .inl h
  cel := fun i s e => by
    simp only [DL.still, List.getElem?_map, Option.map_eq_some_iff] at e
    obtain ⟨t, e1, rfl⟩ := e
    obtain ⟨o, e2, h⟩ := c.cel i t e1
    refine ⟨o, e2, ?_⟩
    cases t with
    | un => trivial
    | dat d => obtain ⟨v, e3, r⟩ := h; exact ⟨v, e3, r.up c.exG⟩
    | own xs => obtain ⟨p, vs, e3, gp, bp, hp, r⟩ := h; exact ⟨_, e3, .lst hp (r.up c.exG)⟩
    | dic xs => trivial
    | exc xs => exact h
    | fdc xs => obtain ⟨p, vs, od, e3, gp, r⟩ := h; exact ⟨p, vs, od, e3, c.exG _ _ gp, L2.Paired.mapP r fun _ _ z => z.up c.exG⟩
  sep := fun i j s t p ne e1 e2 o1 o2 q => by
    simp only [DL.still, List.getElem?_map, Option.map_eq_some_iff] at e1
    obtain ⟨t, _, rfl⟩ := e1
    cases t <;> exact o1.elim
theorem Cn.wake {K : KW} {B G0 G G' H H' : Hp} {σ : L2.St} {env env' : DEnv} (c : Cn K B G0 G σ H env) (c' : Cn K H H G' σ H' env') : Cn K B G0 G σ H' env :=
  c.grow (Same.refl G) c'.exB (c.exG.trans c'.exB) fun a h => .inl h
section
variable {X : Cx} {W : WX} {e : Expr} {f : DEnv → M D} {t : DEnv → M Bool} {pos p : Pos}
theorem RdE.still {K : KW} {mg : Str → Option Value} {te : TE} (h : RdE K mg W te f) : RdE K mg W te (xStill f) := by
  intro B G0 G H σ env Q c po
  refine h H H H H σ (DL.still env) Q c.still ?_
  simp only [xStill] at po
  cases o : f (DL.still env) with
  | no => rw [o] at po; exact po
  | ex n =>
    rw [o] at po
    intro cls H' G' hm c'
    exact po cls H' G hm (c.wake c')
  | ok d =>
    simp only [o, M.bind] at po
    intro v H' G' s c' r
    by_cases hf : flatD d = true
    · rw [if_pos hf] at po
      exact po v H' G (Same.refl G) (c.wake c') (flat_rep hf r)
    · rw [if_neg hf] at po
      exact po.elim
theorem RdT.still {K : KW} {mg : Str → Option Value} {te : TT} (h : RdT K mg W te t) : RdT K mg W te (tStill t) := by
  intro B G0 G H σ env Q c po
  refine h H H H H σ (DL.still env) Q c.still ?_
  simp only [tStill] at po
  cases o : t (DL.still env) with
  | no => rw [o] at po; exact po
  | ex n =>
    rw [o] at po
    intro cls H' G' hm c'
    exact po cls H' G hm (c.wake c')
  | ok d =>
    rw [o] at po
    intro H' G' s c'
    exact po H' G (Same.refl G) (c.wake c')
theorem de_still (h : DE X W e f) : DE X W e (xStill f) := by
  obtain ⟨_, a1, a2⟩ := h.ex
  exact ⟨_, a1, a2.still⟩
theorem dt_still (h : DT X W e t) : DT X W e (tStill t) := by
  obtain ⟨_, a1, a2⟩ := h.ex
  exact ⟨_, a1, a2.still⟩
end
/-! ### a new list that a call gives -/
mutual
def noLst : D → Bool
  | .non => true
  | .bl _ => true
  | .int _ => true
  | .str _ => true
  | .tup xs => noLsts xs
  | _ => false
def noLsts : List D → Bool
  | [] => true
  | x :: xs => noLst x && noLsts xs
end
/-- the tuples alone -/
def tups (H : Hp) : Hp := fun a => match H a with
  | some (.tup xs) => some (.tup xs)
  | _ => none
theorem tups_same (H : Hp) : Same (tups H) H := fun a o e => by
  unfold tups at e
  split at e
  · rename_i h
    cases e
    exact h
  · cases e
theorem tups_at {H : Hp} {a : Addr} {xs : List V} (h : H a = some (.tup xs)) : tups H a = some (.tup xs) := by
  unfold tups
  rw [h]
theorem tups_only {H : Hp} {a : Addr} (h : tups H a ≠ none) : ∃ xs, tups H a = some (.tup xs) := by
  cases q : tups H a with
  | none => exact absurd q h
  | some o =>
    unfold tups at q
    split at q
    · cases q; exact ⟨_, rfl⟩
    · cases q
mutual
theorem Rep.tups {K : KW} {G H : Hp} (s : Same G H) : ∀ (d : D) (v : V), noLst d = true → Rep K G v d → Rep K (tups H) v d
  | .non, _, _, r => by cases r; exact .non
  | .bl _, _, _, r => by cases r; exact .bl _
  | .int _, _, _, r => by cases r; exact .int _
  | .str _, _, _, r => by cases r; exact .str _
  | .tup xs, _, h, r => by
    cases r with
    | tup g1 g2 => exact .tup (tups_at (s _ _ g1)) (Reps.tups s xs _ (by simpa [noLst] using h) g2)
  | .lst _, _, h, _ => by simp [noLst] at h
  | .scr _, _, h, _ => by simp [noLst] at h
theorem Reps.tups {K : KW} {G H : Hp} (s : Same G H) : ∀ (ds : List D) (vs : List V), noLsts ds = true → Reps K G vs ds → Reps K (tups H) vs ds
  | [], _, _, r => by cases r; exact .nil
  | d :: ds, _, h, r => by
    cases r with
    | cons r1 r2 =>
      have h' : noLst d = true ∧ noLsts ds = true := by simpa [noLsts] using h
      exact .cons (Rep.tups s d _ h'.1 r1) (Reps.tups s ds _ h'.2 r2)
end
theorem flats_rep {K : KW} {G G' : Hp} : ∀ {ds : List D} {vs : List V}, ds.all flatD = true → Reps K G vs ds → Reps K G' vs ds
  | [], _, _, r => by cases r; exact .nil
  | d :: ds, _, h, r => by
    cases r with
    | cons r1 r2 =>
      have h' : flatD d = true ∧ ds.all flatD = true := by simpa using h
      exact .cons (flat_rep h'.1 r1) (flats_rep h'.2 r2)
def ownC : D → Option Cel
  | .lst xs => if xs.all flatD = true then some (.own xs) else none
  | d => if flatD d = true then some (.dat d) else none
@[simp] def sOwnCall (i n : Nat) (g : List D → M D) (ga : DEnv → M (List D)) : DStm := fun env => (ga env).to env fun ds => if ds.length = n ∧ noLsts ds = true then (g ds).to env fun d => (M.of (ownC d)).to env fun c => .nx (env.set i c) else .no
section
variable {X : Cx} {W : WX} {e : Expr} {es : List Expr} {pos p pos2 : Pos}
theorem ds_ownCall {k j n : Nat} (i : Nat) {x y : Str} {pos' : Pos} {g : List D → M D} {ga : DEnv → M (List D)} (F : DFn X.prog X.w X.K X.mg X.base k y n g) (hr : Room j X.A) (hj : k ≤ j) (tk : Takes X W) (ha : DA X W (e :: es) ga) (hN : X.N.Nodup)
    (hg : Gl X y := by rfl) (hdb : (y == ("__debug__" : Str)) = false := by decide) (he : starEach (e :: es) X.env = (false, eval e X.env) :: starEach es X.env := by rfl) (hpl : (backTo pos (starEach es X.env)).any (·.1) = false := by rfl)
    (hi : X.N[i]? = some x := by rfl) (hx : Loc X.env.scope x := by first | exact .inl rfl | exact .inr rfl) (hs : swapsWith (.Call (.Name y p) (e :: es) [] pos) (some (.Name x pos')) pos2.line X.env = pure false := by rfl) (hf : X.fn x = true ∨ X.env.scope.names.lookup x = some .local := by first | exact .inl rfl | exact .inr rfl) :
    DS X W (.Assign [.Name x pos'] (.Call (.Name y p) (e :: es) [] pos) pos2) (sOwnCall i n g ga) := by
  obtain ⟨f, fd, ps, F1, F2, F3, F4⟩ := F.ex
  obtain ⟨_, a1, a2⟩ := ha.ex
  refine ⟨_, ps_set (i := i) hN hi hx (pe_callS F1 (hr.mono hj) hg F2 F3 F4 (fun σ => passAt tk σ) a1 hdb he hpl) hs hf, fun B G0 G H σ env E c po => ?_⟩
  refine a2 B G0 G H σ env _ c ?_
  simp only [sOwnCall] at po
  cases o : ga env with
  | no => rw [o] at po; exact po
  | ex m => rw [o] at po; exact PoX.s po
  | ok ds =>
    simp only [o, M.to] at po
    intro vs H1 G1 s1 c1 r1
    by_cases hl : ds.length = n ∧ noLsts ds = true
    · rw [if_pos hl] at po
      have rt : Reps (kw X) (tups H1) vs ds := Reps.tups c1.exG ds vs hl.2 r1
      refine ⟨r1.length.trans hl.1, tups H1, ds, tups_same H1, rt, ?_⟩
      cases q : g ds with
      | no => rw [q] at po; exact po
      | ex m =>
        rw [q] at po
        intro cls H' hm hh
        exact po cls σ H' G1 hm (c1.grow (Same.refl _) hh (c1.exG.trans hh) fun a z => .inl z)
      | ok d =>
        simp only [q, M.to] at po
        intro v H' G' s2 gh hh nw r
        have c2 := c1.grow (Same.refl G1) hh (c1.exG.trans hh) fun a z => .inl z
        cases o2 : ownC d with
        | none => rw [o2] at po; exact po.elim
        | some cl =>
          simp only [o2, M.of, M.to] at po
          cases d with
          | lst xs =>
            simp only [ownC] at o2
            split at o2
            · rename_i hfl
              cases o2
              cases r with
              | @lst a ys _ g1 g2 =>
                have ha : H1 a = none := by
                  rcases nw a (by rw [g1]; intro z; cases z) with z | z
                  · obtain ⟨zs, hz⟩ := tups_only z
                    have := s2 _ _ hz
                    rw [g1] at this
                    cases this
                  · exact z
                have hB := c1.exB.free ha
                have hG := c1.exG.free ha
                have hp := gh _ _ g1
                -- what is new stands at a alone
                have ap : Apart σ env a := c1.apart ha
                have c3 := (c2.minus hG hB ap).setOwn i (t := .own xs) (o := .lst ys) less_self ⟨a, ys, rfl, hG, hB, upd_same, flats_rep hfl g2⟩
                rw [upd_less hp] at c3
                exact po _ H' G1 s1 c3
            · cases o2
          | non => cases o2; exact po _ H' G1 s1 (c2.set i (flat_rep rfl r))
          | bl b => cases o2; exact po _ H' G1 s1 (c2.set i (flat_rep rfl r))
          | int b => cases o2; exact po _ H' G1 s1 (c2.set i (flat_rep rfl r))
          | str b => cases o2; exact po _ H' G1 s1 (c2.set i (flat_rep rfl r))
          | tup b => simp [ownC, flatD] at o2
          | scr b => simp [ownC, flatD] at o2
    · rw [if_neg hl] at po
      exact po.elim
end
end DL

namespace DL
open PySem PySem.Spec PyProof.Rows L2
/-! ### range downward -/
noncomputable def rng3D : List D → Option (List D)
  | [.int i, .int j, .int c] => if inB i = true ∧ inB j = true ∧ c = -1 then some ((List.range (i - j).toNat).map fun (m : Nat) => D.int (i + (m : Int) * (-1))) else none
  | _ => none
theorem jok_rngC {K : KW} {G1 : Hp} {lo c : Int} {n : Nat} : JOk K (Itc lo c n) G1 ((List.range n).map fun (m : Nat) => D.int (lo + (m : Int) * c)) := by
  intro B G0 G σ H env i _ cn
  refine ⟨fun d hd => ?_, fun hi => by
    show n ≤ i
    simpa using hi⟩
  have hi : i < n := by
    have := (List.getElem?_eq_some_iff.mp hd).1
    simpa using this
  refine ⟨hi, fun x H' y => ?_⟩
  obtain ⟨rfl, rfl⟩ := y
  refine ⟨G, Same.refl G, cn, ?_⟩
  rw [List.getElem?_map, List.getElem?_range hi] at hd
  simp only [Option.map_some, Option.some.injEq] at hd
  subst hd
  exact .int _
section
variable {X : Cx} {W : WX} {tg : Expr} {pos p : Pos}
theorem di_rng3 {a b c : Expr} {g : DEnv → M (List D)} (hm : X.mg "range" = none) (ha : DA X W [a, b, c] g) (hg : Gl X "range" := by rfl) (hs : starEach [a, b, c] X.env = (false, eval a X.env) :: starEach [b, c] X.env := by rfl)
    (hpl : (backTo pos (starEach [b, c] X.env)).any (·.1) = false := by rfl) : DI X W tg (.Call (.Name "range" p) [a, b, c] [] pos) (iRng rng3D g) := by
  obtain ⟨ta, a1, a2⟩ := ha.ex
  refine ⟨_, pi_range3 hg hm a1 hs hpl, ?_⟩
  intro B G0 G H σ env R cn po
  simp only [iRng] at po
  refine a2 B G0 G H σ env _ cn ?_
  cases o : g env with
  | no => rw [o] at po; exact po
  | ex m => rw [o] at po; exact po
  | ok ds =>
    rw [o] at po
    intro vs H1 G1 s1 c1 r1
    simp only [M.bind] at po
    cases q : rng3D ds with
    | none => rw [q] at po; exact po.elim
    | some its =>
      rw [q] at po
      unfold rng3D at q
      split at q
      · split at q
        · rename_i hc
          obtain ⟨h1, h2, rfl⟩ := hc
          obtain ⟨x1, x2⟩ := (inB_iff _).mp h1
          obtain ⟨y1, y2⟩ := (inB_iff _).mp h2
          cases q
          cases r1 with
          | cons x y =>
            cases y with
            | cons y z =>
              cases z with
              | cons z u =>
                cases u; cases x; cases y; cases z
                exact ⟨_, _, _, _, rfl, RgC.neg x1 x2 y1 y2, po _ H1 G1 s1 c1 jok_rngC⟩
        · cases q
      · cases q
end
end DL

namespace DL
open PySem PySem.Spec PyProof.Rows L2
/-! ### try .. except X as e -/
section
variable {K : KW} {B G0 G G' H H' : Hp} {σ σ' : L2.St} {env env' : DEnv}
theorem Cn.base (c : Cn K B G0 G σ H env) : Cn K B G G σ H env :=
  { len := c.len, exB := c.exB, exG := c.exG, ex0 := Same.refl G, new := fun a h => .inl h, cel := c.cel, sep := c.sep }
theorem Cn.unbase (c : Cn K B G0 G σ H env) (c' : Cn K B G G' σ' H' env') : Cn K B G0 G' σ' H' env' :=
  { len := c'.len, exB := c'.exB, exG := c'.exG, ex0 := c.ex0.trans c'.ex0, new := fun a h => (c'.new a h).elim (fun z => c.new a z) .inr, cel := c'.cel, sep := c'.sep }
theorem Cn.setExc (c : Cn K B G0 G σ H env) (i : Nat) (a : Addr) : Cn K B G0 G (σ.set i (some (.ref a))) H (env.set i (.exc a)) where
  len := by simp [c.len]
  exB := c.exB
  exG := c.exG
  ex0 := c.ex0
  new := c.new
  cel := fun j s e => by
    by_cases h : i = j
    · subst h
      have hi : i < env.length := by
        have := (List.getElem?_eq_some_iff.mp e).1
        simpa using this
      rw [List.getElem?_set_self hi] at e
      cases e
      exact ⟨some (.ref a), by rw [List.getElem?_set_self (by rw [c.len]; exact hi)], rfl⟩
    · rw [List.getElem?_set_ne h] at e
      obtain ⟨o, e1, q⟩ := c.cel j s e
      exact ⟨o, by rw [List.getElem?_set_ne h]; exact e1, q⟩
  sep := fun j k s t p ne e1 e2 o1 o2 q => by
    have hj : i ≠ j := fun z => by
      subst z
      have hi : i < env.length := by
        have := (List.getElem?_eq_some_iff.mp e1).1
        simpa using this
      rw [List.getElem?_set_self hi] at e1
      cases e1
      exact o1
    have hk : i ≠ k := fun z => by
      subst z
      have hi : i < env.length := by
        have := (List.getElem?_eq_some_iff.mp e2).1
        simpa using this
      rw [List.getElem?_set_self hi] at e2
      cases e2
      exact o2
    rw [List.getElem?_set_ne hj] at e1 q
    rw [List.getElem?_set_ne hk] at e2 ⊢
    exact c.sep j k s t p ne e1 e2 o1 o2 q
end
def tSF (K : KW) (mg : Str → Option Value) (W : WX) (g : DStm) : TS := fun E σ H => ∃ B G0 G env, Cn K B G0 G σ H env ∧ PoS K mg W B G0 G E (g env)
theorem DSs.canon {X : Cx} {W : WX} {st : List Stmt} {g : DStm} (h : DSs X W st g) : PSs X st (tSF (kw X) X.mg W g) := by
  obtain ⟨ts, a1, a2⟩ := h.ex
  exact ⟨fun pins s σ H E I ⟨B, G0, G, env, c, p⟩ => a1.run pins s σ H E I (a2 B G0 G H σ env E c p)⟩
open Classical in
/-- what the suite gives back for an exception of class c, whatever its place -/
noncomputable def suiteR (i : Nat) (gs : Addr → Str → DStm) (c : Str) (e : DEnv) : DOut := if h : ∃ d, ∀ a, gs a c (e.set i (.exc a)) = .rt d then .rt h.choose else .no
theorem suiteR_eq {i : Nat} {gs : Addr → Str → DStm} {c : Str} {e : DEnv} {d : D} (h : ∀ a, gs a c (e.set i (.exc a)) = .rt d) : suiteR i gs c e = .rt d := by
  have hex : ∃ d, ∀ a, gs a c (e.set i (.exc a)) = .rt d := ⟨d, h⟩
  unfold suiteR
  rw [dif_pos hex]
  have := (hex.choose_spec 0).symm.trans (h 0)
  exact this
theorem suiteR_inv {i : Nat} {gs : Addr → Str → DStm} {c : Str} {e : DEnv} : suiteR i gs c e = .no ∨ ∃ d, suiteR i gs c e = .rt d ∧ ∀ a, gs a c (e.set i (.exc a)) = .rt d := by
  unfold suiteR
  split
  · rename_i h
    exact .inr ⟨_, rfl, h.choose_spec⟩
  · exact .inl rfl
noncomputable def sTryAs (i : Nat) (cs : List Str) (gb : DStm) (gs : Addr → Str → DStm) : DStm := fun env => match gb env with
  | .ex c e => if c ∈ cs then suiteR i gs c e else .no
  | o => o
section
variable {X : Cx} {W : WX} {body suite : List Stmt} {b₀ : Stmt} {pos pos' np : Pos}
theorem ds_tryAs (i : Nat) {x n : Str} {cv : Value} {cs : List Str} {gb : DStm} {gs : Addr → Str → DStm} (hN : X.N.Nodup) (hc : Names X x cv) (tk : Takes X W)
    (hcat : ∀ c ∈ cs, ∃ D, X.mg c = some (.ref D) ∧ PySem.W.exmOne X.K (.ref D) cv = some true)
    (hb : ∀ (W' : WX) (pn : List (Addr × Obj)) (xe : Value → Shared → Prop), Takes (X.tr pn xe) W' → PassesOwn (model X.prog X.w) X.A X.env xe → DSs (X.tr pn xe) W' body gb)
    (hsu : ∀ c ∈ cs, ∀ (a : Addr) (oe : Obj) (pn : List (Addr × Obj)) (D : Addr), X.mg c = some (.ref D) → Zc (.ref D) none oe → (∃ vs, oe.data = .fields vs) → DSs (X.suite a ((a, oe) :: pn)) W0 (b₀ :: suite) (gs a c))
    (hi : X.N[i]? = some n := by rfl) (hln : X.env.kindOf n = some .local := by rfl) (hs : X.stack = X.env :: X.outer := by rfl) (hf : X.env.frame = some X.env.locals := by rfl) :
    DS X W (.Try body [.ExceptHandler (some (.Name x np)) (some n) (b₀ :: suite) pos'] [] [] pos) (sTryAs i cs gb gs) := by
  refine ⟨_, ps_try_as (tb := fun W' => tSF (kw X) X.mg W' gb) (ts := fun a cls d E σ H => ∃ c ∈ cs, X.mg c = some cls ∧ d = none ∧ (∃ D, cls = .ref D) ∧ tSF (kw X) X.mg W0 (gs a c) E σ H) hs hf hN hi hln hc tk
    (fun W' pn xe h1 h2 => (hb W' pn xe h1 h2).canon) (fun a oe cls d pn hz hfl => ⟨fun pins s σ H E I ⟨c, hcs, hm, hd, ⟨D, hD⟩, h⟩ => ?_⟩), fun B G0 G H σ env E c po => ?_⟩
  · subst hD hd
    exact (hsu c hcs a oe pn D hm hz hfl).canon.run pins s σ H E I h
  · refine ⟨B, G, G, env, c.base, ?_⟩
    unfold sTryAs at po
    cases o : gb env with
    | no => rw [o] at po; exact po
    | nx e => rw [o] at po; exact fun σ' H' G' s c' => po σ' H' G' s (c.unbase c')
    | rt d => rw [o] at po; exact fun v σ' H' G' e s c' r => po v σ' H' G' e s (c.unbase c') r
    | bk e => rw [o] at po; exact fun σ' H' G' s c' => po σ' H' G' s (c.unbase c')
    | ct e => rw [o] at po; exact fun σ' H' G' s c' => po σ' H' G' s (c.unbase c')
    | ex n e =>
      rw [o] at po
      simp only at po
      by_cases hn : n ∈ cs
      · rw [if_pos hn] at po
        rcases suiteR_inv (i := i) (gs := gs) (c := n) (e := e) with z | ⟨d, z, hd⟩
        · rw [z] at po; exact po.elim
        · rw [z] at po
          intro cls σ' H' G' hm c'
          obtain ⟨D, hD, hex⟩ := hcat n hn
          rw [hD] at hm
          cases hm
          refine ⟨true, hex, fun _ a ha => ⟨n, hn, hD, rfl, ⟨D, rfl⟩, B, G', G', _, (c'.base.setExc i a), ?_⟩, fun h => by cases h⟩
          rw [hd a]
          intro v σ2 H2 G2 e2 s2 c2 r2
          have c3 := c.unbase (c'.unbase (c'.base.unbase c2))
          exact po v σ2 H2 G2 e2 (c'.ex0.trans s2) c3 r2
      · rw [if_neg hn] at po
        exact po.elim
end
/-! ### what is asked of the exception -/
/-- isinstance(e, C), e at slot i -/
@[simp] def xIsE (i : Nat) (a : Addr) (b : Bool) (env : DEnv) : M D := match env[i]? with
  | some (.exc a') => if a' = a then .ok (.bl b) else .no
  | _ => .no
def subE (c C : Str) : Bool := decide (c = C) || decide (C = "WriteError") || decide (C = "ValueError")
section
variable {X : Cx} {W : WX} {a : Addr} {oe : Obj} {pn : List (Addr × Obj)} {pos p px pc : Pos}
theorem xIsE_rd {K : KW} {mg : Str → Option Value} {i : Nat} {v : V} {k : PySem.W.Frag} {D : Addr} {cv : Value} {b : Bool} (hv : ∀ u, RelV v u → u = cv) (hk : PySem.W.kitOne k (.ref D) cv = some b) :
    RdE K mg W (tCB (rIsE k D a) (tCons (tVar i) (tCons (tC v) tNil))) (xIsE i a b) := by
  intro B G0 G H σ env Q c po
  simp only [xIsE] at po
  cases o : env[i]? with
  | none => rw [o] at po; exact po.elim
  | some s =>
    cases s with
    | exc a' =>
      simp only [o] at po
      by_cases h : a' = a
      · rw [if_pos h] at po
        subst h
        obtain ⟨oo, e1, e2⟩ := c.cel i _ o
        subst e2
        exact ⟨_, e1, v, cv, b, rfl, hv, hk, po _ H G (Same.refl G) c (.bl b)⟩
      · rw [if_neg h] at po
        exact po.elim
    | un => rw [o] at po; exact po.elim
    | dat _ => rw [o] at po; exact po.elim
    | own _ => rw [o] at po; exact po.elim
    | dic _ => rw [o] at po; exact po.elim
    | fdc _ => rw [o] at po; exact po.elim
theorem de_isE (i : Nat) {n C : Str} {D D' : Addr} {b : Bool} (EC : ExcC X.K D) (hz : Zc (.ref D) none oe) (hf : ∃ vs, oe.data = .fields vs) (hk : PySem.W.kitOne X.K (.ref D) (.ref D') = some b) (hm : X.mg "isinstance" = none) (hmC : X.mg C = some (.ref D'))
    (hN : X.N[i]? = some n := by rfl) (hv : Vis X.env.scope n := by first | exact Or.inl rfl | exact Or.inr (Or.inl rfl) | exact Or.inr (Or.inr rfl)) (hd : (n == ("__debug__" : Str)) = false := by decide) (hcd : (n == ("__classdict__" : Str)) = false := by decide)
    (hg : Gl X "isinstance" := by rfl) (hgC : Gl X C := by rfl) (hdC : (C == ("__debug__" : Str)) = false := by decide)
    (hs : starEach [.Name n px, .Name C pc] X.env = (false, eval (.Name n px) X.env) :: starEach [.Name C pc] X.env := by rfl) (hs2 : starEach [.Name C pc] X.env = (false, eval (.Name C pc) X.env) :: starEach [] X.env := by rfl) (hpl : (backTo pos (starEach [.Name C pc] X.env)).any (·.1) = false := by rfl) :
    DE (X.suite a ((a, oe) :: pn)) W (.Call (.Name "isinstance" p) [.Name n px, .Name C pc] [] pos) (xIsE i a b) := by
  refine ⟨_, pe_callB (X := X.suite a ((a, oe) :: pn)) (call_isE EC hz hf) hg hm boot_isinstance (pa_cons (pe_var hN hv hd hcd) (pa_cons (pe_glob (v := .ref D') hgC hmC rfl hdC) pa_nil hs2) hs) (by decide) (by decide) hs hpl, ?_⟩
  exact xIsE_rd (fun u h => h) hk
theorem de_isET (i : Nat) {n C : Str} {T : String} {D : Addr} {b : Bool} (EC : ExcC X.K D) (hz : Zc (.ref D) none oe) (hf : ∃ vs, oe.data = .fields vs) (hk : PySem.W.kitOne X.K (.ref D) (.type T) = some b) (hT : bootBuiltins C = some (.type T)) (hm : X.mg "isinstance" = none) (hmC : X.mg C = none)
    (hN : X.N[i]? = some n := by rfl) (hv : Vis X.env.scope n := by first | exact Or.inl rfl | exact Or.inr (Or.inl rfl) | exact Or.inr (Or.inr rfl)) (hd : (n == ("__debug__" : Str)) = false := by decide) (hcd : (n == ("__classdict__" : Str)) = false := by decide)
    (hg : Gl X "isinstance" := by rfl) (hgC : Gl X C := by rfl) (hdC : (C == ("__debug__" : Str)) = false := by decide) (hnC : C ≠ "__name__" := by decide)
    (hs : starEach [.Name n px, .Name C pc] X.env = (false, eval (.Name n px) X.env) :: starEach [.Name C pc] X.env := by rfl) (hs2 : starEach [.Name C pc] X.env = (false, eval (.Name C pc) X.env) :: starEach [] X.env := by rfl) (hpl : (backTo pos (starEach [.Name C pc] X.env)).any (·.1) = false := by rfl) :
    DE (X.suite a ((a, oe) :: pn)) W (.Call (.Name "isinstance" p) [.Name n px, .Name C pc] [] pos) (xIsE i a b) := by
  refine ⟨_, pe_callB (X := X.suite a ((a, oe) :: pn)) (call_isE EC hz hf) hg hm boot_isinstance (pa_cons (pe_var hN hv hd hcd) (pa_cons (pe_bltn (v := .ty T) hgC hmC hT rfl hnC hdC) pa_nil hs2) hs) (by decide) (by decide) hs hpl, ?_⟩
  exact xIsE_rd (fun u h => h) hk
end
end DL

namespace DL
open PySem PySem.Spec PyProof.Rows L2
/-! ### more of own lists -/
def setO (xs : List D) (d v : D) : Option (List D) := match d with
  | .int k => (ixN xs.length k).map fun j => xs.set j v
  | _ => none
@[simp] def sSetO (i : Nat) (f g : DEnv → M D) : DStm := fun env => (g env).to env fun v => (celO env i).to env fun xs => (f env).to env fun d => (M.of (setO xs d v)).to env fun ys => .nx (env.set i (.own ys))
def extO (xs : List D) (d : D) : Option (List D) := match d with
  | .lst ys => if xs.length + ys.length ≤ sizeLine then some (xs ++ ys) else none
  | _ => none
def popO (xs : List D) (d : D) : Option (List D) := match d with
  | .int k => if (-(2 ^ 62) ≤ k ∧ k < 2 ^ 62) then (ixN xs.length k).map fun j => xs.eraseIdx j else none
  | _ => none
/-- a change of an own list by one argument -/
@[simp] def sChg (h : List D → D → Option (List D)) (i : Nat) (f : DEnv → M D) : DStm := fun env => (celO env i).to env fun xs => (f env).to env fun d => (M.of (h xs d)).to env fun ys => .nx (env.set i (.own ys))
section
variable {X : Cx} {W : WX} {e e2 value : Expr} {f g : DEnv → M D} {pos p : Pos}
theorem ds_setO (i : Nat) {x : Str} {px pos' : Pos} (h : DE X W e f) (hv2 : DE X W value g) (hs : swapsWithSole [.Subscript (.Name x px) e pos'] value pos.line X.env = pure false := by rfl) (hw : swappedStores [.Subscript (.Name x px) e pos'] value X.env = pure none := by rfl)
    (h1 : (assignEach [.Subscript (.Name x px) e pos'] X.env).map (·.2) = [assign (.Subscript (.Name x px) e pos') X.env] := by rfl)
    (ha : ∀ v, assign (.Subscript (.Name x px) e pos') X.env v = (do
      let ov ← holding [v] (eval (.Name x px) X.env)
      let iv ← holding [v, ov] (eval e X.env)
      standAt pos'
      holding [v, ov, iv] (setItem ov iv v)
      release [v, ov, iv] []) := by intro _; rfl)
    (hN : X.N[i]? = some x := by rfl) (hv : Vis X.env.scope x := by first | exact Or.inl rfl | exact Or.inr (Or.inl rfl) | exact Or.inr (Or.inr rfl)) (hd : (x == ("__debug__" : Str)) = false := by decide)
    (hcd : (x == ("__classdict__" : Str)) = false := by decide) : DS X W (.Assign [.Subscript (.Name x px) e pos'] value pos) (sSetO i f g) := by
  obtain ⟨te, a1, a2⟩ := h.ex
  obtain ⟨tv, b1, b2⟩ := hv2.ex
  refine ⟨_, ps_asg b1 (pg_sub (pe_var hN hv hd hcd) a1 set_list ha) hs hw h1, fun B G0 G H σ env E c po => ?_⟩
  refine b2 B G0 G H σ env _ c ?_
  simp only [sSetO] at po
  cases o : g env with
  | no => rw [o] at po; exact po
  | ex n => rw [o] at po; exact PoX.s po
  | ok v =>
    simp only [o, M.to] at po
    intro v1 H1 G1 s1 c1 r1
    cases o1 : celO env i with
    | no => rw [o1] at po; exact po.elim
    | ex n => exact (celO_no o1).elim
    | ok xs =>
      simp only [o1, M.to] at po
      have hi := celO_inv o1
      obtain ⟨oo, e1, q, vs, e2, gp, bp, hp, r⟩ := c1.cel i _ hi
      subst e2
      refine ⟨.ref q, e1, a2 B G0 G1 H1 σ env _ c1 ?_⟩
      cases o2 : f env with
      | no => rw [o2] at po; exact po
      | ex n => rw [o2] at po; exact PoX.s po
      | ok d =>
        simp only [o2, M.to] at po
        intro v2 H2 G2 s2 c2 r2
        obtain ⟨oo', e1', q', vs', e2', gp', bp', hp', r'⟩ := c2.cel i _ hi
        rw [e1] at e1'
        cases e1'
        cases e2'
        cases d with
        | int k =>
          cases r2
          simp only [setO] at po
          cases hj : ixN xs.length k with
          | none => rw [hj] at po; exact po.elim
          | some j =>
            simp only [hj, Option.map_some, M.of, M.to] at po
            refine ⟨q, vs', k, j, rfl, rfl, hp', by rw [r'.length]; exact hj, ?_⟩
            exact po σ _ G2 (s1.trans s2) (c2.updO hi trivial e1 ⟨q, _, rfl, gp', bp', upd_same, Reps.set (r1.up s2) j r'⟩ trivial)
        | non => exact po.elim
        | bl _ => exact po.elim
        | str _ => exact po.elim
        | lst _ => exact po.elim
        | tup _ => exact po.elim
        | scr _ => exact po.elim
theorem ds_chg {h : List D → D → Option (List D)} {r : V → List V → Hp → VK → Prop} {name : Str} {id : String} (slot : Slot "list" name id) (hty : typeOf (.builtin id) = pure (.type "method_descriptor")) (hm : MtM X id r)
    (hr : ∀ (K : KW) (G H : Hp) (q : Addr) (vs : List V) (xs ys : List D) (v : V) (d : D) (Q : VK), Same G H → G q = none → H q = some (.lst vs) → Reps K G vs xs → Rep K G v d → h xs d = some ys → ∃ ws u, Reps K G ws ys ∧ (Q u (upd H q (.lst ws)) → r (.ref q) [v] H Q))
    (i : Nat) {x : Str} {px apos cpos : Pos} (he : DE X W e f) (hN : X.N[i]? = some x := by rfl) (hv : Vis X.env.scope x := by first | exact Or.inl rfl | exact Or.inr (Or.inl rfl) | exact Or.inr (Or.inr rfl)) (hd : (x == ("__debug__" : Str)) = false := by decide)
    (hcd : (x == ("__classdict__" : Str)) = false := by decide) (hbase : attributeBase (.Name x px) name X.env (eval (.Name x px) X.env) = eval (.Name x px) X.env := by rfl)
    (hfew : ((backTo cpos (starEach [e] X.env)).all (fun x => !x.1) && (backToKw cpos (keywordEach [] X.env)).all (fun x => x.1.isSome)
      && decide ([e].length + ([] : List Keyword).length + (if ([] : List Keyword).isEmpty then 0 else 1) < 30)) = true := by rfl)
    (hline : (apos.endLine == cpos.line) = true := by rfl) (hse : starEach [e] X.env = (false, eval e X.env) :: starEach [] X.env := by rfl) (hplain : (backTo cpos (starEach [] X.env)).any (·.1) = false := by rfl)
    (hs : swapsWith (.Call (.Attribute (.Name x px) name apos) [e] [] cpos) none pos.line X.env = pure false := by rfl) :
    DS X W (.Expr (.Call (.Attribute (.Name x px) name apos) [e] [] cpos) pos) (sChg h i f) := by
  obtain ⟨te, a1, a2⟩ := he.ex
  refine ⟨_, ps_expr (pe_bm PySem.F.plainAttrs_list slot hty hm (pe_var hN hv hd hcd) (pa_cons a1 pa_nil hse) hbase hfew hline hse hplain) hs, fun B G0 G H σ env E c po => ?_⟩
  simp only [sChg] at po
  cases o : celO env i with
  | no => rw [o] at po; exact po.elim
  | ex n => exact (celO_no o).elim
  | ok xs =>
    rw [o] at po
    have hi := celO_inv o
    obtain ⟨q, e1, p, vs, e2, gp, bp, hp, rr⟩ := c.cel i _ hi
    subst e2
    refine ⟨.ref p, e1, .inl ⟨rfl, _, .inl (.inl hp)⟩, ?_⟩
    refine a2 B G0 G H σ env _ c ?_
    simp only [M.to] at po
    cases q : f env with
    | no => rw [q] at po; exact po
    | ex n => rw [q] at po; exact PoX.s po
    | ok d =>
      rw [q] at po
      intro v H1 G1 s1 c1 r1
      simp only [M.to] at po
      obtain ⟨q', e1', p', vs', e2', gp', bp', hp', r'⟩ := c1.cel i _ hi
      rw [e1] at e1'
      cases e1'
      cases e2'
      cases hh : h xs d with
      | none => rw [hh] at po; exact po.elim
      | some ys =>
        simp only [hh, M.of, M.to] at po
        obtain ⟨ws, u, rw', k⟩ := hr (kw X) G1 H1 p vs' xs ys v d _ c1.exG gp' hp' r' r1 hh
        exact k (po σ _ G1 s1 (c1.updO hi trivial e1 ⟨p, _, rfl, gp', bp', upd_same, rw'⟩ trivial))
theorem ds_ext (i : Nat) {x : Str} {px apos cpos : Pos} (he : DE X W e f) (hN : X.N[i]? = some x := by rfl) (hv : Vis X.env.scope x := by first | exact Or.inl rfl | exact Or.inr (Or.inl rfl) | exact Or.inr (Or.inr rfl)) (hd : (x == ("__debug__" : Str)) = false := by decide)
    (hcd : (x == ("__classdict__" : Str)) = false := by decide) (hbase : attributeBase (.Name x px) "extend" X.env (eval (.Name x px) X.env) = eval (.Name x px) X.env := by rfl)
    (hfew : ((backTo cpos (starEach [e] X.env)).all (fun x => !x.1) && (backToKw cpos (keywordEach [] X.env)).all (fun x => x.1.isSome)
      && decide ([e].length + ([] : List Keyword).length + (if ([] : List Keyword).isEmpty then 0 else 1) < 30)) = true := by rfl)
    (hline : (apos.endLine == cpos.line) = true := by rfl) (hse : starEach [e] X.env = (false, eval e X.env) :: starEach [] X.env := by rfl) (hplain : (backTo cpos (starEach [] X.env)).any (·.1) = false := by rfl)
    (hs : swapsWith (.Call (.Attribute (.Name x px) "extend" apos) [e] [] cpos) none pos.line X.env = pure false := by rfl) :
    DS X W (.Expr (.Call (.Attribute (.Name x px) "extend" apos) [e] [] cpos) pos) (sChg extO i f) := by
  refine ds_chg PySem.F.slot_list_extend PySem.F.type_list_extend mt_extend ?_ i he hN hv hd hcd hbase hfew hline hse hplain hs
  intro K G H q vs xs ys v d Q s gq hq r rv h
  cases d with
  | lst zs =>
    simp only [extO] at h
    split at h
    · rename_i hl
      cases h
      cases rv with
      | @lst b us _ g1 g2 => exact ⟨_, .non, r.append g2, fun k => ⟨q, b, vs, us, rfl, rfl, hq, s _ _ g1, by rw [r.length, g2.length]; exact hl, k⟩⟩
    · cases h
  | non => cases h
  | bl _ => cases h
  | int _ => cases h
  | str _ => cases h
  | tup _ => cases h
  | scr _ => cases h
theorem Reps.erase {K : KW} {G : Hp} : ∀ {vs : List V} {ds : List D} (j : Nat), Reps K G vs ds → Reps K G (vs.eraseIdx j) (ds.eraseIdx j)
  | [], [], _, h => by simpa using h
  | _ :: _, _ :: _, 0, .cons _ h => h
  | _ :: _, _ :: _, j + 1, .cons h1 h => .cons h1 (Reps.erase j h)
theorem ds_popO (i : Nat) {x : Str} {px apos cpos : Pos} (he : DE X W e f) (hN : X.N[i]? = some x := by rfl) (hv : Vis X.env.scope x := by first | exact Or.inl rfl | exact Or.inr (Or.inl rfl) | exact Or.inr (Or.inr rfl)) (hd : (x == ("__debug__" : Str)) = false := by decide)
    (hcd : (x == ("__classdict__" : Str)) = false := by decide) (hbase : attributeBase (.Name x px) "pop" X.env (eval (.Name x px) X.env) = eval (.Name x px) X.env := by rfl)
    (hfew : ((backTo cpos (starEach [e] X.env)).all (fun x => !x.1) && (backToKw cpos (keywordEach [] X.env)).all (fun x => x.1.isSome)
      && decide ([e].length + ([] : List Keyword).length + (if ([] : List Keyword).isEmpty then 0 else 1) < 30)) = true := by rfl)
    (hline : (apos.endLine == cpos.line) = true := by rfl) (hse : starEach [e] X.env = (false, eval e X.env) :: starEach [] X.env := by rfl) (hplain : (backTo cpos (starEach [] X.env)).any (·.1) = false := by rfl)
    (hs : swapsWith (.Call (.Attribute (.Name x px) "pop" apos) [e] [] cpos) none pos.line X.env = pure false := by rfl) :
    DS X W (.Expr (.Call (.Attribute (.Name x px) "pop" apos) [e] [] cpos) pos) (sChg popO i f) := by
  refine ds_chg PySem.F.slot_list_pop PySem.F.type_list_pop mt_popAt ?_ i he hN hv hd hcd hbase hfew hline hse hplain hs
  intro K G H q vs xs ys v d Q s gq hq r rv h
  cases d with
  | int k =>
    cases rv
    simp only [popO] at h
    split at h
    · rename_i hk
      cases hj : ixN xs.length k with
      | none => rw [hj] at h; cases h
      | some j =>
        rw [hj] at h
        cases h
        rw [← r.length] at hj
        obtain ⟨hj2, hlt, _, _⟩ := ixN_seq hj
        exact ⟨_, vs[j], Reps.erase j r, fun z => ⟨q, vs, k, j, vs[j], rfl, rfl, hq, by omega, by omega, hj2, List.getElem?_eq_getElem hlt, z⟩⟩
    · cases h
  | non => cases h
  | bl _ => cases h
  | lst _ => cases h
  | str _ => cases h
  | tup _ => cases h
  | scr _ => cases h
/-! ### index of a sign, count and index of bools -/
def idxD : D → D → Option D
  | .str a, .str b => (Txt.index0 a b).map fun k => .int (k : Nat)
  | _, _ => none
theorem de_sidx {o : Expr} {apos cpos : Pos} (hc : X.calm = true) (tk : Takes X W) (ho : DE X W o f) (he : DE X W e g) (hbase : attributeBase o "index" X.env (eval o X.env) = eval o X.env := by rfl)
    (hfew : ((backTo cpos (starEach [e] X.env)).all (fun x => !x.1) && (backToKw cpos (keywordEach [] X.env)).all (fun x => x.1.isSome)
      && decide ([e].length + ([] : List Keyword).length + (if ([] : List Keyword).isEmpty then 0 else 1) < 30)) = true := by rfl)
    (hline : (apos.endLine == cpos.line) = true := by rfl) (hse : starEach [e] X.env = (false, eval e X.env) :: starEach [] X.env := by rfl) (hplain : (backTo cpos (starEach [] X.env)).any (·.1) = false := by rfl) :
    DE X W (.Call (.Attribute o "index" apos) [e] [] cpos) (xM1 idxD f g) := by
  obtain ⟨_, a1, a2⟩ := ho.ex
  obtain ⟨_, b1, b2⟩ := he.ex
  refine ⟨_, pe_bmS PySem.F.plainAttrs_str PySem.F.slot_str_index PySem.F.type_str_index (mt_indexX hc tk) a1 (pa_cons b1 pa_nil hse) hbase hfew hline hse hplain, fun B G0 G H σ env Q c po => ?_⟩
  refine a2 B G0 G H σ env _ c ?_
  simp only [xM1] at po
  cases o1 : f env with
  | no => rw [o1] at po; exact po
  | ex n => rw [o1] at po; exact po
  | ok a =>
    simp only [o1, M.bind] at po
    intro v1 H1 G1 s1 c1 r1
    cases e2 : asS a with
    | no => rw [e2] at po; exact po.elim
    | ex n => exact (asS_ex e2).elim
    | ok s =>
      rw [e2] at po
      have hs := asS_ok e2
      subst hs
      cases r1
      refine ⟨rfl, b2 B G0 G1 H1 σ env _ c1 ?_⟩
      simp only [M.bind] at po
      cases o2 : g env with
      | no => rw [o2] at po; exact po
      | ex n => rw [o2] at po; exact po
      | ok b =>
        simp only [o2, M.bind] at po
        intro v2 H2 G2 s2 c2 r2
        cases b with
        | str y =>
          cases r2
          simp only [idxD] at po
          cases hi : Txt.index0 s y with
          | none => rw [hi] at po; exact po.elim
          | some k =>
            simp only [hi, Option.map_some, M.of] at po
            refine ⟨s, y, rfl, rfl, fun k' hk => ?_, fun hk => by rw [hi] at hk; cases hk⟩
            rw [hi] at hk
            cases hk
            exact po _ H2 G2 (s1.trans s2) c2 (.int _)
        | non => exact po.elim
        | bl _ => exact po.elim
        | int _ => exact po.elim
        | lst _ => exact po.elim
        | tup _ => exact po.elim
        | scr _ => exact po.elim
end
end DL

namespace DL
open PySem PySem.Spec PyProof.Rows L2
/-! ### lists of bools -/
def boolsOf : List D → Option (List Bool)
  | [] => some []
  | .bl b :: r => (boolsOf r).map (b :: ·)
  | _ => none
theorem boolsOf_map : ∀ {xs : List D} {ns : List Bool}, boolsOf xs = some ns → xs = ns.map D.bl
  | [], ns, h => by cases h; rfl
  | .bl i :: r, ns, h => by
    simp only [boolsOf, Option.map_eq_some_iff] at h
    obtain ⟨ms, h1, rfl⟩ := h
    rw [boolsOf_map h1]
    rfl
  | .non :: _, _, h => by cases h
  | .int _ :: _, _, h => by cases h
  | .str _ :: _, _, h => by cases h
  | .lst _ :: _, _, h => by cases h
  | .tup _ :: _, _, h => by cases h
  | .scr _ :: _, _, h => by cases h
theorem Reps.of_bools {K : KW} {G : Hp} : ∀ {ns : List Bool} {vs : List V}, Reps K G vs (ns.map D.bl) → vs = ns.map V.bl
  | [], _, h => by cases h; rfl
  | _ :: r, _, h => by
    cases h with
    | cons h1 h2 =>
      cases h1
      rw [Reps.of_bools h2]
      rfl
def cntB : D → D → Option D
  | .lst xs, .bl b => (boolsOf xs).map fun bs => .int (bs.count b : Nat)
  | _, _ => none
def idxB : D → D → Option D
  | .lst xs, .bl b => (boolsOf xs).bind fun bs => (bs.findIdx? (· == b)).map fun j => .int (j : Nat)
  | _, _ => none
def asL : D → M (List D)
  | .lst xs => .ok xs
  | _ => .no
@[simp] theorem asL_lst (xs : List D) : asL (.lst xs) = .ok xs := rfl
theorem asL_ok {d : D} {s : List D} (h : asL d = .ok s) : d = .lst s := by
  cases d <;> simp [asL] at h
  rw [h]
theorem asL_ex {d : D} {c : Str} (h : asL d = .ex c) : False := by
  cases d <;> simp [asL] at h
@[simp] def xL1 (h : D → D → Option D) (f g : DEnv → M D) (env : DEnv) : M D := (f env).bind fun a => (asL a).bind fun _ => (g env).bind fun b => .of (h a b)
def isB (b : Bool) (v : Value) : Bool := match v with
  | .bool c => c == b
  | _ => false
def rCntB (K : PySem.W.Frag) : V → List V → Hp → VK → Prop := fun x xs H Q => ∃ (p : Addr) (bs : List Bool) (b : Bool), x = .ref p ∧ xs = [.bl b] ∧ SqL K H p (bs.map V.bl) ∧ Q (.int (bs.count b : Nat)) H
theorem bools_vals : ∀ {bs : List Bool} {us : List Value}, Vals (bs.map V.bl) us → us = bs.map Value.bool
  | [], _, h => by cases h; rfl
  | b :: bs, _, h => by
    cases h with
    | cons r t =>
      obtain rfl : _ = Value.bool b := r
      rw [bools_vals t]
      rfl
theorem cnt_bools (b : Bool) : ∀ bs : List Bool, (bs.map Value.bool).countP (isB b) = bs.count b
  | [] => rfl
  | c :: bs => by
    rw [List.map_cons, List.countP_cons, List.count_cons, cnt_bools b bs]
    rfl
section
variable {X : Cx} {W : WX} {o e : Expr} {f g : DEnv → M D} {apos cpos : Pos}
theorem mt_bcount : MtR X "list.count" (rCntB X.K) := by
  intro pins s σ H x xs v us Q I rx rxs h
  obtain ⟨p, bs, b, rfl, rfl, hs, q⟩ := h
  cases rx
  obtain ⟨u, rfl, ru⟩ := rxs.one
  obtain rfl : u = Value.bool b := ru
  obtain ⟨its, rv, ⟨⟨cls, dd, data, sl⟩, n, ho, hc, hdn, hd⟩, hlen⟩ := I.list hs
  simp only at hc hd
  subst hc hd
  have hi := bools_vals rv
  refine call_meets PySem.F.slot_list_count ⟨_, ho, rfl⟩ PySem.F.entry_list_count (PySem.F.args_list_count_2 _ _)
    (SeqAt.list_countAt p its.toArray n dd sl (.bool b) (isB b)) ⟨ho, fun y hy => ?_, ?_⟩
  · have hy' : y ∈ its := by simpa using hy
    rw [hi] at hy'
    obtain ⟨c, _, rfl⟩ := List.mem_map.mp hy'
    exact SeqAt.EqAt.bool_bool c b
  · have ec : its.toArray.toList.countP (isB b) = bs.count b := by
      show its.countP (isB b) = _
      rw [hi, cnt_bools]
    refine ⟨.int (bs.count b : Nat), H, I.tok _, ⟨s.toks, ?_⟩, q⟩
    show Value.int ((its.toArray.toList.countP (isB b) : Nat) : Int) s.toks = Value.int ((bs.count b : Nat) : Int) s.toks
    rw [ec]
theorem RdE.l1 {K : KW} {mg : Str → Option Value} {ta tb : TE} {r : V → List V → Hp → VK → Prop} {h : D → D → Option D} (ha : RdE K mg W ta f) (hb : RdE K mg W tb g) (hr : OpD K (fun x y H Q => r x [y] H Q) h) :
    RdE K mg W (tBM K.k "list" r ta (tCons tb tNil)) (xL1 h f g) := by
  intro B G0 G H σ env Q c p
  refine ha B G0 G H σ env _ c ?_
  simp only [xL1] at p
  cases e : f env with
  | no => rw [e] at p; exact p
  | ex n => rw [e] at p; exact p
  | ok a =>
    rw [e] at p
    intro v1 H1 G1 s1 c1 r1
    simp only [M.bind] at p
    cases e2 : asL a with
    | no => rw [e2] at p; exact p.elim
    | ex n => exact (asL_ex e2).elim
    | ok s =>
      rw [e2] at p
      simp only [M.bind] at p
      have hs := asL_ok e2
      subst hs
      have r1' := r1
      cases r1' with
      | @lst ad vs _ g1 g2 =>
        refine ⟨.inl ⟨rfl, _, .inl (.inl (c1.exG _ _ g1))⟩, hb B G0 G1 H1 σ env _ c1 ?_⟩
        cases e3 : g env with
        | no => rw [e3] at p; exact p
        | ex n => rw [e3] at p; exact p
        | ok b =>
          rw [e3] at p
          intro v2 H2 G2 s2 c2 r2
          simp only [M.bind] at p
          cases e4 : h (.lst s) b with
          | none => rw [e4] at p; exact p.elim
          | some d =>
            rw [e4] at p
            exact hr _ _ _ _ _ _ _ _ _ _ _ _ c2 (r1.up s2) r2 e4 fun v H' G' s' c' r' => p v H' G' ((s1.trans s2).trans s') c' r'
theorem de_bcnt (ho : DE X W o f) (he : DE X W e g) (hbase : attributeBase o "count" X.env (eval o X.env) = eval o X.env := by rfl)
    (hfew : ((backTo cpos (starEach [e] X.env)).all (fun x => !x.1) && (backToKw cpos (keywordEach [] X.env)).all (fun x => x.1.isSome)
      && decide ([e].length + ([] : List Keyword).length + (if ([] : List Keyword).isEmpty then 0 else 1) < 30)) = true := by rfl)
    (hline : (apos.endLine == cpos.line) = true := by rfl) (hse : starEach [e] X.env = (false, eval e X.env) :: starEach [] X.env := by rfl) (hplain : (backTo cpos (starEach [] X.env)).any (·.1) = false := by rfl) :
    DE X W (.Call (.Attribute o "count" apos) [e] [] cpos) (xL1 cntB f g) := by
  obtain ⟨_, a1, a2⟩ := ho.ex
  obtain ⟨_, b1, b2⟩ := he.ex
  refine ⟨_, pe_bm PySem.F.plainAttrs_list PySem.F.slot_list_count PySem.F.type_list_count mt_bcount a1 (pa_cons b1 pa_nil hse) hbase hfew hline hse hplain, RdE.l1 (K := kw X) a2 b2 ?_⟩
  intro B G0 G H σ env x y a b d Q c ra rb h k
  unfold cntB at h
  split at h
  · rename_i xs b0
    cases hb : boolsOf xs with
    | none => rw [hb] at h; cases h
    | some bs =>
      rw [hb] at h
      cases h
      have e := boolsOf_map hb
      subst e
      cases rb
      cases ra with
      | lst g1 g2 =>
        have e2 := Reps.of_bools g2
        subst e2
        exact ⟨_, bs, b0, rfl, rfl, .inl (.inl (c.exG _ _ g1)), k _ H G (Same.refl G) c (.int _)⟩
  · cases h
theorem de_bidx (ho : DE X W o f) (he : DE X W e g) (hbase : attributeBase o "index" X.env (eval o X.env) = eval o X.env := by rfl)
    (hfew : ((backTo cpos (starEach [e] X.env)).all (fun x => !x.1) && (backToKw cpos (keywordEach [] X.env)).all (fun x => x.1.isSome)
      && decide ([e].length + ([] : List Keyword).length + (if ([] : List Keyword).isEmpty then 0 else 1) < 30)) = true := by rfl)
    (hline : (apos.endLine == cpos.line) = true := by rfl) (hse : starEach [e] X.env = (false, eval e X.env) :: starEach [] X.env := by rfl) (hplain : (backTo cpos (starEach [] X.env)).any (·.1) = false := by rfl) :
    DE X W (.Call (.Attribute o "index" apos) [e] [] cpos) (xL1 idxB f g) := by
  obtain ⟨_, a1, a2⟩ := ho.ex
  obtain ⟨_, b1, b2⟩ := he.ex
  refine ⟨_, pe_bm PySem.F.plainAttrs_list PySem.F.slot_list_index PySem.F.type_list_index mt_index a1 (pa_cons b1 pa_nil hse) hbase hfew hline hse hplain, RdE.l1 (K := kw X) a2 b2 ?_⟩
  intro B G0 G H σ env x y a b d Q c ra rb h k
  unfold idxB at h
  split at h
  · rename_i xs b0
    cases hb : boolsOf xs with
    | none => rw [hb] at h; cases h
    | some bs =>
      rw [hb] at h
      simp only [Option.bind_some, Option.map_eq_some_iff] at h
      obtain ⟨j, hj, rfl⟩ := h
      have e := boolsOf_map hb
      subst e
      cases rb
      cases ra with
      | lst g1 g2 =>
        have e2 := Reps.of_bools g2
        subst e2
        obtain ⟨hlt, h1, h2⟩ := List.findIdx?_eq_some_iff_getElem.mp hj
        refine ⟨_, bs.map V.bl, .bl b0, j, .bl bs[j], rfl, rfl, .inl (.inl (c.exG _ _ g1)), rfl, by simp [flatV], by rw [List.getElem?_map, List.getElem?_eq_getElem hlt]; rfl, ?_, fun m z' hm hz => ?_, k _ H G (Same.refl G) c (.int _)⟩
        · simpa [eqV] using h1
        · rw [List.getElem?_map] at hz
          have hml : m < bs.length := by omega
          rw [List.getElem?_eq_getElem hml] at hz
          cases hz
          have := h2 m hm
          simpa [eqV] using this
  · cases h
end
/-! ### the classes of exceptions -/
structure ExcTab (K : PySem.W.Frag) (mg : Str → Option Value) (cs Cs : List Str) : Prop where
  cls : ∀ c ∈ cs, ∃ D, mg c = some (.ref D) ∧ ExcC K D ∧ PySem.W.kitOne K (.ref D) (.type "ValueError") = some true
  pair : ∀ c ∈ cs, ∀ C ∈ Cs, ∀ D, mg c = some (.ref D) → ∃ D', mg C = some (.ref D') ∧ PySem.W.kitOne K (.ref D) (.ref D') = some (subE c C)
  werr : ∃ E, mg "WriteError" = some (.ref E) ∧ ∀ c ∈ cs, ∃ D, mg c = some (.ref D) ∧ PySem.W.exmOne K (.ref D) (.ref E) = some true
theorem ExcTab.ec {K : PySem.W.Frag} {mg : Str → Option Value} {cs Cs : List Str} (T : ExcTab K mg cs Cs) {c : Str} (hc : c ∈ cs) {D : Addr} (hm : mg c = some (.ref D)) : ExcC K D ∧ PySem.W.kitOne K (.ref D) (.type "ValueError") = some true := by
  obtain ⟨D', h1, h2⟩ := T.cls c hc
  rw [hm] at h1
  cases h1
  exact h2
theorem takes_suite {X : Cx} : Takes X W0 := fun _ _ ⟨_, _, _, _, _, _, _, _, _, _, _, _, _, _, _, _, w⟩ => w.elim
end DL

/-! ### list(d) of a dict, sorted, min of data -/
namespace DX
open PySem PySem.Spec PyProof.Rows L2 DL
section
variable {X : Cx}
def rXList (X : Cx) : List V → Hp → VK → Prop := fun vs H Q => ∃ a xs, vs = [.ref a] ∧ Rd H a (DicO X.w a xs) ∧ EntsIn X H xs ∧ ∀ p, H p = none → Q (.ref p) (upd H p (.lst (xs.map fun e => vOf e.2.1)))
theorem vals_keys {h : Heap} {w : World} : ∀ {xs : List Ent} {us : List Value}, (∀ x ∈ xs, IsK h x.1 x.2.1) → us = xs.map (fun x => x.2.1) → Vals (xs.map fun e => vOf e.2.1) us
  | [], us, _, e => by subst e; exact .nil
  | x :: xs, us, hx, e => by
    subst e
    exact .cons (rel_vOf (hx x List.mem_cons_self).top) (vals_keys (w := w) (fun y hy => hx y (List.mem_cons_of_mem _ hy)) rfl)
theorem call_xlist (hc : X.calm = true) : CallR X (.type "list") (rXList X) := by
  intro pins s σ H vs us Q I r h
  obtain ⟨a, xs, rfl, hr, hin, q⟩ := h
  cases r with
  | cons r1 r2 =>
    cases r2
    obtain rfl : _ = Value.ref a := r1
    obtain ⟨hl, hsys, hn, o, es, ep, ho, hx, hd, he⟩ := raw_at hr I.hok
    have hes : es.size = xs.length := by rw [← Array.length_toList, he, List.length_map]
    refine PySem.W.kdl_call (KdlSrc.rawDict hsys) (I.ok.hd hc) ⟨o, ho, hx, hd⟩ (by rw [hes]; exact hl) fun h' tk acc c' hk hS hit => ?_
    have hacc : acc.toList = xs.map (fun x => x.2.1) := by
      refine List.ext_getElem? fun j => ?_
      have hsz := hit.1
      by_cases hj : j < xs.length
      · have hj2 : j < acc.size := by omega
        have e1 : acc[j]? = some acc[j] := Array.getElem?_eq_getElem hj2
        obtain ⟨hi, hv⟩ := hit.2 j _ e1
        have e2 : es.toList[j]? = some es[j] := by rw [Array.getElem?_toList]; exact Array.getElem?_eq_getElem hi
        rw [he, List.getElem?_map, List.getElem?_eq_getElem hj] at e2
        rw [Array.getElem?_toList, e1, List.getElem?_map, List.getElem?_eq_getElem hj, hv]
        have := Option.some.inj e2
        rw [← this]
        rfl
      · rw [List.getElem?_eq_none_iff.mpr (by rw [Array.length_toList]; omega), List.getElem?_eq_none_iff.mpr (by rw [List.length_map]; omega)]
    have ks : ∀ x ∈ xs, IsK s.heap x.1 x.2.1 := hin s.heap I.hok
    exact ⟨.ref s.heap.objs.size, upd H s.heap.objs.size (.lst (xs.map fun e => vOf e.2.1)), I.laid (t' := tk) hk (Nat.le_refl _)
      (show ObjOk X.prog X.w _ _ _ (.lst (xs.map fun e => vOf e.2.1)) from ⟨by rw [List.length_map]; exact hl, acc.toList, c', vals_keys (w := X.w) ks hacc, by rw [Array.toArray_toList]; exact hS⟩), rfl, q _ (I.hok.fresh (Nat.le_refl _))⟩
end
end DX
namespace DL
open PySem PySem.Spec PyProof.Rows L2
/-! ### sorted -/
section
variable {K : KW} {G : Hp}
theorem reps_zip : ∀ {vs : List V} {ds : List D}, Reps K G vs ds → ∃ bs : List (V × D), vs = bs.map (·.1) ∧ ds = bs.map (·.2) ∧ ∀ b ∈ bs, Rep K G b.1 b.2
  | [], _, r => by cases r; exact ⟨[], rfl, rfl, by simp⟩
  | v :: vs, _, r => by
    cases r with
    | @cons _ _ d ds r1 r2 =>
      obtain ⟨bs, h1, h2, h3⟩ := reps_zip r2
      refine ⟨(v, d) :: bs, by rw [h1]; rfl, by rw [h2]; rfl, fun b hb => ?_⟩
      rcases List.mem_cons.mp hb with rfl | hb
      · exact r1
      · exact h3 b hb
theorem zip_reps : ∀ {bs : List (V × D)}, (∀ b ∈ bs, Rep K G b.1 b.2) → Reps K G (bs.map (·.1)) (bs.map (·.2))
  | [], _ => .nil
  | b :: bs, h => .cons (h b List.mem_cons_self) (zip_reps fun x hx => h x (List.mem_cons_of_mem _ hx))
end
theorem each_rel : ∀ {bs : List (V × D)} {us : List Value}, Vals (bs.map (·.1)) us → PySem.W.EachIs (fun u b => RelV b.1 u) us bs
  | [], us, r => by cases r; exact .nil
  | b :: bs, us, r => by
    cases r with
    | cons r1 r2 => exact .cons r1 (each_rel r2)
theorem rel_each : ∀ {bs : List (V × D)} {us : List Value}, PySem.W.EachIs (fun u b => RelV b.1 u) us bs → Vals (bs.map (·.1)) us
  | _, _, .nil => .nil
  | _, _, .cons h t => .cons h (rel_each t)
def rSortD (K : PySem.W.Frag) : List V → Hp → VK → Prop := fun vs H Q => ∃ (a : Addr) (bs : List (V × D)), vs = [.ref a] ∧ SqL K H a (bs.map (·.1)) ∧ (∀ b ∈ bs, Dp K H b.1 (py b.2)) ∧ PySem.W.AllAlike (bs.map fun b => py b.2) ∧ PySem.W.Sortable (bs.map fun b => py b.2) ∧ (∀ b ∈ bs, (py b.2).depth ≤ 60) ∧
  ∀ p, H p = none → Q (.ref p) (upd H p (.lst ((bs.mergeSort (PySem.W.dataLe false fun b => py b.2)).map (·.1))))
section
variable {X : Cx}
theorem each_reads {pins : List (Addr × Obj)} {σ : L2.St} {H : Hp} {s : Shared} (I : Inv X pins σ H s) : ∀ {bs : List (V × D)} {us : List Value}, (∀ b ∈ bs, Dp X.K H b.1 (py b.2)) → Vals (bs.map (·.1)) us → PySem.W.EachIs (fun u b => ∃ as, Reads s.heap u (py b.2) as) us bs
  | [], us, _, r => by cases r; exact .nil
  | b :: bs, us, h, r => by
    cases r with
    | cons r1 r2 => exact .cons (Dp.reads I (py b.2) b.1 _ (h b List.mem_cons_self) r1) (each_reads I (fun x hx => h x (List.mem_cons_of_mem _ hx)) r2)
theorem call_sortD (hu : X.A.units + 64 < cLine) : CallR X (.builtin "sorted") (rSortD X.K) := by
  intro pins s σ H vs us Q I r h
  obtain ⟨a, bs, rfl, hs, hd, hal, hk, hdp, q⟩ := h
  obtain ⟨its, rv, hl, hz⟩ := I.list hs
  rw [Vals.ref1 r]
  have hlen : bs.length ≤ sizeLine := by
    rw [List.length_map] at hz
    exact hz
  refine PySem.W.sorted_data (enc := fun b : V × D => py b.2) hl.isList (each_rel rv) (each_reads I hd rv) hal hk hlen (fun b hb => by have := hdp b hb; omega) fun out ho eo => ?_
  obtain ⟨ep, he'⟩ := PyProof.Rows.sortedAll_at s.heap its (List.toArray out)
  have hl2 : ((bs.mergeSort (PySem.W.dataLe false fun b => py b.2)).map (·.1)).length ≤ sizeLine := by rw [List.length_map, List.length_mergeSort]; exact hlen
  exact ⟨.ref _, upd H (s.heap.objs.size + 1) (.lst ((bs.mergeSort (PySem.W.dataLe false fun b => py b.2)).map (·.1))), I.laid (t' := s.toks) (fun _ _ => PyProof.Rows.sortedAll_old) (Nat.le_succ _) ⟨hl2, out, ep, rel_each eo, he'⟩, rfl, q _ (I.hok.fresh (Nat.le_succ _))⟩
end
/-- data of one kind, that can be set in order -/
def AlkD (ds : List D) : Prop := (∀ a ∈ ds, eqOk 60 a = true) ∧ ∀ a ∈ ds, ∀ b ∈ ds, PySem.W.alike (py a) (py b) = true
open Classical in
noncomputable def sortD : List D → Option D
  | [.lst ds] => if AlkD ds ∧ PySem.W.Sortable (ds.map py) then some (.lst (ds.mergeSort (PySem.W.dataLe false py))) else none
  | _ => none
section
variable {X : Cx}
theorem cx_sortD (hu : X.A.units + 64 < cLine) : CbX X (.builtin "sorted") sortD := by
  refine ⟨_, call_sortD hu, ?_⟩
  intro B G0 G H σ env vs ds d Q c r h k
  unfold sortD at h
  split at h
  · split at h
    · rename_i ds' hc
      obtain ⟨⟨h1, h2⟩, h3⟩ := hc
      cases h
      cases r with
      | cons r1 r2 =>
        cases r2
        cases r1 with
        | @lst q vs' _ g1 g2 =>
          obtain ⟨bs, rfl, rfl, hb⟩ := reps_zip g2
          have hm : ∀ b ∈ bs, b.2 ∈ bs.map (·.2) := fun b hb => List.mem_map.mpr ⟨b, hb, rfl⟩
          refine ⟨q, bs, rfl, .inl (.inl (c.exG _ _ g1)), fun b hbm => dp_mono c.exG (h1 _ (hm b hbm)) (hb b hbm), ?_, ?_, fun b hbm => (eqOk_shape 60 b.2 (h1 _ (hm b hbm))).2, fun p hp => ?_⟩
          · intro d hd d' hd'
            obtain ⟨b, hb1, rfl⟩ := List.mem_map.mp hd
            obtain ⟨b', hb2, rfl⟩ := List.mem_map.mp hd'
            exact h2 _ (hm b hb1) _ (hm b' hb2)
          · have e : (bs.map (·.2)).map py = bs.map fun b => py b.2 := by rw [List.map_map]; rfl
            rw [e] at h3
            exact h3
          · have gp := c.exG.free hp
            refine k _ _ (upd G p _) (same_upd gp) (c.laid hp) (.lst upd_same ?_)
            have e : (bs.map (·.2)).mergeSort (PySem.W.dataLe false py) = (bs.mergeSort (PySem.W.dataLe false fun b => py b.2)).map (·.2) := (PySem.W.sort_maps (fun b : V × D => b.2) fun a _ b _ => rfl).symm
            rw [e]
            exact zip_reps fun b hbm => (hb b (List.mem_mergeSort.mp hbm)).up (same_upd gp)
    · cases h
  · cases h
/-! ### list(d) -/
/-- the keys of a dict, as a new list -/
@[simp] def lKeysX (i : Nat) (env : DEnv) : M (List D) := (celX env i).bind fun kvs => .ok (kvs.map (·.1))
theorem reps_keys {K : KW} {G : Hp} : ∀ {xs : List Ent} {kvs : List (D × D)}, Paired (KRel K G) xs kvs → Reps K G (xs.map fun e => DX.vOf e.2.1) (kvs.map (·.1))
  | _, _, .nil => .nil
  | _, _, .cons h t => by
    obtain ⟨v0, rv, rp⟩ := h.kv
    refine .cons ?_ (reps_keys t)
    have e := DX.vOf_of (top_of h.key rp rv) rv
    rw [e] at rp
    exact rp
theorem dl_keysX {W : WX} {p pos : Pos} (i : Nat) {x : Str} {px : Pos} (hc : X.calm = true) (hm : X.mg "list" = none) (hg : Gl X "list" := by rfl) (hN : X.N[i]? = some x := by rfl) (hv : Vis X.env.scope x := by first | exact Or.inl rfl | exact Or.inr (Or.inl rfl) | exact Or.inr (Or.inr rfl)) (hd : (x == ("__debug__" : Str)) = false := by decide)
    (hcd : (x == ("__classdict__" : Str)) = false := by decide) (hs : starEach [.Name x px] X.env = (false, eval (.Name x px) X.env) :: starEach [] X.env := by rfl) (hpl : (backTo pos (starEach [] X.env)).any (·.1) = false := by rfl) :
    DLs X W (.Call (.Name "list" p) [.Name x px] [] pos) (lKeysX i) := by
  refine ⟨_, pe_callTy (DX.call_xlist hc) hg hm boot_list (pa_cons (pe_var hN hv hd hcd) pa_nil hs) (by decide) (by decide) hs hpl, fun B G0 G H σ env Q c po => ?_⟩
  simp only [lKeysX] at po
  cases o : celX env i with
  | no => rw [o] at po; exact po.elim
  | ex n => exact (celX_no o).elim
  | ok kvs =>
    simp only [o, M.bind] at po
    obtain ⟨q, xs, e1, hq, pr⟩ := c.dict (celX_inv o)
    exact ⟨.ref q, e1, q, xs, rfl, hq, DX.entsIn_of c.exG pr, fun l hl => po l _ H G (Same.refl G) c hl (reps_keys pr)⟩
end
/-! ### min of data -/
theorem minD_mem (x : PyData) (xs : List PyData) : PySem.W.minD x xs ∈ x :: xs := by
  unfold PySem.W.minD
  induction xs generalizing x with
  | nil => simp
  | cons y ys ih =>
    rw [List.foldl_cons]
    have := ih (if PySem.W.dataLt y x = true then y else x)
    rcases List.mem_cons.mp this with h | h
    · rw [h]
      split
      · exact List.mem_cons_of_mem _ List.mem_cons_self
      · exact List.mem_cons_self
    · exact List.mem_cons_of_mem _ (List.mem_cons_of_mem _ h)
def rMinLD (K : PySem.W.Frag) : List V → Hp → VK → Prop := fun vs H Q => ∃ (a : Addr) (bs : List (V × D)) (x : PyData) (xs : List PyData), vs = [.ref a] ∧ SqL K H a (bs.map (·.1)) ∧ DpAll K H (bs.map (·.1)) (x :: xs) ∧ (bs.map fun b => py b.2) = x :: xs ∧ PySem.W.AlikeAll (x :: xs) ∧ PyData.depthAll (x :: xs) ≤ 60 ∧
  ∀ b ∈ bs, py b.2 = PySem.W.minD x xs → Q b.1 H
section
variable {X : Cx}
theorem call_minLD (hu : X.A.units + 64 < cLine) (hc : X.calm = true) : CallR X (.builtin "min") (rMinLD X.K) := by
  intro pins s σ H vs us Q I r h
  obtain ⟨a, bs, x, xs, rfl, hs, hd, he, hal, hdp, q⟩ := h
  obtain ⟨its, rv, hl, hz⟩ := I.list hs
  rw [Vals.ref1 r]
  obtain ⟨as, hr⟩ := Dp.readsAll I (x :: xs) _ _ hd rv
  refine PySem.W.min_list_data (vs := its.toArray) (I.ok.hd hc) hl.isList (by simpa using hr) hal (by omega) fun i v h' tk bs2 hv hrd hk => ?_
  have hv' : its[i]? = some v := by simpa using hv
  obtain ⟨cs, r1, hi, _⟩ := PySem.W.readsAll_at hr i v hv'
  have r2 := PySem.W.reads_keeps hk r1
  have hb : i < bs.length := by
    have := congrArg List.length he
    rw [List.length_map] at this
    simp only [List.length_cons] at this hi
    omega
  have e1 : (x :: xs).getD i .none = py bs[i].2 := by
    rw [← he, List.getD_eq_getElem?_getD, List.getElem?_map, List.getElem?_eq_getElem hb]
    rfl
  have m1 : (x :: xs).getD i .none ∈ x :: xs := by
    rw [e1, ← he]
    exact List.mem_map.mpr ⟨bs[i], List.getElem_mem hb, rfl⟩
  have e2 := PySem.W.alike_unique _ _ _ _ _ (hal.1 _ m1 _ (minD_mem x xs)) r2 hrd
  have rel : ∀ {bs : List (V × D)} {us : List Value} {i : Nat} (hb : i < bs.length) {v : Value}, Vals (bs.map (·.1)) us → us[i]? = some v → RelV bs[i].1 v := by
    intro bs
    induction bs with
    | nil => intro us i hb; simp at hb
    | cons b bs ih =>
      intro us i hb v r hv
      cases r with
      | cons r1 r2 =>
        cases i with
        | zero =>
          simp only [List.getElem?_cons_zero, Option.some.injEq] at hv
          subst hv
          exact r1
        | succ i =>
          simp only [List.getElem?_cons_succ] at hv
          exact ih (by simpa using hb) r2 hv
  exact ⟨bs[i].1, H, I.kept (t' := tk) hk, rel hb rv hv', q bs[i] (List.getElem_mem hb) (by rw [← e1, e2])⟩
end
/-- the least of data of one kind, the first one of those -/
noncomputable def leastD (x : D) (xs : List D) : D := xs.foldl (fun a y => if PySem.W.dataLt (py y) (py a) then y else a) x
open Classical in
noncomputable def minLD : List D → Option D
  | [.lst (x :: xs)] => if AlkD (x :: xs) ∧ ∀ a ∈ x :: xs, py a ≠ .none then some (leastD x xs) else none
  | _ => none
theorem pys_map : ∀ ds : List D, pys ds = ds.map py
  | [] => rfl
  | d :: ds => by rw [List.map_cons, ← pys_map ds]; rfl
theorem leastD_py (x : D) (xs : List D) : py (leastD x xs) = PySem.W.minD (py x) (xs.map py) := by
  unfold leastD PySem.W.minD
  induction xs generalizing x with
  | nil => rfl
  | cons y ys ih =>
    rw [List.foldl_cons, List.map_cons, List.foldl_cons, ih]
    congr 1
    split <;> rfl
theorem leastD_mem (x : D) (xs : List D) : leastD x xs ∈ x :: xs := by
  unfold leastD
  induction xs generalizing x with
  | nil => simp
  | cons y ys ih =>
    rw [List.foldl_cons]
    have := ih (if PySem.W.dataLt (py y) (py x) = true then y else x)
    rcases List.mem_cons.mp this with h | h
    · rw [h]
      split
      · exact List.mem_cons_of_mem _ List.mem_cons_self
      · exact List.mem_cons_self
    · exact List.mem_cons_of_mem _ (List.mem_cons_of_mem _ h)
theorem py_inj {a b : D} (ha : eqOk 60 a = true) (hb : eqOk 60 b = true) (h : py a = py b) : a = b := by
  refine (eqv_of 60 60 a b ha hb).mp ?_
  rw [h]
  exact (eqv_of 60 60 b b hb hb).mpr rfl
theorem eqOks_all : ∀ {ds : List D}, (∀ a ∈ ds, eqOk 60 a = true) → eqOks 60 ds = true
  | [], _ => rfl
  | d :: ds, h => by
    simp only [eqOks, h d List.mem_cons_self, eqOks_all fun a ha => h a (List.mem_cons_of_mem _ ha), Bool.and_self]
section
variable {X : Cx}
theorem cx_minLD (hu : X.A.units + 64 < cLine) (hc : X.calm = true) : CbX X (.builtin "min") minLD := by
  refine ⟨_, call_minLD hu hc, ?_⟩
  intro B G0 G H σ env vs ds d Q c r h k
  unfold minLD at h
  split at h
  · split at h
    · rename_i x xs hcd
      obtain ⟨⟨h1, h2⟩, h3⟩ := hcd
      cases h
      cases r with
      | cons r1 r2 =>
        cases r2
        cases r1 with
        | @lst q vs' _ g1 g2 =>
          obtain ⟨bs, rfl, e, hb⟩ := reps_zip g2
          have ok := eqOks_all h1
          have hp : DpAll (kw X).k H (bs.map (·.1)) (pys (x :: xs)) := Reps.dp 60 (x :: xs) _ ok (by
            have := g2.up c.exG
            exact this)
          rw [pys_map] at hp
          have hpy : (bs.map fun b => py b.2) = py x :: xs.map py := by
            have : (bs.map (·.2)).map py = (x :: xs).map py := by rw [e]
            rw [List.map_map] at this
            exact this
          refine ⟨q, bs, py x, xs.map py, rfl, .inl (.inl (c.exG _ _ g1)), hp, hpy, ⟨?_, ?_⟩, ?_, fun b hbm hmin => ?_⟩
          · intro a ha b hb
            obtain ⟨a', ha', rfl⟩ := List.mem_map.mp (show a ∈ (x :: xs).map py from ha)
            obtain ⟨b', hb', rfl⟩ := List.mem_map.mp (show b ∈ (x :: xs).map py from hb)
            exact h2 _ ha' _ hb'
          · intro a ha
            obtain ⟨a', ha', rfl⟩ := List.mem_map.mp (show a ∈ (x :: xs).map py from ha)
            exact h3 _ ha'
          · have := (eqOks_shape 60 (x :: xs) ok).2
            rw [pys_map] at this
            exact this
          · have hbd : b.2 ∈ x :: xs := by
              rw [e]
              exact List.mem_map.mpr ⟨b, hbm, rfl⟩
            have : b.2 = leastD x xs := py_inj (h1 _ hbd) (h1 _ (leastD_mem x xs)) (by rw [hmin, leastD_py])
            exact k _ H G (Same.refl G) c (this ▸ hb b hbm)
    · cases h
  · cases h
end
end DL

/-! ### min of two data -/
namespace DX
open PySem PySem.W PyProof.Rows
section
variable {prog : Program} {w : World} {A : Around} {E : Value → Shared → Prop} {s : Shared}
theorem call_min_twoH {a b : Value} {Q : Value → Shared → Prop}
    (h : wpAny (model prog w) A.in1 (pyIter (.ref s.heap.objs.size)) (fun it s₂ => ∃ I fp wr G n P St H bt, it = .ref I ∧ WalksS prog w A.in1 I fp wr G n P St ∧ St 0 s₂ ∧ (∀ b ∈ fp, b < s₂.heap.objs.size) ∧ 0 < n ∧
      (∀ b o, H.get? b = some o → b ∉ wr) ∧ (∀ b o, H.get? b = some o → s₂.heap.get? b = some o) ∧ CmpIn prog w A.in1 .Lt H P bt ∧ ∀ v s', P (argBest bt (n - 1)) v → Moved wr G s₂ s' → Q v s') E
      { s with heap := s.heap.push { cls := .type "tuple", data := .seq #[a, b] } }) :
    wpAny (model prog w) A (call (.builtin "min") [a, b]) Q E s := by
  have hname : (toString "min" ++ toString ".loop" : String) = "min.loop" := by decide
  refine call_function_tree F.kind_min F.plain_min F.entry_min (F.args_min2 _ _) ?_
  show wpAny _ A.in1 (Builtin.Builtins.bindParams "min" ["key", "default"] 0 ⟨[], []⟩ >>= _) _ _ s
  refine wpAny_bind (wpAny_of_eq (show Builtin.Builtins.bindParams "min" ["key", "default"] 0 ⟨[], []⟩ = pure [none, none] from rfl) ?_)
  show wpAny _ A.in1 (newTuple [a, b] >>= _) _ _ s
  refine wpAny_bind (wpAny_newObj_type ?_)
  refine wpAny_bind (wpAny_mono h (fun it s₂ h₂ => ?_) fun _ _ e => e)
  obtain ⟨I, fp, wr, G, n, P, St, H, bt, rfl, W, hst, hfp, hn, hw, hkeep, hcmp, hQ⟩ := h₂
  refine wpAny_bind (wpAny_newObj_type ?_)
  have hSf : s₂.heap.objs.size ∉ fp := fun hm => Nat.lt_irrefl _ (hfp _ hm)
  rw [hname]
  refine wpAny_pure ⟨plainId_quiet F.plain_min_loop _, codeAny_min_loop_firstH W H hw bt hcmp s₂.heap.objs.size hSf (fresh_in hkeep) _ hn (fun b o e => Heap.get?_push_of_some _ (hkeep b o e)) (W.frame 0 s₂ _ s₂.toks hst (Nat.le_refl _) fun b _ o e => Heap.get?_push_of_some _ e) (Heap.get?_push_size _ rfl) fun v s' hP hm => ?_⟩
  exact hQ v s' hP (Moved.drop_new (tk := s₂.toks) hm (Nat.le_refl _))
theorem min2_data {a b : Value} {x y : PyData} {as : List Addr} {Q : Value → Shared → Prop} (hh : A.handled = none) (hr : ReadsAll s.heap [a, b] [x, y] as) (ha : AlikeAll [x, y]) (hu : A.units + 1 + PyData.depthAll [x, y] < cLine)
    (h : ∀ h' tk, (∀ b o, s.heap.get? b = some o → h'.get? b = some o) → Q (if dataLt y x = true then b else a) { s with heap := h', toks := tk }) :
    wpAny (model prog w) A (call (.builtin "min") [a, b]) Q E s := by
  have hT : (s.heap.push { cls := .type "tuple", data := .seq #[a, b] }).IsTuple s.heap.objs.size #[a, b] := ⟨_, Heap.get?_push_size _ rfl, rfl, 0, rfl⟩
  have k1 : ∀ b' o, s.heap.get? b' = some o → (s.heap.push { cls := .type "tuple", data := .seq #[a, b] }).get? b' = some o := fun b' o e => Heap.get?_push_of_some _ e
  have hr1 : ReadsAll (s.heap.push { cls := .type "tuple", data := .seq #[a, b] }) (#[a, b] : Array Value).toList [x, y] as := by
    have : (#[a, b] : Array Value).toList = [a, b] := rfl
    rw [this]
    exact ReadsAll.keeps k1 hr
  refine call_min_twoH (iter_tupleW (A := A.in1) (s := { s with heap := s.heap.push { cls := .type "tuple", data := .seq #[a, b] } }) hh hT fun s₂ e W st hfp hw hk => ?_)
  refine ⟨_, _, _, _, _, _, _, _, _, rfl, W, st, hfp, Nat.succ_pos _, hw, hk, cmpIn_lt (A := A.in1) (s := { s with heap := s.heap.push { cls := .type "tuple", data := .seq #[a, b] } }) hr1 ha (by show A.units + 1 + _ < _; exact hu), fun v s' hP m => ?_⟩
  obtain ⟨h', tk, rfl, hk'⟩ := moved_old e rfl m
  have hv : v = if dataLt y x = true then b else a := by
    cases hb : dataLt y x <;> simp [argBest, hb] at hP <;> simp [hP]
  rw [hv]
  exact h h' tk fun b' o e => hk' b' o (k1 b' o e)
end
end DX
namespace DL
open PySem PySem.Spec PyProof.Rows L2
def rMin2LD (K : PySem.W.Frag) : List V → Hp → VK → Prop := fun vs H Q => ∃ (v u : V) (x y : PyData), vs = [v, u] ∧ DpAll K H [v, u] [x, y] ∧ PySem.W.AlikeAll [x, y] ∧ PyData.depthAll [x, y] ≤ 60 ∧ Q (if PySem.W.dataLt y x = true then u else v) H
open Classical in
noncomputable def min2LD : List D → Option D
  | [x, y] => if AlkD [x, y] ∧ ∀ a ∈ [x, y], py a ≠ .none then some (if PySem.W.dataLt (py y) (py x) = true then y else x) else none
  | _ => none
section
variable {X : Cx}
theorem call_min2LD (hu : X.A.units + 64 < cLine) (hc : X.calm = true) : CallR X (.builtin "min") (rMin2LD X.K) := by
  intro pins s σ H vs us Q I r h
  obtain ⟨v, u, x, y, rfl, hd, hal, hdp, q⟩ := h
  obtain ⟨a, b, rfl, r1, r2⟩ := vals2 r
  obtain ⟨as, hr⟩ := Dp.readsAll I [x, y] _ _ hd r
  refine DX.min2_data (I.ok.hd hc) hr hal (by omega) fun h' tk hk => ⟨_, H, I.kept (t' := tk) hk, ?_, q⟩
  cases PySem.W.dataLt y x
  · exact r1
  · exact r2
theorem cx_min2LD (hu : X.A.units + 64 < cLine) (hc : X.calm = true) : CbX X (.builtin "min") min2LD := by
  refine ⟨_, call_min2LD hu hc, ?_⟩
  intro B G0 G H σ env vs ds d Q c r h k
  unfold min2LD at h
  split at h
  · split at h
    · rename_i x y hcd
      obtain ⟨⟨h1, h2⟩, h3⟩ := hcd
      cases h
      have ok := eqOks_all h1
      have hp : DpAll (kw X).k H vs (pys [x, y]) := Reps.dp 60 [x, y] _ ok (r.up c.exG)
      cases r with
      | cons r1 r2 =>
        cases r2 with
        | cons r2 r3 =>
          cases r3
          rw [pys_map] at hp
          refine ⟨_, _, py x, py y, rfl, hp, ⟨?_, ?_⟩, ?_, ?_⟩
          · intro a ha b hb
            obtain ⟨a', ha', rfl⟩ := List.mem_map.mp (show a ∈ [x, y].map py from ha)
            obtain ⟨b', hb', rfl⟩ := List.mem_map.mp (show b ∈ [x, y].map py from hb)
            exact h2 _ ha' _ hb'
          · intro a ha
            obtain ⟨a', ha', rfl⟩ := List.mem_map.mp (show a ∈ [x, y].map py from ha)
            exact h3 _ ha'
          · have := (eqOks_shape 60 [x, y] ok).2
            rw [pys_map] at this
            exact this
          · cases hb : PySem.W.dataLt (py y) (py x) with
            | true => rw [hb] at k; exact k _ H G (Same.refl G) c r2
            | false => rw [hb] at k; exact k _ H G (Same.refl G) c r1
    · cases h
  · cases h
/-! ### min of two whole numbers, or of two data; of a list of data -/
noncomputable def min2AD (ds : List D) : Option D := match min2D ds with
  | some d => some d
  | none => min2LD ds
theorem cx_min2A (hu : X.A.units + 64 < cLine) (hc : X.calm = true) : CbX X (.builtin "min") min2AD := by
  obtain ⟨r1, a1, a2⟩ := (cx_min2 (X := X) hc).ex
  obtain ⟨r2, b1, b2⟩ := (cx_min2LD (X := X) hu hc).ex
  refine ⟨_, a1.or b1, ?_⟩
  intro B G0 G H σ env vs ds d Q c r h k
  unfold min2AD at h
  split at h
  · rename_i d' e
    cases h
    exact .inl (a2 B G0 G H σ env vs ds d Q c r e k)
  · exact .inr (b2 B G0 G H σ env vs ds d Q c r h k)
end
end DL

namespace DL
open PySem PySem.Spec PyProof.Rows L2
/-! ### a list of lists that change -/
abbrev WtL := List (List D)
/-- at p stands a list of lists, held by nobody else; B: the heap without them, BN: with them -/
structure Nst (K : KW) (B BN G : Hp) (p : Addr) (wt : WtL) : Prop where
  ex : ∃ qs : List Addr, (p :: qs).Nodup ∧ (∀ a, a ∉ p :: qs → BN a = B a) ∧ (∀ a ∈ p :: qs, B a = none ∧ G a = none) ∧ BN p = some (.lst (qs.map V.ref)) ∧ qs.length = wt.length ∧ ∀ (i : Nat) (q : Addr) (ds : List D), qs[i]? = some q → wt[i]? = some ds → ∃ vs, BN q = some (.lst vs) ∧ Reps K G vs ds
section
variable {K : KW} {B BN G0 G G' H H' : Hp} {σ σ' : L2.St} {env env' : DEnv} {p : Addr} {wt : WtL}
theorem Nst.base (n : Nst K B BN G p wt) : Same B BN := fun a x e => by
  obtain ⟨qs, h1, h2, h3, _⟩ := n.ex
  by_cases h : a ∈ p :: qs
  · rw [(h3 a h).1] at e; cases e
  · rw [h2 a h]; exact e
theorem Nst.up (n : Nst K B BN G p wt) (c : Cn K BN G0 G σ H env) (s : Same G G') (c' : Cn K BN G0 G' σ' H' env') : Nst K B BN G' p wt := by
  obtain ⟨qs, h1, h2, h3, h4, h5, h6⟩ := n.ex
  have some_of : ∀ a ∈ p :: qs, BN a ≠ none := fun a ha => by
    rcases List.mem_cons.mp ha with rfl | ha
    · rw [h4]; intro z; cases z
    · obtain ⟨i, hi⟩ := List.mem_iff_getElem?.mp ha
      have hl := (List.getElem?_eq_some_iff.mp hi).1
      obtain ⟨vs, e, _⟩ := h6 i a _ hi (List.getElem?_eq_getElem (by omega))
      rw [e]; intro z; cases z
  refine ⟨qs, h1, h2, fun a ha => ⟨(h3 a ha).1, ?_⟩, h4, h5, fun i q ds a b => ?_⟩
  · cases z : G' a with
    | none => rfl
    | some w =>
      rcases c'.new a (by rw [z]; intro k; cases k) with k | k
      · cases y : G0 a with
        | none => exact absurd y k
        | some x =>
          have := c.ex0 _ _ y
          rw [(h3 a ha).2] at this
          cases this
      · exact absurd k (some_of a ha)
  · obtain ⟨vs, e, r⟩ := h6 i q ds a b
    exact ⟨vs, e, r.up s⟩
theorem Cn.lower (s : Same B BN) (c : Cn K BN G0 G σ H env) : Cn K B G0 G σ H env where
  len := c.len
  exB := s.trans c.exB
  exG := c.exG
  ex0 := c.ex0
  new := fun a h => by
    rcases c.new a h with z | z
    · exact .inl z
    · exact .inr (s.free z)
  cel := fun i u e => by
    obtain ⟨o, e1, h⟩ := c.cel i u e
    refine ⟨o, e1, ?_⟩
    cases u with
    | un => trivial
    | dat d => exact h
    | exc a => exact h
    | fdc d => exact h
    | own xs => obtain ⟨p', vs, e2, gp, bp, r⟩ := h; exact ⟨p', vs, e2, gp, s.free bp, r⟩
    | dic xs => obtain ⟨p', vs, e2, gp, bp, r⟩ := h; exact ⟨p', vs, e2, gp, s.free bp, r⟩
  sep := c.sep
/-- an object of the frame is written, or a new one laid -/
theorem Cn.poke2 (c : Cn K BN G0 G σ H env) {q : Addr} {o : HO} (gq : G q = none) (hq : BN q ≠ none ∨ H q = none) : Cn K (L2.upd BN q o) G0 G σ (L2.upd H q o) env where
  len := c.len
  exB := fun a x e => by
    by_cases z : a = q
    · subst z; rw [upd_same] at e ⊢; exact e
    · rw [upd_ne z] at e ⊢; exact c.exB _ _ e
  exG := fun a x e => by rw [upd_ne (ne_of_none e gq)]; exact c.exG _ _ e
  ex0 := c.ex0
  new := fun a h => by
    have z : a ≠ q := fun z => by rw [z] at h; exact h gq
    rw [upd_ne z]
    exact c.new a h
  cel := fun i u e => by
    obtain ⟨o', e1, h⟩ := c.cel i u e
    refine ⟨o', e1, ?_⟩
    have key : ∀ {p' : Addr} {x : HO}, BN p' = none → H p' = some x → p' ≠ q := fun {p' x} b h z => by
      subst z
      rcases hq with hq | hq
      · exact hq b
      · rw [h] at hq; cases hq
    cases u with
    | un => trivial
    | dat d => exact h
    | exc a => exact h
    | fdc d => exact h
    | own xs => obtain ⟨p', vs, e2, gp, bp, hp, r⟩ := h; exact ⟨p', vs, e2, gp, by rw [upd_ne (key bp hp)]; exact bp, by rw [upd_ne (key bp hp)]; exact hp, r⟩
    | dic xs => obtain ⟨p', vs, e2, gp, bp, hp, r⟩ := h; exact ⟨p', vs, e2, gp, by rw [upd_ne (key bp hp)]; exact bp, by rw [upd_ne (key bp hp)]; exact hp, r⟩
  sep := c.sep
theorem Nst.one (c : Cn K B G0 G σ H env) {q : Addr} {vs : List V} {ds : List D} (hq : H q = none) (hp : L2.upd H q (.lst vs) p = none) (r : Reps K G vs ds) : Nst K B (L2.upd (L2.upd B q (.lst vs)) p (.lst [.ref q])) G p [ds] := by
  have ne : p ≠ q := fun z => by rw [z, upd_same] at hp; cases hp
  rw [upd_ne ne] at hp
  refine ⟨[q], by simp [ne], fun a ha => ?_, fun a ha => ?_, upd_same, rfl, fun i q' ds' h1 h2 => ?_⟩
  · simp only [List.mem_cons, List.not_mem_nil, or_false, not_or] at ha
    rw [upd_ne ha.1, upd_ne ha.2]
  · simp only [List.mem_cons, List.not_mem_nil, or_false] at ha
    rcases ha with rfl | rfl
    · exact ⟨c.exB.free hp, c.exG.free hp⟩
    · exact ⟨c.exB.free hq, c.exG.free hq⟩
  · cases i with
    | zero =>
      simp at h1 h2
      subst h1 h2
      exact ⟨vs, by rw [upd_ne (Ne.symm ne), upd_same], r⟩
    | succ i => simp at h1
theorem Nst.push (n : Nst K B BN G p wt) (c : Cn K BN G0 G σ H env) {q : Addr} (hq : H q = none) : ∃ qs : List Addr, BN p = some (.lst (qs.map V.ref)) ∧ qs.length = wt.length ∧ q ≠ p ∧ Nst K B (L2.upd (L2.upd BN q (.lst [])) p (.lst (qs.map V.ref ++ [.ref q]))) G p (wt ++ [[]]) := by
  obtain ⟨qs, h1, h2, h3, h4, h5, h6⟩ := n.ex
  have bq : BN q = none := c.exB.free hq
  have ne : q ≠ p := fun z => by rw [z, h4] at bq; cases bq
  have nm : q ∉ qs := fun z => by
    obtain ⟨i, hi⟩ := List.mem_iff_getElem?.mp z
    have hl := (List.getElem?_eq_some_iff.mp hi).1
    obtain ⟨vs, e, _⟩ := h6 i q _ hi (List.getElem?_eq_getElem (by omega))
    rw [bq] at e; cases e
  have np : p ∉ qs := (List.nodup_cons.mp h1).1
  refine ⟨qs, h4, h5, ne, qs ++ [q], ?_, fun a ha => ?_, fun a ha => ?_, by rw [upd_same, List.map_append]; rfl, by simp [h5], fun i q' ds' e1 e2 => ?_⟩
  · rw [List.nodup_cons] at h1 ⊢
    refine ⟨fun z => ?_, ?_⟩
    · rcases List.mem_append.mp z with z | z
      · exact h1.1 z
      · rw [List.mem_singleton] at z; exact ne z.symm
    · rw [List.nodup_append]
      exact ⟨h1.2, by simp, fun a ha b hb z => by
        rw [List.mem_singleton] at hb
        subst hb
        subst z
        exact nm ha⟩
  · simp only [List.mem_cons, List.mem_append, List.not_mem_nil, or_false, not_or] at ha
    rw [upd_ne ha.1, upd_ne ha.2.2]
    exact h2 a (by simp [ha.1, ha.2.1])
  · by_cases z : a = q
    · subst z
      exact ⟨n.base.free bq, c.exG.free hq⟩
    · refine h3 a ?_
      rcases List.mem_cons.mp ha with e | e
      · rw [e]; exact List.mem_cons_self
      · rcases List.mem_append.mp e with e | e
        · exact List.mem_cons_of_mem _ e
        · exact absurd (List.mem_singleton.mp e) z
  · by_cases hi : i < qs.length
    · rw [List.getElem?_append_left hi] at e1
      rw [List.getElem?_append_left (by omega)] at e2
      obtain ⟨vs, e, r⟩ := h6 i q' ds' e1 e2
      have m := List.mem_of_getElem? e1
      have n1 : q' ≠ p := fun z => by subst z; exact np m
      have n2 : q' ≠ q := fun z => by subst z; exact nm m
      exact ⟨vs, by rw [upd_ne n1, upd_ne n2]; exact e, r⟩
    · rw [List.getElem?_append_right (by omega)] at e1 e2
      have i0 : i - qs.length = 0 := by
        have := (List.getElem?_eq_some_iff.mp e1).1
        simp at this
        omega
      rw [i0] at e1
      rw [show i - wt.length = 0 by omega] at e2
      simp at e1 e2
      subst e1 e2
      exact ⟨[], by rw [upd_ne ne, upd_same], .nil⟩
theorem Nst.at (n : Nst K B BN G p wt) {i : Int} {ds : List D} (h : atI wt i = some ds) : ∃ (k : Nat) (qs : List Addr) (q : Addr) (vs : List V), BN p = some (.lst (qs.map V.ref)) ∧ ixN wt.length i = some k ∧ wt[k]? = some ds ∧ atI (qs.map V.ref) i = some (.ref q) ∧ BN q = some (.lst vs) ∧ Reps K G vs ds ∧ q ≠ p ∧ G q = none ∧
    ∀ (d : D) (v : V), Rep K G v d → Nst K B (L2.upd BN q (.lst (vs ++ [v]))) G p (wt.set k (ds ++ [d])) := by
  obtain ⟨qs, h1, h2, h3, h4, h5, h6⟩ := n.ex
  unfold atI at h
  cases hk : ixN wt.length i with
  | none => rw [hk] at h; cases h
  | some k =>
    rw [hk] at h
    have h : wt[k]? = some ds := h
    have hl := (List.getElem?_eq_some_iff.mp h).1
    obtain ⟨q0, hq⟩ : ∃ q0, qs[k]? = some q0 := ⟨_, List.getElem?_eq_getElem (by omega)⟩
    obtain ⟨vs, e, r⟩ := h6 k _ ds hq h
    have m := List.mem_of_getElem? hq
    have np : p ∉ qs := (List.nodup_cons.mp h1).1
    have nq : q0 ≠ p := fun z => np (z ▸ m)
    refine ⟨k, qs, q0, vs, h4, rfl, h, ?_, e, r, nq, (h3 _ (List.mem_cons_of_mem _ m)).2, fun d v rv => ⟨qs, h1, fun a ha => ?_, h3, by rw [upd_ne (Ne.symm nq)]; exact h4, by simp [h5], fun j q' ds' e1 e2 => ?_⟩⟩
    · unfold atI
      rw [List.length_map, h5, hk]
      show (qs.map V.ref)[k]? = _
      rw [List.getElem?_map, hq]
      rfl
    · have ne : a ≠ q0 := fun z => by
        subst z
        exact ha (List.mem_cons_of_mem _ m)
      rw [upd_ne ne]
      exact h2 a ha
    · by_cases hj : k = j
      · subst hj
        rw [List.getElem?_set_self hl] at e2
        rw [hq] at e1
        cases e1
        cases e2
        exact ⟨_, upd_same, r.append (.one rv)⟩
      · rw [List.getElem?_set_ne hj] at e2
        obtain ⟨vs', e', r'⟩ := h6 j q' ds' e1 e2
        have ne : q' ≠ q0 := fun z => by
          have nd := (List.nodup_cons.mp h1).2
          obtain ⟨hj1, hj2⟩ := List.getElem?_eq_some_iff.mp e1
          obtain ⟨hk1, hk2⟩ := List.getElem?_eq_some_iff.mp hq
          have := (List.pairwise_iff_getElem.mp nd)
          rcases Nat.lt_trichotomy j k with y | y | y
          · exact this j k hj1 hk1 y (hj2.trans (z.trans hk2.symm))
          · exact hj y.symm
          · exact this k j hk1 hj1 y (hk2.trans (z.symm.trans hj2.symm))
        exact ⟨vs', by rw [upd_ne ne]; exact e', r'⟩
/-- behind a call that was handed the list -/
theorem Cn.called {Bc : Hp} (n : Nst K Bc BN G p wt) (c : Cn K BN G0 G σ H env) : ∃ B0 : Hp, Nst K B0 H G p wt ∧ ∀ (H' G' BN' : Hp) (wt' : WtL), Same G G' → Same G' H' → Same BN' H' → Nst K B0 BN' G' p wt' → (∀ a, G' a ≠ none → G a ≠ none ∨ BN' a = none) →
    ∃ BN2, Cn K BN2 G0 G' σ H' env ∧ Nst K Bc BN2 G' p wt' := by
  obtain ⟨qs, h1, h2, h3, h4, h5, h6⟩ := n.ex
  refine ⟨fun a => if a ∈ p :: qs then none else H a, ⟨qs, h1, fun a ha => by simp only [if_neg ha], fun a ha => ⟨by simp only [if_pos ha], (h3 a ha).2⟩, c.exB _ _ h4, h5, fun i q ds e1 e2 => ?_⟩, ?_⟩
  · obtain ⟨vs, e, r⟩ := h6 i q ds e1 e2
    exact ⟨vs, c.exB _ _ e, r⟩
  intro H' G' BN' wt' sG gH bH n' nw
  have bnc : ∀ a, a ∈ p :: qs → BN a ≠ none := fun a ha => by
    rcases List.mem_cons.mp ha with rfl | ha
    · rw [h4]; intro z; cases z
    · obtain ⟨i, hi⟩ := List.mem_iff_getElem?.mp ha
      have hl := (List.getElem?_eq_some_iff.mp hi).1
      obtain ⟨vs, e, _⟩ := h6 i a _ hi (List.getElem?_eq_getElem (by omega))
      rw [e]; intro z; cases z
  obtain ⟨qs', k1, k2, k3, k4, k5, k6⟩ := n'.ex
  have bcH : Same Bc H := n.base.trans c.exB
  have b0 : ∀ a x, a ∉ p :: qs → H a = some x → a ∉ p :: qs' ∧ BN' a = some x := fun a x ha hx => by
    have z : a ∉ p :: qs' := fun z => by
      have := (k3 a z).1
      rw [if_neg ha, hx] at this
      cases this
    exact ⟨z, by rw [k2 a z, if_neg ha]; exact hx⟩
  have bc0 : ∀ a, a ∈ p :: qs' → Bc a = none := fun a ha => by
    by_cases z : a ∈ p :: qs
    · exact (h3 a z).1
    · have := (k3 a ha).1
      rw [if_neg z] at this
      exact bcH.free this
  refine ⟨fun a => if a ∈ p :: qs' then BN' a else Bc a, ?_, ⟨qs', k1, fun a ha => by simp only [if_neg ha], fun a ha => ⟨bc0 a ha, (k3 a ha).2⟩, by simp only [if_pos (List.mem_cons_self)]; exact k4, k5, fun i q ds e1 e2 => ?_⟩⟩
  · exact {
      len := c.len
      exB := fun a x e => by
        have e : (if a ∈ p :: qs' then BN' a else Bc a) = some x := e
        by_cases z : a ∈ p :: qs'
        · rw [if_pos z] at e; exact bH _ _ e
        · rw [if_neg z] at e
          have za : a ∉ p :: qs := fun y => by rw [(h3 a y).1] at e; cases e
          exact bH _ _ (b0 a x za (bcH _ _ e)).2
      exG := gH
      ex0 := c.ex0.trans sG
      new := fun a h => by
        have za : a ∉ p :: qs' := fun z => h (k3 a z).2
        show G0 a ≠ none ∨ (if a ∈ p :: qs' then BN' a else Bc a) = none
        rw [if_neg za]
        rcases nw a h with z | z
        · rcases c.new a z with y | y
          · exact .inl y
          · exact .inr (n.base.free y)
        · rw [k2 a za] at z
          by_cases y : a ∈ p :: qs
          · exact .inr (h3 a y).1
          · rw [if_neg y] at z
            exact .inr (bcH.free z)
      cel := fun i u e => by
        obtain ⟨o, e1, h⟩ := c.cel i u e
        refine ⟨o, e1, ?_⟩
        have key : ∀ {p' : Addr} {x : HO}, G p' = none → BN p' = none → H p' = some x → G' p' = none ∧ (if p' ∈ p :: qs' then BN' p' else Bc p') = none ∧ H' p' = some x := fun {p' x} g b h => by
          have z : p' ∉ p :: qs := fun z => bnc p' z b
          obtain ⟨y1, y2⟩ := b0 p' x z h
          refine ⟨?_, by rw [if_neg y1]; exact n.base.free b, bH _ _ y2⟩
          cases q : G' p' with
          | none => rfl
          | some w =>
            rcases nw p' (by rw [q]; intro z; cases z) with t | t
            · exact absurd g t
            · rw [y2] at t; cases t
        cases u with
        | un => trivial
        | dat d => obtain ⟨v, e2, r⟩ := h; exact ⟨v, e2, r.up sG⟩
        | exc a => exact h
        | fdc kvs => obtain ⟨p', vs, od, e2, gp, r⟩ := h; exact ⟨p', vs, od, e2, sG _ _ gp, L2.Paired.mapP r fun _ _ z => z.up sG⟩
        | own xs =>
          obtain ⟨p', vs, e2, gp, bp, hp, r⟩ := h
          obtain ⟨y1, y2, y3⟩ := key gp bp hp
          exact ⟨p', vs, e2, y1, y2, y3, r.up sG⟩
        | dic xs =>
          obtain ⟨p', vs, e2, gp, bp, hp, r⟩ := h
          obtain ⟨y1, y2, y3⟩ := key gp bp hp
          exact ⟨p', vs, e2, y1, y2, y3, L2.Paired.mapP r fun _ _ z => z.up sG⟩
      sep := c.sep }
  · obtain ⟨vs, e, r⟩ := k6 i q ds e1 e2
    have m : q ∈ p :: qs' := List.mem_cons_of_mem _ (List.mem_of_getElem? e1)
    exact ⟨vs, by simp only [if_pos m]; exact e, r⟩
end
/-! ### statements beside it -/
inductive DOut2 where
  | nx (w : WtL) (env : DEnv) | rt (d : D) (w : WtL) | bk (w : WtL) (env : DEnv) | ct (w : WtL) (env : DEnv) | no
abbrev DStm2 := WtL → DEnv → DOut2
@[simp] def M.to2 {α : Type} (k : α → DOut2) : M α → DOut2
  | .ok a => k a
  | _ => .no
@[simp] def DOut2.then (u : DStm2) : DOut2 → DOut2
  | .nx w e => u w e
  | .rt d w => .rt d w
  | .bk w e => .bk w e
  | .ct w e => .ct w e
  | .no => .no
@[simp] def sNext2 : DStm2 := fun w e => .nx w e
@[simp] def sCont2 : DStm2 := fun w e => .ct w e
@[simp] def sSeq2 (a b : DStm2) : DStm2 := fun w e => (a w e).then b
@[simp] def sIf2 (t : WtL → DEnv → M Bool) (a b : DStm2) : DStm2 := fun w e => (t w e).to2 fun c => if c = true then a w e else b w e
def dWhile2 (t : WtL → DEnv → M Bool) (body : DStm2) : Nat → DStm2
  | 0, _, _ => .no
  | n + 1, w, e => match t w e with
    | .ok false => .nx w e
    | .ok true => match body w e with
      | .nx w' e' => dWhile2 t body n w' e'
      | .ct w' e' => dWhile2 t body n w' e'
      | .bk w' e' => .nx w' e'
      | .rt d w' => .rt d w'
      | .no => .no
    | _ => .no
def dLoop2 (tg : DTgt) (body : DStm2) : List D → DStm2
  | [], w, e => .nx w e
  | d :: ds, w, e => match tg d e with
    | none => .no
    | some e => match body w e with
      | .nx w' e' => dLoop2 tg body ds w' e'
      | .ct w' e' => dLoop2 tg body ds w' e'
      | .bk w' e' => .nx w' e'
      | .rt d w' => .rt d w'
      | .no => .no
@[simp] def sFor2 (it : DEnv → M (List D)) (tg : DTgt) (body : DStm2) : DStm2 := fun w e => (it e).to2 fun ds => dLoop2 tg body ds w e
open Classical in
/-- a statement that leaves the list alone -/
@[simp] noncomputable def sLift (iw : Nat) (g : DStm) : DStm2 := fun w env => match g env with
  | .nx e => if e[iw]? = env[iw]? then .nx w e else .no
  | .rt d => .rt d w
  | .bk e => if e[iw]? = env[iw]? then .bk w e else .no
  | .ct e => if e[iw]? = env[iw]? then .ct w e else .no
  | .ex _ _ => .no
  | .no => .no
@[simp] def sSet2 (i : Nat) (f : WtL → DEnv → M D) : DStm2 := fun w env => (f w env).to2 fun d => .nx w (env.set i (.dat d))
@[simp] def sPush2 : DStm2 := fun w env => if w.length < sizeLine then .nx (w ++ [[]]) env else .no
def rowAt (w : WtL) : D → Option (List D)
  | .int i => atI w i
  | _ => none
def appRow (w : WtL) (d x : D) : Option WtL := match d with
  | .int i => (ixN w.length i).bind fun k => (w[k]?).bind fun l => if l.length < sizeLine then some (w.set k (l ++ [x])) else none
  | _ => none
@[simp] def sAppAt2 (f g : DEnv → M D) : DStm2 := fun w env => (f env).to2 fun a => (g env).to2 fun b => (M.of (appRow w a b)).to2 fun w' => .nx w' env
@[simp] def xLen0 : WtL → DEnv → M D := fun w _ => .ok (.int w.length)
@[simp] def xLen1 (f : DEnv → M D) : WtL → DEnv → M D := fun w env => (f env).bind fun a => .of ((rowAt w a).map fun l => .int l.length)
@[simp] def xAt2 (f g : DEnv → M D) : WtL → DEnv → M D := fun w env => (f env).bind fun a => (M.of (rowAt w a)).bind fun l => (g env).bind fun b => .of (ixD l b)
@[simp] def xOp2 (h : D → D → Option D) (f g : WtL → DEnv → M D) : WtL → DEnv → M D := fun w env => (f w env).bind fun a => (g w env).bind fun b => .of (h a b)
@[simp] def tE2 (f : WtL → DEnv → M D) : WtL → DEnv → M Bool := fun w env => (f w env).bind asB
@[simp] def sCallN (n : Nat) (g : List D → WtL → M WtL) (ga : DEnv → M (List D)) : DStm2 := fun w env => (ga env).to2 fun ds => if ds.length = n then (g ds w).to2 fun w' => .nx w' env else .no
def PoS2 (K : KW) (B G0 G : Hp) (iw : Nat) (p : Addr) (E : Ends) : DOut2 → Prop
  | .nx w e => ∀ σ H G' BN, Same G G' → Cn K BN G0 G' σ H e → Nst K B BN G' p w → e[iw]? = some (.exc p) → E.nx σ H
  | .rt d w => ∀ v σ H G' BN e, Same G G' → Cn K BN G0 G' σ H e → Nst K B BN G' p w → Rep K G' v d → E.rt v H
  | .bk w e => ∀ σ H G' BN, Same G G' → Cn K BN G0 G' σ H e → Nst K B BN G' p w → e[iw]? = some (.exc p) → E.bk σ H
  | .ct w e => ∀ σ H G' BN, Same G G' → Cn K BN G0 G' σ H e → Nst K B BN G' p w → e[iw]? = some (.exc p) → E.ct σ H
  | .no => False
theorem PoS2.up {K : KW} {B G0 G G1 : Hp} {iw : Nat} {p : Addr} {E : Ends} {o : DOut2} (s : Same G G1) (h : PoS2 K B G0 G iw p E o) : PoS2 K B G0 G1 iw p E o := by
  cases o with
  | nx w e => exact fun σ H G' BN s' => h σ H G' BN (s.trans s')
  | rt d w => exact fun v σ H G' BN e s' => h v σ H G' BN e (s.trans s')
  | bk w e => exact fun σ H G' BN s' => h σ H G' BN (s.trans s')
  | ct w e => exact fun σ H G' BN s' => h σ H G' BN (s.trans s')
  | no => exact h
def RdS2 (K : KW) (iw : Nat) (ts : TS) (g : DStm2) : Prop :=
  ∀ B BN G0 G H σ env p w E, Cn K BN G0 G σ H env → Nst K B BN G p w → env[iw]? = some (.exc p) → PoS2 K B G0 G iw p E (g w env) → ts E σ H
def RdE2 (K : KW) (mg : Str → Option Value) (W : WX) (iw : Nat) (te : TE) (f : WtL → DEnv → M D) : Prop :=
  ∀ B BN G0 G H σ env p w Q, Cn K BN G0 G σ H env → Nst K B BN G p w → env[iw]? = some (.exc p) → PoE K mg W BN G0 G σ env Q (f w env) → te σ H Q
def RdT2 (K : KW) (mg : Str → Option Value) (W : WX) (iw : Nat) (tt : TT) (f : WtL → DEnv → M Bool) : Prop :=
  ∀ B BN G0 G H σ env p w Q, Cn K BN G0 G σ H env → Nst K B BN G p w → env[iw]? = some (.exc p) → PoT K mg W BN G0 G σ env Q (f w env) → tt σ H Q
structure DS2 (X : Cx) (W : WX) (iw : Nat) (st : Stmt) (g : DStm2) : Prop where
  ex : ∃ ts, PS X st ts ∧ RdS2 (kw X) iw ts g
structure DSs2 (X : Cx) (W : WX) (iw : Nat) (st : List Stmt) (g : DStm2) : Prop where
  ex : ∃ ts, PSs X st ts ∧ RdS2 (kw X) iw ts g
structure DE2 (X : Cx) (W : WX) (iw : Nat) (e : Expr) (f : WtL → DEnv → M D) : Prop where
  ex : ∃ te, PE X e te ∧ RdE2 (kw X) X.mg W iw te f
structure DT2 (X : Cx) (W : WX) (iw : Nat) (e : Expr) (f : WtL → DEnv → M Bool) : Prop where
  ex : ∃ te, PT X e te ∧ RdT2 (kw X) X.mg W iw te f
section
variable {X : Cx} {W : WX} {iw : Nat} {st : Stmt} {rest body : List Stmt} {a b : DStm2} {g : DStm} {e e1 e2 tg iter : Expr} {f : DEnv → M D} {pos p : Pos}
theorem ds2_lift (h : DS X W st g) : DS2 X W iw st (sLift iw g) := by
  obtain ⟨ts, a1, a2⟩ := h.ex
  refine ⟨ts, a1, fun B BN G0 G H σ env p w E c n hp po => ?_⟩
  refine a2 BN G0 G H σ env E c ?_
  simp only [sLift] at po
  cases o : g env with
  | nx e =>
    rw [o] at po
    simp only at po
    by_cases h : e[iw]? = env[iw]?
    · rw [if_pos h] at po
      exact fun σ' H' G' s c' => po σ' H' G' BN s c' (n.up c s c') (h.trans hp)
    · rw [if_neg h] at po; exact po.elim
  | rt d => rw [o] at po; exact fun v σ' H' G' e s c' r => po v σ' H' G' BN e s c' (n.up c s c') r
  | bk e =>
    rw [o] at po
    simp only at po
    by_cases h : e[iw]? = env[iw]?
    · rw [if_pos h] at po
      exact fun σ' H' G' s c' => po σ' H' G' BN s c' (n.up c s c') (h.trans hp)
    · rw [if_neg h] at po; exact po.elim
  | ct e =>
    rw [o] at po
    simp only at po
    by_cases h : e[iw]? = env[iw]?
    · rw [if_pos h] at po
      exact fun σ' H' G' s c' => po σ' H' G' BN s c' (n.up c s c') (h.trans hp)
    · rw [if_neg h] at po; exact po.elim
  | ex c e => rw [o] at po; exact po.elim
  | no => rw [o] at po; exact po.elim
theorem dss2_nil : DSs2 X W iw [] sNext2 := ⟨_, pss_nil, fun B BN G0 G H σ env p w E c n hp po => po σ H G BN (Same.refl G) c n hp⟩
theorem dss2_cons (h1 : DS2 X W iw st a) (h2 : DSs2 X W iw rest b) : DSs2 X W iw (st :: rest) (sSeq2 a b) := by
  obtain ⟨t, a1, a2⟩ := h1.ex
  obtain ⟨u, b1, b2⟩ := h2.ex
  refine ⟨_, pss_cons a1 b1, fun B BN G0 G H σ env p w E c n hp po => ?_⟩
  refine a2 B BN G0 G H σ env p w _ c n hp ?_
  simp only [sSeq2] at po
  cases o : a w env with
  | nx w' e =>
    rw [o] at po
    intro σ' H' G' BN' s c' n' hp'
    exact b2 B BN' G0 G' H' σ' e p w' E c' n' hp' (po.up s)
  | rt d w' => rw [o] at po; exact po
  | bk w' e => rw [o] at po; exact po
  | ct w' e => rw [o] at po; exact po
  | no => rw [o] at po; exact po
theorem dss2_one (h1 : DS2 X W iw st a) : DSs2 X W iw [st] a := by
  obtain ⟨t, a1, a2⟩ := h1.ex
  exact ⟨_, pss_one a1, a2⟩
theorem ds2_cont : DS2 X W iw (.Continue pos) sCont2 := ⟨_, ps_continue, fun B BN G0 G H σ env p w E c n hp po => po σ H G BN (Same.refl G) c n hp⟩
theorem ds2_if {c : Expr} {t : WtL → DEnv → M Bool} {as bs : List Stmt} (hc : DT2 X W iw c t) (ha : DSs2 X W iw as a) (hb : DSs2 X W iw bs b) : DS2 X W iw (.If c as bs pos) (sIf2 t a b) := by
  obtain ⟨_, c1, c2⟩ := hc.ex
  obtain ⟨_, a1, a2⟩ := ha.ex
  obtain ⟨_, b1, b2⟩ := hb.ex
  refine ⟨_, ps_if c1 a1 b1, fun B BN G0 G H σ env p w E c n hp po => ?_⟩
  refine c2 B BN G0 G H σ env p w _ c n hp ?_
  simp only [sIf2] at po
  cases o : t w env with
  | no => rw [o] at po; exact po
  | ex k => rw [o] at po; exact po.elim
  | ok k =>
    rw [o] at po
    intro H1 G1 s1 c1
    cases k with
    | true => exact iteT (a2 B BN G0 G1 H1 σ env p w E c1 (n.up c s1 c1) hp (PoS2.up s1 po))
    | false => exact iteF (b2 B BN G0 G1 H1 σ env p w E c1 (n.up c s1 c1) hp (PoS2.up s1 po))
theorem ds2_while (m : Nat) {c : Expr} {t : WtL → DEnv → M Bool} (hp : PassesOwn (model X.prog X.w) X.A X.env X.xe) (hc : DT2 X W iw c t) (hb : DSs2 X W iw body a) : DS2 X W iw (.While c body [] pos) (dWhile2 t a m) := by
  obtain ⟨tc, c1, c2⟩ := hc.ex
  obtain ⟨tb, b1, b2⟩ := hb.ex
  refine ⟨_, ps_while hp c1 b1, fun B BN G0 G H σ env p w E c n hq po => ?_⟩
  refine ⟨fun m σ H => ∃ env G BN w, Cn (kw X) BN G0 G σ H env ∧ Nst (kw X) B BN G p w ∧ env[iw]? = some (.exc p) ∧ PoS2 (kw X) B G0 G iw p E (dWhile2 t a m w env), ⟨m, env, G, BN, w, c, n, hq, po⟩, ?_⟩
  rintro m σ1 H1 ⟨env1, G1, BN1, w1, c1, n1, hq1, p1⟩
  cases m with
  | zero => exact (show False from p1).elim
  | succ m =>
    unfold dWhile2 at p1
    refine c2 B BN1 G0 G1 H1 σ1 env1 p w1 _ c1 n1 hq1 ?_
    cases o : t w1 env1 with
    | no => rw [o] at p1; exact p1
    | ex k => rw [o] at p1; exact p1.elim
    | ok k =>
      rw [o] at p1
      intro H2 G2 s2 c2
      have n2 := n1.up c1 s2 c2
      cases k with
      | false => exact iteF (p1 σ1 H2 G2 BN1 s2 c2 n2 hq1)
      | true =>
        refine iteT ⟨fun σ' H' => ∃ env G BN w, Cn (kw X) BN G0 G σ' H' env ∧ Nst (kw X) B BN G p w ∧ env[iw]? = some (.exc p) ∧ PoS2 (kw X) B G0 G iw p E (dWhile2 t a m w env), fun σ' H' x => ⟨m, Nat.lt_succ_self m, x⟩, ?_⟩
        refine b2 B BN1 G0 G2 H2 σ1 env1 p w1 _ c2 n2 hq1 ?_
        have p2 := PoS2.up s2 p1
        simp only at p2
        cases q : a w1 env1 with
        | nx w' e' => rw [q] at p2; exact fun σ5 H5 G5 BN5 s5 c5 n5 h5 => ⟨e', G5, BN5, w', c5, n5, h5, PoS2.up s5 p2⟩
        | ct w' e' => rw [q] at p2; exact fun σ5 H5 G5 BN5 s5 c5 n5 h5 => ⟨e', G5, BN5, w', c5, n5, h5, PoS2.up s5 p2⟩
        | bk w' e' => rw [q] at p2; exact p2
        | rt d w' => rw [q] at p2; exact p2
        | no => rw [q] at p2; exact p2
theorem ds2_for {it : DEnv → M (List D)} {t : DTgt} {is : List Nat} (hp : PassesOwn (model X.prog X.w) X.A X.env X.xe) (hc : X.calm = true) (hi : DI X W tg iter it) (hg : DG X is tg t) (hb : DSs2 X W iw body a) (hw : iw ∉ is := by decide)
    (hs : ∀ x, foldedSetIterable iter X.env x = pure x := by intro _; rfl) : DS2 X W iw (.For tg iter body [] pos) (sFor2 it t a) := by
  obtain ⟨wi, i1, i2⟩ := hi.ex
  obtain ⟨g, g1, g2⟩ := hg.ex
  obtain ⟨tb, b1, b2⟩ := hb.ex
  refine ⟨_, ps_for hp hc i1 g1 b1 hs, fun B BN G0 G H σ env p w E c n hq po => ?_⟩
  refine i2 BN G0 G H σ env _ c ?_
  simp only [sFor2] at po
  cases o : it env with
  | no => rw [o] at po; exact po
  | ex n => rw [o] at po; exact po.elim
  | ok ds =>
    rw [o] at po
    intro J H1 G1 s1 c1 jok
    have po : PoS2 (kw X) B G0 G1 iw p E (dLoop2 t a ds w env) := PoS2.up s1 po
    refine ⟨fun i m σ H => m = ds.length - i ∧ ∃ env G BN w, Same G1 G ∧ Cn (kw X) BN G0 G σ H env ∧ Nst (kw X) B BN G p w ∧ env[iw]? = some (.exc p) ∧ PoS2 (kw X) B G0 G iw p E (dLoop2 t a (ds.drop i) w env), ⟨ds.length, rfl, env, G1, BN, w, Same.refl _, c1, n.up c s1 c1, hq, by rw [List.drop_zero]; exact po⟩, ?_⟩
    rintro i m σ2 H2 ⟨rfl, env2, G2, BN2, w2, s2, c2, n2, hq2, p2⟩
    obtain ⟨j1, j2⟩ := jok BN2 G0 G2 σ2 H2 env2 i s2 c2
    by_cases hi : i < ds.length
    · have hd : ds[i]? = some ds[i] := List.getElem?_eq_getElem hi
      obtain ⟨go, yl⟩ := j1 _ hd
      rw [List.drop_eq_getElem_cons hi] at p2
      unfold dLoop2 at p2
      refine .inr ⟨go, fun σ' H' => ∃ env G BN w, Same G1 G ∧ Cn (kw X) BN G0 G σ' H' env ∧ Nst (kw X) B BN G p w ∧ env[iw]? = some (.exc p) ∧ PoS2 (kw X) B G0 G iw p E (dLoop2 t a (ds.drop (i + 1)) w env), fun σ' H' ⟨env', G', BN', w', x1, x2, x3, x4, x5⟩ => ⟨ds.length - (i + 1), by omega, rfl, env', G', BN', w', x1, x2, x3, x4, x5⟩, fun x H' y => ?_⟩
      obtain ⟨G3, s3, c3, r3⟩ := yl x H' y
      have n3 := n2.up c2 s3 c3
      cases k : t ds[i] env2 with
      | none => simp [k, PoS2] at p2
      | some e1 =>
        rw [k] at p2
        refine g2 c3 r3 k fun σ4 H4 G4 s4 c4 bt => ?_
        have n4 := n3.up c3 s4 c4
        have hq4 : e1[iw]? = some (.exc p) := (bt.2 iw hw).1.trans hq2
        refine b2 B BN2 G0 G4 H4 σ4 e1 p w2 _ c4 n4 hq4 ?_
        have p2 := PoS2.up (s3.trans s4) p2
        simp only at p2
        cases q : a w2 e1 with
        | nx w' e' =>
          rw [q] at p2
          exact fun σ5 H5 G5 BN5 s5 c5 n5 h5 => ⟨e', G5, BN5, w', ((s2.trans s3).trans s4).trans s5, c5, n5, h5, PoS2.up s5 p2⟩
        | ct w' e' =>
          rw [q] at p2
          exact fun σ5 H5 G5 BN5 s5 c5 n5 h5 => ⟨e', G5, BN5, w', ((s2.trans s3).trans s4).trans s5, c5, n5, h5, PoS2.up s5 p2⟩
        | bk w' e' => rw [q] at p2; exact p2
        | rt d w' => rw [q] at p2; exact p2
        | no => rw [q] at p2; exact p2
    · refine .inl ⟨j2 (by omega), ?_⟩
      rw [List.drop_of_length_le (by omega)] at p2
      exact p2 σ2 H2 G2 BN2 (Same.refl _) c2 n2 hq2
/-! ### expressions beside it -/
theorem de2_lift (h : DE X W e f) : DE2 X W iw e (fun _ => f) := by
  obtain ⟨te, a1, a2⟩ := h.ex
  exact ⟨te, a1, fun B BN G0 G H σ env p w Q c n hp po => a2 BN G0 G H σ env Q c po⟩
theorem dt2_lift {t : DEnv → M Bool} (h : DT X W e t) : DT2 X W iw e (fun _ => t) := by
  obtain ⟨te, a1, a2⟩ := h.ex
  exact ⟨te, a1, fun B BN G0 G H σ env p w Q c n hp po => a2 BN G0 G H σ env Q c po⟩
theorem RdE2.op {K : KW} {mg : Str → Option Value} {ta tb : TE} {f g : WtL → DEnv → M D} {r : R2} {h : D → D → Option D} (ha : RdE2 K mg W iw ta f) (hb : RdE2 K mg W iw tb g) (hr : OpD K r h) : RdE2 K mg W iw (tOp r ta tb) (xOp2 h f g) := by
  intro B BN G0 G H σ env p w Q c n hp po
  refine ha B BN G0 G H σ env p w _ c n hp ?_
  simp only [xOp2] at po
  cases e : f w env with
  | no => rw [e] at po; exact po
  | ex k => rw [e] at po; exact po
  | ok x =>
    rw [e] at po
    intro v1 H1 G1 s1 c1 r1
    refine hb B BN G0 G1 H1 σ env p w _ c1 (n.up c s1 c1) hp ?_
    simp only [M.bind] at po
    cases e2 : g w env with
    | no => rw [e2] at po; exact po
    | ex k => rw [e2] at po; exact po
    | ok y =>
      rw [e2] at po
      intro v2 H2 G2 s2 c2 r2
      simp only [M.bind] at po
      cases e3 : h x y with
      | none => rw [e3] at po; exact po.elim
      | some d =>
        rw [e3] at po
        exact hr _ _ _ _ _ _ _ _ _ _ _ _ c2 (r1.up s2) r2 e3 fun v H' G' s c' r' => po v H' G' ((s1.trans s2).trans s) c' r'
theorem RdE2.test {K : KW} {mg : Str → Option Value} {te : TE} {f : WtL → DEnv → M D} (h : RdE2 K mg W iw te f) : RdT2 K mg W iw (tTest te) (tE2 f) := by
  intro B BN G0 G H σ env p w Q c n hp po
  refine h B BN G0 G H σ env p w _ c n hp ?_
  simp only [tE2] at po
  cases e : f w env with
  | no => rw [e] at po; exact po
  | ex k => rw [e] at po; exact po
  | ok d =>
    rw [e] at po
    intro v H1 G1 s1 c1 r1
    cases d with
    | bl b =>
      cases r1
      exact ⟨b, rfl, po H1 G1 s1 c1⟩
    | non => exact po.elim
    | int _ => exact po.elim
    | str _ => exact po.elim
    | lst _ => exact po.elim
    | tup _ => exact po.elim
    | scr _ => exact po.elim
theorem dt2_cmp {op : CmpOp} {h : D → D → Option D} {f g : WtL → DEnv → M D} (ho : OpX X (compareOp op) h) (ha : DE2 X W iw e1 f) (hb : DE2 X W iw e2 g) (hm : behindInMarks op e2 = false) :
    DT2 X W iw (.Compare e1 [op] [e2] pos) (tE2 (xOp2 h f g)) := by
  obtain ⟨r, o1, o2⟩ := ho.ex
  obtain ⟨ta, a1, a2⟩ := ha.ex
  obtain ⟨tb, b1, b2⟩ := hb.ex
  exact ⟨_, pt_cmpR o1 a1 b1 hm, (RdE2.op a2 b2 o2).test⟩
theorem slot_exc {K : KW} {B G0 G H : Hp} {σ : L2.St} {env : DEnv} {iw : Nat} {q : Addr} (c : Cn K B G0 G σ H env) (hp : env[iw]? = some (.exc q)) : σ[iw]? = some (some (.ref q)) := by
  obtain ⟨o, e1, e2⟩ := c.cel iw _ hp
  rw [e1]
  exact congrArg some e2
/-- len(x), x the list of lists -/
theorem de2_len0 {x : Str} {px : Pos} (hm : X.mg "len" = none) (hg : Gl X "len" := by rfl) (hN : X.N[iw]? = some x := by rfl) (hv : Vis X.env.scope x := by first | exact Or.inl rfl | exact Or.inr (Or.inl rfl) | exact Or.inr (Or.inr rfl)) (hd : (x == ("__debug__" : Str)) = false := by decide)
    (hcd : (x == ("__classdict__" : Str)) = false := by decide) (hs : starEach [.Name x px] X.env = (false, eval (.Name x px) X.env) :: starEach [] X.env := by rfl) (hpl : (backTo pos (starEach [] X.env)).any (·.1) = false := by rfl) :
    DE2 X W iw (.Call (.Name "len" p) [.Name x px] [] pos) xLen0 := by
  refine ⟨_, pe_callB call_len_seq hg hm PySem.boot_len (pa_cons (pe_var hN hv hd hcd) pa_nil hs) (by decide) (by decide) hs hpl, fun B BN G0 G H σ env p w Q c n hp po => ?_⟩
  obtain ⟨qs, h1, h2, h3, h4, h5, h6⟩ := n.ex
  refine ⟨.ref p, slot_exc c hp, p, _, rfl, .inl (.inl (.inl (c.exB _ _ h4))), ?_⟩
  have := po (.int ((qs.map V.ref).length : Nat)) H G (Same.refl G) c (by
    rw [List.length_map, h5]
    exact .int _)
  exact this
/-- len(x[e]) -/
theorem de2_len1 {x : Str} {px ps : Pos} (h : DE X W e f) (hm : X.mg "len" = none) (hsl : PlainIx e := by intro _ _; rfl) (hg : Gl X "len" := by rfl) (hN : X.N[iw]? = some x := by rfl) (hv : Vis X.env.scope x := by first | exact Or.inl rfl | exact Or.inr (Or.inl rfl) | exact Or.inr (Or.inr rfl)) (hd : (x == ("__debug__" : Str)) = false := by decide)
    (hcd : (x == ("__classdict__" : Str)) = false := by decide) (hs : starEach [.Subscript (.Name x px) e ps] X.env = (false, eval (.Subscript (.Name x px) e ps) X.env) :: starEach [] X.env := by rfl) (hpl : (backTo pos (starEach [] X.env)).any (·.1) = false := by rfl) :
    DE2 X W iw (.Call (.Name "len" p) [.Subscript (.Name x px) e ps] [] pos) (xLen1 f) := by
  obtain ⟨te, a1, a2⟩ := h.ex
  refine ⟨_, pe_callB call_len_seq hg hm PySem.boot_len (pa_cons (pe_ix ix_list (pe_var hN hv hd hcd) a1 hsl) pa_nil hs) (by decide) (by decide) hs hpl, fun B BN G0 G H σ env p w Q c n hp po => ?_⟩
  refine ⟨.ref p, slot_exc c hp, ?_⟩
  refine a2 BN G0 G H σ env _ c ?_
  simp only [xLen1] at po
  cases o : f env with
  | no => rw [o] at po; exact po
  | ex k => rw [o] at po; exact po
  | ok d =>
    rw [o] at po
    intro v H1 G1 s1 c1 r1
    simp only [M.bind] at po
    have n1 := n.up c s1 c1
    cases k : rowAt w d with
    | none => rw [k] at po; exact po.elim
    | some l =>
      rw [k] at po
      cases d with
      | int j =>
        cases r1
        obtain ⟨m, qs, q, vs, z1, z2, z3, z4, z5, z6, _⟩ := n1.at k
        refine ⟨p, qs.map V.ref, j, .ref q, rfl, rfl, .inl (.inl (c1.exB _ _ z1)), z4, q, vs, rfl, .inl (.inl (.inl (c1.exB _ _ z5))), ?_⟩
        rw [z6.length]
        exact po _ H1 G1 s1 c1 (.int _)
      | non => cases k
      | bl _ => cases k
      | str _ => cases k
      | lst _ => cases k
      | tup _ => cases k
      | scr _ => cases k
/-- x[e1][e2] -/
theorem de2_at {x : Str} {px ps : Pos} {f2 : DEnv → M D} (h : DE X W e f) (h2 : DE X W e2 f2) (hsl : PlainIx e := by intro _ _; rfl) (hsl2 : PlainIx e2 := by intro _ _; rfl) (hN : X.N[iw]? = some x := by rfl) (hv : Vis X.env.scope x := by first | exact Or.inl rfl | exact Or.inr (Or.inl rfl) | exact Or.inr (Or.inr rfl)) (hd : (x == ("__debug__" : Str)) = false := by decide)
    (hcd : (x == ("__classdict__" : Str)) = false := by decide) : DE2 X W iw (.Subscript (.Subscript (.Name x px) e ps) e2 pos) (xAt2 f f2) := by
  obtain ⟨te, a1, a2⟩ := h.ex
  obtain ⟨te2, b1, b2⟩ := h2.ex
  refine ⟨_, pe_ix ix_list (pe_ix ix_list (pe_var hN hv hd hcd) a1 hsl) b1 hsl2, fun B BN G0 G H σ env p w Q c n hp po => ?_⟩
  refine ⟨.ref p, slot_exc c hp, ?_⟩
  refine a2 BN G0 G H σ env _ c ?_
  simp only [xAt2] at po
  cases o : f env with
  | no => rw [o] at po; exact po
  | ex k => rw [o] at po; exact po
  | ok d =>
    rw [o] at po
    intro v H1 G1 s1 c1 r1
    simp only [M.bind] at po
    have n1 := n.up c s1 c1
    cases k : rowAt w d with
    | none => rw [k] at po; exact po.elim
    | some l =>
      rw [k] at po
      simp only [M.of, M.bind] at po
      cases d with
      | int j =>
        cases r1
        obtain ⟨m, qs, q, vs, z1, z2, z3, z4, z5, z6, _⟩ := n1.at k
        refine ⟨p, qs.map V.ref, j, .ref q, rfl, rfl, .inl (.inl (c1.exB _ _ z1)), z4, ?_⟩
        refine b2 BN G0 G1 H1 σ env _ c1 ?_
        cases o2 : f2 env with
        | no => rw [o2] at po; exact po
        | ex k => rw [o2] at po; exact po
        | ok d2 =>
          rw [o2] at po
          simp only [M.bind] at po
          intro v2 H2 G2 s2 c2 r2
          cases y : ixD l d2 with
          | none => rw [y] at po; exact po.elim
          | some t =>
            rw [y] at po
            cases d2 with
            | int i =>
              cases r2
              obtain ⟨v3, hv3, rv3⟩ := atI_rep (z6.up s2) y
              exact ⟨q, vs, i, v3, rfl, rfl, .inl (.inl (c2.exB _ _ z5)), hv3, po v3 H2 G2 (s1.trans s2) c2 rv3⟩
            | non => cases y
            | bl _ => cases y
            | str _ => cases y
            | lst _ => cases y
            | tup _ => cases y
            | scr _ => cases y
      | non => cases k
      | bl _ => cases k
      | str _ => cases k
      | lst _ => cases k
      | tup _ => cases k
      | scr _ => cases k
end
end DL

namespace DL
open PySem PySem.Spec PyProof.Rows L2
/-! ### changes of the list of lists -/
section
variable {X : Cx} {W : WX} {iw : Nat} {e e1 e2 : Expr} {f g : DEnv → M D} {pos p : Pos}
theorem ds2_set (i : Nat) {x : Str} {pos' : Pos} {f : WtL → DEnv → M D} (hN : X.N.Nodup) (h : DE2 X W iw e f) (hw : iw ≠ i := by decide) (hi : X.N[i]? = some x := by rfl) (hx : Loc X.env.scope x := by first | exact .inl rfl | exact .inr rfl) (hs : swapsWith e (some (.Name x pos')) pos.line X.env = pure false := by rfl) (hf : X.fn x = true ∨ X.env.scope.names.lookup x = some .local := by first | exact .inl rfl | exact .inr rfl) :
    DS2 X W iw (.Assign [.Name x pos'] e pos) (sSet2 i f) := by
  obtain ⟨_, a1, a2⟩ := h.ex
  refine ⟨_, ps_set (i := i) hN hi hx a1 hs hf, fun B BN G0 G H σ env p w E c n hp po => ?_⟩
  refine a2 B BN G0 G H σ env p w _ c n hp ?_
  simp only [sSet2] at po
  cases o : f w env with
  | no => rw [o] at po; exact po
  | ex n => rw [o] at po; exact po.elim
  | ok d =>
    rw [o] at po
    exact fun v H1 G1 s1 c1 r1 => po _ H1 G1 BN s1 (c1.set i r1) (n.up c s1 c1) (by rw [List.getElem?_set_ne (Ne.symm hw)]; exact hp)
/-- x.append([]) -/
theorem ds2_push {x : Str} {px apos cpos lp : Pos} (hN : X.N[iw]? = some x := by rfl) (hv : Vis X.env.scope x := by first | exact Or.inl rfl | exact Or.inr (Or.inl rfl) | exact Or.inr (Or.inr rfl)) (hd : (x == ("__debug__" : Str)) = false := by decide)
    (hcd : (x == ("__classdict__" : Str)) = false := by decide) (hbase : attributeBase (.Name x px) "append" X.env (eval (.Name x px) X.env) = eval (.Name x px) X.env := by rfl)
    (hfew : ((backTo cpos (starEach [.List [] lp] X.env)).all (fun x => !x.1) && (backToKw cpos (keywordEach [] X.env)).all (fun x => x.1.isSome)
      && decide (([.List [] lp] : List Expr).length + ([] : List Keyword).length + (if ([] : List Keyword).isEmpty then 0 else 1) < 30)) = true := by rfl)
    (hline : (apos.endLine == cpos.line) = true := by rfl) (hse : starEach [.List [] lp] X.env = (false, eval (.List [] lp) X.env) :: starEach [] X.env := by rfl) (hplain : (backTo cpos (starEach [] X.env)).any (·.1) = false := by rfl)
    (hs : swapsWith (.Call (.Attribute (.Name x px) "append" apos) [.List [] lp] [] cpos) none pos.line X.env = pure false := by rfl) :
    DS2 X W iw (.Expr (.Call (.Attribute (.Name x px) "append" apos) [.List [] lp] [] cpos) pos) sPush2 := by
  refine ⟨_, ps_expr (pe_bm PySem.F.plainAttrs_list PySem.F.slot_list_append PySem.F.type_list_append mt_append (pe_var hN hv hd hcd) (pa_cons (pe_lst pa_nil) pa_nil hse) hbase hfew hline hse hplain) hs, fun B BN G0 G H σ env p w E c n hp po => ?_⟩
  simp only [sPush2] at po
  obtain ⟨qs0, h1, h2, h3, h4, h5, h6⟩ := n.ex
  refine ⟨.ref p, slot_exc c hp, .inl ⟨rfl, _, .inl (.inl (c.exB _ _ h4))⟩, Nat.zero_le _, fun q hq => ?_⟩
  obtain ⟨qs, k1, k2, k3, k4⟩ := n.push c hq
  by_cases hl : w.length < sizeLine
  · rw [if_pos hl] at po
    have hpq : L2.upd H q (.lst []) p = some (.lst (qs.map V.ref)) := by rw [upd_ne (Ne.symm k3)]; exact c.exB _ _ k1
    refine ⟨p, qs.map V.ref, .ref q, rfl, rfl, hpq, by rw [List.length_map, k2]; exact hl, ?_⟩
    have c1 : Cn (kw X) (L2.upd BN q (.lst [])) G0 G σ (L2.upd H q (.lst [])) env := c.poke2 (c.exG.free hq) (.inr hq)
    have gp : G p = none := (h3 p List.mem_cons_self).2
    have c2 := c1.poke2 (q := p) (o := .lst (qs.map V.ref ++ [.ref q])) gp (.inl (by rw [upd_ne (Ne.symm k3), k1]; intro z; cases z))
    exact po σ _ G _ (Same.refl G) c2 k4 hp
  · rw [if_neg hl] at po
    exact po.elim
/-- x[e].append(y) -/
theorem ds2_appAt {x : Str} {px ps apos cpos : Pos} (h : DE X W e f) (h2 : DE X W e2 g) (hsl : PlainIx e := by intro _ _; rfl) (hN : X.N[iw]? = some x := by rfl) (hv : Vis X.env.scope x := by first | exact Or.inl rfl | exact Or.inr (Or.inl rfl) | exact Or.inr (Or.inr rfl)) (hd : (x == ("__debug__" : Str)) = false := by decide)
    (hcd : (x == ("__classdict__" : Str)) = false := by decide) (hbase : attributeBase (.Subscript (.Name x px) e ps) "append" X.env (eval (.Subscript (.Name x px) e ps) X.env) = eval (.Subscript (.Name x px) e ps) X.env := by rfl)
    (hfew : ((backTo cpos (starEach [e2] X.env)).all (fun x => !x.1) && (backToKw cpos (keywordEach [] X.env)).all (fun x => x.1.isSome)
      && decide ([e2].length + ([] : List Keyword).length + (if ([] : List Keyword).isEmpty then 0 else 1) < 30)) = true := by rfl)
    (hline : (apos.endLine == cpos.line) = true := by rfl) (hse : starEach [e2] X.env = (false, eval e2 X.env) :: starEach [] X.env := by rfl) (hplain : (backTo cpos (starEach [] X.env)).any (·.1) = false := by rfl)
    (hs : swapsWith (.Call (.Attribute (.Subscript (.Name x px) e ps) "append" apos) [e2] [] cpos) none pos.line X.env = pure false := by rfl) :
    DS2 X W iw (.Expr (.Call (.Attribute (.Subscript (.Name x px) e ps) "append" apos) [e2] [] cpos) pos) (sAppAt2 f g) := by
  obtain ⟨te, a1, a2⟩ := h.ex
  obtain ⟨te2, b1, b2⟩ := h2.ex
  refine ⟨_, ps_expr (pe_bm PySem.F.plainAttrs_list PySem.F.slot_list_append PySem.F.type_list_append mt_append (pe_ix ix_list (pe_var hN hv hd hcd) a1 hsl) (pa_cons b1 pa_nil hse) hbase hfew hline hse hplain) hs, fun B BN G0 G H σ env p w E c n hp po => ?_⟩
  refine ⟨.ref p, slot_exc c hp, ?_⟩
  refine a2 BN G0 G H σ env _ c ?_
  simp only [sAppAt2] at po
  cases o : f env with
  | no => rw [o] at po; exact po
  | ex k => rw [o] at po; exact po.elim
  | ok d =>
    rw [o] at po
    simp only [M.to2] at po
    intro v H1 G1 s1 c1 r1
    have n1 := n.up c s1 c1
    cases o2 : g env with
    | no => rw [o2] at po; exact po.elim
    | ex k => rw [o2] at po; exact po.elim
    | ok d2 =>
      rw [o2] at po
      simp only [M.to2] at po
      cases k : appRow w d d2 with
      | none => rw [k] at po; exact po.elim
      | some w' =>
        rw [k] at po
        simp only [M.of, M.to2] at po
        unfold appRow at k
        cases d with
        | int j =>
          cases r1
          simp only [Option.bind_eq_some_iff] at k
          obtain ⟨m, hm, l, hl, hif⟩ := k
          split at hif
          · rename_i hlt
            cases hif
            have at1 : atI w j = some l := by unfold atI; rw [hm]; exact hl
            obtain ⟨m', qs, q, vs, z1, z2, z3, z4, z5, z6, z7, z8, _⟩ := n1.at at1
            rw [hm] at z2
            cases z2
            refine ⟨p, qs.map V.ref, j, .ref q, rfl, rfl, .inl (.inl (c1.exB _ _ z1)), z4, .inl ⟨rfl, _, .inl (.inl (c1.exB _ _ z5))⟩, ?_⟩
            refine b2 BN G0 G1 H1 σ env _ c1 ?_
            rw [o2]
            intro v2 H2 G2 s2 c2 r2
            have n2 := n1.up c1 s2 c2
            obtain ⟨m2, qs2, q2, vs2, y1, y2, y3, y4, y5, y6, y7, y8, y9⟩ := n2.at at1
            rw [hm] at y2
            cases y2
            have eqs : qs2 = qs := by
              rw [z1] at y1
              injection y1 with y1
              injection y1 with y1
              exact ((List.map_inj_right (fun a b h => by cases h; rfl)).mp y1).symm
            subst eqs
            rw [z4] at y4
            cases y4
            rw [z5] at y5
            cases y5
            refine ⟨q, vs, v2, rfl, rfl, c2.exB _ _ z5, by rw [z6.length]; exact hlt, ?_⟩
            have c3 := c2.poke2 (q := q) (o := .lst (vs ++ [v2])) y8 (.inl (by rw [z5]; intro z; cases z))
            exact po σ _ G2 _ (s1.trans s2) c3 (y9 d2 v2 r2) hp
          · cases hif
        | non => cases k
        | bl _ => cases k
        | str _ => cases k
        | lst _ => cases k
        | tup _ => cases k
        | scr _ => cases k
end
/-! ### defs that are handed the list -/
/-- a def of n arguments; at place j the list of lists, that it changes as g tells; it hands back None -/
def spN (K : KW) (n j : Nat) (g : List D → WtL → M WtL) : Sp := fun vs H Q E => vs.length = n + 1 ∧ ∃ (B0 G : Hp) (p : Addr) (ds : List D) (w w' : WtL), vs[j]? = some (.ref p) ∧ Reps K G (vs.eraseIdx j) ds ∧ ds.length = n ∧ j ≤ n ∧ Same G H ∧ Nst K B0 H G p w ∧ g ds w = .ok w' ∧
  ∀ H' G' BN', Same G G' → Same G' H' → Same BN' H' → Nst K B0 BN' G' p w' → (∀ a, G' a ≠ none → G a ≠ none ∨ BN' a = none) → Q .non H'
def iniN (n j : Nat) (p : Addr) (ds : List D) : DEnv := (ds.take j).map .dat ++ .exc p :: ((ds.drop j).map .dat ++ List.replicate (n - ds.length - 1) .un)
open Classical in
noncomputable def fnN (n j : Nat) (g : DStm2) (ds : List D) (w : WtL) : M WtL := if h : ∃ w', ∀ p, ∃ e, g w (iniN n j p ds) = .nx w' e then .ok h.choose else .no
theorem fnN_eq {n j : Nat} {g : DStm2} {ds : List D} {w w' : WtL} (h : ∀ p, ∃ e, g w (iniN n j p ds) = .nx w' e) : fnN n j g ds w = .ok w' := by
  have hex : ∃ w', ∀ p, ∃ e, g w (iniN n j p ds) = .nx w' e := ⟨w', h⟩
  unfold fnN
  rw [dif_pos hex]
  obtain ⟨e1, h1⟩ := hex.choose_spec 0
  obtain ⟨e2, h2⟩ := h 0
  rw [h1] at h2
  injection h2 with h3
  rw [h3]
theorem fnN_inv {n j : Nat} {g : DStm2} {ds : List D} {w w' : WtL} (h : fnN n j g ds w = .ok w') : ∀ p, ∃ e, g w (iniN n j p ds) = .nx w' e := by
  unfold fnN at h
  split at h
  · rename_i hex
    cases h
    exact hex.choose_spec
  · cases h
theorem reps_get {K : KW} {G : Hp} {vs : List V} {ds : List D} (r : Reps K G vs ds) {i : Nat} (h : i < ds.length) : ∃ v, vs[i]? = some v ∧ Rep K G v ds[i] := r.get (List.getElem?_eq_getElem h)
theorem cn_startN {K : KW} {G H : Hp} {N : List Str} {vs : List V} {ds : List D} {j : Nat} {p : Addr} (e : Same G H) (hj : vs[j]? = some (.ref p)) (hl : vs.length = ds.length + 1) (hjn : j ≤ ds.length) (hN : ds.length + 1 ≤ N.length) (r : Reps K G (vs.eraseIdx j) ds) : Cn K H G G (start N vs) H (iniN N.length j p ds) where
  len := by
    simp only [L2.start, iniN, List.length_append, List.length_map, List.length_replicate, List.length_cons, List.length_take, List.length_drop, hl]
    omega
  exB := Same.refl H
  exG := e
  ex0 := Same.refl G
  new := fun a h => .inl h
  cel := fun i s hs => by
    unfold iniN at hs
    have lt : (List.map Cel.dat (ds.take j)).length = j := by rw [List.length_map, List.length_take]; omega
    have sl : ∀ {i : Nat} {v : V}, vs[i]? = some v → (start N vs)[i]? = some (some v) := fun {i v} h => by
      have := (List.getElem?_eq_some_iff.mp h).1
      unfold L2.start
      rw [List.getElem?_append_left (by rw [List.length_map]; exact this), List.getElem?_map, h]
      rfl
    rcases Nat.lt_trichotomy i j with h | h | h
    · rw [List.getElem?_append_left (by omega), List.getElem?_map, List.getElem?_take_of_lt h] at hs
      have hd : i < ds.length := by omega
      rw [List.getElem?_eq_getElem hd] at hs
      simp only [Option.map_some, Option.some.injEq] at hs
      subst hs
      obtain ⟨v, e1, r1⟩ := reps_get r hd
      rw [List.getElem?_eraseIdx_of_lt h] at e1
      exact ⟨some v, sl e1, v, rfl, r1⟩
    · subst h
      rw [List.getElem?_append_right (by omega), lt, Nat.sub_self] at hs
      simp only [List.getElem?_cons_zero, Option.some.injEq] at hs
      subst hs
      exact ⟨some (.ref p), sl hj, rfl⟩
    · rw [List.getElem?_append_right (by omega), lt] at hs
      obtain ⟨k, hk⟩ : ∃ k, i - j = k + 1 := ⟨i - j - 1, by omega⟩
      rw [hk, List.getElem?_cons_succ] at hs
      by_cases h2 : i ≤ ds.length
      · have l2 : (List.map Cel.dat (ds.drop j)).length = ds.length - j := by rw [List.length_map, List.length_drop]
        rw [List.getElem?_append_left (by omega), List.getElem?_map, List.getElem?_drop] at hs
        have hd : j + k < ds.length := by omega
        rw [List.getElem?_eq_getElem hd] at hs
        simp only [Option.map_some, Option.some.injEq] at hs
        subst hs
        obtain ⟨v, e1, r1⟩ := reps_get r hd
        rw [List.getElem?_eraseIdx_of_ge (by omega)] at e1
        have e3 : j + k + 1 = i := by omega
        rw [e3] at e1
        exact ⟨some v, sl e1, v, rfl, r1⟩
      · have l2 : (List.map Cel.dat (ds.drop j)).length = ds.length - j := by rw [List.length_map, List.length_drop]
        rw [List.getElem?_append_right (by omega), l2, List.getElem?_replicate] at hs
        split at hs
        · rename_i hx
          simp only [Option.some.injEq] at hs
          subst hs
          refine ⟨none, ?_, trivial⟩
          unfold L2.start
          rw [List.getElem?_append_right (by rw [List.length_map]; omega), List.getElem?_replicate, List.length_map, if_pos (by omega)]
        · cases hs
  sep := fun i k s t q ne e1 e2 o1 o2 h1 => by
    have no : ∀ (i : Nat) (s : Cel), (iniN N.length j p ds)[i]? = some s → ¬ s.owned := fun i s h o => by
      have m := List.mem_of_getElem? h
      unfold iniN at m
      rcases List.mem_append.mp m with m | m
      · obtain ⟨d, _, rfl⟩ := List.mem_map.mp m
        exact o
      · rcases List.mem_cons.mp m with rfl | m
        · exact o
        · rcases List.mem_append.mp m with m | m
          · obtain ⟨d, _, rfl⟩ := List.mem_map.mp m
            exact o
          · rw [List.eq_of_mem_replicate m] at o
            exact o
    exact absurd o1 (no i s e1)
theorem iniN_exc {n j : Nat} {p : Addr} {ds : List D} (h : j ≤ ds.length) : (iniN n j p ds)[j]? = some (.exc p) := by
  have lt : (List.map Cel.dat (ds.take j)).length = j := by rw [List.length_map, List.length_take]; omega
  unfold iniN
  rw [List.getElem?_append_right (by omega), lt, Nat.sub_self]
  rfl
section
variable (P : Program) (w : World) (K : PySem.W.Frag) (mg : Str → Option Value) (base : Heap)
structure DFnN (k : Nat) (x : Str) (n j : Nat) (g : List D → WtL → M WtL) : Prop where
  ex : ∃ f fd ps, FnOk P w K mg base (L2.CX P w) k f fd ps (spN ⟨K, w⟩ n j g) ∧ mg x = some (.ref f) ∧ PySem.W.keepIn K (.ref f) = true ∧ Binds K fd ps []
end
section
variable {P : Program} {w : World} {K : PySem.W.Frag} {mg : Str → Option Value} {base : Heap}
theorem DFnN.mk' {x qual : Str} {st : Stmt} {f : Addr} {fd : FuncData} {N ps : List Str} {k n j : Nat} {g : DStm2} (F : Fun K x qual st f fd) (S : FnScope N ps (defScope st)) (hn : ps.length = n + 1) (hx : mg x = some (.ref f)) (hN : n + 1 ≤ N.length)
    (hb : ∀ (kV doc pm : Value) (an : Option Addr) (cdv ct : Value) (us : List Value), us.length = ps.length → bindArgs (PySem.W.fnOf x qual (defArgs st) (defBody st) (defScope st) .none kV doc pm an cdv ct) ⟨us, []⟩ = pure (ps.zip us))
    (hbody : ∀ (cdv : Value) (A : Around) (outer : List Env) (s : Shared) (H : Hp) (E : XK), Room k (A.deeper (envOfC qual (defScope st) s.heap.objs.size f cdv)) →
      Takes (cxOf (L2.CX P w) P w K mg base N qual (defScope st) f cdv A outer s H E) (wOf E) →
      PassesOwn (model P w) (cxOf (L2.CX P w) P w K mg base N qual (defScope st) f cdv A outer s H E).A (cxOf (L2.CX P w) P w K mg base N qual (defScope st) f cdv A outer s H E).env (cxOf (L2.CX P w) P w K mg base N qual (defScope st) f cdv A outer s H E).xe →
      DSs2 (cxOf (L2.CX P w) P w K mg base N qual (defScope st) f cdv A outer s H E) (wOf E) j (defBody st) g) :
    DFnN P w K mg base (k + 1) x n j (fnN N.length j g) := by
  refine ⟨f, fd, ps, F.okX S (fun vs H Q E h => h.1.trans hn.symm) (fun cdv A outer s H vs Q E hr h => ?_), hx, F.kp, F.binds hb⟩
  obtain ⟨hl, B0, G, p, ds, wt, w', hj, r, hd, hjn, sG, nst, hg, p1⟩ := h
  obtain ⟨ts, h1, h2⟩ := (hbody cdv A outer s H E hr (takes_of rfl rfl rfl rfl) (passes_of rfl)).ex
  obtain ⟨e, he⟩ := fnN_inv hg p
  refine ⟨ts, h1, h2 B0 H G G H _ _ p wt _ (cn_startN sG hj (by omega) (by omega) (by omega) r) nst (iniN_exc (by omega)) ?_⟩
  rw [he]
  intro σ' H' G' BN' s' c' n' _
  exact p1 H' G' BN' s' c'.exG c'.exB n' (fun a h => c'.new a h)
end
/-- the arguments, the list of lists at place j -/
structure DAN (X : Cx) (W : WX) (iw j : Nat) (es : List Expr) (ga : DEnv → M (List D)) : Prop where
  ex : ∃ ta, PA X es ta ∧ ∀ B BN G0 G H σ env p w (Q : List V → Hp → Prop), Cn (kw X) BN G0 G σ H env → Nst (kw X) B BN G p w → env[iw]? = some (.exc p) →
    (∃ ds, ga env = .ok ds ∧ ∀ vs H' G', Same G G' → Cn (kw X) BN G0 G' σ H' env → vs.length = ds.length + 1 → vs[j]? = some (.ref p) → Reps (kw X) G' (vs.eraseIdx j) ds → Q vs H') → ta σ H Q
section
variable {X : Cx} {W : WX} {iw : Nat} {e : Expr} {es : List Expr} {f : DEnv → M D} {ga : DEnv → M (List D)} {pos p : Pos}
theorem dan0 {x : Str} {px : Pos} (ha : DA X W es ga) (hs : starEach (.Name x px :: es) X.env = (false, eval (.Name x px) X.env) :: starEach es X.env := by rfl) (hN : X.N[iw]? = some x := by rfl) (hv : Vis X.env.scope x := by first | exact Or.inl rfl | exact Or.inr (Or.inl rfl) | exact Or.inr (Or.inr rfl)) (hd : (x == ("__debug__" : Str)) = false := by decide)
    (hcd : (x == ("__classdict__" : Str)) = false := by decide) : DAN X W iw 0 (.Name x px :: es) ga := by
  obtain ⟨ta, a1, a2⟩ := ha.ex
  refine ⟨_, pa_cons (pe_var hN hv hd hcd) a1 hs, fun B BN G0 G H σ env p w Q c n hp ⟨ds, e1, po⟩ => ?_⟩
  refine ⟨.ref p, slot_exc c hp, ?_⟩
  refine a2 BN G0 G H σ env _ c ?_
  rw [e1]
  intro vs H1 G1 s1 c1 r1
  exact po (.ref p :: vs) H1 G1 s1 c1 (by simp [r1.length]) rfl r1
theorem dan1 {x : Str} {px : Pos} (h : DE X W e f) (ha : DA X W es ga) (hs0 : starEach (e :: .Name x px :: es) X.env = (false, eval e X.env) :: starEach (.Name x px :: es) X.env := by rfl) (hs : starEach (.Name x px :: es) X.env = (false, eval (.Name x px) X.env) :: starEach es X.env := by rfl) (hN : X.N[iw]? = some x := by rfl) (hv : Vis X.env.scope x := by first | exact Or.inl rfl | exact Or.inr (Or.inl rfl) | exact Or.inr (Or.inr rfl)) (hd : (x == ("__debug__" : Str)) = false := by decide)
    (hcd : (x == ("__classdict__" : Str)) = false := by decide) : DAN X W iw 1 (e :: .Name x px :: es) (aCons f ga) := by
  obtain ⟨te, b1, b2⟩ := h.ex
  obtain ⟨ta, a1, a2⟩ := ha.ex
  refine ⟨_, pa_cons b1 (pa_cons (pe_var hN hv hd hcd) a1 hs) hs0, fun B BN G0 G H σ env p w Q c n hp ⟨ds, e1, po⟩ => ?_⟩
  refine b2 BN G0 G H σ env _ c ?_
  simp only [aCons] at e1
  cases o : f env with
  | no => rw [o] at e1; cases e1
  | ex k => rw [o] at e1; cases e1
  | ok d =>
    rw [o] at e1
    simp only [M.bind] at e1
    intro v H1 G1 s1 c1 r1
    refine ⟨.ref p, slot_exc c1 hp, ?_⟩
    refine a2 BN G0 G1 H1 σ env _ c1 ?_
    cases o2 : ga env with
    | no => rw [o2] at e1; cases e1
    | ex k => rw [o2] at e1; cases e1
    | ok ds' =>
      rw [o2] at e1
      cases e1
      intro vs H2 G2 s2 c2 r2
      exact po (v :: .ref p :: vs) H2 G2 (s1.trans s2) c2 (by simp [r2.length]) rfl (.cons (r1.up s2) r2)
theorem ds2_call {k l n j : Nat} {x : Str} {g : List D → WtL → M WtL} {pos2 : Pos} (F : DFnN X.prog X.w X.K X.mg X.base k x n j g) (hr : Room l X.A) (hj : k ≤ l) (hjn : j ≤ n) (tk : Takes X W) (ha : DAN X W iw j (e :: es) ga)
    (hg : Gl X x := by rfl) (hdb : (x == ("__debug__" : Str)) = false := by decide) (he : starEach (e :: es) X.env = (false, eval e X.env) :: starEach es X.env := by rfl) (hpl : (backTo pos (starEach es X.env)).any (·.1) = false := by rfl)
    (hs : swapsWith (.Call (.Name x p) (e :: es) [] pos) none pos2.line X.env = pure false := by rfl) :
    DS2 X W iw (.Expr (.Call (.Name x p) (e :: es) [] pos) pos2) (sCallN n g ga) := by
  obtain ⟨f, fd, ps, F1, F2, F3, F4⟩ := F.ex
  obtain ⟨_, a1, a2⟩ := ha.ex
  refine ⟨_, ps_expr (pe_callS F1 (hr.mono hj) hg F2 F3 F4 (fun σ => passAt tk σ) a1 hdb he hpl) hs, fun B BN G0 G H σ env p w E c nst hp po => ?_⟩
  refine a2 B BN G0 G H σ env p w _ c nst hp ?_
  simp only [sCallN] at po
  cases o : ga env with
  | no => rw [o] at po; exact po.elim
  | ex m => rw [o] at po; exact po.elim
  | ok ds =>
    rw [o] at po
    simp only [M.to2] at po
    by_cases hl : ds.length = n
    · rw [if_pos hl] at po
      refine ⟨ds, rfl, fun vs H1 G1 s1 c1 hv hvj r1 => ?_⟩
      cases q : g ds w with
      | no => rw [q] at po; exact po.elim
      | ex m => rw [q] at po; exact po.elim
      | ok w' =>
        rw [q] at po
        have n1 := nst.up c s1 c1
        obtain ⟨B0, m1, m2⟩ := Cn.called n1 c1
        refine ⟨by omega, B0, G1, p, ds, w, w', hvj, r1, hl, hjn, c1.exG, m1, q, fun H' G' BN' s2 gh bh n' nw => ?_⟩
        obtain ⟨BN2, c3, n3⟩ := m2 H' G' BN' w' s2 gh bh n' nw
        exact po σ H' G' BN2 (s1.trans s2) c3 n3 hp
    · rw [if_neg hl] at po
      exact po.elim
/-! ### a def that makes the list -/
open Classical in
noncomputable def enterR (k : Addr → DOut2) : DOut := if h : ∃ d, ∀ p, ∃ w, k p = .rt d w then .rt h.choose else .no
theorem enterR_eq {k : Addr → DOut2} {d : D} (h : ∀ p, ∃ w, k p = .rt d w) : enterR k = .rt d := by
  have hex : ∃ d, ∀ p, ∃ w, k p = .rt d w := ⟨d, h⟩
  unfold enterR
  rw [dif_pos hex]
  obtain ⟨e1, h1⟩ := hex.choose_spec 0
  obtain ⟨e2, h2⟩ := h 0
  rw [h1] at h2
  injection h2 with h3
  rw [h3]
theorem enterR_inv {k : Addr → DOut2} : enterR k = .no ∨ ∃ d, enterR k = .rt d ∧ ∀ p, ∃ w, k p = .rt d w := by
  unfold enterR
  split
  · rename_i h
    exact .inr ⟨_, rfl, h.choose_spec⟩
  · exact .inl rfl
/-- x = [[..]] ahead of g -/
noncomputable def sEnter (iw : Nat) (f : DEnv → M (List D)) (g : DStm2) : DStm := fun env => if iw < env.length then (f env).to env fun ds => enterR fun p => g [ds] (env.set iw (.exc p)) else .no
theorem dss_enter {x : Str} {pos' lp : Pos} {rest : List Stmt} {f : DEnv → M (List D)} {g : DStm2} (hN : X.N.Nodup) (h : DLs X W e f) (hb : DSs2 X W iw rest g) (hi : X.N[iw]? = some x := by rfl) (hx : Loc X.env.scope x := by first | exact .inl rfl | exact .inr rfl) (hs : swapsWith (.List [e] lp) (some (.Name x pos')) pos.line X.env = pure false := by rfl) (hf : X.fn x = true ∨ X.env.scope.names.lookup x = some .local := by first | exact .inl rfl | exact .inr rfl)
    (hst : starEach [e] X.env = (false, eval e X.env) :: starEach [] X.env := by rfl) :
    DSs X W (.Assign [.Name x pos'] (.List [e] lp) pos :: rest) (sEnter iw f g) := by
  obtain ⟨te, a1, a2⟩ := h.ex
  obtain ⟨u, b1, b2⟩ := hb.ex
  refine ⟨_, pss_cons (ps_set (i := iw) hN hi hx (pe_lst (pa_cons a1 pa_nil hst)) hs hf) b1, fun B G0 G H σ env E c po => ?_⟩
  refine a2 B G0 G H σ env _ c ?_
  unfold sEnter at po
  by_cases hle : iw < env.length
  case neg => rw [if_neg hle] at po; exact po.elim
  rw [if_pos hle] at po
  cases o : f env with
  | no => rw [o] at po; exact po.elim
  | ex n => rw [o] at po; exact PoX.s po
  | ok ds =>
    rw [o] at po
    simp only [M.to] at po
    intro q vs H1 G1 s1 c1 hq r1
    refine ⟨by rw [sizeLine_eq]; show 1 ≤ _; decide, fun p hp => ?_⟩
    rcases enterR_inv (k := fun p => g [ds] (env.set iw (.exc p))) with z | ⟨d, z, hd⟩
    · rw [z] at po; exact po.elim
    · rw [z] at po
      have ne : p ≠ q := fun z => by rw [z, upd_same] at hp; cases hp
      have hp' := hp
      rw [upd_ne ne] at hp'
      have n1 : Nst (kw X) B (L2.upd (L2.upd B q (.lst vs)) p (.lst [.ref q])) G1 p [ds] := Nst.one c1 hq hp r1
      have c2 : Cn (kw X) (L2.upd B q (.lst vs)) G0 G1 σ (L2.upd H1 q (.lst vs)) env := c1.poke2 (c1.exG.free hq) (.inr hq)
      have c3 := c2.poke2 (q := p) (o := .lst [.ref q]) (c1.exG.free hp') (.inr hp)
      have c4 := c3.setExc iw p
      obtain ⟨w, hw⟩ := hd p
      refine b2 B _ G0 G1 _ _ _ p [ds] E c4 n1 (by rw [List.getElem?_set_self hle]) ?_
      rw [hw]
      intro v σ' H' G' BN' e' s' c' n' r'
      exact po v σ' H' G' e' (s1.trans s') (c'.lower n'.base) r'
end
end DL

namespace DL
open PySem PySem.Spec PyProof.Rows L2
/-! ### a, b = x, y -/
@[simp] def sPar (i j : Nat) (ga : DEnv → M (List D)) : DStm := fun env => (ga env).to env fun ds => match ds with
  | [d1, d2] => .nx ((env.set i (.dat d1)).set j (.dat d2))
  | _ => .no
section
variable {X : Cx} {W : WX} {a b : Expr} {ga : DEnv → M (List D)} {pos : Pos}
theorem ds_par (i j : Nat) {x y : Str} {px py pt pt2 : Pos} {kt k2} (hN : X.N.Nodup) (ha : DA X W [a, b] ga) (hc : X.calm = true := by rfl) (hij : i ≠ j := by decide) (hi : X.N[i]? = some x := by rfl) (hj : X.N[j]? = some y := by rfl)
    (hx : X.env.scope.names.lookup x = some .local := by rfl) (hy : X.env.scope.names.lookup y = some .local := by rfl)
    (hw : swappedStores [.Tuple [.Name x px, .Name y py] kt pt] (.Tuple [a, b] k2 pt2) X.env = pure (some [x, y]) := by rfl)
    (hs : swapsWithSole [.Tuple [.Name x px, .Name y py] kt pt] (.Tuple [a, b] k2 pt2) pos.line X.env = pure false := by rfl) :
    DS X W (.Assign [.Tuple [.Name x px, .Name y py] kt pt] (.Tuple [a, b] k2 pt2) pos) (sPar i j ga) := by
  obtain ⟨ta, a1, a2⟩ := ha.ex
  refine ⟨_, ps_par hc hN hi hj hij hx hy a1 hw hs, fun B G0 G H σ env E c po => ?_⟩
  refine a2 B G0 G H σ env _ c ?_
  simp only [sPar] at po
  cases o : ga env with
  | no => rw [o] at po; exact po
  | ex n => rw [o] at po; exact PoX.s po
  | ok ds =>
    rw [o] at po
    intro vs H1 G1 s1 c1 r1
    simp only [M.to] at po
    match ds, r1, po with
    | [d1, d2], .cons (v := v1) r1 (.cons (v := v2) r2 .nil), po => exact ⟨_, _, rfl, po _ H1 G1 s1 ((c1.set i r1).set j r2)⟩
    | [], _, po => exact po.elim
    | [_], _, po => exact po.elim
    | _ :: _ :: _ :: _, _, po => exact po.elim
end
end DL

namespace DL
open PySem PySem.Spec PyProof.Rows L2
/-! ### a > b of data that are alike -/
def rGtL (K : PySem.W.Frag) : R2 := fun x y H Q => ∃ d e, Dp K H x d ∧ Dp K H y e ∧ PySem.W.alike d e = true ∧ d ≠ .none ∧ d.depth ≤ 60 ∧ Q (.bl (PySem.W.dataLt e d)) H
open Classical in
noncomputable def gtLD (a b : D) : Option D := if eqOk 60 a = true ∧ eqOk 60 b = true ∧ PySem.W.alike (py a) (py b) = true ∧ py a ≠ .none then some (.bl (PySem.W.dataLt (py b) (py a))) else none
noncomputable def gtAD (a b : D) : Option D := match gtD a b with
  | some d => some d
  | none => gtLD a b
@[simp] theorem gtAD_int (a b : Int) : gtAD (.int a) (.int b) = gtD (.int a) (.int b) := rfl
section
variable {X : Cx}
theorem op_gtL (hu : X.A.units + 64 < cLine) : OpR X (compareOp .Gt) (rGtL X.K) := by
  intro pins s σ H x y v u Q I rx ry h
  obtain ⟨d, e, hd, he, al, nn, dp, q⟩ := h
  obtain ⟨as, r1⟩ := Dp.reads I d x v hd rx
  obtain ⟨bs, r2⟩ := Dp.reads I e y u he ry
  exact PySem.W.gt_data r1 r2 al nn (by have := Nat.min_le_left d.depth e.depth; omega) ⟨.bl _, H, I, rfl, q⟩
theorem ox_gtA (hu : X.A.units + 64 < cLine) : OpX X (compareOp .Gt) gtAD := by
  refine ⟨_, op_gt.or (op_gtL hu), opd_pure ?_⟩
  intro G H x y a b d Q s ra rb e
  unfold gtAD at e
  split at e
  · rename_i d' e'
    cases e
    unfold gtD at e'
    split at e'
    · cases ra; cases rb; cases e'
      exact ⟨_, .bl _, fun q => .inl ⟨_, _, rfl, rfl, q⟩⟩
    · cases e'
  · unfold gtLD at e
    split at e
    · rename_i h
      cases e
      exact ⟨_, .bl _, fun q => .inr ⟨_, _, dp_mono s h.1 ra, dp_mono s h.2.1 rb, h.2.2.1, h.2.2.2, (eqOk_shape 60 a h.1).2, q⟩⟩
    · cases e
end
end DL

namespace DL
open PySem PySem.Spec PyProof.Rows L2
/-! ### try .. except X, without a name -/
def ExcSelf (K : PySem.W.Frag) (mg : Str → Option Value) (C : Str) : Prop := ∃ D, mg C = some (.ref D) ∧ PySem.W.exmOne K (.ref D) (.ref D) = some true
def sTryOnly (C : Str) (gb gs : DStm) : DStm := fun env => match gb env with
  | .ex c e => if c = C then (match gs e with | .rt d => .rt d | _ => .no) else .no
  | o => o
section
variable {X : Cx} {W : WX} {body suite : List Stmt} {b₀ : Stmt} {pos pos' np : Pos}
theorem ds_tryOnly {C : Str} {D : Addr} {gb gs : DStm} (hc : Names X C (.ref D)) (hm : X.mg C = some (.ref D)) (hex : PySem.W.exmOne X.K (.ref D) (.ref D) = some true) (tk : Takes X W)
    (hb : ∀ (W' : WX) (pn : List (Addr × Obj)) (xe : Value → Shared → Prop), Takes (X.tr pn xe) W' → PassesOwn (model X.prog X.w) X.A X.env xe → DSs (X.tr pn xe) W' body gb)
    (hsu : ∀ (a : Addr) (oe : Obj) (pn : List (Addr × Obj)), DSs (X.suite a ((a, oe) :: pn)) W0 (b₀ :: suite) gs)
    (hs : X.stack = X.env :: X.outer := by rfl) (hf : X.env.frame = some X.env.locals := by rfl) :
    DS X W (.Try body [.ExceptHandler (some (.Name C np)) none (b₀ :: suite) pos'] [] [] pos) (sTryOnly C gb gs) := by
  refine ⟨_, ps_try_only (tb := fun W' => tSF (kw X) X.mg W' gb) (ts := fun a cls d => tSF (kw X) X.mg W0 gs) hs hf hc tk
    (fun W' pn xe h1 h2 => (hb W' pn xe h1 h2).canon) (fun a oe cls d pn hz hfl => ⟨fun pins s σ H E I h => (hsu a oe pn).canon.run pins s σ H E I h⟩), fun B G0 G H σ env E c po => ?_⟩
  refine ⟨B, G, G, env, c.base, ?_⟩
  unfold sTryOnly at po
  cases o : gb env with
  | no => rw [o] at po; exact po
  | nx e => rw [o] at po; exact fun σ' H' G' s c' => po σ' H' G' s (c.unbase c')
  | rt d => rw [o] at po; exact fun v σ' H' G' e s c' r => po v σ' H' G' e s (c.unbase c') r
  | bk e => rw [o] at po; exact fun σ' H' G' s c' => po σ' H' G' s (c.unbase c')
  | ct e => rw [o] at po; exact fun σ' H' G' s c' => po σ' H' G' s (c.unbase c')
  | ex n e =>
    rw [o] at po
    simp only at po
    by_cases hn : n = C
    · rw [if_pos hn] at po
      subst hn
      intro cls σ' H' G' hm2 c'
      rw [hm] at hm2
      cases hm2
      refine ⟨true, hex, fun _ a ha => ⟨B, G', G', _, c'.base, ?_⟩, fun h => by cases h⟩
      cases q : gs e with
      | rt d =>
        rw [q] at po
        intro v σ2 H2 G2 e2 s2 c2 r2
        have c3 := c.unbase (c'.unbase (c'.base.unbase c2))
        exact po v σ2 H2 G2 e2 (c'.ex0.trans s2) c3 r2
      | no => rw [q] at po; exact po.elim
      | nx e => rw [q] at po; exact po.elim
      | bk e => rw [q] at po; exact po.elim
      | ct e => rw [q] at po; exact po.elim
      | ex _ _ => rw [q] at po; exact po.elim
    · rw [if_neg hn] at po
      exact po.elim
end
end DL

namespace DL
open PySem PySem.Spec PyProof.Rows L2
/-! ### a op b op' c -/
@[simp] def xChain (h h' : D → D → Option D) (f g k : DEnv → M D) : DEnv → M D := fun env => (f env).bind fun a => (g env).bind fun b => (M.of (h a b)).bind fun d => match d with
  | .bl true => (k env).bind fun c => M.of (h' b c)
  | .bl false => .ok (.bl false)
  | _ => .no
section
variable {X : Cx} {W : WX} {a b c : Expr} {f g k : DEnv → M D} {pos : Pos}
theorem RdE.chain {K : KW} {mg : Str → Option Value} {ta tb tc : TE} {r r' : R2} {h h' : D → D → Option D} (ha : RdE K mg W ta f) (hb : RdE K mg W tb g) (hc : RdE K mg W tc k) (hr : OpD K r h) (hr' : OpD K r' h') : RdE K mg W (tChain r r' ta tb tc) (xChain h h' f g k) := by
  intro B G0 G H σ env Q c p
  refine ha B G0 G H σ env _ c ?_
  simp only [xChain] at p
  cases e : f env with
  | no => rw [e] at p; exact p
  | ex n => rw [e] at p; exact p
  | ok a =>
    rw [e] at p
    simp only [M.bind] at p
    intro v1 H1 G1 s1 c1 r1
    refine hb B G0 G1 H1 σ env _ c1 ?_
    cases e2 : g env with
    | no => rw [e2] at p; exact p
    | ex n => rw [e2] at p; exact p
    | ok b =>
      rw [e2] at p
      simp only [M.bind] at p
      intro v2 H2 G2 s2 c2 r2
      cases e3 : h a b with
      | none => rw [e3] at p; exact p.elim
      | some d =>
        rw [e3] at p
        simp only [M.of, M.bind] at p
        refine hr _ _ _ _ _ _ _ _ _ _ _ _ c2 (r1.up s2) r2 e3 fun v H' G' s c' r' => ?_
        cases d with
        | bl t =>
          cases r'
          refine ⟨t, rfl, ?_⟩
          cases t with
          | false =>
            rw [if_neg (by decide)]
            exact p _ H' G' ((s1.trans s2).trans s) c' (.bl false)
          | true =>
            rw [if_pos rfl]
            simp only at p
            refine hc B G0 G' H' σ env _ c' ?_
            cases e4 : k env with
            | no => rw [e4] at p; exact p
            | ex n => rw [e4] at p; intro cls H3 G3 hm c3; exact p cls H3 G3 hm c3
            | ok d3 =>
              rw [e4] at p
              simp only [M.bind] at p
              intro v3 H3 G3 s3 c3 r3
              cases e5 : h' b d3 with
              | none => rw [e5] at p; exact p.elim
              | some d5 =>
                rw [e5] at p
                simp only [M.of] at p
                exact hr' _ _ _ _ _ _ _ _ _ _ _ _ c3 (r2.up (s.trans s3)) r3 e5 fun v H4 G4 s4 c4 r4 => p v H4 G4 ((((s1.trans s2).trans s).trans s3).trans s4) c4 r4
        | _ => exact p.elim
theorem dt_chain {op op' : CmpOp} {h h' : D → D → Option D} (ho : OpX X (compareOp op) h) (ho' : OpX X (compareOp op') h') (ha : DE X W a f) (hb : DE X W b g) (hc : DE X W c k)
    (hm : lastMarks [op, op'] [b, c] = false := by with_unfolding_all rfl) : DT X W (.Compare a [op, op'] [b, c] pos) (tE (xChain h h' f g k)) := by
  obtain ⟨r, o1, o2⟩ := ho.ex
  obtain ⟨r', o1', o2'⟩ := ho'.ex
  obtain ⟨ta, a1, a2⟩ := ha.ex
  obtain ⟨tb, b1, b2⟩ := hb.ex
  obtain ⟨tc, c1, c2⟩ := hc.ex
  exact ⟨_, pt_chain o1 o1' a1 b1 c1 hm, (RdE.chain a2 b2 c2 o2 o2').test⟩
end
/-! ### parts of tuples, tuples n times -/
def slcTD (lo hi : Option Int) : D → Option D
  | .tup xs => some (.tup (cutL xs lo hi))
  | _ => none
@[simp] def xCutT (f : DEnv → M D) (l u : DEnv → M (Option Int)) (env : DEnv) : M D := (f env).bind fun d => (l env).bind fun x => (u env).bind fun y => .of (slcTD x y d)
section
variable {X : Cx} {W : WX} {e : Expr} {f : DEnv → M D} {pos : Pos}
theorem cutL_whole {α : Type} {xs : List α} {lo hi : Option Int} (h : HT.sIx xs.length 0 lo = 0 ∧ HT.sIx xs.length xs.length hi = xs.length) : cutL xs lo hi = xs := by
  unfold cutL
  rw [h.1, h.2]
  simp
theorem de_sliceT {lo hi : Option Expr} {l u : DEnv → M (Option Int)} {p2 : Pos} (he : DE X W e f) (hl : DO X W lo l) (hu : DO X W hi u) : DE X W (.Subscript e (.Slice lo hi none p2) pos) (xCutT f l u) := by
  obtain ⟨_, a1, a2⟩ := he.ex
  obtain ⟨_, b1, b2⟩ := hl.ex
  obtain ⟨_, c1, c2⟩ := hu.ex
  refine ⟨_, pe_slice sl_tupA a1 b1 c1, fun B G0 G H σ env Q c p => ?_⟩
  refine a2 B G0 G H σ env _ c ?_
  simp only [xCutT] at p
  cases o : f env with
  | no => rw [o] at p; exact p
  | ex n => rw [o] at p; exact p
  | ok d =>
    rw [o] at p
    intro v H1 G1 s1 k1 r1
    refine b2 B G0 G1 H1 σ env _ k1 ?_
    simp only [M.bind] at p
    cases o2 : l env with
    | no => rw [o2] at p; exact p
    | ex n => rw [o2] at p; exact p
    | ok x =>
      rw [o2] at p
      intro H2 G2 s2 k2
      refine c2 B G0 G2 H2 σ env _ k2 ?_
      simp only [M.bind] at p
      cases o3 : u env with
      | no => rw [o3] at p; exact p
      | ex n => rw [o3] at p; exact p
      | ok y =>
        rw [o3] at p
        intro H3 G3 s3 k3
        have r3 := (r1.up s2).up s3
        have ss := (s1.trans s2).trans s3
        simp only [M.bind] at p
        cases q : slcTD x y d with
        | none => rw [q] at p; exact p.elim
        | some z =>
          rw [q] at p
          unfold slcTD at q
          split at q
          · cases q
            cases r3 with
            | tup g1 g2 =>
              refine ⟨_, _, rfl, .inl (.inl (k3.exG _ _ g1)), fun hz => ?_, fun hz q hq => ?_⟩
              · rw [g2.length] at hz
                rw [cutL_whole hz] at p
                exact p _ H3 G3 ss k3 (.tup g1 g2)
              · have gq := k3.exG.free hq
                exact p _ _ (upd G3 q _) (ss.trans (same_upd gq)) (k3.laid hq) (.tup upd_same ((g2.cut x y).up (same_upd gq)))
          · cases q
def mulTD : D → D → Option D
  | .tup xs, .int k => if xs ≠ [] ∧ 2 ≤ k ∧ k ≤ 1000 ∧ xs.length ≤ 1000 then some (.tup (List.replicate k.toNat xs).flatten) else none
  | _, _ => none
theorem Reps.repl {K : KW} {G : Hp} {vs : List V} {ds : List D} (r : Reps K G vs ds) : ∀ n : Nat, Reps K G (List.replicate n vs).flatten (List.replicate n ds).flatten
  | 0 => .nil
  | n + 1 => by
    rw [List.replicate_succ, List.replicate_succ, List.flatten_cons, List.flatten_cons]
    exact r.append (Reps.repl r n)
theorem ox_mulT : OpX X (binaryOp .Mult) mulTD := by
  refine ⟨_, op_repT, ?_⟩
  intro B G0 G H σ env x y a b d Q c ra rb e k
  unfold mulTD at e
  split at e
  · split at e
    · rename_i hc
      cases e
      cases rb
      cases ra with
      | tup g1 g2 =>
        have gl := g2.length
        refine ⟨_, _, _, rfl, rfl, .inl (.inl (c.exG _ _ g1)), fun z => hc.1 (List.eq_nil_of_length_eq_zero (by rw [← gl, z]; rfl)), hc.2.1, hc.2.2.1, by rw [gl]; exact hc.2.2.2, fun p hp => ?_⟩
        have gp := c.exG.free hp
        exact k _ _ (upd G p _) (same_upd gp) (c.laid hp) (.tup upd_same ((g2.repl _).up (same_upd gp)))
    · cases e
  · cases e
end
end DL

namespace DL
open PySem PySem.Spec PyProof.Rows L2
/-! ### a list of dicts -/
abbrev WtM := List (List (D × D))
/-- at p stands a list of dicts, held by nobody else; B: the heap without them, BN: with them -/
structure NsM (K : KW) (B BN G : Hp) (p : Addr) (wt : WtM) : Prop where
  ex : ∃ qs : List Addr, (p :: qs).Nodup ∧ (∀ a, a ∉ p :: qs → BN a = B a) ∧ (∀ a ∈ p :: qs, B a = none ∧ G a = none) ∧ BN p = some (.lst (qs.map V.ref)) ∧ qs.length = wt.length ∧ ∀ (i : Nat) (q : Addr) (kvs : List (D × D)), qs[i]? = some q → wt[i]? = some kvs → ∃ xs, BN q = some (DicO K.w q xs) ∧ Paired (KRel K G) xs kvs
section
variable {K : KW} {B BN G0 G G' H H' : Hp} {σ σ' : L2.St} {env env' : DEnv} {p : Addr} {wt : WtM}
theorem NsM.base (n : NsM K B BN G p wt) : Same B BN := fun a x e => by
  obtain ⟨qs, h1, h2, h3, _⟩ := n.ex
  by_cases h : a ∈ p :: qs
  · rw [(h3 a h).1] at e; cases e
  · rw [h2 a h]; exact e
theorem NsM.up (n : NsM K B BN G p wt) (c : Cn K BN G0 G σ H env) (s : Same G G') (c' : Cn K BN G0 G' σ' H' env') : NsM K B BN G' p wt := by
  obtain ⟨qs, h1, h2, h3, h4, h5, h6⟩ := n.ex
  have some_of : ∀ a ∈ p :: qs, BN a ≠ none := fun a ha => by
    rcases List.mem_cons.mp ha with rfl | ha
    · rw [h4]; intro z; cases z
    · obtain ⟨i, hi⟩ := List.mem_iff_getElem?.mp ha
      have hl := (List.getElem?_eq_some_iff.mp hi).1
      obtain ⟨vs, e, _⟩ := h6 i a _ hi (List.getElem?_eq_getElem (by omega))
      rw [e]; intro z; cases z
  refine ⟨qs, h1, h2, fun a ha => ⟨(h3 a ha).1, ?_⟩, h4, h5, fun i q ds a b => ?_⟩
  · cases z : G' a with
    | none => rfl
    | some w =>
      rcases c'.new a (by rw [z]; intro k; cases k) with k | k
      · cases y : G0 a with
        | none => exact absurd y k
        | some x =>
          have := c.ex0 _ _ y
          rw [(h3 a ha).2] at this
          cases this
      · exact absurd k (some_of a ha)
  · obtain ⟨vs, e, r⟩ := h6 i q ds a b
    exact ⟨vs, e, L2.Paired.mapP r fun _ _ z => z.up s⟩
theorem NsM.one {G : Hp} {q : Addr} {xs : List Ent} {kvs : List (D × D)} (bq : B q = none) (bp : B p = none) (gq : G q = none) (gp : G p = none) (ne : p ≠ q) (r : Paired (KRel K G) xs kvs) : NsM K B (L2.upd (L2.upd B q (DicO K.w q xs)) p (.lst [.ref q])) G p [kvs] := by
  refine ⟨[q], by simp [ne], fun a ha => ?_, fun a ha => ?_, upd_same, rfl, fun i q' ds' h1 h2 => ?_⟩
  · simp only [List.mem_cons, List.not_mem_nil, or_false, not_or] at ha
    rw [upd_ne ha.1, upd_ne ha.2]
  · simp only [List.mem_cons, List.not_mem_nil, or_false] at ha
    rcases ha with rfl | rfl
    · exact ⟨bp, gp⟩
    · exact ⟨bq, gq⟩
  · cases i with
    | zero =>
      simp at h1 h2
      subst h1 h2
      exact ⟨xs, by rw [upd_ne (Ne.symm ne), upd_same], r⟩
    | succ i => simp at h1
theorem NsM.push (n : NsM K B BN G p wt) (c : Cn K BN G0 G σ H env) {q : Addr} (hq : H q = none) : ∃ qs : List Addr, BN p = some (.lst (qs.map V.ref)) ∧ qs.length = wt.length ∧ q ≠ p ∧ NsM K B (L2.upd (L2.upd BN q (DicO K.w q [])) p (.lst (qs.map V.ref ++ [.ref q]))) G p (wt ++ [[]]) := by
  obtain ⟨qs, h1, h2, h3, h4, h5, h6⟩ := n.ex
  have bq : BN q = none := c.exB.free hq
  have ne : q ≠ p := fun z => by rw [z, h4] at bq; cases bq
  have nm : q ∉ qs := fun z => by
    obtain ⟨i, hi⟩ := List.mem_iff_getElem?.mp z
    have hl := (List.getElem?_eq_some_iff.mp hi).1
    obtain ⟨vs, e, _⟩ := h6 i q _ hi (List.getElem?_eq_getElem (by omega))
    rw [bq] at e; cases e
  have np : p ∉ qs := (List.nodup_cons.mp h1).1
  refine ⟨qs, h4, h5, ne, qs ++ [q], ?_, fun a ha => ?_, fun a ha => ?_, by rw [upd_same, List.map_append]; rfl, by simp [h5], fun i q' ds' e1 e2 => ?_⟩
  · rw [List.nodup_cons] at h1 ⊢
    refine ⟨fun z => ?_, ?_⟩
    · rcases List.mem_append.mp z with z | z
      · exact h1.1 z
      · rw [List.mem_singleton] at z; exact ne z.symm
    · rw [List.nodup_append]
      exact ⟨h1.2, by simp, fun a ha b hb z => by
        rw [List.mem_singleton] at hb
        subst hb
        subst z
        exact nm ha⟩
  · simp only [List.mem_cons, List.mem_append, List.not_mem_nil, or_false, not_or] at ha
    rw [upd_ne ha.1, upd_ne ha.2.2]
    exact h2 a (by simp [ha.1, ha.2.1])
  · by_cases z : a = q
    · subst z
      exact ⟨n.base.free bq, c.exG.free hq⟩
    · refine h3 a ?_
      rcases List.mem_cons.mp ha with e | e
      · rw [e]; exact List.mem_cons_self
      · rcases List.mem_append.mp e with e | e
        · exact List.mem_cons_of_mem _ e
        · exact absurd (List.mem_singleton.mp e) z
  · by_cases hi : i < qs.length
    · rw [List.getElem?_append_left hi] at e1
      rw [List.getElem?_append_left (by omega)] at e2
      obtain ⟨vs, e, r⟩ := h6 i q' ds' e1 e2
      have m := List.mem_of_getElem? e1
      have n1 : q' ≠ p := fun z => by subst z; exact np m
      have n2 : q' ≠ q := fun z => by subst z; exact nm m
      exact ⟨vs, by rw [upd_ne n1, upd_ne n2]; exact e, r⟩
    · rw [List.getElem?_append_right (by omega)] at e1 e2
      have i0 : i - qs.length = 0 := by
        have := (List.getElem?_eq_some_iff.mp e1).1
        simp at this
        omega
      rw [i0] at e1
      rw [show i - wt.length = 0 by omega] at e2
      simp at e1 e2
      subst e1 e2
      exact ⟨[], by rw [upd_ne ne, upd_same], .nil⟩
theorem NsM.at (n : NsM K B BN G p wt) {i : Int} {kvs : List (D × D)} (h : atI wt i = some kvs) : ∃ (k : Nat) (qs : List Addr) (q : Addr) (xs : List Ent), BN p = some (.lst (qs.map V.ref)) ∧ ixN wt.length i = some k ∧ wt[k]? = some kvs ∧ atI (qs.map V.ref) i = some (.ref q) ∧ BN q = some (DicO K.w q xs) ∧ Paired (KRel K G) xs kvs ∧ q ≠ p ∧ G q = none ∧
    ∀ (xs' : List Ent) (kvs' : List (D × D)), Paired (KRel K G) xs' kvs' → NsM K B (L2.upd BN q (DicO K.w q xs')) G p (wt.set k kvs') := by
  obtain ⟨qs, h1, h2, h3, h4, h5, h6⟩ := n.ex
  unfold atI at h
  cases hk : ixN wt.length i with
  | none => rw [hk] at h; cases h
  | some k =>
    rw [hk] at h
    have h : wt[k]? = some kvs := h
    have hl := (List.getElem?_eq_some_iff.mp h).1
    obtain ⟨q0, hq⟩ : ∃ q0, qs[k]? = some q0 := ⟨_, List.getElem?_eq_getElem (by omega)⟩
    obtain ⟨vs, e, r⟩ := h6 k _ kvs hq h
    have m := List.mem_of_getElem? hq
    have np : p ∉ qs := (List.nodup_cons.mp h1).1
    have nq : q0 ≠ p := fun z => np (z ▸ m)
    refine ⟨k, qs, q0, vs, h4, rfl, h, ?_, e, r, nq, (h3 _ (List.mem_cons_of_mem _ m)).2, fun xs' kvs' rv => ⟨qs, h1, fun a ha => ?_, h3, by rw [upd_ne (Ne.symm nq)]; exact h4, by simp [h5], fun j q' ds' e1 e2 => ?_⟩⟩
    · unfold atI
      rw [List.length_map, h5, hk]
      show (qs.map V.ref)[k]? = _
      rw [List.getElem?_map, hq]
      rfl
    · have ne : a ≠ q0 := fun z => by
        subst z
        exact ha (List.mem_cons_of_mem _ m)
      rw [upd_ne ne]
      exact h2 a ha
    · by_cases hj : k = j
      · subst hj
        rw [List.getElem?_set_self hl] at e2
        rw [hq] at e1
        cases e1
        cases e2
        exact ⟨_, upd_same, rv⟩
      · rw [List.getElem?_set_ne hj] at e2
        obtain ⟨vs', e', r'⟩ := h6 j q' ds' e1 e2
        have ne : q' ≠ q0 := fun z => by
          have nd := (List.nodup_cons.mp h1).2
          obtain ⟨hj1, hj2⟩ := List.getElem?_eq_some_iff.mp e1
          obtain ⟨hk1, hk2⟩ := List.getElem?_eq_some_iff.mp hq
          have := (List.pairwise_iff_getElem.mp nd)
          rcases Nat.lt_trichotomy j k with y | y | y
          · exact this j k hj1 hk1 y (hj2.trans (z.trans hk2.symm))
          · exact hj y.symm
          · exact this k j hk1 hj1 y (hk2.trans (z.symm.trans hj2.symm))
        exact ⟨vs', by rw [upd_ne ne]; exact e', r'⟩
/-- behind a new thing -/
theorem Cn.rebase {o : HO} (c0 : Cn K B G0 G σ H env) (gp : G p = none) (c1 : Cn K (L2.upd B p o) G G' σ' H' env') : Cn K (L2.upd B p o) G0 G' σ' H' env' where
  len := c1.len
  exB := c1.exB
  exG := c1.exG
  ex0 := c0.ex0.trans c1.ex0
  new := fun a h => by
    rcases c1.new a h with z | z
    · have ne : a ≠ p := fun y => by subst y; exact z gp
      rcases c0.new a z with y | y
      · exact .inl y
      · exact .inr (by rw [upd_ne ne]; exact y)
    · exact .inr z
  cel := c1.cel
  sep := c1.sep
end
/-! ### statements beside it -/
inductive DOut3 where
  | nx (w : WtM) (env : DEnv) | rt (d : D) (w : WtM) | bk (w : WtM) (env : DEnv) | ct (w : WtM) (env : DEnv) | no
abbrev DStm3 := WtM → DEnv → DOut3
@[simp] def M.to3 {α : Type} (k : α → DOut3) : M α → DOut3
  | .ok a => k a
  | _ => .no
@[simp] def DOut3.then (u : DStm3) : DOut3 → DOut3
  | .nx w e => u w e
  | .rt d w => .rt d w
  | .bk w e => .bk w e
  | .ct w e => .ct w e
  | .no => .no
@[simp] def sNext3 : DStm3 := fun w e => .nx w e
@[simp] def sCont3 : DStm3 := fun w e => .ct w e
@[simp] def sSeq3 (a b : DStm3) : DStm3 := fun w e => (a w e).then b
@[simp] def sIf3 (t : WtM → DEnv → M Bool) (a b : DStm3) : DStm3 := fun w e => (t w e).to3 fun c => if c = true then a w e else b w e
def dWhile3 (t : WtM → DEnv → M Bool) (body : DStm3) : Nat → DStm3
  | 0, _, _ => .no
  | n + 1, w, e => match t w e with
    | .ok false => .nx w e
    | .ok true => match body w e with
      | .nx w' e' => dWhile3 t body n w' e'
      | .ct w' e' => dWhile3 t body n w' e'
      | .bk w' e' => .nx w' e'
      | .rt d w' => .rt d w'
      | .no => .no
    | _ => .no
def dLoop3 (tg : DTgt) (body : DStm3) : List D → DStm3
  | [], w, e => .nx w e
  | d :: ds, w, e => match tg d e with
    | none => .no
    | some e => match body w e with
      | .nx w' e' => dLoop3 tg body ds w' e'
      | .ct w' e' => dLoop3 tg body ds w' e'
      | .bk w' e' => .nx w' e'
      | .rt d w' => .rt d w'
      | .no => .no
@[simp] def sFor3 (it : DEnv → M (List D)) (tg : DTgt) (body : DStm3) : DStm3 := fun w e => (it e).to3 fun ds => dLoop3 tg body ds w e
open Classical in
/-- a statement that leaves the list alone -/
@[simp] noncomputable def sLiftM (iw : Nat) (g : DStm) : DStm3 := fun w env => match g env with
  | .nx e => if e[iw]? = env[iw]? then .nx w e else .no
  | .rt d => .rt d w
  | .bk e => if e[iw]? = env[iw]? then .bk w e else .no
  | .ct e => if e[iw]? = env[iw]? then .ct w e else .no
  | .ex _ _ => .no
  | .no => .no
@[simp] def sSet3 (i : Nat) (f : WtM → DEnv → M D) : DStm3 := fun w env => (f w env).to3 fun d => .nx w (env.set i (.dat d))
@[simp] def xLen0M : WtM → DEnv → M D := fun w _ => .ok (.int w.length)
@[simp] def xOp3 (h : D → D → Option D) (f g : WtM → DEnv → M D) : WtM → DEnv → M D := fun w env => (f w env).bind fun a => (g w env).bind fun b => .of (h a b)
@[simp] def tE3 (f : WtM → DEnv → M D) : WtM → DEnv → M Bool := fun w env => (f w env).bind asB
def PoS3 (K : KW) (B G0 G : Hp) (iw : Nat) (p : Addr) (E : Ends) : DOut3 → Prop
  | .nx w e => ∀ σ H G' BN, Same G G' → Cn K BN G0 G' σ H e → NsM K B BN G' p w → e[iw]? = some (.exc p) → E.nx σ H
  | .rt d w => ∀ v σ H G' BN e, Same G G' → Cn K BN G0 G' σ H e → NsM K B BN G' p w → Rep K G' v d → E.rt v H
  | .bk w e => ∀ σ H G' BN, Same G G' → Cn K BN G0 G' σ H e → NsM K B BN G' p w → e[iw]? = some (.exc p) → E.bk σ H
  | .ct w e => ∀ σ H G' BN, Same G G' → Cn K BN G0 G' σ H e → NsM K B BN G' p w → e[iw]? = some (.exc p) → E.ct σ H
  | .no => False
theorem PoS3.up {K : KW} {B G0 G G1 : Hp} {iw : Nat} {p : Addr} {E : Ends} {o : DOut3} (s : Same G G1) (h : PoS3 K B G0 G iw p E o) : PoS3 K B G0 G1 iw p E o := by
  cases o with
  | nx w e => exact fun σ H G' BN s' => h σ H G' BN (s.trans s')
  | rt d w => exact fun v σ H G' BN e s' => h v σ H G' BN e (s.trans s')
  | bk w e => exact fun σ H G' BN s' => h σ H G' BN (s.trans s')
  | ct w e => exact fun σ H G' BN s' => h σ H G' BN (s.trans s')
  | no => exact h
def RdS3 (K : KW) (iw : Nat) (ts : TS) (g : DStm3) : Prop :=
  ∀ B BN G0 G H σ env p w E, Cn K BN G0 G σ H env → NsM K B BN G p w → env[iw]? = some (.exc p) → PoS3 K B G0 G iw p E (g w env) → ts E σ H
def RdE3 (K : KW) (mg : Str → Option Value) (W : WX) (iw : Nat) (te : TE) (f : WtM → DEnv → M D) : Prop :=
  ∀ B BN G0 G H σ env p w Q, Cn K BN G0 G σ H env → NsM K B BN G p w → env[iw]? = some (.exc p) → PoE K mg W BN G0 G σ env Q (f w env) → te σ H Q
def RdT3 (K : KW) (mg : Str → Option Value) (W : WX) (iw : Nat) (tt : TT) (f : WtM → DEnv → M Bool) : Prop :=
  ∀ B BN G0 G H σ env p w Q, Cn K BN G0 G σ H env → NsM K B BN G p w → env[iw]? = some (.exc p) → PoT K mg W BN G0 G σ env Q (f w env) → tt σ H Q
structure DS3 (X : Cx) (W : WX) (iw : Nat) (st : Stmt) (g : DStm3) : Prop where
  ex : ∃ ts, PS X st ts ∧ RdS3 (kw X) iw ts g
structure DSs3 (X : Cx) (W : WX) (iw : Nat) (st : List Stmt) (g : DStm3) : Prop where
  ex : ∃ ts, PSs X st ts ∧ RdS3 (kw X) iw ts g
structure DE3 (X : Cx) (W : WX) (iw : Nat) (e : Expr) (f : WtM → DEnv → M D) : Prop where
  ex : ∃ te, PE X e te ∧ RdE3 (kw X) X.mg W iw te f
structure DT3 (X : Cx) (W : WX) (iw : Nat) (e : Expr) (f : WtM → DEnv → M Bool) : Prop where
  ex : ∃ te, PT X e te ∧ RdT3 (kw X) X.mg W iw te f
section
variable {X : Cx} {W : WX} {iw : Nat} {st : Stmt} {rest body : List Stmt} {a b : DStm3} {g : DStm} {e e1 e2 tg iter : Expr} {f : DEnv → M D} {pos p : Pos}
theorem ds3_lift (h : DS X W st g) : DS3 X W iw st (sLiftM iw g) := by
  obtain ⟨ts, a1, a2⟩ := h.ex
  refine ⟨ts, a1, fun B BN G0 G H σ env p w E c n hp po => ?_⟩
  refine a2 BN G0 G H σ env E c ?_
  simp only [sLiftM] at po
  cases o : g env with
  | nx e =>
    rw [o] at po
    simp only at po
    by_cases h : e[iw]? = env[iw]?
    · rw [if_pos h] at po
      exact fun σ' H' G' s c' => po σ' H' G' BN s c' (n.up c s c') (h.trans hp)
    · rw [if_neg h] at po; exact po.elim
  | rt d => rw [o] at po; exact fun v σ' H' G' e s c' r => po v σ' H' G' BN e s c' (n.up c s c') r
  | bk e =>
    rw [o] at po
    simp only at po
    by_cases h : e[iw]? = env[iw]?
    · rw [if_pos h] at po
      exact fun σ' H' G' s c' => po σ' H' G' BN s c' (n.up c s c') (h.trans hp)
    · rw [if_neg h] at po; exact po.elim
  | ct e =>
    rw [o] at po
    simp only at po
    by_cases h : e[iw]? = env[iw]?
    · rw [if_pos h] at po
      exact fun σ' H' G' s c' => po σ' H' G' BN s c' (n.up c s c') (h.trans hp)
    · rw [if_neg h] at po; exact po.elim
  | ex c e => rw [o] at po; exact po.elim
  | no => rw [o] at po; exact po.elim
theorem dss3_nil : DSs3 X W iw [] sNext3 := ⟨_, pss_nil, fun B BN G0 G H σ env p w E c n hp po => po σ H G BN (Same.refl G) c n hp⟩
theorem dss3_cons (h1 : DS3 X W iw st a) (h2 : DSs3 X W iw rest b) : DSs3 X W iw (st :: rest) (sSeq3 a b) := by
  obtain ⟨t, a1, a2⟩ := h1.ex
  obtain ⟨u, b1, b2⟩ := h2.ex
  refine ⟨_, pss_cons a1 b1, fun B BN G0 G H σ env p w E c n hp po => ?_⟩
  refine a2 B BN G0 G H σ env p w _ c n hp ?_
  simp only [sSeq3] at po
  cases o : a w env with
  | nx w' e =>
    rw [o] at po
    intro σ' H' G' BN' s c' n' hp'
    exact b2 B BN' G0 G' H' σ' e p w' E c' n' hp' (po.up s)
  | rt d w' => rw [o] at po; exact po
  | bk w' e => rw [o] at po; exact po
  | ct w' e => rw [o] at po; exact po
  | no => rw [o] at po; exact po
theorem dss3_one (h1 : DS3 X W iw st a) : DSs3 X W iw [st] a := by
  obtain ⟨t, a1, a2⟩ := h1.ex
  exact ⟨_, pss_one a1, a2⟩
theorem ds3_cont : DS3 X W iw (.Continue pos) sCont3 := ⟨_, ps_continue, fun B BN G0 G H σ env p w E c n hp po => po σ H G BN (Same.refl G) c n hp⟩
theorem ds3_if {c : Expr} {t : WtM → DEnv → M Bool} {as bs : List Stmt} (hc : DT3 X W iw c t) (ha : DSs3 X W iw as a) (hb : DSs3 X W iw bs b) : DS3 X W iw (.If c as bs pos) (sIf3 t a b) := by
  obtain ⟨_, c1, c2⟩ := hc.ex
  obtain ⟨_, a1, a2⟩ := ha.ex
  obtain ⟨_, b1, b2⟩ := hb.ex
  refine ⟨_, ps_if c1 a1 b1, fun B BN G0 G H σ env p w E c n hp po => ?_⟩
  refine c2 B BN G0 G H σ env p w _ c n hp ?_
  simp only [sIf3] at po
  cases o : t w env with
  | no => rw [o] at po; exact po
  | ex k => rw [o] at po; exact po.elim
  | ok k =>
    rw [o] at po
    intro H1 G1 s1 c1
    cases k with
    | true => exact iteT (a2 B BN G0 G1 H1 σ env p w E c1 (n.up c s1 c1) hp (PoS3.up s1 po))
    | false => exact iteF (b2 B BN G0 G1 H1 σ env p w E c1 (n.up c s1 c1) hp (PoS3.up s1 po))
theorem ds3_while (m : Nat) {c : Expr} {t : WtM → DEnv → M Bool} (hp : PassesOwn (model X.prog X.w) X.A X.env X.xe) (hc : DT3 X W iw c t) (hb : DSs3 X W iw body a) : DS3 X W iw (.While c body [] pos) (dWhile3 t a m) := by
  obtain ⟨tc, c1, c2⟩ := hc.ex
  obtain ⟨tb, b1, b2⟩ := hb.ex
  refine ⟨_, ps_while hp c1 b1, fun B BN G0 G H σ env p w E c n hq po => ?_⟩
  refine ⟨fun m σ H => ∃ env G BN w, Cn (kw X) BN G0 G σ H env ∧ NsM (kw X) B BN G p w ∧ env[iw]? = some (.exc p) ∧ PoS3 (kw X) B G0 G iw p E (dWhile3 t a m w env), ⟨m, env, G, BN, w, c, n, hq, po⟩, ?_⟩
  rintro m σ1 H1 ⟨env1, G1, BN1, w1, c1, n1, hq1, p1⟩
  cases m with
  | zero => exact (show False from p1).elim
  | succ m =>
    unfold dWhile3 at p1
    refine c2 B BN1 G0 G1 H1 σ1 env1 p w1 _ c1 n1 hq1 ?_
    cases o : t w1 env1 with
    | no => rw [o] at p1; exact p1
    | ex k => rw [o] at p1; exact p1.elim
    | ok k =>
      rw [o] at p1
      intro H2 G2 s2 c2
      have n2 := n1.up c1 s2 c2
      cases k with
      | false => exact iteF (p1 σ1 H2 G2 BN1 s2 c2 n2 hq1)
      | true =>
        refine iteT ⟨fun σ' H' => ∃ env G BN w, Cn (kw X) BN G0 G σ' H' env ∧ NsM (kw X) B BN G p w ∧ env[iw]? = some (.exc p) ∧ PoS3 (kw X) B G0 G iw p E (dWhile3 t a m w env), fun σ' H' x => ⟨m, Nat.lt_succ_self m, x⟩, ?_⟩
        refine b2 B BN1 G0 G2 H2 σ1 env1 p w1 _ c2 n2 hq1 ?_
        have p2 := PoS3.up s2 p1
        simp only at p2
        cases q : a w1 env1 with
        | nx w' e' => rw [q] at p2; exact fun σ5 H5 G5 BN5 s5 c5 n5 h5 => ⟨e', G5, BN5, w', c5, n5, h5, PoS3.up s5 p2⟩
        | ct w' e' => rw [q] at p2; exact fun σ5 H5 G5 BN5 s5 c5 n5 h5 => ⟨e', G5, BN5, w', c5, n5, h5, PoS3.up s5 p2⟩
        | bk w' e' => rw [q] at p2; exact p2
        | rt d w' => rw [q] at p2; exact p2
        | no => rw [q] at p2; exact p2
theorem ds3_for {it : DEnv → M (List D)} {t : DTgt} {is : List Nat} (hp : PassesOwn (model X.prog X.w) X.A X.env X.xe) (hc : X.calm = true) (hi : DI X W tg iter it) (hg : DG X is tg t) (hb : DSs3 X W iw body a) (hw : iw ∉ is := by decide)
    (hs : ∀ x, foldedSetIterable iter X.env x = pure x := by intro _; rfl) : DS3 X W iw (.For tg iter body [] pos) (sFor3 it t a) := by
  obtain ⟨wi, i1, i2⟩ := hi.ex
  obtain ⟨g, g1, g2⟩ := hg.ex
  obtain ⟨tb, b1, b2⟩ := hb.ex
  refine ⟨_, ps_for hp hc i1 g1 b1 hs, fun B BN G0 G H σ env p w E c n hq po => ?_⟩
  refine i2 BN G0 G H σ env _ c ?_
  simp only [sFor3] at po
  cases o : it env with
  | no => rw [o] at po; exact po
  | ex n => rw [o] at po; exact po.elim
  | ok ds =>
    rw [o] at po
    intro J H1 G1 s1 c1 jok
    have po : PoS3 (kw X) B G0 G1 iw p E (dLoop3 t a ds w env) := PoS3.up s1 po
    refine ⟨fun i m σ H => m = ds.length - i ∧ ∃ env G BN w, Same G1 G ∧ Cn (kw X) BN G0 G σ H env ∧ NsM (kw X) B BN G p w ∧ env[iw]? = some (.exc p) ∧ PoS3 (kw X) B G0 G iw p E (dLoop3 t a (ds.drop i) w env), ⟨ds.length, rfl, env, G1, BN, w, Same.refl _, c1, n.up c s1 c1, hq, by rw [List.drop_zero]; exact po⟩, ?_⟩
    rintro i m σ2 H2 ⟨rfl, env2, G2, BN2, w2, s2, c2, n2, hq2, p2⟩
    obtain ⟨j1, j2⟩ := jok BN2 G0 G2 σ2 H2 env2 i s2 c2
    by_cases hi : i < ds.length
    · have hd : ds[i]? = some ds[i] := List.getElem?_eq_getElem hi
      obtain ⟨go, yl⟩ := j1 _ hd
      rw [List.drop_eq_getElem_cons hi] at p2
      unfold dLoop3 at p2
      refine .inr ⟨go, fun σ' H' => ∃ env G BN w, Same G1 G ∧ Cn (kw X) BN G0 G σ' H' env ∧ NsM (kw X) B BN G p w ∧ env[iw]? = some (.exc p) ∧ PoS3 (kw X) B G0 G iw p E (dLoop3 t a (ds.drop (i + 1)) w env), fun σ' H' ⟨env', G', BN', w', x1, x2, x3, x4, x5⟩ => ⟨ds.length - (i + 1), by omega, rfl, env', G', BN', w', x1, x2, x3, x4, x5⟩, fun x H' y => ?_⟩
      obtain ⟨G3, s3, c3, r3⟩ := yl x H' y
      have n3 := n2.up c2 s3 c3
      cases k : t ds[i] env2 with
      | none => simp [k, PoS3] at p2
      | some e1 =>
        rw [k] at p2
        refine g2 c3 r3 k fun σ4 H4 G4 s4 c4 bt => ?_
        have n4 := n3.up c3 s4 c4
        have hq4 : e1[iw]? = some (.exc p) := (bt.2 iw hw).1.trans hq2
        refine b2 B BN2 G0 G4 H4 σ4 e1 p w2 _ c4 n4 hq4 ?_
        have p2 := PoS3.up (s3.trans s4) p2
        simp only at p2
        cases q : a w2 e1 with
        | nx w' e' =>
          rw [q] at p2
          exact fun σ5 H5 G5 BN5 s5 c5 n5 h5 => ⟨e', G5, BN5, w', ((s2.trans s3).trans s4).trans s5, c5, n5, h5, PoS3.up s5 p2⟩
        | ct w' e' =>
          rw [q] at p2
          exact fun σ5 H5 G5 BN5 s5 c5 n5 h5 => ⟨e', G5, BN5, w', ((s2.trans s3).trans s4).trans s5, c5, n5, h5, PoS3.up s5 p2⟩
        | bk w' e' => rw [q] at p2; exact p2
        | rt d w' => rw [q] at p2; exact p2
        | no => rw [q] at p2; exact p2
    · refine .inl ⟨j2 (by omega), ?_⟩
      rw [List.drop_of_length_le (by omega)] at p2
      exact p2 σ2 H2 G2 BN2 (Same.refl _) c2 n2 hq2
/-! ### expressions beside it -/
theorem de3_lift (h : DE X W e f) : DE3 X W iw e (fun _ => f) := by
  obtain ⟨te, a1, a2⟩ := h.ex
  exact ⟨te, a1, fun B BN G0 G H σ env p w Q c n hp po => a2 BN G0 G H σ env Q c po⟩
theorem dt3_lift {t : DEnv → M Bool} (h : DT X W e t) : DT3 X W iw e (fun _ => t) := by
  obtain ⟨te, a1, a2⟩ := h.ex
  exact ⟨te, a1, fun B BN G0 G H σ env p w Q c n hp po => a2 BN G0 G H σ env Q c po⟩
theorem RdE3.op {K : KW} {mg : Str → Option Value} {ta tb : TE} {f g : WtM → DEnv → M D} {r : R2} {h : D → D → Option D} (ha : RdE3 K mg W iw ta f) (hb : RdE3 K mg W iw tb g) (hr : OpD K r h) : RdE3 K mg W iw (tOp r ta tb) (xOp3 h f g) := by
  intro B BN G0 G H σ env p w Q c n hp po
  refine ha B BN G0 G H σ env p w _ c n hp ?_
  simp only [xOp3] at po
  cases e : f w env with
  | no => rw [e] at po; exact po
  | ex k => rw [e] at po; exact po
  | ok x =>
    rw [e] at po
    intro v1 H1 G1 s1 c1 r1
    refine hb B BN G0 G1 H1 σ env p w _ c1 (n.up c s1 c1) hp ?_
    simp only [M.bind] at po
    cases e2 : g w env with
    | no => rw [e2] at po; exact po
    | ex k => rw [e2] at po; exact po
    | ok y =>
      rw [e2] at po
      intro v2 H2 G2 s2 c2 r2
      simp only [M.bind] at po
      cases e3 : h x y with
      | none => rw [e3] at po; exact po.elim
      | some d =>
        rw [e3] at po
        exact hr _ _ _ _ _ _ _ _ _ _ _ _ c2 (r1.up s2) r2 e3 fun v H' G' s c' r' => po v H' G' ((s1.trans s2).trans s) c' r'
theorem RdE3.test {K : KW} {mg : Str → Option Value} {te : TE} {f : WtM → DEnv → M D} (h : RdE3 K mg W iw te f) : RdT3 K mg W iw (tTest te) (tE3 f) := by
  intro B BN G0 G H σ env p w Q c n hp po
  refine h B BN G0 G H σ env p w _ c n hp ?_
  simp only [tE3] at po
  cases e : f w env with
  | no => rw [e] at po; exact po
  | ex k => rw [e] at po; exact po
  | ok d =>
    rw [e] at po
    intro v H1 G1 s1 c1 r1
    cases d with
    | bl b =>
      cases r1
      exact ⟨b, rfl, po H1 G1 s1 c1⟩
    | non => exact po.elim
    | int _ => exact po.elim
    | str _ => exact po.elim
    | lst _ => exact po.elim
    | tup _ => exact po.elim
    | scr _ => exact po.elim
theorem dt3_cmp {op : CmpOp} {h : D → D → Option D} {f g : WtM → DEnv → M D} (ho : OpX X (compareOp op) h) (ha : DE3 X W iw e1 f) (hb : DE3 X W iw e2 g) (hm : behindInMarks op e2 = false) :
    DT3 X W iw (.Compare e1 [op] [e2] pos) (tE3 (xOp3 h f g)) := by
  obtain ⟨r, o1, o2⟩ := ho.ex
  obtain ⟨ta, a1, a2⟩ := ha.ex
  obtain ⟨tb, b1, b2⟩ := hb.ex
  exact ⟨_, pt_cmpR o1 a1 b1 hm, (RdE3.op a2 b2 o2).test⟩
/-- len(x), x the list of lists -/
theorem de3_len0 {x : Str} {px : Pos} (hm : X.mg "len" = none) (hg : Gl X "len" := by rfl) (hN : X.N[iw]? = some x := by rfl) (hv : Vis X.env.scope x := by first | exact Or.inl rfl | exact Or.inr (Or.inl rfl) | exact Or.inr (Or.inr rfl)) (hd : (x == ("__debug__" : Str)) = false := by decide)
    (hcd : (x == ("__classdict__" : Str)) = false := by decide) (hs : starEach [.Name x px] X.env = (false, eval (.Name x px) X.env) :: starEach [] X.env := by rfl) (hpl : (backTo pos (starEach [] X.env)).any (·.1) = false := by rfl) :
    DE3 X W iw (.Call (.Name "len" p) [.Name x px] [] pos) xLen0M := by
  refine ⟨_, pe_callB call_len_seq hg hm PySem.boot_len (pa_cons (pe_var hN hv hd hcd) pa_nil hs) (by decide) (by decide) hs hpl, fun B BN G0 G H σ env p w Q c n hp po => ?_⟩
  obtain ⟨qs, h1, h2, h3, h4, h5, h6⟩ := n.ex
  refine ⟨.ref p, slot_exc c hp, p, _, rfl, .inl (.inl (.inl (c.exB _ _ h4))), ?_⟩
  have := po (.int ((qs.map V.ref).length : Nat)) H G (Same.refl G) c (by
    rw [List.length_map, h5]
    exact .int _)
  exact this
end
end DL

namespace DL
open PySem PySem.Spec PyProof.Rows L2
/-! ### changes of the list of dicts -/
def rowAtM (w : WtM) : D → Option (List (D × D))
  | .int i => atI w i
  | _ => none
@[simp] noncomputable def sListM (i : Nat) (f : DEnv → M D) : DStm3 := fun w env => (f env).to3 fun a => (M.of (rowAtM w a)).to3 fun kvs => .nx w (env.set i (.own (kvs.map (·.1))))
@[simp] def sPushM : DStm3 := fun w env => if w.length < sizeLine then .nx (w ++ [[]]) env else .no
noncomputable def putRow (w : WtM) (a d v : D) : Option WtM := match a with
  | .int i => (ixN w.length i).bind fun k => (w[k]?).bind fun l => (putX l d v).map fun l' => w.set k l'
  | _ => none
@[simp] noncomputable def sPutAtM (f g h : DEnv → M D) : DStm3 := fun w env => (h env).to3 fun v => (f env).to3 fun a => (g env).to3 fun d => (M.of (putRow w a d v)).to3 fun w' => .nx w' env
section
variable {X : Cx} {W : WX} {iw : Nat} {e e1 e2 value : Expr} {f g h : DEnv → M D} {pos p : Pos}
/-- y = list(x[e]) -/
theorem ds3_list (i : Nat) {x y : Str} {px ps pos' : Pos} (hN' : X.N.Nodup) (hc : X.calm = true) (h : DE X W e f) (hm : X.mg "list" = none) (hw : iw ≠ i := by decide) (hsl : PlainIx e := by intro _ _; rfl) (hg : Gl X "list" := by rfl) (hN : X.N[iw]? = some x := by rfl) (hv : Vis X.env.scope x := by first | exact Or.inl rfl | exact Or.inr (Or.inl rfl) | exact Or.inr (Or.inr rfl)) (hd : (x == ("__debug__" : Str)) = false := by decide)
    (hcd : (x == ("__classdict__" : Str)) = false := by decide) (hs : starEach [.Subscript (.Name x px) e ps] X.env = (false, eval (.Subscript (.Name x px) e ps) X.env) :: starEach [] X.env := by rfl) (hpl : (backTo p (starEach [] X.env)).any (·.1) = false := by rfl)
    (hi : X.N[i]? = some y := by rfl) (hx : Loc X.env.scope y := by first | exact .inl rfl | exact .inr rfl) (hf : X.fn y = true ∨ X.env.scope.names.lookup y = some .local := by first | exact .inl rfl | exact .inr rfl) {pl : Pos}
    (hs3 : swapsWith (.Call (.Name "list" pl) [.Subscript (.Name x px) e ps] [] p) (some (.Name y pos')) pos.line X.env = pure false := by rfl) :
    DS3 X W iw (.Assign [.Name y pos'] (.Call (.Name "list" pl) [.Subscript (.Name x px) e ps] [] p) pos) (sListM i f) := by
  obtain ⟨te, a1, a2⟩ := h.ex
  refine ⟨_, ps_set (i := i) hN' hi hx (pe_callTy (DX.call_xlist hc) hg hm boot_list (pa_cons (pe_ix ix_list (pe_var hN hv hd hcd) a1 hsl) pa_nil hs) (by decide) (by decide) hs hpl) hs3 hf, fun B BN G0 G H σ env p w E c n hp po => ?_⟩
  refine ⟨.ref p, slot_exc c hp, ?_⟩
  refine a2 BN G0 G H σ env _ c ?_
  simp only [sListM] at po
  cases o : f env with
  | no => rw [o] at po; exact po
  | ex k => rw [o] at po; exact po.elim
  | ok d =>
    rw [o] at po
    simp only [M.to3] at po
    intro v H1 G1 s1 c1 r1
    have n1 := n.up c s1 c1
    cases k : rowAtM w d with
    | none => rw [k] at po; exact po.elim
    | some kvs =>
      rw [k] at po
      simp only [M.of, M.to3] at po
      cases d with
      | int j =>
        cases r1
        obtain ⟨m, qs, q, xs, z1, z2, z3, z4, z5, z6, _⟩ := n1.at k
        refine ⟨p, qs.map V.ref, j, .ref q, rfl, rfl, .inl (.inl (c1.exB _ _ z1)), z4, q, xs, rfl, .inl (c1.exB _ _ z5), DX.entsIn_of c1.exG z6, fun l hl => ?_⟩
        have c2 := c1.setOwn i (t := .own (kvs.map (·.1))) (o := .lst (xs.map fun e => DX.vOf e.2.1)) hl ⟨l, _, rfl, c1.exG.free hl, c1.exB.free hl, upd_same, reps_keys z6⟩
        exact po _ _ G1 BN s1 c2 n1 (by rw [List.getElem?_set_ne (Ne.symm hw)]; exact hp)
      | non => cases k
      | bl _ => cases k
      | str _ => cases k
      | lst _ => cases k
      | tup _ => cases k
      | scr _ => cases k
/-- x.append({}) -/
theorem ds3_push {x : Str} {px apos cpos lp : Pos} (hN : X.N[iw]? = some x := by rfl) (hv : Vis X.env.scope x := by first | exact Or.inl rfl | exact Or.inr (Or.inl rfl) | exact Or.inr (Or.inr rfl)) (hd : (x == ("__debug__" : Str)) = false := by decide)
    (hcd : (x == ("__classdict__" : Str)) = false := by decide) (hbase : attributeBase (.Name x px) "append" X.env (eval (.Name x px) X.env) = eval (.Name x px) X.env := by rfl)
    (hfew : ((backTo cpos (starEach [.Dict [] [] lp] X.env)).all (fun x => !x.1) && (backToKw cpos (keywordEach [] X.env)).all (fun x => x.1.isSome)
      && decide (([.Dict [] [] lp] : List Expr).length + ([] : List Keyword).length + (if ([] : List Keyword).isEmpty then 0 else 1) < 30)) = true := by rfl)
    (hline : (apos.endLine == cpos.line) = true := by rfl) (hse : starEach [.Dict [] [] lp] X.env = (false, eval (.Dict [] [] lp) X.env) :: starEach [] X.env := by rfl) (hplain : (backTo cpos (starEach [] X.env)).any (·.1) = false := by rfl)
    (hs : swapsWith (.Call (.Attribute (.Name x px) "append" apos) [.Dict [] [] lp] [] cpos) none pos.line X.env = pure false := by rfl) :
    DS3 X W iw (.Expr (.Call (.Attribute (.Name x px) "append" apos) [.Dict [] [] lp] [] cpos) pos) sPushM := by
  refine ⟨_, ps_expr (pe_bm PySem.F.plainAttrs_list PySem.F.slot_list_append PySem.F.type_list_append mt_append (pe_var hN hv hd hcd) (pa_cons DX.pe_xnew pa_nil hse) hbase hfew hline hse hplain) hs, fun B BN G0 G H σ env p w E c n hp po => ?_⟩
  simp only [sPushM] at po
  obtain ⟨qs0, h1, h2, h3, h4, h5, h6⟩ := n.ex
  refine ⟨.ref p, slot_exc c hp, .inl ⟨rfl, _, .inl (.inl (c.exB _ _ h4))⟩, fun q hq => ?_⟩
  obtain ⟨qs, k1, k2, k3, k4⟩ := n.push c hq
  by_cases hl : w.length < sizeLine
  · rw [if_pos hl] at po
    have hpq : L2.upd H q (DicO X.w q []) p = some (.lst (qs.map V.ref)) := by rw [upd_ne (Ne.symm k3)]; exact c.exB _ _ k1
    refine ⟨p, qs.map V.ref, .ref q, rfl, rfl, hpq, by rw [List.length_map, k2]; exact hl, ?_⟩
    have c1 : Cn (kw X) (L2.upd BN q (DicO X.w q [])) G0 G σ (L2.upd H q (DicO X.w q [])) env := c.poke2 (c.exG.free hq) (.inr hq)
    have gp : G p = none := (h3 p List.mem_cons_self).2
    have c2 := c1.poke2 (q := p) (o := .lst (qs.map V.ref ++ [.ref q])) gp (.inl (by rw [upd_ne (Ne.symm k3), k1]; intro z; cases z))
    exact po σ _ G _ (Same.refl G) c2 k4 hp
  · rw [if_neg hl] at po
    exact po.elim
/-- x[e][k] = v -/
theorem ds3_putAt {x : Str} {px ps pos' : Pos} (hu : X.A.units + 64 < cLine) (he : DE X W e f) (h2 : DE X W e2 g) (hv2 : DE X W value h) (hsl : PlainIx e := by intro _ _; rfl) (hs : swapsWith value (some (.Subscript (.Subscript (.Name x px) e ps) e2 pos')) pos.line X.env = pure false := by rfl) (hN : X.N[iw]? = some x := by rfl) (hv : Vis X.env.scope x := by first | exact Or.inl rfl | exact Or.inr (Or.inl rfl) | exact Or.inr (Or.inr rfl)) (hd : (x == ("__debug__" : Str)) = false := by decide)
    (hcd : (x == ("__classdict__" : Str)) = false := by decide) : DS3 X W iw (.Assign [.Subscript (.Subscript (.Name x px) e ps) e2 pos'] value pos) (sPutAtM f g h) := by
  obtain ⟨te, a1, a2⟩ := he.ex
  obtain ⟨tk, k1, k2⟩ := h2.ex
  obtain ⟨tv, b1, b2⟩ := hv2.ex
  refine ⟨_, DX.ps_xput hu (pe_ix ix_list (pe_var hN hv hd hcd) a1 hsl) k1 b1 hs, fun B BN G0 G H σ env p w E c n hp po => ?_⟩
  refine b2 BN G0 G H σ env _ c ?_
  simp only [sPutAtM] at po
  cases o : h env with
  | no => rw [o] at po; exact po
  | ex k => rw [o] at po; exact po.elim
  | ok vd =>
    rw [o] at po
    simp only [M.to3] at po
    intro v1 H1 G1 s1 c1 r1
    have n1 := n.up c s1 c1
    refine ⟨.ref p, slot_exc c1 hp, ?_⟩
    refine a2 BN G0 G1 H1 σ env _ c1 ?_
    cases o2 : f env with
    | no => rw [o2] at po; exact po
    | ex k => rw [o2] at po; exact po.elim
    | ok ad =>
      rw [o2] at po
      simp only [M.to3] at po
      intro v2 H2 G2 s2 c2 r2
      have n2 := n1.up c1 s2 c2
      cases o3 : g env with
      | no => rw [o3] at po; exact po.elim
      | ex k => rw [o3] at po; exact po.elim
      | ok kd =>
        rw [o3] at po
        simp only [M.to3] at po
        cases k : putRow w ad kd vd with
        | none => rw [k] at po; exact po.elim
        | some w' =>
          rw [k] at po
          simp only [M.of, M.to3] at po
          unfold putRow at k
          cases ad with
          | int j =>
            cases r2
            simp only [Option.bind_eq_some_iff, Option.map_eq_some_iff] at k
            obtain ⟨m, hm, l, hl, l', hp', rfl⟩ := k
            have at1 : atI w j = some l := by unfold atI; rw [hm]; exact hl
            obtain ⟨m', qs, q, xs, z1, z2, z3, z4, z5, z6, z7, z8, _⟩ := n2.at at1
            refine ⟨p, qs.map V.ref, j, .ref q, rfl, rfl, .inl (.inl (c2.exB _ _ z1)), z4, ?_⟩
            refine k2 BN G0 G2 H2 σ env _ c2 ?_
            rw [o3]
            intro v3 H3 G3 s3 c3 r3
            have n3 := n2.up c2 s3 c3
            obtain ⟨m2, qs2, q2, xs2, y1, y2, y3, y4, y5, y6, y7, y8, y9⟩ := n3.at at1
            rw [hm] at y2
            cases y2
            have eqs : qs2 = qs := by
              rw [z1] at y1
              injection y1 with y1
              injection y1 with y1
              exact ((List.map_inj_right (fun a b h => by cases h; rfl)).mp y1).symm
            subst eqs
            rw [z4] at y4
            cases y4
            unfold putX at hp'
            cases hk : keyOk kd with
            | none => rw [hk] at hp'; cases hp'
            | some key =>
              rw [hk] at hp'
              simp only [Option.bind_some] at hp'
              split at hp'
              · rename_i hlt
                cases hp'
                refine ⟨q, xs2, key, rfl, c3.exB _ _ y5, DX.keyIn_of c3.exG hk r3, DX.entsIn_of c3.exG y6, by rw [paired_len y6]; exact hlt, fun iv r hiv hr => ?_⟩
                have pr := put_rel hk y6 (iv := iv) (r := r) ⟨v3, hiv, r3⟩ ⟨v1, hr, (r1.up s2).up s3⟩
                have c4 := c3.poke2 (q := q) (o := DicO X.w q (DX.putD xs2 key iv r)) y8 (.inl (by rw [y5]; intro z; cases z))
                exact po σ _ G3 _ ((s1.trans s2).trans s3) c4 (y9 _ _ pr) hp
              · cases hp'
          | non => cases k
          | bl _ => cases k
          | str _ => cases k
          | lst _ => cases k
          | tup _ => cases k
          | scr _ => cases k
end
/-! ### y = x.pop() -/
def popL (xs : List D) : Option (List D × D) := match xs.getLast? with
  | some d => some (xs.dropLast, d)
  | none => none
@[simp] def sPopL (i j : Nat) : DStm := fun env => (celO env j).to env fun xs => (M.of (popL xs)).to env fun y => .nx ((env.set j (.own y.1)).set i (.dat y.2))
section
variable {X : Cx} {W : WX} {pos : Pos}
theorem Reps.dropLast {K : KW} {G : Hp} {vs : List V} {ds : List D} (r : Reps K G vs ds) : Reps K G vs.dropLast ds.dropLast := by
  rw [List.dropLast_eq_take, List.dropLast_eq_take, r.length]
  exact r.take _
theorem ds_popL (i j : Nat) {x y : Str} {px apos cpos pos' : Pos} (hN' : X.N.Nodup) (hij : j ≠ i := by decide) (hN : X.N[j]? = some x := by rfl) (hv : Vis X.env.scope x := by first | exact Or.inl rfl | exact Or.inr (Or.inl rfl) | exact Or.inr (Or.inr rfl)) (hd : (x == ("__debug__" : Str)) = false := by decide)
    (hcd : (x == ("__classdict__" : Str)) = false := by decide) (hbase : attributeBase (.Name x px) "pop" X.env (eval (.Name x px) X.env) = eval (.Name x px) X.env := by rfl) (hline : (apos.endLine == cpos.line) = true := by rfl)
    (hi : X.N[i]? = some y := by rfl) (hx : Loc X.env.scope y := by first | exact .inl rfl | exact .inr rfl) (hs : swapsWith (.Call (.Attribute (.Name x px) "pop" apos) [] [] cpos) (some (.Name y pos')) pos.line X.env = pure false := by rfl) (hf : X.fn y = true ∨ X.env.scope.names.lookup y = some .local := by first | exact .inl rfl | exact .inr rfl) :
    DS X W (.Assign [.Name y pos'] (.Call (.Attribute (.Name x px) "pop" apos) [] [] cpos) pos) (sPopL i j) := by
  refine ⟨_, ps_set (i := i) hN' hi hx (pe_bm0 PySem.F.plainAttrs_list PySem.F.slot_list_pop PySem.F.type_list_pop mt_pop (pe_var hN hv hd hcd) hbase hline) hs hf, fun B G0 G H σ env E c po => ?_⟩
  simp only [sPopL] at po
  cases o : celO env j with
  | no => rw [o] at po; exact po.elim
  | ex n => exact (celO_no o).elim
  | ok xs =>
    rw [o] at po
    simp only [M.to] at po
    have hj := celO_inv o
    obtain ⟨q, e1, p, vs, e2, gp, bp, hp, r⟩ := c.cel j _ hj
    subst e2
    refine ⟨.ref p, e1, .inl ⟨rfl, _, .inl (.inl hp)⟩, ?_⟩
    cases k : popL xs with
    | none => rw [k] at po; exact po.elim
    | some yd =>
      rw [k] at po
      simp only [M.of, M.to] at po
      unfold popL at k
      cases g : xs.getLast? with
      | none => rw [g] at k; cases k
      | some d =>
        rw [g] at k
        cases k
        rw [List.getLast?_eq_getElem?] at g
        obtain ⟨v, hv, rv⟩ := r.get g
        refine ⟨p, vs, v, rfl, rfl, hp, by rw [r.length]; exact hv, ?_⟩
        have c1 := c.updO (o := .lst vs.dropLast) (t := .own xs.dropLast) hj trivial e1 ⟨p, _, rfl, gp, bp, upd_same, Reps.dropLast r⟩ trivial
        exact po _ _ G (Same.refl G) (c1.set i rv)
end
/-! ### x = [{k: v}] ahead of the rest -/
open Classical in
noncomputable def enterM (k : Addr → DOut3) : DOut := if h : ∃ d, ∀ p, ∃ w, k p = .rt d w then .rt h.choose else .no
theorem enterM_eq {k : Addr → DOut3} {d : D} (h : ∀ p, ∃ w, k p = .rt d w) : enterM k = .rt d := by
  have hex : ∃ d, ∀ p, ∃ w, k p = .rt d w := ⟨d, h⟩
  unfold enterM
  rw [dif_pos hex]
  obtain ⟨e1, h1⟩ := hex.choose_spec 0
  obtain ⟨e2, h2⟩ := h 0
  rw [h1] at h2
  injection h2 with h3
  rw [h3]
theorem enterM_inv {k : Addr → DOut3} : enterM k = .no ∨ ∃ d, enterM k = .rt d ∧ ∀ p, ∃ w, k p = .rt d w := by
  unfold enterM
  split
  · rename_i h
    exact .inr ⟨_, rfl, h.choose_spec⟩
  · exact .inl rfl
noncomputable def sEnterM (iw : Nat) (f g : DEnv → M D) (b : DStm3) : DStm := fun env => if iw < env.length then (f env).to env fun d => (g env).to env fun z => (M.of (newX d z)).to env fun kvs => enterM fun p => b [kvs] (env.set iw (.exc p)) else .no
section
variable {X : Cx} {W : WX} {iw : Nat} {k v : Expr} {f g : DEnv → M D} {b : DStm3} {pos p : Pos}
theorem dss_enterM {x : Str} {pos' lp : Pos} {rest : List Stmt} (hu : X.A.units + 64 < cLine) (hN : X.N.Nodup) (h : DE X W k f) (h2 : DE X W v g) (hb : DSs3 X W iw rest b) (hi : X.N[iw]? = some x := by rfl) (hx : Loc X.env.scope x := by first | exact .inl rfl | exact .inr rfl) (hs : swapsWith (.List [.Dict [some k] [v] p] lp) (some (.Name x pos')) pos.line X.env = pure false := by rfl) (hf : X.fn x = true ∨ X.env.scope.names.lookup x = some .local := by first | exact .inl rfl | exact .inr rfl)
    (hst : starEach [.Dict [some k] [v] p] X.env = (false, eval (.Dict [some k] [v] p) X.env) :: starEach [] X.env := by rfl)
    (hsh : (evalEachOpt [some k] X.env).zip ((evalEach [v] X.env).map fun v => do let x ← v; standAt p; pure x) = (pairTrees [some k] [v] X.env p).map fun p => (some p.1, p.2) := by rfl) :
    DSs X W (.Assign [.Name x pos'] (.List [.Dict [some k] [v] p] lp) pos :: rest) (sEnterM iw f g b) := by
  obtain ⟨te, a1, a2⟩ := h.ex
  obtain ⟨tv, b1, b2⟩ := h2.ex
  obtain ⟨u, d1, d2⟩ := hb.ex
  refine ⟨_, pss_cons (ps_set (i := iw) hN hi hx (pe_lst (pa_cons (DX.pe_xdisp1 hu a1 b1 hsh) pa_nil hst)) hs hf) d1, fun B G0 G H σ env E c po => ?_⟩
  intro q hq
  have bq := c.exB.free hq
  have gq := c.exG.free hq
  have ap := c.apart hq
  have c1 : Cn (kw X) (upd B q (DicO X.w q [])) G G σ (upd H q (DicO X.w q [])) env := (c.poke gq bq ap).under upd_same gq ap
  have noG : ∀ {G4 σ4 H4 e4}, Cn (kw X) (upd B q (DicO X.w q [])) G G4 σ4 H4 e4 → G4 q = none := fun {G4 σ4 H4 e4} c4 => by
    cases z : G4 q with
    | none => rfl
    | some w =>
      rcases c4.new q (by rw [z]; intro k; cases k) with k | k
      · exact absurd gq k
      · rw [upd_same] at k; cases k
  refine a2 _ G G _ σ env _ c1 ?_
  unfold sEnterM at po
  by_cases hle : iw < env.length
  case neg => rw [if_neg hle] at po; exact po.elim
  rw [if_pos hle] at po
  cases o : f env with
  | no => rw [o] at po; exact po
  | ex n =>
    rw [o] at po
    intro cls H' G' hm c'
    exact po cls σ H' G' hm (c.over bq c')
  | ok d =>
    rw [o] at po
    simp only [M.to] at po
    intro v1 H1 G1 s1 c2 r1
    refine b2 _ G G1 H1 σ env _ c2 ?_
    cases o2 : g env with
    | no => rw [o2] at po; exact po
    | ex n =>
      rw [o2] at po
      intro cls H' G' hm c'
      exact po cls σ H' G' hm (c.over bq c')
    | ok z =>
      rw [o2] at po
      simp only [M.to] at po
      intro v2 H2 G2 s2 c3 r2
      cases d with
      | tup ys =>
        simp only [newX] at po
        cases hk : keyOk (.tup ys) with
        | none => rw [hk] at po; exact po.elim
        | some key =>
          simp only [hk, Option.map_some, M.of, M.to] at po
          have hp2 : H2 q = some (DicO X.w q []) := c3.exB _ _ upd_same
          have r1' := r1.up s2
          cases r1' with
          | @tup ad vs _ g1 g2 =>
            refine ⟨hp2, ad, key, rfl, DX.keyIn_of c3.exG hk (.tup g1 g2), fun r hr => ?_⟩
            have g4 := noG c3
            have c4 : Cn (kw X) (upd (upd B q (DicO X.w q [])) q (DicO X.w q [(key, .ref ad, r)])) G G2 σ (upd H2 q (DicO X.w q [(key, .ref ad, r)])) env := c3.poke2 g4 (.inl (by rw [upd_same]; intro z; cases z))
            have eu : upd (upd B q (DicO X.w q [])) q (DicO X.w q [(key, .ref ad, r)]) = upd B q (DicO X.w q [(key, .ref ad, r)]) := by
              funext a
              by_cases y : a = q
              · subst y; rw [upd_same, upd_same]
              · rw [upd_ne y, upd_ne y, upd_ne y]
            rw [eu] at c4
            have c5 := c.rebase gq c4
            refine ⟨by rw [sizeLine_eq]; show 1 ≤ _; decide, fun pp hpp => ?_⟩
            rcases enterM_inv (k := fun p => b [[(.tup ys, z)]] (env.set iw (.exc p))) with y | ⟨dd, y, hd⟩
            · rw [y] at po; exact po.elim
            · rw [y] at po
              have ne : pp ≠ q := fun y => by rw [y, upd_same] at hpp; cases hpp
              have hpp' := hpp
              rw [upd_ne ne] at hpp'
              have c6 := c5.poke2 (q := pp) (o := .lst [.ref q]) (c3.exG.free hpp') (.inr hpp)
              have n1 : NsM (kw X) B (L2.upd (L2.upd B q (DicO X.w q [(key, .ref ad, r)])) pp (.lst [.ref q])) G2 pp [[(.tup ys, z)]] :=
                NsM.one bq ((same_upd bq).free (c3.exB.free hpp')) g4 (c3.exG.free hpp') ne (.cons ⟨hk, ⟨.ref ad, rfl, .tup g1 g2⟩, v2, hr, r2⟩ .nil)
              have c7 := c6.setExc iw pp
              obtain ⟨ww, hw⟩ := hd pp
              refine d2 B _ G0 G2 _ _ _ pp [[(.tup ys, z)]] E c7 n1 (by rw [List.getElem?_set_self hle]) ?_
              rw [hw]
              intro vv σ' H' G' BN' e' s' c' n' r'
              exact po vv σ' H' G' e' ((s1.trans s2).trans s') (c'.lower n'.base) r'
      | non => exact po.elim
      | bl _ => exact po.elim
      | int _ => exact po.elim
      | str _ => exact po.elim
      | lst _ => exact po.elim
      | scr _ => exact po.elim
end
end DL

namespace DL
open PySem PySem.Spec PyProof.Rows L2
/-! ### two lists that a call gives, looked at, and then changed and left -/
theorem Cn.setU {K : KW} {B G0 G H : Hp} {σ : L2.St} {env : DEnv} (c : Cn K B G0 G σ H env) (i : Nat) (v : V) : Cn K B G0 G (σ.set i (some v)) H (env.set i .un) where
  len := by simp [c.len]
  exB := c.exB
  exG := c.exG
  ex0 := c.ex0
  new := c.new
  cel := fun j s e => by
    by_cases h : i = j
    · subst h
      have hi : i < env.length := by
        have := (List.getElem?_eq_some_iff.mp e).1
        simpa using this
      rw [List.getElem?_set_self hi] at e
      cases e
      exact ⟨some v, by rw [List.getElem?_set_self (by rw [c.len]; exact hi)], trivial⟩
    · rw [List.getElem?_set_ne h] at e
      obtain ⟨o, e1, q⟩ := c.cel j s e
      exact ⟨o, by rw [List.getElem?_set_ne h]; exact e1, q⟩
  sep := fun j k s t p ne e1 e2 o1 o2 q => by
    have hj : i ≠ j := fun z => by
      subst z
      have hi : i < env.length := by
        have := (List.getElem?_eq_some_iff.mp e1).1
        simpa using this
      rw [List.getElem?_set_self hi] at e1
      cases e1
      exact o1
    have hk : i ≠ k := fun z => by
      subst z
      have hi : i < env.length := by
        have := (List.getElem?_eq_some_iff.mp e2).1
        simpa using this
      rw [List.getElem?_set_self hi] at e2
      cases e2
      exact o2
    rw [List.getElem?_set_ne hj] at e1 q
    rw [List.getElem?_set_ne hk] at e2 ⊢
    exact c.sep j k s t p ne e1 e2 o1 o2 q
def flatR : M D → DOut
  | .ok r => if flatD r = true then .rt r else .no
  | _ => .no
def mB : M Bool → DOut → DOut → DOut
  | .ok true, a, _ => a
  | .ok false, _, b => b
  | _, _, _ => .no
def twoL (d : D) (b : DOut) : DOut := match d with
  | .tup [.lst xs, .lst _] => if xs.length < sizeLine then b else .no
  | _ => .no
noncomputable def sLose (i n : Nat) (g : List D → M D) (ga : DEnv → M (List D)) (t1 : DEnv → M Bool) (f1 : DEnv → M D) (t2 : DEnv → M Bool) (f2 : DEnv → M D) (rest : DStm) : DStm := fun env => if i < env.length then match ga env with
  | .ok ds => if ds.length = n ∧ noLsts ds = true then match g ds with
    | .ok d => mB (t1 ((still env).set i (.dat d))) (flatR (f1 ((still env).set i (.dat d)))) (mB (t2 ((still env).set i (.dat d))) (flatR (f2 ((still env).set i (.dat d)))) (twoL d (rest (env.set i .un))))
    | _ => .no
    else .no
  | _ => .no
  else .no
section
variable {X : Cx} {W : WX} {e c1 c2 r1 r2 : Expr} {es : List Expr} {rest : List Stmt} {pos p pos2 pos3 pos4 pr1 pr2 : Pos}
theorem dss_lose {k j n : Nat} (i : Nat) {x y : Str} {pos' px1 px2 pi1 pi2 ps1 ps2 pa1 pa2 pc1 pc2 pe1 pe2 pn : Pos} {kn : Nat} {g : List D → M D} {ga : DEnv → M (List D)} {t1 t2 : DEnv → M Bool} {f1 f2 : DEnv → M D} {u : DStm} (F : DFn X.prog X.w X.K X.mg X.base k y n g) (hr : Room j X.A) (hj : k ≤ j) (tk : Takes X W) (ha : DA X W (e :: es) ga) (hN : X.N.Nodup)
    (ht1 : DT X W c1 t1) (hf1 : DE X W r1 f1) (ht2 : DT X W c2 t2) (hf2 : DE X W r2 f2) (hu : DSs X W rest u) (h0 : DE X W (.Constant (.int 0) kn pn) (xC (.int 0)))
    (hi0 : DE X W (.Constant (.int 0) kn pi1) (xC (.int 0))) (hi1 : DE X W (.Constant (.int 1) kn pi2) (xC (.int 1)))
    (hg : Gl X y := by rfl) (hdb : (y == ("__debug__" : Str)) = false := by decide) (he : starEach (e :: es) X.env = (false, eval e X.env) :: starEach es X.env := by rfl) (hpl : (backTo pos (starEach es X.env)).any (·.1) = false := by rfl)
    (hi : X.N[i]? = some x := by rfl) (hx : Loc X.env.scope x := by first | exact .inl rfl | exact .inr rfl) (hs : swapsWith (.Call (.Name y p) (e :: es) [] pos) (some (.Name x pos')) pos2.line X.env = pure false := by rfl) (hf : X.fn x = true ∨ X.env.scope.names.lookup x = some .local := by first | exact .inl rfl | exact .inr rfl)
    (hv : Vis X.env.scope x := by first | exact Or.inl rfl | exact Or.inr (Or.inl rfl) | exact Or.inr (Or.inr rfl)) (hd : (x == ("__debug__" : Str)) = false := by decide)
    (hcd : (x == ("__classdict__" : Str)) = false := by decide)
    (hsl1 : PlainIx (.Constant (.int 0) kn pi1) := by intro _ _; rfl) (hsl2 : PlainIx (.Constant (.int 1) kn pi2) := by intro _ _; rfl)
    (hbase : attributeBase (.Subscript (.Name x px1) (.Constant (.int 0) kn pi1) ps1) "append" X.env (eval (.Subscript (.Name x px1) (.Constant (.int 0) kn pi1) ps1) X.env) = eval (.Subscript (.Name x px1) (.Constant (.int 0) kn pi1) ps1) X.env := by rfl)
    (hfew : ((backTo pc1 (starEach [.Constant (.int 0) kn pn] X.env)).all (fun x => !x.1) && (backToKw pc1 (keywordEach [] X.env)).all (fun x => x.1.isSome)
      && decide (([.Constant (.int 0) kn pn] : List Expr).length + ([] : List Keyword).length + (if ([] : List Keyword).isEmpty then 0 else 1) < 30)) = true := by rfl)
    (hline : (pa1.endLine == pc1.line) = true := by rfl) (hse : starEach [.Constant (.int 0) kn pn] X.env = (false, eval (.Constant (.int 0) kn pn) X.env) :: starEach [] X.env := by rfl) (hplain : (backTo pc1 (starEach [] X.env)).any (·.1) = false := by rfl)
    (hsA : swapsWith (.Call (.Attribute (.Subscript (.Name x px1) (.Constant (.int 0) kn pi1) ps1) "append" pa1) [.Constant (.int 0) kn pn] [] pc1) none pe1.line X.env = pure false := by rfl)
    (hbase2 : attributeBase (.Subscript (.Name x px2) (.Constant (.int 1) kn pi2) ps2) "clear" X.env (eval (.Subscript (.Name x px2) (.Constant (.int 1) kn pi2) ps2) X.env) = eval (.Subscript (.Name x px2) (.Constant (.int 1) kn pi2) ps2) X.env := by rfl)
    (hline2 : (pa2.endLine == pc2.line) = true := by rfl)
    (hsC : swapsWith (.Call (.Attribute (.Subscript (.Name x px2) (.Constant (.int 1) kn pi2) ps2) "clear" pa2) [] [] pc2) none pe2.line X.env = pure false := by rfl) :
    DSs X W (.Assign [.Name x pos'] (.Call (.Name y p) (e :: es) [] pos) pos2 :: .If c1 [.Return (some r1) pr1] [] pos3 :: .If c2 [.Return (some r2) pr2] [] pos4 :: .Expr (.Call (.Attribute (.Subscript (.Name x px1) (.Constant (.int 0) kn pi1) ps1) "append" pa1) [.Constant (.int 0) kn pn] [] pc1) pe1 :: .Expr (.Call (.Attribute (.Subscript (.Name x px2) (.Constant (.int 1) kn pi2) ps2) "clear" pa2) [] [] pc2) pe2 :: rest)
      (sLose i n g ga t1 f1 t2 f2 u) := by
  obtain ⟨f, fd, ps, F1, F2, F3, F4⟩ := F.ex
  obtain ⟨_, a1, a2⟩ := ha.ex
  obtain ⟨_, t11, t12⟩ := ht1.ex
  obtain ⟨_, f11, f12⟩ := hf1.ex
  obtain ⟨_, t21, t22⟩ := ht2.ex
  obtain ⟨_, f21, f22⟩ := hf2.ex
  obtain ⟨_, u1, u2⟩ := hu.ex
  obtain ⟨_, n01, n02⟩ := h0.ex
  obtain ⟨_, i01, i02⟩ := hi0.ex
  obtain ⟨_, i11, i12⟩ := hi1.ex
  refine ⟨_, pss_cons (ps_set (i := i) hN hi hx (pe_callS F1 (hr.mono hj) hg F2 F3 F4 (fun σ => passAt tk σ) a1 hdb he hpl) hs hf)
    (pss_cons (ps_if t11 (pss_one (ps_ret f11)) pss_nil) (pss_cons (ps_if t21 (pss_one (ps_ret f21)) pss_nil)
    (pss_cons (ps_expr (pe_bm PySem.F.plainAttrs_list PySem.F.slot_list_append PySem.F.type_list_append mt_append (pe_ix ix_tup (pe_var hi hv hd hcd) i01 hsl1) (pa_cons n01 pa_nil hse) hbase hfew hline hse hplain) hsA)
    (pss_cons (ps_expr (pe_bm0 PySem.F.plainAttrs_list PySem.F.slot_list_clear PySem.F.type_list_clear mt_clear (pe_ix ix_tup (pe_var hi hv hd hcd) i11 hsl2) hbase2 hline2) hsC) u1)))), fun B G0 G H σ env E c po => ?_⟩
  refine a2 B G0 G H σ env _ c ?_
  unfold sLose at po
  by_cases hi' : i < env.length
  case neg => rw [if_neg hi'] at po; exact po.elim
  rw [if_pos hi'] at po
  cases o : ga env with
  | no => rw [o] at po; exact po.elim
  | ex m => rw [o] at po; exact po.elim
  | ok ds =>
    rw [o] at po
    simp only at po
    intro vs H1 G1 s1 c1 r1
    by_cases hl : ds.length = n ∧ noLsts ds = true
    case neg => rw [if_neg hl] at po; exact po.elim
    rw [if_pos hl] at po
    have rt : Reps (kw X) (tups H1) vs ds := Reps.tups c1.exG ds vs hl.2 r1
    refine ⟨r1.length.trans hl.1, tups H1, ds, tups_same H1, rt, ?_⟩
    cases q : g ds with
    | no => rw [q] at po; exact po.elim
    | ex m => rw [q] at po; exact po.elim
    | ok d =>
      rw [q] at po
      simp only at po
      intro v H' G' s2 gh hh nw r
      have c2 := c1.grow (Same.refl G1) hh (c1.exG.trans hh) fun a z => .inl z
      have c4 : Cn (kw X) H' H' H' (σ.set i (some v)) H' ((still env).set i (.dat d)) := c2.still.set i (r.up gh)
      refine t12 H' H' H' H' (σ.set i (some v)) _ _ c4 ?_
      cases e1 : t1 ((still env).set i (.dat d)) with
      | no => rw [e1] at po; exact po.elim
      | ex m => rw [e1] at po; exact po.elim
      | ok b1 =>
        rw [e1] at po
        intro H2 G2 s3 c5
        cases b1 with
        | true =>
          refine iteT ?_
          simp only [mB] at po
          refine f12 H' H' G2 H2 (σ.set i (some v)) _ _ c5 ?_
          cases e2 : f1 ((still env).set i (.dat d)) with
          | no => rw [e2] at po; exact po.elim
          | ex m => rw [e2] at po; exact po.elim
          | ok w =>
            rw [e2] at po
            intro v3 H3 G3 s4 c6 r3
            simp only [flatR] at po
            by_cases hfl : flatD w = true
            · rw [if_pos hfl] at po
              have c7 := c2.grow (Same.refl G1) c6.exB (c2.exG.trans c6.exB) fun a z => .inl z
              exact po v3 σ H3 G1 env s1 c7 (flat_rep hfl r3)
            · rw [if_neg hfl] at po; exact po.elim
        | false =>
          refine iteF ?_
          simp only [mB] at po
          refine t22 H' H' G2 H2 (σ.set i (some v)) _ _ c5 ?_
          cases e3 : t2 ((still env).set i (.dat d)) with
          | no => rw [e3] at po; exact po.elim
          | ex m => rw [e3] at po; exact po.elim
          | ok b2 =>
            rw [e3] at po
            intro H4 G4 s5 c8
            cases b2 with
            | true =>
              refine iteT ?_
              simp only [mB] at po
              refine f22 H' H' G4 H4 (σ.set i (some v)) _ _ c8 ?_
              cases e2 : f2 ((still env).set i (.dat d)) with
              | no => rw [e2] at po; exact po.elim
              | ex m => rw [e2] at po; exact po.elim
              | ok w =>
                rw [e2] at po
                intro v3 H3 G3 s4 c6 r3
                simp only [flatR] at po
                by_cases hfl : flatD w = true
                · rw [if_pos hfl] at po
                  have c7 := c2.grow (Same.refl G1) c6.exB (c2.exG.trans c6.exB) fun a z => .inl z
                  exact po v3 σ H3 G1 env s1 c7 (flat_rep hfl r3)
                · rw [if_neg hfl] at po; exact po.elim
            | false =>
              refine iteF ?_
              simp only [mB] at po
              unfold twoL at po
              split at po
              · rename_i xs ys
                by_cases hxl : xs.length < sizeLine
                case neg => rw [if_neg hxl] at po; exact po.elim
                rw [if_pos hxl] at po
                cases r with
                | @tup a vs2 _ g1 g2 =>
                  cases g2 with
                  | cons r0 g3 =>
                    cases g3 with
                    | cons r1' g4 =>
                      cases g4
                      cases r0 with
                      | @lst p0 vs0 _ h01 h02 =>
                        cases r1' with
                        | @lst p1 vs1 _ h11 h12 =>
                          have fresh : ∀ {p : Addr} {vs : List V}, G' p = some (.lst vs) → H1 p = none := fun {p vs} hp => by
                            rcases nw p (by rw [hp]; intro z; cases z) with z | z
                            · obtain ⟨zs, hz⟩ := tups_only z
                              have := s2 _ _ hz
                              rw [hp] at this
                              cases this
                            · exact z
                          have fr0 := fresh h01
                          have fr1 := fresh h11
                          have slot : (σ.set i (some (V.ref a)))[i]? = some (some (.ref a)) := by
                            rw [List.getElem?_set_self (by rw [c.len]; exact hi')]
                          have up4 : Same G' H4 := gh.trans c8.exB
                          -- found[0].append(0)
                          refine ⟨.ref a, slot, ?_⟩
                          refine i02 H' H' G4 H4 _ _ _ c8 ?_
                          intro vi H5 G5 s6 c9 ri
                          cases ri
                          have up5 : Same G' H5 := gh.trans c9.exB
                          refine ⟨a, [.ref p0, .ref p1], 0, .ref p0, rfl, rfl, .inl (.inl (up5 _ _ g1)), rfl, .inl ⟨rfl, _, .inl (.inl (up5 _ _ h01))⟩, ?_⟩
                          refine n02 H' H' G5 H5 _ _ _ c9 ?_
                          intro vn H6 G6 s7 c10 rn
                          have up6 : Same G' H6 := gh.trans c10.exB
                          have hlen : vs0.length < sizeLine := by rw [h02.length]; exact hxl
                          refine ⟨p0, vs0, vn, rfl, rfl, up6 _ _ h01, hlen, ?_⟩
                          -- found[1].clear()
                          have na : a ≠ p0 := fun z => by rw [z, h01] at g1; cases g1
                          refine ⟨.ref a, slot, ?_⟩
                          have c2' := c2.grow (Same.refl G1) c10.exB (c2.exG.trans c10.exB) fun a z => .inl z
                          have ap0 : Apart σ env p0 := c1.apart fr0
                          have ap1 : Apart σ env p1 := c1.apart fr1
                          have c11 : Cn (kw X) B G0 G1 σ (L2.upd H6 p0 (.lst (vs0 ++ [vn]))) env := c2'.poke (c1.exG.free fr0) (c1.exB.free fr0) ap0
                          have n8 : L2.upd H6 p0 (.lst (vs0 ++ [vn])) a = some (.tup [.ref p0, .ref p1]) := by rw [upd_ne na]; exact up6 _ _ g1
                          obtain ⟨ws, hp8⟩ : ∃ ws, L2.upd H6 p0 (.lst (vs0 ++ [vn])) p1 = some (.lst ws) := by
                            by_cases z : p1 = p0
                            · exact ⟨_, by rw [z, upd_same]⟩
                            · exact ⟨_, by rw [upd_ne z]; exact up6 _ _ h11⟩
                          generalize hH8 : L2.upd H6 p0 (.lst (vs0 ++ [vn])) = H8 at c11 n8 hp8
                          refine i12 H8 H8 H8 H8 (σ.set i (some (.ref a))) _ _ (c11.setU i (.ref a)).still ?_
                          intro vi2 H7 G7 s8 c12 ri2
                          cases ri2
                          have s87 : Same H8 H7 := c12.exB
                          refine ⟨a, [.ref p0, .ref p1], 1, .ref p1, rfl, rfl, .inl (.inl (s87 _ _ n8)), rfl, .inl ⟨rfl, _, .inl (.inl (s87 _ _ hp8))⟩, p1, ws, rfl, rfl, s87 _ _ hp8, ?_⟩
                          have c13 := c11.grow (Same.refl G1) s87 (c11.exG.trans s87) fun a z => .inl z
                          have c14 : Cn (kw X) B G0 G1 σ (L2.upd H7 p1 (.lst [])) env := c13.poke (c1.exG.free fr1) (c1.exB.free fr1) ap1
                          exact u2 B G0 G1 _ _ _ E (c14.setU i (.ref a)) (PoS.up s1 po)
              · exact po.elim
end
end DL

set_option maxHeartbeats 1000000
/-! ### an exception that comes out of a comprehension -/
namespace DY
open PySem PySem.Spec PyProof.Rows L2
theorem frames_but {C : Addr} {h h' base : Heap} (hs : ∀ b, b ≠ C → h'.get? b = h.get? b) : ∀ {l : List Env}, C ∉ frs l → h.FunFrames base l → h'.FunFrames base l
  | [], _, _ => trivial
  | env :: rest, hc, hl => by
    obtain ⟨hk, ⟨L, o, hf, hn, ho, hd⟩, hr⟩ := hl
    have ne : L ≠ C := fun z => hc (List.mem_filterMap.mpr ⟨env, List.mem_cons_self, by rw [hf, z]⟩)
    refine ⟨hk, ⟨L, o, hf, hn, (hs L ne).trans ho, hd⟩, frames_but hs (fun z => hc ?_) hr⟩
    obtain ⟨e, he, q⟩ := List.mem_filterMap.mp z
    exact List.mem_filterMap.mpr ⟨e, List.mem_cons_of_mem _ he, q⟩
theorem noteFrame_eq {e : Value} {env env' : Env} (h : env.frame = env'.frame) : noteFrame e env = noteFrame e env' := by
  unfold noteFrame PySem.frameOf
  rw [h]
section
variable {M : Model} {A : Around} {E : Value → Shared → Prop} {s : Shared} {Z : Obj → Prop} {base : Heap} {env : Env} {outer l : List Env} {L e : Addr}
theorem looks_onF {fl : Value} {Q : Unit → Shared → Prop} (hZ : HandSPX.Steady Z) (hfr : A.frames = some (env :: outer)) (hf : env.frame = some L) (hkb : base.StaysIn s.heap) (hen : base.get? e = none) (hl : s.heap.FunFrames base (env :: outer)) (ht : HandSPX.TracedZ s.heap base e Z fl) (hne : (fl == rawInt L) = false)
    (hQ : ∀ h', HandSPX.HeldZ base (env :: outer) e Z L h' → s.heap.UpToSlots h' → Q () { s with heap := h' }) : wpAny M A (noteFrame (.ref e) env) Q E s := by
  obtain ⟨oe, vs, T, oT, ts, he, hz, hd, h1, hnT, hTe, hT, hdT, h3⟩ := ht
  unfold noteFrame
  simp only [hf]
  refine wpAny_bind (wpAny_field he hd h1 ?_)
  rw [if_pos (show (Value.ref T != Value.none) = true from by simp)]
  refine wpAny_bind (wpAny_field hT hdT h3 ?_)
  rw [if_neg (show ¬ ((fl == rawInt L) = true) from by rw [hne]; decide)]
  refine wpAny_bind (wpAny_setField hT hdT (Array.getElem?_eq_some_iff.mp h3).1 ?_)
  have other : ∀ b, b ≠ T → (s.heap.update T (Obj.mapFields (·.setIfInBounds 3 Value.none))).get? b = s.heap.get? b := fun b hb => Heap.get?_update_other _ _ (Ne.symm hb)
  have noRecord : ∀ b o, s.heap.get? b = some o → (∀ vs, o.data ≠ .fields vs) → b ≠ T := fun b o hb hnf q => by
    rw [q, hT] at hb; injection hb with hb; subst hb; exact hnf ts hdT
  refine HandSPX.wpAny_entryZ hZ hfr (hl.of_keeps fun b o hb hnf => ⟨o, (other b (noRecord b o hb hnf)).trans hb, rfl⟩) hf ((other e (Ne.symm hTe)).trans he)
    (fun b o hbo => (other b fun q => by rw [q, hnT] at hbo; cases hbo).trans (hkb b o hbo)) hen hd (Array.getElem?_eq_some_iff.mp h1).1 hz fun h' hN => ?_
  obtain ⟨x1, x2, x3, x4⟩ := hN
  exact hQ h' ⟨x1, hen, x2, x3⟩ fun b o hb hnf => x4 b o ((other b (noRecord b o hb hnf)).trans hb) hnf
theorem raw_ne {a b : Addr} (h : a ≠ b) : (rawInt a == rawInt b) = false := by
  have : rawInt a ≠ rawInt b := fun z => by
    unfold rawInt at z
    injection z with z1
    exact h (Int.ofNat.inj z1)
  exact beq_eq_false_iff_ne.mpr this
/-- it goes on out of the block -/
theorem pass_on {what : String} {cenv : Env} {L : Addr} (hf : cenv.frame = some L) (hh : HandSPX.HeldZ base l e Z L s.heap) (hE : ∀ h', HandSPX.HeldZ base l e Z L h' → s.heap.UpToSlots h' → E (.ref e) { s with heap := h' }) :
    wpAny M A (PySem.passOn what (.ref e) cenv : Sem Value) (fun _ _ => False) E s := by
  have hh' := hh
  obtain ⟨f1, f2, f3, oe, vs, T, oT, ts, he, hz, hd, h1, hnT, hTe, hT, hdT, h3⟩ := hh
  unfold PySem.passOn
  refine wpAny_bind (wpAny_field he hd h1 ?_)
  rw [if_neg (show ¬ ((Value.ref T == Value.none) = true) from by simp)]
  refine wpAny_bind ?_
  rw [hf]
  exact HandSPX.setFlight_onZ hh' fun h' hl up => wpAny_throw (hE h' hl up)
end
end DY

set_option maxHeartbeats 1000000
namespace DY
open PySem PySem.Spec PyProof.Rows L2
/-- the context of a block out of which exceptions come -/
abbrev blkE (X : Cx) (s : Shared) (H : Hp) (scope : Scope) (ce : Env) (fp : List Addr) (xe : Value → Shared → Prop) : Cx := { X.blk s H scope ce fp with xe := xe }
section
variable {X : Cx} {W : WX} {pins : List (Addr × Obj)} {σ : L2.St} {H3 : Hp} {s3 : Shared} {scope : Scope} {ce : Env} {fp : List Addr}
theorem blk_takes (hs : X.stack = X.env :: X.outer) (hf : X.env.frame = some X.env.locals) (tk : L2.Takes X W) (I3 : Inv X pins σ H3 s3) (f3 : ∀ b ∈ fp, FpOk X pins H3 b ∧ b < s3.heap.objs.size) (cL : ce.locals = s3.heap.objs.size) (cF : ce.frame = X.env.frame) :
    L2.Takes (blkE X s3 H3 scope ce fp (notedBy (model X.prog X.w) X.A ce (CompFails (model X.prog X.w) X.A X.xe ce))) (fun cls d _ H => W cls d σ H) := by
  rintro u s' ⟨a, B, sI, pins', σ', H', cls, d, rfl, I, nb, up, sky, na, os, ag, w⟩
  have hfr : X.A.frames = some (X.env :: X.outer) := by rw [I3.ok.frames, hs]
  show wpAny (model X.prog X.w) X.A (noteFrame (.ref a) ce) (fun _ s'' => CompFails (model X.prog X.w) X.A X.xe ce (.ref a) s'') _ s'
  rw [noteFrame_eq (env' := X.env) cF]
  have sky : Sky B (X.env :: X.outer) a (Zc cls d) ce.locals s'.heap := by rw [← hs]; exact sky
  have nb : ∀ b o, sI.heap.get? b = some o → b ∉ frs X.stack → B.get? b = some o := nb
  have os : s'.os = sI.os := os
  have nC : H' ce.locals = none := I.free
  have nC' : H' s3.heap.objs.size = none := by rw [← cL]; exact nC
  have fC : FpOk X pins H' ce.locals := by
    rw [cL]
    exact I3.fpOk (Nat.le_refl _) nC'
  obtain ⟨g0, g1, g2, g3, g4, g5⟩ := fC
  have cS : ce.locals ∉ frs X.stack := fun z => by
    rcases List.mem_cons.mp (I3.stkSub _ z) with z | z
    · exact g1 z
    · exact g2 z
  have cS' : ce.locals ∉ frs (X.env :: X.outer) := by rw [← hs]; exact cS
  have I7 : Inv X pins σ H' sI := I3.call' (ch := fp) I.os I.base I.hok I.bare fun b hb => ⟨(f3 b hb).1.2.2.2.1, (f3 b hb).1.2.1, (f3 b hb).1.2.2.2.2.1, (f3 b hb).1.2.2.2.2.2⟩
  have fin : ∀ h1, HandSPX.HeldZ B (X.env :: X.outer) a (Zc cls d) X.env.locals h1 → s'.heap.UpToSlots h1 → CompFails (model X.prog X.w) X.A X.xe ce (.ref a) { s' with heap := h1 } := fun h1 hh up1 => by
    obtain ⟨k1, k2, k3, k4⟩ := hh
    obtain ⟨m, hn, _⟩ := I.loc
    have hn1 : h1.Ns ce.locals m := (up.trans up1).ns hn
    refine ⟨m, hn1, fun h' m' hn' sb => ?_⟩
    have sb : Heap.SameBut ce.locals h1 h' := sb
    -- what is dropped: the block's names
    have held : HandSPX.HeldZ (PySem.W.hideAll B [ce.locals]) (X.env :: X.outer) a (Zc cls d) X.env.locals h' := by
      refine ⟨fun b o e => ?_, ?_, ?_, ?_⟩
      · have ne : b ≠ ce.locals := fun z => by rw [z, PySem.W.hideAll_none _ (by simp)] at e; cases e
        rw [sb.2 b ne]
        exact k1 b o (PySem.W.of_hideAll _ e)
      · cases q : (PySem.W.hideAll B [ce.locals]).get? a with
        | none => rfl
        | some o =>
          have z := PySem.W.of_hideAll _ q
          rw [k2] at z; cases z
      · refine funFrames_none (frames_but sb.2 cS' k3) fun L hL => ?_
        cases q : (PySem.W.hideAll B [ce.locals]).get? L with
        | none => rfl
        | some o =>
          have z := PySem.W.of_hideAll _ q
          rw [(k3.mem hL).1] at z; cases z
      · obtain ⟨oe, vs, T, oT, ts, he, hz, hd, h1', hnT, hTe, hT, hdT, h3⟩ := k4
        obtain ⟨oC, es, ep, hoC, hdC, _⟩ := hn1
        have nac : a ≠ ce.locals := fun z => by rw [z, hoC] at he; cases he; rw [hdC] at hd; cases hd
        have nTc : T ≠ ce.locals := fun z => by rw [z, hoC] at hT; cases hT; rw [hdC] at hdT; cases hdT
        refine ⟨oe, vs, T, oT, ts, (sb.2 a nac).trans he, hz, hd, h1', ?_, hTe, (sb.2 T nTc).trans hT, hdT, h3⟩
        cases q : (PySem.W.hideAll B [ce.locals]).get? T with
        | none => rfl
        | some o =>
          have z := PySem.W.of_hideAll _ q
          rw [hnT] at z; cases z
    refine pass_on (cF.trans hf) held fun h2 hh2 up2 => tk _ _ ?_
    have I8 : Inv X pins σ H' { sI with heap := PySem.W.hideAll sI.heap [ce.locals], toks := sI.toks } := I7.turned (t' := sI.toks) (fun b o hb e => PySem.W.hideAll_get _ e (by simpa using hb)) g0 g1 g3 g4 g5
    refine ⟨a, PySem.W.hideAll B [ce.locals], _, pins, σ, H', cls, d, rfl, I8, fun b o e hb => ?_, fun b o e hnf => ?_, .inr (.inr (by rw [hs]; exact hh2)), na, os, ag, w⟩
    · have ne : b ≠ ce.locals := fun z => by rw [z, PySem.W.hideAll_none _ (by simp)] at e; cases e
      exact PySem.W.hideAll_get _ (nb b o (PySem.W.of_hideAll _ e) hb) (by simpa using ne)
    · have ne : b ≠ ce.locals := fun z => by
        subst z
        have e : (PySem.W.hideAll sI.heap [ce.locals]).get? ce.locals = some o := e
        rw [PySem.W.hideAll_none _ (by simp)] at e; cases e
      obtain ⟨sl, e1⟩ := (up.trans up1) b o (PySem.W.of_hideAll _ e) hnf
      have e1' : h'.get? b = some { o with slots := sl } := (sb.2 b ne).trans e1
      obtain ⟨sl2, e2⟩ := up2 b _ e1' hnf
      exact ⟨sl2, e2⟩
  rcases sky with ⟨hB, hn, hl, oe, vs, he, hz, hd, h1⟩ | ⟨f1, f2, f3, f4⟩ | ⟨f1, f2, f3, f4⟩
  · exact HandSPX.look_newZ Zc.steady hfr hl hf he hB hn hd h1 hz fin
  · exact HandSPX.looks_onZ Zc.steady hfr hf ⟨f1, f2, f3, f4⟩ fin
  · exact looks_onF Zc.steady hfr hf f1 f2 f3 f4 (raw_ne g1) fin
end
end DY

set_option maxHeartbeats 1000000
namespace DY
open PySem PySem.Spec PyProof.Rows L2
def tLcX (wi : TI) (g : TG) (tt : TT) (te : L2.St → TE) (vs : List Nat) : TE := fun σ H Q => wi σ H fun J H1 => ∀ D, H1 D = none → ∃ W : Nat → Nat → Hp → Prop, (∃ m, W 0 m (upd H1 D (.lst []))) ∧ ∀ i m H, W i m H →
  (J.stop i H ∧ Q (.ref D) H) ∨ (J.go i H ∧ ∃ Nx : Hp → Prop, (∀ H', Nx H' → ∃ m', m' < m ∧ W (i + 1) m' H') ∧ ∀ x H', J.yld i H x H' → g x (wipe σ vs) H' fun σ2 H2 => wipe σ2 vs = wipe σ vs ∧ tt σ2 H2 fun b H3 =>
    if b = true then te σ σ2 H3 fun y H4 => ∃ acc, H4 D = some (.lst acc) ∧ acc.length < sizeLine ∧ Nx (upd H4 D (.lst (acc ++ [y]))) else Nx H3)
section
variable {X : Cx} {W : WX}
theorem pe_lcX {elt tg iter : Expr} {ifs : List Expr} {scope : Scope} {own : List (Str × Nat)} {pos : Pos} {wi : TI} {g : TG} {tt : TT} {te : L2.St → TE} (hst : X.stack = X.env :: X.outer) (hfr : X.env.frame = some X.env.locals) (tk : L2.Takes X W) (hc : X.calm = true) (hN : X.N.Nodup) (hi : PI X tg iter wi) (ok : BlkOk X.N X.env.scope scope own)
    (hg : ∀ (s : Shared) (H : Hp) (C : Addr) (cl : List (Str × Addr)) (fp : List Addr) (xe : Value → Shared → Prop), PG (blkE X s H scope (compEnvC scope cl C X.env) fp xe) tg g) (ht : ∀ (s : Shared) (H : Hp) (C : Addr) (cl : List (Str × Addr)) (fp : List Addr) (xe : Value → Shared → Prop), PTs (blkE X s H scope (compEnvC scope cl C X.env) fp xe) ifs tt)
    (he : ∀ (σ : L2.St) (s : Shared) (H : Hp) (C : Addr) (cl : List (Str × Addr)) (fp : List Addr) (xe : Value → Shared → Prop), L2.Takes (blkE X s H scope (compEnvC scope cl C X.env) fp xe) (fun cls d _ H => W cls d σ H) → PE (blkE X s H scope (compEnvC scope cl C X.env) fp xe) elt (te σ))
    (hs : ∀ x, foldedSetIterable iter X.env x = pure x := by intro _; rfl) :
    PE X (.ListComp elt [⟨tg, iter, ifs, 0⟩] scope pos) (tLcX wi g tt te (own.map (·.2))) := by
  refine ⟨fun pins s σ H Q I h => ?_⟩
  rw [eval_ListComp]
  have hfree : ∀ y ∈ scope.names, y.2 = .free → ∃ c, X.env.cells.lookup y.1 = some c := fun y hy e => by
    rcases ok.free y hy e with k | k
    · exact I.ok.has _ (.inl k)
    · exact I.ok.has _ (.inr k)
  refine comprehension_at (use := none) rfl hs (closure_ok hfree) ok.kind (fun y hy e => by rw [ok.uniq y hy, e])
    (thn (hi.run pins s σ H _ I h) fun xv s1 hx => thn hx fun itv s2 h2 => ?_)
  obtain ⟨it, fp, tn, J, H2, e, I2, T, st2, f2, q⟩ := h2
  subst e
  refine wpAny_newObj_type (newEnv_comp ?_) (by show 0 ≤ sizeLine; decide)
  generalize hD : s2.heap.objs.size = D
  have hDn : H2 D = none := I2.hok.fresh (Nat.le_of_eq hD)
  obtain ⟨Wt, ⟨m0, w0⟩, turn⟩ := q D hDn
  generalize hs3 : ({ s2 with heap := s2.heap.push { cls := .type "list", data := .seq ([] : List Value).toArray } } : Shared) = s3
  have I3 : Inv X pins σ (upd H2 D (.lst [])) s3 := by
    rw [← hs3]
    refine I2.laid (t' := s2.toks) (fun b o e => Heap.get?_push_of_some _ e) (Nat.le_of_eq hD) ⟨Nat.zero_le _, [], 0, .nil, ?_⟩
    rw [← hD]
    exact Heap.get?_push_size _ rfl
  have h3 : s3.heap = s2.heap.push { cls := .type "list", data := .seq ([] : List Value).toArray } := by rw [← hs3]
  have sz : ∀ b ∈ fp, b < s2.heap.objs.size := fun b hb => by
    obtain ⟨o, e, _⟩ := T.obj _ _ st2 b hb
    exact Heap.lt_size e
  have f3 : ∀ b ∈ fp, FpOk X pins (upd H2 D (.lst [])) b ∧ b < s3.heap.objs.size := fun b hb => by
    have hlt := sz b hb
    refine ⟨⟨?_, (f2 b hb).2⟩, by rw [h3, Heap.size_push]; exact Nat.lt_succ_of_lt hlt⟩
    rw [upd_ne (by rw [← hD]; exact Nat.ne_of_lt hlt)]
    exact (f2 b hb).1
  have st3 : tn 0 s3.heap := T.keep _ _ _ st2 fun b _ o e => by rw [h3]; exact Heap.get?_push_of_some _ e
  have I4' := block_start I3 ok hN f3
  have tkB := blk_takes (scope := scope) (ce := compEnvC scope (cellsFrom (s3.heap.objs.size + 1) scope.names (cloFrom X.env.cells scope.names [])) s3.heap.objs.size X.env) hst hfr tk I3 f3 rfl rfl
  have pg := hg s3 (upd H2 D (.lst [])) s3.heap.objs.size (cellsFrom (s3.heap.objs.size + 1) scope.names (cloFrom X.env.cells scope.names [])) fp (notedBy (model X.prog X.w) X.A (compEnvC scope (cellsFrom (s3.heap.objs.size + 1) scope.names (cloFrom X.env.cells scope.names [])) s3.heap.objs.size X.env) (CompFails (model X.prog X.w) X.A X.xe (compEnvC scope (cellsFrom (s3.heap.objs.size + 1) scope.names (cloFrom X.env.cells scope.names [])) s3.heap.objs.size X.env)))
  have pt := ht s3 (upd H2 D (.lst [])) s3.heap.objs.size (cellsFrom (s3.heap.objs.size + 1) scope.names (cloFrom X.env.cells scope.names [])) fp (notedBy (model X.prog X.w) X.A (compEnvC scope (cellsFrom (s3.heap.objs.size + 1) scope.names (cloFrom X.env.cells scope.names [])) s3.heap.objs.size X.env) (CompFails (model X.prog X.w) X.A X.xe (compEnvC scope (cellsFrom (s3.heap.objs.size + 1) scope.names (cloFrom X.env.cells scope.names [])) s3.heap.objs.size X.env)))
  have pe := he σ s3 (upd H2 D (.lst [])) s3.heap.objs.size (cellsFrom (s3.heap.objs.size + 1) scope.names (cloFrom X.env.cells scope.names [])) fp _ tkB
  show codeAny _ _ (.compStart (.ListComp elt [⟨tg, iter, ifs, 0⟩] scope pos) 0 (.ref it) (.ref D) (compEnvC scope (cellsFrom (s3.heap.objs.size + 1) scope.names (cloFrom X.env.cells scope.names [])) s3.heap.objs.size X.env)) (compEnds (model X.prog X.w) X.A X.xe none (EP X pins σ Q) (.ref D) (compEnvC scope (cellsFrom (s3.heap.objs.size + 1) scope.names (cloFrom X.env.cells scope.names [])) s3.heap.objs.size X.env)) { s3 with heap := pushCells (s3.heap.push { cls := .type "dict", data := .dict #[] }) scope.names }
  have nfp : ∀ b ∈ fp, (upd H2 D (.lst [])) b = none := fun b hb => (f3 b hb).1.1
  generalize hce : compEnvC scope (cellsFrom (s3.heap.objs.size + 1) scope.names (cloFrom X.env.cells scope.names [])) s3.heap.objs.size X.env = ce at I4' pg pt pe ⊢
  have cL : ce.locals = s3.heap.objs.size := by subst hce; rfl
  generalize hH3 : upd H2 D (.lst []) = H3 at I3 I4' pg pt pe w0 nfp f3
  generalize hs4 : ({ s3 with heap := pushCells (s3.heap.push { cls := .type "dict", data := .dict #[] }) scope.names } : Shared) = s4 at I4' ⊢
  generalize hxe : notedBy (model X.prog X.w) X.A ce (CompFails (model X.prog X.w) X.A X.xe ce) = xe at pg pt pe
  have I4 : Inv (blkE X s3 H3 scope ce fp xe) [] (wipe σ (own.map (·.2))) H3 s4 := I4'.wish xe
  have st4 : tn 0 s4.heap := T.keep _ _ _ st3 fun b _ o e => by rw [← hs4]; exact pushCells_keeps _ _ _ _ (Heap.get?_push_of_some _ e)
  have stat : ∀ {σ' : L2.St} {H' : Hp} {s' : Shared}, Inv (blkE X s3 H3 scope ce fp xe) [] σ' H' s' → (∀ b ∈ fp, H' b = none) → ∀ b ∈ fp, FpOk (blkE X s3 H3 scope ce fp xe) [] H' b := fun {σ' H' s'} I' hn b hb =>
    ⟨hn b hb, (I'.ok.exf b hb).1, I'.ok.exfs b hb, .inl hb, fun x c e => (I'.ok.exf b hb).2 x c e, fun p hp => absurd (show p ∈ ([] : List (Addr × Obj)) ++ [] from hp) (by simp)⟩
  have exe : ∀ {e : Value} {s' : Shared}, xe e s' → notedBy (model X.prog X.w) X.A ce (fun e s' => compEnds (model X.prog X.w) X.A X.xe none (EP X pins σ Q) (.ref D) ce (.error e) s') e s' := fun {e s'} z => by
    rw [← hxe] at z
    exact z
  have loop : codeAny (model X.prog X.w) X.A (.compLoop (.ListComp elt [⟨tg, iter, ifs, 0⟩] scope pos) 0 (.ref it) (.ref D) ce) (compEnds (model X.prog X.w) X.A X.xe none (EP X pins σ Q) (.ref D) ce) s4 := by
    refine compLoop_any (fun n s' => ∃ i H', Inv (blkE X s3 H3 scope ce fp xe) [] (wipe σ (own.map (·.2))) H' s' ∧ tn i s'.heap ∧ (∀ b ∈ fp, H' b = none) ∧ Wt i n H') ?_ m0 ⟨0, H3, I4, st4, nfp, w0⟩
    rintro n s5 ⟨i, H5, I5, st5, n5, w5⟩
    rcases turn i n H5 w5 with ⟨stop, qq⟩ | ⟨go, Nx, hNx, step⟩
    · have td := T.done (blkE X s3 H3 scope ce fp xe) rfl rfl rfl hc i [] s5 _ H5 (fun _ _ => False) I5 (stat I5 n5) st5 stop
      refine thnF td fun r s6 ⟨hr, I6⟩ => ?_
      subst hr
      have I7 : Inv X pins σ H5 s6 := I3.call' (ch := fp) I6.os I6.base I6.hok I6.bare fun b hb => ⟨(f3 b hb).1.2.2.2.1, (f3 b hb).1.2.1, (f3 b hb).1.2.2.2.2.1, (f3 b hb).1.2.2.2.2.2⟩
      have nC : H5 s3.heap.objs.size = none := by
        have z : H5 ce.locals = none := I6.free
        rw [cL] at z
        exact z
      obtain ⟨m, hn, _⟩ := I6.loc
      have hn : s6.heap.Ns ce.locals m := hn
      obtain ⟨f0, f1, f2', f3', f4, f5⟩ := I3.fpOk (Nat.le_refl _) nC
      refine ⟨m, hn, fun h'' sb => ⟨.ref D, H5, I7.turned (t' := s6.toks) (it := ce.locals) (fun b o hb e => (sb.2 b hb).trans e) (by rw [cL]; exact f0) (by rw [cL]; exact f1) (by rw [cL]; exact f3') (by rw [cL]; exact f4) (by rw [cL]; exact f5), rfl, qq⟩⟩
    · have ti := T.item (blkE X s3 H3 scope ce fp xe) rfl rfl rfl hc i [] s5 _ H5 (fun _ _ => False) I5 (stat I5 n5) st5 go
      refine thnF ti fun r s6 ⟨u, hr, h6⟩ => ?_
      subst hr
      refine thnF h6 fun _ s7 ⟨x, H7, I7, r7, y7, st7, n7⟩ => ?_
      have I7' := I7.pinned (stat I7 n7) (T.obj _ _ st7)
      refine wpAny_mono (pg.run _ s7 _ H7 x u _ I7' r7 (step x H7 y7)) (fun _ s8 ⟨σ8, H8, I8, hw8, q8⟩ => ?_) fun _ _ z => exe z
      refine wpAny_mono (pt.run _ s8 σ8 H8 _ I8 q8) (fun b s9 ⟨H9, I9, q9⟩ => ?_) fun _ _ z => exe z
      have fin : ∀ {s' : Shared} {H' : Hp}, Inv (blkE X s3 H3 scope ce fp xe) ([] ++ pinsAt fp s7.heap) σ8 H' s' → Nx H' → ∃ m, m < n ∧ ∃ i H', Inv (blkE X s3 H3 scope ce fp xe) [] (wipe σ (own.map (·.2))) H' s' ∧ tn i s'.heap ∧ (∀ b ∈ fp, H' b = none) ∧ Wt i m H' := fun {s' H'} I' nx => by
        obtain ⟨m', hm, w'⟩ := hNx H' nx
        have pin' : ∀ b ∈ fp, ∀ o, s7.heap.get? b = some o → s'.heap.get? b = some o ∧ H' b = none := fun b hb o e =>
          let z := I'.pin (b, o) (List.mem_append_right _ (List.mem_append_right _ (mem_pinsAt hb e)))
          ⟨z.1, z.2.1⟩
        have hl : (wipe σ (own.map (·.2))).length = σ8.length := by rw [← hw8, wipe_length]
        refine ⟨m', hm, i + 1, H', (I'.unpinned (pins := [])).weak hl (fun j v e => ?_), T.keep _ _ _ st7 fun b hb o e => (pin' b hb o e).1, fun b hb => ?_, w'⟩
        · rw [← hw8] at e
          exact (wipe_some e).1
        · obtain ⟨o, e, _⟩ := T.obj _ _ st7 b hb
          exact (pin' b hb o e).2
      cases b with
      | false =>
        simp only [Bool.false_eq_true, if_false] at q9 ⊢
        exact fin I9 q9
      | true =>
        simp only [if_true] at q9 ⊢
        refine wpAny_mono (pe.run _ s9 σ8 H9 _ I9 q9) (fun z s10 ⟨yv, H10, I10, r10, acc, hD10, hz10, nx⟩ => ?_) fun _ _ z => exe z
        exact app_ok (X := blkE X s3 H3 scope ce fp xe) I10 hD10 hz10 r10 fun s11 I11 => fin I11 nx
  exact codeAny_compStart_list loop (T.self X.A 0 _ _ _ st4 loop)
end
end DY

namespace DL
open PySem PySem.Spec PyProof.Rows L2
/-! ### [f for t in it], f may raise -/
def cLoopX (t : DTgt) (f : DEnv → M D) (e0 : DEnv) : List D → M (List D)
  | [] => .ok []
  | d :: ds => match t d e0 with
    | none => .no
    | some e => match f e with
      | .ok y => match cLoopX t f e0 ds with
        | .ok ys => .ok (y :: ys)
        | .ex n => .ex n
        | .no => .no
      | .ex n => .ex n
      | .no => .no
@[simp] def lCompX (vs : List Nat) (it : DEnv → M (List D)) (t : DTgt) (f : DEnv → M D) (env : DEnv) : M (List D) :=
  (it env).bind fun ds => if ds.length < sizeLine ∧ (vs.all fun i => match env[i]? with | some s => !s.isOwned | none => true) = true then cLoopX t f (wipeE env vs) ds else .no
def appM (ys : List D) : M (List D) → M (List D)
  | .ok zs => .ok (ys ++ zs)
  | .ex n => .ex n
  | .no => .no
section
variable {K : KW} {mg : Str → Option Value} {W : WX}
theorem RdL.compX {wi : TI} {it : DEnv → M (List D)} {t : DTgt} {f : DEnv → M D} {is vs : List Nat} (hi : RdI K mg W wi it) (sub : ∀ i ∈ is, i ∈ vs) :
    RdL K mg W (DY.tLcX wi (gF K is t) (tTF K mg W0 fun _ => .ok true) (fun σ => tEF K mg (fun cls d _ H => W cls d σ H) f) vs) (lCompX vs it t f) := by
  intro B G0 G H σ env Q cn po
  refine hi B G0 G H σ env _ cn ?_
  simp only [lCompX] at po
  cases o : it env with
  | no => rw [o] at po; exact po
  | ex n => rw [o] at po; exact po
  | ok ds =>
    rw [o] at po
    simp only [M.bind] at po
    intro J H1 G1 s1 c1 jok
    split at po
    · rename_i hcond
      obtain ⟨hlen, hno⟩ := hcond
      have no : ∀ i ∈ vs, ∀ s, env[i]? = some s → s.isOwned = false := fun i hi s e => by
        have q := List.all_eq_true.mp hno i hi
        rw [e] at q
        simpa using q
      generalize htot : cLoopX t f (wipeE env vs) ds = tot at po
      intro Dl hD
      have ap : Apart σ env Dl := c1.apart hD
      have bD : B Dl = none := c1.exB.free hD
      have gD : G1 Dl = none := c1.exG.free hD
      refine ⟨fun i m H => m = ds.length - i ∧ ∃ G2 acc ys, Same G1 G2 ∧ Cn K B G0 G2 σ H env ∧ H Dl = some (.lst acc) ∧ G2 Dl = none ∧ Reps K G2 acc ys ∧ ys.length ≤ i ∧ appM ys (cLoopX t f (wipeE env vs) (ds.drop i)) = tot,
        ⟨ds.length, rfl, G1, [], [], Same.refl _, c1.poke gD bD ap, upd_same, gD, .nil, Nat.zero_le _, by rw [List.drop_zero, htot]; cases tot <;> rfl⟩, ?_⟩
      rintro i m H2 ⟨rfl, G2, acc, ys, s2, c2, hD2, gD2, ra, hys, ht⟩
      by_cases hi : i < ds.length
      · have hd : ds[i]? = some ds[i] := List.getElem?_eq_getElem hi
        obtain ⟨j1, _⟩ := jok B G0 G2 σ H2 env i s2 c2
        obtain ⟨go, _⟩ := j1 _ hd
        rw [List.drop_eq_getElem_cons hi] at ht
        refine .inr ⟨go, fun H => ∃ G2 acc ys, Same G1 G2 ∧ Cn K B G0 G2 σ H env ∧ H Dl = some (.lst acc) ∧ G2 Dl = none ∧ Reps K G2 acc ys ∧ ys.length ≤ i + 1 ∧ appM ys (cLoopX t f (wipeE env vs) (ds.drop (i + 1))) = tot,
          fun H' h => ⟨ds.length - (i + 1), by omega, rfl, h⟩, fun x H3 y => ?_⟩
        have cU := c2.under hD2 gD2 ap
        obtain ⟨k1, _⟩ := jok (upd B Dl (.lst acc)) G2 G2 σ H2 env i s2 cU
        obtain ⟨G3, s3, c3, r3⟩ := (k1 _ hd).2 x H3 y
        have key : ∀ {G4 : Hp} {σ' : L2.St} {H4 : Hp} {e4 : DEnv}, Cn K (upd B Dl (.lst acc)) G2 G4 σ' H4 e4 → G4 Dl = none := fun {G4 σ' H4 e4} c4 => by
          cases z : G4 Dl with
          | none => rfl
          | some w =>
            rcases c4.new Dl (by rw [z]; intro k; cases k) with k | k
            · exact absurd gD2 k
            · rw [upd_same] at k; cases k
        unfold cLoopX at ht
        cases kt : t ds[i] (wipeE env vs) with
        | none => rw [kt] at ht; rw [← ht] at po; exact po.elim
        | some e1 =>
          rw [kt] at ht
          refine ⟨upd B Dl (.lst acc), G2, G3, wipeE env vs, e1, ds[i], c3.wiped vs, r3, kt, fun σ4 H4 G4 s4 c4 bt => ⟨wipe_eq ?_ ?_, ?_⟩⟩
          · rw [c4.len, bt.1, wipeE_len, c2.len]
          · intro j hj
            rw [(bt.2 j fun z => hj (sub j z)).2, wipe_out hj]
          · refine ⟨upd B Dl (.lst acc), G2, G4, e1, c4, ?_⟩
            simp only at ht
            intro H5 G5 s5 c5
            refine iteT ⟨upd B Dl (.lst acc), G2, G5, e1, c5, ?_⟩
            cases kf : f e1 with
            | no => rw [kf] at ht; rw [← ht] at po; exact po.elim
            | ex n =>
              rw [kf] at ht
              have ht : M.ex n = tot := ht
              rw [← ht] at po
              intro cls H' G' hm c'
              have cB := c2.back bD c' sub bt no
              exact po cls H' G' hm cB
            | ok y =>
              rw [kf] at ht
              intro v H6 G6 s6 c6 r6
              have cB := c2.back bD c6 sub bt no
              have s26 := ((s3.trans s4).trans s5).trans s6
              refine ⟨acc, c6.exB _ _ upd_same, by rw [ra.length]; omega, G6, acc ++ [v], ys ++ [y], s2.trans s26, cB.poke (key c6) bD ap, upd_same, key c6, (ra.up s26).append (.one r6), (by simp; omega), ?_⟩
              rw [← ht]
              simp only
              cases cLoopX t f (wipeE env vs) (ds.drop (i + 1)) with
              | no => rfl
              | ex n => rfl
              | ok zs => simp [appM]
      · refine .inl ⟨(jok B G0 G2 σ H2 env i s2 c2).2 (by omega), ?_⟩
        rw [List.drop_of_length_le (by omega)] at ht
        have ht : M.ok (ys ++ []) = tot := ht
        rw [List.append_nil] at ht
        rw [← ht] at po
        have z := po Dl acc (less H2 Dl) G2 (s1.trans s2) (c2.minus gD2 bD ap) less_self ra
        rw [upd_less hD2] at z
        exact z
    · exact po.elim
end
section
variable {X : Cx} {W : WX} {elt tg iter : Expr}
theorem dl_compX {scope : Scope} {own : List (Str × Nat)} {pos : Pos} {it : DEnv → M (List D)} {t : DTgt} {f : DEnv → M D} {is : List Nat} (own' : List (Str × Nat)) (ho : own' = own) (hc : X.calm = true) (hN : X.N.Nodup) (tk : Takes X W) (hi : DI X W tg iter it) (ok : BlkOk X.N X.env.scope scope own)
    (hg : ∀ (s : Shared) (H : Hp) (C : Addr) (cl : List (Str × Addr)) (fp : List Addr) (xe : Value → Shared → Prop), DG (DY.blkE X s H scope (compEnvC scope cl C X.env) fp xe) is tg t)
    (he : ∀ (W' : WX) (s : Shared) (H : Hp) (C : Addr) (cl : List (Str × Addr)) (fp : List Addr) (xe : Value → Shared → Prop), Takes (DY.blkE X s H scope (compEnvC scope cl C X.env) fp xe) W' → DE (DY.blkE X s H scope (compEnvC scope cl C X.env) fp xe) W' elt f)
    (sub : ∀ i ∈ is, i ∈ own.map (·.2)) (hst : X.stack = X.env :: X.outer := by rfl) (hfr : X.env.frame = some X.env.locals := by rfl) (hs : ∀ x, foldedSetIterable iter X.env x = pure x := by intro _; rfl) :
    DLs X W (.ListComp elt [⟨tg, iter, [], 0⟩] scope pos) (lCompX (own.map (·.2)) it t f) := by
  obtain ⟨wi, i1, i2⟩ := hi.ex
  refine ⟨_, DY.pe_lcX (tt := tTF (kw X) X.mg W0 (fun _ => .ok true)) (te := fun σ => tEF (kw X) X.mg (fun cls d _ H => W cls d σ H) f) hst hfr tk hc hN i1 ok (fun s H C cl fp xe => (hg s H C cl fp xe).canon) (fun s H C cl fp xe => ?_) (fun σ s H C cl fp xe tk' => (he _ s H C cl fp xe tk').canon) hs, RdL.compX i2 sub⟩
  exact ⟨fun pins s σ H Q I ⟨B, G0, G, env, cn, p⟩ => wpAny_tests_nil ⟨H, I, p H G (Same.refl G) cn⟩⟩
end
end DL

set_option maxHeartbeats 1000000
namespace DL
open PySem PySem.Spec PyProof.Rows L2
/-! ### defs whose exceptions have no context -/
section
variable (P : Program) (w : World) (K : PySem.W.Frag) (mg : Str → Option Value) (base : Heap)
/-- as DFn, of exceptions raised where nothing is handled -/
structure DFnZ (k : Nat) (x : Str) (n : Nat) (g : List D → M D) : Prop where
  ex : ∃ f fd ps, FnOk P w K mg base (L2N.CX P w) k f fd ps (spD ⟨K, w⟩ mg n g) ∧ mg x = some (.ref f) ∧ PySem.W.keepIn K (.ref f) = true ∧ Binds K fd ps []
end
section
variable {P : Program} {w : World} {K : PySem.W.Frag} {mg : Str → Option Value} {base : Heap}
theorem okZ {x qual : Str} {st : Stmt} {f : Addr} {fd : FuncData} {N ps : List Str} {k : Nat} {sp : Sp} (F : Fun K x qual st f fd) (S : FnScope N ps (defScope st)) (len : ∀ vs H Q E, sp vs H Q E → vs.length = ps.length)
    (hbody : ∀ (cdv : Value) (A : Around) (outer : List Env) (s : Shared) (H : Hp) (vs : List V) (Q : VK) (E : XK), Room k (A.deeper (envOfC qual (defScope st) s.heap.objs.size f cdv)) → sp vs H Q E →
      ∃ t, PSs (cxOf (L2N.CX P w) P w K mg base N qual (defScope st) f cdv A outer s H E) (defBody st) t ∧ t { nx := fun _ H' => Q .non H', rt := Q } (L2.start N vs) H) : FnOk P w K mg base (L2N.CX P w) (k + 1) f fd ps sp := by
  obtain ⟨oc, od, kV, doc, pm, an, cdv, ct, osl, rfl, lk, hcd⟩ := F.ex
  exact fn_of lk hcd S len fun A outer s H vs Q E hr hsp => hbody cdv A outer s H vs Q E hr hsp
theorem fun_okZ {x qual : Str} {st : Stmt} {f : Addr} {fd : FuncData} {N ps : List Str} {k n : Nat} {g : DStm} (F : Fun K x qual st f fd) (S : FnScope N ps (defScope st)) (hn : ps.length = n)
    (hbody : ∀ (cdv : Value) (A : Around) (outer : List Env) (s : Shared) (H : Hp) (E : XK), Room k (A.deeper (envOfC qual (defScope st) s.heap.objs.size f cdv)) →
      L2N.Takes (cxOf (L2N.CX P w) P w K mg base N qual (defScope st) f cdv A outer s H E) (wOf E) →
      PassesOwn (model P w) (cxOf (L2N.CX P w) P w K mg base N qual (defScope st) f cdv A outer s H E).A (cxOf (L2N.CX P w) P w K mg base N qual (defScope st) f cdv A outer s H E).env (cxOf (L2N.CX P w) P w K mg base N qual (defScope st) f cdv A outer s H E).xe →
      DSs (cxOf (L2N.CX P w) P w K mg base N qual (defScope st) f cdv A outer s H E) (wOf E) (defBody st) g) :
    FnOk P w K mg base (L2N.CX P w) (k + 1) f fd ps (spD ⟨K, w⟩ mg n (fnD N.length g)) := by
  refine okZ F S (fun vs H Q E h => h.1.trans hn.symm) (fun cdv A outer s H vs Q E hr h => ?_)
  obtain ⟨hl, G, ds, sG, r, p⟩ := h
  obtain ⟨ts, h1, h2⟩ := (hbody cdv A outer s H E hr (L2N.takes_of rfl rfl rfl rfl) (passes_of rfl)).ex
  refine ⟨ts, h1, h2 H G G H _ _ _ (cn_start sG r) ?_⟩
  simp only [fnD] at p
  cases o : g (ini N.length ds) with
  | nx e =>
    rw [o] at p
    intro σ' H' G' s' c'
    exact p .non H' G' s' c'.exG c'.exB (fun a h => c'.new a h) .non
  | rt d =>
    rw [o] at p
    intro v σ' H' G' e' s' c' r'
    exact p v H' G' s' c'.exG c'.exB (fun a h => c'.new a h) r'
  | ex c e =>
    rw [o] at p
    intro cls σ' H' G' hm c'
    exact p cls H' hm c'.exB
  | bk e => rw [o] at p; exact p.elim
  | ct e => rw [o] at p; exact p.elim
  | no => rw [o] at p; exact p.elim
theorem DFnZ.mk' {x qual : Str} {st : Stmt} {f : Addr} {fd : FuncData} {N ps : List Str} {k n : Nat} {g : DStm} (F : Fun K x qual st f fd) (S : FnScope N ps (defScope st)) (hn : ps.length = n) (hx : mg x = some (.ref f))
    (hb : ∀ (kV doc pm : Value) (an : Option Addr) (cdv ct : Value) (us : List Value), us.length = ps.length → bindArgs (PySem.W.fnOf x qual (defArgs st) (defBody st) (defScope st) .none kV doc pm an cdv ct) ⟨us, []⟩ = pure (ps.zip us))
    (hbody : ∀ (cdv : Value) (A : Around) (outer : List Env) (s : Shared) (H : Hp) (E : XK), Room k (A.deeper (envOfC qual (defScope st) s.heap.objs.size f cdv)) →
      L2N.Takes (cxOf (L2N.CX P w) P w K mg base N qual (defScope st) f cdv A outer s H E) (wOf E) →
      PassesOwn (model P w) (cxOf (L2N.CX P w) P w K mg base N qual (defScope st) f cdv A outer s H E).A (cxOf (L2N.CX P w) P w K mg base N qual (defScope st) f cdv A outer s H E).env (cxOf (L2N.CX P w) P w K mg base N qual (defScope st) f cdv A outer s H E).xe →
      DSs (cxOf (L2N.CX P w) P w K mg base N qual (defScope st) f cdv A outer s H E) (wOf E) (defBody st) g) :
    DFnZ P w K mg base (k + 1) x n (fnD N.length g) :=
  ⟨f, fd, ps, fun_okZ F S hn hbody, hx, F.kp, F.binds hb⟩
end
section
variable {X : Cx} {W : WX} {e : Expr} {es : List Expr} {pos p : Pos}
theorem de_callZ {k j n : Nat} {x : Str} {g : List D → M D} {ga : DEnv → M (List D)} (F : DFnZ X.prog X.w X.K X.mg X.base k x n g) (hr : Room j X.A) (hj : k ≤ j) (tk : L2N.Takes X W) (ha : DA X W (e :: es) ga)
    (hg : Gl X x := by rfl) (hdb : (x == ("__debug__" : Str)) = false := by decide) (he : starEach (e :: es) X.env = (false, eval e X.env) :: starEach es X.env := by rfl) (hpl : (backTo pos (starEach es X.env)).any (·.1) = false := by rfl) :
    DE X W (.Call (.Name x p) (e :: es) [] pos) (xCall n g ga) := by
  obtain ⟨f, fd, ps, F1, F2, F3, F4⟩ := F.ex
  obtain ⟨_, a1, a2⟩ := ha.ex
  refine ⟨_, pe_callS F1 (hr.mono hj) hg F2 F3 F4 (fun σ => L2N.passAt tk σ) a1 hdb he hpl, ?_⟩
  intro B G0 G H σ env Q c po
  refine a2 B G0 G H σ env _ c ?_
  simp only [xCall] at po
  cases o : ga env with
  | no => rw [o] at po; exact po
  | ex m => rw [o] at po; exact po
  | ok ds =>
    intro vs H1 G1 s1 c1 r1
    simp only [o, M.bind] at po
    by_cases hl : ds.length = n
    · rw [if_pos hl] at po
      refine ⟨r1.length.trans hl, G1, ds, c1.exG, r1, ?_⟩
      cases q : g ds with
      | ok d =>
        rw [q] at po
        intro v H' G' s2 gh hh nw r
        exact po v H' G' (s1.trans s2) (c1.grow s2 hh gh nw) r
      | ex m =>
        rw [q] at po
        intro cls H' hm hh
        exact po cls H' G1 hm (c1.grow (Same.refl _) hh (c1.exG.trans hh) fun a z => .inl z)
      | no => rw [q] at po; exact po
    · rw [if_neg hl] at po
      exact po.elim
/-- an exception is out of what is covered -/
@[simp] def noEx (f : DEnv → M D) (env : DEnv) : M D := match f env with
  | .ok d => .ok d
  | _ => .no
theorem de_noEx {f : DEnv → M D} (h : DE X W0 e f) : DE X W e (noEx f) := by
  obtain ⟨te, a1, a2⟩ := h.ex
  refine ⟨te, a1, ?_⟩
  intro B G0 G H σ env Q c po
  refine a2 B G0 G H σ env Q c ?_
  simp only [noEx] at po
  cases o : f env with
  | ok d => rw [o] at po; exact po
  | ex m => rw [o] at po; exact po.elim
  | no => rw [o] at po; exact po.elim
theorem ds_raiseZ {x m : Str} {j : Nat} {p p2 pos pos2 : Pos} (T : ExcF X.K X.mg x) (tk : L2N.Takes X W) (hc : X.calm = true := by rfl) (hg : Gl X x := by rfl) (hdb : (x == ("__debug__" : Str)) = false := by decide) :
    DS X W (.Raise (some (.Call (.Name x p) [.Constant (.str m) j p2] [] pos)) none pos2) (sRaise x) := by
  obtain ⟨C, h1, h2, h3, h4, h5⟩ := T.ex
  refine ⟨_, L2N.ps_raise hc tk (L2N.pmk_own PySem.F.excBase_ValueError h2 h1 h3 (raises_own h4 h5) hg hdb), fun B G0 G H σ env E c po => ?_⟩
  exact po _ σ H G h1 c
/-- raise where an exception is handled -/
theorem ds_raiseH {x m : Str} {j : Nat} {p p2 pos pos2 : Pos} (T : ExcF X.K X.mg x) (tk : L2.Takes X W) (hot : L2H.HotC X) (hg : Gl X x := by rfl) (hdb : (x == ("__debug__" : Str)) = false := by decide) :
    DS X W (.Raise (some (.Call (.Name x p) [.Constant (.str m) j p2] [] pos)) none pos2) (sRaise x) := by
  obtain ⟨C, h1, h2, h3, h4, h5⟩ := T.ex
  refine ⟨_, L2H.ps_raiseH hot tk (L2N.pmk_own PySem.F.excBase_ValueError h2 h1 h3 (raises_own h4 h5) hg hdb), fun B G0 G H σ env E c po => ?_⟩
  exact po _ σ H G h1 c
end
/-! ### try .. except X: raise .. -/
def sTryX (C : Str) (gb gs : DStm) : DStm := fun env => match gb env with
  | .ex c e => if c = C then gs e else .no
  | o => o
section
variable {X : Cx} {W : WX} {body suite : List Stmt} {b₀ : Stmt} {pos pos' np : Pos}
theorem ds_tryX {C : Str} {D : Addr} {gb gs : DStm} (hc : Names X C (.ref D)) (hm : X.mg C = some (.ref D)) (hex : PySem.W.exmOne X.K (.ref D) (.ref D) = some true)
    (hpa : ∀ hd : Option Value, PassesOwnAt (model X.prog X.w) (X.A.mark hd) X.A X.env X.xe) (tk : Takes X W)
    (hb : ∀ (W' : WX) (pn : List (Addr × Obj)) (xe : Value → Shared → Prop), L2N.Takes (X.tr pn xe) W' → PassesOwn (model X.prog X.w) X.A X.env xe → DSs (X.tr pn xe) W' body gb)
    (hsu : ∀ (a : Addr) (oe : Obj) (pn : List (Addr × Obj)), L2.Takes (L2H.suiteX X a ((a, oe) :: pn)) W → L2H.HotC (L2H.suiteX X a ((a, oe) :: pn)) → DSs (L2H.suiteX X a ((a, oe) :: pn)) W (b₀ :: suite) gs)
    (hs : X.stack = X.env :: X.outer := by rfl) (hf : X.env.frame = some X.env.locals := by rfl) :
    DS X W (.Try body [.ExceptHandler (some (.Name C np)) none (b₀ :: suite) pos'] [] [] pos) (sTryX C gb gs) := by
  refine ⟨_, L2H.ps_try_onlyX (tb := fun W' => tSF (kw X) X.mg W' gb) (ts := fun a cls d => tSF (kw X) X.mg W gs) hs hf hc hpa tk
    (fun W' pn xe h1 _ h2 => (hb W' pn xe h1 h2).canon) (fun a oe cls d pn hz hfl h1 h2 => ⟨fun pins s σ H E I h => (hsu a oe pn h1 h2).canon.run pins s σ H E I h⟩), fun B G0 G H σ env E c po => ?_⟩
  refine ⟨B, G, G, env, c.base, ?_⟩
  unfold sTryX at po
  cases o : gb env with
  | no => rw [o] at po; exact po
  | nx e => rw [o] at po; exact fun σ' H' G' s c' => po σ' H' G' s (c.unbase c')
  | rt d => rw [o] at po; exact fun v σ' H' G' e s c' r => po v σ' H' G' e s (c.unbase c') r
  | bk e => rw [o] at po; exact fun σ' H' G' s c' => po σ' H' G' s (c.unbase c')
  | ct e => rw [o] at po; exact fun σ' H' G' s c' => po σ' H' G' s (c.unbase c')
  | ex n e =>
    rw [o] at po
    simp only at po
    by_cases hn : n = C
    · rw [if_pos hn] at po
      subst hn
      intro cls σ' H' G' hm2 c'
      rw [hm] at hm2
      cases hm2
      refine ⟨true, hex, fun _ a ha => ⟨B, G', G', _, c'.base, ?_⟩, fun h => by cases h⟩
      cases q : gs e with
      | rt d =>
        rw [q] at po
        intro v σ2 H2 G2 e2 s2 c2 r2
        exact po v σ2 H2 G2 e2 (c'.ex0.trans s2) (c.unbase (c'.unbase (c'.base.unbase c2))) r2
      | no => rw [q] at po; exact po.elim
      | nx e2 =>
        rw [q] at po
        exact fun σ2 H2 G2 s2 c2 => po σ2 H2 G2 (c'.ex0.trans s2) (c.unbase (c'.unbase (c'.base.unbase c2)))
      | bk e2 =>
        rw [q] at po
        exact fun σ2 H2 G2 s2 c2 => po σ2 H2 G2 (c'.ex0.trans s2) (c.unbase (c'.unbase (c'.base.unbase c2)))
      | ct e2 =>
        rw [q] at po
        exact fun σ2 H2 G2 s2 c2 => po σ2 H2 G2 (c'.ex0.trans s2) (c.unbase (c'.unbase (c'.base.unbase c2)))
      | ex c2 e2 =>
        rw [q] at po
        exact fun cls σ2 H2 G2 h2 c2 => po cls σ2 H2 G2 h2 (c.unbase (c'.unbase (c'.base.unbase c2)))
    · rw [if_neg hn] at po
      exact po.elim
end
end DL

set_option maxHeartbeats 1000000
namespace DL
open PySem PySem.Spec PyProof.Rows L2
/-! ### insert into an own list -/
def insO (xs : List D) (ds : List D) : Option (List D) := match ds with
  | [.int k, d] => if 0 ≤ k ∧ k < 2 ^ 62 ∧ xs.length < sizeLine then some (xs.take k.toNat ++ [d] ++ xs.drop k.toNat) else none
  | _ => none
@[simp] def sInsO (i : Nat) (ga : DEnv → M (List D)) : DStm := fun env => (celO env i).to env fun xs => (ga env).to env fun ds => (M.of (insO xs ds)).to env fun ys => .nx (env.set i (.own ys))
section
variable {X : Cx} {W : WX} {e : Expr} {es : List Expr} {pos p : Pos}
theorem ds_insO (i : Nat) {x : Str} {ga : DEnv → M (List D)} {px apos cpos : Pos} (ha : DA X W (e :: es) ga) (hN : X.N[i]? = some x := by rfl) (hv : Vis X.env.scope x := by first | exact Or.inl rfl | exact Or.inr (Or.inl rfl) | exact Or.inr (Or.inr rfl)) (hd : (x == ("__debug__" : Str)) = false := by decide)
    (hcd : (x == ("__classdict__" : Str)) = false := by decide) (hbase : attributeBase (.Name x px) "insert" X.env (eval (.Name x px) X.env) = eval (.Name x px) X.env := by rfl)
    (hfew : ((backTo cpos (starEach (e :: es) X.env)).all (fun x => !x.1) && (backToKw cpos (keywordEach [] X.env)).all (fun x => x.1.isSome)
      && decide ((e :: es).length + ([] : List Keyword).length + (if ([] : List Keyword).isEmpty then 0 else 1) < 30)) = true := by rfl)
    (hline : (apos.endLine == cpos.line) = true := by rfl) (hse : starEach (e :: es) X.env = (false, eval e X.env) :: starEach es X.env := by rfl) (hplain : (backTo cpos (starEach es X.env)).any (·.1) = false := by rfl)
    (hs : swapsWith (.Call (.Attribute (.Name x px) "insert" apos) (e :: es) [] cpos) none pos.line X.env = pure false := by rfl) :
    DS X W (.Expr (.Call (.Attribute (.Name x px) "insert" apos) (e :: es) [] cpos) pos) (sInsO i ga) := by
  obtain ⟨te, a1, a2⟩ := ha.ex
  refine ⟨_, ps_expr (pe_bm PySem.F.plainAttrs_list PySem.F.slot_list_insert PySem.F.type_list_insert mt_insert (pe_var hN hv hd hcd) a1 hbase hfew hline hse hplain) hs, fun B G0 G H σ env E c po => ?_⟩
  simp only [sInsO] at po
  cases o : celO env i with
  | no => rw [o] at po; exact po.elim
  | ex n => exact (celO_no o).elim
  | ok xs =>
    rw [o] at po
    have hi := celO_inv o
    obtain ⟨q, e1, p, vs, e2, gp, bp, hp, rr⟩ := c.cel i _ hi
    subst e2
    refine ⟨.ref p, e1, .inl ⟨rfl, _, .inl (.inl hp)⟩, ?_⟩
    refine a2 B G0 G H σ env _ c ?_
    simp only [M.to] at po
    cases q : ga env with
    | no => rw [q] at po; exact po
    | ex n => rw [q] at po; exact PoX.s po
    | ok ds =>
      rw [q] at po
      intro us H1 G1 s1 c1 r1
      simp only [M.to] at po
      obtain ⟨q', e1', p', vs', e2', gp', bp', hp', r'⟩ := c1.cel i _ hi
      rw [e1] at e1'
      cases e1'
      cases e2'
      cases hh : insO xs ds with
      | none => rw [hh] at po; exact po.elim
      | some ys =>
        simp only [hh, M.of, M.to] at po
        unfold insO at hh
        split at hh
        · rename_i k d
          split at hh
          · rename_i hk
            cases hh
            cases r1 with
            | cons r2 r3 =>
              cases r3 with
              | cons r4 r5 =>
                cases r5
                cases r2
                have z : Reps (kw X) G1 (vs'.take k.toNat ++ [_] ++ vs'.drop k.toNat) (xs.take k.toNat ++ [d] ++ xs.drop k.toNat) := ((r'.take _).append (.cons r4 .nil)).append (r'.drop _)
                refine ⟨p, vs', k, _, rfl, rfl, hp', by rw [r'.length]; exact hk.2.2, hk.1, by omega, ?_⟩
                exact po σ _ G1 s1 (c1.updO hi trivial e1 ⟨p, _, rfl, gp', bp', upd_same, z⟩ trivial)
          · cases hh
        · cases hh
end
end DL

set_option maxHeartbeats 1000000
namespace DL
open PySem PySem.Spec PyProof.Rows L2
/-! ### in a list of data -/
noncomputable def inLD : D → D → Option D
  | a, .lst xs => if (eqOk 60 a && eqOk 60 (.lst xs)) = true then some (.bl (xs.any fun z => decide (z = a))) else none
  | _, _ => none
noncomputable def ninLD : D → D → Option D
  | a, .lst xs => if (eqOk 60 a && eqOk 60 (.lst xs)) = true then some (.bl (!xs.any fun z => decide (z = a))) else none
  | _, _ => none
theorem u65 {k : Nat} {A : Around} (r : Room k A) : A.units + 65 < cLine := by have := r.un; omega
theorem eqv_dec' {n m : Nat} {a b : D} (ha : eqOk n a = true) (hb : eqOk m b = true) : PyData.eqv (py a) (py b) = decide (a = b) := by
  rw [Bool.eq_iff_iff, eqv_of n m a b ha hb]
  simp
theorem any_dec {n m : Nat} {a : D} (ha : eqOk n a = true) : ∀ {xs : List D}, eqOks m xs = true → ((pys xs).any fun z => PyData.eqv z (py a)) = xs.any fun z => decide (z = a)
  | [], _ => rfl
  | x :: xs, h => by
    have h' : eqOk m x = true ∧ eqOks m xs = true := by simpa [eqOks] using h
    simp only [pys, List.any_cons]
    rw [eqv_dec' h'.1 ha, any_dec ha h'.2]
section
variable {X : Cx}
theorem ox_inL (hu : X.A.units + 65 < cLine) : OpX X (compareOp .In) inLD := by
  refine ⟨_, op_inD hu, opd_pure ?_⟩
  intro G H x y a b d Q s ra rb e
  unfold inLD at e
  split at e
  · rename_i xs
    split at e
    · rename_i h
      cases e
      simp only [Bool.and_eq_true] at h
      have h2 : eqOks 59 xs = true := by simpa [eqOk] using h.2
      refine ⟨_, .bl _, fun q => ⟨_, _, dp_mono s h.1 ra, dp_mono s h.2 rb, eqOk_shaped h.1, eqOk_shaped h.2, ?_⟩⟩
      rw [any_dec h.1 h2]
      exact q
    · cases e
  · cases e
theorem ox_ninL (hu : X.A.units + 65 < cLine) : OpX X (compareOp .NotIn) ninLD := by
  refine ⟨_, op_notInD hu, opd_pure ?_⟩
  intro G H x y a b d Q s ra rb e
  unfold ninLD at e
  split at e
  · rename_i xs
    split at e
    · rename_i h
      cases e
      simp only [Bool.and_eq_true] at h
      have h2 : eqOks 59 xs = true := by simpa [eqOk] using h.2
      refine ⟨_, .bl _, fun q => ⟨_, _, dp_mono s h.1 ra, dp_mono s h.2 rb, eqOk_shaped h.1, eqOk_shaped h.2, ?_⟩⟩
      rw [any_dec h.1 h2]
      exact q
    · cases e
  · cases e
end
end DL

namespace Wk
open PySem PySem.Spec PyProof.Rows L2 DL
/-! ### the text -/
def topS (i : Nat) : Stmt := PySem.Challenge.pw_alikewritten_k12_read_or_refused.main.body.getD i (.Pass ⟨0, 0, 0, 0⟩)

abbrev s_is_word : Stmt := topS 13
abbrev N_is_word : List Str := ["word", "letter"]
theorem sc_is_word : FnScope N_is_word ["word"] (defScope s_is_word) := ⟨rfl, rfl, rfl, by decide +kernel, rfl, by decide +kernel, by decide +kernel⟩
abbrev s_asked_writer : Stmt := topS 14
abbrev N_asked_writer : List Str := ["writer", "signs", "rows", "endings", "row", "word", "after"]
theorem sc_asked_writer : FnScope N_asked_writer ["writer"] (defScope s_asked_writer) := ⟨rfl, rfl, rfl, by decide +kernel, rfl, by decide +kernel, by decide +kernel⟩
abbrev s_word_of : Stmt := topS 17
abbrev N_word_of : List Str := ["part"]
theorem sc_word_of : FnScope N_word_of ["part"] (defScope s_word_of) := ⟨rfl, rfl, rfl, by decide +kernel, rfl, by decide +kernel, by decide +kernel⟩
abbrev s_pair_of : Stmt := topS 18
abbrev N_pair_of : List Str := ["part", "parts"]
theorem sc_pair_of : FnScope N_pair_of ["part"] (defScope s_pair_of) := ⟨rfl, rfl, rfl, by decide +kernel, rfl, by decide +kernel, by decide +kernel⟩
abbrev s_read : Stmt := topS 19
abbrev N_read : List Str := ["text", "rows", "endings", "line", "parts", "writer", "part"]
theorem sc_read : FnScope N_read ["text"] (defScope s_read) := ⟨rfl, rfl, rfl, by decide +kernel, rfl, by decide +kernel, by decide +kernel⟩
abbrev s__law_cell_at : Stmt := topS 21
abbrev N__law_cell_at : List Str := ["script", "k"]
theorem sc__law_cell_at : FnScope N__law_cell_at ["script", "k"] (defScope s__law_cell_at) := ⟨rfl, rfl, rfl, by decide +kernel, rfl, by decide +kernel, by decide +kernel⟩
abbrev s__law_stirred : Stmt := topS 22
abbrev N__law_stirred : List Str := ["cell", "k", "mixed"]
theorem sc__law_stirred : FnScope N__law_stirred ["cell", "k"] (defScope s__law_stirred) := ⟨rfl, rfl, rfl, by decide +kernel, rfl, by decide +kernel, by decide +kernel⟩
abbrev s__law_word : Stmt := topS 23
abbrev N__law_word : List Str := ["cell", "most", "letters", "size", "word", "k"]
theorem sc__law_word : FnScope N__law_word ["cell", "most", "letters"] (defScope s__law_word) := ⟨rfl, rfl, rfl, by decide +kernel, rfl, by decide +kernel, by decide +kernel⟩
abbrev s__law_writer : Stmt := topS 24
abbrev N__law_writer : List Str := ["script", "at", "most", "head", "states", "size", "letters", "seed", "own", "rows", "ends", "state", "row", "sign", "after", "word"]
theorem sc__law_writer : FnScope N__law_writer ["script", "at", "most"] (defScope s__law_writer) := ⟨rfl, rfl, rfl, by decide +kernel, rfl, by decide +kernel, by decide +kernel⟩
abbrev s__law_dashed : Stmt := topS 25
abbrev N__law_dashed : List Str := ["word"]
theorem sc__law_dashed : FnScope N__law_dashed ["word"] (defScope s__law_dashed) := ⟨rfl, rfl, rfl, by decide +kernel, rfl, by decide +kernel, by decide +kernel⟩
abbrev s__law_lines : Stmt := topS 26
abbrev N__law_lines : List Str := ["writer", "lines", "state", "parts", "word", "after"]
theorem sc__law_lines : FnScope N__law_lines ["writer"] (defScope s__law_lines) := ⟨rfl, rfl, rfl, by decide +kernel, rfl, by decide +kernel, by decide +kernel⟩
abbrev s__law_parted : Stmt := topS 27
abbrev N__law_parted : List Str := ["line", "fault", "cell", "parts", "some", "at", "part"]
theorem sc__law_parted : FnScope N__law_parted ["line", "fault", "cell"] (defScope s__law_parted) := ⟨rfl, rfl, rfl, by decide +kernel, rfl, by decide +kernel, by decide +kernel⟩
abbrev s__law_spoilt : Stmt := topS 28
abbrev N__law_spoilt : List Str := ["writer", "fault", "cell", "lines", "text", "place", "mark", "at", "signs", "states", "line", "sign", "state"]
theorem sc__law_spoilt : FnScope N__law_spoilt ["writer", "fault", "cell"] (defScope s__law_spoilt) := ⟨rfl, rfl, rfl, by decide +kernel, rfl, by decide +kernel, by decide +kernel⟩
abbrev s__law_word_of : Stmt := topS 29
abbrev N__law_word_of : List Str := ["part", "letter"]
theorem sc__law_word_of : FnScope N__law_word_of ["part"] (defScope s__law_word_of) := ⟨rfl, rfl, rfl, by decide +kernel, rfl, by decide +kernel, by decide +kernel⟩
abbrev s__law_row : Stmt := topS 30
abbrev N__law_row : List Str := ["parts", "states", "row", "part", "two", "state"]
theorem sc__law_row : FnScope N__law_row ["parts", "states"] (defScope s__law_row) := ⟨rfl, rfl, rfl, by decide +kernel, rfl, by decide +kernel, by decide +kernel⟩
abbrev s__law_due : Stmt := topS 31
abbrev N__law_due : List Str := ["text", "lines", "rows", "ends", "line", "parts", "row"]
theorem sc__law_due : FnScope N__law_due ["text"] (defScope s__law_due) := ⟨rfl, rfl, rfl, by decide +kernel, rfl, by decide +kernel, by decide +kernel⟩
abbrev s__law_told : Stmt := topS 32
abbrev N__law_told : List Str := ["text", "e", "kinds"]
theorem sc__law_told : FnScope N__law_told ["text"] (defScope s__law_told) := ⟨rfl, rfl, rfl, by decide +kernel, rfl, by decide +kernel, by decide +kernel⟩
abbrev s_law : Stmt := topS 33
abbrev N_law : List Str := ["script", "writer", "text", "due", "found"]
theorem sc_law : FnScope N_law ["script"] (defScope s_law) := ⟨rfl, rfl, rfl, by decide +kernel, rfl, by decide +kernel, by decide +kernel⟩
/-! ### the readings -/
abbrev N_asked_writerZ : List Str := N_asked_writer
noncomputable def r_is_word : DStm := sRet (xAnd (xOp leD (xCb lenD (aCons (xVar 0) (aNil))) (xC (.int 8))) (xOp eqD (xL (lComp [1] (iAny (xVar 0)) (gN 1) (tE (xOp ninSD (xVar 1) (xC (.str "abcd")))) (xVar 1))) (xL (lLst (aNil)))))
noncomputable def f_is_word : List D → M D := fnD 2 r_is_word
noncomputable def r_asked_writer_b1 : DStm := sIf (tEither (tNo (tE (xCall 1 f_is_word (aCons (xVar 5) (aNil))))) (tEither (tE (xOp ltD (xVar 6) (xC (.int 0)))) (tE (xOp geD (xVar 6) (xCb lenD (aCons (xVar 2) (aNil))))))) (sRaise "NoWriter") (sNext)
noncomputable def r_asked_writer_b2 : DStm := sSeq (sIf (tE (xOp neD (xCb lenD (aCons (xVar 4) (aNil))) (xVar 1))) (sRaise "NoWriter") (sNext)) (sFor (iAny (xVar 4)) (gT (gsCons (gN 5) (gsCons (gN 6) (gsNil)))) r_asked_writer_b1)
noncomputable def r_asked_writer_b3 : DStm := sIf (tNo (tE (xCall 1 f_is_word (aCons (xVar 5) (aNil))))) (sRaise "NoWriter") (sNext)
noncomputable def r_asked_writer : DStm := sSeq (sAsg (gT (gsCons (gN 1) (gsCons (gN 2) (gsCons (gN 3) (gsNil))))) (xVar 0)) (sSeq (sIf (tEither (tE (xOp ltD (xVar 1) (xC (.int 1)))) (tEither (tE (xOp gtD (xVar 1) (xC (.int 4)))) (tEither (tE (xOp ltD (xCb lenD (aCons (xVar 2) (aNil))) (xC (.int 1)))) (tEither (tE (xOp gtD (xCb lenD (aCons (xVar 2) (aNil))) (xC (.int 6)))) (tE (xOp neD (xCb lenD (aCons (xVar 3) (aNil))) (xCb lenD (aCons (xVar 2) (aNil))))))))) (sRaise "NoWriter") (sNext)) (sSeq (sFor (iAny (xVar 2)) (gN 4) r_asked_writer_b2) (sFor (iAny (xVar 3)) (gN 5) r_asked_writer_b3)))
noncomputable def f_asked_writer : List D → M D := fnD 7 r_asked_writer
noncomputable def r_asked_writerZ_b1 : DStm := sIf (tEither (tNo (tE (noEx (xCall 1 f_is_word (aCons (xVar 5) (aNil)))))) (tEither (tE (xOp ltD (xVar 6) (xC (.int 0)))) (tE (xOp geD (xVar 6) (xCb lenD (aCons (xVar 2) (aNil))))))) (sRaise "NoWriter") (sNext)
noncomputable def r_asked_writerZ_b2 : DStm := sSeq (sIf (tE (xOp neD (xCb lenD (aCons (xVar 4) (aNil))) (xVar 1))) (sRaise "NoWriter") (sNext)) (sFor (iAny (xVar 4)) (gT (gsCons (gN 5) (gsCons (gN 6) (gsNil)))) r_asked_writerZ_b1)
noncomputable def r_asked_writerZ_b3 : DStm := sIf (tNo (tE (noEx (xCall 1 f_is_word (aCons (xVar 5) (aNil)))))) (sRaise "NoWriter") (sNext)
noncomputable def r_asked_writerZ : DStm := sSeq (sAsg (gT (gsCons (gN 1) (gsCons (gN 2) (gsCons (gN 3) (gsNil))))) (xVar 0)) (sSeq (sIf (tEither (tE (xOp ltD (xVar 1) (xC (.int 1)))) (tEither (tE (xOp gtD (xVar 1) (xC (.int 4)))) (tEither (tE (xOp ltD (xCb lenD (aCons (xVar 2) (aNil))) (xC (.int 1)))) (tEither (tE (xOp gtD (xCb lenD (aCons (xVar 2) (aNil))) (xC (.int 6)))) (tE (xOp neD (xCb lenD (aCons (xVar 3) (aNil))) (xCb lenD (aCons (xVar 2) (aNil))))))))) (sRaise "NoWriter") (sNext)) (sSeq (sFor (iAny (xVar 2)) (gN 4) r_asked_writerZ_b2) (sFor (iAny (xVar 3)) (gN 5) r_asked_writerZ_b3)))
noncomputable def f_asked_writerZ : List D → M D := fnD 7 r_asked_writerZ
noncomputable def r_word_of : DStm := sSeq (sIf (tE (xOp eqD (xVar 0) (xC (.str "-")))) (sRet (xC (.str ""))) (sNext)) (sSeq (sIf (tE (xOp eqD (xVar 0) (xC (.str "")))) (sRaise "NoNote") (sNext)) (sRet (xVar 0)))
noncomputable def f_word_of : List D → M D := fnD 1 r_word_of
noncomputable def r_pair_of : DStm := sSeq (sSet 1 (xL (lM1 splitL (xVar 0) (xC (.str ">"))))) (sSeq (sIf (tEither (tE (xOp neD (xCb lenD (aCons (xVar 1) (aNil))) (xC (.int 2)))) (tEither (tE (xOp neD (xCb lenD (aCons (xOp ixAD (xVar 1) (xC (.int 1))) (aNil))) (xC (.int 1)))) (tE (xOp ninSD (xOp ixAD (xVar 1) (xC (.int 1))) (xC (.str "0123456789")))))) (sRaise "NoNote") (sNext)) (sRet (xTup (aCons (xCall 1 f_word_of (aCons (xOp ixAD (xVar 1) (xC (.int 0))) (aNil))) (aCons (xCb intAD (aCons (xOp ixAD (xVar 1) (xC (.int 1))) (aNil))) (aNil))))))
noncomputable def f_pair_of : List D → M D := fnD 2 r_pair_of
noncomputable def r_read_b1 : DStm := sSeq (sSet 4 (xL (lM1 splitL (xVar 3) (xC (.str " "))))) (sSeq (sApp 1 (xCb tupD (aCons (xL (lCompX [6] (iAny (xCut (xVar 4) (oNo) (oPart (xUn negD (xC (.int 1)))))) (gN 6) (xCall 1 f_pair_of (aCons (xVar 6) (aNil))))) (aNil)))) (sApp 2 (xCall 1 f_word_of (aCons (xOp ixAD (xVar 4) (xUn negD (xC (.int 1)))) (aNil)))))
noncomputable def r_read : DStm := sSeq (sOwn 1 (lLst (aNil))) (sSeq (sOwn 2 (lLst (aNil))) (sSeq (sFor (iAny (xL (lM1 splitL (xVar 0) (xC (.str "\n"))))) (gN 3) r_read_b1) (sSeq (sFrz 2 (sFrz 1 (sSet 5 (xTup (aCons (xCb lenD (aCons (xOp ixAD (xVar 1) (xC (.int 0))) (aNil))) (aCons (xCb tupD (aCons (xVar 1) (aNil))) (aCons (xCb tupD (aCons (xVar 2) (aNil))) (aNil)))))))) (sSeq (sTryX "NoWriter" (sExpr (xCall 1 f_asked_writerZ (aCons (xVar 5) (aNil)))) (sRaise "NoNote")) (sRet (xVar 5))))))
noncomputable def f_read : List D → M D := fnD 7 r_read
noncomputable def r__law_cell_at : DStm := sSeq (sIf (tE (xOp ltD (xVar 1) (xCb lenD (aCons (xVar 0) (aNil))))) (sRet (xOp ixAD (xVar 0) (xVar 1))) (sNext)) (sRet (xC (.int 0)))
noncomputable def f__law_cell_at : List D → M D := fnD 2 r__law_cell_at
noncomputable def r__law_stirred : DStm := sSeq (sSet 2 (xOp modD (xOp mulD (xOp addD (xOp addD (xVar 0) (xOp mulD (xC (.int 1009)) (xVar 1))) (xC (.int 17))) (xC (.int 48271))) (xC (.int 2147483647)))) (sSeq (sSet 2 (xOp modD (xOp mulD (xVar 2) (xVar 2)) (xC (.int 2147483647)))) (sRet (xOp fdivD (xOp modD (xOp mulD (xVar 2) (xC (.int 48271))) (xC (.int 2147483647))) (xC (.int 8)))))
noncomputable def f__law_stirred : List D → M D := fnD 3 r__law_stirred
noncomputable def r__law_word_b1 : DStm := sSeq (sSet 4 (xOp addD (xVar 4) (xOp ixAD (xC (.str "abcd")) (xOp modD (xVar 0) (xVar 2))))) (sSet 0 (xOp fdivD (xVar 0) (xVar 2)))
noncomputable def r__law_word : DStm := sSeq (sSet 3 (xOp modD (xVar 0) (xOp addD (xVar 1) (xC (.int 1))))) (sSeq (sSet 0 (xOp fdivD (xVar 0) (xOp addD (xVar 1) (xC (.int 1))))) (sSeq (sSet 4 (xC (.str ""))) (sSeq (sFor (iRng rng1D (aCons (xVar 3) (aNil))) (gN 5) r__law_word_b1) (sRet (xTup (aCons (xVar 4) (aCons (xVar 0) (aNil))))))))
noncomputable def f__law_word : List D → M D := fnD 6 r__law_word
noncomputable def r__law_writer_b1 : DStm := sSeq (sIf (tE (xOp eqD (xOp modD (xOp fdivD (xVar 3) (xC (.int 6048))) (xC (.int 2))) (xC (.int 0)))) (sSet 8 (xCall 2 f__law_stirred (aCons (xVar 7) (aCons (xOp addD (xOp mulD (xC (.int 97)) (xVar 11)) (xOp mulD (xC (.int 11)) (xVar 13))) (aNil))))) (sNext)) (sSeq (sSet 14 (xOp modD (xVar 8) (xVar 4))) (sSeq (sAsg (gT (gsCons (gN 15) (gsCons (gN 8) (gsNil)))) (xCall 3 f__law_word (aCons (xOp fdivD (xVar 8) (xVar 4)) (aCons (xVar 5) (aCons (xVar 6) (aNil)))))) (sApp 12 (xTup (aCons (xVar 15) (aCons (xVar 14) (aNil)))))))
noncomputable def r__law_writer_b2 : DStm := sSeq (sOwn 12 (lLst (aNil))) (sSeq (sFor (iRng rng1D (aCons (xOp addD (xC (.int 1)) (xOp modD (xVar 3) (xOp ixAD (xVar 2) (xC (.int 0))))) (aNil))) (gN 13) r__law_writer_b1) (sSeq (sFrz 12 (sApp 9 (xCb tupD (aCons (xVar 12) (aNil))))) (sSeq (sIf (tE (xOp eqD (xOp modD (xOp fdivD (xVar 3) (xC (.int 6048))) (xC (.int 2))) (xC (.int 0)))) (sSet 8 (xCall 2 f__law_stirred (aCons (xVar 7) (aCons (xOp addD (xOp mulD (xC (.int 97)) (xVar 11)) (xC (.int 71))) (aNil))))) (sNext)) (sSeq (sAsg (gT (gsCons (gN 15) (gsCons (gN 8) (gsNil)))) (xCall 3 f__law_word (aCons (xVar 8) (aCons (xCb min2D (aCons (xVar 5) (aCons (xOp addD (xC (.int 2)) (xOp modD (xOp fdivD (xVar 3) (xC (.int 864))) (xC (.int 7)))) (aNil)))) (aCons (xVar 6) (aNil)))))) (sApp 10 (xVar 15))))))
noncomputable def r__law_writer : DStm := sSeq (sSet 3 (xCall 2 f__law_cell_at (aCons (xVar 0) (aCons (xVar 1) (aNil))))) (sSeq (sSet 4 (xOp addD (xC (.int 1)) (xOp modD (xOp fdivD (xVar 3) (xC (.int 4))) (xOp ixAD (xVar 2) (xC (.int 1)))))) (sSeq (sSet 5 (xOp modD (xOp fdivD (xVar 3) (xC (.int 24))) (xOp addD (xOp ixAD (xVar 2) (xC (.int 2))) (xC (.int 1))))) (sSeq (sSet 6 (xOp addD (xC (.int 1)) (xOp modD (xOp fdivD (xVar 3) (xC (.int 216))) (xC (.int 4))))) (sSeq (sSet 7 (xCall 2 f__law_cell_at (aCons (xVar 0) (aCons (xOp addD (xVar 1) (xC (.int 1))) (aNil))))) (sSeq (sSet 8 (xVar 7)) (sSeq (sOwn 9 (lLst (aNil))) (sSeq (sOwn 10 (lLst (aNil))) (sSeq (sFor (iRng rng1D (aCons (xVar 4) (aNil))) (gN 11) r__law_writer_b2) (sFrz 10 (sFrz 9 (sRet (xTup (aCons (xOp addD (xC (.int 1)) (xOp modD (xVar 3) (xOp ixAD (xVar 2) (xC (.int 0))))) (aCons (xCb tupD (aCons (xVar 9) (aNil))) (aCons (xCb tupD (aCons (xVar 10) (aNil))) (aNil))))))))))))))))
noncomputable def f__law_writer : List D → M D := fnD 16 r__law_writer
noncomputable def r__law_dashed : DStm := sSeq (sIf (tE (xOp eqD (xVar 0) (xC (.str "")))) (sRet (xC (.str "-"))) (sNext)) (sRet (xVar 0))
noncomputable def f__law_dashed : List D → M D := fnD 1 r__law_dashed
noncomputable def r__law_lines_b1 : DStm := sSeq (sSet 3 (xL (lComp [4, 5] (iAny (xOp ixAD (xOp ixAD (xVar 0) (xC (.int 1))) (xVar 2))) (gT (gsCons (gN 4) (gsCons (gN 5) (gsNil)))) (fun _ => .ok true) (xOp addD (xOp addD (xCall 1 f__law_dashed (aCons (xVar 4) (aNil))) (xC (.str ">"))) (xCb strD (aCons (xVar 5) (aNil))))))) (sApp 1 (xM1 joinD (xC (.str " ")) (xOp addD (xVar 3) (xL (lLst (aCons (xCall 1 f__law_dashed (aCons (xOp ixAD (xOp ixAD (xVar 0) (xC (.int 2))) (xVar 2)) (aNil))) (aNil)))))))
noncomputable def r__law_lines : DStm := sSeq (sOwn 1 (lLst (aNil))) (sSeq (sFor (iRng rng1D (aCons (xCb lenD (aCons (xOp ixAD (xVar 0) (xC (.int 1))) (aNil))) (aNil))) (gN 2) r__law_lines_b1) (sFrz 1 (sRet (xVar 1))))
noncomputable def f__law_lines : List D → M D := fnD 6 r__law_lines
noncomputable def r__law_parted : DStm := sSeq (sSet 3 (xL (lM1 splitL (xVar 0) (xC (.str " "))))) (sSeq (sSet 4 (xL (lLst (aCons (xC (.str "a>0")) (aCons (xC (.str "->0")) (aCons (xC (.str "->1")) (aCons (xC (.str ">0")) (aCons (xC (.str "a>")) (aCons (xC (.str "a>6")) (aCons (xC (.str "a>00")) (aCons (xC (.str "abcdabcd>0")) (aCons (xC (.str "abcdabcda>0")) (aCons (xC (.str "e>0")) (aCons (xC (.str "")) (aCons (xC (.str "--")) (aNil)))))))))))))))) (sSeq (sSet 5 (xOp modD (xVar 2) (xOp addD (xCb lenD (aCons (xVar 3) (aNil))) (xC (.int 1))))) (sSeq (sSet 6 (xOp ixAD (xVar 4) (xOp modD (xOp fdivD (xVar 2) (xC (.int 13))) (xC (.int 12))))) (sSeq (sIf (tE (xOp eqD (xVar 1) (xC (.int 4)))) (sRet (xM1 joinD (xC (.str " ")) (xOp addD (xOp addD (xCut (xVar 3) (oNo) (oPart (xVar 5))) (xL (lLst (aCons (xVar 6) (aNil))))) (xCut (xVar 3) (oPart (xVar 5)) (oNo))))) (sNext)) (sRet (xM1 joinD (xC (.str " ")) (xOp addD (xOp addD (xCut (xVar 3) (oNo) (oPart (xVar 5))) (xL (lLst (aCons (xVar 6) (aNil))))) (xCut (xVar 3) (oPart (xOp addD (xVar 5) (xC (.int 1)))) (oNo)))))))))
noncomputable def f__law_parted : List D → M D := fnD 7 r__law_parted
noncomputable def r__law_spoilt : DStm := sSeq (sOwnCall 3 1 f__law_lines (aCons (xVar 0) (aNil))) (sSeq (sSet 4 (xStill (xM1 joinD (xC (.str "\n")) (xVar 3)))) (sSeq (sSet 5 (xOp modD (xVar 2) (xOp addD (xCb lenD (aCons (xVar 4) (aNil))) (xC (.int 1))))) (sSeq (sSet 6 (xOp ixAD (xC (.str "abcde01 ->_\n\tA")) (xOp modD (xOp fdivD (xVar 2) (xC (.int 997))) (xC (.int 14))))) (sSeq (sSet 7 (xOp modD (xVar 2) (xLenO 3))) (sSeq (sIf (tE (xOp eqD (xVar 1) (xC (.int 1)))) (sRet (xOp addD (xOp addD (xCut (xVar 4) (oNo) (oPart (xVar 5))) (xVar 6)) (xCut (xVar 4) (oPart (xVar 5)) (oNo)))) (sNext)) (sSeq (sIf (tE (xOp eqD (xVar 1) (xC (.int 2)))) (sRet (xOp addD (xOp addD (xCut (xVar 4) (oNo) (oPart (xVar 5))) (xVar 6)) (xCut (xVar 4) (oPart (xOp addD (xVar 5) (xC (.int 1)))) (oNo)))) (sNext)) (sSeq (sIf (tE (xOp eqD (xVar 1) (xC (.int 3)))) (sRet (xOp addD (xCut (xVar 4) (oNo) (oPart (xVar 5))) (xCut (xVar 4) (oPart (xOp addD (xVar 5) (xC (.int 1)))) (oNo)))) (sNext)) (sSeq (sIf (tEither (tE (xOp eqD (xVar 1) (xC (.int 4)))) (tE (xOp eqD (xVar 1) (xC (.int 5))))) (sSetO 3 (xVar 7) (xCall 3 f__law_parted (aCons (xIxO 3 (xVar 7)) (aCons (xVar 1) (aCons (xOp fdivD (xVar 2) (xC (.int 37))) (aNil)))))) (sNext)) (sSeq (sIf (tE (xOp eqD (xVar 1) (xC (.int 6)))) (sChg popO 3 (xVar 7)) (sNext)) (sSeq (sIf (tE (xOp eqD (xVar 1) (xC (.int 7)))) (sInsO 3 (aCons (xVar 7) (aCons (xIxO 3 (xVar 7)) (aNil)))) (sNext)) (sSeq (sIf (tE (xOp eqD (xVar 1) (xC (.int 8)))) (sInsO 3 (aCons (xVar 7) (aCons (xC (.str "")) (aNil)))) (sNext)) (sSeq (sIf (tE (xOp eqD (xVar 1) (xC (.int 9)))) (sSetO 3 (xVar 7) (xOp addD (xIxO 3 (xVar 7)) (xC (.str " ")))) (sNext)) (sSeq (sIf (tE (xOp eqD (xVar 1) (xC (.int 10)))) (sRet (xOp ixAD (xL (lLst (aCons (xC (.str "")) (aCons (xC (.str "-")) (aCons (xC (.str "\n")) (aCons (xC (.str "->0 -")) (aCons (xC (.str "a")) (aNil)))))))) (xOp modD (xVar 2) (xC (.int 5))))) (sNext)) (sSeq (sIf (tE (xOp eqD (xVar 1) (xC (.int 11)))) (sSeq (sSet 8 (xOp ixAD (xL (lLst (aCons (xC (.int 1)) (aCons (xC (.int 4)) (aCons (xC (.int 5)) (aCons (xC (.int 1)) (aCons (xC (.int 1)) (aNil)))))))) (xOp modD (xVar 2) (xC (.int 5))))) (sSeq (sSet 9 (xOp ixAD (xL (lLst (aCons (xC (.int 6)) (aCons (xC (.int 1)) (aCons (xC (.int 1)) (aCons (xC (.int 7)) (aCons (xC (.int 1)) (aNil)))))))) (xOp modD (xVar 2) (xC (.int 5))))) (sSeq (sSet 10 (xM1 joinD (xC (.str " ")) (xOp addD (xL (lComp [11] (iRng rng1D (aCons (xVar 8) (aNil))) (gN 11) (fun _ => .ok true) (xC (.str "abcdabcd>0")))) (xL (lLst (aCons (xC (.str "abcdabcd")) (aNil))))))) (sRet (xM1 joinD (xC (.str "\n")) (xL (lComp [12] (iRng rng1D (aCons (xVar 9) (aNil))) (gN 12) (fun _ => .ok true) (xVar 10)))))))) (sNext)) (sFrz 3 (sRet (xM1 joinD (xC (.str "\n")) (xVar 3))))))))))))))))))
noncomputable def f__law_spoilt : List D → M D := fnD 13 r__law_spoilt
noncomputable def r__law_word_of_b1 : DStm := sIf (tE (xOp ninSD (xVar 1) (xC (.str "abcd")))) (sRet (xC .non)) (sNext)
noncomputable def r__law_word_of : DStm := sSeq (sIf (tE (xOp eqD (xVar 0) (xC (.str "-")))) (sRet (xC (.str ""))) (sNext)) (sSeq (sFor (iAny (xVar 0)) (gN 1) r__law_word_of_b1) (sSeq (sIf (tEither (tE (xOp ltD (xCb lenD (aCons (xVar 0) (aNil))) (xC (.int 1)))) (tE (xOp gtD (xCb lenD (aCons (xVar 0) (aNil))) (xC (.int 8))))) (sRet (xC .non)) (sNext)) (sRet (xVar 0))))
noncomputable def f__law_word_of : List D → M D := fnD 2 r__law_word_of
noncomputable def r__law_row_b1 : DStm := sSeq (sSet 4 (xL (lM1 splitL (xVar 3) (xC (.str ">"))))) (sSeq (sIf (tEither (tE (xOp neD (xCb lenD (aCons (xVar 4) (aNil))) (xC (.int 2)))) (tEither (tE (xOp ninLD (xOp ixAD (xVar 4) (xC (.int 1))) (xL (lComp [5] (iRng rng1D (aCons (xVar 1) (aNil))) (gN 5) (fun _ => .ok true) (xCb strD (aCons (xVar 5) (aNil))))))) (tE (xOp isND (xCall 1 f__law_word_of (aCons (xOp ixAD (xVar 4) (xC (.int 0))) (aNil))) (xC .non))))) (sRet (xC .non)) (sNext)) (sApp 2 (xTup (aCons (xCall 1 f__law_word_of (aCons (xOp ixAD (xVar 4) (xC (.int 0))) (aNil))) (aCons (xCb intAD (aCons (xOp ixAD (xVar 4) (xC (.int 1))) (aNil))) (aNil))))))
noncomputable def r__law_row : DStm := sSeq (sOwn 2 (lLst (aNil))) (sSeq (sFor (iAny (xVar 0)) (gN 3) r__law_row_b1) (sFrz 2 (sRet (xCb tupD (aCons (xVar 2) (aNil))))))
noncomputable def f__law_row : List D → M D := fnD 6 r__law_row
noncomputable def r__law_due : DStm := sSeq (sSet 1 (xL (lComp [4] (iAny (xL (lM1 splitL (xVar 0) (xC (.str "\n"))))) (gN 4) (fun _ => .ok true) (xL (lM1 splitL (xVar 4) (xC (.str " "))))))) (sSeq (sIf (tEither (tE (xOp gtD (xCb lenD (aCons (xVar 1) (aNil))) (xC (.int 6)))) (tEither (tE (xOp ltD (xCb lenD (aCons (xOp ixAD (xVar 1) (xC (.int 0))) (aNil))) (xC (.int 2)))) (tE (xOp gtD (xCb lenD (aCons (xOp ixAD (xVar 1) (xC (.int 0))) (aNil))) (xC (.int 5)))))) (sRet (xC .non)) (sNext)) (sSeq (sSet 2 (xL (lComp [5] (iAny (xVar 1)) (gN 5) (fun _ => .ok true) (xCall 2 f__law_row (aCons (xCut (xVar 5) (oNo) (oPart (xUn negD (xC (.int 1))))) (aCons (xCb lenD (aCons (xVar 1) (aNil))) (aNil))))))) (sSeq (sSet 3 (xL (lComp [5] (iAny (xVar 1)) (gN 5) (fun _ => .ok true) (xCall 1 f__law_word_of (aCons (xOp ixAD (xVar 5) (xUn negD (xC (.int 1)))) (aNil)))))) (sSeq (sIf (tEither (tE (xOp inLD (xC .non) (xVar 2))) (tEither (tE (xOp inLD (xC .non) (xVar 3))) (tE (xOp gtD (xCb lenD (aCons (xL (lComp [6] (iAny (xVar 2)) (gN 6) (tE (xOp neD (xCb lenD (aCons (xVar 6) (aNil))) (xCb lenD (aCons (xOp ixAD (xVar 2) (xC (.int 0))) (aNil))))) (xVar 6))) (aNil))) (xC (.int 0)))))) (sRet (xC .non)) (sNext)) (sRet (xTup (aCons (xCb lenD (aCons (xOp ixAD (xVar 2) (xC (.int 0))) (aNil))) (aCons (xCb tupD (aCons (xVar 2) (aNil))) (aCons (xCb tupD (aCons (xVar 3) (aNil))) (aNil))))))))))
noncomputable def f__law_due : List D → M D := fnD 7 r__law_due
noncomputable def r__law_told_x (a : Addr) (c : Str) : DStm := sSeq (sSet 2 (xL (lLst (aCons (xIsE 1 a (subE c "NoNote")) (aCons (xIsE 1 a (subE c "OtherSigns")) (aCons (xIsE 1 a (subE c "NoRoom")) (aCons (xIsE 1 a (subE c "NoSign")) (aNil)))))))) (sSeq (sSet 2 (xOp addD (xVar 2) (xL (lLst (aCons (xIsE 1 a (subE c "NoPiece")) (aCons (xIsE 1 a (subE c "NoWriter")) (aNil))))))) (sSeq (sIf (tEither (tE (xOp neD (xL1 cntB (xVar 2) (xC (.bl true))) (xC (.int 1)))) (tNo (tE (xIsE 1 a true)))) (sRet (xTup (aCons (xC (.int 9)) (aCons (xC .non) (aNil))))) (sNext)) (sRet (xTup (aCons (xOp addD (xC (.int 1)) (xL1 idxB (xVar 2) (xC (.bl true)))) (aCons (xC .non) (aNil)))))))
noncomputable def r__law_told : DStm := sTryAs 1 ["NoNote"] (sRet (xTup (aCons (xC (.int 0)) (aCons (xCall 1 f_read (aCons (xVar 0) (aNil))) (aNil))))) r__law_told_x
noncomputable def f__law_told : List D → M D := fnD 3 r__law_told
noncomputable def r_law : DStm := sSeq (sSet 1 (xCall 3 f__law_writer (aCons (xVar 0) (aCons (xC (.int 0)) (aCons (xTup (aCons (xC (.int 3)) (aCons (xC (.int 4)) (aCons (xC (.int 8)) (aNil))))) (aNil)))))) (sSeq (sSet 2 (xCall 3 f__law_spoilt (aCons (xVar 1) (aCons (xOp modD (xCall 2 f__law_cell_at (aCons (xVar 0) (aCons (xC (.int 2)) (aNil)))) (xC (.int 13))) (aCons (xOp modD (xCall 2 f__law_cell_at (aCons (xVar 0) (aCons (xC (.int 3)) (aNil)))) (xOp powD (xC (.int 10)) (xC (.int 9)))) (aNil)))))) (sSeq (sSet 3 (xCall 1 f__law_due (aCons (xVar 2) (aNil)))) (sSeq (sSet 4 (xCall 1 f__law_told (aCons (xVar 2) (aNil)))) (sSeq (sIf (tE (xOp isND (xVar 3) (xC .non))) (sRet (xOp eqD (xOp ixAD (xVar 4) (xC (.int 0))) (xC (.int 1)))) (sNext)) (sRet (xAnd (xOp eqD (xOp ixAD (xVar 4) (xC (.int 0))) (xC (.int 0))) (xAnd (xUn (isiD "tuple") (xOp ixAD (xVar 4) (xC (.int 1)))) (xOp eqD (xOp ixAD (xVar 4) (xC (.int 1))) (xVar 3)))))))))
noncomputable def f_law : List D → M D := fnD 5 r_law
/-! ### the walks -/
structure Txt (K : PySem.W.Frag) (mg : Str → Option Value) : Prop where
  f_is_word : ∃ f fd, Fun K "is_word" "is_word" s_is_word f fd ∧ mg "is_word" = some (.ref f)
  f_asked_writer : ∃ f fd, Fun K "asked_writer" "asked_writer" s_asked_writer f fd ∧ mg "asked_writer" = some (.ref f)
  f_word_of : ∃ f fd, Fun K "word_of" "word_of" s_word_of f fd ∧ mg "word_of" = some (.ref f)
  f_pair_of : ∃ f fd, Fun K "pair_of" "pair_of" s_pair_of f fd ∧ mg "pair_of" = some (.ref f)
  f_read : ∃ f fd, Fun K "read" "read" s_read f fd ∧ mg "read" = some (.ref f)
  f__law_cell_at : ∃ f fd, Fun K "_law_cell_at" "_law_cell_at" s__law_cell_at f fd ∧ mg "_law_cell_at" = some (.ref f)
  f__law_stirred : ∃ f fd, Fun K "_law_stirred" "_law_stirred" s__law_stirred f fd ∧ mg "_law_stirred" = some (.ref f)
  f__law_word : ∃ f fd, Fun K "_law_word" "_law_word" s__law_word f fd ∧ mg "_law_word" = some (.ref f)
  f__law_writer : ∃ f fd, Fun K "_law_writer" "_law_writer" s__law_writer f fd ∧ mg "_law_writer" = some (.ref f)
  f__law_dashed : ∃ f fd, Fun K "_law_dashed" "_law_dashed" s__law_dashed f fd ∧ mg "_law_dashed" = some (.ref f)
  f__law_lines : ∃ f fd, Fun K "_law_lines" "_law_lines" s__law_lines f fd ∧ mg "_law_lines" = some (.ref f)
  f__law_parted : ∃ f fd, Fun K "_law_parted" "_law_parted" s__law_parted f fd ∧ mg "_law_parted" = some (.ref f)
  f__law_spoilt : ∃ f fd, Fun K "_law_spoilt" "_law_spoilt" s__law_spoilt f fd ∧ mg "_law_spoilt" = some (.ref f)
  f__law_word_of : ∃ f fd, Fun K "_law_word_of" "_law_word_of" s__law_word_of f fd ∧ mg "_law_word_of" = some (.ref f)
  f__law_row : ∃ f fd, Fun K "_law_row" "_law_row" s__law_row f fd ∧ mg "_law_row" = some (.ref f)
  f__law_due : ∃ f fd, Fun K "_law_due" "_law_due" s__law_due f fd ∧ mg "_law_due" = some (.ref f)
  f__law_told : ∃ f fd, Fun K "_law_told" "_law_told" s__law_told f fd ∧ mg "_law_told" = some (.ref f)
  f_law : ∃ f fd, Fun K "law" "law" s_law f fd ∧ mg "law" = some (.ref f)
  z_ValueError : mg "ValueError" = none
  z_int : mg "int" = none
  z_isinstance : mg "isinstance" = none
  z_len : mg "len" = none
  z_min : mg "min" = none
  z_range : mg "range" = none
  z_str : mg "str" = none
  z_tuple : mg "tuple" = none
  t_FIGURES : ∃ t, mg "FIGURES" = some (.str "0123456789" t)
  t_LETTERS : ∃ t, mg "LETTERS" = some (.str "abcd" t)
  t_LONGEST : ∃ t, mg "LONGEST" = some (.int 8 t)
  t_SIGNS : ∃ t, mg "SIGNS" = some (.int 4 t)
  t_STATES : ∃ t, mg "STATES" = some (.int 6 t)
  e_NoNote : ExcF K mg "NoNote"
  e_NoWriter : ExcF K mg "NoWriter"
  tab : ExcTab K mg ["NoNote"] ["NoSign", "NoRoom", "OtherSigns", "NoNote", "NoWriter", "NoPiece"]
  x_NoWriter : ExcSelf K mg "NoWriter"
section
variable {P : Program} {w : World} {K : PySem.W.Frag} {mg : Str → Option Value} {base : Heap}
theorem w_is_word (T : Txt K mg) : DFn P w K mg base 1 "is_word" 1 f_is_word := by
  obtain ⟨f, fd, F, hx⟩ := T.f_is_word
  obtain ⟨k_LETTERS, g_LETTERS⟩ := T.t_LETTERS
  obtain ⟨k_LONGEST, g_LONGEST⟩ := T.t_LONGEST
  refine DFn.mk' (k := 0) (N := N_is_word) F sc_is_word rfl hx (fun _ _ _ _ _ _ us hl => match us, hl with | [_], _ => rfl) (fun cdv A outer s H E hr tk hp => ?_)
  have nd := sc_is_word.nd
  exact (dss_one (ds_ret (de_and (de_cmp ox_le (de_cb cx_len rfl T.z_len PySem.boot_len (da_cons (dv 0) da_nil)) (de_globI rfl g_LONGEST) (nomark _)) (de_one (de_cmp (ox_eq hr.units) (de_ofL (dl_compIf [("letter", 1)] rfl rfl nd (di_any (dv 0)) (blkOk_by (own := [("letter", 1)]) (N := N_is_word) (sc := defScope s_is_word) (by decide +kernel)) (fun _ _ _ _ _ => (dg_name 1 nd)) (fun _ _ _ _ _ => (dt_cmp ox_ninS (dv 1) (de_globS rfl g_LETTERS) (by rfl))) (fun _ _ _ _ _ => (dv 1)) (by decide))) (de_ofL (dl_lst da_nil)) (nomark _))))))
theorem w_asked_writer (T : Txt K mg) : DFn P w K mg base 2 "asked_writer" 1 f_asked_writer := by
  obtain ⟨f, fd, F, hx⟩ := T.f_asked_writer
  obtain ⟨k_SIGNS, g_SIGNS⟩ := T.t_SIGNS
  obtain ⟨k_STATES, g_STATES⟩ := T.t_STATES
  refine DFn.mk' (k := 1) (N := N_asked_writer) F sc_asked_writer rfl hx (fun _ _ _ _ _ _ us hl => match us, hl with | [_], _ => rfl) (fun cdv A outer s H E hr tk hp => ?_)
  have nd := sc_asked_writer.nd
  exact (dss_cons (ds_asg (dg_tup rfl (dgs_cons (dg_name 1 nd) (dgs_cons (dg_name 2 nd) (dgs_cons (dg_name 3 nd) dgs_nil))) (gsl_cons (gsl_cons (gsl_cons (fun _ _ _ h => gsl_nil h))))) (dv 0))
  (dss_cons (ds_if (dt_w (dw_or (dt_cmp ox_lt (dv 1) de_int (nomark _)) (dw_or (dt_cmp ox_gt (dv 1) (de_globI rfl g_SIGNS) (nomark _)) (dw_or (dt_cmp ox_lt (de_cb cx_len rfl T.z_len PySem.boot_len (da_cons (dv 2) da_nil)) de_int (nomark _)) (dw_or (dt_cmp ox_gt (de_cb cx_len rfl T.z_len PySem.boot_len (da_cons (dv 2) da_nil)) (de_globI rfl g_STATES) (nomark _)) (dw_or1 (dt_cmp (ox_ne hr.units) (de_cb cx_len rfl T.z_len PySem.boot_len (da_cons (dv 3) da_nil)) (de_cb cx_len rfl T.z_len PySem.boot_len (da_cons (dv 2) da_nil)) (nomark _))))))))
   (dss_one (ds_raise T.e_NoWriter tk))
   dss_nil)
  (dss_cons (ds_for hp rfl (di_any (dv 2)) (dg_name 4 nd)
   (dss_cons (ds_if (dt_cmp (ox_ne hr.units) (de_cb cx_len rfl T.z_len PySem.boot_len (da_cons (dv 4) da_nil)) (dv 1) (nomark _))
   (dss_one (ds_raise T.e_NoWriter tk))
   dss_nil)
  (dss_one (ds_for hp rfl (di_any (dv 4)) (dg_tup rfl (dgs_cons (dg_name 5 nd) (dgs_cons (dg_name 6 nd) dgs_nil)) (gsl_cons (gsl_cons (fun _ _ _ h => gsl_nil h))))
   (dss_one (ds_if (dt_w (dw_or (dt_not (dt_val (de_call (w_is_word T) hr (by decide) tk (da_cons (dv 5) da_nil)))) (dw_or (dt_cmp ox_lt (dv 6) de_int (nomark _)) (dw_or1 (dt_cmp ox_ge (dv 6) (de_cb cx_len rfl T.z_len PySem.boot_len (da_cons (dv 2) da_nil)) (nomark _))))))
   (dss_one (ds_raise T.e_NoWriter tk))
   dss_nil))))))
  (dss_one (ds_for hp rfl (di_any (dv 3)) (dg_name 5 nd)
   (dss_one (ds_if (dt_not (dt_val (de_call (w_is_word T) hr (by decide) tk (da_cons (dv 5) da_nil))))
   (dss_one (ds_raise T.e_NoWriter tk))
   dss_nil)))))))
theorem w_asked_writerZ (T : Txt K mg) : DFnZ P w K mg base 2 "asked_writer" 1 f_asked_writerZ := by
  obtain ⟨f, fd, F, hx⟩ := T.f_asked_writer
  obtain ⟨k_SIGNS, g_SIGNS⟩ := T.t_SIGNS
  obtain ⟨k_STATES, g_STATES⟩ := T.t_STATES
  refine DFnZ.mk' (k := 1) (N := N_asked_writer) F sc_asked_writer rfl hx (fun _ _ _ _ _ _ us hl => match us, hl with | [_], _ => rfl) (fun cdv A outer s H E hr tk hp => ?_)
  have nd := sc_asked_writer.nd
  exact (dss_cons (ds_asg (dg_tup rfl (dgs_cons (dg_name 1 nd) (dgs_cons (dg_name 2 nd) (dgs_cons (dg_name 3 nd) dgs_nil))) (gsl_cons (gsl_cons (gsl_cons (fun _ _ _ h => gsl_nil h))))) (dv 0))
  (dss_cons (ds_if (dt_w (dw_or (dt_cmp ox_lt (dv 1) de_int (nomark _)) (dw_or (dt_cmp ox_gt (dv 1) (de_globI rfl g_SIGNS) (nomark _)) (dw_or (dt_cmp ox_lt (de_cb cx_len rfl T.z_len PySem.boot_len (da_cons (dv 2) da_nil)) de_int (nomark _)) (dw_or (dt_cmp ox_gt (de_cb cx_len rfl T.z_len PySem.boot_len (da_cons (dv 2) da_nil)) (de_globI rfl g_STATES) (nomark _)) (dw_or1 (dt_cmp (ox_ne hr.units) (de_cb cx_len rfl T.z_len PySem.boot_len (da_cons (dv 3) da_nil)) (de_cb cx_len rfl T.z_len PySem.boot_len (da_cons (dv 2) da_nil)) (nomark _))))))))
   (dss_one (ds_raiseZ T.e_NoWriter tk))
   dss_nil)
  (dss_cons (ds_for hp rfl (di_any (dv 2)) (dg_name 4 nd)
   (dss_cons (ds_if (dt_cmp (ox_ne hr.units) (de_cb cx_len rfl T.z_len PySem.boot_len (da_cons (dv 4) da_nil)) (dv 1) (nomark _))
   (dss_one (ds_raiseZ T.e_NoWriter tk))
   dss_nil)
  (dss_one (ds_for hp rfl (di_any (dv 4)) (dg_tup rfl (dgs_cons (dg_name 5 nd) (dgs_cons (dg_name 6 nd) dgs_nil)) (gsl_cons (gsl_cons (fun _ _ _ h => gsl_nil h))))
   (dss_one (ds_if (dt_w (dw_or (dt_not (dt_val (de_noEx (de_call (w_is_word T) hr (by decide) takes_suite (da_cons (dv 5) da_nil))))) (dw_or (dt_cmp ox_lt (dv 6) de_int (nomark _)) (dw_or1 (dt_cmp ox_ge (dv 6) (de_cb cx_len rfl T.z_len PySem.boot_len (da_cons (dv 2) da_nil)) (nomark _))))))
   (dss_one (ds_raiseZ T.e_NoWriter tk))
   dss_nil))))))
  (dss_one (ds_for hp rfl (di_any (dv 3)) (dg_name 5 nd)
   (dss_one (ds_if (dt_not (dt_val (de_noEx (de_call (w_is_word T) hr (by decide) takes_suite (da_cons (dv 5) da_nil)))))
   (dss_one (ds_raiseZ T.e_NoWriter tk))
   dss_nil)))))))
theorem w_word_of (T : Txt K mg) : DFn P w K mg base 1 "word_of" 1 f_word_of := by
  obtain ⟨f, fd, F, hx⟩ := T.f_word_of
  refine DFn.mk' (k := 0) (N := N_word_of) F sc_word_of rfl hx (fun _ _ _ _ _ _ us hl => match us, hl with | [_], _ => rfl) (fun cdv A outer s H E hr tk hp => ?_)
  have nd := sc_word_of.nd
  exact (dss_cons (ds_if (dt_cmp (ox_eq hr.units) (dv 0) de_str (nomark _))
   (dss_one (ds_ret de_str))
   dss_nil)
  (dss_cons (ds_if (dt_cmp (ox_eq hr.units) (dv 0) de_str (nomark _))
   (dss_one (ds_raise T.e_NoNote tk))
   dss_nil)
  (dss_one (ds_ret (dv 0)))))
theorem w_pair_of (T : Txt K mg) : DFn P w K mg base 2 "pair_of" 1 f_pair_of := by
  obtain ⟨f, fd, F, hx⟩ := T.f_pair_of
  obtain ⟨k_FIGURES, g_FIGURES⟩ := T.t_FIGURES
  refine DFn.mk' (k := 1) (N := N_pair_of) F sc_pair_of rfl hx (fun _ _ _ _ _ _ us hl => match us, hl with | [_], _ => rfl) (fun cdv A outer s H E hr tk hp => ?_)
  have nd := sc_pair_of.nd
  exact (dss_cons (ds_set 1 nd (de_ofL (dl_split (dv 0) de_str)))
  (dss_cons (ds_if (dt_w (dw_or (dt_cmp (ox_ne hr.units) (de_cb cx_len rfl T.z_len PySem.boot_len (da_cons (dv 1) da_nil)) de_int (nomark _)) (dw_or (dt_cmp (ox_ne hr.units) (de_cb cx_len rfl T.z_len PySem.boot_len (da_cons (de_ix (dv 1) de_int) da_nil)) de_int (nomark _)) (dw_or1 (dt_cmp ox_ninS (de_ix (dv 1) de_int) (de_globS rfl g_FIGURES) (by rfl))))))
   (dss_one (ds_raise T.e_NoNote tk))
   dss_nil)
  (dss_one (ds_ret (de_tup (da_cons (de_call (w_word_of T) hr (by decide) tk (da_cons (de_ix (dv 1) de_int) da_nil)) (da_cons (de_ct cx_intA rfl T.z_int boot_int (da_cons (de_ix (dv 1) de_int) da_nil)) da_nil)))))))
theorem w_read (T : Txt K mg) : DFn P w K mg base 3 "read" 1 f_read := by
  obtain ⟨f, fd, F, hx⟩ := T.f_read
  refine DFn.mk' (k := 2) (N := N_read) F sc_read rfl hx (fun _ _ _ _ _ _ us hl => match us, hl with | [_], _ => rfl) (fun cdv A outer s H E hr tk hp => ?_)
  have nd := sc_read.nd
  exact (dss_cons (ds_own 1 nd (dl_lst da_nil))
  (dss_cons (ds_own 2 nd (dl_lst da_nil))
  (dss_cons (ds_for hp rfl (di_any (de_ofL (dl_split (dv 0) de_str))) (dg_name 3 nd)
   (dss_cons (ds_set 4 nd (de_ofL (dl_split (dv 3) de_str)))
  (dss_cons (ds_app 1 (de_ct cx_tup rfl T.z_tuple boot_tuple (da_cons (de_ofL (dl_compX [("part", 6)] rfl rfl nd tk (di_any (de_slice (dv 4) do_none (do_some (de_neg de_int)))) (blkOk_by (own := [("part", 6)]) (N := N_read) (sc := defScope s_read) (by decide +kernel)) (fun _ _ _ _ _ _ => (dg_name 6 nd)) (fun W1 _ _ _ _ _ _ tk => (de_call (w_pair_of T) hr (by decide) tk (da_cons (dv 6) da_nil))) (by decide))) da_nil)))
  (dss_one (ds_app 2 (de_call (w_word_of T) hr (by decide) tk (da_cons (de_ix (dv 4) (de_neg de_int)) da_nil)))))))
  (dss_cons (ds_frz 2 (ds_frz 1 (ds_set 5 nd (de_tup (da_cons (de_cb cx_len rfl T.z_len PySem.boot_len (da_cons (de_ix (dv 1) de_int) da_nil)) (da_cons (de_ct cx_tup rfl T.z_tuple boot_tuple (da_cons (dv 1) da_nil)) (da_cons (de_ct cx_tup rfl T.z_tuple boot_tuple (da_cons (dv 2) da_nil)) da_nil)))))))
  (dss_cons (by
  obtain ⟨DW, mW, hW⟩ := T.x_NoWriter
  exact ds_tryX ⟨rfl, by decide, .inl mW⟩ mW hW (L2H.passesAt_of rfl) tk (fun W' pn xe tkN hp => (dss_one (ds_expr (de_callZ (w_asked_writerZ T) hr (by decide) tkN (da_cons (dv 5) da_nil)))))
   (fun a oe pn tkS hot => (dss_one (ds_raiseH T.e_NoNote tkS hot))))
  (dss_one (ds_ret (dv 5))))))))
theorem w__law_cell_at (T : Txt K mg) : DFn P w K mg base 1 "_law_cell_at" 2 f__law_cell_at := by
  obtain ⟨f, fd, F, hx⟩ := T.f__law_cell_at
  refine DFn.mk' (k := 0) (N := N__law_cell_at) F sc__law_cell_at rfl hx (fun _ _ _ _ _ _ us hl => match us, hl with | [_, _], _ => rfl) (fun cdv A outer s H E hr tk hp => ?_)
  have nd := sc__law_cell_at.nd
  exact (dss_cons (ds_if (dt_cmp ox_lt (dv 1) (de_cb cx_len rfl T.z_len PySem.boot_len (da_cons (dv 0) da_nil)) (nomark _))
   (dss_one (ds_ret (de_ix (dv 0) (dv 1))))
   dss_nil)
  (dss_one (ds_ret de_int)))
theorem w__law_stirred (T : Txt K mg) : DFn P w K mg base 1 "_law_stirred" 2 f__law_stirred := by
  obtain ⟨f, fd, F, hx⟩ := T.f__law_stirred
  refine DFn.mk' (k := 0) (N := N__law_stirred) F sc__law_stirred rfl hx (fun _ _ _ _ _ _ us hl => match us, hl with | [_, _], _ => rfl) (fun cdv A outer s H E hr tk hp => ?_)
  have nd := sc__law_stirred.nd
  exact (dss_cons (ds_set 2 nd (de_bin ox_mod (de_bin ox_mul (de_bin ox_add (de_bin ox_add (dv 0) (de_bin ox_mul de_int (dv 1))) de_int) de_int) de_int))
  (dss_cons (ds_set 2 nd (de_bin ox_mod (de_bin ox_mul (dv 2) (dv 2)) de_int))
  (dss_one (ds_ret (de_bin ox_fdiv (de_bin ox_mod (de_bin ox_mul (dv 2) de_int) de_int) de_int)))))
theorem w__law_word (T : Txt K mg) : DFn P w K mg base 1 "_law_word" 3 f__law_word := by
  obtain ⟨f, fd, F, hx⟩ := T.f__law_word
  refine DFn.mk' (k := 0) (N := N__law_word) F sc__law_word rfl hx (fun _ _ _ _ _ _ us hl => match us, hl with | [_, _, _], _ => rfl) (fun cdv A outer s H E hr tk hp => ?_)
  have nd := sc__law_word.nd
  exact (dss_cons (ds_set 3 nd (de_bin ox_mod (dv 0) (de_bin ox_add (dv 1) de_int)))
  (dss_cons (ds_set 0 nd (de_bin ox_fdiv (dv 0) (de_bin ox_add (dv 1) de_int)))
  (dss_cons (ds_set 4 nd de_str)
  (dss_cons (ds_for hp rfl (di_rng1 T.z_range (da_cons (dv 3) da_nil)) (dg_name 5 nd)
   (dss_cons (ds_set 4 nd (de_bin ox_add (dv 4) (de_ix de_str (de_bin ox_mod (dv 0) (dv 2)))))
  (dss_one (ds_set 0 nd (de_bin ox_fdiv (dv 0) (dv 2))))))
  (dss_one (ds_ret (de_tup (da_cons (dv 4) (da_cons (dv 0) da_nil)))))))))
theorem w__law_writer (T : Txt K mg) : DFn P w K mg base 2 "_law_writer" 3 f__law_writer := by
  obtain ⟨f, fd, F, hx⟩ := T.f__law_writer
  refine DFn.mk' (k := 1) (N := N__law_writer) F sc__law_writer rfl hx (fun _ _ _ _ _ _ us hl => match us, hl with | [_, _, _], _ => rfl) (fun cdv A outer s H E hr tk hp => ?_)
  have nd := sc__law_writer.nd
  exact (dss_cons (ds_set 3 nd (de_call (w__law_cell_at T) hr (by decide) tk (da_cons (dv 0) (da_cons (dv 1) da_nil))))
  (dss_cons (ds_set 4 nd (de_bin ox_add de_int (de_bin ox_mod (de_bin ox_fdiv (dv 3) de_int) (de_ix (dv 2) de_int))))
  (dss_cons (ds_set 5 nd (de_bin ox_mod (de_bin ox_fdiv (dv 3) de_int) (de_bin ox_add (de_ix (dv 2) de_int) de_int)))
  (dss_cons (ds_set 6 nd (de_bin ox_add de_int (de_bin ox_mod (de_bin ox_fdiv (dv 3) de_int) de_int)))
  (dss_cons (ds_set 7 nd (de_call (w__law_cell_at T) hr (by decide) tk (da_cons (dv 0) (da_cons (de_bin ox_add (dv 1) de_int) da_nil))))
  (dss_cons (ds_set 8 nd (dv 7))
  (dss_cons (ds_own 9 nd (dl_lst da_nil))
  (dss_cons (ds_own 10 nd (dl_lst da_nil))
  (dss_cons (ds_for hp rfl (di_rng1 T.z_range (da_cons (dv 4) da_nil)) (dg_name 11 nd)
   (dss_cons (ds_own 12 nd (dl_lst da_nil))
  (dss_cons (ds_for hp rfl (di_rng1 T.z_range (da_cons (de_bin ox_add de_int (de_bin ox_mod (dv 3) (de_ix (dv 2) de_int))) da_nil)) (dg_name 13 nd)
   (dss_cons (ds_if (dt_cmp (ox_eq hr.units) (de_bin ox_mod (de_bin ox_fdiv (dv 3) de_int) de_int) de_int (nomark _))
   (dss_one (ds_set 8 nd (de_call (w__law_stirred T) hr (by decide) tk (da_cons (dv 7) (da_cons (de_bin ox_add (de_bin ox_mul de_int (dv 11)) (de_bin ox_mul de_int (dv 13))) da_nil)))))
   dss_nil)
  (dss_cons (ds_set 14 nd (de_bin ox_mod (dv 8) (dv 4)))
  (dss_cons (ds_asg (dg_tup rfl (dgs_cons (dg_name 15 nd) (dgs_cons (dg_name 8 nd) dgs_nil)) (gsl_cons (gsl_cons (fun _ _ _ h => gsl_nil h)))) (de_call (w__law_word T) hr (by decide) tk (da_cons (de_bin ox_fdiv (dv 8) (dv 4)) (da_cons (dv 5) (da_cons (dv 6) da_nil)))))
  (dss_one (ds_app 12 (de_tup (da_cons (dv 15) (da_cons (dv 14) da_nil)))))))))
  (dss_cons (ds_frz 12 (ds_app 9 (de_ct cx_tup rfl T.z_tuple boot_tuple (da_cons (dv 12) da_nil))))
  (dss_cons (ds_if (dt_cmp (ox_eq hr.units) (de_bin ox_mod (de_bin ox_fdiv (dv 3) de_int) de_int) de_int (nomark _))
   (dss_one (ds_set 8 nd (de_call (w__law_stirred T) hr (by decide) tk (da_cons (dv 7) (da_cons (de_bin ox_add (de_bin ox_mul de_int (dv 11)) de_int) da_nil)))))
   dss_nil)
  (dss_cons (ds_asg (dg_tup rfl (dgs_cons (dg_name 15 nd) (dgs_cons (dg_name 8 nd) dgs_nil)) (gsl_cons (gsl_cons (fun _ _ _ h => gsl_nil h)))) (de_call (w__law_word T) hr (by decide) tk (da_cons (dv 8) (da_cons (de_cb (cx_min2 rfl) rfl T.z_min boot_min (da_cons (dv 5) (da_cons (de_bin ox_add de_int (de_bin ox_mod (de_bin ox_fdiv (dv 3) de_int) de_int)) da_nil))) (da_cons (dv 6) da_nil)))))
  (dss_one (ds_app 10 (dv 15)))))))))
  (dss_one (ds_frz 10 (ds_frz 9 (ds_ret (de_tup (da_cons (de_bin ox_add de_int (de_bin ox_mod (dv 3) (de_ix (dv 2) de_int))) (da_cons (de_ct cx_tup rfl T.z_tuple boot_tuple (da_cons (dv 9) da_nil)) (da_cons (de_ct cx_tup rfl T.z_tuple boot_tuple (da_cons (dv 10) da_nil)) da_nil)))))))))))))))))
theorem w__law_dashed (T : Txt K mg) : DFn P w K mg base 1 "_law_dashed" 1 f__law_dashed := by
  obtain ⟨f, fd, F, hx⟩ := T.f__law_dashed
  refine DFn.mk' (k := 0) (N := N__law_dashed) F sc__law_dashed rfl hx (fun _ _ _ _ _ _ us hl => match us, hl with | [_], _ => rfl) (fun cdv A outer s H E hr tk hp => ?_)
  have nd := sc__law_dashed.nd
  exact (dss_cons (ds_if (dt_cmp (ox_eq hr.units) (dv 0) de_str (nomark _))
   (dss_one (ds_ret de_str))
   dss_nil)
  (dss_one (ds_ret (dv 0))))
theorem w__law_lines (T : Txt K mg) : DFn P w K mg base 2 "_law_lines" 1 f__law_lines := by
  obtain ⟨f, fd, F, hx⟩ := T.f__law_lines
  refine DFn.mk' (k := 1) (N := N__law_lines) F sc__law_lines rfl hx (fun _ _ _ _ _ _ us hl => match us, hl with | [_], _ => rfl) (fun cdv A outer s H E hr tk hp => ?_)
  have nd := sc__law_lines.nd
  exact (dss_cons (ds_own 1 nd (dl_lst da_nil))
  (dss_cons (ds_for hp rfl (di_rng1 T.z_range (da_cons (de_cb cx_len rfl T.z_len PySem.boot_len (da_cons (de_ix (dv 0) de_int) da_nil)) da_nil)) (dg_name 2 nd)
   (dss_cons (ds_setC 3 (own := [("word", 4), ("after", 5)]) nd rfl rfl (sw_true rfl rfl rfl (by decide +kernel)) (di_any (de_ix (de_ix (dv 0) de_int) (dv 2))) (blkOk_by (own := [("word", 4), ("after", 5)]) (N := N__law_lines) (sc := defScope s__law_lines) (by decide +kernel)) (fun _ _ _ _ _ => (dg_tup rfl (dgs_cons (dg_name 4 nd) (dgs_cons (dg_name 5 nd) dgs_nil)) (gsl_cons (gsl_cons (fun _ _ _ h => gsl_nil h))))) (fun _ _ _ _ _ => pts_no) (fun _ _ _ _ _ => (de_bin ox_add (de_bin ox_add (de_call (w__law_dashed T) hr (by decide) takes0 (da_cons (dv 4) da_nil)) de_str) (de_ct cx_str rfl T.z_str boot_str (da_cons (dv 5) da_nil)))) (by decide))
  (dss_one (ds_app 1 (de_join de_str (de_bin ox_add (dv 3) (de_ofL (dl_lst (da_cons (de_call (w__law_dashed T) hr (by decide) tk (da_cons (de_ix (de_ix (dv 0) de_int) (dv 2)) da_nil)) da_nil)))))))))
  (dss_one (ds_frz 1 (ds_ret (dv 1))))))
theorem w__law_parted (T : Txt K mg) : DFn P w K mg base 1 "_law_parted" 3 f__law_parted := by
  obtain ⟨f, fd, F, hx⟩ := T.f__law_parted
  refine DFn.mk' (k := 0) (N := N__law_parted) F sc__law_parted rfl hx (fun _ _ _ _ _ _ us hl => match us, hl with | [_, _, _], _ => rfl) (fun cdv A outer s H E hr tk hp => ?_)
  have nd := sc__law_parted.nd
  exact (dss_cons (ds_set 3 nd (de_ofL (dl_split (dv 0) de_str)))
  (dss_cons (ds_set 4 nd (de_ofL (dl_lst (da_cons de_str (da_cons de_str (da_cons de_str (da_cons de_str (da_cons de_str (da_cons de_str (da_cons de_str (da_cons de_str (da_cons de_str (da_cons de_str (da_cons de_str (da_cons de_str da_nil)))))))))))))))
  (dss_cons (ds_set 5 nd (de_bin ox_mod (dv 2) (de_bin ox_add (de_cb cx_len rfl T.z_len PySem.boot_len (da_cons (dv 3) da_nil)) de_int)))
  (dss_cons (ds_set 6 nd (de_ix (dv 4) (de_bin ox_mod (de_bin ox_fdiv (dv 2) de_int) de_int)))
  (dss_cons (ds_if (dt_cmp (ox_eq hr.units) (dv 1) de_int (nomark _))
   (dss_one (ds_ret (de_join de_str (de_bin ox_add (de_bin ox_add (de_slice (dv 3) do_none (do_some (dv 5))) (de_ofL (dl_lst (da_cons (dv 6) da_nil)))) (de_slice (dv 3) (do_some (dv 5)) do_none)))))
   dss_nil)
  (dss_one (ds_ret (de_join de_str (de_bin ox_add (de_bin ox_add (de_slice (dv 3) do_none (do_some (dv 5))) (de_ofL (dl_lst (da_cons (dv 6) da_nil)))) (de_slice (dv 3) (do_some (de_bin ox_add (dv 5) de_int)) do_none))))))))))
theorem w__law_spoilt (T : Txt K mg) : DFn P w K mg base 3 "_law_spoilt" 3 f__law_spoilt := by
  obtain ⟨f, fd, F, hx⟩ := T.f__law_spoilt
  refine DFn.mk' (k := 2) (N := N__law_spoilt) F sc__law_spoilt rfl hx (fun _ _ _ _ _ _ us hl => match us, hl with | [_, _, _], _ => rfl) (fun cdv A outer s H E hr tk hp => ?_)
  have nd := sc__law_spoilt.nd
  exact (dss_cons (ds_ownCall 3 (w__law_lines T) hr (by decide) tk (da_cons (dv 0) da_nil) nd)
  (dss_cons (ds_set 4 nd (de_still (de_join de_str (dv 3))))
  (dss_cons (ds_set 5 nd (de_bin ox_mod (dv 2) (de_bin ox_add (de_cb cx_len rfl T.z_len PySem.boot_len (da_cons (dv 4) da_nil)) de_int)))
  (dss_cons (ds_set 6 nd (de_ix de_str (de_bin ox_mod (de_bin ox_fdiv (dv 2) de_int) de_int)))
  (dss_cons (ds_set 7 nd (de_bin ox_mod (dv 2) (de_lenO 3 T.z_len)))
  (dss_cons (ds_if (dt_cmp (ox_eq hr.units) (dv 1) de_int (nomark _))
   (dss_one (ds_ret (de_bin ox_add (de_bin ox_add (de_slice (dv 4) do_none (do_some (dv 5))) (dv 6)) (de_slice (dv 4) (do_some (dv 5)) do_none))))
   dss_nil)
  (dss_cons (ds_if (dt_cmp (ox_eq hr.units) (dv 1) de_int (nomark _))
   (dss_one (ds_ret (de_bin ox_add (de_bin ox_add (de_slice (dv 4) do_none (do_some (dv 5))) (dv 6)) (de_slice (dv 4) (do_some (de_bin ox_add (dv 5) de_int)) do_none))))
   dss_nil)
  (dss_cons (ds_if (dt_cmp (ox_eq hr.units) (dv 1) de_int (nomark _))
   (dss_one (ds_ret (de_bin ox_add (de_slice (dv 4) do_none (do_some (dv 5))) (de_slice (dv 4) (do_some (de_bin ox_add (dv 5) de_int)) do_none))))
   dss_nil)
  (dss_cons (ds_if (dt_w (dw_or (dt_cmp (ox_eq hr.units) (dv 1) de_int (nomark _)) (dw_or1 (dt_cmp (ox_eq hr.units) (dv 1) de_int (nomark _)))))
   (dss_one (ds_setO 3 (dv 7) (de_call (w__law_parted T) hr (by decide) tk (da_cons (de_ixO 3 (dv 7)) (da_cons (dv 1) (da_cons (de_bin ox_fdiv (dv 2) de_int) da_nil))))))
   dss_nil)
  (dss_cons (ds_if (dt_cmp (ox_eq hr.units) (dv 1) de_int (nomark _))
   (dss_one (ds_popO 3 (dv 7)))
   dss_nil)
  (dss_cons (ds_if (dt_cmp (ox_eq hr.units) (dv 1) de_int (nomark _))
   (dss_one (ds_insO 3 (da_cons (dv 7) (da_cons (de_ixO 3 (dv 7)) da_nil))))
   dss_nil)
  (dss_cons (ds_if (dt_cmp (ox_eq hr.units) (dv 1) de_int (nomark _))
   (dss_one (ds_insO 3 (da_cons (dv 7) (da_cons de_str da_nil))))
   dss_nil)
  (dss_cons (ds_if (dt_cmp (ox_eq hr.units) (dv 1) de_int (nomark _))
   (dss_one (ds_setO 3 (dv 7) (de_bin ox_add (de_ixO 3 (dv 7)) de_str)))
   dss_nil)
  (dss_cons (ds_if (dt_cmp (ox_eq hr.units) (dv 1) de_int (nomark _))
   (dss_one (ds_ret (de_ix (de_ofL (dl_lst (da_cons de_str (da_cons de_str (da_cons de_str (da_cons de_str (da_cons de_str da_nil))))))) (de_bin ox_mod (dv 2) de_int))))
   dss_nil)
  (dss_cons (ds_if (dt_cmp (ox_eq hr.units) (dv 1) de_int (nomark _))
   (dss_cons (ds_set 8 nd (de_ix (de_ofL (dl_lst (da_cons de_int (da_cons de_int (da_cons de_int (da_cons de_int (da_cons de_int da_nil))))))) (de_bin ox_mod (dv 2) de_int)))
  (dss_cons (ds_set 9 nd (de_ix (de_ofL (dl_lst (da_cons de_int (da_cons de_int (da_cons de_int (da_cons de_int (da_cons de_int da_nil))))))) (de_bin ox_mod (dv 2) de_int)))
  (dss_cons (ds_set 10 nd (de_join de_str (de_bin ox_add (de_ofL (dl_comp [("sign", 11)] rfl rfl nd (di_rng1 T.z_range (da_cons (dv 8) da_nil)) (blkOk_by (own := [("sign", 11)]) (N := N__law_spoilt) (sc := defScope s__law_spoilt) (by decide +kernel)) (fun _ _ _ _ _ => (dg_name 11 nd)) (fun _ _ _ _ _ => de_str) (by decide))) (de_ofL (dl_lst (da_cons de_str da_nil))))))
  (dss_one (ds_ret (de_join de_str (de_ofL (dl_comp [("state", 12)] rfl rfl nd (di_rng1 T.z_range (da_cons (dv 9) da_nil)) (blkOk_by (own := [("state", 12)]) (N := N__law_spoilt) (sc := defScope s__law_spoilt) (by decide +kernel)) (fun _ _ _ _ _ => (dg_name 12 nd)) (fun _ _ _ _ _ => (dv 10)) (by decide)))))))))
   dss_nil)
  (dss_one (ds_frz 3 (ds_ret (de_join de_str (dv 3))))))))))))))))))))
theorem w__law_word_of (T : Txt K mg) : DFn P w K mg base 1 "_law_word_of" 1 f__law_word_of := by
  obtain ⟨f, fd, F, hx⟩ := T.f__law_word_of
  refine DFn.mk' (k := 0) (N := N__law_word_of) F sc__law_word_of rfl hx (fun _ _ _ _ _ _ us hl => match us, hl with | [_], _ => rfl) (fun cdv A outer s H E hr tk hp => ?_)
  have nd := sc__law_word_of.nd
  exact (dss_cons (ds_if (dt_cmp (ox_eq hr.units) (dv 0) de_str (nomark _))
   (dss_one (ds_ret de_str))
   dss_nil)
  (dss_cons (ds_for hp rfl (di_any (dv 0)) (dg_name 1 nd)
   (dss_one (ds_if (dt_cmp ox_ninS (dv 1) de_str (by rfl))
   (dss_one (ds_ret de_non))
   dss_nil)))
  (dss_cons (ds_if (dt_w (dw_or (dt_cmp ox_lt (de_cb cx_len rfl T.z_len PySem.boot_len (da_cons (dv 0) da_nil)) de_int (nomark _)) (dw_or1 (dt_cmp ox_gt (de_cb cx_len rfl T.z_len PySem.boot_len (da_cons (dv 0) da_nil)) de_int (nomark _)))))
   (dss_one (ds_ret de_non))
   dss_nil)
  (dss_one (ds_ret (dv 0))))))
theorem w__law_row (T : Txt K mg) : DFn P w K mg base 2 "_law_row" 2 f__law_row := by
  obtain ⟨f, fd, F, hx⟩ := T.f__law_row
  refine DFn.mk' (k := 1) (N := N__law_row) F sc__law_row rfl hx (fun _ _ _ _ _ _ us hl => match us, hl with | [_, _], _ => rfl) (fun cdv A outer s H E hr tk hp => ?_)
  have nd := sc__law_row.nd
  exact (dss_cons (ds_own 2 nd (dl_lst da_nil))
  (dss_cons (ds_for hp rfl (di_any (dv 0)) (dg_name 3 nd)
   (dss_cons (ds_set 4 nd (de_ofL (dl_split (dv 3) de_str)))
  (dss_cons (ds_if (dt_w (dw_or (dt_cmp (ox_ne hr.units) (de_cb cx_len rfl T.z_len PySem.boot_len (da_cons (dv 4) da_nil)) de_int (nomark _)) (dw_or (dt_cmp (ox_ninL (u65 hr)) (de_ix (dv 4) de_int) (de_ofL (dl_comp [("state", 5)] rfl rfl nd (di_rng1 T.z_range (da_cons (dv 1) da_nil)) (blkOk_by (own := [("state", 5)]) (N := N__law_row) (sc := defScope s__law_row) (by decide +kernel)) (fun _ _ _ _ _ => (dg_name 5 nd)) (fun _ _ _ _ _ => (de_ct cx_str rfl T.z_str boot_str (da_cons (dv 5) da_nil))) (by decide))) (by rfl)) (dw_or1 (dt_cmp ox_isN (de_call (w__law_word_of T) hr (by decide) tk (da_cons (de_ix (dv 4) de_int) da_nil)) de_non (nomark _))))))
   (dss_one (ds_ret de_non))
   dss_nil)
  (dss_one (ds_app 2 (de_tup (da_cons (de_call (w__law_word_of T) hr (by decide) tk (da_cons (de_ix (dv 4) de_int) da_nil)) (da_cons (de_ct cx_intA rfl T.z_int boot_int (da_cons (de_ix (dv 4) de_int) da_nil)) da_nil))))))))
  (dss_one (ds_frz 2 (ds_ret (de_ct cx_tup rfl T.z_tuple boot_tuple (da_cons (dv 2) da_nil)))))))
theorem w__law_due (T : Txt K mg) : DFn P w K mg base 3 "_law_due" 1 f__law_due := by
  obtain ⟨f, fd, F, hx⟩ := T.f__law_due
  refine DFn.mk' (k := 2) (N := N__law_due) F sc__law_due rfl hx (fun _ _ _ _ _ _ us hl => match us, hl with | [_], _ => rfl) (fun cdv A outer s H E hr tk hp => ?_)
  have nd := sc__law_due.nd
  exact (dss_cons (ds_set 1 nd (de_ofL (dl_comp [("line", 4)] rfl rfl nd (di_any (de_ofL (dl_split (dv 0) de_str))) (blkOk_by (own := [("line", 4)]) (N := N__law_due) (sc := defScope s__law_due) (by decide +kernel)) (fun _ _ _ _ _ => (dg_name 4 nd)) (fun _ _ _ _ _ => (de_ofL (dl_split (dv 4) de_str))) (by decide))))
  (dss_cons (ds_if (dt_w (dw_or (dt_cmp ox_gt (de_cb cx_len rfl T.z_len PySem.boot_len (da_cons (dv 1) da_nil)) de_int (nomark _)) (dw_or (dt_cmp ox_lt (de_cb cx_len rfl T.z_len PySem.boot_len (da_cons (de_ix (dv 1) de_int) da_nil)) de_int (nomark _)) (dw_or1 (dt_cmp ox_gt (de_cb cx_len rfl T.z_len PySem.boot_len (da_cons (de_ix (dv 1) de_int) da_nil)) de_int (nomark _))))))
   (dss_one (ds_ret de_non))
   dss_nil)
  (dss_cons (ds_set 2 nd (de_ofL (dl_comp [("parts", 5)] rfl rfl nd (di_any (dv 1)) (blkOk_by (own := [("parts", 5)]) (N := N__law_due) (sc := defScope s__law_due) (by decide +kernel)) (fun _ _ _ _ _ => (dg_name 5 nd)) (fun _ _ _ _ _ => (de_call (w__law_row T) hr (by decide) takes0 (da_cons (de_slice (dv 5) do_none (do_some (de_neg de_int))) (da_cons (de_cb cx_len rfl T.z_len PySem.boot_len (da_cons (dv 1) da_nil)) da_nil)))) (by decide))))
  (dss_cons (ds_setC 3 (own := [("parts", 5)]) nd rfl rfl (sw_true rfl rfl rfl (by decide +kernel)) (di_any (dv 1)) (blkOk_by (own := [("parts", 5)]) (N := N__law_due) (sc := defScope s__law_due) (by decide +kernel)) (fun _ _ _ _ _ => (dg_name 5 nd)) (fun _ _ _ _ _ => pts_no) (fun _ _ _ _ _ => (de_call (w__law_word_of T) hr (by decide) takes0 (da_cons (de_ix (dv 5) (de_neg de_int)) da_nil))) (by decide))
  (dss_cons (ds_if (dt_w (dw_or (dt_cmp (ox_inL (u65 hr)) de_non (dv 2) (by rfl)) (dw_or (dt_cmp (ox_inL (u65 hr)) de_non (dv 3) (by rfl)) (dw_or1 (dt_cmp ox_gt (de_cb cx_len rfl T.z_len PySem.boot_len (da_cons (de_ofL (dl_compIf [("row", 6)] rfl rfl nd (di_any (dv 2)) (blkOk_by (own := [("row", 6)]) (N := N__law_due) (sc := defScope s__law_due) (by decide +kernel)) (fun _ _ _ _ _ => (dg_name 6 nd)) (fun _ _ _ _ _ => (dt_cmp (ox_ne hr.units) (de_cb cx_len rfl T.z_len PySem.boot_len (da_cons (dv 6) da_nil)) (de_cb cx_len rfl T.z_len PySem.boot_len (da_cons (de_ix (dv 2) de_int) da_nil)) (nomark _))) (fun _ _ _ _ _ => (dv 6)) (by decide))) da_nil)) de_int (nomark _))))))
   (dss_one (ds_ret de_non))
   dss_nil)
  (dss_one (ds_ret (de_tup (da_cons (de_cb cx_len rfl T.z_len PySem.boot_len (da_cons (de_ix (dv 2) de_int) da_nil)) (da_cons (de_ct cx_tup rfl T.z_tuple boot_tuple (da_cons (dv 2) da_nil)) (da_cons (de_ct cx_tup rfl T.z_tuple boot_tuple (da_cons (dv 3) da_nil)) da_nil)))))))))))
theorem w__law_told (T : Txt K mg) : DFn P w K mg base 4 "_law_told" 1 f__law_told := by
  obtain ⟨f, fd, F, hx⟩ := T.f__law_told
  refine DFn.mk' (k := 3) (N := N__law_told) F sc__law_told rfl hx (fun _ _ _ _ _ _ us hl => match us, hl with | [_], _ => rfl) (fun cdv A outer s H E hr tk hp => ?_)
  have nd := sc__law_told.nd
  exact (dss_one (by
  obtain ⟨DW, mW, hW⟩ := T.tab.werr
  exact ds_tryAs 1 (cs := ["NoNote"]) nd ⟨rfl, by decide, .inl mW⟩ tk hW (fun W' pn xe tk hp => (dss_one (ds_ret (de_tup (da_cons de_int (da_cons (de_call (w_read T) hr (by decide) tk (da_cons (dv 0) da_nil)) da_nil))))))
   (fun c hc a oe pn D hm hz hfl => by
    have EC := T.tab.ec hc hm
    obtain ⟨D_NoSign, m_NoSign, k_NoSign⟩ := T.tab.pair c hc "NoSign" (by decide) D hm; obtain ⟨D_NoRoom, m_NoRoom, k_NoRoom⟩ := T.tab.pair c hc "NoRoom" (by decide) D hm; obtain ⟨D_OtherSigns, m_OtherSigns, k_OtherSigns⟩ := T.tab.pair c hc "OtherSigns" (by decide) D hm; obtain ⟨D_NoNote, m_NoNote, k_NoNote⟩ := T.tab.pair c hc "NoNote" (by decide) D hm; obtain ⟨D_NoWriter, m_NoWriter, k_NoWriter⟩ := T.tab.pair c hc "NoWriter" (by decide) D hm; obtain ⟨D_NoPiece, m_NoPiece, k_NoPiece⟩ := T.tab.pair c hc "NoPiece" (by decide) D hm
    exact (dss_cons (ds_set 2 nd (de_ofL (dl_lst (da_cons (de_isE 1 EC.1 hz hfl k_NoNote T.z_isinstance m_NoNote) (da_cons (de_isE 1 EC.1 hz hfl k_OtherSigns T.z_isinstance m_OtherSigns) (da_cons (de_isE 1 EC.1 hz hfl k_NoRoom T.z_isinstance m_NoRoom) (da_cons (de_isE 1 EC.1 hz hfl k_NoSign T.z_isinstance m_NoSign) da_nil)))))))
  (dss_cons (ds_set 2 nd (de_bin ox_add (dv 2) (de_ofL (dl_lst (da_cons (de_isE 1 EC.1 hz hfl k_NoPiece T.z_isinstance m_NoPiece) (da_cons (de_isE 1 EC.1 hz hfl k_NoWriter T.z_isinstance m_NoWriter) da_nil))))))
  (dss_cons (ds_if (dt_w (dw_or (dt_cmp (ox_ne hr.units) (de_bcnt (dv 2) de_bl) de_int (nomark _)) (dw_or1 (dt_not (dt_val (de_isET 1 EC.1 hz hfl EC.2 (by rfl) T.z_isinstance T.z_ValueError))))))
   (dss_one (ds_ret (de_tup (da_cons de_int (da_cons de_non da_nil)))))
   dss_nil)
  (dss_one (ds_ret (de_tup (da_cons (de_bin ox_add de_int (de_bidx (dv 2) de_bl)) (da_cons de_non da_nil)))))))))))
theorem w_law (T : Txt K mg) : DFn P w K mg base 5 "law" 1 f_law := by
  obtain ⟨f, fd, F, hx⟩ := T.f_law
  refine DFn.mk' (k := 4) (N := N_law) F sc_law rfl hx (fun _ _ _ _ _ _ us hl => match us, hl with | [_], _ => rfl) (fun cdv A outer s H E hr tk hp => ?_)
  have nd := sc_law.nd
  exact (dss_cons (ds_set 1 nd (de_call (w__law_writer T) hr (by decide) tk (da_cons (dv 0) (da_cons de_int (da_cons (de_tup (da_cons de_int (da_cons de_int (da_cons de_int da_nil)))) da_nil)))))
  (dss_cons (ds_set 2 nd (de_call (w__law_spoilt T) hr (by decide) tk (da_cons (dv 1) (da_cons (de_bin ox_mod (de_call (w__law_cell_at T) hr (by decide) tk (da_cons (dv 0) (da_cons de_int da_nil))) de_int) (da_cons (de_bin ox_mod (de_call (w__law_cell_at T) hr (by decide) tk (da_cons (dv 0) (da_cons de_int da_nil))) (de_bin ox_pow de_int de_int)) da_nil)))))
  (dss_cons (ds_set 3 nd (de_call (w__law_due T) hr (by decide) tk (da_cons (dv 2) da_nil)))
  (dss_cons (ds_set 4 nd (de_call (w__law_told T) hr (by decide) tk (da_cons (dv 2) da_nil)))
  (dss_cons (ds_if (dt_cmp ox_isN (dv 3) de_non (nomark _))
   (dss_one (ds_ret (de_cmp (ox_eq hr.units) (de_ix (dv 4) de_int) de_int (nomark _))))
   dss_nil)
  (dss_one (ds_ret (de_and (de_cmp (ox_eq hr.units) (de_ix (dv 4) de_int) de_int (nomark _)) (de_and (de_isi boot_tuple T.z_isinstance T.z_tuple (de_ix (dv 4) de_int)) (de_one (de_cmp (ox_eq hr.units) (de_ix (dv 4) de_int) (dv 3) (nomark _))))))))))))
end
/-! ### what the top has written -/
section
variable {P : Program} {w : World} {K : PySem.W.Frag} {mg : Str → Option Value} {base : Heap}
theorem fn_law {f : Addr} {fd : FuncData} (F : Fun K "law" "law" s_law f fd) (T : Txt K mg) : FnOk P w K mg base (L2.CX P w) 5 f fd ["script"] (spD ⟨K, w⟩ mg 1 f_law) := by
  refine fun_okD (k := 4) (N := N_law) (n := 1) F sc_law rfl (fun cdv A outer s H E hr tk hp => ?_)
  have nd := sc_law.nd
  exact (dss_cons (ds_set 1 nd (de_call (w__law_writer T) hr (by decide) tk (da_cons (dv 0) (da_cons de_int (da_cons (de_tup (da_cons de_int (da_cons de_int (da_cons de_int da_nil)))) da_nil)))))
  (dss_cons (ds_set 2 nd (de_call (w__law_spoilt T) hr (by decide) tk (da_cons (dv 1) (da_cons (de_bin ox_mod (de_call (w__law_cell_at T) hr (by decide) tk (da_cons (dv 0) (da_cons de_int da_nil))) de_int) (da_cons (de_bin ox_mod (de_call (w__law_cell_at T) hr (by decide) tk (da_cons (dv 0) (da_cons de_int da_nil))) (de_bin ox_pow de_int de_int)) da_nil)))))
  (dss_cons (ds_set 3 nd (de_call (w__law_due T) hr (by decide) tk (da_cons (dv 2) da_nil)))
  (dss_cons (ds_set 4 nd (de_call (w__law_told T) hr (by decide) tk (da_cons (dv 2) da_nil)))
  (dss_cons (ds_if (dt_cmp ox_isN (dv 3) de_non (nomark _))
   (dss_one (ds_ret (de_cmp (ox_eq hr.units) (de_ix (dv 4) de_int) de_int (nomark _))))
   dss_nil)
  (dss_one (ds_ret (de_and (de_cmp (ox_eq hr.units) (de_ix (dv 4) de_int) de_int (nomark _)) (de_and (de_isi boot_tuple T.z_isinstance T.z_tuple (de_ix (dv 4) de_int)) (de_one (de_cmp (ox_eq hr.units) (de_ix (dv 4) de_int) (dv 3) (nomark _))))))))))))
end
theorem all_mk {P : Program} {w : World} {K : PySem.W.Frag} {h : Heap} {mg : Str → Option Value} {fa : Addr} (X : K.In h) (G : h.Ns mainGlobals mg) (hfa : mg "law" = some (.ref fa)) (law_true : ∀ ns : List Int, ns.length ≤ 63 → f_law [.scr ns] = .ok (.bl true))
    {f0 : Addr} {od0 an0 : Option Addr} {sl0 : Array (Option Value)} {oc0 kV0 dc0 pm0 cd0 ct0 : Value}
    {f1 : Addr} {od1 an1 : Option Addr} {sl1 : Array (Option Value)} {oc1 kV1 dc1 pm1 cd1 ct1 : Value}
    {f2 : Addr} {od2 an2 : Option Addr} {sl2 : Array (Option Value)} {oc2 kV2 dc2 pm2 cd2 ct2 : Value}
    {f3 : Addr} {od3 an3 : Option Addr} {sl3 : Array (Option Value)} {oc3 kV3 dc3 pm3 cd3 ct3 : Value}
    {f4 : Addr} {od4 an4 : Option Addr} {sl4 : Array (Option Value)} {oc4 kV4 dc4 pm4 cd4 ct4 : Value}
    {f5 : Addr} {od5 an5 : Option Addr} {sl5 : Array (Option Value)} {oc5 kV5 dc5 pm5 cd5 ct5 : Value}
    {f6 : Addr} {od6 an6 : Option Addr} {sl6 : Array (Option Value)} {oc6 kV6 dc6 pm6 cd6 ct6 : Value}
    {f7 : Addr} {od7 an7 : Option Addr} {sl7 : Array (Option Value)} {oc7 kV7 dc7 pm7 cd7 ct7 : Value}
    {f8 : Addr} {od8 an8 : Option Addr} {sl8 : Array (Option Value)} {oc8 kV8 dc8 pm8 cd8 ct8 : Value}
    {f9 : Addr} {od9 an9 : Option Addr} {sl9 : Array (Option Value)} {oc9 kV9 dc9 pm9 cd9 ct9 : Value}
    {f10 : Addr} {od10 an10 : Option Addr} {sl10 : Array (Option Value)} {oc10 kV10 dc10 pm10 cd10 ct10 : Value}
    {f11 : Addr} {od11 an11 : Option Addr} {sl11 : Array (Option Value)} {oc11 kV11 dc11 pm11 cd11 ct11 : Value}
    {f12 : Addr} {od12 an12 : Option Addr} {sl12 : Array (Option Value)} {oc12 kV12 dc12 pm12 cd12 ct12 : Value}
    {f13 : Addr} {od13 an13 : Option Addr} {sl13 : Array (Option Value)} {oc13 kV13 dc13 pm13 cd13 ct13 : Value}
    {f14 : Addr} {od14 an14 : Option Addr} {sl14 : Array (Option Value)} {oc14 kV14 dc14 pm14 cd14 ct14 : Value}
    {f15 : Addr} {od15 an15 : Option Addr} {sl15 : Array (Option Value)} {oc15 kV15 dc15 pm15 cd15 ct15 : Value}
    {f16 : Addr} {od16 an16 : Option Addr} {sl16 : Array (Option Value)} {oc16 kV16 dc16 pm16 cd16 ct16 : Value}
    {f17 : Addr} {od17 an17 : Option Addr} {sl17 : Array (Option Value)} {oc17 kV17 dc17 pm17 cd17 ct17 : Value}
    {tk_FIGURES : Tok}
    {tk_LETTERS : Tok}
    {tk_LONGEST : Tok}
    {tk_SIGNS : Tok}
    {tk_STATES : Tok}
    {C_NoNote : Addr}
    {C_NoWriter : Addr}
    {C_NoPiece : Addr}
    {C_NoRoom : Addr}
    {C_NoSign : Addr}
    {C_OtherSigns : Addr}
    {C_WriteError : Addr}
    (a0 : PySem.W.nsIn K mainGlobals "is_word" = some (some (.ref f0))) (l0 : K.lookup f0 = some ⟨oc0, od0, .func (PySem.W.fnOf "is_word" "is_word" (defArgs s_is_word) (defBody s_is_word) (defScope s_is_word) .none kV0 dc0 pm0 an0 cd0 ct0), sl0⟩) (c0 : PySem.W.codeIn K cd0 "is_word" = true) (k0 : PySem.W.keepIn K (.ref f0) = true)
    (a1 : PySem.W.nsIn K mainGlobals "asked_writer" = some (some (.ref f1))) (l1 : K.lookup f1 = some ⟨oc1, od1, .func (PySem.W.fnOf "asked_writer" "asked_writer" (defArgs s_asked_writer) (defBody s_asked_writer) (defScope s_asked_writer) .none kV1 dc1 pm1 an1 cd1 ct1), sl1⟩) (c1 : PySem.W.codeIn K cd1 "asked_writer" = true) (k1 : PySem.W.keepIn K (.ref f1) = true)
    (a2 : PySem.W.nsIn K mainGlobals "word_of" = some (some (.ref f2))) (l2 : K.lookup f2 = some ⟨oc2, od2, .func (PySem.W.fnOf "word_of" "word_of" (defArgs s_word_of) (defBody s_word_of) (defScope s_word_of) .none kV2 dc2 pm2 an2 cd2 ct2), sl2⟩) (c2 : PySem.W.codeIn K cd2 "word_of" = true) (k2 : PySem.W.keepIn K (.ref f2) = true)
    (a3 : PySem.W.nsIn K mainGlobals "pair_of" = some (some (.ref f3))) (l3 : K.lookup f3 = some ⟨oc3, od3, .func (PySem.W.fnOf "pair_of" "pair_of" (defArgs s_pair_of) (defBody s_pair_of) (defScope s_pair_of) .none kV3 dc3 pm3 an3 cd3 ct3), sl3⟩) (c3 : PySem.W.codeIn K cd3 "pair_of" = true) (k3 : PySem.W.keepIn K (.ref f3) = true)
    (a4 : PySem.W.nsIn K mainGlobals "read" = some (some (.ref f4))) (l4 : K.lookup f4 = some ⟨oc4, od4, .func (PySem.W.fnOf "read" "read" (defArgs s_read) (defBody s_read) (defScope s_read) .none kV4 dc4 pm4 an4 cd4 ct4), sl4⟩) (c4 : PySem.W.codeIn K cd4 "read" = true) (k4 : PySem.W.keepIn K (.ref f4) = true)
    (a5 : PySem.W.nsIn K mainGlobals "_law_cell_at" = some (some (.ref f5))) (l5 : K.lookup f5 = some ⟨oc5, od5, .func (PySem.W.fnOf "_law_cell_at" "_law_cell_at" (defArgs s__law_cell_at) (defBody s__law_cell_at) (defScope s__law_cell_at) .none kV5 dc5 pm5 an5 cd5 ct5), sl5⟩) (c5 : PySem.W.codeIn K cd5 "_law_cell_at" = true) (k5 : PySem.W.keepIn K (.ref f5) = true)
    (a6 : PySem.W.nsIn K mainGlobals "_law_stirred" = some (some (.ref f6))) (l6 : K.lookup f6 = some ⟨oc6, od6, .func (PySem.W.fnOf "_law_stirred" "_law_stirred" (defArgs s__law_stirred) (defBody s__law_stirred) (defScope s__law_stirred) .none kV6 dc6 pm6 an6 cd6 ct6), sl6⟩) (c6 : PySem.W.codeIn K cd6 "_law_stirred" = true) (k6 : PySem.W.keepIn K (.ref f6) = true)
    (a7 : PySem.W.nsIn K mainGlobals "_law_word" = some (some (.ref f7))) (l7 : K.lookup f7 = some ⟨oc7, od7, .func (PySem.W.fnOf "_law_word" "_law_word" (defArgs s__law_word) (defBody s__law_word) (defScope s__law_word) .none kV7 dc7 pm7 an7 cd7 ct7), sl7⟩) (c7 : PySem.W.codeIn K cd7 "_law_word" = true) (k7 : PySem.W.keepIn K (.ref f7) = true)
    (a8 : PySem.W.nsIn K mainGlobals "_law_writer" = some (some (.ref f8))) (l8 : K.lookup f8 = some ⟨oc8, od8, .func (PySem.W.fnOf "_law_writer" "_law_writer" (defArgs s__law_writer) (defBody s__law_writer) (defScope s__law_writer) .none kV8 dc8 pm8 an8 cd8 ct8), sl8⟩) (c8 : PySem.W.codeIn K cd8 "_law_writer" = true) (k8 : PySem.W.keepIn K (.ref f8) = true)
    (a9 : PySem.W.nsIn K mainGlobals "_law_dashed" = some (some (.ref f9))) (l9 : K.lookup f9 = some ⟨oc9, od9, .func (PySem.W.fnOf "_law_dashed" "_law_dashed" (defArgs s__law_dashed) (defBody s__law_dashed) (defScope s__law_dashed) .none kV9 dc9 pm9 an9 cd9 ct9), sl9⟩) (c9 : PySem.W.codeIn K cd9 "_law_dashed" = true) (k9 : PySem.W.keepIn K (.ref f9) = true)
    (a10 : PySem.W.nsIn K mainGlobals "_law_lines" = some (some (.ref f10))) (l10 : K.lookup f10 = some ⟨oc10, od10, .func (PySem.W.fnOf "_law_lines" "_law_lines" (defArgs s__law_lines) (defBody s__law_lines) (defScope s__law_lines) .none kV10 dc10 pm10 an10 cd10 ct10), sl10⟩) (c10 : PySem.W.codeIn K cd10 "_law_lines" = true) (k10 : PySem.W.keepIn K (.ref f10) = true)
    (a11 : PySem.W.nsIn K mainGlobals "_law_parted" = some (some (.ref f11))) (l11 : K.lookup f11 = some ⟨oc11, od11, .func (PySem.W.fnOf "_law_parted" "_law_parted" (defArgs s__law_parted) (defBody s__law_parted) (defScope s__law_parted) .none kV11 dc11 pm11 an11 cd11 ct11), sl11⟩) (c11 : PySem.W.codeIn K cd11 "_law_parted" = true) (k11 : PySem.W.keepIn K (.ref f11) = true)
    (a12 : PySem.W.nsIn K mainGlobals "_law_spoilt" = some (some (.ref f12))) (l12 : K.lookup f12 = some ⟨oc12, od12, .func (PySem.W.fnOf "_law_spoilt" "_law_spoilt" (defArgs s__law_spoilt) (defBody s__law_spoilt) (defScope s__law_spoilt) .none kV12 dc12 pm12 an12 cd12 ct12), sl12⟩) (c12 : PySem.W.codeIn K cd12 "_law_spoilt" = true) (k12 : PySem.W.keepIn K (.ref f12) = true)
    (a13 : PySem.W.nsIn K mainGlobals "_law_word_of" = some (some (.ref f13))) (l13 : K.lookup f13 = some ⟨oc13, od13, .func (PySem.W.fnOf "_law_word_of" "_law_word_of" (defArgs s__law_word_of) (defBody s__law_word_of) (defScope s__law_word_of) .none kV13 dc13 pm13 an13 cd13 ct13), sl13⟩) (c13 : PySem.W.codeIn K cd13 "_law_word_of" = true) (k13 : PySem.W.keepIn K (.ref f13) = true)
    (a14 : PySem.W.nsIn K mainGlobals "_law_row" = some (some (.ref f14))) (l14 : K.lookup f14 = some ⟨oc14, od14, .func (PySem.W.fnOf "_law_row" "_law_row" (defArgs s__law_row) (defBody s__law_row) (defScope s__law_row) .none kV14 dc14 pm14 an14 cd14 ct14), sl14⟩) (c14 : PySem.W.codeIn K cd14 "_law_row" = true) (k14 : PySem.W.keepIn K (.ref f14) = true)
    (a15 : PySem.W.nsIn K mainGlobals "_law_due" = some (some (.ref f15))) (l15 : K.lookup f15 = some ⟨oc15, od15, .func (PySem.W.fnOf "_law_due" "_law_due" (defArgs s__law_due) (defBody s__law_due) (defScope s__law_due) .none kV15 dc15 pm15 an15 cd15 ct15), sl15⟩) (c15 : PySem.W.codeIn K cd15 "_law_due" = true) (k15 : PySem.W.keepIn K (.ref f15) = true)
    (a16 : PySem.W.nsIn K mainGlobals "_law_told" = some (some (.ref f16))) (l16 : K.lookup f16 = some ⟨oc16, od16, .func (PySem.W.fnOf "_law_told" "_law_told" (defArgs s__law_told) (defBody s__law_told) (defScope s__law_told) .none kV16 dc16 pm16 an16 cd16 ct16), sl16⟩) (c16 : PySem.W.codeIn K cd16 "_law_told" = true) (k16 : PySem.W.keepIn K (.ref f16) = true)
    (a17 : PySem.W.nsIn K mainGlobals "law" = some (some (.ref f17))) (l17 : K.lookup f17 = some ⟨oc17, od17, .func (PySem.W.fnOf "law" "law" (defArgs s_law) (defBody s_law) (defScope s_law) .none kV17 dc17 pm17 an17 cd17 ct17), sl17⟩) (c17 : PySem.W.codeIn K cd17 "law" = true) (k17 : PySem.W.keepIn K (.ref f17) = true)
    (z_ValueError : PySem.W.nsIn K mainGlobals "ValueError" = some none)
    (z_int : PySem.W.nsIn K mainGlobals "int" = some none)
    (z_isinstance : PySem.W.nsIn K mainGlobals "isinstance" = some none)
    (z_len : PySem.W.nsIn K mainGlobals "len" = some none)
    (z_min : PySem.W.nsIn K mainGlobals "min" = some none)
    (z_range : PySem.W.nsIn K mainGlobals "range" = some none)
    (z_str : PySem.W.nsIn K mainGlobals "str" = some none)
    (z_tuple : PySem.W.nsIn K mainGlobals "tuple" = some none)
    (g_FIGURES : PySem.W.nsIn K mainGlobals "FIGURES" = some (some (.str "0123456789" tk_FIGURES)))
    (g_LETTERS : PySem.W.nsIn K mainGlobals "LETTERS" = some (some (.str "abcd" tk_LETTERS)))
    (g_LONGEST : PySem.W.nsIn K mainGlobals "LONGEST" = some (some (.int 8 tk_LONGEST)))
    (g_SIGNS : PySem.W.nsIn K mainGlobals "SIGNS" = some (some (.int 4 tk_SIGNS)))
    (g_STATES : PySem.W.nsIn K mainGlobals "STATES" = some (some (.int 6 tk_STATES)))
    (ea_NoNote : PySem.W.nsIn K mainGlobals "NoNote" = some (some (.ref C_NoNote))) (ex_NoNote : PySem.W.excIn K C_NoNote [.type "ValueError", .type "Exception", .type "BaseException", .type "object"] "ValueError.__new__" = true) (ek_NoNote : PySem.W.keepIn K (.ref C_NoNote) = true) (eb_NoNote : PySem.W.subIn K (.ref C_NoNote) (.type "BaseException") = some true) (et_NoNote : PySem.W.typeIn K (.ref C_NoNote) = some (.type "type"))
    (ea_NoWriter : PySem.W.nsIn K mainGlobals "NoWriter" = some (some (.ref C_NoWriter))) (ex_NoWriter : PySem.W.excIn K C_NoWriter [.type "ValueError", .type "Exception", .type "BaseException", .type "object"] "ValueError.__new__" = true) (ek_NoWriter : PySem.W.keepIn K (.ref C_NoWriter) = true) (eb_NoWriter : PySem.W.subIn K (.ref C_NoWriter) (.type "BaseException") = some true) (et_NoWriter : PySem.W.typeIn K (.ref C_NoWriter) = some (.type "type"))
    (ea_NoPiece : PySem.W.nsIn K mainGlobals "NoPiece" = some (some (.ref C_NoPiece)))
    (ea_NoRoom : PySem.W.nsIn K mainGlobals "NoRoom" = some (some (.ref C_NoRoom)))
    (ea_NoSign : PySem.W.nsIn K mainGlobals "NoSign" = some (some (.ref C_NoSign)))
    (ea_OtherSigns : PySem.W.nsIn K mainGlobals "OtherSigns" = some (some (.ref C_OtherSigns)))
    (ea_WriteError : PySem.W.nsIn K mainGlobals "WriteError" = some (some (.ref C_WriteError)))
    (xs_NoWriter : PySem.W.exmOne K (.ref C_NoWriter) (.ref C_NoWriter) = some true)
    (x1_NoNote : PySem.W.findIn K (.ref C_NoNote) "__getattribute__" = some (some (.builtin "BaseException.__getattribute__"))) (x2_NoNote : PySem.W.findIn K (.ref C_NoNote) "__getattr__" = some none) (x3_NoNote : PySem.W.subIn K (.ref C_NoNote) (.type "BaseException") = some true) (x4_NoNote : PySem.W.hasDictIn K C_NoNote = true) (x5_NoNote : PySem.W.findIn K (.ref C_NoNote) "__class__" = some (some (.builtin "object.__class__"))) (x6_NoNote : PySem.W.specialIn K (.builtin "object.__class__") "__get__" = some (some (.builtin "getset_descriptor.__get__"))) (x7_NoNote : PySem.W.takesIn K (.builtin "object.__class__") = some true) (x8_NoNote : PySem.W.mroIn K C_NoNote (.type "object") = some true) (x9_NoNote : PySem.W.kitOne K (.ref C_NoNote) (.type "ValueError") = some true) (xw_NoNote : PySem.W.exmOne K (.ref C_NoNote) (.ref C_WriteError) = some true)
    (xk_NoNote_NoSign : PySem.W.kitOne K (.ref C_NoNote) (.ref C_NoSign) = some false)
    (xk_NoNote_NoRoom : PySem.W.kitOne K (.ref C_NoNote) (.ref C_NoRoom) = some false)
    (xk_NoNote_OtherSigns : PySem.W.kitOne K (.ref C_NoNote) (.ref C_OtherSigns) = some false)
    (xk_NoNote_NoNote : PySem.W.kitOne K (.ref C_NoNote) (.ref C_NoNote) = some true)
    (xk_NoNote_NoWriter : PySem.W.kitOne K (.ref C_NoNote) (.ref C_NoWriter) = some false)
    (xk_NoNote_NoPiece : PySem.W.kitOne K (.ref C_NoNote) (.ref C_NoPiece) = some false)
    : ∃ fd : FuncData, (∀ (s : Shared) (v : Value), BindsTo s fd ⟨[v], []⟩ [("script", v)]) ∧ ∀ base : Heap, K.In base → base.Ns mainGlobals mg → FnOk P w K mg base (L2.CX P w) 5 fa fd ["script"] (spEnd K) := by
  have e := hfa.symm.trans (PySem.W.mg_of X G a17)
  cases e
  have F0 := fun_mk (st := s_is_word) l0 c0 k0
  have F1 := fun_mk (st := s_asked_writer) l1 c1 k1
  have F2 := fun_mk (st := s_word_of) l2 c2 k2
  have F3 := fun_mk (st := s_pair_of) l3 c3 k3
  have F4 := fun_mk (st := s_read) l4 c4 k4
  have F5 := fun_mk (st := s__law_cell_at) l5 c5 k5
  have F6 := fun_mk (st := s__law_stirred) l6 c6 k6
  have F7 := fun_mk (st := s__law_word) l7 c7 k7
  have F8 := fun_mk (st := s__law_writer) l8 c8 k8
  have F9 := fun_mk (st := s__law_dashed) l9 c9 k9
  have F10 := fun_mk (st := s__law_lines) l10 c10 k10
  have F11 := fun_mk (st := s__law_parted) l11 c11 k11
  have F12 := fun_mk (st := s__law_spoilt) l12 c12 k12
  have F13 := fun_mk (st := s__law_word_of) l13 c13 k13
  have F14 := fun_mk (st := s__law_row) l14 c14 k14
  have F15 := fun_mk (st := s__law_due) l15 c15 k15
  have F16 := fun_mk (st := s__law_told) l16 c16 k16
  have F17 := fun_mk (st := s_law) l17 c17 k17
  have tab : ExcTab K mg ["NoNote"] ["NoSign", "NoRoom", "OtherSigns", "NoNote", "NoWriter", "NoPiece"] := by
    refine ⟨?_, ?_, ⟨_, PySem.W.mg_of X G ea_WriteError, ?_⟩⟩
    · intro c hc; simp only [List.mem_cons, List.not_mem_nil, or_false] at hc; subst hc
      · exact ⟨_, PySem.W.mg_of X G ea_NoNote, ⟨x1_NoNote, x2_NoNote, x3_NoNote, x4_NoNote, x5_NoNote, x6_NoNote, x7_NoNote, x8_NoNote⟩, x9_NoNote⟩
    · intro c hc; simp only [List.mem_cons, List.not_mem_nil, or_false] at hc; subst hc
      · intro C hC; simp only [List.mem_cons, List.not_mem_nil, or_false] at hC
        intro D hm; have hD := (PySem.W.mg_of X G ea_NoNote).symm.trans hm; cases hD
        rcases hC with rfl | rfl | rfl | rfl | rfl | rfl
        · exact ⟨_, PySem.W.mg_of X G ea_NoSign, xk_NoNote_NoSign⟩
        · exact ⟨_, PySem.W.mg_of X G ea_NoRoom, xk_NoNote_NoRoom⟩
        · exact ⟨_, PySem.W.mg_of X G ea_OtherSigns, xk_NoNote_OtherSigns⟩
        · exact ⟨_, PySem.W.mg_of X G ea_NoNote, xk_NoNote_NoNote⟩
        · exact ⟨_, PySem.W.mg_of X G ea_NoWriter, xk_NoNote_NoWriter⟩
        · exact ⟨_, PySem.W.mg_of X G ea_NoPiece, xk_NoNote_NoPiece⟩
    · intro c hc; simp only [List.mem_cons, List.not_mem_nil, or_false] at hc; subst hc
      · exact ⟨_, PySem.W.mg_of X G ea_NoNote, xw_NoNote⟩
  have T : Txt K mg := { f_is_word := ⟨_, _, F0, PySem.W.mg_of X G a0⟩, f_asked_writer := ⟨_, _, F1, PySem.W.mg_of X G a1⟩, f_word_of := ⟨_, _, F2, PySem.W.mg_of X G a2⟩, f_pair_of := ⟨_, _, F3, PySem.W.mg_of X G a3⟩, f_read := ⟨_, _, F4, PySem.W.mg_of X G a4⟩, f__law_cell_at := ⟨_, _, F5, PySem.W.mg_of X G a5⟩, f__law_stirred := ⟨_, _, F6, PySem.W.mg_of X G a6⟩, f__law_word := ⟨_, _, F7, PySem.W.mg_of X G a7⟩, f__law_writer := ⟨_, _, F8, PySem.W.mg_of X G a8⟩, f__law_dashed := ⟨_, _, F9, PySem.W.mg_of X G a9⟩, f__law_lines := ⟨_, _, F10, PySem.W.mg_of X G a10⟩, f__law_parted := ⟨_, _, F11, PySem.W.mg_of X G a11⟩, f__law_spoilt := ⟨_, _, F12, PySem.W.mg_of X G a12⟩, f__law_word_of := ⟨_, _, F13, PySem.W.mg_of X G a13⟩, f__law_row := ⟨_, _, F14, PySem.W.mg_of X G a14⟩, f__law_due := ⟨_, _, F15, PySem.W.mg_of X G a15⟩, f__law_told := ⟨_, _, F16, PySem.W.mg_of X G a16⟩, f_law := ⟨_, _, F17, PySem.W.mg_of X G a17⟩, z_ValueError := PySem.W.mg_none_of X G z_ValueError, z_int := PySem.W.mg_none_of X G z_int, z_isinstance := PySem.W.mg_none_of X G z_isinstance, z_len := PySem.W.mg_none_of X G z_len, z_min := PySem.W.mg_none_of X G z_min, z_range := PySem.W.mg_none_of X G z_range, z_str := PySem.W.mg_none_of X G z_str, z_tuple := PySem.W.mg_none_of X G z_tuple, t_FIGURES := ⟨_, PySem.W.mg_of X G g_FIGURES⟩, t_LETTERS := ⟨_, PySem.W.mg_of X G g_LETTERS⟩, t_LONGEST := ⟨_, PySem.W.mg_of X G g_LONGEST⟩, t_SIGNS := ⟨_, PySem.W.mg_of X G g_SIGNS⟩, t_STATES := ⟨_, PySem.W.mg_of X G g_STATES⟩, x_NoWriter := ⟨_, PySem.W.mg_of X G ea_NoWriter, xs_NoWriter⟩, e_NoNote := ⟨_, PySem.W.mg_of X G ea_NoNote, ex_NoNote, ek_NoNote, eb_NoNote, et_NoNote⟩, e_NoWriter := ⟨_, PySem.W.mg_of X G ea_NoWriter, ex_NoWriter, ek_NoWriter, eb_NoWriter, et_NoWriter⟩, tab := tab }
  refine ⟨PySem.W.fnOf "law" "law" (defArgs s_law) (defBody s_law) (defScope s_law) .none kV17 dc17 pm17 an17 cd17 ct17, fun s v => .of_eq rfl, fun base _ _ => ?_⟩
  exact (fn_law F17 T).imp (sp_law law_true)
end Wk

namespace Wk
open PySem PySem.Spec PyProof.Rows L2 TL DL
/-! ### plain facts -/
theorem line_big : 1000000 ≤ sizeLine := by rw [sizeLine_eq]; decide
theorem atI_nat' {α : Type} (xs : List α) (n : Nat) : atI xs (n : Int) = xs[n]? := by
  cases h : xs[n]? with
  | some v => exact atI_nat h
  | none =>
    have hn : xs.length ≤ n := List.getElem?_eq_none_iff.mp h
    unfold atI ixN
    rw [if_pos (by omega), if_neg (by omega)]
    rfl
@[simp] theorem dLoop_nil (t : DTgt) (b : DStm) (e : DEnv) : dLoop t b [] e = .nx e := rfl
theorem dLoop_cons (t : DTgt) (b : DStm) (d : D) (ds : List D) (e : DEnv) : dLoop t b (d :: ds) e = (match t d e with
    | none => .no
    | some e => match b e with
      | .nx e' => dLoop t b ds e'
      | .ct e' => dLoop t b ds e'
      | .bk e' => .nx e'
      | .rt d => .rt d
      | .ex c e => .ex c e
      | .no => .no) := rfl
theorem dLoop_step {t : DTgt} {b : DStm} {d : D} {ds : List D} {e e1 e2 : DEnv} {r : DOut} (h1 : t d e = some e1) (h2 : b e1 = .nx e2) (h3 : dLoop t b ds e2 = r) : dLoop t b (d :: ds) e = r := by
  rw [dLoop_cons, h1]
  simp only [h2]
  exact h3
/-- a loop whose turns go on, by an invariant of the turns -/
theorem dLoop_inv {t : DTgt} {b : DStm} {α : Type} (I : List α → DEnv → Prop) (P : DEnv → Prop) (f : α → D) (step : ∀ a as e, I (a :: as) e → ∃ e1, t (f a) e = some e1 ∧ ∃ e2, (b e1 = .nx e2 ∨ b e1 = .ct e2) ∧ I as e2) (fin : ∀ e, I [] e → P e) :
    ∀ (as : List α) (e : DEnv), I as e → ∃ e', dLoop t b (as.map f) e = .nx e' ∧ P e'
  | [], e, h => ⟨e, rfl, fin e h⟩
  | a :: as, e, h => by
    obtain ⟨e1, h1, e2, h2, h3⟩ := step a as e h
    obtain ⟨e', q1, q2⟩ := dLoop_inv I P f step fin as e2 h3
    refine ⟨e', ?_, q2⟩
    rw [List.map_cons, dLoop_cons, h1]
    rcases h2 with h2 | h2
    · simp only [h2]; exact q1
    · simp only [h2]; exact q1

/-! ### texts by their signs -/
abbrev T := List Nat
def sv (l : T) : Str := ⟨l.toArray⟩
theorem sv_tl (l : T) : tl (sv l) = l := rfl
theorem tl_sv (s : Str) : sv (tl s) = s := mk_tl s
@[simp] theorem sv_app (a b : T) : sv a ++ sv b = sv (a ++ b) := ext_tl (by rw [tl_append]; rfl)
@[simp] theorem sv_len (a : T) : (sv a).length = a.length := by rw [len_tl, sv_tl]
@[simp] theorem sv_inj {a b : T} : sv a = sv b ↔ a = b := ⟨fun h => by have := congrArg tl h; exact this, fun h => by rw [h]⟩
@[simp] theorem sv_cps (a : T) : (sv a).cps.toList = a := rfl
def tD (l : T) : D := .str (sv l)
theorem tD_def (l : T) : D.str (sv l) = tD l := rfl
@[simp] theorem tD_inj {a b : T} : tD a = tD b ↔ a = b := by simp [tD]
theorem nil_tD : (D.str "") = tD [] := by
  unfold tD; congr 1
theorem abcd_tD : (D.str "abcd") = tD [97, 98, 99, 100] := by
  unfold tD; congr 1
@[simp] theorem add_tD {a b : T} (h : a.length + b.length ≤ 100000) : addD (tD a) (tD b) = some (tD (a ++ b)) := by
  unfold tD addD
  have := line_big
  simp only [sv_len, sv_app]
  rw [if_pos (by omega)]
@[simp] theorem len_tD {a : T} (h : a.length ≤ 100000) : lenD [tD a] = some (.int a.length) := by
  unfold tD lenD
  have := line_big
  simp only [sv_len]
  rw [if_pos (by omega)]

/-! ### writers -/
structure Wr where
  signs : Nat
  rows : List (List (T × Nat))
  ends : List T
def pairD (p : T × Nat) : D := .tup [tD p.1, .int (p.2 : Int)]
def rowD (r : List (T × Nat)) : D := .tup (r.map pairD)
def rowsD (r : List (List (T × Nat))) : D := .tup (r.map rowD)
def endsD (e : List T) : D := .tup (e.map tD)
def wrD (w : Wr) : D := .tup [.int (w.signs : Int), rowsD w.rows, endsD w.ends]
def Wd (l : T) : Prop := l.length ≤ 8 ∧ ∀ c ∈ l, 97 ≤ c ∧ c ≤ 100
structure Wr.Ok (w : Wr) : Prop where
  s1 : 1 ≤ w.signs
  s4 : w.signs ≤ 4
  r1 : 1 ≤ w.rows.length
  r6 : w.rows.length ≤ 6
  el : w.ends.length = w.rows.length
  rl : ∀ r ∈ w.rows, r.length = w.signs
  pr : ∀ r ∈ w.rows, ∀ p ∈ r, Wd p.1 ∧ p.2 < w.rows.length
  en : ∀ e ∈ w.ends, Wd e
def Wr.at (w : Wr) (st m : Nat) : T × Nat := (w.rows.getD st []).getD m ([], 0)
def Wr.fin (w : Wr) (st : Nat) : T := w.ends.getD st []
def Wr.gone (w : Wr) : Nat → List Nat → T × Nat
  | st, [] => ([], st)
  | st, m :: ms => ((w.at st m).1 ++ (w.gone (w.at st m).2 ms).1, (w.gone (w.at st m).2 ms).2)
def Wr.text (w : Wr) (ms : List Nat) : T := (w.gone 0 ms).1 ++ w.fin (w.gone 0 ms).2
/-- a message as data -/
def mD (ms : List Nat) : D := .lst (ms.map fun (m : Nat) => D.int (m : Int))
def Msg (w : Wr) (ms : List Nat) : Prop := ∀ m ∈ ms, m < w.signs

theorem Wr.Ok.at_ok {w : Wr} (o : w.Ok) {st m : Nat} (hs : st < w.rows.length) (hm : m < w.signs) : ∃ r, w.rows[st]? = some r ∧ r[m]? = some (w.at st m) ∧ Wd (w.at st m).1 ∧ (w.at st m).2 < w.rows.length := by
  have h1 : w.rows[st]? = some w.rows[st] := List.getElem?_eq_getElem hs
  have mem := List.getElem_mem hs
  have hl := o.rl _ mem
  have h2 : (w.rows[st])[m]? = some (w.rows[st])[m] := List.getElem?_eq_getElem (by omega)
  have e : w.at st m = (w.rows[st])[m] := by
    unfold Wr.at
    simp only [List.getD_eq_getElem?_getD, h1, Option.getD_some, h2]
  refine ⟨_, h1, by rw [h2, e], ?_⟩
  rw [e]
  exact o.pr _ mem _ (List.getElem_mem _)
theorem Wr.Ok.fin_ok {w : Wr} (o : w.Ok) {st : Nat} (hs : st < w.rows.length) : w.ends[st]? = some (w.fin st) ∧ Wd (w.fin st) := by
  have hl : st < w.ends.length := by rw [o.el]; exact hs
  have h1 : w.ends[st]? = some w.ends[st] := List.getElem?_eq_getElem hl
  have e : w.fin st = w.ends[st] := by
    unfold Wr.fin
    rw [List.getD_eq_getElem?_getD, h1, Option.getD_some]
  rw [e]
  exact ⟨h1, o.en _ (List.getElem_mem _)⟩
theorem Wr.Ok.gone_ok {w : Wr} (o : w.Ok) : ∀ (ms : List Nat) (st : Nat), st < w.rows.length → Msg w ms → (w.gone st ms).2 < w.rows.length ∧ (w.gone st ms).1.length ≤ 8 * ms.length
  | [], st, h, _ => ⟨h, by simp [Wr.gone]⟩
  | m :: ms, st, h, hm => by
    obtain ⟨r, h1, h2, h3, h4⟩ := o.at_ok h (hm m List.mem_cons_self)
    obtain ⟨q1, q2⟩ := o.gone_ok ms _ h4 fun x hx => hm x (List.mem_cons_of_mem _ hx)
    refine ⟨q1, ?_⟩
    simp only [Wr.gone, List.length_append, List.length_cons]
    have := h3.1
    omega
@[simp] theorem wr0 (w : Wr) : ixAD (wrD w) (.int 0) = some (.int w.signs) := rfl
@[simp] theorem wr1 (w : Wr) : ixAD (wrD w) (.int 1) = some (rowsD w.rows) := rfl
@[simp] theorem wr2 (w : Wr) : ixAD (wrD w) (.int 2) = some (endsD w.ends) := rfl
theorem ix_rows {rs : List (List (T × Nat))} {n : Nat} {r : List (T × Nat)} (h : rs[n]? = some r) : ixAD (rowsD rs) (.int n) = some (rowD r) := by
  simp only [rowsD, ixAD]
  rw [atI_nat', List.getElem?_map, h]
  rfl
theorem ix_row {r : List (T × Nat)} {n : Nat} {p : T × Nat} (h : r[n]? = some p) : ixAD (rowD r) (.int n) = some (pairD p) := by
  simp only [rowD, ixAD]
  rw [atI_nat', List.getElem?_map, h]
  rfl
theorem ix_ends {es : List T} {n : Nat} {e : T} (h : es[n]? = some e) : ixAD (endsD es) (.int n) = some (tD e) := by
  simp only [endsD, ixAD]
  rw [atI_nat', List.getElem?_map, h]
  rfl
@[simp] theorem pair0 (p : T × Nat) : ixAD (pairD p) (.int 0) = some (tD p.1) := rfl
@[simp] theorem pair1 (p : T × Nat) : ixAD (pairD p) (.int 1) = some (.int p.2) := rfl

end Wk

namespace Wk
open PySem PySem.Spec PyProof.Rows L2 TL DL
theorem cLoop_filter {t : DTgt} {c : DEnv → M Bool} {f : DEnv → M D} {e0 : DEnv} {α : Type} (g : α → D) (p : α → Bool) (y : α → D) : ∀ (as : List α), (∀ a ∈ as, ∃ e, t (g a) e0 = some e ∧ c e = .ok (p a) ∧ (p a = true → f e = .ok (y a))) → cLoop t c f e0 (as.map g) = .ok ((as.filter p).map y)
  | [], _ => rfl
  | a :: as, h => by
    obtain ⟨e, h1, h2, h3⟩ := h a List.mem_cons_self
    have ih := cLoop_filter g p y as fun x hx => h x (List.mem_cons_of_mem _ hx)
    rw [List.map_cons]
    unfold cLoop
    simp only [h1, h2]
    cases q : p a with
    | true => simp [h3 q, ih, List.filter_cons, q]
    | false => simp [ih, List.filter_cons, q]
theorem cLoop_map {t : DTgt} {f : DEnv → M D} {e0 : DEnv} {α : Type} (g : α → D) (y : α → D) (as : List α) (h : ∀ a ∈ as, ∃ e, t (g a) e0 = some e ∧ f e = .ok (y a)) : cLoop t (fun _ => .ok true) f e0 (as.map g) = .ok (as.map y) := by
  have := cLoop_filter (t := t) (c := fun _ => .ok true) (f := f) (e0 := e0) g (fun _ => true) y as fun a ha => by
    obtain ⟨e, h1, h2⟩ := h a ha
    exact ⟨e, h1, rfl, fun _ => h2⟩
  rw [this, List.filter_eq_self.mpr (fun _ _ => rfl)]
theorem found_sv (l : T) (c : Nat) : (!(Builtin.Str.occurrences (sv l) (sv [c]) 0 (sv l).length 1).isEmpty) = decide (c ∈ l) := PySem.StrLaws.found_one (sv l) c
@[simp] theorem inS_one (c : Nat) (l : T) : inSD (tD [c]) (tD l) = some (.bl (decide (c ∈ l))) := by
  unfold tD inSD
  simp only [found_sv]
@[simp] theorem ninS_one (c : Nat) (l : T) : ninSD (tD [c]) (tD l) = some (.bl (!decide (c ∈ l))) := by
  unfold tD ninSD
  simp only [found_sv]
@[simp] theorem items_tD (l : T) : itemsD (tD l) = .ok (l.map fun c => tD [c]) := rfl
theorem small_line {n : Nat} (h : n ≤ 100000) : n ≤ sizeLine := Nat.le_trans (Nat.le_trans h (by decide)) line_big
theorem small_lt {n : Nat} (h : n ≤ 100000) : n < sizeLine := Nat.lt_of_le_of_lt h (Nat.lt_of_lt_of_le (by decide) line_big)

/-! ### == -/
theorem strOk_sv {l : T} (h : ∀ c ∈ l, c < 1114112) : PyData.strOk (sv l) = true := by
  unfold PyData.strOk sv
  simpa using h
theorem eqOk_tD {n : Nat} {l : T} (h : ∀ c ∈ l, c < 1114112) : eqOk n (tD l) = true := by
  unfold tD
  cases n <;> simpa [eqOk] using strOk_sv h
theorem eqD_eq {a b : D} (h : (scalD a b || (eqOk 60 a && eqOk 60 b)) = true) : eqD a b = some (.bl (decide (a = b))) := by unfold eqD; rw [if_pos h]
theorem neD_eq {a b : D} (h : (scalD a b || (eqOk 60 a && eqOk 60 b)) = true) : neD a b = some (.bl (!decide (a = b))) := by unfold neD; rw [if_pos h]
@[simp] theorem eqD_int (a b : Int) : eqD (.int a) (.int b) = some (.bl (decide (a = b))) := by rw [eqD_eq rfl]; simp
@[simp] theorem neD_int (a b : Int) : neD (.int a) (.int b) = some (.bl (!decide (a = b))) := by rw [neD_eq rfl]; simp
@[simp] theorem eqD_tD (a b : T) : eqD (tD a) (tD b) = some (.bl (decide (a = b))) := by rw [eqD_eq rfl]; simp
@[simp] theorem neD_tD (a b : T) : neD (tD a) (tD b) = some (.bl (!decide (a = b))) := by rw [neD_eq rfl]; simp

/-! ### the sizes of bool lists -/
theorem eqOks_of {n : Nat} {α : Type} (f : α → D) : ∀ (l : List α), (∀ a ∈ l, eqOk n (f a) = true) → eqOks n (l.map f) = true
  | [], _ => by cases n <;> rfl
  | a :: l, h => by
    rw [List.map_cons]
    unfold eqOks
    rw [h a List.mem_cons_self, eqOks_of f l fun x hx => h x (List.mem_cons_of_mem _ hx)]
    rfl
theorem eqOk_lst {n : Nat} {α : Type} (f : α → D) (l : List α) (h : ∀ a ∈ l, eqOk n (f a) = true) : eqOk (n + 1) (.lst (l.map f)) = true := by
  unfold eqOk
  exact eqOks_of f l h
theorem eqOk_tup {n : Nat} {α : Type} (f : α → D) (l : List α) (h : ∀ a ∈ l, eqOk n (f a) = true) : eqOk (n + 1) (.tup (l.map f)) = true := by
  unfold eqOk
  exact eqOks_of f l h
theorem eqOk_int {n : Nat} (i : Int) : eqOk n (.int i) = true := by cases n <;> rfl

/-! ### is_word -/
def wdB (l : T) : Bool := decide (l.length ≤ 8) && decide (∀ c ∈ l, 97 ≤ c ∧ c ≤ 100)
theorem wdB_iff {l : T} : wdB l = true ↔ Wd l := by simp [wdB, Wd]
theorem is_word_eq (l : T) (hl : l.length ≤ 100000) (hc : ∀ c ∈ l, c < 1114112) : f_is_word [tD l] = .ok (.bl (wdB l)) := by
  have e : f_is_word [tD l] = fnRes (r_is_word [.dat (tD l), .un]) := rfl
  rw [e]
  have comp : cLoop (gN 1) (tE (xOp ninSD (xVar 1) (xC (.str "abcd")))) (xVar 1) (wipeE [.dat (tD l), .un] [1]) (l.map fun c => tD [c]) = .ok ((l.filter fun c => !decide (c ∈ [97, 98, 99, 100])).map fun c => tD [c]) := by
    refine cLoop_filter (fun c => tD [c]) _ (fun c => tD [c]) l fun c hc => ?_
    refine ⟨_, rfl, ?_, fun _ => ?_⟩
    · simp [wipeE, abcd_tD]
    · simp [wipeE]
  have key : (decide (D.lst ((l.filter fun c => !decide (c ∈ [97, 98, 99, 100])).map fun c => tD [c]) = D.lst [])) = decide (∀ c ∈ l, 97 ≤ c ∧ c ≤ 100) := by
    rw [Bool.eq_iff_iff]
    simp only [decide_eq_true_eq, D.lst.injEq, List.map_eq_nil_iff, List.filter_eq_nil_iff]
    constructor
    · intro h c hc
      have := h c hc
      simp at this
      omega
    · intro h c hc
      have := h c hc
      simp
      omega
  have hE : eqD (D.lst ((l.filter fun c => !decide (c ∈ [97, 98, 99, 100])).map fun c => tD [c])) (D.lst []) = some (.bl (decide (∀ c ∈ l, 97 ≤ c ∧ c ≤ 100))) := by
    rw [eqD_eq, key]
    have h1 : eqOk 60 (D.lst ((l.filter fun c => !decide (c ∈ [97, 98, 99, 100])).map fun c => tD [c])) = true :=
      eqOk_lst (n := 59) _ _ fun c hc' => eqOk_tD fun x hx => by
        simp at hx
        subst hx
        exact hc _ (List.mem_filter.mp hc').1
    rw [h1]
    rfl
  by_cases h8 : l.length ≤ 8
  · have i8 : ((l.length : Int) ≤ 8) := by omega
    simp only [r_is_word, sRet, xAnd, xOp, xCb, aCons, aNil, xVar, xC, celD, xL, lComp, lLst, iAny, List.getElem?_cons_zero, M.bind, len_tD hl, M.of, leD, decide_eq_true i8, items_tD, List.length_map]
    rw [if_pos ⟨small_lt hl, by simp [Cel.isOwned]⟩, comp]
    simp only [M.bind, M.of, List.length_nil, Nat.zero_le, if_true, hE, M.to, fnRes]
    simp [wdB, h8]
  · have i8 : ¬ ((l.length : Int) ≤ 8) := by omega
    simp [r_is_word, len_tD hl, leD, i8, wdB, h8]
end Wk

namespace Wk
open PySem PySem.Spec PyProof.Rows L2 TL DL
theorem Wd.small {l : T} (h : Wd l) : l.length ≤ 100000 := by have := h.1; omega
theorem Wd.uni {l : T} (h : Wd l) : ∀ c ∈ l, c < 1114112 := fun c hc => by have := (h.2 c hc).2; omega
theorem is_word_ok {l : T} (h : Wd l) : f_is_word [tD l] = .ok (.bl true) := by rw [is_word_eq l h.small h.uni, wdB_iff.mpr h]
@[simp] theorem len_rows (rs : List (List (T × Nat))) : lenD [rowsD rs] = some (.int rs.length) := by simp [rowsD, lenD]
@[simp] theorem len_row (rs : List (T × Nat)) : lenD [rowD rs] = some (.int rs.length) := by simp [rowD, lenD]
@[simp] theorem len_ends (rs : List T) : lenD [endsD rs] = some (.int rs.length) := by simp [endsD, lenD]
@[simp] theorem items_rows (rs : List (List (T × Nat))) : itemsD (rowsD rs) = .ok (rs.map rowD) := rfl
@[simp] theorem items_row (rs : List (T × Nat)) : itemsD (rowD rs) = .ok (rs.map pairD) := rfl
@[simp] theorem items_ends (rs : List T) : itemsD (endsD rs) = .ok (rs.map tD) := rfl
theorem asked_row_loop {rs : List (List (T × Nat))} (a b c d : Cel) : ∀ (r : List (T × Nat)) (x y : Cel), (∀ p ∈ r, Wd p.1 ∧ p.2 < rs.length) →
    ∃ x' y', dLoop (gT (gsCons (gN 5) (gsCons (gN 6) gsNil))) r_asked_writer_b1 (r.map pairD) [a, b, .dat (rowsD rs), c, d, x, y] = .nx [a, b, .dat (rowsD rs), c, d, x', y']
  | [], x, y, _ => ⟨x, y, rfl⟩
  | p :: r, x, y, h => by
    obtain ⟨h1, h2⟩ := h p List.mem_cons_self
    obtain ⟨x', y', e⟩ := asked_row_loop a b c d r (.dat (tD p.1)) (.dat (.int p.2)) fun q hq => h q (List.mem_cons_of_mem _ hq)
    refine ⟨x', y', dLoop_step rfl ?_ e⟩
    have n1 : ¬ ((p.2 : Int) < 0) := by omega
    have n2 : ¬ ((rs.length : Int) ≤ (p.2 : Int)) := by omega
    simp [r_asked_writer_b1, is_word_ok h1, ltD, geD, n1, n2]
theorem asked_rows_loop {rs : List (List (T × Nat))} {s : Nat} (a c : Cel) : ∀ (r : List (List (T × Nat))) (d x y : Cel), (∀ q ∈ r, q.length = s ∧ ∀ p ∈ q, Wd p.1 ∧ p.2 < rs.length) →
    ∃ d' x' y', dLoop (gN 4) r_asked_writer_b2 (r.map rowD) [a, .dat (.int s), .dat (rowsD rs), c, d, x, y] = .nx [a, .dat (.int s), .dat (rowsD rs), c, d', x', y']
  | [], d, x, y, _ => ⟨d, x, y, rfl⟩
  | q :: r, d, x, y, h => by
    obtain ⟨h1, h2⟩ := h q List.mem_cons_self
    obtain ⟨x1, y1, e1⟩ := asked_row_loop (rs := rs) a (.dat (.int s)) c (.dat (rowD q)) q x y h2
    obtain ⟨d', x', y', e⟩ := asked_rows_loop a c r (.dat (rowD q)) x1 y1 fun p hp => h p (List.mem_cons_of_mem _ hp)
    refine ⟨d', x', y', dLoop_step rfl ?_ e⟩
    simp [r_asked_writer_b2, h1, e1]
theorem asked_ends_loop (a b c d x y : Cel) : ∀ (r : List T) (z : Cel), (∀ q ∈ r, Wd q) →
    ∃ z', dLoop (gN 5) r_asked_writer_b3 (r.map tD) [a, b, c, d, x, z, y] = .nx [a, b, c, d, x, z', y]
  | [], z, _ => ⟨z, rfl⟩
  | q :: r, z, h => by
    obtain ⟨z', e⟩ := asked_ends_loop a b c d x y r (.dat (tD q)) fun p hp => h p (List.mem_cons_of_mem _ hp)
    refine ⟨z', dLoop_step rfl ?_ e⟩
    simp [r_asked_writer_b3, is_word_ok (h q List.mem_cons_self)]
theorem asked_writer_ok {w : Wr} (o : w.Ok) : f_asked_writer [wrD w] = .ok .non := by
  have e : f_asked_writer [wrD w] = fnRes (r_asked_writer [.dat (wrD w), .un, .un, .un, .un, .un, .un]) := rfl
  rw [e]
  obtain ⟨d1, x1, y1, e1⟩ := asked_rows_loop (rs := w.rows) (s := w.signs) (.dat (wrD w)) (.dat (endsD w.ends)) w.rows .un .un .un fun q hq => ⟨o.rl q hq, o.pr q hq⟩
  obtain ⟨z1, e2⟩ := asked_ends_loop (.dat (wrD w)) (.dat (.int w.signs)) (.dat (rowsD w.rows)) (.dat (endsD w.ends)) d1 y1 w.ends x1 o.en
  have s1 := o.s1; have s4 := o.s4; have r1 := o.r1; have r6 := o.r6
  have n1 : ¬ ((w.signs : Int) < 1) := by omega
  have n2 : ¬ ((4 : Int) < (w.signs : Int)) := by omega
  have n3 : ¬ ((w.rows.length : Int) < 1) := by omega
  have n4 : ¬ ((6 : Int) < (w.rows.length : Int)) := by omega
  have wd : wrD w = .tup [.int w.signs, rowsD w.rows, endsD w.ends] := rfl
  rw [wd] at e1 e2 ⊢
  simp [r_asked_writer, ltD, gtD, n1, n2, n3, n4, o.el, e1, e2]
end Wk

namespace Wk
open PySem PySem.Spec PyProof.Rows L2 TL DL
/-! ### cells -/
def IntsD (d : D) (ns : List Int) : Prop := d = .scr ns ∨ d = .lst (ns.map D.int)
def cellAt (ns : List Int) (k : Nat) : Int := ns.getD k 0
theorem cell_eq {d : D} {ns : List Int} (h : IntsD d ns) (k : Nat) : f__law_cell_at [d, .int k] = .ok (.int (cellAt ns k)) := by
  have e : f__law_cell_at [d, .int k] = fnRes (r__law_cell_at [.dat d, .dat (.int k)]) := rfl
  rw [e]
  have hl : lenD [d] = some (.int ns.length) := by
    rcases h with rfl | rfl
    · rfl
    · simp [lenD]
  by_cases hk : k < ns.length
  · have hi : ixAD d (.int k) = some (.int (cellAt ns k)) := by
      have e1 : ns[k]? = some (cellAt ns k) := by
        unfold cellAt
        rw [List.getD_eq_getElem?_getD, List.getElem?_eq_getElem hk]
        rfl
      rcases h with rfl | rfl
      · simp only [ixAD]
        rw [atI_nat', e1]
        rfl
      · simp only [ixAD]
        rw [atI_nat', List.getElem?_map, e1]
        rfl
    simp [r__law_cell_at, hl, ltD, hk, hi]
  · have e1 : cellAt ns k = 0 := by
      unfold cellAt
      rw [List.getD_eq_getElem?_getD, List.getElem?_eq_none_iff.mpr (by omega)]
      rfl
    simp [r__law_cell_at, hl, ltD, hk, e1]
theorem mulD_r {a b : Int} (h : -10000000000 ≤ b ∧ b ≤ 10000000000) : mulD (.int a) (.int b) = some (.int (a * b)) := if_pos (.inr (inM_small h.1 h.2))
theorem mulD_l {a b : Int} (h : -10000000000 ≤ a ∧ a ≤ 10000000000) : mulD (.int a) (.int b) = some (.int (a * b)) := if_pos (.inl (inM_small h.1 h.2))
theorem modD_p {a b : Int} (h : 0 < b) : modD (.int a) (.int b) = some (.int (a % b)) := if_pos h
theorem fdivD_p {a b : Int} (h : 0 < b ∧ b < 1073741824) : fdivD (.int a) (.int b) = some (.int (a / b)) := if_pos h
@[simp] theorem addD_int (a b : Int) : addD (.int a) (.int b) = some (.int (a + b)) := rfl
@[simp] theorem subD_int (a b : Int) : subD (.int a) (.int b) = some (.int (a - b)) := rfl
@[simp] theorem ltD_int (a b : Int) : ltD (.int a) (.int b) = some (.bl (decide (a < b))) := rfl
@[simp] theorem leD_int (a b : Int) : leD (.int a) (.int b) = some (.bl (decide (a ≤ b))) := rfl
@[simp] theorem gtD_int (a b : Int) : gtD (.int a) (.int b) = some (.bl (decide (b < a))) := rfl
@[simp] theorem geD_int (a b : Int) : geD (.int a) (.int b) = some (.bl (decide (b ≤ a))) := rfl
theorem stirred_eq (c k : Int) : ∃ r : Int, 0 ≤ r ∧ f__law_stirred [.int c, .int k] = .ok (.int r) := by
  have e : f__law_stirred [.int c, .int k] = fnRes (r__law_stirred [.dat (.int c), .dat (.int k), .un]) := rfl
  rw [e]
  have b1 : ∀ x : Int, 0 ≤ x % 2147483647 ∧ x % 2147483647 < 2147483647 := fun x => by omega
  have m1 := mulD_l (a := 1009) (b := k) (by decide)
  have m2 := mulD_r (a := c + 1009 * k + 17) (b := 48271) (by decide)
  have m3 := modD_p (a := (c + 1009 * k + 17) * 48271) (b := 2147483647) (by decide)
  generalize hx : (c + 1009 * k + 17) * 48271 % 2147483647 = x at m3
  have bx := b1 ((c + 1009 * k + 17) * 48271)
  rw [hx] at bx
  have m4 := mulD_l (a := x) (b := x) (by omega)
  have m5 := modD_p (a := x * x) (b := 2147483647) (by decide)
  generalize hy : x * x % 2147483647 = y at m5
  have m6 := mulD_r (a := y) (b := 48271) (by decide)
  have m7 := modD_p (a := y * 48271) (b := 2147483647) (by decide)
  generalize hz : y * 48271 % 2147483647 = z at m7
  have bz := b1 (y * 48271)
  rw [hz] at bz
  have m8 := fdivD_p (a := z) (b := 8) (by decide)
  refine ⟨z / 8, by omega, ?_⟩
  simp [r__law_stirred, m1, m2, m3, m4, m5, m6, m7, m8]
theorem ix_abcd {i : Int} (h0 : 0 ≤ i) (h4 : i < 4) : ∃ c : Nat, (97 ≤ c ∧ c ≤ 100) ∧ c = 97 + i.toNat ∧ ixAD (.str "abcd") (.int i) = some (tD [c]) := by
  obtain ⟨n, rfl⟩ := Int.eq_ofNat_of_zero_le h0
  have hn : n < 4 := by omega
  refine ⟨97 + n, by omega, by simp, ?_⟩
  have hs : ("abcd" : Str).length ≤ sizeLine := small_line (by decide)
  have e : ("abcd" : Str).cps.toList = [97, 98, 99, 100] := by decide
  unfold ixAD
  simp only
  rw [if_pos hs, e]
  have h2 : atI [97, 98, 99, 100] (n : Int) = some (97 + n) := by
    have := atI_nat' [97, 98, 99, 100] n
    rw [this]
    match n, hn with
    | 0, _ => rfl
    | 1, _ => rfl
    | 2, _ => rfl
    | 3, _ => rfl
  rw [h2]
  rfl
theorem word_loop {L : Int} (h1 : 1 ≤ L) (h4 : L ≤ 4) (a c3 : Cel) : ∀ (ds : List D) (cell : Int) (acc : T) (c5 : Cel), acc.length + ds.length ≤ 8 → Wd acc →
    ∃ (acc' : T) (cell' : Int) (c5' : Cel), Wd acc' ∧ acc'.length = acc.length + ds.length ∧
      dLoop (gN 5) r__law_word_b1 ds [.dat (.int cell), a, .dat (.int L), c3, .dat (tD acc), c5] = .nx [.dat (.int cell'), a, .dat (.int L), c3, .dat (tD acc'), c5']
  | [], cell, acc, c5, _, hw => ⟨acc, cell, c5, hw, by simp, rfl⟩
  | d :: ds, cell, acc, c5, hl, hw => by
    simp only [List.length_cons] at hl
    have hm : 0 ≤ cell % L ∧ cell % L < 4 := ⟨Int.emod_nonneg _ (by omega), by have := Int.emod_lt_of_pos cell (show 0 < L by omega); omega⟩
    obtain ⟨c, hc, _, hi⟩ := ix_abcd hm.1 hm.2
    have ha : addD (tD acc) (tD [c]) = some (tD (acc ++ [c])) := add_tD (by simp; omega)
    obtain ⟨acc', cell', c5', q1, q2, q3⟩ := word_loop h1 h4 a c3 ds (cell / L) (acc ++ [c]) (.dat d) (by simp; omega) ⟨by simp; omega, fun x hx => by
      rcases List.mem_append.mp hx with hx | hx
      · exact hw.2 x hx
      · rw [List.mem_singleton.mp hx]; exact hc⟩
    refine ⟨acc', cell', c5', q1, by rw [q2]; simp; omega, dLoop_step rfl ?_ q3⟩
    simp [r__law_word_b1, modD_p (a := cell) (b := L) (by omega), fdivD_p (a := cell) (b := L) (by omega), hi, ha]
theorem rng1_nat {n : Nat} (h : n ≤ 1000) : rng1D [.int (n : Int)] = some ((List.range n).map fun (m : Nat) => D.int (m : Int)) :=
  (if_pos (inB_small (j := (n : Int)) (by omega) (by omega))).trans (by rw [Int.toNat_natCast])
theorem sSeq_nx {a b : DStm} {env e1 : DEnv} {r : DOut} (h1 : a env = .nx e1) (h2 : b e1 = r) : sSeq a b env = r := by
  simp only [sSeq, h1, DOut.then]
  exact h2
theorem sSet_ok {i : Nat} {f : DEnv → M D} {env e1 : DEnv} {d : D} (h : f env = .ok d) (he : env.set i (.dat d) = e1) : sSet i f env = .nx e1 := by
  simp only [sSet, h, M.to, he]
theorem sFor_ok {it : DEnv → M (List D)} {t : DTgt} {b : DStm} {env : DEnv} {ds : List D} {r : DOut} (h : it env = .ok ds) (hl : dLoop t b ds env = r) : sFor it t b env = r := by
  simp only [sFor, h, M.to]
  exact hl
theorem sRet_ok {f : DEnv → M D} {env : DEnv} {d : D} (h : f env = .ok d) : sRet f env = .rt d := by
  simp only [sRet, h, M.to]
theorem word_eq (cell : Int) {most : Nat} (hm : most ≤ 8) {L : Int} (h1 : 1 ≤ L) (h4 : L ≤ 4) : ∃ (l : T) (c : Int), Wd l ∧ l.length ≤ most ∧ f__law_word [.int cell, .int most, .int L] = .ok (.tup [tD l, .int c]) := by
  have e : f__law_word [.int cell, .int most, .int L] = fnRes (r__law_word [.dat (.int cell), .dat (.int most), .dat (.int L), .un, .un, .un]) := rfl
  rw [e]
  have m1 := modD_p (a := cell) (b := (most : Int) + 1) (by omega)
  have m2 := fdivD_p (a := cell) (b := (most : Int) + 1) (by omega)
  obtain ⟨n, hn⟩ := Int.eq_ofNat_of_zero_le (Int.emod_nonneg cell (show (most : Int) + 1 ≠ 0 by omega))
  have hn' : cell % ((most : Int) + 1) = (n : Int) := hn
  have hlt := Int.emod_lt_of_pos cell (show 0 < (most : Int) + 1 by omega)
  rw [hn'] at m1 hlt
  obtain ⟨acc, c', c5, w1, w2, w3⟩ := word_loop h1 h4 (.dat (.int most)) (.dat (.int n)) ((List.range n).map fun (m : Nat) => D.int (m : Int)) (cell / ((most : Int) + 1)) [] .un (by simp; omega) ⟨by simp, by simp⟩
  refine ⟨acc, c', w1, by rw [w2]; simp; omega, ?_⟩
  have hr : r__law_word [.dat (.int cell), .dat (.int most), .dat (.int L), .un, .un, .un] = .rt (.tup [tD acc, .int c']) := by
    refine sSeq_nx (sSet_ok (d := .int n) ?_ rfl) (sSeq_nx (sSet_ok (d := .int (cell / ((most : Int) + 1))) ?_ rfl) (sSeq_nx (sSet_ok (d := tD []) ?_ rfl) (sSeq_nx (sFor_ok ?_ w3) (sRet_ok ?_))))
    · simp [m1]
    · simp [m2]
    · simp [nil_tD]
    · simp [rng1_nat (show n ≤ 1000 by omega)]
    · simp [small_line]
  rw [hr]
  rfl
theorem iRng_ok {r : List D → Option (List D)} {g : DEnv → M (List D)} {env : DEnv} {ds its : List D} (h1 : g env = .ok ds) (h2 : r ds = some its) : iRng r g env = .ok its := by
  simp only [iRng, h1, M.bind, h2, M.of]
theorem lComp_ok {vs : List Nat} {it : DEnv → M (List D)} {t : DTgt} {c : DEnv → M Bool} {f : DEnv → M D} {env : DEnv} {ds r : List D} (h1 : it env = .ok ds) (h2 : ds.length ≤ 100000) (h3 : (vs.all fun i => match env[i]? with | some s => !s.isOwned | none => true) = true) (h4 : cLoop t c f (wipeE env vs) ds = .ok r) : lComp vs it t c f env = .ok r := by
  simp only [lComp, h1, M.bind]
  rw [if_pos ⟨small_lt h2, h3⟩, h4]
end Wk

namespace Wk
open PySem PySem.Spec PyProof.Rows L2 TL DL
/-! ### _law_writer -/
/-- the pairs of a row, of words to n letters and states below S -/
def RowOk (n S : Nat) (r : List (T × Nat)) : Prop := ∀ p ∈ r, Wd p.1 ∧ p.1.length ≤ n ∧ p.2 < S
theorem natOf {i : Int} (h : 0 ≤ i) : ∃ n : Nat, i = (n : Int) := ⟨i.toNat, by omega⟩
theorem writer_in {S n : Nat} (hS : 1 ≤ S ∧ S ≤ 6) (hn : n ≤ 8) {L : Int} (hL : 1 ≤ L ∧ L ≤ 4) (head seed state : Int) (c0 c1 c2 c9 c10 : Cel) : ∀ (ds : List Nat) (own : Int) (row : List (T × Nat)) (c13 c14 c15 : Cel), row.length + ds.length ≤ 1000 → RowOk n S row →
    ∃ (own' : Int) (row' : List (T × Nat)) (c13' c14' c15' : Cel), RowOk n S row' ∧ row'.length = row.length + ds.length ∧
      dLoop (gN 13) r__law_writer_b1 (ds.map fun (m : Nat) => D.int (m : Int)) [c0, c1, c2, .dat (.int head), .dat (.int S), .dat (.int n), .dat (.int L), .dat (.int seed), .dat (.int own), c9, c10, .dat (.int state), .own (row.map pairD), c13, c14, c15] =
        .nx [c0, c1, c2, .dat (.int head), .dat (.int S), .dat (.int n), .dat (.int L), .dat (.int seed), .dat (.int own'), c9, c10, .dat (.int state), .own (row'.map pairD), c13', c14', c15']
  | [], own, row, c13, c14, c15, _, hr => ⟨own, row, c13, c14, c15, hr, by simp, rfl⟩
  | d :: ds, own, row, c13, c14, c15, hl, hr => by
    simp only [List.length_cons] at hl
    have f1 := fdivD_p (a := head) (b := 6048) (by decide)
    have f2 := modD_p (a := head / 6048) (b := 2) (by decide)
    have m1 := mulD_l (a := 97) (b := state) (by decide)
    have m2 := mulD_l (a := 11) (b := (d : Int)) (by decide)
    obtain ⟨q, hq0, hq⟩ := stirred_eq seed (97 * state + 11 * (d : Int))
    -- the value of own behind the if
    have step : ∀ o : Int, ∃ (own' : Int) (p : T × Nat), (Wd p.1 ∧ p.1.length ≤ n ∧ p.2 < S) ∧ modD (.int o) (.int S) = some (.int (p.2 : Int)) ∧ fdivD (.int o) (.int S) = some (.int (o / S)) ∧ f__law_word [.int (o / S), .int n, .int L] = .ok (.tup [tD p.1, .int own']) := fun o => by
      obtain ⟨l, c, w1, w2, w3⟩ := word_eq (o / S) hn hL.1 hL.2
      obtain ⟨a, ha⟩ := natOf (Int.emod_nonneg o (show (S : Int) ≠ 0 by omega))
      have hlt := Int.emod_lt_of_pos o (show (0 : Int) < S by omega)
      refine ⟨c, (l, a), ⟨w1, w2, by show a < S; omega⟩, ?_, fdivD_p ⟨by omega, by omega⟩, w3⟩
      rw [modD_p (by omega), ha]
    have big : (List.map pairD row).length < sizeLine := small_lt (by rw [List.length_map]; omega)
    by_cases hb : head / 6048 % 2 = 0
    · obtain ⟨own1, p, h1, h2, h3, h4⟩ := step q
      obtain ⟨own', row', x, y, z, r1, r2, r3⟩ := writer_in hS hn hL head seed state c0 c1 c2 c9 c10 ds own1 (row ++ [p]) (.dat (.int d)) (.dat (.int p.2)) (.dat (tD p.1)) (by simp; omega) (fun x hx => by
        rcases List.mem_append.mp hx with hx | hx
        · exact hr x hx
        · rw [List.mem_singleton.mp hx]; exact h1)
      refine ⟨own', row', x, y, z, r1, by rw [r2]; simp; omega, dLoop_step rfl ?_ r3⟩
      simp [r__law_writer_b1, f1, f2, hb, m1, m2, hq, h2, h3, h4, small_line, big, pairD]
      simpa using big
    · obtain ⟨own1, p, h1, h2, h3, h4⟩ := step own
      obtain ⟨own', row', x, y, z, r1, r2, r3⟩ := writer_in hS hn hL head seed state c0 c1 c2 c9 c10 ds own1 (row ++ [p]) (.dat (.int d)) (.dat (.int p.2)) (.dat (tD p.1)) (by simp; omega) (fun x hx => by
        rcases List.mem_append.mp hx with hx | hx
        · exact hr x hx
        · rw [List.mem_singleton.mp hx]; exact h1)
      refine ⟨own', row', x, y, z, r1, by rw [r2]; simp; omega, dLoop_step rfl ?_ r3⟩
      simp [r__law_writer_b1, f1, f2, hb, m1, m2, hq, h2, h3, h4, small_line, big, pairD]
      simpa using big

theorem min2_int (i j : Int) : min2D [.int i, .int j] = some (.int (min i j)) := by
  have e : (if j < i then j else i) = min i j := by split <;> omega
  show some (D.int (if j < i then j else i)) = _
  rw [e]
theorem writer_out {S n g : Nat} (hS : 1 ≤ S ∧ S ≤ 6) (hn : n ≤ 8) {L : Int} (hL : 1 ≤ L ∧ L ≤ 4) (head seed : Int) (c0 c1 : Cel) (a b c : Nat) (ha : 1 ≤ a) (hg : 1 + head % (a : Int) = (g : Int)) (hg4 : g ≤ 4) :
    ∀ (ds : List Nat) (own : Int) (rows : List (List (T × Nat))) (ends : List T) (c11 c12 c13 c14 c15 : Cel), rows.length + ds.length ≤ 1000 → ends.length = rows.length → (∀ r ∈ rows, r.length = g ∧ RowOk n S r) → (∀ e ∈ ends, Wd e ∧ e.length ≤ n) →
    ∃ (own' : Int) (rows' : List (List (T × Nat))) (ends' : List T) (c11' c12' c13' c14' c15' : Cel), rows'.length = rows.length + ds.length ∧ ends'.length = rows'.length ∧ (∀ r ∈ rows', r.length = g ∧ RowOk n S r) ∧ (∀ e ∈ ends', Wd e ∧ e.length ≤ n) ∧
      dLoop (gN 11) r__law_writer_b2 (ds.map fun (m : Nat) => D.int (m : Int)) [c0, c1, .dat (.tup [.int a, .int b, .int c]), .dat (.int head), .dat (.int S), .dat (.int n), .dat (.int L), .dat (.int seed), .dat (.int own), .own (rows.map rowD), .own (ends.map tD), c11, c12, c13, c14, c15] =
        .nx [c0, c1, .dat (.tup [.int a, .int b, .int c]), .dat (.int head), .dat (.int S), .dat (.int n), .dat (.int L), .dat (.int seed), .dat (.int own'), .own (rows'.map rowD), .own (ends'.map tD), c11', c12', c13', c14', c15']
  | [], own, rows, ends, c11, c12, c13, c14, c15, _, he, hr, hen => ⟨own, rows, ends, c11, c12, c13, c14, c15, by simp, he, hr, hen, rfl⟩
  | d :: ds, own, rows, ends, c11, c12, c13, c14, c15, hl, he, hr, hen => by
    simp only [List.length_cons] at hl
    have f1 := fdivD_p (a := head) (b := 6048) (by decide)
    have f2 := modD_p (a := head / 6048) (b := 2) (by decide)
    have f3 := fdivD_p (a := head) (b := 864) (by decide)
    have f4 := modD_p (a := head / 864) (b := 7) (by decide)
    have f5 := modD_p (a := head) (b := (a : Int)) (by omega)
    have m1 := mulD_l (a := 97) (b := (d : Int)) (by decide)
    obtain ⟨q, hq0, hq⟩ := stirred_eq seed (97 * (d : Int) + 71)
    have hrng : iRng rng1D (aCons (xOp addD (xC (.int 1)) (xOp modD (xVar 3) (xOp ixAD (xVar 2) (xC (.int 0))))) (aNil)) [c0, c1, .dat (.tup [.int a, .int b, .int c]), .dat (.int head), .dat (.int S), .dat (.int n), .dat (.int L), .dat (.int seed), .dat (.int own), .own (rows.map rowD), .own (ends.map tD), .dat (.int d), .own [], c13, c14, c15] = .ok ((List.range g).map fun (m : Nat) => D.int (m : Int)) := by
      have : ixAD (.tup [.int a, .int b, .int c]) (.int 0) = some (.int a) := rfl
      simp [this, f5, hg, rng1_nat (show g ≤ 1000 by omega)]
    obtain ⟨own1, row1, x1, y1, z1, r1, r2, r3⟩ := writer_in hS hn hL head seed (d : Int) c0 c1 (.dat (.tup [.int a, .int b, .int c])) (.own (rows.map rowD)) (.own (ends.map tD)) (List.range g) own [] c13 c14 c15 (by simp; omega) (fun x hx => by simp at hx)
    have hmin : ∃ k : Nat, k ≤ 8 ∧ k ≤ n ∧ min (n : Int) (2 + head / 864 % 7) = (k : Int) := by
      refine ⟨(min (n : Int) (2 + head / 864 % 7)).toNat, ?_, ?_, ?_⟩ <;> omega
    obtain ⟨k, hk8, hkn, hk⟩ := hmin
    have big1 : rows.length < sizeLine := small_lt (by omega)
    have big2 : ends.length < sizeLine := small_lt (by omega)
    simp only [List.length_nil, Nat.zero_add, List.length_range] at r2
    have key : ∀ (o : Int), ∃ (own' : Int) (l : T), (Wd l ∧ l.length ≤ n) ∧ f__law_word [.int o, .int k, .int L] = .ok (.tup [tD l, .int own']) := fun o => by
      obtain ⟨l, c, w1, w2, w3⟩ := word_eq o hk8 hL.1 hL.2
      exact ⟨c, l, ⟨w1, by omega⟩, w3⟩
    have rowD_eq : D.tup (row1.map pairD) = rowD row1 := rfl
    have tail := fun (own2 : Int) (l : T) (h1 : Wd l ∧ l.length ≤ n) => writer_out hS hn hL head seed c0 c1 a b c ha hg hg4 ds own2 (rows ++ [row1]) (ends ++ [l]) (.dat (.int d)) (.dat (.lst (row1.map pairD))) x1 y1 (.dat (tD l)) (by simp; omega) (by simp; omega) (fun x hx => by
      rcases List.mem_append.mp hx with hx | hx
      · exact hr x hx
      · rw [List.mem_singleton.mp hx]; exact ⟨r2, r1⟩) (fun x hx => by
      rcases List.mem_append.mp hx with hx | hx
      · exact hen x hx
      · rw [List.mem_singleton.mp hx]; exact h1)
    by_cases hb : head / 6048 % 2 = 0
    · obtain ⟨own2, l, h1, h2⟩ := key q
      obtain ⟨own', rows', ends', e1, e2, e3, e4, e5, t1, t2, t3, t4, t5⟩ := tail own2 l h1
      refine ⟨own', rows', ends', e1, e2, e3, e4, e5, by rw [t1]; simp; omega, t2, t3, t4, dLoop_step rfl ?_ t5⟩
      unfold r__law_writer_b2
      refine sSeq_nx (e1 := [c0, c1, .dat (.tup [.int a, .int b, .int c]), .dat (.int head), .dat (.int S), .dat (.int n), .dat (.int L), .dat (.int seed), .dat (.int own), .own (rows.map rowD), .own (ends.map tD), .dat (.int d), .own [], c13, c14, c15]) (by simp [small_line]) ?_
      refine sSeq_nx (sFor_ok hrng r3) ?_
      simp [f1, f2, f3, f4, hb, m1, hq, min2_int, hk, h2, big1, big2, tupD, rowD_eq]
    · obtain ⟨own2, l, h1, h2⟩ := key own1
      obtain ⟨own', rows', ends', e1, e2, e3, e4, e5, t1, t2, t3, t4, t5⟩ := tail own2 l h1
      refine ⟨own', rows', ends', e1, e2, e3, e4, e5, by rw [t1]; simp; omega, t2, t3, t4, dLoop_step rfl ?_ t5⟩
      unfold r__law_writer_b2
      refine sSeq_nx (e1 := [c0, c1, .dat (.tup [.int a, .int b, .int c]), .dat (.int head), .dat (.int S), .dat (.int n), .dat (.int L), .dat (.int seed), .dat (.int own), .own (rows.map rowD), .own (ends.map tD), .dat (.int d), .own [], c13, c14, c15]) (by simp [small_line]) ?_
      refine sSeq_nx (sFor_ok hrng r3) ?_
      simp [f1, f2, f3, f4, hb, m1, hq, min2_int, hk, h2, big1, big2, tupD, rowD_eq]
theorem writer_eq {d : D} {ns : List Int} (hd : IntsD d ns) (at' : Nat) {a b c : Nat} (ha : 1 ≤ a ∧ a ≤ 4) (hb : 1 ≤ b ∧ b ≤ 6) (hc : c ≤ 8) :
    ∃ w : Wr, w.Ok ∧ w.signs ≤ a ∧ (w.signs : Int) = 1 + cellAt ns at' % a ∧ w.rows.length ≤ b ∧ (∀ r ∈ w.rows, ∀ p ∈ r, p.1.length ≤ c) ∧ (∀ e ∈ w.ends, e.length ≤ c) ∧
      f__law_writer [d, .int at', .tup [.int a, .int b, .int c]] = .ok (wrD w) := by
  have e : f__law_writer [d, .int at', .tup [.int a, .int b, .int c]] = fnRes (r__law_writer [.dat d, .dat (.int at'), .dat (.tup [.int a, .int b, .int c]), .un, .un, .un, .un, .un, .un, .un, .un, .un, .un, .un, .un, .un]) := rfl
  rw [e]
  generalize hh : cellAt ns at' = head
  have c1 : f__law_cell_at [d, .int at'] = .ok (.int head) := by rw [cell_eq hd, hh]
  have c2 := cell_eq hd (at' + 1)
  simp only [Int.natCast_add, Int.cast_ofNat_Int] at c2
  generalize hs : cellAt ns (at' + 1) = seed at c2
  have f0 := fdivD_p (a := head) (b := 4) (by decide)
  have f1 := modD_p (a := head / 4) (b := (b : Int)) (by omega)
  have f2 := fdivD_p (a := head) (b := 24) (by decide)
  have f3 := modD_p (a := head / 24) (b := (c : Int) + 1) (by omega)
  have f4 := fdivD_p (a := head) (b := 216) (by decide)
  have f5 := modD_p (a := head / 216) (b := 4) (by decide)
  have f6 := modD_p (a := head) (b := (a : Int)) (by omega)
  have l1 : 0 ≤ head / 4 % (b : Int) ∧ head / 4 % (b : Int) < b := ⟨Int.emod_nonneg _ (by omega), Int.emod_lt_of_pos _ (by omega)⟩
  have l2 : 0 ≤ head / 24 % ((c : Int) + 1) ∧ head / 24 % ((c : Int) + 1) < c + 1 := ⟨Int.emod_nonneg _ (by omega), Int.emod_lt_of_pos _ (by omega)⟩
  have l3 : 0 ≤ head / 216 % 4 ∧ head / 216 % 4 < 4 := by omega
  have l4 : 0 ≤ head % (a : Int) ∧ head % (a : Int) < a := ⟨Int.emod_nonneg _ (by omega), Int.emod_lt_of_pos _ (by omega)⟩
  obtain ⟨S, hS⟩ := natOf (show 0 ≤ 1 + head / 4 % (b : Int) by omega)
  obtain ⟨n, hn⟩ := natOf l2.1
  obtain ⟨g, hg⟩ := natOf (show 0 ≤ 1 + head % (a : Int) by omega)
  obtain ⟨own', rows, ends, c11, c12, c13, c14, c15, t1, t2, t3, t4, t5⟩ := writer_out (S := S) (n := n) (g := g) (by omega) (by omega) (L := 1 + head / 216 % 4) (by omega) head seed (.dat d) (.dat (.int at')) a b c ha.1 hg (by omega) (List.range S) seed [] [] .un .un .un .un .un (by simp; omega) rfl (fun _ h => by simp at h) (fun _ h => by simp at h)
  simp only [List.length_nil, Nat.zero_add, List.length_range] at t1
  have hrng := rng1_nat (show S ≤ 1000 by omega)
  refine ⟨⟨g, rows, ends⟩, ⟨by show 1 ≤ g; omega, by show g ≤ 4; omega, by show 1 ≤ rows.length; omega, by show rows.length ≤ 6; omega, t2, fun r h => (t3 r h).1, fun r h p hp => ⟨((t3 r h).2 p hp).1, by show p.2 < rows.length; have := ((t3 r h).2 p hp).2.2; omega⟩, fun e h => (t4 e h).1⟩,
    by show g ≤ a; omega, by show (g : Int) = _; omega, by show rows.length ≤ b; omega, fun r h p hp => by have := ((t3 r h).2 p hp).2.1; omega, fun e h => by have := (t4 e h).2; omega, ?_⟩
  have i0 : ixAD (.tup [.int a, .int b, .int c]) (.int 0) = some (.int a) := rfl
  have i1 : ixAD (.tup [.int a, .int b, .int c]) (.int 1) = some (.int b) := rfl
  have i2 : ixAD (.tup [.int a, .int b, .int c]) (.int 2) = some (.int c) := rfl
  have hr : r__law_writer [.dat d, .dat (.int at'), .dat (.tup [.int a, .int b, .int c]), .un, .un, .un, .un, .un, .un, .un, .un, .un, .un, .un, .un, .un] = .rt (wrD ⟨g, rows, ends⟩) := by
    unfold r__law_writer
    refine sSeq_nx (sSet_ok (d := .int head) (by simp [c1]) rfl) ?_
    refine sSeq_nx (sSet_ok (d := .int S) (by simp [f0, f1, i1, hS]) rfl) ?_
    refine sSeq_nx (sSet_ok (d := .int n) (by simp [f2, f3, i2, hn]) rfl) ?_
    refine sSeq_nx (sSet_ok (d := .int (1 + head / 216 % 4)) (by simp [f4, f5]) rfl) ?_
    refine sSeq_nx (sSet_ok (d := .int seed) (by simp [c2]) rfl) ?_
    refine sSeq_nx (sSet_ok (d := .int seed) (by simp) rfl) ?_
    refine sSeq_nx (e1 := [.dat d, .dat (.int at'), .dat (.tup [.int a, .int b, .int c]), .dat (.int head), .dat (.int S), .dat (.int n), .dat (.int (1 + head / 216 % 4)), .dat (.int seed), .dat (.int seed), .own [], .un, .un, .un, .un, .un, .un]) (by simp [small_line]) ?_
    refine sSeq_nx (e1 := [.dat d, .dat (.int at'), .dat (.tup [.int a, .int b, .int c]), .dat (.int head), .dat (.int S), .dat (.int n), .dat (.int (1 + head / 216 % 4)), .dat (.int seed), .dat (.int seed), .own [], .own [], .un, .un, .un, .un, .un]) (by simp [small_line]) ?_
    refine sSeq_nx (sFor_ok (by simp [hrng]) t5) ?_
    simp [i0, f6, hg, tupD, small_line]
    rfl
  rw [hr]
  rfl
end Wk

namespace Wk
open PySem PySem.Spec PyProof.Rows L2 TL DL
/-! ### slices -/
theorem cutL_take {α : Type} (l : List α) (k : Nat) : cutL l none (some (k : Int)) = l.take k := by
  unfold cutL
  rw [HT.sIx_none, HT.sIx_nat, Nat.sub_zero, List.drop_zero]
  rw [List.take_eq_take_iff]
  omega
theorem cutL_drop {α : Type} (l : List α) (k : Nat) : cutL l (some (k : Int)) none = l.drop k := by
  unfold cutL
  rw [HT.sIx_none, HT.sIx_nat]
  rw [List.take_of_length_le (by rw [List.length_drop]; omega)]
  by_cases h : k ≤ l.length
  · rw [Nat.min_eq_left h]
  · rw [Nat.min_eq_right (by omega), List.drop_of_length_le (Nat.le_refl _), List.drop_of_length_le (by omega)]
theorem cutL_mid {α : Type} (l : List α) (j k : Nat) : cutL l (some (j : Int)) (some (k : Int)) = (l.drop j).take (k - j) := by
  unfold cutL
  rw [HT.sIx_nat, HT.sIx_nat]
  by_cases h : j ≤ l.length
  · rw [Nat.min_eq_left h, List.take_eq_take_iff, List.length_drop]
    omega
  · rw [List.drop_of_length_le (show l.length ≤ min j l.length by omega), List.drop_of_length_le (show l.length ≤ j by omega)]
    simp
theorem cut_tD {l : T} (h : l.length ≤ 100000) (lo hi : Option Int) : slcD lo hi (tD l) = some (tD (cutL l lo hi)) := by
  unfold tD slcD
  simp only [sv_len]
  rw [if_pos (small_line h)]
  congr 2
@[simp] theorem cut_mD (ms : List Nat) (k : Nat) : slcD none (some (k : Int)) (mD ms) = some (mD (ms.take k)) := by
  simp only [mD, slcD, cutL_take, List.map_take]
@[simp] theorem isi_str (l : T) : isiD "str" (tD l) = some (.bl true) := rfl
theorem len_mD (ms : List Nat) : lenD [mD ms] = some (.int ms.length) := by simp [mD, lenD]
theorem eqOk_mD (ms : List Nat) : eqOk 60 (mD ms) = true := eqOk_lst (n := 59) _ ms fun m _ => eqOk_int _
theorem mD_inj {a b : List Nat} : mD a = mD b ↔ a = b := by
  constructor
  · intro h
    simp only [mD, D.lst.injEq] at h
    exact (List.map_inj_right (fun x y h => by simp only [D.int.injEq] at h; omega)).mp h
  · rintro rfl; rfl
theorem eq_mD (a b : List Nat) : eqD (mD a) (mD b) = some (.bl (decide (a = b))) := by
  rw [eqD_eq (by rw [eqOk_mD, eqOk_mD]; simp)]
  simp only [mD_inj]
theorem tup3 (a b c : Int) : xTup (aCons (xC (.int a)) (aCons (xC (.int b)) (aCons (xC (.int c)) aNil))) = fun _ => .ok (.tup [.int a, .int b, .int c]) := by
  funext env
  simp [small_line]
theorem cells0 (ns : List Int) : IntsD (.scr ns) ns := .inl rfl
theorem eqOk_wrD {w : Wr} (o : w.Ok) : eqOk 60 (wrD w) = true := by
  have h1 : eqOk 59 (rowsD w.rows) = true := eqOk_tup (n := 58) rowD w.rows fun r hr => eqOk_tup (n := 57) pairD r fun p hp => by
    have := eqOk_tD (n := 56) ((o.pr r hr p hp).1.uni)
    simp only [pairD, eqOk, eqOks, this, Bool.and_self]
  have h2 : eqOk 59 (endsD w.ends) = true := eqOk_tup (n := 58) tD w.ends fun l hl => eqOk_tD (o.en l hl).uni
  have h3 : eqOk 59 (.int (w.signs : Int)) = true := eqOk_int _
  show eqOks 59 [.int (w.signs : Int), rowsD w.rows, endsD w.ends] = true
  simp only [eqOks, h1, h2, h3, Bool.and_self]
theorem Wr.Ok.row_ok {w : Wr} (o : w.Ok) {k : Nat} (h : k < w.rows.length) : ∃ r, w.rows[k]? = some r ∧ w.rows.getD k [] = r ∧ r.length = w.signs ∧ ∀ p ∈ r, Wd p.1 ∧ p.2 < w.rows.length := by
  have h1 : w.rows[k]? = some w.rows[k] := List.getElem?_eq_getElem h
  exact ⟨_, h1, by rw [List.getD_eq_getElem?_getD, h1]; rfl, o.rl _ (List.getElem_mem _), o.pr _ (List.getElem_mem _)⟩
end Wk

namespace Wk
open PySem PySem.Spec PyProof.Rows L2 TL DL
/-! ### joined and split texts -/
theorem strsOf_tD (ls : List T) : strsOf (ls.map tD) = some (ls.map sv) := by
  have : ls.map tD = (ls.map sv).map D.str := by simp [tD]
  rw [this, strsOf_strs]
theorem join_sv (s : T) (ls : List T) : Txt.join (sv s) (ls.map sv) = sv (joinL s ls) := by
  refine ext_tl ?_
  rw [TL.join_eq, tl_join, sv_tl, sv_tl, List.map_map]
  have : (tl ∘ sv) = (id : T → T) := by funext l; rfl
  rw [this, List.map_id]
theorem join_tD {s : T} {ls : List T} (h : (ls.map List.length).sum + ls.length * s.length ≤ 16777216) : joinD (tD s) (.lst (ls.map tD)) = some (tD (joinL s ls)) := by
  have e : joinD (tD s) (.lst (ls.map tD)) = match strsOf (ls.map tD) with
    | some ys => if (ys.map (·.length)).sum + ys.length * (sv s).length ≤ 16777216 then some (.str (Txt.join (sv s) ys)) else none
    | none => none := rfl
  rw [e, strsOf_tD]
  have h2 : ((ls.map sv).map (·.length)).sum + (ls.map sv).length * (sv s).length ≤ 16777216 := by
    have : (ls.map sv).map (·.length) = ls.map List.length := by
      rw [List.map_map]
      exact List.map_congr_left fun l _ => sv_len l
    rw [this, List.length_map, sv_len]
    exact h
  simp only
  rw [if_pos h2, join_sv]
  rfl
/-- a text split at a sign -/
def splT (s : Nat) (l : T) : List T := spl [s] 0 [] l
theorem split_sv {s : Nat} (hs : s < 256) (l : T) : Txt.split (sv l) (sv [s]) = (splT s l).map sv := by
  have h := split_spl (sv l) (sv [s]) (by rw [sv_tl]; simp) (kind_ok (by simp [sv]; omega))
  rw [sv_tl, sv_tl] at h
  have e : (Txt.split (sv l) (sv [s])).map (sv ∘ tl) = (splT s l).map sv := by
    rw [← List.map_map, h]
    rfl
  have i : (sv ∘ tl) = (id : Str → Str) := by funext x; exact tl_sv x
  rw [i, List.map_id] at e
  exact e
theorem split_tD {s : Nat} (hs : s < 256) {l : T} (hl : l.length ≤ 90000) : splitL (tD l) (tD [s]) = some ((splT s l).map tD) := by
  have e : splitL (tD l) (tD [s]) = if ((sv [s]).length == 0) = false ∧ (sv l).length + 2 ≤ sizeLine then some ((Txt.split (sv l) (sv [s])).map D.str) else none := rfl
  have := small_line (show l.length + 2 ≤ 100000 by omega)
  rw [e, if_pos ⟨rfl, by rw [sv_len]; exact this⟩, split_sv hs, List.map_map]
  rfl
theorem splT_join {s : Nat} {ls : List T} (h : ls ≠ []) (hp : ∀ p ∈ ls, s ∉ p) : splT s (joinL [s] ls) = ls := spl_join h hp
theorem joinL_snoc (s : T) : ∀ (ps : List T) (e : T), joinL s (ps ++ [e]) = ps.flatMap (· ++ s) ++ e
  | [], e => rfl
  | [p], e => by simp [joinL]
  | p :: q :: r, e => by
    have := joinL_snoc s (q :: r) e
    simp only [List.cons_append] at this ⊢
    simp only [joinL, List.flatMap_cons, this, List.append_assoc]
theorem mem_joinL {s : T} {c : Nat} : ∀ {ls : List T}, c ∈ joinL s ls → c ∈ s ∨ ∃ l ∈ ls, c ∈ l
  | [], h => by simp [joinL] at h
  | [p], h => .inr ⟨p, by simp, h⟩
  | p :: q :: r, h => by
    simp only [joinL, List.mem_append] at h
    rcases h with h | h | h
    · exact .inr ⟨p, by simp, h⟩
    · exact .inl h
    · rcases mem_joinL (ls := q :: r) h with h | ⟨l, hl, h⟩
      · exact .inl h
      · exact .inr ⟨l, List.mem_cons_of_mem _ hl, h⟩
theorem len_joinL (s : T) : ∀ (ls : List T), (joinL s ls).length ≤ (ls.map List.length).sum + ls.length * s.length
  | [] => by simp [joinL]
  | [p] => by simp [joinL]
  | p :: q :: r => by
    have ih := len_joinL s (q :: r)
    simp only [joinL, List.length_append, List.map_cons, List.sum_cons, List.length_cons] at ih ⊢
    have : (r.length + 1 + 1) * s.length = (r.length + 1) * s.length + s.length := by rw [Nat.succ_mul]
    omega
theorem sum_le {b : Nat} : ∀ {ls : List T}, (∀ l ∈ ls, l.length ≤ b) → (ls.map List.length).sum ≤ ls.length * b
  | [], _ => by simp
  | l :: ls, h => by
    have ih := sum_le (ls := ls) fun x hx => h x (List.mem_cons_of_mem _ hx)
    have := h l List.mem_cons_self
    simp only [List.map_cons, List.sum_cons, List.length_cons, Nat.succ_mul]
    omega
/-! ### the text of a writer -/
theorem dash_tD : (D.str "-") = tD [45] := by
  unfold tD; congr 1
theorem blank_tD : (D.str " ") = tD [32] := by
  unfold tD; congr 1
theorem line_tD : (D.str "\n") = tD [10] := by
  unfold tD; congr 1
theorem gt_tD : (D.str ">") = tD [62] := by
  unfold tD; congr 1
theorem figs_tD : (D.str "0123456789") = tD [48, 49, 50, 51, 52, 53, 54, 55, 56, 57] := by
  unfold tD; congr 1
def dash (l : T) : T := if l = [] then [45] else l
def partT (p : T × Nat) : T := dash p.1 ++ [62] ++ [48 + p.2]
def lineT (r : List (T × Nat)) (e : T) : T := joinL [32] (r.map partT ++ [dash e])
def Wr.line (w : Wr) (k : Nat) : T := lineT (w.rows.getD k []) (w.fin k)
def Wr.note (w : Wr) : T := joinL [10] ((List.range w.rows.length).map w.line)
theorem str_fig {n : Nat} (h : n < 10) : strD [.int (n : Int)] = some (tD [48 + n]) := by
  match n, h with
  | 0, _ => rfl
  | 1, _ => rfl
  | 2, _ => rfl
  | 3, _ => rfl
  | 4, _ => rfl
  | 5, _ => rfl
  | 6, _ => rfl
  | 7, _ => rfl
  | 8, _ => rfl
  | 9, _ => rfl
theorem int_text {n : Nat} (h : n < 10) : PySem.intText? (sv [48 + n]) = some (n : Int) := by
  match n, h with
  | 0, _ => decide +kernel
  | 1, _ => decide +kernel
  | 2, _ => decide +kernel
  | 3, _ => decide +kernel
  | 4, _ => decide +kernel
  | 5, _ => decide +kernel
  | 6, _ => decide +kernel
  | 7, _ => decide +kernel
  | 8, _ => decide +kernel
  | 9, _ => decide +kernel
theorem int_fig {n : Nat} (h : n < 10) : intAD [tD [48 + n]] = some (.int (n : Int)) := by
  have h1 : intD [tD [48 + n]] = none := rfl
  unfold intAD
  rw [h1]
  show (match PySem.intText? (sv [48 + n]) with
    | some m => if (sv [48 + n]).length ≤ 640 then some (D.int m) else none
    | none => none) = _
  rw [int_text h]
  simp
theorem dash_len {l : T} (h : Wd l) : 1 ≤ (dash l).length ∧ (dash l).length ≤ 8 := by
  have := h.1
  unfold dash
  split
  · simp
  · rename_i z
    have := List.length_pos_iff.mpr z
    omega
theorem dash_mem {l : T} (h : Wd l) {c : Nat} (hc : c ∈ dash l) : c = 45 ∨ (97 ≤ c ∧ c ≤ 100) := by
  unfold dash at hc
  split at hc
  · exact .inl (List.mem_singleton.mp hc)
  · exact .inr (h.2 c hc)
theorem part_len {p : T × Nat} (h : Wd p.1) : (partT p).length ≤ 10 := by
  have := dash_len h
  simp [partT]
  omega
theorem part_mem {p : T × Nat} (h : Wd p.1) (hp : p.2 < 10) {c : Nat} (hc : c ∈ partT p) : c = 45 ∨ (97 ≤ c ∧ c ≤ 100) ∨ c = 62 ∨ (48 ≤ c ∧ c ≤ 57) := by
  simp only [partT, List.mem_append, List.mem_singleton] at hc
  rcases hc with (hc | hc) | hc
  · rcases dash_mem h hc with h | h <;> omega
  · omega
  · omega
end Wk

namespace Wk
open PySem PySem.Spec PyProof.Rows L2 TL DL
/-! ### what may be no writer -/
structure Rw where
  signs : Int
  rows : List (List (T × Int))
  ends : List T
def pairZ (p : T × Int) : D := .tup [tD p.1, .int p.2]
def rowZ (r : List (T × Int)) : D := .tup (r.map pairZ)
def rowsZ (rs : List (List (T × Int))) : D := .tup (rs.map rowZ)
def rwD (R : Rw) : D := .tup [.int R.signs, rowsZ R.rows, endsD R.ends]
def Plain (l : T) : Prop := l.length ≤ 90000 ∧ ∀ c ∈ l, c < 1114112
structure Rw.Sz (R : Rw) : Prop where
  rows : ∀ r ∈ R.rows, ∀ p ∈ r, Plain p.1
  ends : ∀ t ∈ R.ends, Plain t
structure Rw.Good (R : Rw) : Prop where
  s1 : 1 ≤ R.signs
  s4 : R.signs ≤ 4
  r1 : 1 ≤ R.rows.length
  r6 : R.rows.length ≤ 6
  el : R.ends.length = R.rows.length
  rw : ∀ r ∈ R.rows, (r.length : Int) = R.signs ∧ ∀ p ∈ r, Wd p.1 ∧ 0 ≤ p.2 ∧ p.2 < R.rows.length
  en : ∀ t ∈ R.ends, Wd t
theorem is_word_P {l : T} (h : Plain l) : f_is_word [tD l] = .ok (.bl (wdB l)) := is_word_eq l (by have := h.1; omega) h.2
@[simp] theorem len_rowsZ (rs : List (List (T × Int))) : lenD [rowsZ rs] = some (.int rs.length) := by simp [rowsZ, lenD]
@[simp] theorem len_rowZ (rs : List (T × Int)) : lenD [rowZ rs] = some (.int rs.length) := by simp [rowZ, lenD]
@[simp] theorem items_rowsZ (rs : List (List (T × Int))) : itemsD (rowsZ rs) = .ok (rs.map rowZ) := rfl
@[simp] theorem items_rowZ (rs : List (T × Int)) : itemsD (rowZ rs) = .ok (rs.map pairZ) := rfl
theorem dLoop_ex {t : DTgt} {b : DStm} {d : D} {ds : List D} {e e1 e2 : DEnv} {c : Str} (h1 : t d e = some e1) (h2 : b e1 = .ex c e2) : dLoop t b (d :: ds) e = .ex c e2 := by
  unfold dLoop
  simp only [h1, h2]
theorem sSeq_ex {a b : DStm} {env e1 : DEnv} {c : Str} (h : a env = .ex c e1) : sSeq a b env = .ex c e1 := by simp only [sSeq, h, DOut.then]
theorem row_loopR {rs : List (List (T × Int))} (a b c d : Cel) : ∀ (r : List (T × Int)) (x y : Cel), (∀ p ∈ r, Plain p.1) →
    (¬ (∀ p ∈ r, Wd p.1 ∧ 0 ≤ p.2 ∧ p.2 < rs.length) ∧ ∃ e', dLoop (gT (gsCons (gN 5) (gsCons (gN 6) gsNil))) r_asked_writerZ_b1 (r.map pairZ) [a, b, .dat (rowsZ rs), c, d, x, y] = .ex "NoWriter" e') ∨
    ((∀ p ∈ r, Wd p.1 ∧ 0 ≤ p.2 ∧ p.2 < rs.length) ∧ ∃ x' y', dLoop (gT (gsCons (gN 5) (gsCons (gN 6) gsNil))) r_asked_writerZ_b1 (r.map pairZ) [a, b, .dat (rowsZ rs), c, d, x, y] = .nx [a, b, .dat (rowsZ rs), c, d, x', y'])
  | [], x, y, _ => .inr ⟨fun p hp => by simp at hp, x, y, rfl⟩
  | p :: r, x, y, h => by
    have hp := h p List.mem_cons_self
    have iw := is_word_P hp
    have body : (Wd p.1 ∧ 0 ≤ p.2 ∧ p.2 < rs.length) ∧ r_asked_writerZ_b1 [a, b, .dat (rowsZ rs), c, d, .dat (tD p.1), .dat (.int p.2)] = .nx [a, b, .dat (rowsZ rs), c, d, .dat (tD p.1), .dat (.int p.2)] ∨ ¬ (Wd p.1 ∧ 0 ≤ p.2 ∧ p.2 < rs.length) ∧ r_asked_writerZ_b1 [a, b, .dat (rowsZ rs), c, d, .dat (tD p.1), .dat (.int p.2)] = .ex "NoWriter" [a, b, .dat (rowsZ rs), c, d, .dat (tD p.1), .dat (.int p.2)] := by
      by_cases hw : Wd p.1
      · rw [wdB_iff.mpr hw] at iw
        by_cases h0 : p.2 < 0
        · right
          refine ⟨fun z => by omega, ?_⟩
          simp [r_asked_writerZ_b1, iw, ltD, geD, h0]
        · by_cases h1 : (rs.length : Int) ≤ p.2
          · right
            refine ⟨fun z => by omega, ?_⟩
            simp [r_asked_writerZ_b1, iw, ltD, geD, h0, h1]
          · left
            refine ⟨⟨hw, by omega, by omega⟩, ?_⟩
            simp [r_asked_writerZ_b1, iw, ltD, geD, h0, h1]
      · have : wdB p.1 = false := by
          cases q : wdB p.1 with
          | false => rfl
          | true => exact absurd (wdB_iff.mp q) hw
        rw [this] at iw
        right
        refine ⟨fun z => hw z.1, ?_⟩
        simp [r_asked_writerZ_b1, iw]
    rcases body with ⟨h1, h2⟩ | ⟨hn, h2⟩
    · rcases row_loopR a b c d r (.dat (tD p.1)) (.dat (.int p.2)) (fun q hq => h q (List.mem_cons_of_mem _ hq)) with ⟨hn, e', e⟩ | ⟨h3, x', y', e⟩
      · exact .inl ⟨fun z => hn fun q hq => z q (List.mem_cons_of_mem _ hq), e', dLoop_step rfl h2 e⟩
      · refine .inr ⟨fun q hq => ?_, x', y', dLoop_step rfl h2 e⟩
        rcases List.mem_cons.mp hq with rfl | hq
        · exact h1
        · exact h3 q hq
    · exact .inl ⟨fun z => hn (z p List.mem_cons_self), _, dLoop_ex rfl h2⟩
theorem rows_loopR {rs : List (List (T × Int))} {s : Int} (a c : Cel) : ∀ (r : List (List (T × Int))) (d x y : Cel), (∀ q ∈ r, ∀ p ∈ q, Plain p.1) →
    (¬ (∀ q ∈ r, (q.length : Int) = s ∧ ∀ p ∈ q, Wd p.1 ∧ 0 ≤ p.2 ∧ p.2 < rs.length) ∧ ∃ e', dLoop (gN 4) r_asked_writerZ_b2 (r.map rowZ) [a, .dat (.int s), .dat (rowsZ rs), c, d, x, y] = .ex "NoWriter" e') ∨
    ((∀ q ∈ r, (q.length : Int) = s ∧ ∀ p ∈ q, Wd p.1 ∧ 0 ≤ p.2 ∧ p.2 < rs.length) ∧ ∃ d' x' y', dLoop (gN 4) r_asked_writerZ_b2 (r.map rowZ) [a, .dat (.int s), .dat (rowsZ rs), c, d, x, y] = .nx [a, .dat (.int s), .dat (rowsZ rs), c, d', x', y'])
  | [], d, x, y, _ => .inr ⟨fun p hp => by simp at hp, d, x, y, rfl⟩
  | q :: r, d, x, y, h => by
    by_cases hl : (q.length : Int) = s
    · rcases row_loopR (rs := rs) a (.dat (.int s)) c (.dat (rowZ q)) q x y (h q List.mem_cons_self) with ⟨hn, e', e⟩ | ⟨h2, x1, y1, e1⟩
      · refine .inl ⟨fun z => hn (z q List.mem_cons_self).2, e', dLoop_ex rfl ?_⟩
        simp [r_asked_writerZ_b2, hl, e]
      · have hb : r_asked_writerZ_b2 [a, .dat (.int s), .dat (rowsZ rs), c, .dat (rowZ q), x, y] = .nx [a, .dat (.int s), .dat (rowsZ rs), c, .dat (rowZ q), x1, y1] := by
          simp [r_asked_writerZ_b2, hl, e1]
        rcases rows_loopR a c r (.dat (rowZ q)) x1 y1 (fun p hp => h p (List.mem_cons_of_mem _ hp)) with ⟨hn, e', e⟩ | ⟨h3, d', x', y', e⟩
        · exact .inl ⟨fun z => hn fun q hq => z q (List.mem_cons_of_mem _ hq), e', dLoop_step rfl hb e⟩
        · refine .inr ⟨fun p hp => ?_, d', x', y', dLoop_step rfl hb e⟩
          rcases List.mem_cons.mp hp with rfl | hp
          · exact ⟨hl, h2⟩
          · exact h3 p hp
    · refine .inl ⟨fun z => hl (z q List.mem_cons_self).1, _, dLoop_ex (e2 := [a, .dat (.int s), .dat (rowsZ rs), c, .dat (rowZ q), x, y]) rfl ?_⟩
      simp [r_asked_writerZ_b2, hl]
theorem ends_loopR (a b c d x y : Cel) : ∀ (r : List T) (z : Cel), (∀ q ∈ r, Plain q) →
    (¬ (∀ q ∈ r, Wd q) ∧ ∃ e', dLoop (gN 5) r_asked_writerZ_b3 (r.map tD) [a, b, c, d, x, z, y] = .ex "NoWriter" e') ∨
    ((∀ q ∈ r, Wd q) ∧ ∃ z', dLoop (gN 5) r_asked_writerZ_b3 (r.map tD) [a, b, c, d, x, z, y] = .nx [a, b, c, d, x, z', y])
  | [], z, _ => .inr ⟨fun p hp => by simp at hp, z, rfl⟩
  | q :: r, z, h => by
    have iw := is_word_P (h q List.mem_cons_self)
    by_cases hw : Wd q
    · rw [wdB_iff.mpr hw] at iw
      have hb : r_asked_writerZ_b3 [a, b, c, d, x, .dat (tD q), y] = .nx [a, b, c, d, x, .dat (tD q), y] := by simp [r_asked_writerZ_b3, iw]
      rcases ends_loopR a b c d x y r (.dat (tD q)) (fun p hp => h p (List.mem_cons_of_mem _ hp)) with ⟨hn, e', e⟩ | ⟨h3, z', e⟩
      · exact .inl ⟨fun z => hn fun q hq => z q (List.mem_cons_of_mem _ hq), e', dLoop_step rfl hb e⟩
      · refine .inr ⟨fun p hp => ?_, z', dLoop_step rfl hb e⟩
        rcases List.mem_cons.mp hp with rfl | hp
        · exact hw
        · exact h3 p hp
    · have : wdB q = false := by
        cases z : wdB q with
        | false => rfl
        | true => exact absurd (wdB_iff.mp z) hw
      rw [this] at iw
      refine .inl ⟨fun z => hw (z q List.mem_cons_self), _, dLoop_ex (e2 := [a, b, c, d, x, .dat (tD q), y]) rfl ?_⟩
      simp [r_asked_writerZ_b3, iw]
theorem asked_raw {R : Rw} (z : R.Sz) : ¬ R.Good ∧ f_asked_writerZ [rwD R] = .ex "NoWriter" ∨ R.Good ∧ f_asked_writerZ [rwD R] = .ok .non := by
  have e : f_asked_writerZ [rwD R] = fnRes (r_asked_writerZ [.dat (rwD R), .un, .un, .un, .un, .un, .un]) := rfl
  rw [e]
  have wd : rwD R = .tup [.int R.signs, rowsZ R.rows, endsD R.ends] := rfl
  have asg : (sAsg (gT (gsCons (gN 1) (gsCons (gN 2) (gsCons (gN 3) (gsNil))))) (xVar 0)) [.dat (rwD R), .un, .un, .un, .un, .un, .un] = .nx [.dat (rwD R), .dat (.int R.signs), .dat (rowsZ R.rows), .dat (endsD R.ends), .un, .un, .un] := by
    rw [wd]
    simp
  have exc : ∀ e', r_asked_writerZ [.dat (rwD R), .un, .un, .un, .un, .un, .un] = .ex "NoWriter" e' → fnRes (r_asked_writerZ [.dat (rwD R), .un, .un, .un, .un, .un, .un]) = .ex "NoWriter" := fun e' h => by rw [h]; rfl
  by_cases n1 : R.signs < 1
  · left
    refine ⟨fun z => by have := z.s1; omega, ?_⟩
    refine exc [.dat (rwD R), .dat (.int R.signs), .dat (rowsZ R.rows), .dat (endsD R.ends), .un, .un, .un] ?_
    unfold r_asked_writerZ
    refine sSeq_nx asg ?_
    simp [ltD, n1]
  by_cases n2 : 4 < R.signs
  · left
    refine ⟨fun z => by have := z.s4; omega, ?_⟩
    refine exc [.dat (rwD R), .dat (.int R.signs), .dat (rowsZ R.rows), .dat (endsD R.ends), .un, .un, .un] ?_
    unfold r_asked_writerZ
    refine sSeq_nx asg ?_
    simp [ltD, gtD, n1, n2]
  by_cases n3 : (R.rows.length : Int) < 1
  · left
    refine ⟨fun z => by have := z.r1; omega, ?_⟩
    refine exc [.dat (rwD R), .dat (.int R.signs), .dat (rowsZ R.rows), .dat (endsD R.ends), .un, .un, .un] ?_
    unfold r_asked_writerZ
    refine sSeq_nx asg ?_
    simp [ltD, gtD, n1, n2, n3]
  by_cases n4 : 6 < (R.rows.length : Int)
  · left
    refine ⟨fun z => by have := z.r6; omega, ?_⟩
    refine exc [.dat (rwD R), .dat (.int R.signs), .dat (rowsZ R.rows), .dat (endsD R.ends), .un, .un, .un] ?_
    unfold r_asked_writerZ
    refine sSeq_nx asg ?_
    simp [ltD, gtD, n1, n2, n3, n4]
  by_cases n6 : ¬ (R.ends.length : Int) = (R.rows.length : Int)
  · left
    refine ⟨fun z => by have := z.el; omega, ?_⟩
    refine exc [.dat (rwD R), .dat (.int R.signs), .dat (rowsZ R.rows), .dat (endsD R.ends), .un, .un, .un] ?_
    unfold r_asked_writerZ
    refine sSeq_nx asg ?_
    simp [ltD, gtD, n1, n2, n3, n4, n6]
  have n5 : (R.ends.length : Int) = (R.rows.length : Int) := Decidable.not_not.mp n6
  have pre : ∀ (u : DStm) (r : DOut), u [.dat (rwD R), .dat (.int R.signs), .dat (rowsZ R.rows), .dat (endsD R.ends), .un, .un, .un] = r →
      sSeq (sAsg (gT (gsCons (gN 1) (gsCons (gN 2) (gsCons (gN 3) (gsNil))))) (xVar 0)) (sSeq (sIf (tEither (tE (xOp ltD (xVar 1) (xC (.int 1)))) (tEither (tE (xOp gtD (xVar 1) (xC (.int 4)))) (tEither (tE (xOp ltD (xCb lenD (aCons (xVar 2) (aNil))) (xC (.int 1)))) (tEither (tE (xOp gtD (xCb lenD (aCons (xVar 2) (aNil))) (xC (.int 6)))) (tE (xOp neD (xCb lenD (aCons (xVar 3) (aNil))) (xCb lenD (aCons (xVar 2) (aNil))))))))) (sRaise "NoWriter") (sNext)) u) [.dat (rwD R), .un, .un, .un, .un, .un, .un] = r := fun u r h => by
    refine sSeq_nx asg (sSeq_nx (e1 := [.dat (rwD R), .dat (.int R.signs), .dat (rowsZ R.rows), .dat (endsD R.ends), .un, .un, .un]) ?_ h)
    simp [ltD, gtD, n1, n2, n3, n4, n5]
  rcases rows_loopR (rs := R.rows) (s := R.signs) (.dat (rwD R)) (.dat (endsD R.ends)) R.rows .un .un .un z.rows with ⟨hn, e', h⟩ | ⟨h1, d', x', y', h⟩
  · left
    refine ⟨fun z => hn z.rw, ?_⟩
    refine exc e' ?_
    unfold r_asked_writerZ
    refine pre _ _ ?_
    exact sSeq_ex (sFor_ok (ds := R.rows.map rowZ) (by simp) h)
  · rcases ends_loopR (.dat (rwD R)) (.dat (.int R.signs)) (.dat (rowsZ R.rows)) (.dat (endsD R.ends)) d' y' R.ends x' z.ends with ⟨hn, e', h'⟩ | ⟨h2, z', h'⟩
    · left
      refine ⟨fun z => hn z.en, ?_⟩
      refine exc e' ?_
      unfold r_asked_writerZ
      refine pre _ _ (sSeq_nx (sFor_ok (ds := R.rows.map rowZ) (by simp) h) ?_)
      exact sFor_ok (ds := R.ends.map tD) (by simp) h'
    · refine .inr ⟨⟨by omega, by omega, by omega, by omega, by omega, h1, h2⟩, ?_⟩
      have hr : r_asked_writerZ [.dat (rwD R), .un, .un, .un, .un, .un, .un] = .nx [.dat (rwD R), .dat (.int R.signs), .dat (rowsZ R.rows), .dat (endsD R.ends), d', z', y'] := by
        unfold r_asked_writerZ
        refine pre _ _ (sSeq_nx (sFor_ok (ds := R.rows.map rowZ) (by simp) h) ?_)
        exact sFor_ok (ds := R.ends.map tD) (by simp) h'
      rw [hr]
      rfl
end Wk

namespace Wk
open PySem PySem.Spec PyProof.Rows L2 TL DL
/-! ### the pieces of a split text -/
theorem spl_mem (s : Nat) : ∀ (l acc p : T), p ∈ spl [s] 0 acc l → p.length ≤ acc.length + l.length ∧ ∀ c ∈ p, c ∈ acc ∨ c ∈ l
  | [], acc, p, h => by
    rw [spl_nil, List.mem_singleton] at h
    subst h
    exact ⟨by simp, fun c hc => .inl hc⟩
  | c :: r, acc, p, h => by
    cases q : TL.pre [s] (c :: r) with
    | true =>
      rw [spl_hit q] at h
      rcases List.mem_cons.mp h with rfl | h
      · exact ⟨by simp, fun c hc => .inl hc⟩
      · obtain ⟨h1, h2⟩ := spl_mem s r [] p h
        refine ⟨by simp at h1 ⊢; omega, fun x hx => ?_⟩
        rcases h2 x hx with h | h
        · simp at h
        · exact .inr (List.mem_cons_of_mem _ h)
    | false =>
      rw [spl_miss q] at h
      obtain ⟨h1, h2⟩ := spl_mem s r (acc ++ [c]) p h
      refine ⟨by simp at h1 ⊢; omega, fun x hx => ?_⟩
      rcases h2 x hx with h | h
      · rcases List.mem_append.mp h with h | h
        · exact .inl h
        · rw [List.mem_singleton.mp h]
          exact .inr List.mem_cons_self
      · exact .inr (List.mem_cons_of_mem _ h)
theorem spl_count (s : Nat) : ∀ (l acc : T), (spl [s] 0 acc l).length ≤ l.length + 1 ∧ spl [s] 0 acc l ≠ []
  | [], acc => by rw [spl_nil]; simp
  | c :: r, acc => by
    cases q : TL.pre [s] (c :: r) with
    | true =>
      rw [spl_hit q]
      have := (spl_count s r []).1
      exact ⟨by simp at this ⊢; omega, by simp⟩
    | false =>
      rw [spl_miss q]
      obtain ⟨h1, h2⟩ := spl_count s r (acc ++ [c])
      exact ⟨by simp at h1 ⊢; omega, h2⟩
/-- a text whose length and signs are bounded -/
theorem splT_plain {s : Nat} {l p : T} (h : Plain l) (hp : p ∈ splT s l) : Plain p := by
  obtain ⟨h1, h2⟩ := spl_mem s l [] p hp
  have := h.1
  refine ⟨by simp at h1; omega, fun c hc => ?_⟩
  rcases h2 c hc with h3 | h3
  · simp at h3
  · exact h.2 c h3
theorem splT_count {s : Nat} {l : T} : (splT s l).length ≤ l.length + 1 := (spl_count s l []).1
theorem splT_ne {s : Nat} {l : T} : splT s l ≠ [] := (spl_count s l []).2
/-! ### words -/
def wordO (t : T) : Option T := if t = [45] then some [] else if t = [] then none else some t
def exD {α : Type} (f : α → D) : Option α → M D
  | some w => .ok (f w)
  | none => .ex "NoNote"
def oD {α : Type} (f : α → D) : Option α → D
  | some w => f w
  | none => .non
theorem word_of_any (t : T) : f_word_of [tD t] = exD tD (wordO t) := by
  have e : f_word_of [tD t] = fnRes (r_word_of [.dat (tD t)]) := rfl
  rw [e]
  unfold wordO
  by_cases h1 : t = [45]
  · simp [r_word_of, nil_tD, dash_tD, h1, exD]
  · by_cases h2 : t = []
    · simp [r_word_of, nil_tD, dash_tD, h2, exD]
    · simp [r_word_of, nil_tD, dash_tD, h1, h2, exD]
def lawWd (t : T) : Option T := (wordO t).filter wdB
theorem lawW_loop (a : Cel) : ∀ (l : T) (x : Cel), (∀ c ∈ l, 97 ≤ c ∧ c ≤ 100) ∧ (∃ x', dLoop (gN 1) r__law_word_of_b1 (l.map fun c => tD [c]) [a, x] = .nx [a, x']) ∨
    ¬ (∀ c ∈ l, 97 ≤ c ∧ c ≤ 100) ∧ dLoop (gN 1) r__law_word_of_b1 (l.map fun c => tD [c]) [a, x] = .rt .non
  | [], x => .inl ⟨fun c h => by simp at h, x, rfl⟩
  | c :: l, x => by
    by_cases hc : 97 ≤ c ∧ c ≤ 100
    · have hm : c ∈ [97, 98, 99, 100] := by simp; omega
      have hb : r__law_word_of_b1 [a, .dat (tD [c])] = .nx [a, .dat (tD [c])] := by
        have nin : ninSD (tD [c]) (tD [97, 98, 99, 100]) = some (.bl false) := by
          rw [ninS_one, decide_eq_true hm]
          rfl
        simp [r__law_word_of_b1, abcd_tD, nin]
      rcases lawW_loop a l (.dat (tD [c])) with ⟨h1, x', h2⟩ | ⟨h1, h2⟩
      · refine .inl ⟨fun d hd => ?_, x', dLoop_step rfl hb h2⟩
        rcases List.mem_cons.mp hd with rfl | hd
        · exact hc
        · exact h1 d hd
      · exact .inr ⟨fun z => h1 fun d hd => z d (List.mem_cons_of_mem _ hd), dLoop_step rfl hb h2⟩
    · have hm : ¬ c ∈ [97, 98, 99, 100] := by simp; omega
      refine .inr ⟨fun z => hc (z c List.mem_cons_self), ?_⟩
      have hb : r__law_word_of_b1 [a, .dat (tD [c])] = .rt .non := by
        have nin : ninSD (tD [c]) (tD [97, 98, 99, 100]) = some (.bl true) := by
          rw [ninS_one, decide_eq_false hm]
          rfl
        simp [r__law_word_of_b1, abcd_tD, nin]
      rw [List.map_cons, dLoop_cons]
      show (match r__law_word_of_b1 [a, .dat (tD [c])] with
        | .nx e' => dLoop (gN 1) r__law_word_of_b1 _ e'
        | .ct e' => dLoop (gN 1) r__law_word_of_b1 _ e'
        | .bk e' => .nx e'
        | .rt d => .rt d
        | .ex c e => .ex c e
        | .no => .no) = _
      rw [hb]
theorem law_word_any {t : T} (h : t.length ≤ 90000) : f__law_word_of [tD t] = .ok (oD tD (lawWd t)) := by
  have e : f__law_word_of [tD t] = fnRes (r__law_word_of [.dat (tD t), .un]) := rfl
  rw [e]
  have h' : t.length ≤ 100000 := by omega
  unfold lawWd wordO
  by_cases h1 : t = [45]
  · have w0 : Option.filter wdB (some ([] : T)) = some [] := by decide
    simp [r__law_word_of, nil_tD, dash_tD, h1, w0, oD]
  · have s1 : sIf (tE (xOp eqD (xVar 0) (xC (.str "-")))) (sRet (xC (.str ""))) (sNext) [.dat (tD t), .un] = .nx [.dat (tD t), .un] := by simp [dash_tD, h1]
    have fr : ∀ x', sSeq (sIf (tEither (tE (xOp ltD (xCb lenD (aCons (xVar 0) (aNil))) (xC (.int 1)))) (tE (xOp gtD (xCb lenD (aCons (xVar 0) (aNil))) (xC (.int 8))))) (sRet (xC .non)) (sNext)) (sRet (xVar 0)) [.dat (tD t), x'] = .rt (if 1 ≤ t.length ∧ t.length ≤ 8 then tD t else .non) := fun x' => by
      by_cases a1 : t.length < 1
      · have : (t.length : Int) < 1 := by omega
        have n : ¬ (1 ≤ t.length ∧ t.length ≤ 8) := by omega
        rw [if_neg n]
        simp [len_tD h', ltD, this]
      · have n1 : ¬ (t.length : Int) < 1 := by omega
        by_cases a2 : 8 < t.length
        · have : 8 < (t.length : Int) := by omega
          have n : ¬ (1 ≤ t.length ∧ t.length ≤ 8) := by omega
          rw [if_neg n]
          simp [len_tD h', ltD, gtD, this, n1]
        · have n2 : ¬ 8 < (t.length : Int) := by omega
          have y : (1 ≤ t.length ∧ t.length ≤ 8) := by omega
          rw [if_pos y]
          simp [len_tD h', ltD, gtD, n2, n1]
    rcases lawW_loop (.dat (tD t)) t .un with ⟨l1, x', l2⟩ | ⟨l1, l2⟩
    · have hr : r__law_word_of [.dat (tD t), .un] = .rt (if 1 ≤ t.length ∧ t.length ≤ 8 then tD t else .non) := by
        unfold r__law_word_of
        exact sSeq_nx s1 (sSeq_nx (sFor_ok (ds := t.map fun c => tD [c]) (by simp) l2) (fr x'))
      rw [hr]
      by_cases h2 : t = []
      · simp [h1, h2, oD]
      · have hp := List.length_pos_iff.mpr h2
        by_cases h8 : t.length ≤ 8
        · have w : wdB t = true := wdB_iff.mpr ⟨h8, l1⟩
          rw [if_pos ⟨by omega, h8⟩, if_neg h1, if_neg h2]
          simp [Option.filter, w, oD]
        · have w : wdB t = false := by simp [wdB, h8]
          rw [if_neg (fun z => h8 z.2), if_neg h1, if_neg h2]
          simp [Option.filter, w, oD]
    · have hr : r__law_word_of [.dat (tD t), .un] = .rt .non := by
        unfold r__law_word_of
        refine sSeq_nx s1 ?_
        have := sFor_ok (it := iAny (xVar 0)) (env := [.dat (tD t), .un]) (ds := t.map fun c => tD [c]) (by simp) l2
        simp only [sSeq, this, DOut.then]
      rw [hr]
      have h2 : ¬ t = [] := fun z => l1 (by rw [z]; simp)
      have w : wdB t = false := by
        cases q : wdB t with
        | false => rfl
        | true => exact absurd (wdB_iff.mp q).2 l1
      rw [if_neg h1, if_neg h2]
      simp [Option.filter, w, oD]
end Wk

namespace Wk
open PySem PySem.Spec PyProof.Rows L2 TL DL
@[simp] theorem asS_tD (l : T) : asS (tD l) = .ok (sv l) := rfl
theorem xL_ok {g : DEnv → M (List D)} {env : DEnv} {a : List D} (h : g env = .ok a) : xL g env = .ok (.lst a) := by
  simp only [xL, h, M.bind]
theorem Plain.small {l : T} (h : Plain l) : l.length ≤ 100000 := by have := h.1; omega
/-! ### pairs -/
def figO (b : T) : Option Nat := match b with
  | [c] => if 48 ≤ c ∧ c ≤ 57 then some (c - 48) else none
  | _ => none
def pairO (t : T) : Option (T × Int) := match splT 62 t with
  | [a, b] => (figO b).bind fun k => (wordO a).map fun w => (w, (k : Int))
  | _ => none
theorem figO_some {b : T} {k : Nat} (h : figO b = some k) : b = [48 + k] ∧ k < 10 := by
  unfold figO at h
  split at h
  · split at h
    · cases h
      exact ⟨by congr 1; omega, by omega⟩
    · cases h
  · cases h
theorem figO_fig {k : Nat} (h : k < 10) : figO [48 + k] = some k := by
  unfold figO
  simp only
  rw [if_pos (by omega)]
  congr 1
  omega
theorem split_set {i j : Nat} {f : DEnv → M D} {c : String} {s : Nat} {env : DEnv} {t : T} (hs : s < 256) (hc : D.str c = tD [s]) (hf : f env = .ok (tD t)) (h : t.length ≤ 90000) : xL (lM1 splitL f (xC (.str c))) env = .ok (.lst ((splT s t).map tD)) := by
  refine xL_ok ?_
  simp only [lM1, hf, M.bind, asS_tD, xC, hc]
  rw [split_tD hs h]
  rfl
theorem pair_of_any {t : T} (h : Plain t) : f_pair_of [tD t] = exD pairZ (pairO t) := by
  have e : f_pair_of [tD t] = fnRes (r_pair_of [.dat (tD t), .un]) := rfl
  rw [e]
  have s1 : sSet 1 (xL (lM1 splitL (xVar 0) (xC (.str ">")))) [.dat (tD t), .un] = .nx [.dat (tD t), .dat (.lst ((splT 62 t).map tD))] :=
    sSet_ok (split_set (i := 0) (j := 0) (by decide) gt_tD rfl h.1) rfl
  have pl : ∀ p ∈ splT 62 t, Plain p := fun p hp => splT_plain h hp
  unfold pairO
  generalize splT 62 t = ps at s1 pl ⊢
  unfold r_pair_of
  have bad : ∀ ds : List D, ¬ (ds.length = 2) → fnRes (sSeq (sIf (tEither (tE (xOp neD (xCb lenD (aCons (xVar 1) (aNil))) (xC (.int 2)))) (tEither (tE (xOp neD (xCb lenD (aCons (xOp ixAD (xVar 1) (xC (.int 1))) (aNil))) (xC (.int 1)))) (tE (xOp ninSD (xOp ixAD (xVar 1) (xC (.int 1))) (xC (.str "0123456789")))))) (sRaise "NoNote") (sNext)) (sRet (xTup (aCons (xCall 1 f_word_of (aCons (xOp ixAD (xVar 1) (xC (.int 0))) (aNil))) (aCons (xCb intAD (aCons (xOp ixAD (xVar 1) (xC (.int 1))) (aNil))) (aNil)))))
      [.dat (tD t), .dat (.lst ds)]) = .ex "NoNote" := fun ds hn => by
    have ln : lenD [.lst ds] = some (.int ds.length) := rfl
    have : ¬ ((ds.length : Int) = 2) := by omega
    simp [ln, this]
  match ps, pl with
  | [], _ =>
    have := bad [] (by simp)
    rw [show sSeq _ _ _ = _ from sSeq_nx s1 rfl]
    exact this
  | [a], _ =>
    have := bad [tD a] (by simp)
    rw [show sSeq _ _ _ = _ from sSeq_nx s1 rfl]
    exact this
  | a :: b :: c :: r, _ =>
    have := bad (tD a :: tD b :: tD c :: r.map tD) (by simp)
    rw [show sSeq _ _ _ = _ from sSeq_nx s1 rfl]
    exact this
  | [a, b], pl =>
    have pb := pl b (by simp)
    rw [show sSeq _ _ _ = _ from sSeq_nx s1 rfl]
    have ln : lenD [.lst [tD a, tD b]] = some (.int 2) := rfl
    have i0 : ixAD (.lst [tD a, tD b]) (.int 0) = some (tD a) := rfl
    have i1 : ixAD (.lst [tD a, tD b]) (.int 1) = some (tD b) := rfl
    have lb := len_tD pb.small
    show fnRes (sSeq _ _ [.dat (tD t), .dat (.lst [tD a, tD b])]) = exD pairZ ((figO b).bind fun k => (wordO a).map fun w => (w, (k : Int)))
    by_cases b1 : b.length = 1
    · obtain ⟨c, rfl⟩ : ∃ c, b = [c] := List.length_eq_one_iff.mp b1
      by_cases hc : 48 ≤ c ∧ c ≤ 57
      · obtain ⟨k, rfl⟩ : ∃ k, c = 48 + k := ⟨c - 48, by omega⟩
        have fig : (48 + k ∈ [48, 49, 50, 51, 52, 53, 54, 55, 56, 57]) := by simp; omega
        have nin : ninSD (tD [48 + k]) (tD [48, 49, 50, 51, 52, 53, 54, 55, 56, 57]) = some (.bl false) := by
          rw [ninS_one, decide_eq_true fig]
          rfl
        have inf := int_fig (n := k) (by omega)
        rw [figO_fig (by omega)]
        generalize 48 + k = q at i0 i1 nin ln inf lb ⊢
        simp only [List.length_cons, List.length_nil] at lb
        cases hw : wordO a with
        | none => simp [ln, i0, i1, lb, figs_tD, nin, word_of_any, hw, exD]
        | some w => simp [ln, i0, i1, lb, figs_tD, nin, word_of_any, hw, exD, inf, small_line, pairZ]
      · have fig : ¬ (c ∈ [48, 49, 50, 51, 52, 53, 54, 55, 56, 57]) := by simp; omega
        have nin : ninSD (tD [c]) (tD [48, 49, 50, 51, 52, 53, 54, 55, 56, 57]) = some (.bl true) := by
          rw [ninS_one, decide_eq_false fig]
          rfl
        have fo : figO [c] = none := by
          unfold figO
          simp only
          rw [if_neg hc]
        simp only [List.length_cons, List.length_nil] at lb
        simp [ln, i1, lb, figs_tD, nin, fo, exD]
    · have n1 : ¬ ((b.length : Int) = 1) := by omega
      have fo : figO b = none := by
        unfold figO
        split
        · simp at b1
        · rfl
      simp [ln, i1, lb, n1, fo, exD]
end Wk

namespace Wk
open PySem PySem.Spec PyProof.Rows L2 TL DL
/-! ### a row, as the law reads it -/
def allO {α : Type} : List (Option α) → Option (List α)
  | [] => some []
  | none :: _ => none
  | some a :: r => (allO r).map (a :: ·)
def lawPair (n : Nat) (t : T) : Option (T × Int) := (pairO t).filter fun p => wdB p.1 && decide (p.2 < n)
theorem figs_any {b : T} {n : Nat} (hn : n ≤ 9) : (((List.range n).map fun (k : Nat) => tD [48 + k]).any fun z => decide (z = tD b)) = (match figO b with | some k => decide (k < n) | none => false) := by
  cases hf : figO b with
  | some k =>
    obtain ⟨rfl, hk⟩ := figO_some hf
    rw [Bool.eq_iff_iff]
    simp only [List.any_eq_true, List.mem_map, List.mem_range, decide_eq_true_eq]
    constructor
    · rintro ⟨z, ⟨j, hj, rfl⟩, e⟩
      have := tD_inj.mp e
      simp at this
      omega
    · intro h
      exact ⟨_, ⟨k, h, rfl⟩, rfl⟩
  | none =>
    rw [Bool.eq_false_iff]
    intro h
    simp only [List.any_eq_true, List.mem_map, List.mem_range, decide_eq_true_eq] at h
    obtain ⟨z, ⟨j, hj, rfl⟩, e⟩ := h
    have := tD_inj.mp e
    rw [← this, figO_fig (by omega)] at hf
    cases hf
theorem nin_figs {b : T} {n : Nat} (hn : n ≤ 9) (hb : Plain b) : ninLD (tD b) (.lst ((List.range n).map fun (k : Nat) => tD [48 + k])) = some (.bl (match figO b with | some k => !decide (k < n) | none => true)) := by
  have h1 : eqOk 60 (tD b) = true := eqOk_tD hb.2
  have h2 : eqOk 60 (.lst ((List.range n).map fun (k : Nat) => tD [48 + k])) = true := eqOk_lst (n := 59) _ _ fun k hk => eqOk_tD fun c hc => by
    have := List.mem_range.mp hk
    simp at hc
    omega
  unfold ninLD
  simp only [h1, h2, Bool.and_self, if_true]
  rw [figs_any hn]
  cases figO b <;> rfl
theorem figs_comp {env : DEnv} {n : Nat} (hn : n ≤ 9) (h1 : env[1]? = some (.dat (.int n))) (h5 : ∃ c, env[5]? = some c ∧ c.isOwned = false) :
    lComp [5] (iRng rng1D (aCons (xVar 1) (aNil))) (gN 5) (fun _ => .ok true) (xCb strD (aCons (xVar 5) (aNil))) env = .ok ((List.range n).map fun (k : Nat) => tD [48 + k]) := by
  obtain ⟨c5, e5, o5⟩ := h5
  have hl : 5 < env.length := (List.getElem?_eq_some_iff.mp e5).1
  refine lComp_ok (iRng_ok (ds := [.int (n : Int)]) (by simp [h1]) (rng1_nat (by omega))) (by simp; omega) (by simp [e5, o5]) ?_
  refine cLoop_map (fun (m : Nat) => D.int (m : Int)) (fun k => tD [48 + k]) (List.range n) fun k hk => ⟨_, rfl, ?_⟩
  have := List.mem_range.mp hk
  have e2 : ((wipeE env [5]).set 5 (.dat (.int k)))[5]? = some (.dat (.int k)) := by
    rw [List.getElem?_set_self (by rw [wipeE_len]; exact hl)]
  simp only [xCb, aCons, aNil, xVar, celD, e2, M.bind]
  rw [str_fig (by omega)]
  rfl
theorem law_row_loop {n : Nat} (hn : n ≤ 9) (a : Cel) : ∀ (ts : List T) (acc : List (T × Int)) (c3 c4 c5 : Cel), (∀ t ∈ ts, Plain t) → acc.length + ts.length ≤ 90010 → c5.isOwned = false →
    (allO (ts.map (lawPair n)) = none ∧ dLoop (gN 3) r__law_row_b1 (ts.map tD) [a, .dat (.int n), .own (acc.map pairZ), c3, c4, c5] = .rt .non) ∨
    (∃ r c3' c4' c5', allO (ts.map (lawPair n)) = some r ∧ dLoop (gN 3) r__law_row_b1 (ts.map tD) [a, .dat (.int n), .own (acc.map pairZ), c3, c4, c5] = .nx [a, .dat (.int n), .own ((acc ++ r).map pairZ), c3', c4', c5'])
  | [], acc, c3, c4, c5, _, _, _ => .inr ⟨[], c3, c4, c5, rfl, by simp⟩
  | t :: ts, acc, c3, c4, c5, hp, hl, h5 => by
    simp only [List.length_cons] at hl
    have pt := hp t List.mem_cons_self
    have big : acc.length < sizeLine := small_lt (by omega)
    have body : (lawPair n t = none ∧ r__law_row_b1 [a, .dat (.int n), .own (acc.map pairZ), .dat (tD t), c4, c5] = .rt .non) ∨
        (∃ p c4', lawPair n t = some p ∧ r__law_row_b1 [a, .dat (.int n), .own (acc.map pairZ), .dat (tD t), c4, c5] = .nx [a, .dat (.int n), .own ((acc ++ [p]).map pairZ), .dat (tD t), c4', c5]) := by
      have s1 : sSet 4 (xL (lM1 splitL (xVar 3) (xC (.str ">")))) [a, .dat (.int n), .own (acc.map pairZ), .dat (tD t), c4, c5] = .nx [a, .dat (.int n), .own (acc.map pairZ), .dat (tD t), .dat (.lst ((splT 62 t).map tD)), c5] :=
        sSet_ok (split_set (i := 0) (j := 0) (by decide) gt_tD rfl pt.1) rfl
      have pl : ∀ p ∈ splT 62 t, Plain p := fun p hp => splT_plain pt hp
      have comp : ∀ ds, xL (lComp [5] (iRng rng1D (aCons (xVar 1) (aNil))) (gN 5) (fun _ => .ok true) (xCb strD (aCons (xVar 5) (aNil)))) [a, .dat (.int n), .own (acc.map pairZ), .dat (tD t), .dat ds, c5] = .ok (.lst ((List.range n).map fun (k : Nat) => tD [48 + k])) :=
        fun ds => xL_ok (figs_comp hn rfl ⟨c5, rfl, h5⟩)
      have lw : lawPair n t = (match splT 62 t with
        | [a, b] => (figO b).bind fun k => (wordO a).map fun w => (w, (k : Int))
        | _ => none).filter fun p => wdB p.1 && decide (p.2 < n) := rfl
      rw [lw]
      generalize splT 62 t = ps at s1 pl ⊢
      unfold r__law_row_b1
      generalize hx : (lComp [5] (iRng rng1D (aCons (xVar 1) (aNil))) (gN 5) (fun _ => .ok true) (xCb strD (aCons (xVar 5) (aNil)))) = CP at comp ⊢
      have bad : ∀ ds : List D, ¬ (ds.length = 2) → (sSeq (sIf (tEither (tE (xOp neD (xCb lenD (aCons (xVar 4) (aNil))) (xC (.int 2)))) (tEither (tE (xOp ninLD (xOp ixAD (xVar 4) (xC (.int 1))) (xL CP))) (tE (xOp isND (xCall 1 f__law_word_of (aCons (xOp ixAD (xVar 4) (xC (.int 0))) (aNil))) (xC .non))))) (sRet (xC .non)) (sNext)) (sApp 2 (xTup (aCons (xCall 1 f__law_word_of (aCons (xOp ixAD (xVar 4) (xC (.int 0))) (aNil))) (aCons (xCb intAD (aCons (xOp ixAD (xVar 4) (xC (.int 1))) (aNil))) (aNil)))))
          [a, .dat (.int n), .own (acc.map pairZ), .dat (tD t), .dat (.lst ds), c5]) = .rt .non := fun ds hn => by
        have ln : lenD [.lst ds] = some (.int ds.length) := rfl
        have : ¬ ((ds.length : Int) = 2) := by omega
        simp [ln, this]
      match ps, pl with
      | [], _ => exact .inl ⟨rfl, sSeq_nx s1 (bad [] (by simp))⟩
      | [x], _ => exact .inl ⟨rfl, sSeq_nx s1 (bad [tD x] (by simp))⟩
      | x :: y :: z :: r, _ => exact .inl ⟨rfl, sSeq_nx s1 (bad (tD x :: tD y :: tD z :: r.map tD) (by simp))⟩
      | [x, y], pl =>
        have px := pl x (by simp)
        have py := pl y (by simp)
        have ln : lenD [.lst [tD x, tD y]] = some (.int 2) := rfl
        have i0 : ixAD (.lst [tD x, tD y]) (.int 0) = some (tD x) := rfl
        have i1 : ixAD (.lst [tD x, tD y]) (.int 1) = some (tD y) := rfl
        have cp := comp (.lst [tD x, tD y])
        have nin := nin_figs hn py
        have lwx := law_word_any (t := x) px.1
        have s1' : sSet 4 (xL (lM1 splitL (xVar 3) (xC (.str ">")))) [a, .dat (.int n), .own (acc.map pairZ), .dat (tD t), c4, c5] = .nx [a, .dat (.int n), .own (acc.map pairZ), .dat (tD t), .dat (.lst [tD x, tD y]), c5] := s1
        show (((figO y).bind fun k => (wordO x).map fun w => (w, (k : Int))).filter fun p : T × Int => wdB p.1 && decide (p.2 < (n : Int))) = none ∧ _ ∨ _
        cases hf : figO y with
        | none =>
          rw [hf] at nin
          refine .inl ⟨rfl, sSeq_nx s1' ?_⟩
          generalize ((List.range n).map fun (k : Nat) => tD [48 + k]) = L at nin cp
          simp only at nin
          simp only [sSeq, sIf, tEither, tE, xOp, xCb, aCons, aNil, xVar, celD, List.getElem?_cons_succ, List.getElem?_cons_zero, M.bind, ln, M.of, xC, neD_int, i1, cp, nin]
          simp
        | some k =>
          obtain ⟨rfl, hk⟩ := figO_some hf
          rw [hf] at nin
          by_cases hkn : k < n
          · have nin' : ninLD (tD [48 + k]) (.lst ((List.range n).map fun (k : Nat) => tD [48 + k])) = some (.bl false) := by
              rw [nin]; simp [hkn]
            have inf := int_fig (n := k) hk
            have fin : lawWd x = none ∧ Option.filter (fun p : T × Int => wdB p.1 && decide (p.2 < n)) ((wordO x).map fun w => (w, (k : Int))) = none ∨ ∃ w, lawWd x = some w ∧ Option.filter (fun p : T × Int => wdB p.1 && decide (p.2 < n)) ((wordO x).map fun w => (w, (k : Int))) = some (w, (k : Int)) := by
              unfold lawWd
              cases wordO x with
              | none => exact .inl ⟨rfl, rfl⟩
              | some w =>
                cases hw : wdB w with
                | false => exact .inl ⟨by simp [Option.filter, hw], by simp [Option.filter, hw]⟩
                | true => exact .inr ⟨w, by simp [Option.filter, hw], by simp [Option.filter, hw, hkn]⟩
            generalize ((List.range n).map fun (k : Nat) => tD [48 + k]) = L at nin' cp
            rcases fin with ⟨f1, f2⟩ | ⟨w, f1, f2⟩
            · rw [f1] at lwx
              refine .inl ⟨f2, sSeq_nx s1' ?_⟩
              generalize 48 + k = q at i0 i1 ln cp nin' ⊢
              simp only [sSeq, sIf, tEither, tE, xOp, xCb, aCons, aNil, xVar, celD, List.getElem?_cons_succ, List.getElem?_cons_zero, M.bind, ln, M.of, xC, neD_int, i0, i1, cp, nin', xCall, lwx, List.length_cons, List.length_nil, oD, isND]
              simp [lwx, oD, isND]
            · rw [f1] at lwx
              refine .inr ⟨(w, (k : Int)), .dat (.lst [tD x, tD [48 + k]]), ?_, sSeq_nx s1' ?_⟩
              · show (((figO [48 + k]).bind fun k => (wordO x).map fun w => (w, (k : Int))).filter fun p : T × Int => wdB p.1 && decide (p.2 < (n : Int))) = _
                rw [hf]
                exact f2
              have nn : isND (tD w) .non = some (.bl false) := rfl
              generalize 48 + k = q at i0 i1 ln cp nin' inf ⊢
              simp only [sSeq, sIf, tEither, tE, xOp, xCb, aCons, aNil, xVar, celD, List.getElem?_cons_succ, List.getElem?_cons_zero, M.bind, ln, M.of, xC, neD_int, i0, i1, cp, nin', xCall, lwx, List.length_cons, List.length_nil, oD]
              simp [lwx, oD, nn, inf, big, pairZ, i0, i1, small_line]
          · have nin' : ninLD (tD [48 + k]) (.lst ((List.range n).map fun (k : Nat) => tD [48 + k])) = some (.bl true) := by
              rw [nin]; simp [hkn]
            refine .inl ⟨?_, sSeq_nx s1' ?_⟩
            · cases wordO x with
              | none => rfl
              | some w => simp [Option.filter, hkn]
            · generalize ((List.range n).map fun (k : Nat) => tD [48 + k]) = L at nin' cp
              generalize 48 + k = q at i0 i1 ln cp nin' ⊢
              simp only [sSeq, sIf, tEither, tE, xOp, xCb, aCons, aNil, xVar, celD, List.getElem?_cons_succ, List.getElem?_cons_zero, M.bind, ln, M.of, xC, neD_int, i1, cp, nin']
              simp
    rcases body with ⟨h1, h2⟩ | ⟨p, c4', h1, h2⟩
    · refine .inl ⟨by rw [List.map_cons, h1]; rfl, ?_⟩
      rw [List.map_cons, dLoop_cons]
      show (match r__law_row_b1 [a, .dat (.int n), .own (acc.map pairZ), .dat (tD t), c4, c5] with
        | .nx e' => dLoop (gN 3) r__law_row_b1 _ e'
        | .ct e' => dLoop (gN 3) r__law_row_b1 _ e'
        | .bk e' => .nx e'
        | .rt d => .rt d
        | .ex c e => .ex c e
        | .no => .no) = _
      rw [h2]
    · rcases law_row_loop hn a ts (acc ++ [p]) (.dat (tD t)) c4' c5 (fun x hx => hp x (List.mem_cons_of_mem _ hx)) (by simp; omega) h5 with ⟨e1, e2⟩ | ⟨r, c3', c4'', c5', e1, e2⟩
      · refine .inl ⟨by rw [List.map_cons, h1]; show Option.map _ _ = none; rw [e1]; rfl, ?_⟩
        exact dLoop_step rfl h2 e2
      · refine .inr ⟨p :: r, c3', c4'', c5', by rw [List.map_cons, h1]; show Option.map _ _ = _; rw [e1]; rfl, dLoop_step rfl h2 ?_⟩
        rw [e2]
        simp
theorem law_row_eq {n : Nat} (hn : n ≤ 9) {ts : List T} (hp : ∀ t ∈ ts, Plain t) (hl : ts.length ≤ 90010) : f__law_row [.lst (ts.map tD), .int n] = .ok (oD rowZ (allO (ts.map (lawPair n)))) := by
  have e : f__law_row [.lst (ts.map tD), .int n] = fnRes (r__law_row [.dat (.lst (ts.map tD)), .dat (.int n), .un, .un, .un, .un]) := rfl
  rw [e]
  have s1 : sOwn 2 (lLst aNil) [.dat (.lst (ts.map tD)), .dat (.int n), .un, .un, .un, .un] = .nx [.dat (.lst (ts.map tD)), .dat (.int n), .own [], .un, .un, .un] := by simp [small_line]
  rcases law_row_loop hn (.dat (.lst (ts.map tD))) ts [] .un .un .un hp (by simp; omega) rfl with ⟨e1, e2⟩ | ⟨r, c3', c4', c5', e1, e2⟩
  · have hr : r__law_row [.dat (.lst (ts.map tD)), .dat (.int n), .un, .un, .un, .un] = .rt .non := by
      unfold r__law_row
      refine sSeq_nx s1 ?_
      have := sFor_ok (it := iAny (xVar 0)) (env := [.dat (.lst (ts.map tD)), .dat (.int n), .own [], .un, .un, .un]) (ds := ts.map tD) (by simp) e2
      simp only [sSeq, this, DOut.then]
    rw [hr, e1]
    rfl
  · have hr : r__law_row [.dat (.lst (ts.map tD)), .dat (.int n), .un, .un, .un, .un] = .rt (rowZ r) := by
      unfold r__law_row
      refine sSeq_nx s1 (sSeq_nx (sFor_ok (ds := ts.map tD) (by simp) e2) ?_)
      have t1 : tupD [.lst (r.map pairZ)] = some (rowZ r) := rfl
      rw [List.nil_append]
      generalize r.map pairZ = P at t1
      simp [t1]
    rw [hr, e1]
    rfl
end Wk

namespace Wk
open PySem PySem.Spec PyProof.Rows L2 TL DL
theorem cutL_last {α : Type} (xs : List α) (x : α) : cutL (xs ++ [x]) none (some (-1)) = xs := by
  have e1 : HT.sIx (xs ++ [x]).length (xs ++ [x]).length (some (-1)) = xs.length := by
    show (if (-1 : Int) < 0 then ((-1 : Int) + ((xs ++ [x]).length : Int)).toNat else min (-1 : Int).toNat (xs ++ [x]).length) = xs.length
    rw [if_pos (by decide), List.length_append, List.length_singleton]
    omega
  unfold cutL
  rw [e1, HT.sIx_none, Nat.sub_zero, List.drop_zero, List.take_left]
theorem atI_last {α : Type} (xs : List α) (x : α) : atI (xs ++ [x]) (-1) = some x := by
  have e : ixN (xs ++ [x]).length (-1) = some xs.length := by
    unfold ixN
    rw [List.length_append, List.length_singleton, if_neg (by decide), if_pos (by omega)]
    congr 1
    omega
  unfold atI
  rw [e]
  simp
/-! ### read, of any text -/
def exL {α : Type} (f : α → D) : Option (List α) → M (List D)
  | some r => .ok (r.map f)
  | none => .ex "NoNote"
theorem cLoopX_all {t : DTgt} {f : DEnv → M D} {e0 : DEnv} {α β : Type} (g : α → D) (y : β → D) (o : α → Option β) : ∀ as : List α, (∀ a ∈ as, ∃ e, t (g a) e0 = some e ∧ f e = exD y (o a)) → cLoopX t f e0 (as.map g) = exL y (allO (as.map o))
  | [], _ => rfl
  | a :: as, h => by
    obtain ⟨e, h1, h2⟩ := h a List.mem_cons_self
    have ih := cLoopX_all g y o as fun x hx => h x (List.mem_cons_of_mem _ hx)
    rw [List.map_cons, List.map_cons]
    unfold cLoopX
    simp only [h1, h2]
    cases q : o a with
    | none => rfl
    | some b =>
      show (match cLoopX t f e0 (as.map g) with
        | .ok ys => M.ok (y b :: ys)
        | .ex n => .ex n
        | .no => .no) = exL y (Option.map _ _)
      rw [ih]
      cases allO (as.map o) <;> rfl
theorem lCompX_ok {vs : List Nat} {it : DEnv → M (List D)} {t : DTgt} {f : DEnv → M D} {env : DEnv} {ds : List D} {r : M (List D)} (h1 : it env = .ok ds) (h2 : ds.length ≤ 100000) (h3 : (vs.all fun i => match env[i]? with | some s => !s.isOwned | none => true) = true) (h4 : cLoopX t f (wipeE env vs) ds = r) : lCompX vs it t f env = r := by
  simp only [lCompX, h1, M.bind]
  rw [if_pos ⟨small_lt h2, h3⟩, h4]
def headsT (l : T) : List T := (splT 32 l).dropLast
def lastT (l : T) : T := (splT 32 l).getLast splT_ne
theorem parts_eq (l : T) : splT 32 l = headsT l ++ [lastT l] := (List.dropLast_concat_getLast splT_ne).symm
theorem heads_plain {l : T} (h : Plain l) : ∀ t ∈ headsT l, Plain t := fun t ht => splT_plain h (by rw [parts_eq]; exact List.mem_append_left _ ht)
theorem last_plain {l : T} (h : Plain l) : Plain (lastT l) := splT_plain h (by rw [parts_eq]; simp)
theorem heads_len {l : T} (h : Plain l) : (headsT l).length ≤ 90000 := by
  have := @splT_count 32 l
  rw [parts_eq, List.length_append, List.length_singleton] at this
  have := h.1
  omega
abbrev LineR := List (T × Int) × T
def lineO (l : T) : Option LineR := (allO ((headsT l).map pairO)).bind fun r => (wordO (lastT l)).map fun e => (r, e)
theorem sApp_ok {i : Nat} {f : DEnv → M D} {env : DEnv} {xs : List D} {d : D} (h1 : celO env i = .ok xs) (h2 : f env = .ok d) (h3 : xs.length ≤ 100000) : sApp i f env = .nx (env.set i (.own (xs ++ [d]))) := by
  simp only [sApp, h1, h2, M.to]
  rw [if_pos (small_lt h3)]
theorem sApp_ex {i : Nat} {f : DEnv → M D} {env : DEnv} {xs : List D} {c : Str} (h1 : celO env i = .ok xs) (h2 : f env = .ex c) : sApp i f env = .ex c env := by
  simp only [sApp, h1, h2, M.to]
theorem read_body (c0 : Cel) {l : T} (R : List (List (T × Int))) (E : List T) (c4 c5 c6 : Cel) (pl : Plain l) (hl : R.length ≤ 100000) (hl2 : E.length ≤ 100000) (h6 : c6.isOwned = false) :
    (lineO l = none ∧ ∃ e', r_read_b1 [c0, .own (R.map rowZ), .own (E.map tD), .dat (tD l), c4, c5, c6] = .ex "NoNote" e') ∨
    (∃ p c4', lineO l = some p ∧ r_read_b1 [c0, .own (R.map rowZ), .own (E.map tD), .dat (tD l), c4, c5, c6] = .nx [c0, .own ((R ++ [p.1]).map rowZ), .own ((E ++ [p.2]).map tD), .dat (tD l), c4', c5, c6]) := by
  have s1 : sSet 4 (xL (lM1 splitL (xVar 3) (xC (.str " ")))) [c0, .own (R.map rowZ), .own (E.map tD), .dat (tD l), c4, c5, c6] = .nx [c0, .own (R.map rowZ), .own (E.map tD), .dat (tD l), .dat (.lst ((headsT l).map tD ++ [tD (lastT l)])), c5, c6] := by
    refine sSet_ok (split_set (i := 0) (j := 0) (by decide) blank_tD rfl pl.1) ?_
    rw [parts_eq]
    simp
  have cut : slcD none (some (-1)) (.lst ((headsT l).map tD ++ [tD (lastT l)])) = some (.lst ((headsT l).map tD)) := by
    show some (D.lst (cutL _ none (some (-1)))) = _
    rw [cutL_last]
  have last : ixAD (.lst ((headsT l).map tD ++ [tD (lastT l)])) (.int (-1)) = some (tD (lastT l)) := atI_last _ _
  have comp : lCompX [6] (iAny (xCut (xVar 4) (oNo) (oPart (xUn negD (xC (.int 1)))))) (gN 6) (xCall 1 f_pair_of (aCons (xVar 6) (aNil))) [c0, .own (R.map rowZ), .own (E.map tD), .dat (tD l), .dat (.lst ((headsT l).map tD ++ [tD (lastT l)])), c5, c6] = exL pairZ (allO ((headsT l).map pairO)) := by
    refine lCompX_ok (ds := (headsT l).map tD) (by simp only [iAny, xCut, xVar, celD, List.getElem?_cons_succ, List.getElem?_cons_zero, M.bind, oNo, oPart, xUn, xC, negD, M.of, asI]; rw [cut]; rfl) (by have := heads_len pl; simp; omega) (by simp [h6]) ?_
    refine cLoopX_all tD pairZ pairO (headsT l) fun p hp => ⟨_, rfl, ?_⟩
    have := pair_of_any (heads_plain pl p hp)
    simp [wipeE, this]
  have wo := word_of_any (lastT l)
  have cx : celO [c0, .own (R.map rowZ), .own (E.map tD), .dat (tD l), .dat (.lst ((headsT l).map tD ++ [tD (lastT l)])), c5, c6] 1 = .ok (R.map rowZ) := rfl
  unfold lineO
  unfold r_read_b1
  cases hr : allO ((headsT l).map pairO) with
  | none =>
    refine .inl ⟨rfl, _, sSeq_nx s1 (sSeq_ex (sApp_ex cx ?_))⟩
    rw [hr] at comp
    simp only [xCb, aCons, xL]
    rw [comp]
    rfl
  | some r =>
    rw [hr] at comp
    have s2 : sApp 1 (xCb tupD (aCons (xL (lCompX [6] (iAny (xCut (xVar 4) (oNo) (oPart (xUn negD (xC (.int 1)))))) (gN 6) (xCall 1 f_pair_of (aCons (xVar 6) (aNil))))) (aNil))) [c0, .own (R.map rowZ), .own (E.map tD), .dat (tD l), .dat (.lst ((headsT l).map tD ++ [tD (lastT l)])), c5, c6] =
        .nx [c0, .own ((R ++ [r]).map rowZ), .own (E.map tD), .dat (tD l), .dat (.lst ((headsT l).map tD ++ [tD (lastT l)])), c5, c6] := by
      refine (sApp_ok cx (d := rowZ r) ?_ (by simp; omega)).trans (by simp)
      simp only [xCb, aCons, xL]
      rw [comp]
      rfl
    have wv : xCall 1 f_word_of (aCons (xOp ixAD (xVar 4) (xUn negD (xC (.int 1)))) (aNil)) [c0, .own ((R ++ [r]).map rowZ), .own (E.map tD), .dat (tD l), .dat (.lst ((headsT l).map tD ++ [tD (lastT l)])), c5, c6] = exD tD (wordO (lastT l)) := by
      generalize (headsT l).map tD ++ [tD (lastT l)] = P at last ⊢
      simp [last, wo]
    cases hw : wordO (lastT l) with
    | none =>
      rw [hw] at wv
      exact .inl ⟨rfl, _, sSeq_nx s1 (sSeq_nx s2 (sApp_ex (xs := E.map tD) rfl wv))⟩
    | some e =>
      rw [hw] at wv
      refine .inr ⟨(r, e), .dat (.lst ((headsT l).map tD ++ [tD (lastT l)])), rfl, sSeq_nx s1 (sSeq_nx s2 ((sApp_ok (xs := E.map tD) rfl wv (by simp; omega)).trans ?_))⟩
      simp
theorem read_loopO (c0 : Cel) : ∀ (ls : List T) (R : List (List (T × Int))) (E : List T) (c3 c4 c5 c6 : Cel), (∀ l ∈ ls, Plain l) → R.length + ls.length ≤ 100000 → E.length + ls.length ≤ 100000 → c6.isOwned = false →
    (allO (ls.map lineO) = none ∧ ∃ e', dLoop (gN 3) r_read_b1 (ls.map tD) [c0, .own (R.map rowZ), .own (E.map tD), c3, c4, c5, c6] = .ex "NoNote" e') ∨
    (∃ L c3' c4', allO (ls.map lineO) = some L ∧ dLoop (gN 3) r_read_b1 (ls.map tD) [c0, .own (R.map rowZ), .own (E.map tD), c3, c4, c5, c6] = .nx [c0, .own ((R ++ L.map (·.1)).map rowZ), .own ((E ++ L.map (·.2)).map tD), c3', c4', c5, c6])
  | [], R, E, c3, c4, c5, c6, _, _, _, _ => .inr ⟨[], c3, c4, rfl, by simp⟩
  | l :: ls, R, E, c3, c4, c5, c6, h, hl, hl2, h6 => by
    simp only [List.length_cons] at hl hl2
    rcases read_body c0 (l := l) R E c4 c5 c6 (h l List.mem_cons_self) (by omega) (by omega) h6 with ⟨q1, e', q2⟩ | ⟨p, c4', q1, q2⟩
    · exact .inl ⟨by rw [List.map_cons, q1]; rfl, e', dLoop_ex rfl q2⟩
    · rcases read_loopO c0 ls (R ++ [p.1]) (E ++ [p.2]) (.dat (tD l)) c4' c5 c6 (fun x hx => h x (List.mem_cons_of_mem _ hx)) (by simp; omega) (by simp; omega) h6 with ⟨z1, e', z2⟩ | ⟨L, a, b, z1, z2⟩
      · exact .inl ⟨by rw [List.map_cons, q1]; show Option.map _ _ = none; rw [z1]; rfl, e', dLoop_step rfl q2 z2⟩
      · refine .inr ⟨p :: L, a, b, by rw [List.map_cons, q1]; show Option.map _ _ = _; rw [z1]; rfl, dLoop_step rfl q2 (z2.trans (by simp))⟩
def rwOf (L : List LineR) : Rw := ⟨((L.map (·.1)).headD []).length, L.map (·.1), L.map (·.2)⟩
noncomputable def readO (t : T) : Option Rw := (allO ((splT 10 t).map lineO)).bind fun L => open Classical in if (rwOf L).Good then some (rwOf L) else none
theorem allO_some {α : Type} {o : List (Option α)} {r : List α} (h : allO o = some r) : o = r.map some := by
  induction o generalizing r with
  | nil => cases h; rfl
  | cons x o ih =>
    cases x with
    | none => cases h
    | some a =>
      have h' : (allO o).map (a :: ·) = some r := h
      cases q : allO o with
      | none => rw [q] at h'; cases h'
      | some r' =>
        rw [q] at h'
        cases h'
        rw [ih q]
        rfl
theorem pairO_plain {t : T} (h : Plain t) {p : T × Int} (e : pairO t = some p) : Plain p.1 := by
  unfold pairO at e
  split at e
  · rename_i a b hs
    have pa : Plain a := splT_plain h (by rw [hs]; simp)
    cases hf : figO b with
    | none => rw [hf] at e; cases e
    | some k =>
      rw [hf] at e
      have e' : (wordO a).map (fun w => (w, (k : Int))) = some p := e
      unfold wordO at e'
      split at e'
      · cases e'
        exact ⟨by simp, by simp⟩
      · split at e'
        · cases e'
        · cases e'
          exact pa
  · cases e
theorem wordO_plain {t : T} (h : Plain t) {w : T} (e : wordO t = some w) : Plain w := by
  unfold wordO at e
  split at e
  · cases e
    exact ⟨by simp, by simp⟩
  · split at e
    · cases e
    · cases e
      exact h
theorem lineO_plain {l : T} (h : Plain l) {p : LineR} (e : lineO l = some p) : (∀ q ∈ p.1, Plain q.1) ∧ Plain p.2 := by
  unfold lineO at e
  cases q : allO ((headsT l).map pairO) with
  | none => rw [q] at e; cases e
  | some r =>
    rw [q] at e
    have e' : (wordO (lastT l)).map (fun e => (r, e)) = some p := e
    cases q2 : wordO (lastT l) with
    | none => rw [q2] at e'; cases e'
    | some w =>
      rw [q2] at e'
      cases e'
      refine ⟨fun x hx => ?_, wordO_plain (last_plain h) q2⟩
      have z := allO_some q
      have : some x ∈ (headsT l).map pairO := by rw [z]; exact List.mem_map.mpr ⟨x, hx, rfl⟩
      obtain ⟨y, hy, e3⟩ := List.mem_map.mp this
      exact pairO_plain (heads_plain h y hy) e3
theorem rwOf_sz {t : T} (h : Plain t) {L : List LineR} (e : allO ((splT 10 t).map lineO) = some L) : (rwOf L).Sz := by
  have z := allO_some e
  have key : ∀ p ∈ L, (∀ q ∈ p.1, Plain q.1) ∧ Plain p.2 := fun p hp => by
    have : some p ∈ (splT 10 t).map lineO := by rw [z]; exact List.mem_map.mpr ⟨p, hp, rfl⟩
    obtain ⟨y, hy, e3⟩ := List.mem_map.mp this
    exact lineO_plain (splT_plain h hy) e3
  refine ⟨fun r hr p hp => ?_, fun t ht => ?_⟩
  · obtain ⟨y, hy, rfl⟩ := List.mem_map.mp hr
    exact (key y hy).1 p hp
  · obtain ⟨y, hy, rfl⟩ := List.mem_map.mp ht
    exact (key y hy).2
theorem allO_len {α : Type} {o : List (Option α)} {r : List α} (h : allO o = some r) : o.length = r.length := by
  rw [allO_some h, List.length_map]
theorem readO_none {t : T} (h : allO ((splT 10 t).map lineO) = none) : readO t = none := by
  unfold readO
  rw [h]
  rfl
theorem readO_bad {t : T} {L : List LineR} (h : allO ((splT 10 t).map lineO) = some L) (g : ¬ (rwOf L).Good) : readO t = none := by
  unfold readO
  rw [h]
  exact if_neg g
theorem readO_good {t : T} {L : List LineR} (h : allO ((splT 10 t).map lineO) = some L) (g : (rwOf L).Good) : readO t = some (rwOf L) := by
  unfold readO
  rw [h]
  exact if_pos g
theorem read_any {t : T} (h : Plain t) : f_read [tD t] = exD rwD (readO t) := by
  have e : f_read [tD t] = fnRes (r_read [.dat (tD t), .un, .un, .un, .un, .un, .un]) := rfl
  rw [e]
  have cnt := @splT_count 10 t
  have hl := h.1
  have pre : ∀ {r : DOut} {u : DStm}, sSeq (sFor (iAny (xL (lM1 splitL (xVar 0) (xC (.str "\n"))))) (gN 3) r_read_b1) u [.dat (tD t), .own [], .own [], .un, .un, .un, .un] = r →
      sSeq (sOwn 1 (lLst (aNil))) (sSeq (sOwn 2 (lLst (aNil))) (sSeq (sFor (iAny (xL (lM1 splitL (xVar 0) (xC (.str "\n"))))) (gN 3) r_read_b1) u)) [.dat (tD t), .un, .un, .un, .un, .un, .un] = r := fun {r u} h => by
    refine sSeq_nx (e1 := [.dat (tD t), .own [], .un, .un, .un, .un, .un]) (by simp [small_line]) ?_
    refine sSeq_nx (e1 := [.dat (tD t), .own [], .own [], .un, .un, .un, .un]) (by simp [small_line]) ?_
    exact h
  have src : iAny (xL (lM1 splitL (xVar 0) (xC (.str "\n")))) [.dat (tD t), .own [], .own [], .un, .un, .un, .un] = .ok ((splT 10 t).map tD) := by
    have := split_set (i := 0) (j := 0) (f := xVar 0) (env := [.dat (tD t), .own [], .own [], .un, .un, .un, .un]) (t := t) (by decide) line_tD rfl hl
    simp only [iAny]
    rw [this]
    rfl
  rcases read_loopO (.dat (tD t)) (splT 10 t) [] [] .un .un .un .un (fun l hl => splT_plain h hl) (by simp; omega) (by simp; omega) rfl with ⟨z1, e', z2⟩ | ⟨L, a, b, z1, z2⟩
  · have hr : r_read [.dat (tD t), .un, .un, .un, .un, .un, .un] = .ex "NoNote" e' := by
      unfold r_read
      exact pre (sSeq_ex (sFor_ok src z2))
    rw [hr, readO_none z1]
    rfl
  · have z := rwOf_sz h z1
    have ln := allO_len z1
    have ne : L ≠ [] := fun q => by
      rw [q] at ln
      exact absurd (List.length_eq_zero_iff.mp (by rw [List.length_map] at ln; exact ln)) splT_ne
    obtain ⟨p, L', hL⟩ := List.exists_cons_of_ne_nil ne
    have i0 : ixAD (.lst ((L.map (·.1)).map rowZ)) (.int 0) = some (rowZ p.1) := by
      rw [hL]
      show atI _ ((0 : Nat) : Int) = _
      rw [atI_nat']
      rfl
    have l0 : lenD [rowZ p.1] = some (.int (rwOf L).signs) := by
      rw [len_rowZ]
      unfold rwOf
      rw [hL]
      rfl
    have t1 : tupD [.lst ((L.map (·.1)).map rowZ)] = some (rowsZ (L.map (·.1))) := rfl
    have t2 : tupD [.lst ((L.map (·.2)).map tD)] = some (endsD (L.map (·.2))) := rfl
    have wd : D.tup [.int (rwOf L).signs, rowsZ (L.map (·.1)), endsD (L.map (·.2))] = rwD (rwOf L) := rfl
    have tail : ∀ {d : DOut}, sSeq (sTryX "NoWriter" (sExpr (xCall 1 f_asked_writerZ (aCons (xVar 5) (aNil)))) (sRaise "NoNote")) (sRet (xVar 5)) [.dat (tD t), .dat (.lst ((L.map (·.1)).map rowZ)), .dat (.lst ((L.map (·.2)).map tD)), a, b, .dat (rwD (rwOf L)), .un] = d → r_read [.dat (tD t), .un, .un, .un, .un, .un, .un] = d := fun {d} hd => by
      unfold r_read
      refine pre (sSeq_nx (sFor_ok src z2) ?_)
      rw [List.nil_append, List.nil_append]
      refine sSeq_nx (e1 := [.dat (tD t), .dat (.lst ((L.map (·.1)).map rowZ)), .dat (.lst ((L.map (·.2)).map tD)), a, b, .dat (rwD (rwOf L)), .un]) ?_ hd
      generalize (L.map (·.1)).map rowZ = P1 at i0 t1 ⊢
      generalize (L.map (·.2)).map tD = P2 at t2 ⊢
      simp [i0, l0, t1, t2, small_line, wd]
    rcases asked_raw z with ⟨g, q⟩ | ⟨g, q⟩
    · rw [tail (d := .ex "NoNote" [.dat (tD t), .dat (.lst ((L.map (·.1)).map rowZ)), .dat (.lst ((L.map (·.2)).map tD)), a, b, .dat (rwD (rwOf L)), .un]) (by
        have : sTryX "NoWriter" (sExpr (xCall 1 f_asked_writerZ (aCons (xVar 5) (aNil)))) (sRaise "NoNote") [.dat (tD t), .dat (.lst ((L.map (·.1)).map rowZ)), .dat (.lst ((L.map (·.2)).map tD)), a, b, .dat (rwD (rwOf L)), .un] = .ex "NoNote" [.dat (tD t), .dat (.lst ((L.map (·.1)).map rowZ)), .dat (.lst ((L.map (·.2)).map tD)), a, b, .dat (rwD (rwOf L)), .un] := by
          unfold sTryX
          simp [q]
        exact sSeq_ex this)]
      rw [readO_bad z1 g]
      rfl
    · rw [tail (d := .rt (rwD (rwOf L))) (by
        refine sSeq_nx (e1 := [.dat (tD t), .dat (.lst ((L.map (·.1)).map rowZ)), .dat (.lst ((L.map (·.2)).map tD)), a, b, .dat (rwD (rwOf L)), .un]) ?_ (by simp)
        unfold sTryX
        simp [q])]
      rw [readO_good z1 g]
      rfl
end Wk

namespace Wk
open PySem PySem.Spec PyProof.Rows L2 TL DL
/-! ### what is due of a text -/
def lawRowO (n : Nat) (l : T) : Option (List (T × Int)) := allO ((headsT l).map (lawPair n))
theorem map_rel {α β γ : Type} {o : α → Option β} {f : α → γ} {g : β → γ} : ∀ {ls : List α} {L : List β}, ls.map o = L.map some → (∀ l ∈ ls, ∀ p, o l = some p → f l = g p) → ls.map f = L.map g
  | [], [], _, _ => rfl
  | [], _ :: _, h, _ => by simp at h
  | _ :: _, [], h, _ => by simp at h
  | l :: ls, p :: L, h, hf => by
    simp only [List.map_cons, List.cons.injEq] at h ⊢
    exact ⟨hf l List.mem_cons_self p h.1, map_rel h.2 fun x hx => hf x (List.mem_cons_of_mem _ hx)⟩
theorem allO_of {α β : Type} {o : α → Option β} {g : α → Option β} {q : β → Bool} : ∀ {ls : List α}, (∀ l ∈ ls, g l = (o l).filter q) → allO (ls.map g) = (allO (ls.map o)).filter fun r => r.all q
  | [], _ => rfl
  | l :: ls, h => by
    have ih := allO_of (ls := ls) fun x hx => h x (List.mem_cons_of_mem _ hx)
    have h1 := h l List.mem_cons_self
    rw [List.map_cons, List.map_cons, h1]
    cases e : o l with
    | none => rfl
    | some a =>
      cases hq : q a with
      | true =>
        have : Option.filter q (some a) = some a := by simp [Option.filter, hq]
        rw [this]
        show Option.map _ _ = Option.filter _ (Option.map _ _)
        rw [ih]
        cases allO (ls.map o) with
        | none => rfl
        | some r => 
          cases hr : r.all q with
          | true => simp [Option.filter, hr, hq]
          | false => simp [Option.filter, hr, hq]
      | false =>
        have : Option.filter q (some a) = none := by simp [Option.filter, hq]
        rw [this]
        show none = Option.filter _ (Option.map _ _)
        cases allO (ls.map o) with
        | none => rfl
        | some r => simp [Option.filter, hq]
theorem lawRow_filter (n : Nat) (l : T) : lawRowO n l = (allO ((headsT l).map pairO)).filter fun r => r.all fun p => wdB p.1 && decide (p.2 < (n : Int)) :=
  allO_of fun _ _ => rfl
def okL (n : Nat) (p : LineR) : Prop := (∀ q ∈ p.1, Wd q.1 ∧ q.2 < (n : Int)) ∧ Wd p.2
theorem line_ok {n : Nat} {l : T} {p : LineR} (h : lineO l = some p) (k : okL n p) : lawRowO n l = some p.1 ∧ lawWd (lastT l) = some p.2 := by
  unfold lineO at h
  rw [lawRow_filter]
  unfold lawWd
  cases q : allO ((headsT l).map pairO) with
  | none => rw [q] at h; cases h
  | some r =>
    rw [q] at h
    have e' : (wordO (lastT l)).map (fun e => (r, e)) = some p := h
    cases q2 : wordO (lastT l) with
    | none => rw [q2] at e'; cases e'
    | some w =>
      rw [q2] at e'
      cases e'
      obtain ⟨k1, k2⟩ := k
      have a1 : (r.all fun p => wdB p.1 && decide (p.2 < (n : Int))) = true := by
        rw [List.all_eq_true]
        intro x hx
        have := k1 x hx
        rw [wdB_iff.mpr this.1]
        simp [this.2]
      have a2 := wdB_iff.mpr k2
      exact ⟨by simp [Option.filter, a1], by simp [Option.filter, a2]⟩
theorem line_of {n : Nat} {l : T} (h1 : lawRowO n l ≠ none) (h2 : lawWd (lastT l) ≠ none) : ∃ p, lineO l = some p ∧ okL n p := by
  rw [lawRow_filter] at h1
  unfold lawWd at h2
  unfold lineO
  cases q : allO ((headsT l).map pairO) with
  | none => rw [q] at h1; exact absurd rfl h1
  | some r =>
    rw [q] at h1
    cases q2 : wordO (lastT l) with
    | none => rw [q2] at h2; exact absurd rfl h2
    | some w =>
      rw [q2] at h2
      refine ⟨(r, w), rfl, fun x hx => ?_, ?_⟩
      · cases a : (r.all fun p => wdB p.1 && decide (p.2 < (n : Int))) with
        | false => simp [Option.filter, a] at h1
        | true =>
          rw [List.all_eq_true] at a
          have := a x hx
          simp only [Bool.and_eq_true, decide_eq_true_eq] at this
          exact ⟨wdB_iff.mp this.1, this.2⟩
      · cases a : wdB w with
        | false => simp [Option.filter, a] at h2
        | true => exact wdB_iff.mp a
theorem pairs_nonneg {t : T} {p : T × Int} (h : pairO t = some p) : 0 ≤ p.2 := by
  unfold pairO at h
  split at h
  · rename_i a b hs
    cases hf : figO b with
    | none => rw [hf] at h; cases h
    | some k =>
      rw [hf] at h
      have e' : (wordO a).map (fun w => (w, (k : Int))) = some p := h
      cases hw : wordO a with
      | none => rw [hw] at e'; cases e'
      | some w => rw [hw] at e'; cases e'; exact Int.natCast_nonneg k
  · cases h
theorem lineO_row {l : T} {p : LineR} (h : lineO l = some p) : p.1.length = (headsT l).length ∧ ∀ q ∈ p.1, 0 ≤ q.2 := by
  unfold lineO at h
  cases q : allO ((headsT l).map pairO) with
  | none => rw [q] at h; cases h
  | some r =>
    rw [q] at h
    have e' : (wordO (lastT l)).map (fun e => (r, e)) = some p := h
    have hr : p.1 = r := by
      cases q2 : wordO (lastT l) with
      | none => rw [q2] at e'; cases e'
      | some w => rw [q2] at e'; cases e'; rfl
    rw [hr]
    have ln := allO_len q
    rw [List.length_map] at ln
    refine ⟨ln.symm, fun x hx => ?_⟩
    have : some x ∈ (headsT l).map pairO := by rw [allO_some q]; exact List.mem_map.mpr ⟨x, hx, rfl⟩
    obtain ⟨y, hy, e3⟩ := List.mem_map.mp this
    exact pairs_nonneg e3
theorem allO_get {α β : Type} {o : α → Option β} : ∀ {ls : List α}, (∀ l ∈ ls, o l ≠ none) → ∃ L, allO (ls.map o) = some L
  | [], _ => ⟨[], rfl⟩
  | l :: ls, h => by
    obtain ⟨L, hL⟩ := allO_get (ls := ls) fun x hx => h x (List.mem_cons_of_mem _ hx)
    cases e : o l with
    | none => exact absurd e (h l List.mem_cons_self)
    | some a => exact ⟨a :: L, by rw [List.map_cons, e]; show Option.map _ _ = _; rw [hL]; rfl⟩
theorem eqOk_rowZ {r : List (T × Int)} (h : ∀ p ∈ r, Plain p.1) {n : Nat} : eqOk (n + 2) (rowZ r) = true :=
  eqOk_tup (n := n + 1) pairZ r fun p hp => by
    show eqOk (n + 1) (.tup [tD p.1, .int p.2]) = true
    unfold eqOk
    unfold eqOks
    rw [eqOk_tD (h p hp).2]
    unfold eqOks
    rw [eqOk_int]
    cases n <;> rfl
theorem eqOk_non {n : Nat} : eqOk n .non = true := by cases n <;> rfl
theorem lawRow_plain {n : Nat} {l : T} (h : Plain l) {r : List (T × Int)} (e : lawRowO n l = some r) : ∀ p ∈ r, Plain p.1 := by
  rw [lawRow_filter] at e
  cases q : allO ((headsT l).map pairO) with
  | none => rw [q] at e; cases e
  | some r' =>
    rw [q] at e
    have : r = r' := by
      cases a : (r'.all fun p => wdB p.1 && decide (p.2 < (n : Int))) with
      | false => simp [Option.filter, a] at e
      | true => simp [Option.filter, a] at e; exact e.symm
    subst this
    intro x hx
    have : some x ∈ (headsT l).map pairO := by rw [allO_some q]; exact List.mem_map.mpr ⟨x, hx, rfl⟩
    obtain ⟨y, hy, e3⟩ := List.mem_map.mp this
    exact pairO_plain (heads_plain h y hy) e3
theorem lawWd_plain {t : T} (h : Plain t) {w : T} (e : lawWd t = some w) : Plain w := by
  unfold lawWd at e
  cases q : wordO t with
  | none => rw [q] at e; cases e
  | some w' =>
    rw [q] at e
    have : w = w' := by
      cases a : wdB w' with
      | false => simp [Option.filter, a] at e
      | true => simp [Option.filter, a] at e; exact e.symm
    subst this
    exact wordO_plain h q
theorem dec_row (x : Option (List (T × Int))) : decide (oD rowZ x = .non) = x.isNone := by
  cases x with
  | none => simp [oD]
  | some r => simp [oD, rowZ]
theorem dec_end (x : Option T) : decide (oD tD x = .non) = x.isNone := by
  cases x with
  | none => simp [oD]
  | some r => simp [oD, tD]
theorem in_rows {n : Nat} {ls : List T} (h : ∀ l ∈ ls, Plain l) : inLD .non (.lst (ls.map fun l => oD rowZ (lawRowO n l))) = some (.bl (ls.any fun l => (lawRowO n l).isNone)) := by
  have h2 : eqOk 60 (.lst (ls.map fun l => oD rowZ (lawRowO n l))) = true := eqOk_lst (n := 59) _ _ fun l hl => by
    cases q : lawRowO n l with
    | none => exact eqOk_non
    | some r => exact eqOk_rowZ (lawRow_plain (h l hl) q) (n := 57)
  unfold inLD
  simp only [h2, eqOk_non, Bool.and_self, if_true, List.any_map]
  congr 3
  funext l
  exact dec_row _
theorem in_ends {ls : List T} (h : ∀ l ∈ ls, Plain l) : inLD .non (.lst (ls.map fun l => oD tD (lawWd (lastT l)))) = some (.bl (ls.any fun l => (lawWd (lastT l)).isNone)) := by
  have h2 : eqOk 60 (.lst (ls.map fun l => oD tD (lawWd (lastT l)))) = true := eqOk_lst (n := 59) _ _ fun l hl => by
    cases q : lawWd (lastT l) with
    | none => exact eqOk_non
    | some r => exact eqOk_tD (lawWd_plain (last_plain (h l hl)) q).2
  unfold inLD
  simp only [h2, eqOk_non, Bool.and_self, if_true, List.any_map]
  congr 3
  funext l
  exact dec_end _
def partsD (l : T) : D := .lst ((splT 32 l).map tD)
theorem partsD_eq (l : T) : partsD l = .lst ((headsT l).map tD ++ [tD (lastT l)]) := by
  unfold partsD
  rw [parts_eq]
  simp
end Wk

namespace Wk
open PySem PySem.Spec PyProof.Rows L2 TL DL
theorem sSeq_rt {a b : DStm} {env : DEnv} {d : D} (h : a env = .rt d) : sSeq a b env = .rt d := by simp only [sSeq, h, DOut.then]
theorem readO_inv {t : T} {R : Rw} (h : readO t = some R) : ∃ L, allO ((splT 10 t).map lineO) = some L ∧ R = rwOf L ∧ (rwOf L).Good := by
  cases q : allO ((splT 10 t).map lineO) with
  | none => rw [readO_none q] at h; cases h
  | some L =>
    by_cases g : (rwOf L).Good
    · rw [readO_good q g] at h
      cases h
      exact ⟨L, rfl, rfl, g⟩
    · rw [readO_bad q g] at h
      cases h
theorem readO_no {t : T} (h : ∀ L, allO ((splT 10 t).map lineO) = some L → ¬ (rwOf L).Good) : readO t = none := by
  cases q : readO t with
  | none => rfl
  | some R =>
    obtain ⟨L, h1, _, h3⟩ := readO_inv q
    exact absurd h3 (h L h1)
theorem good_okL {L : List LineR} (g : (rwOf L).Good) : ∀ p ∈ L, okL L.length p := fun p hp => by
  have h1 := g.rw p.1 (List.mem_map.mpr ⟨p, hp, rfl⟩)
  have h2 := g.en p.2 (List.mem_map.mpr ⟨p, hp, rfl⟩)
  have ln : (rwOf L).rows.length = L.length := by simp [rwOf]
  rw [ln] at h1
  exact ⟨fun q hq => ⟨(h1.2 q hq).1, (h1.2 q hq).2.2⟩, h2⟩
theorem mem_line {ls : List T} {L : List LineR} (h : allO (ls.map lineO) = some L) {l : T} (hl : l ∈ ls) : ∃ p ∈ L, lineO l = some p := by
  have : lineO l ∈ ls.map lineO := List.mem_map.mpr ⟨l, hl, rfl⟩
  rw [allO_some h] at this
  obtain ⟨p, hp, e⟩ := List.mem_map.mp this
  exact ⟨p, hp, e.symm⟩
theorem line_mem {ls : List T} {L : List LineR} (h : allO (ls.map lineO) = some L) {p : LineR} (hp : p ∈ L) : ∃ l ∈ ls, lineO l = some p := by
  have : some p ∈ ls.map lineO := by rw [allO_some h]; exact List.mem_map.mpr ⟨p, hp, rfl⟩
  exact List.mem_map.mp this
theorem row_comp {n : Nat} {ls : List T} {P : List D} (a c2 : Cel) (hP : P = ls.map partsD) (hn : n = ls.length) (h9 : n ≤ 9) (hp : ∀ l ∈ ls, Plain l) :
    lComp [5] (iAny (xVar 1)) (gN 5) (fun _ => .ok true) (xCall 2 f__law_row (aCons (xCut (xVar 5) (oNo) (oPart (xUn negD (xC (.int 1))))) (aCons (xCb lenD (aCons (xVar 1) (aNil))) (aNil)))) [a, .dat (.lst P), c2, .un, .un, .un, .un] = .ok (ls.map fun l => oD rowZ (lawRowO n l)) := by
  refine lComp_ok (ds := P) (by simp) (by rw [hP, List.length_map]; omega) (by simp [Cel.isOwned]) ?_
  have lnP : lenD [.lst P] = some (.int n) := by
    show some (D.int (P.length : Int)) = _
    rw [hP, List.length_map, hn]
  have hm := cLoop_map (t := gN 5) (f := xCall 2 f__law_row (aCons (xCut (xVar 5) (oNo) (oPart (xUn negD (xC (.int 1))))) (aCons (xCb lenD (aCons (xVar 1) (aNil))) (aNil)))) (e0 := wipeE [a, .dat (.lst P), c2, .un, .un, .un, .un] [5]) partsD (fun l => oD rowZ (lawRowO n l)) ls fun l hl' => by
    have cut : slcD none (some (-1)) (partsD l) = some (.lst ((headsT l).map tD)) := by
      rw [partsD_eq]
      show some (D.lst (cutL _ none (some (-1)))) = _
      rw [cutL_last]
    have lr := law_row_eq (n := n) h9 (heads_plain (hp l hl')) (by have := heads_len (hp l hl'); omega)
    refine ⟨_, rfl, ?_⟩
    generalize (headsT l).map tD = Q at cut lr
    simp [wipeE, cut, lnP, lr, negD, lawRowO]
  rw [← hP] at hm
  exact hm
theorem end_comp {ls : List T} {P : List D} (a c2 : Cel) (hP : P = ls.map partsD) (h9 : ls.length ≤ 9) (hp : ∀ l ∈ ls, Plain l) :
    lComp [5] (iAny (xVar 1)) (gN 5) (fun _ => .ok true) (xCall 1 f__law_word_of (aCons (xOp ixAD (xVar 5) (xUn negD (xC (.int 1)))) (aNil))) [a, .dat (.lst P), c2, .un, .un, .un, .un] = .ok (ls.map fun l => oD tD (lawWd (lastT l))) := by
  refine lComp_ok (ds := P) (by simp) (by rw [hP, List.length_map]; omega) (by simp [Cel.isOwned]) ?_
  have hm := cLoop_map (t := gN 5) (f := xCall 1 f__law_word_of (aCons (xOp ixAD (xVar 5) (xUn negD (xC (.int 1)))) (aNil))) (e0 := wipeE [a, .dat (.lst P), c2, .un, .un, .un, .un] [5]) partsD (fun l => oD tD (lawWd (lastT l))) ls fun l hl' => by
    have last : ixAD (partsD l) (.int (-1)) = some (tD (lastT l)) := by
      rw [partsD_eq]
      exact atI_last _ _
    have lw := law_word_any (last_plain (hp l hl')).1
    refine ⟨_, rfl, ?_⟩
    simp [wipeE, last, lw, negD]
  rw [← hP] at hm
  exact hm
theorem other_comp {L : List LineR} {k : Nat} (a b c3 : Cel) {RL : List D} (hR : RL = L.map fun p => rowZ p.1) (h9 : L.length ≤ 1000) (i0 : ixAD (.lst RL) (.int 0) = some (rowZ ((L.map (·.1)).headD []))) (hk : k = ((L.map (·.1)).headD []).length) :
    lComp [6] (iAny (xVar 2)) (gN 6) (tE (xOp neD (xCb lenD (aCons (xVar 6) (aNil))) (xCb lenD (aCons (xOp ixAD (xVar 2) (xC (.int 0))) (aNil))))) (xVar 6) [a, b, .dat (.lst RL), c3, .un, .un, .un] = .ok ((L.filter fun p => !decide (p.1.length = k)).map fun p => rowZ p.1) := by
  refine lComp_ok (ds := RL) (by simp) (by rw [hR, List.length_map]; omega) (by simp [Cel.isOwned]) ?_
  have l0 : lenD [rowZ ((L.map (·.1)).headD [])] = some (.int k) := by rw [len_rowZ, hk]
  have := cLoop_filter (t := gN 6) (c := tE (xOp neD (xCb lenD (aCons (xVar 6) (aNil))) (xCb lenD (aCons (xOp ixAD (xVar 2) (xC (.int 0))) (aNil))))) (f := xVar 6) (e0 := wipeE [a, b, .dat (.lst RL), c3, .un, .un, .un] [6]) (fun p : LineR => rowZ p.1) (fun p => !decide (p.1.length = k)) (fun p => rowZ p.1) L fun p hp => by
    refine ⟨_, rfl, ?_, fun _ => ?_⟩
    · generalize hz : rowZ ((L.map (·.1)).headD []) = Z at i0 l0
      simp [wipeE, i0, l0]
      omega
    · simp [wipeE]
  rw [← hR] at this
  exact this
theorem due_any {t : T} (h : Plain t) : f__law_due [tD t] = .ok (oD rwD (readO t)) := by
  have e : f__law_due [tD t] = fnRes (r__law_due [.dat (tD t), .un, .un, .un, .un, .un, .un]) := rfl
  rw [e]
  have cnt := @splT_count 10 t
  have hl := h.1
  have pls : ∀ l ∈ splT 10 t, Plain l := fun l hl => splT_plain h hl
  obtain ⟨l0, ls', hls⟩ := List.exists_cons_of_ne_nil (@splT_ne 10 t)
  obtain ⟨P, hP⟩ : ∃ P, P = (splT 10 t).map partsD := ⟨_, rfl⟩
  have src : iAny (xL (lM1 splitL (xVar 0) (xC (.str "\n")))) [.dat (tD t), .un, .un, .un, .un, .un, .un] = .ok ((splT 10 t).map tD) := by
    have := split_set (i := 0) (j := 0) (f := xVar 0) (env := [.dat (tD t), .un, .un, .un, .un, .un, .un]) (t := t) (by decide) line_tD rfl hl
    simp only [iAny]
    rw [this]
    rfl
  have c1 : xL (lComp [4] (iAny (xL (lM1 splitL (xVar 0) (xC (.str "\n"))))) (gN 4) (fun _ => .ok true) (xL (lM1 splitL (xVar 4) (xC (.str " "))))) [.dat (tD t), .un, .un, .un, .un, .un, .un] = .ok (.lst P) := by
    rw [hP]
    refine xL_ok (lComp_ok src (by simp; omega) (by simp [Cel.isOwned]) ?_)
    refine cLoop_map tD partsD (splT 10 t) fun l hl => ⟨_, rfl, ?_⟩
    exact split_set (i := 0) (j := 0) (by decide) blank_tD rfl (pls l hl).1
  have s1 : sSet 1 (xL (lComp [4] (iAny (xL (lM1 splitL (xVar 0) (xC (.str "\n"))))) (gN 4) (fun _ => .ok true) (xL (lM1 splitL (xVar 4) (xC (.str " ")))))) [.dat (tD t), .un, .un, .un, .un, .un, .un] = .nx [.dat (tD t), .dat (.lst P), .un, .un, .un, .un, .un] := sSet_ok c1 rfl
  have lnP : lenD [.lst P] = some (.int (splT 10 t).length) := by
    show some (D.int (P.length : Int)) = _
    rw [hP, List.length_map]
  have i0 : ixAD (.lst P) (.int 0) = some (partsD l0) := by
    rw [hP, hls]
    show atI _ ((0 : Nat) : Int) = _
    rw [atI_nat']
    rfl
  have l0n : lenD [partsD l0] = some (.int (((headsT l0).length : Int) + 1)) := by
    rw [partsD_eq]
    show some (D.int (((headsT l0).map tD ++ [tD (lastT l0)]).length : Int)) = _
    simp
  have nl : ∀ L, allO ((splT 10 t).map lineO) = some L → L.length = (splT 10 t).length ∧ ∃ p L', L = p :: L' ∧ lineO l0 = some p := fun L hL => by
    have := allO_len hL
    rw [List.length_map] at this
    refine ⟨this.symm, ?_⟩
    have z := allO_some hL
    rw [hls] at z
    cases L with
    | nil => simp at z
    | cons p L' =>
      simp only [List.map_cons, List.cons.injEq] at z
      exact ⟨p, L', rfl, z.1⟩
  have sg : ∀ L, allO ((splT 10 t).map lineO) = some L → (rwOf L).signs = (headsT l0).length := fun L hL => by
    obtain ⟨_, p, L', e1, e2⟩ := nl L hL
    rw [e1]
    show (p.1.length : Int) = _
    rw [(lineO_row e2).1]
  unfold r__law_due
  by_cases n6 : 6 < (splT 10 t).length
  · have n6' : 6 < ((splT 10 t).length : Int) := by omega
    have no : readO t = none := readO_no fun L hL g => by
      have a := g.r6
      have b := (nl L hL).1
      have c : (rwOf L).rows.length = L.length := by simp [rwOf]
      omega
    rw [no, show sSeq _ _ _ = _ from sSeq_nx s1 (sSeq_rt (d := .non) (by simp [lnP, gtD, n6']))]
    rfl
  have n6' : ¬ 6 < ((splT 10 t).length : Int) := by omega
  by_cases k2 : ((headsT l0).length : Int) + 1 < 2
  · have no : readO t = none := readO_no fun L hL g => by
      have a := g.s1
      have b := sg L hL
      omega
    rw [no, show sSeq _ _ _ = _ from sSeq_nx s1 (sSeq_rt (d := .non) (by simp only [sIf, tEither, tE, xOp, xCb, aCons, aNil, xVar, celD, List.getElem?_cons_succ, List.getElem?_cons_zero, M.bind, lnP, M.of, xC, gtD, decide_eq_false n6', asB, i0, l0n, ltD, decide_eq_true k2]; simp))]
    rfl
  by_cases k5 : 5 < ((headsT l0).length : Int) + 1
  · have no : readO t = none := readO_no fun L hL g => by
      have a := g.s4
      have b := sg L hL
      omega
    rw [no, show sSeq _ _ _ = _ from sSeq_nx s1 (sSeq_rt (d := .non) (by simp only [sIf, tEither, tE, xOp, xCb, aCons, aNil, xVar, celD, List.getElem?_cons_succ, List.getElem?_cons_zero, M.bind, lnP, M.of, xC, gtD, decide_eq_false n6', asB, i0, l0n, ltD, decide_eq_false k2, decide_eq_true k5]; simp))]
    rfl
  refine congrArg fnRes (sSeq_nx s1 (sSeq_nx (e1 := [.dat (tD t), .dat (.lst P), .un, .un, .un, .un, .un]) (by simp only [sIf, tEither, tE, xOp, xCb, aCons, aNil, xVar, celD, List.getElem?_cons_succ, List.getElem?_cons_zero, M.bind, lnP, M.of, xC, gtD, decide_eq_false n6', asB, i0, l0n, ltD, decide_eq_false k2, decide_eq_false k5]; simp) rfl)) |>.trans ?_
  obtain ⟨n, hn⟩ : ∃ n, n = (splT 10 t).length := ⟨_, rfl⟩
  have rc := row_comp (n := n) (.dat (tD t)) .un hP hn (by omega) pls
  obtain ⟨RL, hRL⟩ : ∃ RL, RL = (splT 10 t).map fun l => oD rowZ (lawRowO n l) := ⟨_, rfl⟩
  have inr := in_rows (n := n) pls
  rw [← hRL] at rc inr
  have ec := end_comp (.dat (tD t)) (.dat (.lst RL)) hP (by omega) pls
  obtain ⟨EL, hEL⟩ : ∃ EL, EL = (splT 10 t).map fun l => oD tD (lawWd (lastT l)) := ⟨_, rfl⟩
  have ine := in_ends pls
  rw [← hEL] at ec ine
  refine congrArg fnRes (sSeq_nx (sSet_ok (xL_ok rc) rfl) (sSeq_nx (sSet_ok (xL_ok ec) rfl) rfl)) |>.trans ?_
  simp only [List.set]
  by_cases aR : ((splT 10 t).any fun l => (lawRowO n l).isNone) = true
  · rw [aR] at inr
    have no : readO t = none := readO_no fun L hL g => by
      obtain ⟨l, hl1, hl2⟩ := List.any_eq_true.mp aR
      obtain ⟨p, hp, hlp⟩ := mem_line hL hl1
      have ok := good_okL g p hp
      rw [(nl L hL).1, ← hn] at ok
      rw [(line_ok hlp ok).1] at hl2
      simp at hl2
    rw [no, show sSeq _ _ _ = _ from sSeq_rt (d := .non) (by simp [inr])]
    rfl
  rw [Bool.not_eq_true] at aR
  rw [aR] at inr
  by_cases aE : ((splT 10 t).any fun l => (lawWd (lastT l)).isNone) = true
  · rw [aE] at ine
    have no : readO t = none := readO_no fun L hL g => by
      obtain ⟨l, hl1, hl2⟩ := List.any_eq_true.mp aE
      obtain ⟨p, hp, hlp⟩ := mem_line hL hl1
      have ok := good_okL g p hp
      rw [(nl L hL).1, ← hn] at ok
      rw [(line_ok hlp ok).2] at hl2
      simp at hl2
    rw [no, show sSeq _ _ _ = _ from sSeq_rt (d := .non) (by simp [inr, ine])]
    rfl
  rw [Bool.not_eq_true] at aE
  rw [aE] at ine
  have each : ∀ l ∈ splT 10 t, ∃ p, lineO l = some p ∧ okL n p := fun l hl => line_of (fun z => by
    have := List.any_eq_false.mp aR l hl
    simp [z] at this) (fun z => by
    have := List.any_eq_false.mp aE l hl
    simp [z] at this)
  obtain ⟨L, hL⟩ := allO_get (o := lineO) (ls := splT 10 t) fun l hl z => by
    obtain ⟨p, hp, _⟩ := each l hl
    rw [z] at hp
    cases hp
  have allok : ∀ p ∈ L, okL n p ∧ ∀ q ∈ p.1, 0 ≤ q.2 := fun p hp => by
    obtain ⟨l, hl1, hl2⟩ := line_mem hL hp
    obtain ⟨p', e1, e2⟩ := each l hl1
    rw [hl2] at e1
    cases e1
    exact ⟨e2, (lineO_row hl2).2⟩
  have hRL' : RL = L.map fun p => rowZ p.1 := by
    rw [hRL]
    refine map_rel (allO_some hL) fun l hl p hp => ?_
    obtain ⟨p', e1, e2⟩ := each l hl
    rw [hp] at e1
    cases e1
    rw [(line_ok hp e2).1]
    rfl
  have hEL' : EL = L.map fun p => tD p.2 := by
    rw [hEL]
    refine map_rel (allO_some hL) fun l hl p hp => ?_
    obtain ⟨p', e1, e2⟩ := each l hl
    rw [hp] at e1
    cases e1
    rw [(line_ok hp e2).2]
    rfl
  obtain ⟨len, p0, L', hc, hp0⟩ := nl L hL
  have r0 : ixAD (.lst RL) (.int 0) = some (rowZ ((L.map (·.1)).headD [])) := by
    rw [hRL', hc]
    show atI _ ((0 : Nat) : Int) = _
    rw [atI_nat']
    rfl
  have oc := other_comp (.dat (tD t)) (.dat (.lst P)) (.dat (.lst EL)) (k := ((L.map (·.1)).headD []).length) hRL' (by omega) r0 rfl
  obtain ⟨F, hF⟩ : ∃ F, F = (L.filter fun p => !decide (p.1.length = ((L.map (·.1)).headD []).length)) := ⟨_, rfl⟩
  rw [← hF] at oc
  have lF : lenD [.lst (F.map fun p => rowZ p.1)] = some (.int F.length) := by
    show some (D.int ((F.map fun p => rowZ p.1).length : Int)) = _
    rw [List.length_map]
  by_cases f0 : 0 < F.length
  · have f0' : 0 < (F.length : Int) := by omega
    have no : readO t = none := readO_no fun L2 hL2 g => by
      rw [hL] at hL2
      cases hL2
      obtain ⟨p, hp⟩ := List.exists_mem_of_length_pos f0
      rw [hF] at hp
      obtain ⟨h1, h2⟩ := List.mem_filter.mp hp
      have := (g.rw p.1 (List.mem_map.mpr ⟨p, h1, rfl⟩)).1
      have sgs : (rwOf L).signs = (((L.map (·.1)).headD []).length : Int) := rfl
      rw [sgs] at this
      simp only [Bool.not_eq_true', decide_eq_false_iff_not] at h2
      exact h2 (by exact_mod_cast this)
    have xo := xL_ok oc
    generalize (F.map fun p => rowZ p.1) = FL at xo lF
    rw [no, show sSeq _ _ _ = _ from sSeq_rt (d := .non) (by
      simp only [sIf, tEither, tE, xOp, xCb, aCons, aNil, xVar, celD, List.getElem?_cons_succ, List.getElem?_cons_zero, M.bind, M.of, xC, inr, ine, asB, xo, lF, gtD, decide_eq_true f0']
      simp)]
    rfl
  have f0' : ¬ 0 < (F.length : Int) := by omega
  have g : (rwOf L).Good := by
    have a : (rwOf L).rows.length = L.length := by simp [rwOf]
    have s := sg L hL
    refine ⟨by omega, by omega, by rw [a, hc]; simp, by omega, by simp [rwOf], fun r hr => ?_, fun t ht => ?_⟩
    · obtain ⟨p, hp, rfl⟩ := List.mem_map.mp hr
      obtain ⟨ok, nn⟩ := allok p hp
      refine ⟨?_, fun q hq => ⟨(ok.1 q hq).1, nn q hq, ?_⟩⟩
      · have fn : F = [] := List.length_eq_zero_iff.mp (by omega)
        rw [hF] at fn
        have := List.filter_eq_nil_iff.mp fn p hp
        simp only [Bool.not_eq_true, Bool.not_eq_false', decide_eq_true_eq] at this
        show ((p.1.length : Nat) : Int) = (((L.map (·.1)).headD []).length : Int)
        rw [this]
      · rw [a, len, ← hn]
        exact (ok.1 q hq).2
    · obtain ⟨p, hp, rfl⟩ := List.mem_map.mp ht
      exact (allok p hp).1.2
  rw [readO_good hL g]
  have xo := xL_ok oc
  generalize (F.map fun p => rowZ p.1) = FL at xo lF
  have t1 : tupD [.lst RL] = some (rowsZ (L.map (·.1))) := by
    rw [hRL']
    show some (D.tup (L.map fun p => rowZ p.1)) = some (D.tup ((L.map (·.1)).map rowZ))
    rw [List.map_map]
    rfl
  have t2 : tupD [.lst EL] = some (endsD (L.map (·.2))) := by
    rw [hEL']
    show some (D.tup (L.map fun p => tD p.2)) = some (D.tup ((L.map (·.2)).map tD))
    rw [List.map_map]
    rfl
  have l0' : lenD [rowZ ((L.map (·.1)).headD [])] = some (.int (rwOf L).signs) := by rw [len_rowZ]; rfl
  have wd : D.tup [.int (rwOf L).signs, rowsZ (L.map (·.1)), endsD (L.map (·.2))] = rwD (rwOf L) := rfl
  refine congrArg fnRes (sSeq_nx (e1 := [.dat (tD t), .dat (.lst P), .dat (.lst RL), .dat (.lst EL), .un, .un, .un]) (by
      simp only [sIf, tEither, tE, xOp, xCb, aCons, aNil, xVar, celD, List.getElem?_cons_succ, List.getElem?_cons_zero, M.bind, M.of, xC, inr, ine, asB, xo, lF, gtD, decide_eq_false f0']
      simp) (sRet_ok (d := rwD (rwOf L)) ?_))
  generalize rowZ ((L.map (·.1)).headD []) = Z at r0 l0'
  simp [r0, l0', t1, t2, small_line, wd]
end Wk

namespace Wk
open PySem PySem.Spec PyProof.Rows L2 TL DL
/-! ### the lines of a writer -/
theorem dashed_eq (l : T) : f__law_dashed [tD l] = .ok (tD (dash l)) := by
  have e : f__law_dashed [tD l] = fnRes (r__law_dashed [.dat (tD l)]) := rfl
  rw [e]
  unfold dash
  by_cases h : l = []
  · simp [r__law_dashed, nil_tD, dash_tD, h]
  · simp [r__law_dashed, nil_tD, dash_tD, h]
/-- the parts of a row -/
theorem parts_comp {it : DEnv → M (List D)} {env : DEnv} {i j : Nat} {r : List (T × Nat)} {g : List D → M D} (hg : ∀ l, g [tD l] = .ok (tD (dash l))) (hi : it env = .ok (r.map pairD)) (ij : i ≠ j) (li : i < env.length) (lj : j < env.length) (h3 : ([i, j].all fun i => match env[i]? with | some s => !s.isOwned | none => true) = true) (hr : ∀ p ∈ r, Wd p.1 ∧ p.2 < 10) (hl : r.length ≤ 1000) :
    lComp [i, j] it (gT (gsCons (gN i) (gsCons (gN j) gsNil))) (fun _ => .ok true) (xOp addD (xOp addD (xCall 1 g (aCons (xVar i) (aNil))) (xC (.str ">"))) (xCb strD (aCons (xVar j) (aNil)))) env = .ok ((r.map partT).map tD) := by
  refine lComp_ok hi (by simp; omega) h3 ?_
  rw [List.map_map]
  refine cLoop_map pairD (tD ∘ partT) r fun p hp => ?_
  obtain ⟨h1, h2⟩ := hr p hp
  have l1 := (dash_len h1).2
  refine ⟨_, rfl, ?_⟩
  have a1 : addD (tD (dash p.1)) (tD [62]) = some (tD (dash p.1 ++ [62])) := add_tD (by simp; omega)
  have a2 : addD (tD (dash p.1 ++ [62])) (tD [48 + p.2]) = some (tD (dash p.1 ++ [62] ++ [48 + p.2])) := add_tD (by simp; omega)
  have e1 : (((wipeE env [i, j]).set i (.dat (tD p.1))).set j (.dat (.int p.2)))[i]? = some (.dat (tD p.1)) := by
    rw [List.getElem?_set_ne (Ne.symm ij), List.getElem?_set_self (by rw [wipeE_len]; exact li)]
  have e2 : (((wipeE env [i, j]).set i (.dat (tD p.1))).set j (.dat (.int p.2)))[j]? = some (.dat (.int p.2)) := by
    rw [List.getElem?_set_self (by rw [List.length_set, wipeE_len]; exact lj)]
  simp only [xOp, xCall, aCons, aNil, xVar, celD, e1, e2, M.bind, List.length_cons, List.length_nil, Nat.zero_add, if_true, hg, xC, gt_tD, M.of, a1, xCb, str_fig h2, a2]
  rfl
theorem line_sum {r : List (T × Nat)} {e : T} (hr : ∀ p ∈ r, Wd p.1 ∧ p.2 < 10) (he : Wd e) : ((r.map partT ++ [dash e]).map List.length).sum ≤ (r.length + 1) * 10 := by
  have := sum_le (b := 10) (ls := r.map partT ++ [dash e]) fun l hl => by
    rcases List.mem_append.mp hl with hl | hl
    · obtain ⟨p, hp, rfl⟩ := List.mem_map.mp hl
      exact part_len (hr p hp).1
    · rw [List.mem_singleton.mp hl]
      have := (dash_len he).2
      omega
  simpa using this
theorem lineT_len {r : List (T × Nat)} {e : T} (hr : ∀ p ∈ r, Wd p.1 ∧ p.2 < 10) (he : Wd e) : (lineT r e).length ≤ (r.length + 1) * 11 := by
  have h1 := len_joinL [32] (r.map partT ++ [dash e])
  have h2 := line_sum hr he
  simp only [List.length_append, List.length_map, List.length_cons, List.length_nil, Nat.zero_add] at h1
  unfold lineT
  omega
theorem lineT_mem {r : List (T × Nat)} {e : T} (hr : ∀ p ∈ r, Wd p.1 ∧ p.2 < 10) (he : Wd e) {c : Nat} (hc : c ∈ lineT r e) : c = 32 ∨ c = 45 ∨ (97 ≤ c ∧ c ≤ 100) ∨ c = 62 ∨ (48 ≤ c ∧ c ≤ 57) := by
  rcases mem_joinL hc with h | ⟨l, hl, h⟩
  · exact .inl (List.mem_singleton.mp h)
  · rcases List.mem_append.mp hl with hl | hl
    · obtain ⟨p, hp, rfl⟩ := List.mem_map.mp hl
      exact .inr (part_mem (hr p hp).1 (hr p hp).2 h)
    · rw [List.mem_singleton.mp hl] at h
      rcases dash_mem he h with h | h
      · exact .inr (.inl h)
      · exact .inr (.inr (.inl h))
theorem line_join {r : List (T × Nat)} {e : T} (hr : ∀ p ∈ r, Wd p.1 ∧ p.2 < 10) (he : Wd e) (hl : r.length ≤ 1000) : joinD (tD [32]) (.lst ((r.map partT ++ [dash e]).map tD)) = some (tD (lineT r e)) := by
  have h2 := line_sum hr he
  refine join_tD ?_
  simp only [List.length_append, List.length_map, List.length_cons, List.length_nil] at h2 ⊢
  omega
theorem lines_loop {w : Wr} (o : w.Ok) : ∀ (ks : List Nat) (acc : List T) (c2 c3 c4 c5 : Cel), (∀ k ∈ ks, k < w.rows.length) → acc.length + ks.length ≤ 1000 → c4.isOwned = false → c5.isOwned = false →
    ∃ c2' c3' c4' c5', dLoop (gN 2) r__law_lines_b1 (ks.map fun (m : Nat) => D.int (m : Int)) [.dat (wrD w), .own (acc.map tD), c2, c3, c4, c5] = .nx [.dat (wrD w), .own ((acc ++ ks.map w.line).map tD), c2', c3', c4', c5']
  | [], acc, c2, c3, c4, c5, _, _, _, _ => ⟨c2, c3, c4, c5, by simp⟩
  | k :: ks, acc, c2, c3, c4, c5, h, hl, h4, h5 => by
    simp only [List.length_cons] at hl
    have hk := h k List.mem_cons_self
    obtain ⟨r, r1, r2, r3, r4⟩ := o.row_ok hk
    obtain ⟨f1, f2⟩ := o.fin_ok hk
    have s4 := o.s4; have r6 := o.r6
    have r4' : ∀ p ∈ r, Wd p.1 ∧ p.2 < 10 := fun p hp => ⟨(r4 p hp).1, by have := (r4 p hp).2; omega⟩
    have comp := parts_comp (i := 4) (j := 5) (env := [.dat (wrD w), .own (acc.map tD), .dat (.int k), c3, c4, c5]) (it := iAny (xOp ixAD (xOp ixAD (xVar 0) (xC (.int 1))) (xVar 2))) (r := r) dashed_eq (by simp [ix_rows r1]) (by decide) (by simp) (by simp) (by simp [h4, h5]) r4' (by omega)
    have jn := line_join (r := r) (e := w.fin k) r4' f2 (by omega)
    have ln : w.line k = lineT r (w.fin k) := by unfold Wr.line; rw [r2]
    rw [← ln] at jn
    obtain ⟨a, b, c, d, e⟩ := lines_loop o ks (acc ++ [w.line k]) (.dat (.int k)) (.dat (.lst ((r.map partT).map tD))) c4 c5 (fun x hx => h x (List.mem_cons_of_mem _ hx)) (by simp; omega) h4 h5
    have ad : addD (.lst ((r.map partT).map tD)) (.lst [tD (dash (w.fin k))]) = some (.lst ((r.map partT ++ [dash (w.fin k)]).map tD)) := by
      have : ((r.map partT).map tD).length + ([tD (dash (w.fin k))] : List D).length ≤ sizeLine := small_line (by simp; omega)
      show (if ((r.map partT).map tD).length + ([tD (dash (w.fin k))] : List D).length ≤ sizeLine then some _ else none) = _
      rw [if_pos this]
      simp
    have big : acc.length < sizeLine := small_lt (by omega)
    refine ⟨a, b, c, d, dLoop_step (e1 := [.dat (wrD w), .own (acc.map tD), .dat (.int k), c3, c4, c5]) rfl ?_ (e.trans (by simp))⟩
    unfold r__law_lines_b1
    refine sSeq_nx (sSet_ok (xL_ok comp) rfl) ?_
    have jn' : joinD (tD [32]) (.lst (((r.map partT).map tD) ++ [tD (dash (w.fin k))])) = some (tD (w.line k)) := by
      rw [← jn]; simp
    have ad' : addD (.lst ((r.map partT).map tD)) (.lst [tD (dash (w.fin k))]) = some (.lst (((r.map partT).map tD) ++ [tD (dash (w.fin k))])) := by
      rw [ad]; simp
    generalize (r.map partT).map tD = P at jn' ad'
    simp [ix_ends f1, dashed_eq, blank_tD, small_line, ad', jn', big]
theorem note_join {w : Wr} (o : w.Ok) : joinD (tD [10]) (.lst (((List.range w.rows.length).map w.line).map tD)) = some (tD w.note) ∧ w.note.length ≤ 1000 ∧ ∀ k, k < w.rows.length → (w.line k).length ≤ 55 ∧ ∀ c ∈ w.line k, c = 32 ∨ c = 45 ∨ (97 ≤ c ∧ c ≤ 100) ∨ c = 62 ∨ (48 ≤ c ∧ c ≤ 57) := by
  have s4 := o.s4; have r6 := o.r6
  have each : ∀ k, k < w.rows.length → (w.line k).length ≤ 55 ∧ ∀ c ∈ w.line k, c = 32 ∨ c = 45 ∨ (97 ≤ c ∧ c ≤ 100) ∨ c = 62 ∨ (48 ≤ c ∧ c ≤ 57) := fun k hk => by
    obtain ⟨r, r1, r2, r3, r4⟩ := o.row_ok hk
    obtain ⟨f1, f2⟩ := o.fin_ok hk
    have r4' : ∀ p ∈ r, Wd p.1 ∧ p.2 < 10 := fun p hp => ⟨(r4 p hp).1, by have := (r4 p hp).2; omega⟩
    have ln : w.line k = lineT r (w.fin k) := by unfold Wr.line; rw [r2]
    rw [ln]
    have := lineT_len r4' f2
    exact ⟨by omega, fun c hc => lineT_mem r4' f2 hc⟩
  have sum := sum_le (b := 55) (ls := (List.range w.rows.length).map w.line) fun l hl => by
    obtain ⟨k, hk, rfl⟩ := List.mem_map.mp hl
    exact (each k (List.mem_range.mp hk)).1
  have len := len_joinL [10] ((List.range w.rows.length).map w.line)
  simp only [List.length_map, List.length_range, List.length_cons, List.length_nil] at sum len
  refine ⟨join_tD ?_, ?_, each⟩
  · simp only [List.length_map, List.length_range, List.length_cons, List.length_nil]
    omega
  · unfold Wr.note
    omega
def Wr.lns (w : Wr) : List T := (List.range w.rows.length).map w.line
theorem lines_eq {w : Wr} (o : w.Ok) : f__law_lines [wrD w] = .ok (.lst (w.lns.map tD)) := by
  have e : f__law_lines [wrD w] = fnRes (r__law_lines [.dat (wrD w), .un, .un, .un, .un, .un]) := rfl
  rw [e]
  have r6 := o.r6
  obtain ⟨a, b, c, d, e1⟩ := lines_loop o (List.range w.rows.length) [] .un .un .un .un (fun k h => List.mem_range.mp h) (by simp; omega) rfl rfl
  have hr : r__law_lines [.dat (wrD w), .un, .un, .un, .un, .un] = .rt (.lst (w.lns.map tD)) := by
    unfold r__law_lines
    refine sSeq_nx (e1 := [.dat (wrD w), .own [], .un, .un, .un, .un]) (by simp [small_line]) ?_
    refine sSeq_nx (sFor_ok (iRng_ok (ds := [.int (w.rows.length : Int)]) (by simp) (rng1_nat (by omega))) e1) ?_
    simp only [List.nil_append]
    show _ = DOut.rt (.lst (((List.range w.rows.length).map w.line).map tD))
    generalize ((List.range w.rows.length).map w.line).map tD = P
    simp
  rw [hr]
  rfl
end Wk

namespace Wk
open PySem PySem.Spec PyProof.Rows L2 TL DL
/-! ### a line with another part -/
def Ax (b : Nat) (l : T) : Prop := l.length ≤ b ∧ ∀ c ∈ l, c < 256
theorem Ax.plain {b : Nat} {l : T} (h : Ax b l) (hb : b ≤ 90000) : Plain l := ⟨by have := h.1; omega, fun c hc => by have := h.2 c hc; omega⟩
theorem Ax.mono {a b : Nat} {l : T} (h : Ax a l) (hb : a ≤ b) : Ax b l := ⟨by have := h.1; omega, h.2⟩
theorem cutL_map {α β : Type} (f : α → β) (xs : List α) (lo hi : Option Int) : cutL (xs.map f) lo hi = (cutL xs lo hi).map f := by
  unfold cutL
  simp [List.map_take, List.map_drop]
theorem cutL_mem {α : Type} {xs : List α} {lo hi : Option Int} {x : α} (h : x ∈ cutL xs lo hi) : x ∈ xs := List.mem_of_mem_drop (List.mem_of_mem_take h)
theorem cutL_len {α : Type} (xs : List α) (lo hi : Option Int) : (cutL xs lo hi).length ≤ xs.length := by
  unfold cutL
  rw [List.length_take, List.length_drop]
  omega
theorem Ax.cut {b : Nat} {l : T} (h : Ax b l) (lo hi : Option Int) : Ax b (cutL l lo hi) := ⟨by have := h.1; have := cutL_len l lo hi; omega, fun c hc => h.2 c (cutL_mem hc)⟩
theorem addL {xs ys : List D} (h : xs.length + ys.length ≤ 100000) : addD (.lst xs) (.lst ys) = some (.lst (xs ++ ys)) := by
  show (if xs.length + ys.length ≤ sizeLine then some _ else none) = _
  rw [if_pos (small_line h)]
theorem Ax.join {b n s : Nat} {ls : List T} (h : ∀ l ∈ ls, Ax b l) (hn : ls.length ≤ n) (hs : s < 256) : Ax (n * b + n) (joinL [s] ls) ∧ (ls.map List.length).sum + ls.length * ([s] : T).length ≤ n * b + n := by
  have h1 := sum_le (b := b) (ls := ls) fun l hl => (h l hl).1
  have h2 := len_joinL [s] ls
  have h3 : ls.length * b ≤ n * b := Nat.mul_le_mul_right b hn
  simp only [List.length_singleton, Nat.mul_one] at h2 ⊢
  refine ⟨⟨by omega, fun c hc => ?_⟩, by omega⟩
  rcases mem_joinL hc with hc | ⟨l, hl, hc⟩
  · rw [List.mem_singleton.mp hc]; exact hs
  · exact (h l hl).2 c hc
theorem join_of {b n s : Nat} {ls : List T} (h : ∀ l ∈ ls, Ax b l) (hn : ls.length ≤ n) (hs : s < 256) (hb : n * b + n ≤ 16777216) : joinD (tD [s]) (.lst (ls.map tD)) = some (tD (joinL [s] ls)) :=
  join_tD (by have := (Ax.join h hn hs).2; omega)
theorem str_at {ss : List Str} (h : ∀ s ∈ ss, (tl s).length ≤ 60 ∧ ∀ c ∈ tl s, c < 256) {k : Nat} (hk : k < ss.length) : ∃ p, ixAD (.lst (ss.map D.str)) (.int k) = some (tD p) ∧ Ax 60 p := by
  refine ⟨tl ss[k], ?_, h _ (List.getElem_mem hk)⟩
  show atI _ _ = _
  rw [atI_nat', List.getElem?_map, List.getElem?_eq_getElem hk]
  show some (D.str ss[k]) = some (D.str (sv (tl ss[k])))
  rw [tl_sv]
def someS : List Str := ["a>0", "->0", "->1", ">0", "a>", "a>6", "a>00", "abcdabcd>0", "abcdabcda>0", "e>0", "", "--"]
theorem some_ok : ∀ s ∈ someS, (tl s).length ≤ 60 ∧ ∀ c ∈ tl s, c < 256 := by decide +kernel
theorem natMod (a : Int) {b : Nat} (h : 0 < b) : ∃ k : Nat, a % (b : Int) = (k : Int) ∧ k < b := by
  have h1 := Int.emod_nonneg a (show (b : Int) ≠ 0 by omega)
  have h2 := Int.emod_lt_of_pos a (show 0 < (b : Int) by omega)
  exact ⟨(a % (b : Int)).toNat, by omega, by omega⟩
theorem parted_ok {t : T} (h : Ax 60 t) (fault cell : Int) : ∃ l, Ax 8000 l ∧ f__law_parted [tD t, .int fault, .int cell] = .ok (tD l) := by
  have e : f__law_parted [tD t, .int fault, .int cell] = fnRes (r__law_parted [.dat (tD t), .dat (.int fault), .dat (.int cell), .un, .un, .un, .un]) := rfl
  rw [e]
  have cnt := @splT_count 32 t
  have h60 := h.1
  have pls : ∀ q ∈ splT 32 t, Ax 60 q := fun q hq => by
    obtain ⟨h1, h2⟩ := spl_mem 32 t [] q hq
    refine ⟨by simp at h1; omega, fun c hc => ?_⟩
    rcases h2 c hc with h3 | h3
    · simp at h3
    · exact h.2 c h3
  obtain ⟨a, ha, _⟩ := natMod cell (b := (splT 32 t).length + 1) (by omega)
  obtain ⟨j, hj, hjl⟩ := natMod (cell / 13) (b := 12) (by omega)
  obtain ⟨p, ip, pp⟩ := str_at some_ok (k := j) hjl
  have m1 : modD (.int cell) (.int (((splT 32 t).length : Int) + 1)) = some (.int a) := by rw [modD_p (by omega)]; congr 2
  have m2 : modD (.int (cell / 13)) (.int 12) = some (.int j) := by rw [modD_p (by omega)]; congr 2
  have d1 := fdivD_p (a := cell) (b := 13) (by decide)
  have s1 : sSet 3 (xL (lM1 splitL (xVar 0) (xC (.str " ")))) [.dat (tD t), .dat (.int fault), .dat (.int cell), .un, .un, .un, .un] = .nx [.dat (tD t), .dat (.int fault), .dat (.int cell), .dat (.lst ((splT 32 t).map tD)), .un, .un, .un] :=
    sSet_ok (split_set (i := 0) (j := 0) (by decide) blank_tD rfl (by omega)) rfl
  have ln : lenD [.lst ((splT 32 t).map tD)] = some (.int (splT 32 t).length) := by
    show some (D.int (((splT 32 t).map tD).length : Int)) = _
    rw [List.length_map]
  have joined : ∀ lo hi : Int, ∃ l, Ax 8000 l ∧ ((addD (.lst ((cutL (splT 32 t) none (some lo)).map tD)) (.lst [tD p])).bind fun x => addD x (.lst ((cutL (splT 32 t) (some hi) none).map tD))) = some (.lst ((cutL (splT 32 t) none (some lo) ++ [p] ++ cutL (splT 32 t) (some hi) none).map tD)) ∧
      joinD (tD [32]) (.lst ((cutL (splT 32 t) none (some lo) ++ [p] ++ cutL (splT 32 t) (some hi) none).map tD)) = some (tD l) := fun lo hi => by
    have l1 := cutL_len (splT 32 t) none (some lo)
    have l2 := cutL_len (splT 32 t) (some hi) none
    have all : ∀ q ∈ cutL (splT 32 t) none (some lo) ++ [p] ++ cutL (splT 32 t) (some hi) none, Ax 60 q := fun q hq => by
      rcases List.mem_append.mp hq with hq | hq
      · rcases List.mem_append.mp hq with hq | hq
        · exact pls q (cutL_mem hq)
        · rw [List.mem_singleton.mp hq]; exact pp
      · exact pls q (cutL_mem hq)
    have hn : (cutL (splT 32 t) none (some lo) ++ [p] ++ cutL (splT 32 t) (some hi) none).length ≤ 123 := by simp; omega
    refine ⟨_, (Ax.join all hn (s := 32) (by decide)).1.mono (by decide), ?_, join_of all hn (by decide) (by decide)⟩
    rw [addL (by simp; omega)]
    rw [Option.bind_some]
    rw [addL (by simp; omega)]
    simp
  have part : ∀ lo hi : Option Int, slcD lo hi (.lst ((splT 32 t).map tD)) = some (.lst ((cutL (splT 32 t) lo hi).map tD)) := fun lo hi => by
    show some (D.lst (cutL _ lo hi)) = _
    rw [cutL_map]
  obtain ⟨r1, a1, b1, c1⟩ := joined a a
  obtain ⟨r2, a2, b2, c2⟩ := joined a (a + 1)
  have sl : ([.str "a>0", .str "->0", .str "->1", .str ">0", .str "a>", .str "a>6", .str "a>00", .str "abcdabcd>0", .str "abcdabcda>0", .str "e>0", .str "", .str "--"] : List D) = someS.map D.str := rfl
  have s2 : sSet 4 (xL (lLst (aCons (xC (.str "a>0")) (aCons (xC (.str "->0")) (aCons (xC (.str "->1")) (aCons (xC (.str ">0")) (aCons (xC (.str "a>")) (aCons (xC (.str "a>6")) (aCons (xC (.str "a>00")) (aCons (xC (.str "abcdabcd>0")) (aCons (xC (.str "abcdabcda>0")) (aCons (xC (.str "e>0")) (aCons (xC (.str "")) (aCons (xC (.str "--")) (aNil))))))))))))))) [.dat (tD t), .dat (.int fault), .dat (.int cell), .dat (.lst ((splT 32 t).map tD)), .un, .un, .un] = .nx [.dat (tD t), .dat (.int fault), .dat (.int cell), .dat (.lst ((splT 32 t).map tD)), .dat (.lst (someS.map D.str)), .un, .un] := by
    refine sSet_ok (d := .lst (someS.map D.str)) (xL_ok ?_) rfl
    rw [← sl]
    simp [small_line]
  have hr : ∀ fl : Bool, decide (fault = 4) = fl → r__law_parted [.dat (tD t), .dat (.int fault), .dat (.int cell), .un, .un, .un, .un] = .rt (tD (if fl then r1 else r2)) := fun fl hfl => by
    unfold r__law_parted
    generalize (someS.map D.str) = SS at s2 ip
    generalize (splT 32 t).map tD = P at s1 s2 ln part
    refine sSeq_nx s1 (sSeq_nx s2 ?_)
    refine sSeq_nx (sSet_ok (d := .int a) (by simp [ln, m1]) rfl) ?_
    refine sSeq_nx (sSet_ok (d := tD p) (by simp [d1, m2, ip]) rfl) ?_
    simp only [List.set]
    cases hx : addD (.lst ((cutL (splT 32 t) none (some (a : Int))).map tD)) (.lst [tD p]) with
    | none => rw [hx] at b1; cases b1
    | some X =>
      rw [hx] at b1 b2
      have b1' : addD X (.lst ((cutL (splT 32 t) (some (a : Int)) none).map tD)) = some (.lst ((cutL (splT 32 t) none (some (a : Int)) ++ [p] ++ cutL (splT 32 t) (some (a : Int)) none).map tD)) := b1
      have b2' : addD X (.lst ((cutL (splT 32 t) (some ((a : Int) + 1)) none).map tD)) = some (.lst ((cutL (splT 32 t) none (some (a : Int)) ++ [p] ++ cutL (splT 32 t) (some ((a : Int) + 1)) none).map tD)) := b2
      generalize (cutL (splT 32 t) none (some (a : Int)) ++ [p] ++ cutL (splT 32 t) (some (a : Int)) none).map tD = J1 at b1' c1
      generalize (cutL (splT 32 t) none (some (a : Int)) ++ [p] ++ cutL (splT 32 t) (some ((a : Int) + 1)) none).map tD = J2 at b2' c2
      have p1 := part none (some (a : Int))
      have p2 := part (some (a : Int)) none
      have p3 := part (some ((a : Int) + 1)) none
      generalize (cutL (splT 32 t) none (some (a : Int))).map tD = C1 at hx p1
      generalize (cutL (splT 32 t) (some (a : Int)) none).map tD = C2 at b1' p2
      generalize (cutL (splT 32 t) (some ((a : Int) + 1)) none).map tD = C3 at b2' p3
      cases fl with
      | true =>
        refine sSeq_rt ?_
        have : fault = 4 := of_decide_eq_true hfl
        simp [this, p1, p2, hx, b1', c1, blank_tD, small_line]
      | false =>
        have : ¬ fault = 4 := of_decide_eq_false hfl
        refine sSeq_nx (e1 := [.dat (tD t), .dat (.int fault), .dat (.int cell), .dat (.lst P), .dat (.lst SS), .dat (.int a), .dat (tD p)]) (by simp [this]) ?_
        simp [p1, p3, hx, b2', c2, blank_tD, small_line]
  cases fl : decide (fault = 4) with
  | true => exact ⟨r1, a1, by rw [hr true fl]; rfl⟩
  | false => exact ⟨r2, a2, by rw [hr false fl]; rfl⟩
end Wk

namespace Wk
open PySem PySem.Spec PyProof.Rows L2 TL DL
/-! ### the spoilt text -/
abbrev E13 (c0 : Cel) (f cell : Int) (c3 c4 c5 c6 c7 : Cel) : DEnv := [c0, .dat (.int f), .dat (.int cell), c3, c4, c5, c6, c7, .un, .un, .un, .un, .un]
theorem if_skip {j : Int} {a u : DStm} {c0 c3 c4 c5 c6 c7 : Cel} {f cell : Int} {r : DOut} (h : ¬ f = j) (hu : u (E13 c0 f cell c3 c4 c5 c6 c7) = r) :
    sSeq (sIf (tE (xOp eqD (xVar 1) (xC (.int j)))) a (sNext)) u (E13 c0 f cell c3 c4 c5 c6 c7) = r := sSeq_nx (by simp [E13, h]) hu
theorem if_take {j : Int} {a u : DStm} {c0 c3 c4 c5 c6 c7 : Cel} {f cell : Int} {d : D} (h : f = j) (ha : a (E13 c0 f cell c3 c4 c5 c6 c7) = .rt d) :
    sSeq (sIf (tE (xOp eqD (xVar 1) (xC (.int j)))) a (sNext)) u (E13 c0 f cell c3 c4 c5 c6 c7) = .rt d := sSeq_rt (by
  have : sIf (tE (xOp eqD (xVar 1) (xC (.int j)))) a (sNext) (E13 c0 f cell c3 c4 c5 c6 c7) = a (E13 c0 f cell c3 c4 c5 c6 c7) := by simp [E13, h]
  rw [this, ha])
theorem if_go {j : Int} {a u : DStm} {c0 c3 c4 c5 c6 c7 : Cel} {f cell : Int} {r : DOut} {e : DEnv} (h : f = j) (ha : a (E13 c0 f cell c3 c4 c5 c6 c7) = .nx e) (hu : u e = r) :
    sSeq (sIf (tE (xOp eqD (xVar 1) (xC (.int j)))) a (sNext)) u (E13 c0 f cell c3 c4 c5 c6 c7) = r := sSeq_nx (by
  have : sIf (tE (xOp eqD (xVar 1) (xC (.int j)))) a (sNext) (E13 c0 f cell c3 c4 c5 c6 c7) = a (E13 c0 f cell c3 c4 c5 c6 c7) := by simp [E13, h]
  rw [this, ha]) hu
theorem two_skip {i j : Int} {a u : DStm} {c0 c3 c4 c5 c6 c7 : Cel} {f cell : Int} {r : DOut} (h1 : ¬ f = i) (h2 : ¬ f = j) (hu : u (E13 c0 f cell c3 c4 c5 c6 c7) = r) :
    sSeq (sIf (tEither (tE (xOp eqD (xVar 1) (xC (.int i)))) (tE (xOp eqD (xVar 1) (xC (.int j))))) a (sNext)) u (E13 c0 f cell c3 c4 c5 c6 c7) = r := sSeq_nx (by simp [E13, h1, h2]) hu
theorem two_go {i j : Int} {a u : DStm} {c0 c3 c4 c5 c6 c7 : Cel} {f cell : Int} {r : DOut} {e : DEnv} (h : f = i ∨ f = j) (ha : a (E13 c0 f cell c3 c4 c5 c6 c7) = .nx e) (hu : u e = r) :
    sSeq (sIf (tEither (tE (xOp eqD (xVar 1) (xC (.int i)))) (tE (xOp eqD (xVar 1) (xC (.int j))))) a (sNext)) u (E13 c0 f cell c3 c4 c5 c6 c7) = r := sSeq_nx (by
  have : sIf (tEither (tE (xOp eqD (xVar 1) (xC (.int i)))) (tE (xOp eqD (xVar 1) (xC (.int j))))) a (sNext) (E13 c0 f cell c3 c4 c5 c6 c7) = a (E13 c0 f cell c3 c4 c5 c6 c7) := by
    by_cases h1 : f = i
    · simp [E13, h1]
    · have h2 : f = j := h.resolve_left h1
      simp [E13, h1, h2]
  rw [this, ha]) hu
/-- the last statement -/
theorem fin_ok {ls : List T} (h : ∀ l ∈ ls, Ax 8001 l) (hn : ls.length ≤ 5) (c0 c4 c5 c6 c7 : Cel) (f cell : Int) : ∃ l, Ax 50000 l ∧ sFrz 3 (sRet (xM1 joinD (xC (.str "\n")) (xVar 3))) (E13 c0 f cell (.own (ls.map tD)) c4 c5 c6 c7) = .rt (tD l) := by
  have j := join_of (s := 10) h hn (by decide) (by decide)
  refine ⟨joinL [10] ls, (Ax.join h hn (s := 10) (by decide)).1.mono (by decide), ?_⟩
  generalize ls.map tD = P at j
  simp [E13, line_tD, j]
def marksT : T := [97, 98, 99, 100, 101, 48, 49, 32, 45, 62, 95, 10, 9, 65]
theorem marks_tD : (D.str "abcde01 ->_\n\tA") = tD marksT := by
  unfold tD; congr 1
theorem mark_at {k : Nat} (h : k < 14) : ∃ c, c < 256 ∧ ixAD (D.str "abcde01 ->_\n\tA") (.int k) = some (tD [c]) := by
  have h' : k < marksT.length := h
  refine ⟨marksT[k], ?_, ?_⟩
  · have : ∀ c ∈ marksT, c < 256 := by decide
    exact this _ (List.getElem_mem h')
  · rw [marks_tD]
    show (if (sv marksT).length ≤ sizeLine then (atI (sv marksT).cps.toList k).map fun c => D.str ⟨#[c]⟩ else none) = _
    rw [if_pos (small_line (by decide)), sv_cps, atI_nat', List.getElem?_eq_getElem h']
    rfl
def otherS : List Str := ["", "-", "\n", "->0 -", "a"]
theorem other_ok : ∀ s ∈ otherS, (tl s).length ≤ 60 ∧ ∀ c ∈ tl s, c < 256 := by decide +kernel
theorem q10_tD : (D.str "abcdabcd>0") = tD [97, 98, 99, 100, 97, 98, 99, 100, 62, 48] := by
  unfold tD; congr 1
theorem q8_tD : (D.str "abcdabcd") = tD [97, 98, 99, 100, 97, 98, 99, 100] := by
  unfold tD; congr 1
theorem num5 {a b c d e : Nat} (h : a ≤ 7 ∧ b ≤ 7 ∧ c ≤ 7 ∧ d ≤ 7 ∧ e ≤ 7) {k : Nat} (hk : k < 5) : ∃ s : Nat, s ≤ 7 ∧ ixAD (.lst [.int (a : Int), .int (b : Int), .int (c : Int), .int (d : Int), .int (e : Int)]) (.int k) = some (.int s) := by
  match k, hk with
  | 0, _ => exact ⟨a, h.1, rfl⟩
  | 1, _ => exact ⟨b, h.2.1, rfl⟩
  | 2, _ => exact ⟨c, h.2.2.1, rfl⟩
  | 3, _ => exact ⟨d, h.2.2.2.1, rfl⟩
  | 4, _ => exact ⟨e, h.2.2.2.2, rfl⟩
theorem rep_comp {i j s : Nat} {x : D} {f : DEnv → M D} {env : DEnv} (hj : env[j]? = some (.dat (.int s))) (hi : env[i]? = some .un) (hs : s ≤ 1000) (hf : ∀ e, e = (fun (m : Nat) => (wipeE env [i]).set i (.dat (.int m))) → ∀ m, f (e m) = .ok x) :
    lComp [i] (iRng rng1D (aCons (xVar j) (aNil))) (gN i) (fun _ => .ok true) f env = .ok ((List.range s).map fun _ => x) := by
  refine lComp_ok (iRng_ok (ds := [.int (s : Int)]) (by simp [hj]) (rng1_nat hs)) (by simp; omega) (by simp [hi, Cel.isOwned]) ?_
  exact cLoop_map (fun (m : Nat) => D.int (m : Int)) (fun _ => x) (List.range s) fun m hm => ⟨_, rfl, hf _ rfl m⟩
end Wk

namespace Wk
open PySem PySem.Spec PyProof.Rows L2 TL DL
theorem noL1 {w : Wr} : noLsts [wrD w] = true := by
  have r : ∀ rs : List (List (T × Nat)), noLsts (rs.map rowD) = true := fun rs => by
    induction rs with
    | nil => rfl
    | cons x rs ih =>
      have q : ∀ r : List (T × Nat), noLsts (r.map pairD) = true := fun r => by
        induction r with
        | nil => rfl
        | cons x r ih => simp [noLsts, pairD, noLst, tD, ih]
      simp [noLsts, rowD, noLst, q, ih]
  have q : ∀ es : List T, noLsts (es.map tD) = true := fun es => by
    induction es with
    | nil => rfl
    | cons x r ih => simp [noLsts, noLst, tD, ih]
  simp [noLsts, wrD, noLst, rowsD, endsD, r, q, tD]
theorem own_strs (ls : List T) : ownC (.lst (ls.map tD)) = some (.own (ls.map tD)) := by
  have : (ls.map tD).all flatD = true := by
    rw [List.all_eq_true]
    intro x hx
    obtain ⟨l, _, rfl⟩ := List.mem_map.mp hx
    rfl
  show (if (ls.map tD).all flatD = true then some (Cel.own (ls.map tD)) else none) = _
  rw [if_pos this]
theorem erase_map {α β : Type} (f : α → β) : ∀ (xs : List α) (k : Nat), (xs.map f).eraseIdx k = (xs.eraseIdx k).map f
  | [], _ => rfl
  | _ :: _, 0 => rfl
  | x :: xs, k + 1 => by simp [erase_map f xs k]
theorem ixN_at {n k : Nat} (h : k < n) : ixN n (k : Int) = some k := by
  unfold ixN
  rw [if_pos (by omega), if_pos (by omega)]
  simp
theorem pop_at {xs : List D} {k : Nat} (h : k < xs.length) (hl : xs.length ≤ 1000) : popO xs (.int k) = some (xs.eraseIdx k) := by
  unfold popO
  simp only [ixN_at h, Option.map_some]
  exact if_pos ⟨by omega, by omega⟩
theorem ins_at {xs : List D} {k : Nat} {d : D} (h : k < xs.length) (hl : xs.length ≤ 1000) : insO xs [.int k, d] = some (xs.take k ++ [d] ++ xs.drop k) := by
  unfold insO
  simp only [Int.toNat_natCast]
  exact if_pos ⟨by omega, by omega, small_lt (by omega)⟩
theorem chg_ok {h : List D → D → Option (List D)} {i : Nat} {f : DEnv → M D} {env : DEnv} {xs ys : List D} {d : D} (h1 : celO env i = .ok xs) (h2 : f env = .ok d) (h3 : h xs d = some ys) : sChg h i f env = .nx (env.set i (.own ys)) := by
  simp only [sChg, h1, h2, M.to, h3, M.of]
theorem insO_ok {i : Nat} {ga : DEnv → M (List D)} {env : DEnv} {xs ys ds : List D} (h1 : celO env i = .ok xs) (h2 : ga env = .ok ds) (h3 : insO xs ds = some ys) : sInsO i ga env = .nx (env.set i (.own ys)) := by
  simp only [sInsO, h1, h2, M.to, h3, M.of]
theorem ex_nx {a b : DStm} {env e1 : DEnv} (h1 : a env = .nx e1) (h : ∃ l, Ax 50000 l ∧ b e1 = .rt (tD l)) : ∃ l, Ax 50000 l ∧ sSeq a b env = .rt (tD l) := by
  obtain ⟨l, h2, h3⟩ := h
  exact ⟨l, h2, sSeq_nx h1 h3⟩
theorem ex_skip {j : Int} {a u : DStm} {c0 c3 c4 c5 c6 c7 : Cel} {f cell : Int} (h : ¬ f = j) (hu : ∃ l, Ax 50000 l ∧ u (E13 c0 f cell c3 c4 c5 c6 c7) = .rt (tD l)) :
    ∃ l, Ax 50000 l ∧ sSeq (sIf (tE (xOp eqD (xVar 1) (xC (.int j)))) a (sNext)) u (E13 c0 f cell c3 c4 c5 c6 c7) = .rt (tD l) := by
  obtain ⟨l, h1, h2⟩ := hu
  exact ⟨l, h1, if_skip h h2⟩
theorem ex_two {i j : Int} {a u : DStm} {c0 c3 c4 c5 c6 c7 : Cel} {f cell : Int} (g : ¬ f = i) (h : ¬ f = j) (hu : ∃ l, Ax 50000 l ∧ u (E13 c0 f cell c3 c4 c5 c6 c7) = .rt (tD l)) :
    ∃ l, Ax 50000 l ∧ sSeq (sIf (tEither (tE (xOp eqD (xVar 1) (xC (.int i)))) (tE (xOp eqD (xVar 1) (xC (.int j))))) a (sNext)) u (E13 c0 f cell c3 c4 c5 c6 c7) = .rt (tD l) := by
  obtain ⟨l, h1, h2⟩ := hu
  exact ⟨l, h1, two_skip g h h2⟩
theorem Ax.app {a b c : Nat} {x y : T} (h1 : Ax a x) (h2 : Ax b y) (h : a + b ≤ c) : Ax c (x ++ y) := by
  refine ⟨by have := h1.1; have := h2.1; rw [List.length_append]; omega, fun z hz => ?_⟩
  rcases List.mem_append.mp hz with hz | hz
  · exact h1.2 z hz
  · exact h2.2 z hz
theorem line_ax {w : Wr} (o : w.Ok) {l : T} (h : l ∈ w.lns) : Ax 60 l := by
  obtain ⟨k, hk, rfl⟩ := List.mem_map.mp h
  obtain ⟨h1, h2⟩ := (note_join o).2.2 k (List.mem_range.mp hk)
  refine ⟨by omega, fun c hc => ?_⟩
  have := h2 c hc
  omega
theorem note_ax {w : Wr} (o : w.Ok) : Ax 1000 w.note := by
  refine ⟨(note_join o).2.1, fun c hc => ?_⟩
  rcases mem_joinL hc with hc | ⟨l, hl, hc⟩
  · rw [List.mem_singleton.mp hc]; decide
  · exact (line_ax o hl).2 c hc
def LOk (w : Wr) (fault : Int) (j : Int) (ls : List T) : Prop := (∀ l ∈ ls, Ax 8001 l) ∧ ls.length ≤ 5 ∧ (ls = w.lns ∨ fault ≤ j)
theorem spoilt_ok {w : Wr} (o : w.Ok) (h4 : w.rows.length ≤ 4) (fault cell : Int) : ∃ l, Ax 50000 l ∧ f__law_spoilt [wrD w, .int fault, .int cell] = .ok (tD l) := by
  have e : f__law_spoilt [wrD w, .int fault, .int cell] = fnRes (r__law_spoilt [.dat (wrD w), .dat (.int fault), .dat (.int cell), .un, .un, .un, .un, .un, .un, .un, .un, .un, .un]) := rfl
  rw [e]
  suffices main : ∃ l, Ax 50000 l ∧ r__law_spoilt [.dat (wrD w), .dat (.int fault), .dat (.int cell), .un, .un, .un, .un, .un, .un, .un, .un, .un, .un] = .rt (tD l) by
    obtain ⟨l, h1, h2⟩ := main
    exact ⟨l, h1, by rw [h2]; rfl⟩
  have r1 := o.r1
  have nax := note_ax o
  have lnl : w.lns.length = w.rows.length := by simp [Wr.lns]
  have lq := lines_eq o
  have oq := own_strs w.lns
  have nj : joinD (tD [10]) (.lst (w.lns.map tD)) = some (tD w.note) := (note_join o).1
  obtain ⟨place, hp, _⟩ := natMod cell (b := w.note.length + 1) (by omega)
  obtain ⟨j, hj, hjl⟩ := natMod (cell / 997) (b := 14) (by omega)
  obtain ⟨k, hk, hkl⟩ := natMod cell (b := w.lns.length) (by omega)
  obtain ⟨j5, hj5, hjl5⟩ := natMod cell (b := 5) (by omega)
  obtain ⟨m, hm, im⟩ := mark_at hjl
  have m1 : modD (.int cell) (.int ((w.note.length : Int) + 1)) = some (.int place) := by rw [modD_p (by omega)]; congr 2
  have m2 : modD (.int (cell / 997)) (.int 14) = some (.int j) := by rw [modD_p (by omega)]; congr 2
  have m3 : modD (.int cell) (.int (w.lns.length : Int)) = some (.int k) := by rw [modD_p (by omega)]; congr 2
  have m5 : modD (.int cell) (.int 5) = some (.int j5) := by rw [modD_p (by omega)]; congr 2
  have d1 := fdivD_p (a := cell) (b := 997) (by decide)
  have d37 := fdivD_p (a := cell) (b := 37) (by decide)
  have ln := len_tD (a := w.note) (by have := nax.1; omega)
  unfold r__law_spoilt
  obtain ⟨P, hP⟩ : ∃ P, P = w.lns.map tD := ⟨_, rfl⟩
  have lenP : (P.length : Int) = (w.lns.length : Int) := by rw [hP, List.length_map]
  rw [← hP] at lq oq nj
  refine ex_nx (e1 := [.dat (wrD w), .dat (.int fault), .dat (.int cell), .own P, .un, .un, .un, .un, .un, .un, .un, .un, .un]) (by
    simp only [sOwnCall, aCons, aNil, xVar, celD, List.getElem?_cons_zero, M.bind, M.to, List.length_cons, List.length_nil, noL1, lq, oq, M.of]
    rfl) ?_
  refine ex_nx (sSet_ok (d := tD w.note) (by
    simp only [xStill, still, List.map_cons, List.map_nil, stillC, xM1, xC, line_tD, M.bind, asS_tD, xVar, celD, List.getElem?_cons_succ, List.getElem?_cons_zero, nj, M.of]
    rfl) rfl) ?_
  refine ex_nx (sSet_ok (d := .int place) (by simp [ln, m1]) rfl) ?_
  refine ex_nx (sSet_ok (d := tD [m]) (by simp [d1, m2, im]) rfl) ?_
  refine ex_nx (sSet_ok (d := .int k) (by simp [lenP, m3]) rfl) ?_
  simp only [List.set]
  have cut : ∀ lo hi, slcD lo hi (tD w.note) = some (tD (cutL w.note lo hi)) := fun lo hi => cut_tD (by have := nax.1; omega) lo hi
  have cax : ∀ lo hi, Ax 1000 (cutL w.note lo hi) := fun lo hi => nax.cut lo hi
  have max1 : Ax 1 [m] := ⟨by simp, fun c hc => by rw [List.mem_singleton.mp hc]; exact hm⟩
  by_cases f1 : fault = 1
  · have x1 := (cax none (some (place : Int))).app max1 (c := 1001) (by omega)
    have x2 := x1.app (cax (some (place : Int)) none) (c := 50000) (by omega)
    refine ⟨_, x2, if_take f1 ?_⟩
    have a1 : addD (tD (cutL w.note none (some (place : Int)))) (tD [m]) = some (tD (cutL w.note none (some (place : Int)) ++ [m])) := add_tD (by have := x1.1; simp at this ⊢; omega)
    have a2 := add_tD (a := cutL w.note none (some (place : Int)) ++ [m]) (b := cutL w.note (some (place : Int)) none) (by have := x2.1; simp at this ⊢; omega)
    simp [E13, cut, a1, a2]
  refine ex_skip f1 ?_
  by_cases f2 : fault = 2
  · have x1 := (cax none (some (place : Int))).app max1 (c := 1001) (by omega)
    have x2 := x1.app (cax (some ((place : Int) + 1)) none) (c := 50000) (by omega)
    refine ⟨_, x2, if_take f2 ?_⟩
    have a1 : addD (tD (cutL w.note none (some (place : Int)))) (tD [m]) = some (tD (cutL w.note none (some (place : Int)) ++ [m])) := add_tD (by have := x1.1; simp at this ⊢; omega)
    have a2 := add_tD (a := cutL w.note none (some (place : Int)) ++ [m]) (b := cutL w.note (some ((place : Int) + 1)) none) (by have := x2.1; simp at this ⊢; omega)
    simp [E13, cut, a1, a2]
  refine ex_skip f2 ?_
  by_cases f3 : fault = 3
  · have x2 := (cax none (some (place : Int))).app (cax (some ((place : Int) + 1)) none) (c := 50000) (by omega)
    refine ⟨_, x2, if_take f3 ?_⟩
    have a2 := add_tD (a := cutL w.note none (some (place : Int))) (b := cutL w.note (some ((place : Int) + 1)) none) (by have := x2.1; simp at this ⊢; omega)
    simp [E13, cut, a2]
  refine ex_skip f3 ?_
  have lx : ∀ l ∈ w.lns, Ax 60 l := fun l hl => line_ax o hl
  have l0 : LOk w fault 3 w.lns := ⟨fun l hl => (lx l hl).mono (by decide), by omega, .inl rfl⟩
  obtain ⟨lk, hlk⟩ : ∃ lk, w.lns[k]? = some lk := ⟨_, List.getElem?_eq_getElem hkl⟩
  have lkax : Ax 60 lk := lx lk (List.mem_of_getElem? hlk)
  have ixk : ixD (w.lns.map tD) (.int k) = some (tD lk) := by
    show atI _ _ = _
    rw [atI_nat', List.getElem?_map, hlk]
    rfl
  have ixn : ixN (w.lns.map tD).length (k : Int) = some k := by
    unfold ixN
    rw [List.length_map, if_pos (by omega), if_pos (by omega)]
    simp
  have setk : ∀ q, setO (w.lns.map tD) (.int k) (tD q) = some ((w.lns.set k q).map tD) := fun q => by
    show (ixN _ _).map _ = _
    rw [ixn, List.map_set]
    rfl
  have setax : ∀ q, Ax 8001 q → ∀ j : Int, fault ≤ j → LOk w fault j (w.lns.set k q) := fun q hq j hj => by
    refine ⟨fun l hl => ?_, by rw [List.length_set]; omega, .inr hj⟩
    rcases List.mem_or_eq_of_mem_set hl with hl | rfl
    · exact (lx l hl).mono (by decide)
    · exact hq
  -- a part of a line
  by_cases f45 : fault = 4 ∨ fault = 5
  · obtain ⟨q, q1, q2⟩ := parted_ok lkax fault (cell / 37)
    have l1 := setax q (q1.mono (by decide)) 5 (by omega)
    have n6 : ¬ fault = 6 := by omega
    have n7 : ¬ fault = 7 := by omega
    have n8 : ¬ fault = 8 := by omega
    have n9 : ¬ fault = 9 := by omega
    have n10 : ¬ fault = 10 := by omega
    have n11 : ¬ fault = 11 := by omega
    obtain ⟨l, a1, a2⟩ := fin_ok l1.1 l1.2.1 (.dat (wrD w)) (.dat (tD w.note)) (.dat (.int place)) (.dat (tD [m])) (.dat (.int k)) fault cell
    refine ⟨l, a1, two_go (e := E13 (.dat (wrD w)) fault cell (.own ((w.lns.set k q).map tD)) (.dat (tD w.note)) (.dat (.int place)) (.dat (tD [m])) (.dat (.int k))) f45 ?_ (if_skip n6 (if_skip n7 (if_skip n8 (if_skip n9 (if_skip n10 (if_skip n11 a2))))))⟩
    have sk := setk q
    rw [hP]
    generalize w.lns.map tD = Q at ixk sk
    generalize (w.lns.set k q).map tD = Q2 at sk
    simp [E13, ixk, d37, q2, sk]
  have n4 : ¬ fault = 4 := fun z => f45 (.inl z)
  have n5 : ¬ fault = 5 := fun z => f45 (.inr z)
  refine ex_two n4 n5 ?_
  by_cases f6 : fault = 6
  · have n7 : ¬ fault = 7 := by omega
    have n8 : ¬ fault = 8 := by omega
    have n9 : ¬ fault = 9 := by omega
    have n10 : ¬ fault = 10 := by omega
    have n11 : ¬ fault = 11 := by omega
    have l1 : LOk w fault 6 (w.lns.eraseIdx k) := ⟨fun l hl => (lx l (List.mem_of_mem_eraseIdx hl)).mono (by decide), by rw [List.length_eraseIdx]; split <;> omega, .inr (by omega)⟩
    obtain ⟨l, a1, a2⟩ := fin_ok l1.1 l1.2.1 (.dat (wrD w)) (.dat (tD w.note)) (.dat (.int place)) (.dat (tD [m])) (.dat (.int k)) fault cell
    refine ⟨l, a1, if_go (e := E13 (.dat (wrD w)) fault cell (.own ((w.lns.eraseIdx k).map tD)) (.dat (tD w.note)) (.dat (.int place)) (.dat (tD [m])) (.dat (.int k))) f6 ?_ (if_skip n7 (if_skip n8 (if_skip n9 (if_skip n10 (if_skip n11 a2)))))⟩
    have sk : popO (w.lns.map tD) (.int k) = some ((w.lns.eraseIdx k).map tD) := by
      rw [pop_at (by rw [List.length_map]; omega) (by rw [List.length_map]; omega), erase_map]
    rw [hP]
    generalize w.lns.map tD = Q at sk
    generalize (w.lns.eraseIdx k).map tD = Q2 at sk
    exact chg_ok rfl rfl sk
  refine ex_skip f6 ?_
  have insk : ∀ q, insO (w.lns.map tD) [.int k, tD q] = some ((w.lns.take k ++ [q] ++ w.lns.drop k).map tD) := fun q => by
    rw [ins_at (by rw [List.length_map]; omega) (by rw [List.length_map]; omega)]
    simp [List.map_take, List.map_drop]
  have insax : ∀ q, Ax 8001 q → ∀ j : Int, fault ≤ j → LOk w fault j (w.lns.take k ++ [q] ++ w.lns.drop k) := fun q hq j hj => by
    refine ⟨fun l hl => ?_, by simp; omega, .inr hj⟩
    rcases List.mem_append.mp hl with hl | hl
    · rcases List.mem_append.mp hl with hl | hl
      · exact (lx l (List.mem_of_mem_take hl)).mono (by decide)
      · rw [List.mem_singleton.mp hl]; exact hq
    · exact (lx l (List.mem_of_mem_drop hl)).mono (by decide)
  by_cases f7 : fault = 7
  · have n8 : ¬ fault = 8 := by omega
    have n9 : ¬ fault = 9 := by omega
    have n10 : ¬ fault = 10 := by omega
    have n11 : ¬ fault = 11 := by omega
    have l1 := insax lk (lkax.mono (by decide)) 7 (by omega)
    obtain ⟨l, a1, a2⟩ := fin_ok l1.1 l1.2.1 (.dat (wrD w)) (.dat (tD w.note)) (.dat (.int place)) (.dat (tD [m])) (.dat (.int k)) fault cell
    refine ⟨l, a1, if_go (e := E13 (.dat (wrD w)) fault cell (.own ((w.lns.take k ++ [lk] ++ w.lns.drop k).map tD)) (.dat (tD w.note)) (.dat (.int place)) (.dat (tD [m])) (.dat (.int k))) f7 ?_ (if_skip n8 (if_skip n9 (if_skip n10 (if_skip n11 a2))))⟩
    have sk := insk lk
    rw [hP]
    generalize (w.lns.take k ++ [lk] ++ w.lns.drop k).map tD = Q2 at sk
    generalize w.lns.map tD = Q at sk ixk
    exact insO_ok rfl (by simp [E13, ixk]) sk
  refine ex_skip f7 ?_
  by_cases f8 : fault = 8
  · have n9 : ¬ fault = 9 := by omega
    have n10 : ¬ fault = 10 := by omega
    have n11 : ¬ fault = 11 := by omega
    have l1 := insax [] ⟨by simp, by simp⟩ 8 (by omega)
    obtain ⟨l, a1, a2⟩ := fin_ok l1.1 l1.2.1 (.dat (wrD w)) (.dat (tD w.note)) (.dat (.int place)) (.dat (tD [m])) (.dat (.int k)) fault cell
    refine ⟨l, a1, if_go (e := E13 (.dat (wrD w)) fault cell (.own ((w.lns.take k ++ [[]] ++ w.lns.drop k).map tD)) (.dat (tD w.note)) (.dat (.int place)) (.dat (tD [m])) (.dat (.int k))) f8 ?_ (if_skip n9 (if_skip n10 (if_skip n11 a2)))⟩
    have sk := insk []
    rw [hP]
    generalize (w.lns.take k ++ [[]] ++ w.lns.drop k).map tD = Q2 at sk
    generalize w.lns.map tD = Q at sk
    exact insO_ok rfl (by simp [E13, nil_tD]) sk
  refine ex_skip f8 ?_
  by_cases f9 : fault = 9
  · have n10 : ¬ fault = 10 := by omega
    have n11 : ¬ fault = 11 := by omega
    have q1 : Ax 8001 (lk ++ [32]) := lkax.app (b := 1) ⟨by simp, by simp⟩ (by omega)
    have l1 := setax (lk ++ [32]) q1 9 (by omega)
    obtain ⟨l, a1, a2⟩ := fin_ok l1.1 l1.2.1 (.dat (wrD w)) (.dat (tD w.note)) (.dat (.int place)) (.dat (tD [m])) (.dat (.int k)) fault cell
    refine ⟨l, a1, if_go (e := E13 (.dat (wrD w)) fault cell (.own ((w.lns.set k (lk ++ [32])).map tD)) (.dat (tD w.note)) (.dat (.int place)) (.dat (tD [m])) (.dat (.int k))) f9 ?_ (if_skip n10 (if_skip n11 a2))⟩
    have sk := setk (lk ++ [32])
    have ad : addD (tD lk) (tD [32]) = some (tD (lk ++ [32])) := add_tD (by have := lkax.1; simp; omega)
    rw [hP]
    generalize (w.lns.set k (lk ++ [32])).map tD = Q2 at sk
    generalize w.lns.map tD = Q at ixk sk
    simp [E13, ixk, ad, blank_tD, sk]
  refine ex_skip f9 ?_
  by_cases f10 : fault = 10
  · obtain ⟨p, ip, pp⟩ := str_at other_ok (k := j5) hjl5
    refine ⟨p, pp.mono (by decide), if_take f10 ?_⟩
    have sl : ([.str "", .str "-", .str "\n", .str "->0 -", .str "a"] : List D) = otherS.map D.str := rfl
    rw [← sl] at ip
    refine sRet_ok ?_
    have xl : xL (lLst (aCons (xC (.str "")) (aCons (xC (.str "-")) (aCons (xC (.str "\n")) (aCons (xC (.str "->0 -")) (aCons (xC (.str "a")) (aNil))))))) (E13 (.dat (wrD w)) fault cell (.own P) (.dat (tD w.note)) (.dat (.int place)) (.dat (tD [m])) (.dat (.int k))) = .ok (.lst [.str "", .str "-", .str "\n", .str "->0 -", .str "a"]) := xL_ok (by simp [small_line])
    generalize ([.str "", .str "-", .str "\n", .str "->0 -", .str "a"] : List D) = SS at ip xl
    simp only [xOp]
    rw [xl]
    simp [E13, m5, ip]
  refine ex_skip f10 ?_
  by_cases f11 : fault = 11
  · obtain ⟨s, s7, is⟩ := num5 (a := 1) (b := 4) (c := 5) (d := 1) (e := 1) (by decide) hjl5
    obtain ⟨r, r7, ir⟩ := num5 (a := 6) (b := 1) (c := 1) (d := 7) (e := 1) (by decide) hjl5
    simp only [Int.cast_ofNat_Int] at is ir
    have lineax : ∀ q ∈ ((List.range s).map fun _ => ([97, 98, 99, 100, 97, 98, 99, 100, 62, 48] : T)) ++ [[97, 98, 99, 100, 97, 98, 99, 100]], Ax 10 q := fun q hq => by
      rcases List.mem_append.mp hq with hq | hq
      · obtain ⟨_, _, rfl⟩ := List.mem_map.mp hq
        exact ⟨by decide, by decide⟩
      · rw [List.mem_singleton.mp hq]
        exact ⟨by decide, by decide⟩
    have jn := join_of (s := 32) (n := 8) lineax (by simp; omega) (by decide) (by decide)
    have jax := (Ax.join (s := 32) (n := 8) lineax (by simp; omega) (by decide)).1
    generalize joinL [32] (((List.range s).map fun _ => ([97, 98, 99, 100, 97, 98, 99, 100, 62, 48] : T)) ++ [[97, 98, 99, 100, 97, 98, 99, 100]]) = L at jn jax
    have allax : ∀ q ∈ (List.range r).map fun _ => L, Ax 8001 q := fun q hq => by
      obtain ⟨_, _, rfl⟩ := List.mem_map.mp hq
      exact jax.mono (by decide)
    have jn2 := join_of (s := 10) (n := 7) (b := 8001) allax (by simp; omega) (by decide) (by decide)
    have jax2 : Ax 50000 (joinL [10] ((List.range r).map fun _ => L)) := by
      have allax' : ∀ q ∈ (List.range r).map fun _ => L, Ax 88 q := fun q hq => by
        obtain ⟨_, _, rfl⟩ := List.mem_map.mp hq
        exact jax.mono (by decide)
      exact (Ax.join (s := 10) (n := 7) allax' (by simp; omega) (by decide)).1.mono (by decide)
    refine ⟨_, jax2, if_take f11 ?_⟩
    simp only [E13]
    refine sSeq_nx (sSet_ok (d := .int s) (by simp [small_line, m5, is]) rfl) ?_
    refine sSeq_nx (sSet_ok (d := .int r) (by simp [small_line, m5, ir]) rfl) ?_
    simp only [List.set]
    have c1 := rep_comp (i := 11) (j := 8) (s := s) (x := tD [97, 98, 99, 100, 97, 98, 99, 100, 62, 48]) (f := xC (.str "abcdabcd>0")) (env := [.dat (wrD w), .dat (.int fault), .dat (.int cell), .own P, .dat (tD w.note), .dat (.int place), .dat (tD [m]), .dat (.int k), .dat (.int s), .dat (.int r), .un, .un, .un]) rfl rfl (by omega) (fun _ _ m => by simp only [xC, q10_tD])
    have c2 := rep_comp (i := 12) (j := 9) (s := r) (x := tD L) (f := xVar 10) (env := [.dat (wrD w), .dat (.int fault), .dat (.int cell), .own P, .dat (tD w.note), .dat (.int place), .dat (tD [m]), .dat (.int k), .dat (.int s), .dat (.int r), .dat (tD L), .un, .un]) rfl rfl (by omega) (fun e he m => by rw [he]; simp [wipeE])
    have ad : addD (.lst ((List.range s).map fun _ => tD [97, 98, 99, 100, 97, 98, 99, 100, 62, 48])) (.lst [tD [97, 98, 99, 100, 97, 98, 99, 100]]) = some (.lst ((((List.range s).map fun _ => ([97, 98, 99, 100, 97, 98, 99, 100, 62, 48] : T)) ++ [[97, 98, 99, 100, 97, 98, 99, 100]]).map tD)) := by
      rw [addL (by simp; omega)]
      simp
    generalize ((((List.range s).map fun _ => ([97, 98, 99, 100, 97, 98, 99, 100, 62, 48] : T)) ++ [[97, 98, 99, 100, 97, 98, 99, 100]]).map tD) = Q1 at ad jn
    generalize ((List.range s).map fun _ => tD [97, 98, 99, 100, 97, 98, 99, 100, 62, 48]) = Q0 at ad c1
    refine sSeq_nx (sSet_ok (d := tD L) (by
      simp only [xM1, xC, blank_tD, M.bind, asS_tD, xOp]
      rw [xL_ok c1]
      simp [q8_tD, small_line, ad, jn]) rfl) ?_
    simp only [List.set]
    refine sRet_ok ?_
    have c2' := xL_ok c2
    have mm : ((List.range r).map fun _ => L).map tD = (List.range r).map fun _ => tD L := by rw [List.map_map]; rfl
    rw [mm] at jn2
    simp only [xM1, xC, line_tD, M.bind, asS_tD]
    rw [c2']
    simp [jn2]
  refine ex_skip f11 ?_
  rw [hP]
  exact fin_ok l0.1 l0.2.1 _ _ _ _ _ _ _
end Wk

namespace Wk
open PySem PySem.Spec PyProof.Rows L2 TL DL
/-! ### _law_told -/
theorem told_x {t : T} (a : Addr) : r__law_told_x a "NoNote" [.dat (tD t), .exc a, .un] = .rt (.tup [.int 1, .non]) := by
  have ad : ∀ xs ys : List D, xs.length + ys.length ≤ 10 → addD (.lst xs) (.lst ys) = some (.lst (xs ++ ys)) := fun xs ys h => if_pos (small_line (by omega))
  have s1 : subE "NoNote" "NoWriter" = false := by decide
  have s2 : subE "NoNote" "OtherSigns" = false := by decide
  have s3 : subE "NoNote" "NoRoom" = false := by decide
  have s4 : subE "NoNote" "NoSign" = false := by decide
  have s5 : subE "NoNote" "NoPiece" = false := by decide
  have s6 : subE "NoNote" "NoNote" = true := by decide
  have c1 : cntB (.lst [.bl true, .bl false, .bl false, .bl false, .bl false, .bl false]) (.bl true) = some (.int 1) := rfl
  have c2 : idxB (.lst [.bl true, .bl false, .bl false, .bl false, .bl false, .bl false]) (.bl true) = some (.int 0) := rfl
  simp [r__law_told_x, s1, s2, s3, s4, s5, s6, small_line, ad, c1, c2]
theorem told_ex {t : T} (hj : f_read [tD t] = .ex "NoNote") : f__law_told [tD t] = .ok (.tup [.int 1, .non]) := by
  have e : f__law_told [tD t] = fnRes (r__law_told [.dat (tD t), .un, .un]) := rfl
  rw [e]
  have hr : r__law_told [.dat (tD t), .un, .un] = .rt (.tup [.int 1, .non]) := by
    unfold r__law_told sTryAs
    have hb : (sRet (xTup (aCons (xC (.int 0)) (aCons (xCall 1 f_read (aCons (xVar 0) (aNil))) (aNil)))) : DStm) [.dat (tD t), .un, .un] = .ex "NoNote" [.dat (tD t), .un, .un] := by simp [hj]
    simp only [hb]
    have hm : ("NoNote" : Str) ∈ (["NoNote"] : List Str) := by simp
    rw [if_pos hm]
    exact suiteR_eq fun a => told_x a
  rw [hr]
  rfl
theorem told_ok {t : T} {d : D} (hj : f_read [tD t] = .ok d) : f__law_told [tD t] = .ok (.tup [.int 0, d]) := by
  have e : f__law_told [tD t] = fnRes (r__law_told [.dat (tD t), .un, .un]) := rfl
  rw [e]
  have hr : r__law_told [.dat (tD t), .un, .un] = .rt (.tup [.int 0, d]) := by
    unfold r__law_told sTryAs
    have hb : (sRet (xTup (aCons (xC (.int 0)) (aCons (xCall 1 f_read (aCons (xVar 0) (aNil))) (aNil)))) : DStm) [.dat (tD t), .un, .un] = .rt (.tup [.int 0, d]) := by simp [hj, small_line]
    simp only [hb]
  rw [hr]
  rfl
theorem eqOk_rwD {R : Rw} (z : R.Sz) : eqOk 60 (rwD R) = true := by
  have h1 : eqOk 59 (rowsZ R.rows) = true := eqOk_tup (n := 58) rowZ R.rows fun r hr => eqOk_rowZ (n := 56) (z.rows r hr)
  have h2 : eqOk 59 (endsD R.ends) = true := eqOk_tup (n := 58) tD R.ends fun l hl => eqOk_tD (z.ends l hl).2
  have h3 : eqOk 59 (.int R.signs) = true := eqOk_int _
  show eqOks 59 [.int R.signs, rowsZ R.rows, endsD R.ends] = true
  simp only [eqOks, h1, h2, h3, Bool.and_self]
theorem law_true (ns : List Int) (hn : ns.length ≤ 63) : f_law [.scr ns] = .ok (.bl true) := by
  have e : f_law [.scr ns] = fnRes (r_law [.dat (.scr ns), .un, .un, .un, .un]) := rfl
  rw [e]
  have c2 := cell_eq (cells0 ns) 2
  have c3 := cell_eq (cells0 ns) 3
  simp only [Int.cast_ofNat_Int] at c2 c3
  obtain ⟨w, o, _, _, h4, _, _, hw⟩ := writer_eq (cells0 ns) 0 (a := 3) (b := 4) (c := 8) (by omega) (by omega) (by omega)
  simp only [Int.natCast_zero, Int.cast_ofNat_Int] at hw
  have f13 := modD_p (a := cellAt ns 2) (b := 13) (by decide)
  have pw : powD (.int 10) (.int 9) = some (.int 1000000000) := by
    show (if (0 : Int) ≤ 9 ∧ (9 : Int) ≤ 1000000 ∧ (10 : Int).natAbs < 2 ^ 64 then some (D.int ((10 : Int) ^ (9 : Int).toNat)) else none) = _
    rw [if_pos (by decide)]
    rfl
  have mf := modD_p (a := cellAt ns 3) (b := 1000000000) (by decide)
  generalize cellAt ns 2 % 13 = fault at f13
  generalize cellAt ns 3 % 1000000000 = cell at mf
  obtain ⟨t, tax, sp⟩ := spoilt_ok o h4 fault cell
  have pl : Plain t := tax.plain (by decide)
  have rd := read_any pl
  have du := due_any pl
  have hr : r_law [.dat (.scr ns), .un, .un, .un, .un] = .rt (.bl true) := by
    unfold r_law
    refine sSeq_nx (sSet_ok (d := wrD w) (by rw [tup3]; simp [hw]) rfl) ?_
    refine sSeq_nx (sSet_ok (d := tD t) (by simp [c2, c3, f13, pw, mf, sp]) rfl) ?_
    refine sSeq_nx (sSet_ok (d := oD rwD (readO t)) (by simp [du]) rfl) ?_
    simp only [List.set]
    cases q : readO t with
    | none =>
      rw [q] at rd
      have tk := told_ex rd
      refine sSeq_nx (sSet_ok (d := .tup [.int 1, .non]) (by simp [tk]) rfl) ?_
      have nn : isND (oD rwD none) .non = some (.bl true) := rfl
      have i0 : ixAD (.tup [.int 1, .non]) (.int 0) = some (.int 1) := rfl
      refine sSeq_rt ?_
      simp [nn, i0]
    | some R =>
      rw [q] at rd
      have tk := told_ok rd
      obtain ⟨L, hL, hR, _⟩ := readO_inv q
      have z : R.Sz := by rw [hR]; exact rwOf_sz pl hL
      refine sSeq_nx (sSet_ok (d := .tup [.int 0, rwD R]) (by simp [tk]) rfl) ?_
      have nn : isND (oD rwD (some R)) .non = some (.bl false) := rfl
      have i0 : ixAD (.tup [.int 0, rwD R]) (.int 0) = some (.int 0) := rfl
      have i1 : ixAD (.tup [.int 0, rwD R]) (.int 1) = some (rwD R) := rfl
      have ti : isiD "tuple" (rwD R) = some (.bl true) := rfl
      have oe : oD rwD (some R) = rwD R := rfl
      have eq : eqD (rwD R) (rwD R) = some (.bl true) := by
        rw [eqD_eq (by rw [eqOk_rwD z]; simp)]
        simp
      rw [oe] at nn ⊢
      generalize rwD R = X at nn i0 i1 ti eq
      simp [nn, i0, i1, ti, eq]
  rw [hr]
  rfl
end Wk

open PySem PySem.W PyProof.Rows
set_option maxHeartbeats 0 in
theorem PySem.Challenge.cw_alikewritten_k12_read_or_refused_holds : PySem.Challenge.rw_alikewritten_k12_read_or_refused.Holds := by
  w_on; o_law; k_head; (case hw => w_witness2)
  k_fill
  refine L2.walk_of (l := PySem.Challenge.rw_alikewritten_k12_read_or_refused) (n := 63) (k := 5) (x := "script") (CX := fun w => L2.CX PySem.Challenge.rw_alikewritten_k12_read_or_refused.prog w) (sp := fun w => DL.spEnd _) rfl (by decide) rfl ⟨rfl, by decide, by decide⟩ (fun w h Y => PySem.W.kIn_of Y) ?F (fun _ _ a ns hl _ hS => ⟨a, ns, rfl, hS, hl, fun _ => rfl⟩) (fun _ _ _ _ _ h => DL.cx_no h)
  case F =>
    intro w mg fa h KX G hmg
    refine' Wk.all_mk KX G hmg Wk.law_true ?a0 ?l0 ?c0 ?k0 ?a1 ?l1 ?c1 ?k1 ?a2 ?l2 ?c2 ?k2 ?a3 ?l3 ?c3 ?k3 ?a4 ?l4 ?c4 ?k4 ?a5 ?l5 ?c5 ?k5 ?a6 ?l6 ?c6 ?k6 ?a7 ?l7 ?c7 ?k7 ?a8 ?l8 ?c8 ?k8 ?a9 ?l9 ?c9 ?k9 ?a10 ?l10 ?c10 ?k10 ?a11 ?l11 ?c11 ?k11 ?a12 ?l12 ?c12 ?k12 ?a13 ?l13 ?c13 ?k13 ?a14 ?l14 ?c14 ?k14 ?a15 ?l15 ?c15 ?k15 ?a16 ?l16 ?c16 ?k16 ?a17 ?l17 ?c17 ?k17 ?z_ValueError ?z_int ?z_isinstance ?z_len ?z_min ?z_range ?z_str ?z_tuple ?g_FIGURES ?g_LETTERS ?g_LONGEST ?g_SIGNS ?g_STATES ?ea_NoNote ?ex_NoNote ?ek_NoNote ?eb_NoNote ?et_NoNote ?ea_NoWriter ?ex_NoWriter ?ek_NoWriter ?eb_NoWriter ?et_NoWriter ?ea_NoPiece ?ea_NoRoom ?ea_NoSign ?ea_OtherSigns ?ea_WriteError ?xs_NoWriter ?x1_NoNote ?x2_NoNote ?x3_NoNote ?x4_NoNote ?x5_NoNote ?x6_NoNote ?x7_NoNote ?x8_NoNote ?x9_NoNote ?xw_NoNote ?xk_NoNote_NoSign ?xk_NoNote_NoRoom ?xk_NoNote_OtherSigns ?xk_NoNote_NoNote ?xk_NoNote_NoWriter ?xk_NoNote_NoPiece
    (case a0 => k_is); (case l0 => k_is); (case c0 => k_is); (case k0 => k_is); (case a1 => k_is); (case l1 => k_is); (case c1 => k_is); (case k1 => k_is); (case a2 => k_is); (case l2 => k_is); (case c2 => k_is); (case k2 => k_is); (case a3 => k_is); (case l3 => k_is); (case c3 => k_is); (case k3 => k_is); (case a4 => k_is); (case l4 => k_is); (case c4 => k_is); (case k4 => k_is); (case a5 => k_is); (case l5 => k_is); (case c5 => k_is); (case k5 => k_is); (case a6 => k_is); (case l6 => k_is); (case c6 => k_is); (case k6 => k_is); (case a7 => k_is); (case l7 => k_is); (case c7 => k_is); (case k7 => k_is); (case a8 => k_is); (case l8 => k_is); (case c8 => k_is); (case k8 => k_is); (case a9 => k_is); (case l9 => k_is); (case c9 => k_is); (case k9 => k_is); (case a10 => k_is); (case l10 => k_is); (case c10 => k_is); (case k10 => k_is); (case a11 => k_is); (case l11 => k_is); (case c11 => k_is); (case k11 => k_is); (case a12 => k_is); (case l12 => k_is); (case c12 => k_is); (case k12 => k_is); (case a13 => k_is); (case l13 => k_is); (case c13 => k_is); (case k13 => k_is); (case a14 => k_is); (case l14 => k_is); (case c14 => k_is); (case k14 => k_is); (case a15 => k_is); (case l15 => k_is); (case c15 => k_is); (case k15 => k_is); (case a16 => k_is); (case l16 => k_is); (case c16 => k_is); (case k16 => k_is); (case a17 => k_is); (case l17 => k_is); (case c17 => k_is); (case k17 => k_is); (case z_ValueError => k_is); (case z_int => k_is); (case z_isinstance => k_is); (case z_len => k_is); (case z_min => k_is); (case z_range => k_is); (case z_str => k_is); (case z_tuple => k_is); (case g_FIGURES => k_is); (case g_LETTERS => k_is); (case g_LONGEST => k_is); (case g_SIGNS => k_is); (case g_STATES => k_is); (case ea_NoNote => k_is); (case ex_NoNote => k_exc); (case ek_NoNote => k_is); (case eb_NoNote => k_is); (case et_NoNote => k_is); (case ea_NoWriter => k_is); (case ex_NoWriter => k_exc); (case ek_NoWriter => k_is); (case eb_NoWriter => k_is); (case et_NoWriter => k_is); (case ea_NoPiece => k_is); (case ea_NoRoom => k_is); (case ea_NoSign => k_is); (case ea_OtherSigns => k_is); (case ea_WriteError => k_is); (case xs_NoWriter => kts_exm); (case x1_NoNote => k_is); (case x2_NoNote => k_is); (case x3_NoNote => k_is); (case x4_NoNote => k_is); (case x5_NoNote => k_is); (case x6_NoNote => k_is); (case x7_NoNote => k_is); (case x8_NoNote => k_is); (case x9_NoNote => kit_is); (case xw_NoNote => kts_exm); (case xk_NoNote_NoSign => kit_is); (case xk_NoNote_NoRoom => kit_is); (case xk_NoNote_OtherSigns => kit_is); (case xk_NoNote_NoNote => kit_is); (case xk_NoNote_NoWriter => kit_is); (case xk_NoNote_NoPiece => kit_is)
