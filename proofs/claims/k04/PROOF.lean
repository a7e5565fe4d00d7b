import PyProof.Rows.All
import Wide.All
import OpenK.AllK
import Wide.FinOn
import PySem.Challenge.RW_alikewritten_k04_whole_plain_or_two_mess
import HandS.ForMost
import HandS.ForExc
import HandS.Conv
import HandS.CallSlots
import KE.KeyNested
import HandS.IsInst
import PyProof.DictMoreH
import KE.KDictKeyed
import KE.KDictDisplayH
import HandS.TupLen
import HandS.ExcIs
import HandS.SetFor
import HandS.StrMore
import HandS.More
import KE.RegKTryMore
import KE.SortData
import KE.DataMinMax
import KE.KDictCopyH
import KE.KDictList
import KE.DataCmp
import HandS.TryOnly
import HandS.TupMul
import HandS.TupAny
set_option Elab.async false
set_option linter.all false
set_option maxRecDepth 100000
/-! DL: a layer of DATA over the hand layer: what a def computes, told by a function of plain data (no heap in sight). -/
namespace DL
open PySem PySem.Spec PyProof.Rows L2

structure KW where
  k : PySem.W.Frag
  w : World
abbrev kw (X : Cx) : KW := ⟨X.K, X.w⟩
/-- data -/
inductive D where
  | non | bl (b : Bool) | int (i : Int) | str (s : Str) | lst (xs : List D) | tup (xs : List D) | scr (ns : List Int)

mutual
inductive Rep (K : KW) (G : Hp) : V → D → Prop
  | non : Rep K G .non .non
  | bl (b : Bool) : Rep K G (.bl b) (.bl b)
  | int (i : Int) : Rep K G (.int i) (.int i)
  | str (x : Str) : Rep K G (.str x) (.str x)
  | lst {a : Addr} {xs : List V} {ds : List D} : G a = some (.lst xs) → Reps K G xs ds → Rep K G (.ref a) (.lst ds)
  | tup {a : Addr} {xs : List V} {ds : List D} : G a = some (.tup xs) → Reps K G xs ds → Rep K G (.ref a) (.tup ds)
  | scr {a : Addr} {ns : List Int} : SqL K.k G a (ns.map V.int) → Rep K G (.ref a) (.scr ns)
inductive Reps (K : KW) (G : Hp) : List V → List D → Prop
  | nil : Reps K G [] []
  | cons {v : V} {vs : List V} {d : D} {ds : List D} : Rep K G v d → Reps K G vs ds → Reps K G (v :: vs) (d :: ds)
end
section
variable {K : KW} {G G' : Hp}
mutual
theorem Rep.mono (e : Same G G') : ∀ (d : D) (v : V), Rep K G v d → Rep K G' v d
  | .non, _, h => by cases h; exact .non
  | .bl _, _, h => by cases h; exact .bl _
  | .int _, _, h => by cases h; exact .int _
  | .str _, _, h => by cases h; exact .str _
  | .lst ds, _, h => by
    cases h with
    | lst h1 h2 => exact .lst (e _ _ h1) (Reps.mono e ds _ h2)
  | .tup ds, _, h => by
    cases h with
    | tup h1 h2 => exact .tup (e _ _ h1) (Reps.mono e ds _ h2)
  | .scr ns, _, h => by
    cases h with
    | scr h1 => exact .scr (e.seq h1)
theorem Reps.mono (e : Same G G') : ∀ (ds : List D) (vs : List V), Reps K G vs ds → Reps K G' vs ds
  | [], _, h => by cases h; exact .nil
  | d :: ds, _, h => by
    cases h with
    | cons h1 h2 => exact .cons (Rep.mono e d _ h1) (Reps.mono e ds _ h2)
end
theorem Rep.up {v : V} {d : D} (h : Rep K G v d) (e : Same G G') : Rep K G' v d := Rep.mono e d v h
theorem Reps.up {vs : List V} {ds : List D} (h : Reps K G vs ds) (e : Same G G') : Reps K G' vs ds := Reps.mono e ds vs h
theorem Reps.length : ∀ {vs : List V} {ds : List D}, Reps K G vs ds → vs.length = ds.length
  | [], [], _ => rfl
  | _ :: _, _ :: _, .cons _ h => congrArg (· + 1) (Reps.length h)
theorem Reps.get : ∀ {vs : List V} {ds : List D} {i : Nat} {d : D}, Reps K G vs ds → ds[i]? = some d → ∃ v, vs[i]? = some v ∧ Rep K G v d
  | [], [], _, _, _, e => by simp at e
  | _ :: _, _ :: _, 0, _, .cons h _, e => by
    simp at e
    subst e
    exact ⟨_, rfl, h⟩
  | _ :: _, _ :: _, i + 1, d, .cons _ h, e => by
    obtain ⟨v, h1, h2⟩ := Reps.get (i := i) (d := d) h (by simpa using e)
    exact ⟨v, by simpa using h1, h2⟩
theorem Reps.getV : ∀ {vs : List V} {ds : List D} {i : Nat} {v : V}, Reps K G vs ds → vs[i]? = some v → ∃ d, ds[i]? = some d ∧ Rep K G v d
  | [], [], _, _, _, e => by simp at e
  | _ :: _, _ :: _, 0, _, .cons h _, e => by
    simp at e
    subst e
    exact ⟨_, rfl, h⟩
  | _ :: _, _ :: _, i + 1, d, .cons _ h, e => by
    obtain ⟨v, h1, h2⟩ := Reps.getV (i := i) (v := d) h (by simpa using e)
    exact ⟨v, by simpa using h1, h2⟩
theorem Reps.append : ∀ {vs ws : List V} {ds es : List D}, Reps K G vs ds → Reps K G ws es → Reps K G (vs ++ ws) (ds ++ es)
  | [], _, [], _, _, h => h
  | _ :: _, _, _ :: _, _, .cons h1 h2, h => .cons h1 (Reps.append h2 h)
theorem Reps.take : ∀ {vs : List V} {ds : List D} (n : Nat), Reps K G vs ds → Reps K G (vs.take n) (ds.take n)
  | [], [], 0, _ => .nil
  | [], [], _ + 1, _ => .nil
  | _ :: _, _ :: _, 0, _ => .nil
  | _ :: _, _ :: _, n + 1, .cons h1 h2 => .cons h1 (Reps.take n h2)
theorem Reps.drop : ∀ {vs : List V} {ds : List D} (n : Nat), Reps K G vs ds → Reps K G (vs.drop n) (ds.drop n)
  | [], [], 0, h => h
  | [], [], _ + 1, _ => .nil
  | _ :: _, _ :: _, 0, h => h
  | _ :: _, _ :: _, n + 1, .cons _ h2 => Reps.drop n h2
theorem Reps.set {v : V} {d : D} (r : Rep K G v d) : ∀ {vs : List V} {ds : List D} (i : Nat), Reps K G vs ds → Reps K G (vs.set i v) (ds.set i d)
  | [], [], _, h => by simpa using h
  | _ :: _, _ :: _, 0, .cons _ h2 => .cons r h2
  | _ :: _, _ :: _, n + 1, .cons h1 h2 => .cons h1 (Reps.set r n h2)
theorem Reps.one {v : V} {d : D} (h : Rep K G v d) : Reps K G [v] [d] := .cons h .nil
theorem Reps.ints : ∀ ns : List Int, Reps K G (ns.map V.int) (ns.map D.int)
  | [] => .nil
  | _ :: r => .cons (.int _) (Reps.ints r)
theorem Reps.strs : ∀ ns : List Str, Reps K G (ns.map V.str) (ns.map D.str)
  | [] => .nil
  | _ :: r => .cons (.str _) (Reps.strs r)
theorem Reps.of_strs : ∀ {ns : List Str} {vs : List V}, Reps K G vs (ns.map D.str) → vs = ns.map V.str
  | [], [], _ => rfl
  | _ :: r, _ :: _, .cons h1 h2 => by
    cases h1
    rw [Reps.of_strs h2]
    rfl
theorem Reps.of_ints : ∀ {ns : List Int} {vs : List V}, Reps K G vs (ns.map D.int) → vs = ns.map V.int
  | [], [], _ => rfl
  | _ :: r, _ :: _, .cons h1 h2 => by
    cases h1
    rw [Reps.of_ints h2]
    rfl
end

/-! ### dicts -/
mutual
def keyD : D → Option NestedKey
  | .non => some .none
  | .int i => some (.num i)
  | .str s => some (.text s)
  | .tup xs => (keyDs xs).map .tup
  | _ => none
def keyDs : List D → Option (List NestedKey)
  | [] => some []
  | x :: xs => match keyD x, keyDs xs with
    | some k, some ks => some (k :: ks)
    | _, _ => none
end
/-- what may be a key of a dict: a whole number or a tuple -/
def keyOk : D → Option NestedKey
  | .int i => some (.num i)
  | .tup xs => (keyDs xs).bind fun ks => if NestedKey.depth (.tup ks) ≤ 8 then some (.tup ks) else none
  | _ => none
abbrev Ent := NestedKey × Value × Value
def entD (w : World) (x : Ent) : DictEntry := ⟨x.1.hash w, x.2.1, x.2.2⟩
/-- at p stands a dict with these entries -/
def RawD (w : World) (p : Addr) (xs : List Ent) (h : Heap) : Prop := xs.length ≤ sizeLine ∧ (p == sysModules) = false ∧ (xs.map (·.1)).Nodup ∧ ∃ o es ep, h.get? p = some o ∧ o.ExactDict ∧ o.data = .dict es ep ∧ es.toList = xs.map (entD w)
def DicO (w : World) (p : Addr) (xs : List Ent) : HO := .ext (RawD w p xs)
structure KRel (K : KW) (G : Hp) (x : Ent) (y : D × D) : Prop where
  key : keyOk y.1 = some x.1
  kv : ∃ v, RelV v x.2.1 ∧ Rep K G v y.1
  vv : ∃ v, RelV v x.2.2 ∧ Rep K G v y.2
theorem KRel.up {K : KW} {G G' : Hp} {x : Ent} {y : D × D} (h : KRel K G x y) (e : Same G G') : KRel K G' x y where
  key := h.key
  kv := let ⟨v, a, b⟩ := h.kv; ⟨v, a, b.up e⟩
  vv := let ⟨v, a, b⟩ := h.vv; ⟨v, a, b.up e⟩

/-! ### results -/
inductive M (α : Type) where
  | ok (a : α) | ex (c : Str) | no
namespace M
@[simp] def bind {α β : Type} : M α → (α → M β) → M β
  | .ok a, f => f a
  | .ex c, _ => .ex c
  | .no, _ => .no
@[simp] def of {α : Type} : Option α → M α
  | some a => .ok a
  | none => .no
end M

/-- what is known of a slot: nothing, data, an own list (nobody else holds it), an own dict with tuple keys -/
inductive Cel where
  | un | dat (d : D) | own (xs : List D) | dic (kvs : List (D × D)) | fdc (kvs : List (D × D)) | exc (a : Addr)
abbrev DEnv := List Cel
def Cel.owned : Cel → Prop
  | .own _ => True
  | .dic _ => True
  | _ => False

def CelAt (K : KW) (B G H : Hp) : Cel → Option V → Prop
  | .un, _ => True
  | .dat d, o => ∃ v, o = some v ∧ Rep K G v d
  | .own xs, o => ∃ p vs, o = some (.ref p) ∧ G p = none ∧ B p = none ∧ H p = some (.lst vs) ∧ Reps K G vs xs
  | .dic kvs, o => ∃ p xs, o = some (.ref p) ∧ G p = none ∧ B p = none ∧ H p = some (DicO K.w p xs) ∧ Paired (KRel K G) xs kvs
  | .exc a, o => o = some (.ref a)
  | .fdc kvs, o => ∃ p xs od, o = some (.ref p) ∧ G p = some (.frz od (DicO K.w p xs)) ∧ Paired (KRel K G) xs kvs

/-- the slots σ in the heap H hold env; B: the heap at the entry, G0: what was known to stand still there, G: what stands still now -/
structure Cn (K : KW) (B G0 G : Hp) (σ : L2.St) (H : Hp) (env : DEnv) : Prop where
  len : σ.length = env.length
  exB : Same B H
  exG : Same G H
  ex0 : Same G0 G
  new : ∀ a, G a ≠ none → G0 a ≠ none ∨ B a = none
  cel : ∀ (i : Nat) (s : Cel), env[i]? = some s → ∃ o, σ[i]? = some o ∧ CelAt K B G H s o
  sep : ∀ (i j : Nat) (s t : Cel) (p : Addr), i ≠ j → env[i]? = some s → env[j]? = some t → s.owned → t.owned → σ[i]? = some (some (.ref p)) → σ[j]? ≠ some (some (.ref p))

section
variable {K : KW} {B G0 G G' H H' : Hp} {σ : L2.St} {env : DEnv}
theorem CelAt.un (o : Option V) : CelAt K B G H .un o := True.intro
theorem same_upd {H : Hp} {p : Addr} {o : HO} (h : H p = none) : Same H (upd H p o) := fun b x e => by
  rw [upd_ne (ne_of_none e h)]
  exact e
theorem none_of_same {H H' : Hp} {p : Addr} (e : Same H H') (h : H' p = none) : H p = none := e.free h
/-- what happens within an expression -/
theorem Cn.grow (c : Cn K B G0 G σ H env) (eG : Same G G') (eH : Same H H') (gh : Same G' H') (nw : ∀ a, G' a ≠ none → G a ≠ none ∨ H a = none) : Cn K B G0 G' σ H' env where
  len := c.len
  exB := c.exB.trans eH
  exG := gh
  ex0 := c.ex0.trans eG
  new := fun a h => by
    rcases nw a h with z | z
    · exact c.new a z
    · exact .inr (c.exB.free z)
  cel := fun i s e => by
    obtain ⟨o, e1, h⟩ := c.cel i s e
    refine ⟨o, e1, ?_⟩
    have key : ∀ p u, G p = none → H p = some u → G' p = none := fun p u gp hp => by
      cases q : G' p with
      | none => rfl
      | some w =>
        rcases nw p (by rw [q]; intro z; cases z) with z | z
        · exact absurd gp z
        · rw [hp] at z; cases z
    cases s with
    | un => trivial
    | dat d => obtain ⟨v, e2, r⟩ := h; exact ⟨v, e2, r.up eG⟩
    | own xs => obtain ⟨p, vs, e2, gp, bp, hp, r⟩ := h; exact ⟨p, vs, e2, key p _ gp hp, bp, eH _ _ hp, r.up eG⟩
    | dic kvs => obtain ⟨p, vs, e2, gp, bp, hp, r⟩ := h; exact ⟨p, vs, e2, key p _ gp hp, bp, eH _ _ hp, L2.Paired.mapP r fun _ _ z => z.up eG⟩
    | exc a => exact h
    | fdc kvs => obtain ⟨p, vs, od, e2, gp, r⟩ := h; exact ⟨p, vs, od, e2, eG _ _ gp, L2.Paired.mapP r fun _ _ z => z.up eG⟩
  sep := c.sep
/-- a new object that stands still from now on -/
theorem Cn.laid (c : Cn K B G0 G σ H env) {p : Addr} {o : HO} (h : H p = none) : Cn K B G0 (upd G p o) σ (upd H p o) env := by
  have gp : G p = none := c.exG.free h
  refine c.grow (same_upd gp) (same_upd h) (fun a x e => ?_) (fun a e => ?_)
  · by_cases z : a = p
    · subst z; rw [upd_same] at e ⊢; exact e
    · rw [upd_ne z] at e ⊢; exact c.exG _ _ e
  · by_cases z : a = p
    · subst z; exact .inr h
    · rw [upd_ne z] at e; exact .inl e
/-- slots are forgotten -/
theorem Cn.weak {σ' : L2.St} {env' : DEnv} (c : Cn K B G0 G σ H env) (hl : σ'.length = env'.length) (w : ∀ (i : Nat) s, env'[i]? = some s → s = .un ∨ (env[i]? = some s ∧ σ'[i]? = σ[i]?)) : Cn K B G0 G σ' H env' where
  len := hl
  exB := c.exB
  exG := c.exG
  ex0 := c.ex0
  new := c.new
  cel := fun i s e => by
    have hi : i < σ'.length := by rw [hl]; exact (List.getElem?_eq_some_iff.mp e).1
    rcases w i s e with z | ⟨z, q⟩
    · subst z
      exact ⟨σ'[i], List.getElem?_eq_getElem hi, trivial⟩
    · obtain ⟨o, e1, h⟩ := c.cel i s z
      exact ⟨o, q.trans e1, h⟩
  sep := fun i j s t p ne e1 e2 o1 o2 q => by
    rcases w i s e1 with z | ⟨z, q1⟩
    · subst z; exact o1.elim
    · rcases w j t e2 with z' | ⟨z', q2⟩
      · subst z'; exact o2.elim
      · rw [q2]
        exact c.sep i j s t p ne z z' o1 o2 (q1 ▸ q)
/-- a slot is given data -/
theorem Cn.set (c : Cn K B G0 G σ H env) (i : Nat) {v : V} {d : D} (r : Rep K G v d) : Cn K B G0 G (σ.set i (some v)) H (env.set i (.dat d)) where
  len := by simp [c.len]
  exB := c.exB
  exG := c.exG
  ex0 := c.ex0
  new := c.new
  cel := fun j s e => by
    by_cases h : i = j
    · subst h
      have hi : i < env.length := by
        have := (List.getElem?_eq_some_iff.mp e).1
        simpa using this
      rw [List.getElem?_set_self hi] at e
      cases e
      refine ⟨some v, ?_, v, rfl, r⟩
      rw [List.getElem?_set_self (by rw [c.len]; exact hi)]
    · rw [List.getElem?_set_ne h] at e
      obtain ⟨o, e1, q⟩ := c.cel j s e
      exact ⟨o, by rw [List.getElem?_set_ne h]; exact e1, q⟩
  sep := fun j k s t p ne e1 e2 o1 o2 q => by
    have hj : i ≠ j := fun z => by
      subst z
      have hi : i < env.length := by
        have := (List.getElem?_eq_some_iff.mp e1).1
        simpa using this
      rw [List.getElem?_set_self hi] at e1
      cases e1
      exact o1
    have hk : i ≠ k := fun z => by
      subst z
      have hi : i < env.length := by
        have := (List.getElem?_eq_some_iff.mp e2).1
        simpa using this
      rw [List.getElem?_set_self hi] at e2
      cases e2
      exact o2
    rw [List.getElem?_set_ne hj] at e1 q
    rw [List.getElem?_set_ne hk] at e2 ⊢
    exact c.sep j k s t p ne e1 e2 o1 o2 q
end
end DL

namespace DL
open PySem PySem.Spec PyProof.Rows L2


/-! ### the combinators of the readings -/
@[simp] def celD (env : DEnv) (i : Nat) : M D := match env[i]? with
  | some (.dat d) => .ok d
  | _ => .no
@[simp] def asB : D → M Bool
  | .bl b => .ok b
  | _ => .no
@[simp] def xVar (i : Nat) (env : DEnv) : M D := celD env i
@[simp] def xC (d : D) (_ : DEnv) : M D := .ok d
@[simp] def xOp (h : D → D → Option D) (f g : DEnv → M D) (env : DEnv) : M D := (f env).bind fun a => (g env).bind fun b => .of (h a b)
@[simp] def xUn (h : D → Option D) (f : DEnv → M D) (env : DEnv) : M D := (f env).bind fun a => .of (h a)
@[simp] def aNil (_ : DEnv) : M (List D) := .ok []
@[simp] def aCons (f : DEnv → M D) (g : DEnv → M (List D)) (env : DEnv) : M (List D) := (f env).bind fun a => (g env).bind fun b => .ok (a :: b)
@[simp] def xCb (h : List D → Option D) (g : DEnv → M (List D)) (env : DEnv) : M D := (g env).bind fun a => .of (h a)
@[simp] def xTup (g : DEnv → M (List D)) (env : DEnv) : M D := (g env).bind fun a => if a.length ≤ sizeLine then .ok (.tup a) else .no
@[simp] def lLst (g : DEnv → M (List D)) (env : DEnv) : M (List D) := (g env).bind fun a => if a.length ≤ sizeLine then .ok a else .no
@[simp] def xL (g : DEnv → M (List D)) (env : DEnv) : M D := (g env).bind fun a => .ok (.lst a)
@[simp] def tE (f : DEnv → M D) (env : DEnv) : M Bool := (f env).bind asB
@[simp] def tNo (t : DEnv → M Bool) (env : DEnv) : M Bool := (t env).bind fun b => .ok (!b)
@[simp] def tBoth (t u : DEnv → M Bool) (env : DEnv) : M Bool := (t env).bind fun c => if c = true then u env else .ok false
@[simp] def tEither (t u : DEnv → M Bool) (env : DEnv) : M Bool := (t env).bind fun c => if c = true then .ok true else u env

/-! ### expressions -/
section
variable (K : KW) (mg : Str → Option Value) (W : WX) (B G0 G : Hp) (σ : L2.St) (env : DEnv)
def PoX (c : Str) : Prop := ∀ cls H' G', mg c = some cls → Cn K B G0 G' σ H' env → W cls none σ H'
def PoE (Q : VK) : M D → Prop
  | .ok d => ∀ v H' G', Same G G' → Cn K B G0 G' σ H' env → Rep K G' v d → Q v H'
  | .ex c => PoX K mg W B G0 σ env c
  | .no => False
def PoT (Q : Bool → Hp → Prop) : M Bool → Prop
  | .ok b => ∀ H' G', Same G G' → Cn K B G0 G' σ H' env → Q b H'
  | .ex c => PoX K mg W B G0 σ env c
  | .no => False
def PoA (Q : List V → Hp → Prop) : M (List D) → Prop
  | .ok ds => ∀ vs H' G', Same G G' → Cn K B G0 G' σ H' env → Reps K G' vs ds → Q vs H'
  | .ex c => PoX K mg W B G0 σ env c
  | .no => False
end
def RdE (K : KW) (mg : Str → Option Value) (W : WX) (te : TE) (f : DEnv → M D) : Prop :=
  ∀ B G0 G H σ env Q, Cn K B G0 G σ H env → PoE K mg W B G0 G σ env Q (f env) → te σ H Q
def RdT (K : KW) (mg : Str → Option Value) (W : WX) (tt : TT) (f : DEnv → M Bool) : Prop :=
  ∀ B G0 G H σ env Q, Cn K B G0 G σ H env → PoT K mg W B G0 G σ env Q (f env) → tt σ H Q
def RdA (K : KW) (mg : Str → Option Value) (W : WX) (ta : TA) (f : DEnv → M (List D)) : Prop :=
  ∀ B G0 G H σ env Q, Cn K B G0 G σ H env → PoA K mg W B G0 G σ env Q (f env) → ta σ H Q
/-- a two-place operation on data -/
def OpD (K : KW) (r : R2) (h : D → D → Option D) : Prop :=
  ∀ (B G0 G H : Hp) (σ : L2.St) (env : DEnv) (x y : V) (a b d : D) (Q : VK), Cn K B G0 G σ H env → Rep K G x a → Rep K G y b → h a b = some d →
    (∀ v H' G', Same G G' → Cn K B G0 G' σ H' env → Rep K G' v d → Q v H') → r x y H Q
/-- a call of a builtin on data -/
def CbD (K : KW) (r : List V → Hp → VK → Prop) (h : List D → Option D) : Prop :=
  ∀ (B G0 G H : Hp) (σ : L2.St) (env : DEnv) (vs : List V) (ds : List D) (d : D) (Q : VK), Cn K B G0 G σ H env → Reps K G vs ds → h ds = some d →
    (∀ v H' G', Same G G' → Cn K B G0 G' σ H' env → Rep K G' v d → Q v H') → r vs H Q
section
variable {K : KW} {mg : Str → Option Value} {W : WX} {ta tb te : TE} {f g : DEnv → M D}
theorem RdE.op {r : R2} {h : D → D → Option D} (ha : RdE K mg W ta f) (hb : RdE K mg W tb g) (hr : OpD K r h) :
    RdE K mg W (tOp r ta tb) (xOp h f g) := by
  intro B G0 G H σ env Q c p
  refine ha B G0 G H σ env _ c ?_
  cases e : f env with
  | no => simp [e, PoE] at p
  | ex n => simpa [e, PoE] using p
  | ok a =>
    intro v1 H1 G1 s1 c1 r1
    refine hb B G0 G1 H1 σ env _ c1 ?_
    cases e2 : g env with
    | no => simp [e, e2, PoE] at p
    | ex n => simpa [e, e2, PoE] using p
    | ok b =>
      intro v2 H2 G2 s2 c2 r2
      cases e3 : h a b with
      | none => simp [e, e2, e3, PoE] at p
      | some d =>
        simp only [xOp, xUn, aNil, aCons, xCb, xTup, lLst, xL, tE, tNo, tBoth, tEither, xVar, e, e2, e3, M.bind, M.of] at p
        exact hr _ _ _ _ _ _ _ _ _ _ _ _ c2 (r1.up s2) r2 e3 fun v H' G' s c' r' => p v H' G' ((s1.trans s2).trans s) c' r'
theorem RdE.un {r : V → Hp → VK → Prop} {h : D → Option D} (ha : RdE K mg W ta f)
    (hr : ∀ {B G0 G H : Hp} {σ : L2.St} {env : DEnv} {x : V} {a d : D} {Q : VK}, Cn K B G0 G σ H env → Rep K G x a → h a = some d → (∀ v H' G', Same G G' → Cn K B G0 G' σ H' env → Rep K G' v d → Q v H') → r x H Q) :
    RdE K mg W (tUn r ta) (xUn h f) := by
  intro B G0 G H σ env Q c p
  refine ha B G0 G H σ env _ c ?_
  cases e : f env with
  | no => simp [e, PoE] at p
  | ex n => simpa [e, PoE] using p
  | ok a =>
    intro v1 H1 G1 s1 c1 r1
    cases e3 : h a with
    | none => simp [e, e3, PoE] at p
    | some d =>
      simp only [xOp, xUn, aNil, aCons, xCb, xTup, lLst, xL, tE, tNo, tBoth, tEither, xVar, e, e3, M.bind, M.of] at p
      exact hr c1 r1 e3 fun v H' G' s c' r' => p v H' G' (s1.trans s) c' r'
theorem RdA.nil : RdA K mg W tNil aNil := by
  intro B G0 G H σ env Q c p
  exact p [] H G (Same.refl G) c .nil
theorem RdA.cons {tr : TA} {g : DEnv → M (List D)} (ha : RdE K mg W ta f) (hb : RdA K mg W tr g) :
    RdA K mg W (tCons ta tr) (aCons f g) := by
  intro B G0 G H σ env Q c p
  refine ha B G0 G H σ env _ c ?_
  cases e : f env with
  | no => simp [e, PoA] at p
  | ex n => simpa [e, PoA, PoE] using p
  | ok a =>
    intro v1 H1 G1 s1 c1 r1
    refine hb B G0 G1 H1 σ env _ c1 ?_
    cases e2 : g env with
    | no => simp [e, e2, PoA] at p
    | ex n => simpa [e, e2, PoA] using p
    | ok b =>
      intro v2 H2 G2 s2 c2 r2
      simp only [xOp, xUn, aNil, aCons, xCb, xTup, lLst, xL, tE, tNo, tBoth, tEither, xVar, e, e2, M.bind] at p
      exact p _ H2 G2 (s1.trans s2) c2 (.cons (r1.up s2) r2)
theorem RdE.cb {r : List V → Hp → VK → Prop} {h : List D → Option D} {tr : TA} {g : DEnv → M (List D)} (ha : RdA K mg W tr g) (hr : CbD K r h) :
    RdE K mg W (tCB r tr) (xCb h g) := by
  intro B G0 G H σ env Q c p
  refine ha B G0 G H σ env _ c ?_
  cases e : g env with
  | no => simp [e, PoE] at p
  | ex n => simpa [e, PoE, PoA] using p
  | ok a =>
    intro v1 H1 G1 s1 c1 r1
    cases e3 : h a with
    | none => simp [e, e3, PoE] at p
    | some d =>
      simp only [xOp, xUn, aNil, aCons, xCb, xTup, lLst, xL, tE, tNo, tBoth, tEither, xVar, e, e3, M.bind, M.of] at p
      exact hr _ _ _ _ _ _ _ _ _ _ c1 r1 e3 fun v H' G' s c' r' => p v H' G' (s1.trans s) c' r'
/-- a tuple's display -/
theorem RdE.tup {tr : TA} {g : DEnv → M (List D)} (ha : RdA K mg W tr g) :
    RdE K mg W (tTup tr) (xTup g) := by
  intro B G0 G H σ env Q c p
  refine ha B G0 G H σ env _ c ?_
  cases e : g env with
  | no => simp [e, PoE] at p
  | ex n => simpa [e, PoE, PoA] using p
  | ok a =>
    intro v1 H1 G1 s1 c1 r1
    simp only [xOp, xUn, aNil, aCons, xCb, xTup, lLst, xL, tE, tNo, tBoth, tEither, xVar, e, M.bind] at p
    by_cases hl : a.length ≤ sizeLine
    · rw [if_pos hl] at p
      refine ⟨by rw [r1.length]; exact hl, fun q hq => ?_⟩
      have gq := c1.exG.free hq
      exact p (.ref q) _ (upd G1 q (.tup v1)) (s1.trans (same_upd gq)) (c1.laid hq) (.tup upd_same (r1.up (same_upd gq)))
    · rw [if_neg hl] at p
      exact p.elim
end

/-! ### new lists -/
def PoL (K : KW) (mg : Str → Option Value) (W : WX) (B G0 G : Hp) (σ : L2.St) (env : DEnv) (Q : VK) : M (List D) → Prop
  | .ok ds => ∀ p vs H' G', Same G G' → Cn K B G0 G' σ H' env → H' p = none → Reps K G' vs ds → Q (.ref p) (upd H' p (.lst vs))
  | .ex c => PoX K mg W B G0 σ env c
  | .no => False
/-- an expression that gives a new list -/
def RdL (K : KW) (mg : Str → Option Value) (W : WX) (te : TE) (f : DEnv → M (List D)) : Prop :=
  ∀ B G0 G H σ env Q, Cn K B G0 G σ H env → PoL K mg W B G0 G σ env Q (f env) → te σ H Q
section
variable {K : KW} {mg : Str → Option Value} {W : WX} {ta tb te : TE} {f g : DEnv → M D}
theorem RdL.lst {tr : TA} {g : DEnv → M (List D)} (ha : RdA K mg W tr g) :
    RdL K mg W (tLst tr) (lLst g) := by
  intro B G0 G H σ env Q c p
  refine ha B G0 G H σ env _ c ?_
  cases e : g env with
  | no => simp [e, PoL] at p
  | ex n => simpa [e, PoL, PoA] using p
  | ok a =>
    intro v1 H1 G1 s1 c1 r1
    simp only [xOp, xUn, aNil, aCons, xCb, xTup, lLst, xL, tE, tNo, tBoth, tEither, xVar, e, M.bind] at p
    by_cases hl : a.length ≤ sizeLine
    · rw [if_pos hl] at p
      exact ⟨by rw [r1.length]; exact hl, fun q hq => p q v1 H1 G1 s1 c1 hq r1⟩
    · rw [if_neg hl] at p
      exact p.elim
/-- a new list as data -/
theorem RdL.dat {g : DEnv → M (List D)} (h : RdL K mg W te g) : RdE K mg W te (xL g) := by
  intro B G0 G H σ env Q c p
  refine h B G0 G H σ env _ c ?_
  cases e : g env with
  | no => simp [e, PoE] at p
  | ex n => simpa [e, PoE, PoL] using p
  | ok a =>
    intro q vs H1 G1 s1 c1 hq r1
    simp only [xOp, xUn, aNil, aCons, xCb, xTup, lLst, xL, tE, tNo, tBoth, tEither, xVar, e, M.bind] at p
    have gq := c1.exG.free hq
    exact p (.ref q) _ (upd G1 q (.lst vs)) (s1.trans (same_upd gq)) (c1.laid hq) (.lst upd_same (r1.up (same_upd gq)))
end

/-! ### the judgements -/
structure DE (X : Cx) (W : WX) (e : Expr) (f : DEnv → M D) : Prop where
  ex : ∃ te, PE X e te ∧ RdE (kw X) X.mg W te f
structure DT (X : Cx) (W : WX) (e : Expr) (f : DEnv → M Bool) : Prop where
  ex : ∃ te, PT X e te ∧ RdT (kw X) X.mg W te f
structure DW (X : Cx) (W : WX) (e : Expr) (f : DEnv → M Bool) : Prop where
  ex : ∃ te, PW X e te ∧ RdT (kw X) X.mg W te f
structure DA (X : Cx) (W : WX) (es : List Expr) (f : DEnv → M (List D)) : Prop where
  ex : ∃ ta, PA X es ta ∧ RdA (kw X) X.mg W ta f
structure DLs (X : Cx) (W : WX) (e : Expr) (f : DEnv → M (List D)) : Prop where
  ex : ∃ te, PE X e te ∧ RdL (kw X) X.mg W te f
structure OpX (X : Cx) (f : Value → Value → Sem Value) (h : D → D → Option D) : Prop where
  ex : ∃ r, OpR X f r ∧ OpD (kw X) r h
structure CbX (X : Cx) (f : Value) (h : List D → Option D) : Prop where
  ex : ∃ r, CallR X f r ∧ CbD (kw X) r h

section
variable {X : Cx} {W : WX} {a b e : Expr} {es : List Expr} {f g : DEnv → M D} {pos : Pos}
/-- a name of the def -/
theorem dv (i : Nat) {x : Str} {pos : Pos} (hN : X.N[i]? = some x := by rfl) (hv : Vis X.env.scope x := by first | exact Or.inl rfl | exact Or.inr (Or.inl rfl) | exact Or.inr (Or.inr rfl)) (hd : (x == ("__debug__" : Str)) = false := by decide)
    (hcd : (x == ("__classdict__" : Str)) = false := by decide) : DE X W (.Name x pos) (xVar i) := by
  refine ⟨_, pe_var hN hv hd hcd, ?_⟩
  intro B G0 G H σ env Q c p
  simp only [xOp, xUn, aNil, aCons, xCb, xTup, lLst, xL, tE, tNo, tBoth, tEither, xVar, celD] at p
  cases e : env[i]? with
  | none => simp [e, PoE] at p
  | some s =>
    cases s with
    | dat d =>
      rw [e] at p
      obtain ⟨o, e1, v, e2, r⟩ := c.cel i _ e
      subst e2
      exact ⟨v, e1, p v H G (Same.refl G) c r⟩
    | un => simp [e, PoE] at p
    | own _ => simp [e, PoE] at p
    | dic _ => simp [e, PoE] at p
    | fdc _ => simp [e, PoE] at p
    | exc _ => simp [e, PoE] at p
theorem DE.const {te : TE} {v : V} {d : D} (h : PE X e te) (ht : te = tC v) (r : ∀ G, Rep (kw X) G v d) : DE X W e (xC d) := by
  refine ⟨_, h, ?_⟩
  subst ht
  intro B G0 G H σ env Q c p
  exact p v H G (Same.refl G) c (r G)
theorem de_int {i : Int} {k : Nat} : DE X W (.Constant (.int i) k pos) (xC (.int i)) := .const pe_int rfl fun _ => .int i
theorem de_str {x : Str} {k : Nat} : DE X W (.Constant (.str x) k pos) (xC (.str x)) := .const pe_str rfl fun _ => .str x
theorem de_non {k : Nat} : DE X W (.Constant .none k pos) (xC .non) := .const pe_non rfl fun _ => .non
theorem de_bl {b : Bool} {k : Nat} : DE X W (.Constant (.bool b) k pos) (xC (.bl b)) := .const pe_bl rfl fun _ => .bl b
theorem de_globI {x : Str} {i : Int} {t : Tok} (hg : Gl X x) (hm : X.mg x = some (.int i t)) (hd : (x == ("__debug__" : Str)) = false := by decide) : DE X W (.Name x pos) (xC (.int i)) :=
  .const (pe_glob (v := .int i) hg hm ⟨t, rfl⟩ hd) rfl fun _ => .int i
theorem de_globS {x y : Str} {t : Tok} (hg : Gl X x) (hm : X.mg x = some (.str y t)) (hd : (x == ("__debug__" : Str)) = false := by decide) : DE X W (.Name x pos) (xC (.str y)) :=
  .const (pe_glob (v := .str y) hg hm ⟨t, rfl⟩ hd) rfl fun _ => .str y
theorem de_bin {op : Operator} {h : D → D → Option D} (ho : OpX X (binaryOp op) h) (ha : DE X W a f) (hb : DE X W b g) :
    DE X W (.BinOp a op b pos) (xOp h f g) := by
  obtain ⟨r, o1, o2⟩ := ho.ex
  obtain ⟨ta, a1, a2⟩ := ha.ex
  obtain ⟨tb, b1, b2⟩ := hb.ex
  exact ⟨_, pe_op o1 a1 b1, a2.op b2 o2⟩
theorem de_cmp {op : CmpOp} {h : D → D → Option D} (ho : OpX X (compareOp op) h) (ha : DE X W a f) (hb : DE X W b g) (hm : behindInMarks op b = false) :
    DE X W (.Compare a [op] [b] pos) (xOp h f g) := by
  obtain ⟨r, o1, o2⟩ := ho.ex
  obtain ⟨ta, a1, a2⟩ := ha.ex
  obtain ⟨tb, b1, b2⟩ := hb.ex
  exact ⟨_, pe_cmpR o1 a1 b1 hm, a2.op b2 o2⟩
theorem RdE.test {K : KW} {mg : Str → Option Value} {te : TE} (h : RdE K mg W te f) : RdT K mg W (tTest te) (tE f) := by
  intro B G0 G H σ env Q c p
  refine h B G0 G H σ env _ c ?_
  cases e : f env with
  | no => simp [e, PoT] at p
  | ex n => simpa [e, PoE, PoT] using p
  | ok d =>
    intro v H1 G1 s1 c1 r1
    simp only [xOp, xUn, aNil, aCons, xCb, xTup, lLst, xL, tE, tNo, tBoth, tEither, xVar, e, M.bind] at p
    cases d with
    | bl b =>
      cases r1
      exact ⟨b, rfl, p H1 G1 s1 c1⟩
    | non => exact p.elim
    | int _ => exact p.elim
    | str _ => exact p.elim
    | lst _ => exact p.elim
    | tup _ => exact p.elim
    | scr _ => exact p.elim
theorem dt_cmp {op : CmpOp} {h : D → D → Option D} (ho : OpX X (compareOp op) h) (ha : DE X W a f) (hb : DE X W b g) (hm : behindInMarks op b = false) :
    DT X W (.Compare a [op] [b] pos) (tE (xOp h f g)) := by
  obtain ⟨r, o1, o2⟩ := ho.ex
  obtain ⟨ta, a1, a2⟩ := ha.ex
  obtain ⟨tb, b1, b2⟩ := hb.ex
  exact ⟨_, pt_cmpR o1 a1 b1 hm, (a2.op b2 o2).test⟩
/-- any expression that gives True or False, as a test -/
theorem dt_val (ha : DE X W a f) (he : ∀ whole, isTrue a X.env whole = (do let v ← whole; standAt a.pos; holding [v] (truthy v)) := by intro _; rfl) : DT X W a (tE f) := by
  obtain ⟨ta, a1, a2⟩ := ha.ex
  exact ⟨_, pt_val a1 he, a2.test⟩
theorem dt_w {t : DEnv → M Bool} (h : DW X W e t) : DT X W e t := by
  obtain ⟨_, a1, a2⟩ := h.ex
  exact ⟨_, a1.pt, a2⟩
theorem dt_not {t : DEnv → M Bool} (h : DT X W a t) : DT X W (.UnaryOp .Not a pos) (tNo t) := by
  obtain ⟨_, a1, a2⟩ := h.ex
  refine ⟨_, pt_not a1, ?_⟩
  intro B G0 G H σ env Q c p
  refine a2 B G0 G H σ env _ c ?_
  cases e : t env with
  | no => simp [e, PoT] at p
  | ex n => simpa [e, PoT] using p
  | ok d =>
    simp only [xOp, xUn, aNil, aCons, xCb, xTup, lLst, xL, tE, tNo, tBoth, tEither, xVar, e, M.bind] at p
    exact p
theorem dw_and1 {t : DEnv → M Bool} (h : DT X W a t) : DW X W (.BoolOp .And [a] pos) t := by
  obtain ⟨_, a1, a2⟩ := h.ex
  exact ⟨_, pw_and1 a1, a2⟩
theorem dw_or1 {t : DEnv → M Bool} (h : DT X W a t) : DW X W (.BoolOp .Or [a] pos) t := by
  obtain ⟨_, a1, a2⟩ := h.ex
  exact ⟨_, pw_or1 a1, a2⟩
theorem dw_and {t u : DEnv → M Bool} {rest : List Expr} (h : DT X W a t) (hr : DW X W (.BoolOp .And (b :: rest) pos) u) : DW X W (.BoolOp .And (a :: b :: rest) pos) (tBoth t u) := by
  obtain ⟨_, a1, a2⟩ := h.ex
  obtain ⟨_, b1, b2⟩ := hr.ex
  refine ⟨_, pw_and a1 b1, ?_⟩
  intro B G0 G H σ env Q c p
  refine a2 B G0 G H σ env _ c ?_
  cases e : t env with
  | no => simp [e, PoT] at p
  | ex n => simpa [e, PoT] using p
  | ok d =>
    intro H1 G1 s1 c1
    simp only [xOp, xUn, aNil, aCons, xCb, xTup, lLst, xL, tE, tNo, tBoth, tEither, xVar, e, M.bind] at p
    cases d with
    | true =>
      refine iteT (b2 B G0 G1 H1 σ env _ c1 ?_)
      simp only [xOp, xUn, aNil, aCons, xCb, xTup, lLst, xL, tE, tNo, tBoth, tEither, xVar, if_true] at p
      cases e2 : u env with
      | no => simp [e2, PoT] at p
      | ex n => simpa [e2, PoT] using p
      | ok d =>
        rw [e2] at p
        exact fun H2 G2 s2 c2 => p H2 G2 (s1.trans s2) c2
    | false =>
      refine iteF ?_
      simp only [xOp, xUn, aNil, aCons, xCb, xTup, lLst, xL, tE, tNo, tBoth, tEither, xVar, Bool.false_eq_true, if_false] at p
      exact p H1 G1 s1 c1
theorem dw_or {t u : DEnv → M Bool} {rest : List Expr} (h : DT X W a t) (hr : DW X W (.BoolOp .Or (b :: rest) pos) u) : DW X W (.BoolOp .Or (a :: b :: rest) pos) (tEither t u) := by
  obtain ⟨_, a1, a2⟩ := h.ex
  obtain ⟨_, b1, b2⟩ := hr.ex
  refine ⟨_, pw_or a1 b1, ?_⟩
  intro B G0 G H σ env Q c p
  refine a2 B G0 G H σ env _ c ?_
  cases e : t env with
  | no => simp [e, PoT] at p
  | ex n => simpa [e, PoT] using p
  | ok d =>
    intro H1 G1 s1 c1
    simp only [xOp, xUn, aNil, aCons, xCb, xTup, lLst, xL, tE, tNo, tBoth, tEither, xVar, e, M.bind] at p
    cases d with
    | false =>
      refine iteF (b2 B G0 G1 H1 σ env _ c1 ?_)
      simp only [xOp, xUn, aNil, aCons, xCb, xTup, lLst, xL, tE, tNo, tBoth, tEither, xVar, Bool.false_eq_true, if_false] at p
      cases e2 : u env with
      | no => simp [e2, PoT] at p
      | ex n => simpa [e2, PoT] using p
      | ok d =>
        rw [e2] at p
        exact fun H2 G2 s2 c2 => p H2 G2 (s1.trans s2) c2
    | true =>
      refine iteT ?_
      simp only [xOp, xUn, aNil, aCons, xCb, xTup, lLst, xL, tE, tNo, tBoth, tEither, xVar, if_true] at p
      exact p H1 G1 s1 c1
theorem da_nil : DA X W [] aNil := ⟨_, pa_nil, RdA.nil⟩
theorem da_cons {g : DEnv → M (List D)} (ha : DE X W a f) (hb : DA X W es g) (hs : starEach (a :: es) X.env = (false, eval a X.env) :: starEach es X.env := by rfl) :
    DA X W (a :: es) (aCons f g) := by
  obtain ⟨_, a1, a2⟩ := ha.ex
  obtain ⟨_, b1, b2⟩ := hb.ex
  exact ⟨_, pa_cons a1 b1 hs, RdA.cons a2 b2⟩
theorem de_tup {g : DEnv → M (List D)} {x1} (ha : DA X W es g) : DE X W (.Tuple es x1 pos) (xTup g) := by
  obtain ⟨_, a1, a2⟩ := ha.ex
  exact ⟨_, pe_tup a1, RdE.tup a2⟩
theorem dl_lst {g : DEnv → M (List D)} (ha : DA X W es g) : DLs X W (.List es pos) (lLst g) := by
  obtain ⟨_, a1, a2⟩ := ha.ex
  exact ⟨_, pe_lst a1, RdL.lst a2⟩
theorem de_ofL {g : DEnv → M (List D)} (ha : DLs X W e g) : DE X W e (xL g) := by
  obtain ⟨_, a1, a2⟩ := ha.ex
  exact ⟨_, a1, RdL.dat a2⟩
theorem de_cb {id : String} {h : List D → Option D} {x : Str} {p : Pos} {g : DEnv → M (List D)} (hc : CbX X (.builtin id) h) (hg : Gl X x) (hm : X.mg x = none) (hv : bootBuiltins x = some (.builtin id)) (ha : DA X W (e :: es) g) (hn : x ≠ "__name__" := by decide) (hdb : (x == ("__debug__" : Str)) = false := by decide)
    (he : starEach (e :: es) X.env = (false, eval e X.env) :: starEach es X.env := by rfl) (hpl : (backTo pos (starEach es X.env)).any (·.1) = false := by rfl) :
    DE X W (.Call (.Name x p) (e :: es) [] pos) (xCb h g) := by
  obtain ⟨_, c1, c2⟩ := hc.ex
  obtain ⟨_, a1, a2⟩ := ha.ex
  exact ⟨_, pe_callB c1 hg hm hv a1 hn hdb he hpl, RdE.cb a2 c2⟩
theorem de_ct {T : String} {h : List D → Option D} {x : Str} {p : Pos} {g : DEnv → M (List D)} (hc : CbX X (.type T) h) (hg : Gl X x) (hm : X.mg x = none) (hv : bootBuiltins x = some (.type T)) (ha : DA X W (e :: es) g) (hn : x ≠ "__name__" := by decide) (hdb : (x == ("__debug__" : Str)) = false := by decide)
    (he : starEach (e :: es) X.env = (false, eval e X.env) :: starEach es X.env := by rfl) (hpl : (backTo pos (starEach es X.env)).any (·.1) = false := by rfl) :
    DE X W (.Call (.Name x p) (e :: es) [] pos) (xCb h g) := by
  obtain ⟨_, c1, c2⟩ := hc.ex
  obtain ⟨_, a1, a2⟩ := ha.ex
  exact ⟨_, pe_callTy c1 hg hm hv a1 hn hdb he hpl, RdE.cb a2 c2⟩
end
end DL

namespace DL
open PySem PySem.Spec PyProof.Rows L2

/-! ### statements -/
inductive DOut where
  | nx (env : DEnv) | rt (d : D) | bk (env : DEnv) | ct (env : DEnv) | ex (c : Str) (env : DEnv) | no
@[simp] def M.to {α : Type} (env : DEnv) (k : α → DOut) : M α → DOut
  | .ok a => k a
  | .ex c => .ex c env
  | .no => .no
@[simp] def DOut.then (u : DEnv → DOut) : DOut → DOut
  | .nx e => u e
  | .rt d => .rt d
  | .bk e => .bk e
  | .ct e => .ct e
  | .ex c e => .ex c e
  | .no => .no
abbrev DStm := DEnv → DOut
abbrev DTgt := D → DEnv → Option DEnv
@[simp] def sNext : DStm := fun env => .nx env
@[simp] def sSeq (a b : DStm) : DStm := fun env => (a env).then b
@[simp] def sIf (t : DEnv → M Bool) (a b : DStm) : DStm := fun env => (t env).to env fun c => if c = true then a env else b env
@[simp] def sRet (f : DEnv → M D) : DStm := fun env => (f env).to env fun d => .rt d
@[simp] def sRetN : DStm := fun _ => .rt .non
@[simp] def sExpr (f : DEnv → M D) : DStm := fun env => (f env).to env fun _ => .nx env
@[simp] def sCont : DStm := fun env => .ct env
@[simp] def sBreak : DStm := fun env => .bk env
@[simp] def sSet (i : Nat) (f : DEnv → M D) : DStm := fun env => (f env).to env fun d => .nx (env.set i (.dat d))
@[simp] def sOwn (i : Nat) (f : DEnv → M (List D)) : DStm := fun env => (f env).to env fun d => .nx (env.set i (.own d))
@[simp] def ofEnv : Option DEnv → DOut
  | some e => .nx e
  | none => .no
@[simp] def sAsg (tg : DTgt) (f : DEnv → M D) : DStm := fun env => (f env).to env fun d => ofEnv (tg d env)
@[simp] def gN (i : Nat) : DTgt := fun d env => some (env.set i (.dat d))
@[simp] def gsNil : List D → DEnv → Option DEnv
  | [], env => some env
  | _, _ => none
@[simp] def gsCons (t : DTgt) (u : List D → DEnv → Option DEnv) : List D → DEnv → Option DEnv
  | d :: ds, env => (t d env).bind (u ds)
  | [], _ => none
@[simp] def gT (u : List D → DEnv → Option DEnv) : DTgt := fun d env => match d with
  | .tup ds => u ds env
  | _ => none
def dLoop (tg : DTgt) (body : DStm) : List D → DEnv → DOut
  | [], env => .nx env
  | d :: ds, env => match tg d env with
    | none => .no
    | some e => match body e with
      | .nx e' => dLoop tg body ds e'
      | .ct e' => dLoop tg body ds e'
      | .bk e' => .nx e'
      | .rt d => .rt d
      | .ex c e => .ex c e
      | .no => .no
@[simp] def sFor (it : DEnv → M (List D)) (tg : DTgt) (body : DStm) : DStm := fun env => (it env).to env fun ds => dLoop tg body ds env
def dWhile (t : DEnv → M Bool) (body : DStm) : Nat → DEnv → DOut
  | 0, _ => .no
  | n + 1, env => match t env with
    | .no => .no
    | .ex c => .ex c env
    | .ok false => .nx env
    | .ok true => match body env with
      | .nx e' => dWhile t body n e'
      | .ct e' => dWhile t body n e'
      | .bk e' => .nx e'
      | .rt d => .rt d
      | .ex c e => .ex c e
      | .no => .no

def PoS (K : KW) (mg : Str → Option Value) (W : WX) (B G0 G : Hp) (E : Ends) : DOut → Prop
  | .nx e => ∀ σ H G', Same G G' → Cn K B G0 G' σ H e → E.nx σ H
  | .rt d => ∀ v σ H G' e, Same G G' → Cn K B G0 G' σ H e → Rep K G' v d → E.rt v H
  | .bk e => ∀ σ H G', Same G G' → Cn K B G0 G' σ H e → E.bk σ H
  | .ct e => ∀ σ H G', Same G G' → Cn K B G0 G' σ H e → E.ct σ H
  | .ex c e => ∀ cls σ H G', mg c = some cls → Cn K B G0 G' σ H e → W cls none σ H
  | .no => False
theorem PoS.up {K : KW} {mg : Str → Option Value} {W : WX} {B G0 G G1 : Hp} {E : Ends} {o : DOut} (s : Same G G1) (h : PoS K mg W B G0 G E o) : PoS K mg W B G0 G1 E o := by
  cases o with
  | nx e => exact fun σ H G' s' => h σ H G' (s.trans s')
  | rt d => exact fun v σ H G' e s' => h v σ H G' e (s.trans s')
  | bk e => exact fun σ H G' s' => h σ H G' (s.trans s')
  | ct e => exact fun σ H G' s' => h σ H G' (s.trans s')
  | ex c e => exact h
  | no => exact h
def RdS (K : KW) (mg : Str → Option Value) (W : WX) (ts : TS) (g : DStm) : Prop :=
  ∀ B G0 G H σ env E, Cn K B G0 G σ H env → PoS K mg W B G0 G E (g env) → ts E σ H
/-- σ' and e' are as σ and e but at the places is -/
def But (is : List Nat) (σ σ' : L2.St) (e e' : DEnv) : Prop := e'.length = e.length ∧ ∀ i, i ∉ is → e'[i]? = e[i]? ∧ σ'[i]? = σ[i]?
def RdG (K : KW) (is : List Nat) (g : TG) (h : DTgt) : Prop :=
  ∀ {B G0 G H : Hp} {σ : L2.St} {env e' : DEnv} {v : V} {d : D} {Q : L2.St → Hp → Prop}, Cn K B G0 G σ H env → Rep K G v d → h d env = some e' → (∀ σ' H' G', Same G G' → Cn K B G0 G' σ' H' e' → But is σ σ' env e' → Q σ' H') → g v σ H Q
def RdGs (K : KW) (is : List Nat) (g : TGs) (h : List D → DEnv → Option DEnv) : Prop :=
  ∀ {B G0 G H : Hp} {σ : L2.St} {env e' : DEnv} {vs : List V} {ds : List D} {Q : L2.St → Hp → Prop}, Cn K B G0 G σ H env → Reps K G vs ds → h ds env = some e' → (∀ σ' H' G', Same G G' → Cn K B G0 G' σ' H' e' → But is σ σ' env e' → Q σ' H') → g vs σ H Q
structure DS (X : Cx) (W : WX) (st : Stmt) (g : DStm) : Prop where
  ex : ∃ ts, PS X st ts ∧ RdS (kw X) X.mg W ts g
structure DSs (X : Cx) (W : WX) (st : List Stmt) (g : DStm) : Prop where
  ex : ∃ ts, PSs X st ts ∧ RdS (kw X) X.mg W ts g
structure DG (X : Cx) (is : List Nat) (tg : Expr) (h : DTgt) : Prop where
  ex : ∃ g, PG X tg g ∧ RdG (kw X) is g h
structure DGs (X : Cx) (is : List Nat) (tg : List Expr) (h : List D → DEnv → Option DEnv) : Prop where
  ex : ∃ g, PGs X tg g ∧ RdGs (kw X) is g h
section
variable {X : Cx} {W : WX} {st : Stmt} {rest : List Stmt} {a b : DStm} {e tg : Expr} {f : DEnv → M D} {pos : Pos}
theorem PoX.s {K : KW} {mg : Str → Option Value} {B G0 G : Hp} {σ : L2.St} {env : DEnv} {E : Ends} {c : Str} (p : PoS K mg W B G0 G E (.ex c env)) : PoX K mg W B G0 σ env c :=
  fun cls H' G' hm c' => p cls σ H' G' hm c'
theorem dss_nil : DSs X W [] sNext := ⟨_, pss_nil, fun B G0 G H σ env E c p => p σ H G (Same.refl G) c⟩
theorem dss_cons (h1 : DS X W st a) (h2 : DSs X W rest b) : DSs X W (st :: rest) (sSeq a b) := by
  obtain ⟨t, a1, a2⟩ := h1.ex
  obtain ⟨u, b1, b2⟩ := h2.ex
  refine ⟨_, pss_cons a1 b1, fun B G0 G H σ env E c p => ?_⟩
  refine a2 B G0 G H σ env _ c ?_
  simp only [sSeq] at p
  cases o : a env with
  | nx e =>
    rw [o] at p
    intro σ' H' G' s c'
    exact b2 B G0 G' H' σ' e E c' (p.up s)
  | rt d => rw [o] at p; exact p
  | bk e => rw [o] at p; exact p
  | ct e => rw [o] at p; exact p
  | ex n e => rw [o] at p; exact p
  | no => rw [o] at p; exact p
theorem dss_one (h1 : DS X W st a) : DSs X W [st] a := by
  obtain ⟨t, a1, a2⟩ := h1.ex
  refine ⟨_, pss_one a1, a2⟩
theorem ds_if {c : Expr} {t : DEnv → M Bool} {as bs : List Stmt} (hc : DT X W c t) (ha : DSs X W as a) (hb : DSs X W bs b) : DS X W (.If c as bs pos) (sIf t a b) := by
  obtain ⟨_, c1, c2⟩ := hc.ex
  obtain ⟨_, a1, a2⟩ := ha.ex
  obtain ⟨_, b1, b2⟩ := hb.ex
  refine ⟨_, ps_if c1 a1 b1, fun B G0 G H σ env E c p => ?_⟩
  refine c2 B G0 G H σ env _ c ?_
  simp only [sIf] at p
  cases o : t env with
  | no => rw [o] at p; exact p
  | ex n => rw [o] at p; exact PoX.s p
  | ok k =>
    rw [o] at p
    intro H1 G1 s1 c1
    cases k with
    | true => exact iteT (a2 B G0 G1 H1 σ env E c1 (PoS.up s1 p))
    | false => exact iteF (b2 B G0 G1 H1 σ env E c1 (PoS.up s1 p))
theorem ds_ret (h : DE X W e f) : DS X W (.Return (some e) pos) (sRet f) := by
  obtain ⟨_, a1, a2⟩ := h.ex
  refine ⟨_, ps_ret a1, fun B G0 G H σ env E c p => ?_⟩
  refine a2 B G0 G H σ env _ c ?_
  simp only [sRet] at p
  cases o : f env with
  | no => rw [o] at p; exact p
  | ex n => rw [o] at p; exact PoX.s p
  | ok d =>
    rw [o] at p
    exact fun v H1 G1 s1 c1 r1 => p v σ H1 G1 env s1 c1 r1
theorem ds_retN : DS X W (.Return none pos) sRetN := ⟨_, ps_retN, fun B G0 G H σ env E c p => p .non σ H G env (Same.refl G) c .non⟩
theorem ds_expr (h : DE X W e f) (hs : swapsWith e none pos.line X.env = pure false := by rfl) : DS X W (.Expr e pos) (sExpr f) := by
  obtain ⟨_, a1, a2⟩ := h.ex
  refine ⟨_, ps_expr a1 hs, fun B G0 G H σ env E c p => ?_⟩
  refine a2 B G0 G H σ env _ c ?_
  simp only [sExpr] at p
  cases o : f env with
  | no => rw [o] at p; exact p
  | ex n => rw [o] at p; exact PoX.s p
  | ok d =>
    rw [o] at p
    exact fun v H1 G1 s1 c1 r1 => p σ H1 G1 s1 c1
theorem ds_cont : DS X W (.Continue pos) sCont := ⟨_, ps_continue, fun B G0 G H σ env E c p => p σ H G (Same.refl G) c⟩
theorem ds_break : DS X W (.Break pos) sBreak := ⟨_, ps_break, fun B G0 G H σ env E c p => p σ H G (Same.refl G) c⟩
theorem ds_pass : DS X W (.Pass pos) sNext := ⟨_, ps_pass, fun B G0 G H σ env E c p => p σ H G (Same.refl G) c⟩
/-- x = e -/
theorem ds_set (i : Nat) {x : Str} {pos' : Pos} (hN : X.N.Nodup) (h : DE X W e f) (hi : X.N[i]? = some x := by rfl) (hx : Loc X.env.scope x := by first | exact .inl rfl | exact .inr rfl) (hs : swapsWith e (some (.Name x pos')) pos.line X.env = pure false := by rfl) (hf : X.fn x = true ∨ X.env.scope.names.lookup x = some .local := by first | exact .inl rfl | exact .inr rfl) :
    DS X W (.Assign [.Name x pos'] e pos) (sSet i f) := by
  obtain ⟨_, a1, a2⟩ := h.ex
  refine ⟨_, ps_set (i := i) hN hi hx a1 hs hf, fun B G0 G H σ env E c p => ?_⟩
  refine a2 B G0 G H σ env _ c ?_
  simp only [sSet] at p
  cases o : f env with
  | no => rw [o] at p; exact p
  | ex n => rw [o] at p; exact PoX.s p
  | ok d =>
    rw [o] at p
    exact fun v H1 G1 s1 c1 r1 => p _ H1 G1 s1 (c1.set i r1)
theorem dg_name (i : Nat) {x : Str} {pos : Pos} (hN : X.N.Nodup) (hi : X.N[i]? = some x := by rfl) (hx : Loc X.env.scope x := by first | exact .inl rfl | exact .inr rfl) (hf : X.fn x = true ∨ X.env.scope.names.lookup x = some .local := by first | exact .inl rfl | exact .inr rfl) : DG X [i] (.Name x pos) (gN i) := by
  refine ⟨_, pg_name (i := i) hN hi hx hf, ?_⟩
  intro B G0 G H σ env e' v d Q c r h q
  simp only [gN, Option.some.injEq] at h
  subst h
  exact q _ H G (Same.refl G) (c.set i r) ⟨by simp, fun j hj => by
    have ne : i ≠ j := fun z => hj (by simp [z])
    rw [List.getElem?_set_ne ne, List.getElem?_set_ne ne]
    exact ⟨rfl, rfl⟩⟩
theorem dgs_nil : DGs X [] [] gsNil := by
  refine ⟨_, pgs_nil, ?_⟩
  intro B G0 G H σ env e' vs ds Q c r h q
  cases r with
  | nil =>
    simp only [gsNil, Option.some.injEq] at h
    subst h
    exact ⟨rfl, q σ H G (Same.refl G) c ⟨rfl, fun _ _ => ⟨rfl, rfl⟩⟩⟩
  | cons _ _ => simp [gsNil] at h
theorem dgs_cons {t : DTgt} {u : List D → DEnv → Option DEnv} {ts : List Expr} {is js : List Nat} (h1 : DG X is tg t) (h2 : DGs X js ts u) (ha : (assignEach (tg :: ts) X.env).map (fun x => x.2) = assign tg X.env :: (assignEach ts X.env).map (fun x => x.2) := by rfl) : DGs X (is ++ js) (tg :: ts) (gsCons t u) := by
  obtain ⟨g, a1, a2⟩ := h1.ex
  obtain ⟨gs, b1, b2⟩ := h2.ex
  refine ⟨_, pgs_cons a1 b1 ha, ?_⟩
  intro B G0 G H σ env e' vs ds Q c r h q
  cases r with
  | nil => simp [gsCons] at h
  | @cons v vs d ds r1 r2 =>
    simp only [gsCons] at h
    cases k : t d env with
    | none => rw [k] at h; cases h
    | some e1 =>
      rw [k] at h
      exact ⟨v, vs, rfl, a2 c r1 k fun σ1 H1 G1 s1 c1 u1 => b2 c1 (r2.up s1) h fun σ2 H2 G2 s2 c2 u2 => q σ2 H2 G2 (s1.trans s2) c2 ⟨u2.1.trans u1.1, fun i hi => by
        have h1 : i ∉ is := fun z => hi (List.mem_append_left _ z)
        have h2 : i ∉ js := fun z => hi (List.mem_append_right _ z)
        exact ⟨(u2.2 i h2).1.trans (u1.2 i h1).1, (u2.2 i h2).2.trans (u1.2 i h1).2⟩⟩⟩
theorem gsNil_len : ∀ {ds : List D} {env e' : DEnv}, gsNil ds env = some e' → ds.length = 0
  | [], _, _, _ => rfl
theorem dg_tup {es : List Expr} {k : Nat} {u : List D → DEnv → Option DEnv} {n : Nat} {is : List Nat} (hc : X.calm = true) (h : DGs X is es u) (hl : ∀ ds env e', u ds env = some e' → ds.length = n)
    (hn : (assignEach es X.env).length = n := by rfl) (hst : (assignEach es X.env).findIdx? (·.1) = none := by rfl) : DG X is (.Tuple es k pos) (gT u) := by
  obtain ⟨gs, b1, b2⟩ := h.ex
  refine ⟨_, pg_tup hc b1 hn hst, ?_⟩
  intro B G0 G H σ env e' v d Q c r h q
  cases d with
  | tup ds =>
    simp only [gT] at h
    cases r with
    | tup g1 g2 => exact ⟨_, _, rfl, .inl (.inl (c.exG _ _ g1)), by rw [g2.length]; exact hl _ _ _ h, b2 c g2 h q⟩
  | non => simp [gT] at h
  | bl _ => simp [gT] at h
  | int _ => simp [gT] at h
  | str _ => simp [gT] at h
  | lst _ => simp [gT] at h
  | scr _ => simp [gT] at h
theorem ds_asg {t : DTgt} {is : List Nat} (ht : DG X is tg t) (h : DE X W e f) (hs : swapsWithSole [tg] e pos.line X.env = pure false := by rfl) (hw : swappedStores [tg] e X.env = pure none := by rfl)
    (h1 : (assignEach [tg] X.env).map (·.2) = [assign tg X.env] := by rfl) : DS X W (.Assign [tg] e pos) (sAsg t f) := by
  obtain ⟨_, a1, a2⟩ := h.ex
  obtain ⟨g, b1, b2⟩ := ht.ex
  refine ⟨_, ps_asg a1 b1 hs hw h1, fun B G0 G H σ env E c p => ?_⟩
  refine a2 B G0 G H σ env _ c ?_
  simp only [sAsg] at p
  cases o : f env with
  | no => rw [o] at p; exact p
  | ex n => rw [o] at p; exact PoX.s p
  | ok d =>
    rw [o] at p
    intro v H1 G1 s1 c1 r1
    cases k : t d env with
    | none => simp [k, PoS] at p
    | some e1 =>
      simp only [k, M.to, ofEnv] at p
      exact b2 c1 r1 k fun σ2 H2 G2 s2 c2 _ => p σ2 H2 G2 (s1.trans s2) c2
end

/-! ### what a loop walks -/
def JOk (K : KW) (J : It) (G1 : Hp) (ds : List D) : Prop :=
  ∀ (B G0 G : Hp) (σ : L2.St) (H : Hp) (env : DEnv) (i : Nat), Same G1 G → Cn K B G0 G σ H env →
    (∀ d, ds[i]? = some d → J.go i H ∧ ∀ x H', J.yld i H x H' → ∃ G', Same G G' ∧ Cn K B G0 G' σ H' env ∧ Rep K G' x d) ∧ (ds.length ≤ i → J.stop i H)
def PoI (K : KW) (mg : Str → Option Value) (W : WX) (B G0 G : Hp) (σ : L2.St) (env : DEnv) (R : It → Hp → Prop) : M (List D) → Prop
  | .ok ds => ∀ J H1 G1, Same G G1 → Cn K B G0 G1 σ H1 env → JOk K J G1 ds → R J H1
  | .ex c => PoX K mg W B G0 σ env c
  | .no => False
def RdI (K : KW) (mg : Str → Option Value) (W : WX) (wi : TI) (f : DEnv → M (List D)) : Prop :=
  ∀ B G0 G H σ env R, Cn K B G0 G σ H env → PoI K mg W B G0 G σ env R (f env) → wi σ H R
structure DI (X : Cx) (W : WX) (tg it : Expr) (f : DEnv → M (List D)) : Prop where
  ex : ∃ wi, PI X tg it wi ∧ RdI (kw X) X.mg W wi f
section
variable {X : Cx} {W : WX} {st : Stmt} {a b : DStm} {e tg iter : Expr} {f : DEnv → M D} {pos : Pos} {body : List Stmt}
theorem ds_for {it : DEnv → M (List D)} {t : DTgt} {is : List Nat} (hp : PassesOwn (model X.prog X.w) X.A X.env X.xe) (hc : X.calm = true) (hi : DI X W tg iter it) (hg : DG X is tg t) (hb : DSs X W body a)
    (hs : ∀ x, foldedSetIterable iter X.env x = pure x := by intro _; rfl) : DS X W (.For tg iter body [] pos) (sFor it t a) := by
  obtain ⟨wi, i1, i2⟩ := hi.ex
  obtain ⟨g, g1, g2⟩ := hg.ex
  obtain ⟨tb, b1, b2⟩ := hb.ex
  refine ⟨_, ps_for hp hc i1 g1 b1 hs, fun B G0 G H σ env E c p => ?_⟩
  refine i2 B G0 G H σ env _ c ?_
  simp only [sFor] at p
  cases o : it env with
  | no => rw [o] at p; exact p
  | ex n => rw [o] at p; exact PoX.s p
  | ok ds =>
    rw [o] at p
    intro J H1 G1 s1 c1 jok
    have p : PoS (kw X) X.mg W B G0 G1 E (dLoop t a ds env) := PoS.up s1 p
    refine ⟨fun i m σ H => m = ds.length - i ∧ ∃ env G, Same G1 G ∧ Cn (kw X) B G0 G σ H env ∧ PoS (kw X) X.mg W B G0 G E (dLoop t a (ds.drop i) env), ⟨ds.length, rfl, env, G1, Same.refl _, c1, by rw [List.drop_zero]; exact p⟩, ?_⟩
    rintro i m σ2 H2 ⟨rfl, env2, G2, s2, c2, p2⟩
    obtain ⟨j1, j2⟩ := jok B G0 G2 σ2 H2 env2 i s2 c2
    by_cases hi : i < ds.length
    · have hd : ds[i]? = some ds[i] := List.getElem?_eq_getElem hi
      obtain ⟨go, yl⟩ := j1 _ hd
      rw [List.drop_eq_getElem_cons hi] at p2
      unfold dLoop at p2
      refine .inr ⟨go, fun σ' H' => ∃ env G, Same G1 G ∧ Cn (kw X) B G0 G σ' H' env ∧ PoS (kw X) X.mg W B G0 G E (dLoop t a (ds.drop (i + 1)) env), fun σ' H' ⟨env', G', x1, x2, x3⟩ => ⟨ds.length - (i + 1), by omega, rfl, env', G', x1, x2, x3⟩, fun x H' y => ?_⟩
      obtain ⟨G3, s3, c3, r3⟩ := yl x H' y
      cases k : t ds[i] env2 with
      | none => simp [k, PoS] at p2
      | some e1 =>
        rw [k] at p2
        refine g2 c3 r3 k fun σ4 H4 G4 s4 c4 _ => ?_
        refine b2 B G0 G4 H4 σ4 e1 _ c4 ?_
        have p2 : PoS (kw X) X.mg W B G0 G4 E (match a e1 with
          | .nx e' => dLoop t a (ds.drop (i + 1)) e'
          | .ct e' => dLoop t a (ds.drop (i + 1)) e'
          | .bk e' => .nx e'
          | .rt d => .rt d
          | .ex c e => .ex c e
          | .no => .no) := PoS.up (s3.trans s4) p2
        cases q : a e1 with
        | nx e' =>
          rw [q] at p2
          exact fun σ5 H5 G5 s5 c5 => ⟨e', G5, ((s2.trans s3).trans s4).trans s5, c5, PoS.up s5 p2⟩
        | ct e' =>
          rw [q] at p2
          exact fun σ5 H5 G5 s5 c5 => ⟨e', G5, ((s2.trans s3).trans s4).trans s5, c5, PoS.up s5 p2⟩
        | bk e' => rw [q] at p2; exact p2
        | rt d => rw [q] at p2; exact p2
        | ex n e => rw [q] at p2; exact p2
        | no => rw [q] at p2; exact p2
    · refine .inl ⟨j2 (by omega), ?_⟩
      rw [List.drop_of_length_le (by omega)] at p2
      exact p2 σ2 H2 G2 (Same.refl _) c2
theorem ds_while (n : Nat) {c : Expr} {t : DEnv → M Bool} (hp : PassesOwn (model X.prog X.w) X.A X.env X.xe) (hc : DT X W c t) (hb : DSs X W body a) : DS X W (.While c body [] pos) (dWhile t a n) := by
  obtain ⟨tc, c1, c2⟩ := hc.ex
  obtain ⟨tb, b1, b2⟩ := hb.ex
  refine ⟨_, ps_while hp c1 b1, fun B G0 G H σ env E c p => ?_⟩
  refine ⟨fun m σ H => ∃ env G, Cn (kw X) B G0 G σ H env ∧ PoS (kw X) X.mg W B G0 G E (dWhile t a m env), ⟨n, env, G, c, p⟩, ?_⟩
  rintro m σ1 H1 ⟨env1, G1, c1, p1⟩
  cases m with
  | zero => exact (show False from p1).elim
  | succ m =>
    unfold dWhile at p1
    refine c2 B G0 G1 H1 σ1 env1 _ c1 ?_
    cases o : t env1 with
    | no => rw [o] at p1; exact p1
    | ex k => rw [o] at p1; exact PoX.s p1
    | ok k =>
      rw [o] at p1
      intro H2 G2 s2 c2
      cases k with
      | false => exact iteF (p1 σ1 H2 G2 s2 c2)
      | true =>
        refine iteT ⟨fun σ' H' => ∃ env G, Cn (kw X) B G0 G σ' H' env ∧ PoS (kw X) X.mg W B G0 G E (dWhile t a m env), fun σ' H' x => ⟨m, Nat.lt_succ_self m, x⟩, ?_⟩
        refine b2 B G0 G2 H2 σ1 env1 _ c2 ?_
        have p2 : PoS (kw X) X.mg W B G0 G2 E (match a env1 with
          | .nx e' => dWhile t a m e'
          | .ct e' => dWhile t a m e'
          | .bk e' => .nx e'
          | .rt d => .rt d
          | .ex c e => .ex c e
          | .no => .no) := PoS.up s2 p1
        cases q : a env1 with
        | nx e' => rw [q] at p2; exact fun σ5 H5 G5 s5 c5 => ⟨e', G5, c5, PoS.up s5 p2⟩
        | ct e' => rw [q] at p2; exact fun σ5 H5 G5 s5 c5 => ⟨e', G5, c5, PoS.up s5 p2⟩
        | bk e' => rw [q] at p2; exact p2
        | rt d => rw [q] at p2; exact p2
        | ex n e => rw [q] at p2; exact p2
        | no => rw [q] at p2; exact p2
end
end DL

namespace DL
open PySem PySem.Spec PyProof.Rows L2

/-! ### defs -/
def PoF (mg : Str → Option Value) (K : KW) (G H : Hp) (Q : VK) (E : XK) : M D → Prop
  | .ok d => ∀ v H' G', Same G G' → Same G' H' → Same H H' → (∀ a, G' a ≠ none → G a ≠ none ∨ H a = none) → Rep K G' v d → Q v H'
  | .ex c => ∀ cls H', mg c = some cls → Same H H' → E cls none H'
  | .no => False
/-- a def's promise by a function of data: n arguments -/
def spD (K : KW) (mg : Str → Option Value) (n : Nat) (g : List D → M D) : Sp := fun vs H Q E => vs.length = n ∧ ∃ G ds, Same G H ∧ Reps K G vs ds ∧ PoF mg K G H Q E (g ds)
@[simp] def fnRes : DOut → M D
  | .nx _ => .ok .non
  | .rt d => .ok d
  | .ex c _ => .ex c
  | _ => .no
@[simp] def ini (n : Nat) (ds : List D) : DEnv := ds.map .dat ++ List.replicate (n - ds.length) .un
@[simp] def fnD (n : Nat) (g : DStm) (ds : List D) : M D := fnRes (g (ini n ds))
theorem cn_start {K : KW} {G H : Hp} {N : List Str} {vs : List V} {ds : List D} (e : Same G H) (r : Reps K G vs ds) : Cn K H G G (start N vs) H (ini N.length ds) where
  len := by
    simp only [L2.start, ini, List.length_append, List.length_map, List.length_replicate, r.length]
  exB := Same.refl H
  exG := e
  ex0 := Same.refl G
  new := fun a h => .inl h
  cel := fun i s hs => by
    simp only [ini] at hs
    by_cases h : i < ds.length
    · rw [List.getElem?_append_left (by simpa using h), List.getElem?_map, List.getElem?_eq_getElem h] at hs
      simp only [Option.map_some, Option.some.injEq] at hs
      subst hs
      obtain ⟨v, e1, r1⟩ := r.get (List.getElem?_eq_getElem h)
      refine ⟨some v, ?_, v, rfl, r1⟩
      unfold L2.start
      rw [List.getElem?_append_left (by rw [List.length_map, r.length]; exact h), List.getElem?_map, e1]
      rfl
    · rw [List.getElem?_append_right (by simpa using h), List.getElem?_replicate] at hs
      split at hs
      · rename_i h2
        simp only [Option.some.injEq] at hs
        subst hs
        refine ⟨none, ?_, trivial⟩
        unfold L2.start
        have hl := r.length
        rw [List.getElem?_append_right (by rw [List.length_map]; omega), List.getElem?_replicate, List.length_map, if_pos (by simp at h2; omega)]
      · cases hs
  sep := fun i j s t p ne e1 e2 o1 o2 q => by
    simp only [ini] at e1
    by_cases h : i < ds.length
    · rw [List.getElem?_append_left (by simpa using h), List.getElem?_map, List.getElem?_eq_getElem h] at e1
      simp only [Option.map_some, Option.some.injEq] at e1
      subst e1
      exact o1.elim
    · rw [List.getElem?_append_right (by simpa using h), List.getElem?_replicate] at e1
      split at e1
      · simp only [Option.some.injEq] at e1
        subst e1
        exact o1.elim
      · cases e1
section
variable (P : Program) (w : World) (K : PySem.W.Frag) (mg : Str → Option Value) (base : Heap)
/-- the def that the module's name x holds does what g tells -/
structure DFn (k : Nat) (x : Str) (n : Nat) (g : List D → M D) : Prop where
  ex : ∃ f fd ps, FnOk P w K mg base (L2.CX P w) k f fd ps (spD ⟨K, w⟩ mg n g) ∧ mg x = some (.ref f) ∧ PySem.W.keepIn K (.ref f) = true ∧ Binds K fd ps []
end
section
variable {P : Program} {w : World} {K : PySem.W.Frag} {mg : Str → Option Value} {base : Heap}
abbrev wOf (E : XK) : WX := fun cls d _ H => E cls d H
theorem fun_okD {x qual : Str} {st : Stmt} {f : Addr} {fd : FuncData} {N ps : List Str} {k n : Nat} {g : DStm} (F : Fun K x qual st f fd) (S : FnScope N ps (defScope st)) (hn : ps.length = n)
    (hbody : ∀ (cdv : Value) (A : Around) (outer : List Env) (s : Shared) (H : Hp) (E : XK), Room k (A.deeper (envOfC qual (defScope st) s.heap.objs.size f cdv)) →
      Takes (cxOf (L2.CX P w) P w K mg base N qual (defScope st) f cdv A outer s H E) (wOf E) →
      PassesOwn (model P w) (cxOf (L2.CX P w) P w K mg base N qual (defScope st) f cdv A outer s H E).A (cxOf (L2.CX P w) P w K mg base N qual (defScope st) f cdv A outer s H E).env (cxOf (L2.CX P w) P w K mg base N qual (defScope st) f cdv A outer s H E).xe →
      DSs (cxOf (L2.CX P w) P w K mg base N qual (defScope st) f cdv A outer s H E) (wOf E) (defBody st) g) :
    FnOk P w K mg base (L2.CX P w) (k + 1) f fd ps (spD ⟨K, w⟩ mg n (fnD N.length g)) := by
  refine F.okX S (fun vs H Q E h => h.1.trans hn.symm) (fun cdv A outer s H vs Q E hr h => ?_)
  obtain ⟨hl, G, ds, sG, r, p⟩ := h
  obtain ⟨ts, h1, h2⟩ := (hbody cdv A outer s H E hr (takes_of rfl rfl rfl rfl) (passes_of rfl)).ex
  refine ⟨ts, h1, h2 H G G H _ _ _ (cn_start sG r) ?_⟩
  simp only [fnD] at p
  cases o : g (ini N.length ds) with
  | nx e =>
    rw [o] at p
    intro σ' H' G' s' c'
    exact p .non H' G' s' c'.exG c'.exB (fun a h => c'.new a h) .non
  | rt d =>
    rw [o] at p
    intro v σ' H' G' e' s' c' r'
    exact p v H' G' s' c'.exG c'.exB (fun a h => c'.new a h) r'
  | ex c e =>
    rw [o] at p
    intro cls σ' H' G' hm c'
    exact p cls H' hm c'.exB
  | bk e => rw [o] at p; exact p.elim
  | ct e => rw [o] at p; exact p.elim
  | no => rw [o] at p; exact p.elim
theorem DFn.mk' {x qual : Str} {st : Stmt} {f : Addr} {fd : FuncData} {N ps : List Str} {k n : Nat} {g : DStm} (F : Fun K x qual st f fd) (S : FnScope N ps (defScope st)) (hn : ps.length = n) (hx : mg x = some (.ref f))
    (hb : ∀ (kV doc pm : Value) (an : Option Addr) (cdv ct : Value) (us : List Value), us.length = ps.length → bindArgs (PySem.W.fnOf x qual (defArgs st) (defBody st) (defScope st) .none kV doc pm an cdv ct) ⟨us, []⟩ = pure (ps.zip us))
    (hbody : ∀ (cdv : Value) (A : Around) (outer : List Env) (s : Shared) (H : Hp) (E : XK), Room k (A.deeper (envOfC qual (defScope st) s.heap.objs.size f cdv)) →
      Takes (cxOf (L2.CX P w) P w K mg base N qual (defScope st) f cdv A outer s H E) (wOf E) →
      PassesOwn (model P w) (cxOf (L2.CX P w) P w K mg base N qual (defScope st) f cdv A outer s H E).A (cxOf (L2.CX P w) P w K mg base N qual (defScope st) f cdv A outer s H E).env (cxOf (L2.CX P w) P w K mg base N qual (defScope st) f cdv A outer s H E).xe →
      DSs (cxOf (L2.CX P w) P w K mg base N qual (defScope st) f cdv A outer s H E) (wOf E) (defBody st) g) :
    DFn P w K mg base (k + 1) x n (fnD N.length g) :=
  ⟨f, fd, ps, fun_okD F S hn hbody, hx, F.kp, F.binds hb⟩
theorem DFn.eq {k n : Nat} {x : Str} {g g' : List D → M D} (h : DFn P w K mg base k x n g) (e : ∀ ds, g ds = g' ds) : DFn P w K mg base k x n g' := by
  have : g = g' := funext e
  subst this
  exact h
end
@[simp] def xCall (n : Nat) (g : List D → M D) (ga : DEnv → M (List D)) (env : DEnv) : M D := (ga env).bind fun ds => if ds.length = n then g ds else .no
section
variable {X : Cx} {W : WX} {e : Expr} {es : List Expr} {pos p : Pos}
theorem de_call {k j n : Nat} {x : Str} {g : List D → M D} {ga : DEnv → M (List D)} (F : DFn X.prog X.w X.K X.mg X.base k x n g) (hr : Room j X.A) (hj : k ≤ j) (tk : Takes X W) (ha : DA X W (e :: es) ga)
    (hg : Gl X x := by rfl) (hdb : (x == ("__debug__" : Str)) = false := by decide) (he : starEach (e :: es) X.env = (false, eval e X.env) :: starEach es X.env := by rfl) (hpl : (backTo pos (starEach es X.env)).any (·.1) = false := by rfl) :
    DE X W (.Call (.Name x p) (e :: es) [] pos) (xCall n g ga) := by
  obtain ⟨f, fd, ps, F1, F2, F3, F4⟩ := F.ex
  obtain ⟨_, a1, a2⟩ := ha.ex
  refine ⟨_, pe_callS F1 (hr.mono hj) hg F2 F3 F4 (fun σ => passAt tk σ) a1 hdb he hpl, ?_⟩
  intro B G0 G H σ env Q c po
  refine a2 B G0 G H σ env _ c ?_
  simp only [xCall] at po
  cases o : ga env with
  | no => rw [o] at po; exact po
  | ex m => rw [o] at po; exact po
  | ok ds =>
    intro vs H1 G1 s1 c1 r1
    simp only [o, M.bind] at po
    by_cases hl : ds.length = n
    · rw [if_pos hl] at po
      refine ⟨r1.length.trans hl, G1, ds, c1.exG, r1, ?_⟩
      cases q : g ds with
      | ok d =>
        rw [q] at po
        intro v H' G' s2 gh hh nw r
        exact po v H' G' (s1.trans s2) (c1.grow s2 hh gh nw) r
      | ex m =>
        rw [q] at po
        intro cls H' hm hh
        exact po cls H' G1 hm (c1.grow (Same.refl _) hh (c1.exG.trans hh) fun a z => .inl z)
      | no => rw [q] at po; exact po
    · rw [if_neg hl] at po
      exact po.elim
end

/-! ### sources of loops -/
def itemsD : D → M (List D)
  | .lst ds => .ok ds
  | .tup ds => .ok ds
  | .scr ns => .ok (ns.map D.int)
  | .str s => .ok (s.cps.toList.map fun c => D.str ⟨#[c]⟩)
  | _ => .no
@[simp] theorem items_lst (ds : List D) : itemsD (.lst ds) = .ok ds := rfl
@[simp] theorem items_tup (ds : List D) : itemsD (.tup ds) = .ok ds := rfl
@[simp] theorem items_scr (ns : List Int) : itemsD (.scr ns) = .ok (ns.map D.int) := rfl
@[simp] def iAny (f : DEnv → M D) (env : DEnv) : M (List D) := (f env).bind itemsD
theorem inB_ex : ∃ f : Int → Bool, ∀ j, f j = true ↔ (-(2 ^ 62) ≤ j ∧ j < 2 ^ 62) := ⟨fun j => decide (-(2 ^ 62) ≤ j ∧ j < 2 ^ 62), fun j => by simp⟩
/-- a bound that nothing unfolds -/
noncomputable def inB : Int → Bool := Classical.choose inB_ex
theorem inB_iff (j : Int) : inB j = true ↔ (-(2 ^ 62) ≤ j ∧ j < 2 ^ 62) := Classical.choose_spec inB_ex j
theorem inB_small {j : Int} (h0 : -1000000 ≤ j) (h : j ≤ 1000000) : inB j = true := (inB_iff j).mpr ⟨by omega, by omega⟩
noncomputable def rng1D : List D → Option (List D)
  | [.int j] => if inB j = true then some ((List.range j.toNat).map fun (m : Nat) => D.int (m : Int)) else none
  | _ => none
noncomputable def rng2D : List D → Option (List D)
  | [.int i, .int j] => if inB i = true ∧ inB j = true then some ((List.range (j - i).toNat).map fun (m : Nat) => D.int (i + (m : Int))) else none
  | _ => none
theorem rng1D_inv {ds its : List D} (h : rng1D ds = some its) : ∃ j, ds = [.int j] ∧ -(2 ^ 62) ≤ j ∧ j < 2 ^ 62 ∧ its = (List.range j.toNat).map fun (m : Nat) => D.int (m : Int) := by
  unfold rng1D at h
  split at h
  · split at h
    · rename_i h1
      obtain ⟨h1, h2⟩ := (inB_iff _).mp h1
      exact ⟨_, rfl, h1, h2, (Option.some.inj h).symm⟩
    · cases h
  · cases h
theorem rng2D_inv {ds its : List D} (h : rng2D ds = some its) : ∃ i j, ds = [.int i, .int j] ∧ (-(2 ^ 62) ≤ i ∧ i < 2 ^ 62 ∧ -(2 ^ 62) ≤ j ∧ j < 2 ^ 62) ∧ its = (List.range (j - i).toNat).map fun (m : Nat) => D.int (i + (m : Int)) := by
  unfold rng2D at h
  split at h
  · split at h
    · rename_i h1
      obtain ⟨h2, h3⟩ := (inB_iff _).mp h1.1
      obtain ⟨h4, h5⟩ := (inB_iff _).mp h1.2
      exact ⟨_, _, rfl, ⟨h2, h3, h4, h5⟩, (Option.some.inj h).symm⟩
    · cases h
  · cases h
@[simp] def iRng (r : List D → Option (List D)) (g : DEnv → M (List D)) (env : DEnv) : M (List D) := (g env).bind fun ds => .of (r ds)
section
variable {K : KW} {G1 : Hp}
theorem jok_list {a : Addr} {vs : List V} {ds : List D} (ga : SqL K.k G1 a vs) (r : Reps K G1 vs ds) : JOk K (Itl K.k a) G1 ds := by
  intro B G0 G σ H env i s c
  have hs : SqL K.k H a vs := (s.trans c.exG).seq ga
  refine ⟨fun d hd => ?_, fun hi => ⟨vs, hs, by rw [r.length]; exact hi⟩⟩
  obtain ⟨v, hv, rv⟩ := r.get hd
  refine ⟨⟨vs, v, hs, hv⟩, fun x H' y => ?_⟩
  obtain ⟨rfl, y⟩ := y
  have : v = x := Option.some.inj (hv.symm.trans (y vs hs))
  subst this
  exact ⟨G, Same.refl G, c, rv.up s⟩
theorem jok_tup {a : Addr} {vs : List V} {ds : List D} (ga : G1 a = some (.tup vs)) (r : Reps K G1 vs ds) : JOk K (Itt K.k a) G1 ds := by
  intro B G0 G σ H env i s c
  have hs : SqT K.k H a vs := .inl (.inl ((s.trans c.exG) _ _ ga))
  refine ⟨fun d hd => ?_, fun hi => ⟨vs, hs, by rw [r.length]; exact hi⟩⟩
  obtain ⟨v, hv, rv⟩ := r.get hd
  refine ⟨⟨vs, v, hs, hv⟩, fun x H' y => ?_⟩
  obtain ⟨rfl, y⟩ := y
  have : v = x := Option.some.inj (hv.symm.trans (y vs hs))
  subst this
  exact ⟨G, Same.refl G, c, rv.up s⟩
theorem jok_str {s : Str} : JOk K (Its s) G1 (s.cps.toList.map fun c => D.str ⟨#[c]⟩) := by
  intro B G0 G σ H env i _ c
  refine ⟨fun d hd => ?_, fun hi => by
    show s.cps.size ≤ i
    simpa using hi⟩
  have hi : i < s.cps.size := by
    have := (List.getElem?_eq_some_iff.mp hd).1
    simpa using this
  refine ⟨hi, fun x H' y => ?_⟩
  obtain ⟨rfl, k, hk, rfl⟩ := y
  refine ⟨G, Same.refl G, c, ?_⟩
  rw [List.getElem?_map, Array.getElem?_toList, hk] at hd
  simp only [Option.map_some, Option.some.injEq] at hd
  subst hd
  exact .str _
theorem jok_rng {lo : Int} {n : Nat} : JOk K (Itr lo n) G1 ((List.range n).map fun (m : Nat) => D.int (lo + (m : Int))) := by
  intro B G0 G σ H env i _ c
  refine ⟨fun d hd => ?_, fun hi => by
    show n ≤ i
    simpa using hi⟩
  have hi : i < n := by
    have := (List.getElem?_eq_some_iff.mp hd).1
    simpa using this
  refine ⟨hi, fun x H' y => ?_⟩
  obtain ⟨rfl, rfl⟩ := y
  refine ⟨G, Same.refl G, c, ?_⟩
  rw [List.getElem?_map, List.getElem?_range hi] at hd
  simp only [Option.map_some, Option.some.injEq] at hd
  subst hd
  exact .int _
end
section
variable {X : Cx} {W : WX} {e tg : Expr} {f : DEnv → M D} {pos p : Pos}
theorem pi_or {iter : Expr} {w1 w2 : TI} (h1 : PI X tg iter w1) (h2 : PI X tg iter w2) : PI X tg iter (fun σ H R => w1 σ H R ∨ w2 σ H R) :=
  ⟨fun pins s σ H R I h => h.elim (h1.run pins s σ H R I) (h2.run pins s σ H R I)⟩
/-- over a list, a tuple, a text -/
theorem di_any (h : DE X W e f) : DI X W tg e (iAny f) := by
  obtain ⟨te, a1, a2⟩ := h.ex
  refine ⟨_, pi_or (pi_list a1) (pi_or (pi_tup a1) (pi_str a1)), ?_⟩
  intro B G0 G H σ env R c po
  simp only [iAny] at po
  cases o : f env with
  | no => rw [o] at po; exact po.elim
  | ex m =>
    rw [o] at po
    exact .inl (a2 B G0 G H σ env _ c (by rw [o]; exact po))
  | ok d =>
    cases d with
    | lst ds =>
      rw [o] at po
      refine .inl (a2 B G0 G H σ env _ c ?_)
      rw [o]
      intro v H1 G1 s1 c1 r1
      cases r1 with
      | lst g1 g2 => exact ⟨_, rfl, ⟨_, .inl (.inl (c1.exG _ _ g1))⟩, po _ H1 G1 s1 c1 (jok_list (.inl (.inl g1)) g2)⟩
    | scr ns =>
      rw [o] at po
      refine .inl (a2 B G0 G H σ env _ c ?_)
      rw [o]
      intro v H1 G1 s1 c1 r1
      cases r1 with
      | scr g1 => exact ⟨_, rfl, ⟨_, c1.exG.seq g1⟩, po _ H1 G1 s1 c1 (jok_list g1 (Reps.ints ns))⟩
    | tup ds =>
      rw [o] at po
      refine .inr (.inl (a2 B G0 G H σ env _ c ?_))
      rw [o]
      intro v H1 G1 s1 c1 r1
      cases r1 with
      | tup g1 g2 => exact ⟨_, rfl, ⟨_, .inl (.inl (c1.exG _ _ g1))⟩, po _ H1 G1 s1 c1 (jok_tup g1 g2)⟩
    | str s =>
      rw [o] at po
      refine .inr (.inr (a2 B G0 G H σ env _ c ?_))
      rw [o]
      intro v H1 G1 s1 c1 r1
      cases r1
      exact ⟨s, rfl, po _ H1 G1 s1 c1 jok_str⟩
    | non => rw [o] at po; exact po.elim
    | bl _ => rw [o] at po; exact po.elim
    | int _ => rw [o] at po; exact po.elim
theorem di_rng1 {g : DEnv → M (List D)} (hm : X.mg "range" = none) (ha : DA X W [e] g) (hg : Gl X "range" := by rfl) (hs : starEach [e] X.env = [(false, eval e X.env)] := by rfl) : DI X W tg (.Call (.Name "range" p) [e] [] pos) (iRng rng1D g) := by
  obtain ⟨ta, a1, a2⟩ := ha.ex
  refine ⟨_, pi_range1 hg hm a1 hs, ?_⟩
  intro B G0 G H σ env R c po
  simp only [iRng] at po
  refine a2 B G0 G H σ env _ c ?_
  cases o : g env with
  | no => rw [o] at po; exact po
  | ex m => rw [o] at po; exact po
  | ok ds =>
    rw [o] at po
    intro vs H1 G1 s1 c1 r1
    simp only [M.bind] at po
    cases q : rng1D ds with
    | none => rw [q] at po; exact po.elim
    | some its =>
      rw [q] at po
      obtain ⟨j, rfl, h1, h2, rfl⟩ := rng1D_inv q
      cases r1 with
      | cons x y =>
        cases y
        cases x
        refine ⟨j, rfl, h1, h2, po (Itr 0 j.toNat) H1 G1 s1 c1 ?_⟩
        have z := jok_rng (K := kw X) (G1 := G1) (lo := 0) (n := j.toNat)
        simpa using z
theorem di_rng2 {a b : Expr} {g : DEnv → M (List D)} (hm : X.mg "range" = none) (ha : DA X W [a, b] g) (hg : Gl X "range" := by rfl) (hs : starEach [a, b] X.env = [(false, eval a X.env), (false, eval b X.env)] := by rfl)
    (hs2 : starEach [b] X.env = [(false, eval b X.env)] := by rfl) : DI X W tg (.Call (.Name "range" p) [a, b] [] pos) (iRng rng2D g) := by
  obtain ⟨ta, a1, a2⟩ := ha.ex
  refine ⟨_, pi_range2 hg hm a1 hs hs2, ?_⟩
  intro B G0 G H σ env R c po
  simp only [iRng] at po
  refine a2 B G0 G H σ env _ c ?_
  cases o : g env with
  | no => rw [o] at po; exact po
  | ex m => rw [o] at po; exact po
  | ok ds =>
    rw [o] at po
    intro vs H1 G1 s1 c1 r1
    simp only [M.bind] at po
    cases q : rng2D ds with
    | none => rw [q] at po; exact po.elim
    | some its =>
      rw [q] at po
      obtain ⟨i, j, rfl, h1, rfl⟩ := rng2D_inv q
      cases r1 with
      | cons x y =>
        cases y with
        | cons y z =>
          cases z
          cases x
          cases y
          exact ⟨i, j, rfl, h1, po (Itr i (j - i).toNat) H1 G1 s1 c1 jok_rng⟩
end

/-! ### own lists -/
section
variable {K : KW} {B G0 G G' H H' : Hp} {σ : L2.St} {env : DEnv}
/-- the own list (or dict) of slot i is replaced by another content -/
theorem Cn.updO (c : Cn K B G0 G σ H env) {i : Nat} {p : Addr} {s t : Cel} {o : HO} (hi : env[i]? = some s) (hs : s.owned) (hp : σ[i]? = some (some (.ref p))) (ht : CelAt K B G (L2.upd H p o) t (some (.ref p))) (ho : t.owned) :
    Cn K B G0 G σ (L2.upd H p o) (env.set i t) where
  len := by simp [c.len]
  exB := fun a x e => by
    obtain ⟨q, e1, h⟩ := c.cel i s hi
    rw [hp] at e1
    cases e1
    cases s with
    | own xs => obtain ⟨p', vs, e2, gp, bp, _⟩ := h; cases e2; rw [upd_ne (ne_of_none e bp)]; exact c.exB _ _ e
    | dic xs => obtain ⟨p', vs, e2, gp, bp, _⟩ := h; cases e2; rw [upd_ne (ne_of_none e bp)]; exact c.exB _ _ e
    | un => exact hs.elim
    | dat d => exact hs.elim
    | fdc d => exact hs.elim
    | exc d => exact hs.elim
  exG := fun a x e => by
    obtain ⟨q, e1, h⟩ := c.cel i s hi
    rw [hp] at e1
    cases e1
    cases s with
    | own xs => obtain ⟨p', vs, e2, gp, bp, _⟩ := h; cases e2; rw [upd_ne (ne_of_none e gp)]; exact c.exG _ _ e
    | dic xs => obtain ⟨p', vs, e2, gp, bp, _⟩ := h; cases e2; rw [upd_ne (ne_of_none e gp)]; exact c.exG _ _ e
    | un => exact hs.elim
    | dat d => exact hs.elim
    | fdc d => exact hs.elim
    | exc d => exact hs.elim
  ex0 := c.ex0
  new := c.new
  cel := fun j u e => by
    by_cases h : i = j
    · subst h
      have hl := (List.getElem?_eq_some_iff.mp hi).1
      rw [List.getElem?_set_self hl] at e
      cases e
      exact ⟨_, hp, ht⟩
    · rw [List.getElem?_set_ne h] at e
      obtain ⟨q, e1, h1⟩ := c.cel j u e
      refine ⟨q, e1, ?_⟩
      have ne : u.owned → q ≠ some (.ref p) := fun hu z => by
        rw [z] at e1
        exact c.sep i j s u p h hi e hs hu hp e1
      cases u with
      | un => trivial
      | dat d => exact h1
      | fdc d => exact h1
      | exc d => exact h1
      | own xs =>
        obtain ⟨p', vs, e2, gp, bp, hp', r⟩ := h1
        have np : p' ≠ p := fun z => ne trivial (by rw [e2, z])
        exact ⟨p', vs, e2, gp, bp, by rw [upd_ne np]; exact hp', r⟩
      | dic xs =>
        obtain ⟨p', vs, e2, gp, bp, hp', r⟩ := h1
        have np : p' ≠ p := fun z => ne trivial (by rw [e2, z])
        exact ⟨p', vs, e2, gp, bp, by rw [upd_ne np]; exact hp', r⟩
  sep := fun j k u v q ne e1 e2 o1 o2 h1 => by
    have back : ∀ {j : Nat} {u : Cel}, (env.set i t)[j]? = some u → u.owned → ∃ u', env[j]? = some u' ∧ u'.owned := fun {j u} e o => by
      by_cases h : i = j
      · subst h; exact ⟨s, hi, hs⟩
      · rw [List.getElem?_set_ne h] at e; exact ⟨u, e, o⟩
    obtain ⟨u', a1, a2⟩ := back e1 o1
    obtain ⟨v', b1, b2⟩ := back e2 o2
    exact c.sep j k u' v' q ne a1 b1 a2 b2 h1
/-- a slot is given a new own list -/
theorem Cn.setOwn (c : Cn K B G0 G σ H env) (i : Nat) {p : Addr} {o : HO} {t : Cel} (hp : H p = none) (ht : CelAt K B G (L2.upd H p o) t (some (.ref p))) : Cn K B G0 G (σ.set i (some (.ref p))) (L2.upd H p o) (env.set i t) where
  len := by simp [c.len]
  exB := c.exB.trans (same_upd hp)
  exG := c.exG.trans (same_upd hp)
  ex0 := c.ex0
  new := c.new
  cel := fun j s e => by
    by_cases h : i = j
    · subst h
      have hi : i < env.length := by
        have := (List.getElem?_eq_some_iff.mp e).1
        simpa using this
      rw [List.getElem?_set_self hi] at e
      cases e
      refine ⟨some (.ref p), ?_, ht⟩
      rw [List.getElem?_set_self (by rw [c.len]; exact hi)]
    · rw [List.getElem?_set_ne h] at e
      obtain ⟨q, e1, h1⟩ := c.cel j s e
      refine ⟨q, by rw [List.getElem?_set_ne h]; exact e1, ?_⟩
      cases s with
      | un => trivial
      | dat d => exact h1
      | fdc d => exact h1
      | exc d => exact h1
      | own xs => obtain ⟨p', vs, e2, gp, bp, hp', r⟩ := h1; exact ⟨p', vs, e2, gp, bp, same_upd hp _ _ hp', r⟩
      | dic xs => obtain ⟨p', vs, e2, gp, bp, hp', r⟩ := h1; exact ⟨p', vs, e2, gp, bp, same_upd hp _ _ hp', r⟩
  sep := fun j k s u q ne e1 e2 o1 o2 h1 h2 => by
    have other : ∀ {k : Nat} {u : Cel}, i ≠ k → (env.set i t)[k]? = some u → u.owned → (σ.set i (some (.ref p)))[k]? ≠ some (some (.ref p)) := fun {k u} h e o z => by
      rw [List.getElem?_set_ne h] at e z
      obtain ⟨q, e1, h1⟩ := c.cel k u e
      rw [z] at e1
      cases e1
      cases u with
      | un => exact o
      | dat d => exact o
      | fdc d => exact o
      | exc d => exact o
      | own xs => obtain ⟨p', vs, e2, gp, bp, hp', r⟩ := h1; cases e2; rw [hp] at hp'; cases hp'
      | dic xs => obtain ⟨p', vs, e2, gp, bp, hp', r⟩ := h1; cases e2; rw [hp] at hp'; cases hp'
    by_cases hj : i = j
    · subst hj
      have hi : i < σ.length := by
        have := (List.getElem?_eq_some_iff.mp h1).1
        simpa using this
      rw [List.getElem?_set_self hi] at h1
      cases h1
      exact other ne e2 o2 h2
    · by_cases hk : i = k
      · subst hk
        have hi : i < σ.length := by
          have := (List.getElem?_eq_some_iff.mp h2).1
          simpa using this
        rw [List.getElem?_set_self hi] at h2
        cases h2
        exact other hj e1 o1 h1
      · rw [List.getElem?_set_ne hj] at e1 h1
        rw [List.getElem?_set_ne hk] at e2 h2
        exact c.sep j k s u q ne e1 e2 o1 o2 h1 h2
/-- an own list stands still from now on -/
theorem Cn.freeze (c : Cn K B G0 G σ H env) {i : Nat} {xs : List D} (hi : env[i]? = some (.own xs)) : ∃ G', Same G G' ∧ Cn K B G0 G' σ H (env.set i (.dat (.lst xs))) := by
  obtain ⟨o, e1, p, vs, e2, gp, bp, hp, r⟩ := c.cel i _ hi
  subst e2
  have hl := (List.getElem?_eq_some_iff.mp hi).1
  refine ⟨L2.upd G p (.lst vs), same_upd gp, ?_⟩
  exact {
    len := by simp [c.len]
    exB := c.exB
    exG := fun a x e => by
      by_cases z : a = p
      · subst z; rw [upd_same] at e; cases e; exact hp
      · rw [upd_ne z] at e; exact c.exG _ _ e
    ex0 := c.ex0.trans (same_upd gp)
    new := fun a h => by
      by_cases z : a = p
      · subst z; exact .inr bp
      · rw [upd_ne z] at h; exact c.new a h
    cel := fun j s e => by
      by_cases h : i = j
      · subst h
        rw [List.getElem?_set_self hl] at e
        cases e
        exact ⟨_, e1, _, rfl, .lst upd_same (r.up (same_upd gp))⟩
      · rw [List.getElem?_set_ne h] at e
        obtain ⟨q, e3, h1⟩ := c.cel j s e
        refine ⟨q, e3, ?_⟩
        have ne : s.owned → q ≠ some (.ref p) := fun hu z => by
          rw [z] at e3
          exact c.sep i j _ s p h hi e trivial hu e1 e3
        cases s with
        | un => trivial
        | dat d => obtain ⟨v, e4, r4⟩ := h1; exact ⟨v, e4, r4.up (same_upd gp)⟩
        | exc d => exact h1
        | fdc d => obtain ⟨p', vs', od, e4, gp', r'⟩ := h1; exact ⟨p', vs', od, e4, same_upd gp _ _ gp', L2.Paired.mapP r' fun _ _ z => z.up (same_upd gp)⟩
        | own xs => obtain ⟨p', vs', e4, gp', bp', hp', r'⟩ := h1; exact ⟨p', vs', e4, by rw [upd_ne (fun z => ne trivial (by rw [e4, z]))]; exact gp', bp', hp', r'.up (same_upd gp)⟩
        | dic xs => obtain ⟨p', vs', e4, gp', bp', hp', r'⟩ := h1; exact ⟨p', vs', e4, by rw [upd_ne (fun z => ne trivial (by rw [e4, z]))]; exact gp', bp', hp', L2.Paired.mapP r' fun _ _ z => z.up (same_upd gp)⟩
    sep := fun j k s u q ne f1 f2 o1 o2 h1 => by
      have nj : i ≠ j := fun z => by
        subst z
        rw [List.getElem?_set_self hl] at f1
        cases f1
        exact o1
      have nk : i ≠ k := fun z => by
        subst z
        rw [List.getElem?_set_self hl] at f2
        cases f2
        exact o2
      rw [List.getElem?_set_ne nj] at f1
      rw [List.getElem?_set_ne nk] at f2
      exact c.sep j k s u q ne f1 f2 o1 o2 h1 }
end
@[simp] def frz (i : Nat) (env : DEnv) : DEnv := match env[i]? with
  | some (.own xs) => env.set i (.dat (.lst xs))
  | _ => env
/-- the own list of slot i stands still ahead of the statement -/
@[simp] def sFrz (i : Nat) (g : DStm) : DStm := fun env => g (frz i env)
@[simp] def celO (env : DEnv) (i : Nat) : M (List D) := match env[i]? with
  | some (.own xs) => .ok xs
  | _ => .no
@[simp] def sApp (i : Nat) (f : DEnv → M D) : DStm := fun env => (celO env i).to env fun xs => (f env).to env fun d => if xs.length < sizeLine then .nx (env.set i (.own (xs ++ [d]))) else .no
@[simp] def xLenO (i : Nat) (env : DEnv) : M D := (celO env i).bind fun xs => .ok (.int xs.length)
def ixD (xs : List D) : D → Option D
  | .int i => atI xs i
  | _ => none
@[simp] def xIxO (i : Nat) (f : DEnv → M D) (env : DEnv) : M D := (celO env i).bind fun xs => (f env).bind fun d => .of (ixD xs d)
section
variable {X : Cx} {W : WX} {st : Stmt} {a : DStm} {e : Expr} {f : DEnv → M D} {pos p : Pos}
theorem ds_frz (i : Nat) (h : DS X W st a) : DS X W st (sFrz i a) := by
  obtain ⟨ts, a1, a2⟩ := h.ex
  refine ⟨ts, a1, fun B G0 G H σ env E c po => ?_⟩
  simp only [sFrz, frz] at po
  cases o : env[i]? with
  | none => rw [o] at po; exact a2 B G0 G H σ env E c po
  | some s =>
    rw [o] at po
    cases s with
    | own xs =>
      obtain ⟨G', s', c'⟩ := c.freeze o
      exact a2 B G0 G' H σ _ E c' (PoS.up s' po)
    | un => exact a2 B G0 G H σ env E c po
    | dat d => exact a2 B G0 G H σ env E c po
    | dic d => exact a2 B G0 G H σ env E c po
    | fdc d => exact a2 B G0 G H σ env E c po
    | exc d => exact a2 B G0 G H σ env E c po
/-- x = [..], an own list from now on -/
theorem ds_own (i : Nat) {g : DEnv → M (List D)} {x : Str} {pos' : Pos} (hN : X.N.Nodup) (h : DLs X W e g) (hi : X.N[i]? = some x := by rfl) (hx : Loc X.env.scope x := by first | exact .inl rfl | exact .inr rfl) (hs : swapsWith e (some (.Name x pos')) pos.line X.env = pure false := by rfl) (hf : X.fn x = true ∨ X.env.scope.names.lookup x = some .local := by first | exact .inl rfl | exact .inr rfl) :
    DS X W (.Assign [.Name x pos'] e pos) (sOwn i g) := by
  obtain ⟨_, a1, a2⟩ := h.ex
  refine ⟨_, ps_set (i := i) hN hi hx a1 hs hf, fun B G0 G H σ env E c po => ?_⟩
  refine a2 B G0 G H σ env _ c ?_
  simp only [sOwn] at po
  cases o : g env with
  | no => rw [o] at po; exact po
  | ex n => rw [o] at po; exact PoX.s po
  | ok d =>
    rw [o] at po
    intro q vs H1 G1 s1 c1 hq r1
    exact po _ _ G1 s1 (c1.setOwn i hq ⟨q, vs, rfl, c1.exG.free hq, c1.exB.free hq, upd_same, r1⟩)
theorem celO_inv {env : DEnv} {i : Nat} {xs : List D} (h : celO env i = .ok xs) : env[i]? = some (.own xs) := by
  simp only [celO] at h
  split at h
  · rename_i e
    cases h
    exact e
  · cases h
theorem celO_no {env : DEnv} {i : Nat} {c : Str} (h : celO env i = .ex c) : False := by
  simp only [celO] at h
  split at h <;> cases h
/-- x.append(e), x an own list -/
theorem ds_app (i : Nat) {x : Str} {px apos cpos : Pos} (h : DE X W e f) (hN : X.N[i]? = some x := by rfl) (hv : Vis X.env.scope x := by first | exact Or.inl rfl | exact Or.inr (Or.inl rfl) | exact Or.inr (Or.inr rfl)) (hd : (x == ("__debug__" : Str)) = false := by decide)
    (hcd : (x == ("__classdict__" : Str)) = false := by decide) (hbase : attributeBase (.Name x px) "append" X.env (eval (.Name x px) X.env) = eval (.Name x px) X.env := by rfl)
    (hfew : ((backTo cpos (starEach [e] X.env)).all (fun x => !x.1) && (backToKw cpos (keywordEach [] X.env)).all (fun x => x.1.isSome)
      && decide ([e].length + ([] : List Keyword).length + (if ([] : List Keyword).isEmpty then 0 else 1) < 30)) = true := by rfl)
    (hline : (apos.endLine == cpos.line) = true := by rfl) (hse : starEach [e] X.env = (false, eval e X.env) :: starEach [] X.env := by rfl) (hplain : (backTo cpos (starEach [] X.env)).any (·.1) = false := by rfl)
    (hs : swapsWith (.Call (.Attribute (.Name x px) "append" apos) [e] [] cpos) none pos.line X.env = pure false := by rfl) :
    DS X W (.Expr (.Call (.Attribute (.Name x px) "append" apos) [e] [] cpos) pos) (sApp i f) := by
  obtain ⟨te, a1, a2⟩ := h.ex
  refine ⟨_, ps_expr (pe_bm PySem.F.plainAttrs_list PySem.F.slot_list_append PySem.F.type_list_append mt_append (pe_var hN hv hd hcd) (pa_cons a1 pa_nil hse) hbase hfew hline hse hplain) hs, fun B G0 G H σ env E c po => ?_⟩
  simp only [sApp] at po
  cases o : celO env i with
  | no => rw [o] at po; exact po.elim
  | ex n => exact (celO_no o).elim
  | ok xs =>
    rw [o] at po
    have hi := celO_inv o
    obtain ⟨q, e1, p, vs, e2, gp, bp, hp, r⟩ := c.cel i _ hi
    subst e2
    refine ⟨.ref p, e1, .inl ⟨rfl, _, .inl (.inl hp)⟩, ?_⟩
    refine a2 B G0 G H σ env _ c ?_
    simp only [M.to] at po
    cases q : f env with
    | no => rw [q] at po; exact po
    | ex n => rw [q] at po; exact PoX.s po
    | ok d =>
      rw [q] at po
      intro v H1 G1 s1 c1 r1
      simp only [M.to] at po
      obtain ⟨q', e1', p', vs', e2', gp', bp', hp', r'⟩ := c1.cel i _ hi
      rw [e1] at e1'
      cases e1'
      cases e2'
      by_cases hl : xs.length < sizeLine
      · rw [if_pos hl] at po
        refine ⟨p, vs', v, rfl, rfl, hp', by rw [r'.length]; exact hl, ?_⟩
        exact po σ _ G1 s1 (c1.updO hi trivial e1 ⟨p, _, rfl, gp', bp', upd_same, r'.append (.one r1)⟩ trivial)
      · rw [if_neg hl] at po
        exact po.elim
/-- len(x), x an own list -/
theorem de_lenO (i : Nat) {x : Str} {px : Pos} (hm : X.mg "len" = none) (hg : Gl X "len" := by rfl) (hN : X.N[i]? = some x := by rfl) (hv : Vis X.env.scope x := by first | exact Or.inl rfl | exact Or.inr (Or.inl rfl) | exact Or.inr (Or.inr rfl)) (hd : (x == ("__debug__" : Str)) = false := by decide)
    (hcd : (x == ("__classdict__" : Str)) = false := by decide) (hs : starEach [.Name x px] X.env = (false, eval (.Name x px) X.env) :: starEach [] X.env := by rfl) (hpl : (backTo pos (starEach [] X.env)).any (·.1) = false := by rfl) :
    DE X W (.Call (.Name "len" p) [.Name x px] [] pos) (xLenO i) := by
  refine ⟨_, pe_callB call_len_seq hg hm PySem.boot_len (pa_cons (pe_var hN hv hd hcd) pa_nil hs) (by decide) (by decide) hs hpl, fun B G0 G H σ env Q c po => ?_⟩
  simp only [xLenO] at po
  cases o : celO env i with
  | no => rw [o] at po; exact po.elim
  | ex n => exact (celO_no o).elim
  | ok xs =>
    rw [o] at po
    have hi := celO_inv o
    obtain ⟨q, e1, p, vs, e2, gp, bp, hp, r⟩ := c.cel i _ hi
    subst e2
    refine ⟨.ref p, e1, p, vs, rfl, .inl (.inl (.inl hp)), ?_⟩
    rw [r.length]
    exact po _ H G (Same.refl G) c (.int _)
theorem atI_rep {K : KW} {G : Hp} {vs : List V} {ds : List D} {i : Int} {d : D} (r : Reps K G vs ds) (h : atI ds i = some d) : ∃ v, atI vs i = some v ∧ Rep K G v d := by
  unfold atI at h ⊢
  rw [r.length]
  cases q : ixN ds.length i with
  | none => rw [q] at h; cases h
  | some j =>
    rw [q] at h
    exact r.get h
/-- x[e], x an own list -/
theorem de_ixO (i : Nat) {x : Str} {px : Pos} (h : DE X W e f) (hsl : PlainIx e := by intro _ _; rfl) (hN : X.N[i]? = some x := by rfl) (hv : Vis X.env.scope x := by first | exact Or.inl rfl | exact Or.inr (Or.inl rfl) | exact Or.inr (Or.inr rfl)) (hd : (x == ("__debug__" : Str)) = false := by decide)
    (hcd : (x == ("__classdict__" : Str)) = false := by decide) : DE X W (.Subscript (.Name x px) e pos) (xIxO i f) := by
  obtain ⟨te, a1, a2⟩ := h.ex
  refine ⟨_, pe_ix ix_list (pe_var hN hv hd hcd) a1 hsl, fun B G0 G H σ env Q c po => ?_⟩
  simp only [xIxO] at po
  cases o : celO env i with
  | no => rw [o] at po; exact po.elim
  | ex n => exact (celO_no o).elim
  | ok xs =>
    rw [o] at po
    have hi := celO_inv o
    obtain ⟨q, e1, p, vs, e2, gp, bp, hp, r⟩ := c.cel i _ hi
    subst e2
    refine ⟨.ref p, e1, ?_⟩
    refine a2 B G0 G H σ env _ c ?_
    simp only [M.bind] at po
    cases q : f env with
    | no => rw [q] at po; exact po
    | ex n => rw [q] at po; exact po
    | ok d =>
      rw [q] at po
      intro v H1 G1 s1 c1 r1
      simp only [M.bind] at po
      cases k : ixD xs d with
      | none => rw [k] at po; exact po.elim
      | some y =>
        rw [k] at po
        obtain ⟨q', e1', p', vs', e2', gp', bp', hp', r'⟩ := c1.cel i _ hi
        rw [e1] at e1'
        cases e1'
        cases e2'
        cases d with
        | int j =>
          cases r1
          obtain ⟨v, hv, rv⟩ := atI_rep r' k
          exact ⟨p, vs', j, v, rfl, rfl, .inl (.inl hp'), hv, po v H1 G1 s1 c1 rv⟩
        | non => cases k
        | bl _ => cases k
        | str _ => cases k
        | lst _ => cases k
        | tup _ => cases k
        | scr _ => cases k
end
end DL

namespace DL
open PySem PySem.Spec PyProof.Rows L2

/-! ### operations on data -/
def addD : D → D → Option D
  | .int i, .int j => some (.int (i + j))
  | .str a, .str b => if a.length + b.length ≤ sizeLine then some (.str (a ++ b)) else none
  | .lst a, .lst b => if a.length + b.length ≤ sizeLine then some (.lst (a ++ b)) else none
  | _, _ => none
def subD : D → D → Option D
  | .int i, .int j => some (.int (i - j))
  | _, _ => none
theorem inM_ex : ∃ f : Int → Bool, ∀ j, f j = true ↔ (-(2 ^ 64) < j ∧ j < 2 ^ 64) := ⟨fun j => decide (-(2 ^ 64) < j ∧ j < 2 ^ 64), fun j => by simp⟩
noncomputable def inM : Int → Bool := Classical.choose inM_ex
theorem inM_iff (j : Int) : inM j = true ↔ (-(2 ^ 64) < j ∧ j < 2 ^ 64) := Classical.choose_spec inM_ex j
theorem inM_small {j : Int} (h0 : -10000000000 ≤ j) (h : j ≤ 10000000000) : inM j = true := (inM_iff j).mpr ⟨by omega, by omega⟩
noncomputable def mulD : D → D → Option D
  | .int i, .int j => if inM i = true ∨ inM j = true then some (.int (i * j)) else none
  | _, _ => none
def fdivD : D → D → Option D
  | .int i, .int j => if 0 < j ∧ j < 1073741824 then some (.int (i / j)) else none
  | _, _ => none
def modD : D → D → Option D
  | .int i, .int j => if 0 < j then some (.int (i % j)) else none
  | _, _ => none
def powD : D → D → Option D
  | .int i, .int j => if 0 ≤ j ∧ j ≤ 1000000 ∧ i.natAbs < 2 ^ 64 then some (.int (i ^ j.toNat)) else none
  | _, _ => none
def ltD : D → D → Option D
  | .int i, .int j => some (.bl (decide (i < j)))
  | _, _ => none
def leD : D → D → Option D
  | .int i, .int j => some (.bl (decide (i ≤ j)))
  | _, _ => none
def gtD : D → D → Option D
  | .int i, .int j => some (.bl (decide (j < i)))
  | _, _ => none
def geD : D → D → Option D
  | .int i, .int j => some (.bl (decide (j ≤ i)))
  | _, _ => none
def isND : D → D → Option D
  | d, .non => some (.bl (match d with | .non => true | _ => false))
  | _, _ => none
def isNND : D → D → Option D
  | d, .non => some (.bl (match d with | .non => false | _ => true))
  | _, _ => none
def inSD : D → D → Option D
  | .str a, .str b => some (.bl (!(Builtin.Str.occurrences b a 0 b.length 1).isEmpty))
  | _, _ => none
def ninSD : D → D → Option D
  | .str a, .str b => some (.bl (!(!(Builtin.Str.occurrences b a 0 b.length 1).isEmpty)))
  | _, _ => none
mutual
def py : D → PyData
  | .non => .none
  | .bl b => .bool b
  | .int i => .int i
  | .str s => .str s
  | .lst xs => .list (pys xs)
  | .tup xs => .tuple (pys xs)
  | .scr _ => .none
def pys : List D → List PyData
  | [] => []
  | x :: xs => py x :: pys xs
end
-- data that == compares item by item: no bools, texts of plain signs, no deep nesting
mutual
def eqOk : Nat → D → Bool
  | _, .non => true
  | _, .int _ => true
  | _, .str s => PyData.strOk s
  | n + 1, .lst xs => eqOks n xs
  | n + 1, .tup xs => eqOks n xs
  | _, _ => false
def eqOks : Nat → List D → Bool
  | _, [] => true
  | n, x :: xs => eqOk n x && eqOks n xs
end
def scalD : D → D → Bool
  | .non, .non => true | .non, .int _ => true | .int _, .non => true | .non, .bl _ => true | .bl _, .non => true | .non, .str _ => true | .str _, .non => true
  | .int _, .int _ => true | .bl _, .bl _ => true | .str _, .str _ => true
  | .int _, .str _ => true | .str _, .int _ => true | .bl _, .str _ => true | .str _, .bl _ => true
  | _, _ => false
noncomputable instance : DecidableEq D := fun a b => Classical.propDecidable (a = b)
noncomputable def eqD (a b : D) : Option D := if (scalD a b || (eqOk 60 a && eqOk 60 b)) = true then some (.bl (decide (a = b))) else none
noncomputable def neD (a b : D) : Option D := if (scalD a b || (eqOk 60 a && eqOk 60 b)) = true then some (.bl (!decide (a = b))) else none

section
variable {K : KW} {G : Hp}
mutual
theorem Rep.dp : ∀ (n : Nat) (d : D) (v : V), eqOk n d = true → Rep K G v d → Dp K.k G v (py d)
  | _, .non, _, _, r => by cases r; exact .non
  | _, .int i, _, _, r => by cases r; exact .int i
  | _, .str s, _, _, r => by cases r; exact .str s
  | n + 1, .lst xs, _, h, r => by
    cases r with
    | lst g1 g2 => exact .lst (.inl (.inl g1)) (Reps.dp n xs _ (by simpa [eqOk] using h) g2)
  | n + 1, .tup xs, _, h, r => by
    cases r with
    | tup g1 g2 => exact .tup (.inl (.inl g1)) (Reps.dp n xs _ (by simpa [eqOk] using h) g2)
  | 0, .lst _, _, h, _ => by simp [eqOk] at h
  | 0, .tup _, _, h, _ => by simp [eqOk] at h
  | 0, .bl _, _, h, _ => by simp [eqOk] at h
  | _ + 1, .bl _, _, h, _ => by simp [eqOk] at h
  | 0, .scr _, _, h, _ => by simp [eqOk] at h
  | _ + 1, .scr _, _, h, _ => by simp [eqOk] at h
theorem Reps.dp : ∀ (n : Nat) (ds : List D) (vs : List V), eqOks n ds = true → Reps K G vs ds → DpAll K.k G vs (pys ds)
  | _, [], _, _, r => by cases r; exact .nil
  | n, d :: ds, _, h, r => by
    cases r with
    | cons r1 r2 =>
      have h' : eqOk n d = true ∧ eqOks n ds = true := by simpa [eqOks] using h
      exact .cons (Rep.dp n d _ h'.1 r1) (Reps.dp n ds _ h'.2 r2)
end
mutual
theorem eqOk_shape : ∀ (n : Nat) (d : D), eqOk n d = true → (py d).canLay0 = true ∧ (py d).depth ≤ n
  | _, .non, _ => ⟨rfl, Nat.zero_le _⟩
  | _, .int _, _ => ⟨rfl, Nat.zero_le _⟩
  | _, .str s, h => ⟨by simpa [eqOk, py, PyData.canLay0] using h, Nat.zero_le _⟩
  | n + 1, .lst xs, h => by
    obtain ⟨a, b⟩ := eqOks_shape n xs (by simpa [eqOk] using h)
    refine ⟨by simpa [py, PyData.canLay0] using a, ?_⟩
    simp only [py, PyData.depth]
    omega
  | n + 1, .tup xs, h => by
    obtain ⟨a, b⟩ := eqOks_shape n xs (by simpa [eqOk] using h)
    refine ⟨by simpa [py, PyData.canLay0] using a, ?_⟩
    simp only [py, PyData.depth]
    omega
  | 0, .lst _, h => by simp [eqOk] at h
  | 0, .tup _, h => by simp [eqOk] at h
  | 0, .bl _, h => by simp [eqOk] at h
  | _ + 1, .bl _, h => by simp [eqOk] at h
  | 0, .scr _, h => by simp [eqOk] at h
  | _ + 1, .scr _, h => by simp [eqOk] at h
theorem eqOks_shape : ∀ (n : Nat) (ds : List D), eqOks n ds = true → PyData.canLayAll0 (pys ds) = true ∧ PyData.depthAll (pys ds) ≤ n
  | _, [], _ => ⟨rfl, Nat.zero_le _⟩
  | n, d :: ds, h => by
    have h' : eqOk n d = true ∧ eqOks n ds = true := by simpa [eqOks] using h
    obtain ⟨a, b⟩ := eqOk_shape n d h'.1
    obtain ⟨a', b'⟩ := eqOks_shape n ds h'.2
    refine ⟨by simp only [pys, PyData.canLayAll0, a, a', Bool.and_self], ?_⟩
    simp only [pys, PyData.depthAll]
    omega
end
theorem eqOk_shaped {d : D} (h : eqOk 60 d = true) : SeqAt.shaped (py d) = true := by
  obtain ⟨a, b⟩ := eqOk_shape 60 d h
  unfold SeqAt.shaped
  rw [a, decide_eq_true (by omega : (py d).depth ≤ 64)]
  rfl
mutual
theorem eqv_of : ∀ (n m : Nat) (a b : D), eqOk n a = true → eqOk m b = true → (PyData.eqv (py a) (py b) = true ↔ a = b)
  | n, m, .non, b, _, hb => by cases b <;> simp [py, PyData.eqv, eqOk] at hb ⊢
  | n, m, .int i, b, _, hb => by cases b <;> simp [py, PyData.eqv, eqOk] at hb ⊢
  | n, m, .str s, b, _, hb => by cases b <;> simp [py, PyData.eqv, eqOk] at hb ⊢
  | n + 1, m, .lst xs, b, ha, hb => by
    cases b with
    | lst ys =>
      cases m with
      | zero => simp [eqOk] at hb
      | succ m =>
        have := eqv_ofs n m xs ys (by simpa [eqOk] using ha) (by simpa [eqOk] using hb)
        simp only [py, PyData.eqv, D.lst.injEq]
        exact this
    | non => simp [py, PyData.eqv]
    | bl _ => cases m <;> simp [eqOk] at hb
    | int _ => simp [py, PyData.eqv]
    | str _ => simp [py, PyData.eqv]
    | tup _ => simp [py, PyData.eqv]
    | scr _ => cases m <;> simp [eqOk] at hb
  | n + 1, m, .tup xs, b, ha, hb => by
    cases b with
    | tup ys =>
      cases m with
      | zero => simp [eqOk] at hb
      | succ m =>
        have := eqv_ofs n m xs ys (by simpa [eqOk] using ha) (by simpa [eqOk] using hb)
        simp only [py, PyData.eqv, D.tup.injEq]
        exact this
    | non => simp [py, PyData.eqv]
    | bl _ => cases m <;> simp [eqOk] at hb
    | int _ => simp [py, PyData.eqv]
    | str _ => simp [py, PyData.eqv]
    | lst _ => simp [py, PyData.eqv]
    | scr _ => cases m <;> simp [eqOk] at hb
  | 0, _, .lst _, _, h, _ => by simp [eqOk] at h
  | 0, _, .tup _, _, h, _ => by simp [eqOk] at h
  | 0, _, .bl _, _, h, _ => by simp [eqOk] at h
  | _ + 1, _, .bl _, _, h, _ => by simp [eqOk] at h
  | 0, _, .scr _, _, h, _ => by simp [eqOk] at h
  | _ + 1, _, .scr _, _, h, _ => by simp [eqOk] at h
theorem eqv_ofs : ∀ (n m : Nat) (a b : List D), eqOks n a = true → eqOks m b = true → (PyData.eqvAll (pys a) (pys b) = true ↔ a = b)
  | n, m, [], [], _, _ => by simp [pys, PyData.eqvAll]
  | n, m, [], _ :: _, _, _ => by simp [pys, PyData.eqvAll]
  | n, m, _ :: _, [], _, _ => by simp [pys, PyData.eqvAll]
  | n, m, a :: as, b :: bs, ha, hb => by
    have h1 : eqOk n a = true ∧ eqOks n as = true := by simpa [eqOks] using ha
    have h2 : eqOk m b = true ∧ eqOks m bs = true := by simpa [eqOks] using hb
    have q1 := eqv_of n m a b h1.1 h2.1
    have q2 := eqv_ofs n m as bs h1.2 h2.2
    simp only [pys, PyData.eqvAll, Bool.and_eq_true, List.cons.injEq]
    rw [q1, q2]
end
theorem eqv_dec {a b : D} (ha : eqOk 60 a = true) (hb : eqOk 60 b = true) : PyData.eqv (py a) (py b) = decide (a = b) := by
  rw [Bool.eq_iff_iff, eqv_of 60 60 a b ha hb]
  simp
theorem dp_mono {H : Hp} (s : Same G H) {v : V} {d : D} (h : eqOk 60 d = true) (r : Rep K G v d) : Dp K.k H v (py d) := Rep.dp 60 d v h (r.up s)
theorem scal_rep {x y : V} {a b : D} (h : scalD a b = true) (ra : Rep K G x a) (rb : Rep K G y b) : scal x y = true ∧ decide (x = y) = decide (a = b) := by
  cases ra <;> cases rb <;> first
    | (simp [scalD] at h; done)
    | (refine ⟨rfl, ?_⟩; simp)
end
section
variable {X : Cx}
theorem opd_pure {K : KW} {r : R2} {h : D → D → Option D} (q : ∀ {G H : Hp} {x y : V} {a b d : D} {Q : VK}, Same G H → Rep K G x a → Rep K G y b → h a b = some d → (∃ v, Rep K G v d ∧ (Q v H → r x y H Q))) : OpD K r h := by
  intro B G0 G H σ env x y a b d Q c ra rb e k
  obtain ⟨v, rv, kv⟩ := q (Q := Q) c.exG ra rb e
  exact kv (k v H G (Same.refl G) c rv)
theorem ox_add : OpX X (binaryOp .Add) addD := by
  refine ⟨_, op_add.or (op_add_str.or op_cat), ?_⟩
  intro B G0 G H σ env x y a b d Q c ra rb e k
  unfold addD at e
  split at e
  · cases ra; cases rb; cases e
    exact .inl ⟨_, _, rfl, rfl, k _ H G (Same.refl G) c (.int _)⟩
  · split at e
    · rename_i hl
      cases ra; cases rb; cases e
      exact .inr (.inl ⟨_, _, rfl, rfl, hl, k _ H G (Same.refl G) c (.str _)⟩)
    · cases e
  · split at e
    · rename_i hl
      cases e
      cases ra with
      | lst g1 r1 =>
        cases rb with
        | lst g2 r2 =>
          refine .inr (.inr ⟨_, _, _, _, rfl, rfl, c.exG _ _ g1, c.exG _ _ g2, by rw [r1.length, r2.length]; exact hl, fun p hp => ?_⟩)
          have gp := c.exG.free hp
          exact k _ _ (upd G p _) (same_upd gp) (c.laid hp) (.lst upd_same ((r1.append r2).up (same_upd gp)))
    · cases e
  · cases e
theorem ox_sub : OpX X (binaryOp .Sub) subD := by
  refine ⟨_, op_sub, opd_pure ?_⟩
  intro G H x y a b d Q s ra rb e
  unfold subD at e
  split at e
  · cases ra; cases rb; cases e
    exact ⟨_, .int _, fun q => ⟨_, _, rfl, rfl, q⟩⟩
  · cases e
theorem ox_mul : OpX X (binaryOp .Mult) mulD := by
  refine ⟨_, op_mul, opd_pure ?_⟩
  intro G H x y a b d Q s ra rb e
  unfold mulD at e
  split at e
  · split at e
    · rename_i hc
      cases ra; cases rb; cases e
      refine ⟨_, .int _, fun q => ⟨_, _, rfl, rfl, ?_, q⟩⟩
      rcases hc with hc | hc
      · exact .inl ((inM_iff _).mp hc)
      · exact .inr ((inM_iff _).mp hc)
    · cases e
  · cases e
theorem ox_fdiv : OpX X (binaryOp .FloorDiv) fdivD := by
  refine ⟨_, op_fdiv, opd_pure ?_⟩
  intro G H x y a b d Q s ra rb e
  unfold fdivD at e
  split at e
  · split at e
    · rename_i hc
      cases ra; cases rb; cases e
      exact ⟨_, .int _, fun q => ⟨_, _, rfl, rfl, hc, q⟩⟩
    · cases e
  · cases e
theorem ox_mod : OpX X (binaryOp .Mod) modD := by
  refine ⟨_, op_mod, opd_pure ?_⟩
  intro G H x y a b d Q s ra rb e
  unfold modD at e
  split at e
  · split at e
    · rename_i hc
      cases ra; cases rb; cases e
      exact ⟨_, .int _, fun q => ⟨_, _, rfl, rfl, hc, q⟩⟩
    · cases e
  · cases e
theorem ox_pow : OpX X (binaryOp .Pow) powD := by
  refine ⟨_, op_pow, opd_pure ?_⟩
  intro G H x y a b d Q s ra rb e
  unfold powD at e
  split at e
  · split at e
    · rename_i hc
      cases ra; cases rb; cases e
      exact ⟨_, .int _, fun q => ⟨_, _, rfl, rfl, hc, q⟩⟩
    · cases e
  · cases e
theorem ox_lt : OpX X (compareOp .Lt) ltD := by
  refine ⟨_, op_lt, opd_pure ?_⟩
  intro G H x y a b d Q s ra rb e
  unfold ltD at e
  split at e
  · cases ra; cases rb; cases e
    exact ⟨_, .bl _, fun q => ⟨_, _, rfl, rfl, q⟩⟩
  · cases e
theorem ox_le : OpX X (compareOp .LtE) leD := by
  refine ⟨_, op_le, opd_pure ?_⟩
  intro G H x y a b d Q s ra rb e
  unfold leD at e
  split at e
  · cases ra; cases rb; cases e
    exact ⟨_, .bl _, fun q => ⟨_, _, rfl, rfl, q⟩⟩
  · cases e
theorem ox_gt : OpX X (compareOp .Gt) gtD := by
  refine ⟨_, op_gt, opd_pure ?_⟩
  intro G H x y a b d Q s ra rb e
  unfold gtD at e
  split at e
  · cases ra; cases rb; cases e
    exact ⟨_, .bl _, fun q => ⟨_, _, rfl, rfl, q⟩⟩
  · cases e
theorem ox_ge : OpX X (compareOp .GtE) geD := by
  refine ⟨_, op_ge, opd_pure ?_⟩
  intro G H x y a b d Q s ra rb e
  unfold geD at e
  split at e
  · cases ra; cases rb; cases e
    exact ⟨_, .bl _, fun q => ⟨_, _, rfl, rfl, q⟩⟩
  · cases e
theorem ox_isN : OpX X (compareOp .Is) isND := by
  refine ⟨_, op_isN, opd_pure ?_⟩
  intro G H x y a b d Q s ra rb e
  cases b <;> simp only [isND, Option.some.injEq] at e <;> first | (cases e; done) | skip
  cases rb
  subst e
  refine ⟨_, .bl _, fun q => ⟨rfl, ?_⟩⟩
  cases ra <;> exact q
theorem ox_isNN : OpX X (compareOp .IsNot) isNND := by
  refine ⟨_, op_notN, opd_pure ?_⟩
  intro G H x y a b d Q s ra rb e
  cases b <;> simp only [isNND, Option.some.injEq] at e <;> first | (cases e; done) | skip
  cases rb
  subst e
  refine ⟨_, .bl _, fun q => ⟨rfl, ?_⟩⟩
  cases ra <;> exact q
theorem ox_inS : OpX X (compareOp .In) inSD := by
  refine ⟨_, op_in_str, opd_pure ?_⟩
  intro G H x y a b d Q s ra rb e
  unfold inSD at e
  split at e
  · cases ra; cases rb; cases e
    exact ⟨_, .bl _, fun q => ⟨_, _, rfl, rfl, q⟩⟩
  · cases e
theorem ox_ninS : OpX X (compareOp .NotIn) ninSD := by
  refine ⟨_, op_notIn_str, opd_pure ?_⟩
  intro G H x y a b d Q s ra rb e
  unfold ninSD at e
  split at e
  · cases ra; cases rb; cases e
    exact ⟨_, .bl _, fun q => ⟨_, _, rfl, rfl, q⟩⟩
  · cases e
theorem ox_eq (hu : X.A.units + 64 < cLine) : OpX X (compareOp .Eq) eqD := by
  refine ⟨_, op_eq.or (op_eqD hu), opd_pure ?_⟩
  intro G H x y a b d Q s ra rb e
  unfold eqD at e
  split at e
  · rename_i h
    cases e
    refine ⟨_, .bl _, fun q => ?_⟩
    by_cases hs : scalD a b = true
    · obtain ⟨h1, h2⟩ := scal_rep hs ra rb
      exact .inl ⟨h1, by rw [h2]; exact q⟩
    · have h' : eqOk 60 a = true ∧ eqOk 60 b = true := by simpa [hs] using h
      exact .inr ⟨_, _, dp_mono s h'.1 ra, dp_mono s h'.2 rb, eqOk_shaped h'.1, eqOk_shaped h'.2, by rw [eqv_dec h'.1 h'.2]; exact q⟩
  · cases e
theorem ox_ne (hu : X.A.units + 64 < cLine) : OpX X (compareOp .NotEq) neD := by
  refine ⟨_, op_ne.or (op_neD hu), opd_pure ?_⟩
  intro G H x y a b d Q s ra rb e
  unfold neD at e
  split at e
  · rename_i h
    cases e
    refine ⟨_, .bl _, fun q => ?_⟩
    by_cases hs : scalD a b = true
    · obtain ⟨h1, h2⟩ := scal_rep hs ra rb
      exact .inl ⟨h1, by rw [h2]; exact q⟩
    · have h' : eqOk 60 a = true ∧ eqOk 60 b = true := by simpa [hs] using h
      exact .inr ⟨_, _, dp_mono s h'.1 ra, dp_mono s h'.2 rb, eqOk_shaped h'.1, eqOk_shaped h'.2, by rw [eqv_dec h'.1 h'.2]; exact q⟩
  · cases e
end
end DL

namespace DL
open PySem PySem.Spec PyProof.Rows L2

/-! ### subscripts -/
def ixAD : D → D → Option D
  | .lst xs, .int i => atI xs i
  | .tup xs, .int i => atI xs i
  | .scr ns, .int i => (atI ns i).map D.int
  | .str s, .int i => if s.length ≤ sizeLine then (atI s.cps.toList i).map fun c => D.str ⟨#[c]⟩ else none
  | _, _ => none
theorem atI_map {α β : Type} (f : α → β) (xs : List α) (i : Int) : atI (xs.map f) i = (atI xs i).map f := by
  unfold atI
  rw [List.length_map]
  cases ixN xs.length i with
  | none => rfl
  | some j => simp
section
variable {X : Cx} {W : WX} {a b e : Expr} {es : List Expr} {f g : DEnv → M D} {pos p : Pos}
theorem de_ix (ha : DE X W a f) (hb : DE X W b g) (hs : PlainIx b := by intro _ _; rfl) : DE X W (.Subscript a b pos) (xOp ixAD f g) := by
  obtain ⟨_, a1, a2⟩ := ha.ex
  obtain ⟨_, b1, b2⟩ := hb.ex
  refine ⟨_, pe_ix ix_seq a1 b1 hs, a2.op b2 ?_⟩
  intro B G0 G H σ env x y a b d Q c ra rb h k
  unfold ixAD at h
  split at h
  · cases rb
    cases ra with
    | lst g1 g2 =>
      obtain ⟨v, hv, rv⟩ := atI_rep g2 h
      exact .inl ⟨_, _, _, v, rfl, rfl, .inl (.inl (c.exG _ _ g1)), hv, k v H G (Same.refl G) c rv⟩
  · cases rb
    cases ra with
    | tup g1 g2 =>
      obtain ⟨v, hv, rv⟩ := atI_rep g2 h
      exact .inr (.inl ⟨_, _, _, v, rfl, rfl, .inl (.inl (c.exG _ _ g1)), hv, k v H G (Same.refl G) c rv⟩)
  · rename_i ns i
    cases rb
    cases ra with
    | scr g1 =>
      cases q : atI ns i with
      | none => rw [q] at h; cases h
      | some n =>
        rw [q] at h
        cases h
        exact .inl ⟨_, _, _, .int n, rfl, rfl, c.exG.seq g1, by rw [atI_map, q]; rfl, k _ H G (Same.refl G) c (.int n)⟩
  · rename_i s i
    cases rb
    cases ra
    split at h
    · rename_i hl
      cases q : atI s.cps.toList i with
      | none => rw [q] at h; cases h
      | some n =>
        rw [q] at h
        cases h
        exact .inr (.inr ⟨_, _, n, rfl, rfl, hl, q, k _ H G (Same.refl G) c (.str _)⟩)
    · cases h
  · cases h
end

/-! ### slices -/
def cutL {α : Type} (xs : List α) (lo hi : Option Int) : List α := (xs.drop (HT.sIx xs.length 0 lo)).take (HT.sIx xs.length xs.length hi - HT.sIx xs.length 0 lo)
def slcD (lo hi : Option Int) : D → Option D
  | .lst xs => some (.lst (cutL xs lo hi))
  | .str s => if s.length ≤ sizeLine then some (.str (cutS s lo hi)) else none
  | .tup xs => if HT.sIx xs.length 0 lo = 0 ∧ HT.sIx xs.length xs.length hi = xs.length then none else some (.tup (cutL xs lo hi))
  | _ => none
def PoO (K : KW) (mg : Str → Option Value) (W : WX) (B G0 G : Hp) (σ : L2.St) (env : DEnv) (Q : Option Int → Hp → Prop) : M (Option Int) → Prop
  | .ok o => ∀ H' G', Same G G' → Cn K B G0 G' σ H' env → Q o H'
  | .ex c => PoX K mg W B G0 σ env c
  | .no => False
structure DO (X : Cx) (W : WX) (e : Option Expr) (f : DEnv → M (Option Int)) : Prop where
  ex : ∃ t, PO X e t ∧ ∀ B G0 G H σ env Q, Cn (kw X) B G0 G σ H env → PoO (kw X) X.mg W B G0 G σ env Q (f env) → t σ H Q
@[simp] def oNo (_ : DEnv) : M (Option Int) := .ok none
@[simp] def asI : D → M (Option Int)
  | .int i => .ok (some i)
  | _ => .no
@[simp] def oPart (f : DEnv → M D) (env : DEnv) : M (Option Int) := (f env).bind asI
@[simp] def xCut (f : DEnv → M D) (l u : DEnv → M (Option Int)) (env : DEnv) : M D := (f env).bind fun d => (l env).bind fun lo => (u env).bind fun hi => .of (slcD lo hi d)
section
variable {X : Cx} {W : WX} {a b e : Expr} {es : List Expr} {f g : DEnv → M D} {pos p : Pos}
theorem do_none : DO X W none oNo := ⟨_, po_none, fun B G0 G H σ env Q c p => p H G (Same.refl G) c⟩
theorem do_some (h : DE X W e f) : DO X W (some e) (oPart f) := by
  obtain ⟨_, a1, a2⟩ := h.ex
  refine ⟨_, po_some a1, fun B G0 G H σ env Q c p => ?_⟩
  refine a2 B G0 G H σ env _ c ?_
  simp only [oPart] at p
  cases o : f env with
  | no => rw [o] at p; exact p
  | ex n => rw [o] at p; exact p
  | ok d =>
    rw [o] at p
    intro v H1 G1 s1 c1 r1
    cases d with
    | int i => cases r1; exact ⟨i, rfl, p H1 G1 s1 c1⟩
    | non => exact p.elim
    | bl _ => exact p.elim
    | str _ => exact p.elim
    | lst _ => exact p.elim
    | tup _ => exact p.elim
    | scr _ => exact p.elim
theorem Reps.cut {K : KW} {G : Hp} {vs : List V} {ds : List D} (r : Reps K G vs ds) (lo hi : Option Int) : Reps K G (cutV vs lo hi) (cutL ds lo hi) := by
  unfold cutV cutL
  rw [r.length]
  exact (r.drop _).take _
theorem de_slice {lo hi : Option Expr} {l u : DEnv → M (Option Int)} {p2 : Pos} (he : DE X W e f) (hl : DO X W lo l) (hu : DO X W hi u) : DE X W (.Subscript e (.Slice lo hi none p2) pos) (xCut f l u) := by
  obtain ⟨_, a1, a2⟩ := he.ex
  obtain ⟨_, b1, b2⟩ := hl.ex
  obtain ⟨_, c1, c2⟩ := hu.ex
  refine ⟨_, pe_slice (sl_list.or (sl_str.or sl_tup)) a1 b1 c1, fun B G0 G H σ env Q c p => ?_⟩
  refine a2 B G0 G H σ env _ c ?_
  simp only [xCut] at p
  cases o : f env with
  | no => rw [o] at p; exact p
  | ex n => rw [o] at p; exact p
  | ok d =>
    rw [o] at p
    intro v H1 G1 s1 k1 r1
    refine b2 B G0 G1 H1 σ env _ k1 ?_
    simp only [M.bind] at p
    cases o2 : l env with
    | no => rw [o2] at p; exact p
    | ex n => rw [o2] at p; exact p
    | ok x =>
      rw [o2] at p
      intro H2 G2 s2 k2
      refine c2 B G0 G2 H2 σ env _ k2 ?_
      simp only [M.bind] at p
      cases o3 : u env with
      | no => rw [o3] at p; exact p
      | ex n => rw [o3] at p; exact p
      | ok y =>
        rw [o3] at p
        intro H3 G3 s3 k3
        have r3 := (r1.up s2).up s3
        have ss := (s1.trans s2).trans s3
        simp only [M.bind] at p
        cases q : slcD x y d with
        | none => rw [q] at p; exact p.elim
        | some z =>
          rw [q] at p
          unfold slcD at q
          split at q
          · cases q
            cases r3 with
            | lst g1 g2 =>
              refine .inl ⟨_, _, rfl, .inl (.inl (k3.exG _ _ g1)), fun q hq => ?_⟩
              have gq := k3.exG.free hq
              exact p _ _ (upd G3 q _) (ss.trans (same_upd gq)) (k3.laid hq) (.lst upd_same ((g2.cut x y).up (same_upd gq)))
          · split at q
            · rename_i hz
              cases q
              cases r3
              exact .inr (.inl ⟨_, rfl, hz, p _ H3 G3 ss k3 (.str _)⟩)
            · cases q
          · split at q
            · cases q
            · rename_i hz
              cases q
              cases r3 with
              | tup g1 g2 =>
                refine .inr (.inr ⟨_, _, rfl, .inl (.inl (k3.exG _ _ g1)), by rw [g2.length]; exact hz, fun q hq => ?_⟩)
                have gq := k3.exG.free hq
                exact p _ _ (upd G3 q _) (ss.trans (same_upd gq)) (k3.laid hq) (.tup upd_same ((g2.cut x y).up (same_upd gq)))
          · cases q
end

/-! ### builtins -/
def lenD : List D → Option D
  | [.str s] => if s.length ≤ sizeLine then some (.int s.length) else none
  | [.lst xs] => some (.int xs.length)
  | [.tup xs] => some (.int xs.length)
  | [.scr ns] => some (.int ns.length)
  | _ => none
def min2D : List D → Option D
  | [.int i, .int j] => some (.int (if j < i then j else i))
  | _ => none
def max2D : List D → Option D
  | [.int i, .int j] => some (.int (if j > i then j else i))
  | _ => none
def strD : List D → Option D
  | [.int i] => if i.natAbs.log2 < 1920 then some (.str (toString i)) else none
  | _ => none
def intD : List D → Option D
  | [.int i] => some (.int i)
  | [.bl b] => some (.int (if b then 1 else 0))
  | _ => none
def intSD : List D → Option D
  | [.str s] => match PySem.intText? s with
    | some n => if s.length ≤ 640 then some (.int n) else none
    | none => none
  | _ => none
def tupD : List D → Option D
  | [.lst xs] => some (.tup xs)
  | [.tup xs] => some (.tup xs)
  | _ => none
def intsOf : List D → Option (List Int)
  | [] => some []
  | .int i :: r => (intsOf r).map (i :: ·)
  | _ => none
def maxL : Int → List Int → Int
  | m, [] => m
  | m, x :: r => maxL (if x > m then x else m) r
def maxD : List D → Option D
  | [.lst xs] => match intsOf xs with
    | some (n :: r) => some (.int (maxL n r))
    | _ => none
  | _ => none
theorem intsOf_map : ∀ {xs : List D} {ns : List Int}, intsOf xs = some ns → xs = ns.map D.int
  | [], ns, h => by cases h; rfl
  | .int i :: r, ns, h => by
    simp only [intsOf, Option.map_eq_some_iff] at h
    obtain ⟨ms, h1, rfl⟩ := h
    rw [intsOf_map h1]
    rfl
  | .non :: _, _, h => by cases h
  | .bl _ :: _, _, h => by cases h
  | .str _ :: _, _, h => by cases h
  | .lst _ :: _, _, h => by cases h
  | .tup _ :: _, _, h => by cases h
  | .scr _ :: _, _, h => by cases h
theorem intsOf_ints : ∀ ns : List Int, intsOf (ns.map D.int) = some ns
  | [] => rfl
  | n :: r => by simp [intsOf, intsOf_ints r]
theorem maxL_ge : ∀ (r : List Int) (m : Int), m ≤ maxL m r ∧ ∀ x ∈ r, x ≤ maxL m r
  | [], m => ⟨Int.le_refl _, fun x h => by simp at h⟩
  | x :: r, m => by
    unfold maxL
    obtain ⟨h1, h2⟩ := maxL_ge r (if x > m then x else m)
    refine ⟨Int.le_trans (by split <;> omega) h1, fun y hy => ?_⟩
    rcases List.mem_cons.mp hy with rfl | hy
    · exact Int.le_trans (by split <;> omega) h1
    · exact h2 y hy
theorem maxL_mem : ∀ (r : List Int) (m : Int), maxL m r = m ∨ maxL m r ∈ r
  | [], m => .inl rfl
  | x :: r, m => by
    unfold maxL
    rcases maxL_mem r (if x > m then x else m) with h | h
    · rw [h]
      split
      · exact .inr List.mem_cons_self
      · exact .inl rfl
    · exact .inr (List.mem_cons_of_mem _ h)
section
variable {X : Cx} {W : WX} {a b e : Expr} {es : List Expr} {f g : DEnv → M D} {pos p : Pos}
theorem cx_len : CbX X (.builtin "len") lenD := by
  refine ⟨_, call_len, ?_⟩
  intro B G0 G H σ env vs ds d Q c r h k
  unfold lenD at h
  split at h
  · cases r with
    | cons r1 r2 =>
      cases r2
      cases r1
      split at h
      · rename_i hl
        cases h
        exact ⟨_, _, rfl, ⟨hl, rfl⟩, k _ H G (Same.refl G) c (.int _)⟩
      · cases h
  · cases h
    cases r with
    | cons r1 r2 =>
      cases r2
      cases r1 with
      | lst g1 g2 =>
        refine ⟨_, _, rfl, .inl ⟨_, .inl (.inl (c.exG _ _ g1)), rfl⟩, ?_⟩
        rw [g2.length]
        exact k _ H G (Same.refl G) c (.int _)
  · cases h
    cases r with
    | cons r1 r2 =>
      cases r2
      cases r1 with
      | tup g1 g2 =>
        refine ⟨_, _, rfl, .inr ⟨_, .inl (.inl (c.exG _ _ g1)), rfl⟩, ?_⟩
        rw [g2.length]
        exact k _ H G (Same.refl G) c (.int _)
  · cases h
    cases r with
    | cons r1 r2 =>
      cases r2
      cases r1 with
      | scr g1 =>
        refine ⟨_, _, rfl, .inl ⟨_, c.exG.seq g1, rfl⟩, ?_⟩
        rw [List.length_map]
        exact k _ H G (Same.refl G) c (.int _)
  · cases h
theorem cx_min2 (hc : X.calm = true) : CbX X (.builtin "min") min2D := by
  refine ⟨_, call_min2 hc, ?_⟩
  intro B G0 G H σ env vs ds d Q c r h k
  unfold min2D at h
  split at h
  · cases h
    cases r with
    | cons r1 r2 =>
      cases r2 with
      | cons r2 r3 =>
        cases r3; cases r1; cases r2
        exact ⟨_, _, rfl, k _ H G (Same.refl G) c (.int _)⟩
  · cases h
theorem cx_max2 (hc : X.calm = true) : CbX X (.builtin "max") max2D := by
  refine ⟨_, call_max2 hc, ?_⟩
  intro B G0 G H σ env vs ds d Q c r h k
  unfold max2D at h
  split at h
  · cases h
    cases r with
    | cons r1 r2 =>
      cases r2 with
      | cons r2 r3 =>
        cases r3; cases r1; cases r2
        exact ⟨_, _, rfl, k _ H G (Same.refl G) c (.int _)⟩
  · cases h
theorem cx_max (hc : X.calm = true) : CbX X (.builtin "max") maxD := by
  refine ⟨_, cr_max hc, ?_⟩
  intro B G0 G H σ env vs ds d Q c r h k
  unfold maxD at h
  split at h
  · split at h
    · rename_i xs n rs q
      cases h
      have e := intsOf_map q
      subst e
      cases r with
      | cons r1 r2 =>
        cases r2
        cases r1 with
        | lst g1 g2 =>
          have e2 := Reps.of_ints (ns := n :: rs) g2
          subst e2
          refine ⟨_, n :: rs, rfl, .inl (.inl (c.exG _ _ g1)), Nat.succ_pos _, fun m hm hle => ?_⟩
          have hm2 : m = maxL n rs := by
            obtain ⟨h1, h2⟩ := maxL_ge rs n
            refine Int.le_antisymm ?_ ?_
            · rcases List.mem_cons.mp hm with rfl | hm
              · exact h1
              · exact h2 m hm
            · rcases maxL_mem rs n with z | z
              · rw [z]; exact hle _ List.mem_cons_self
              · exact hle _ (List.mem_cons_of_mem _ z)
          rw [hm2]
          exact k _ H G (Same.refl G) c (.int _)
    · cases h
  · cases h
theorem cx_str : CbX X (.type "str") strD := by
  refine ⟨_, call_str_int, ?_⟩
  intro B G0 G H σ env vs ds d Q c r h k
  unfold strD at h
  split at h
  · split at h
    · rename_i hl
      cases h
      cases r with
      | cons r1 r2 =>
        cases r2; cases r1
        exact ⟨_, rfl, hl, k _ H G (Same.refl G) c (.str _)⟩
    · cases h
  · cases h
theorem cx_int : CbX X (.type "int") intD := by
  refine ⟨_, call_int1, ?_⟩
  intro B G0 G H σ env vs ds d Q c r h k
  unfold intD at h
  split at h
  · cases h
    cases r with
    | cons r1 r2 =>
      cases r2; cases r1
      exact .inl ⟨_, rfl, k _ H G (Same.refl G) c (.int _)⟩
  · cases h
    cases r with
    | cons r1 r2 =>
      cases r2; cases r1
      exact .inr ⟨_, rfl, k _ H G (Same.refl G) c (.int _)⟩
  · cases h
theorem cx_intS : CbX X (.type "int") intSD := by
  refine ⟨_, call_int_str, ?_⟩
  intro B G0 G H σ env vs ds d Q c r h k
  unfold intSD at h
  split at h
  · split at h
    · split at h
      · rename_i s n hn hl
        cases h
        cases r with
        | cons r1 r2 =>
          cases r2; cases r1
          exact ⟨_, _, rfl, hn, hl, k _ H G (Same.refl G) c (.int _)⟩
      · cases h
    · cases h
  · cases h
theorem cx_tup : CbX X (.type "tuple") tupD := by
  refine ⟨_, call_tuple_of, ?_⟩
  intro B G0 G H σ env vs ds d Q c r h k
  unfold tupD at h
  split at h
  · cases h
    cases r with
    | cons r1 r2 =>
      cases r2
      cases r1 with
      | lst g1 g2 =>
        refine ⟨_, _, rfl, .inl ⟨.inl (.inl (c.exG _ _ g1)), fun q hq => ?_⟩⟩
        have gq := c.exG.free hq
        exact k _ _ (upd G q _) (same_upd gq) (c.laid hq) (.tup upd_same (g2.up (same_upd gq)))
  · cases h
    cases r with
    | cons r1 r2 =>
      cases r2
      cases r1 with
      | tup g1 g2 => exact ⟨_, _, rfl, .inr ⟨.inl (.inl (c.exG _ _ g1)), k _ H G (Same.refl G) c (.tup g1 g2)⟩⟩
  · cases h
/-- list(x): a new list -/
@[simp] def lOf (f : DEnv → M D) (env : DEnv) : M (List D) := (f env).bind fun d => match d with
  | .lst xs => .ok xs
  | .tup xs => .ok xs
  | _ => .no
theorem dl_list {x : Expr} (hm : X.mg "list" = none) (h : DE X W x f) (hg : Gl X "list" := by rfl) (hs : starEach [x] X.env = (false, eval x X.env) :: starEach [] X.env := by rfl) (hpl : (backTo pos (starEach [] X.env)).any (·.1) = false := by rfl) :
    DLs X W (.Call (.Name "list" p) [x] [] pos) (lOf f) := by
  obtain ⟨_, a1, a2⟩ := h.ex
  refine ⟨_, pe_callTy call_list_of hg hm boot_list (pa_cons a1 pa_nil hs) (by decide) (by decide) hs hpl, fun B G0 G H σ env Q c p => ?_⟩
  refine a2 B G0 G H σ env _ c ?_
  simp only [lOf] at p
  cases o : f env with
  | no => rw [o] at p; exact p
  | ex n => rw [o] at p; exact p
  | ok d =>
    rw [o] at p
    intro v H1 G1 s1 c1 r1
    cases d with
    | lst xs =>
      cases r1 with
      | lst g1 g2 => exact ⟨_, _, rfl, .inl (.inl (.inl (c1.exG _ _ g1))), fun q hq => p q _ H1 G1 s1 c1 hq g2⟩
    | tup xs =>
      cases r1 with
      | tup g1 g2 => exact ⟨_, _, rfl, .inr (.inl (.inl (c1.exG _ _ g1))), fun q hq => p q _ H1 G1 s1 c1 hq g2⟩
    | int i => exact p.elim
    | non => exact p.elim
    | bl _ => exact p.elim
    | str _ => exact p.elim
    | scr _ => exact p.elim
/-! ### isinstance -/
def tyN : D → Option String
  | .non => some "NoneType"
  | .bl _ => some "bool"
  | .int _ => some "int"
  | .str _ => some "str"
  | .lst _ => some "list"
  | .tup _ => some "tuple"
  | .scr _ => none
def isiD (T : String) (d : D) : Option D := (tyN d).bind fun t => (kitB t T).map D.bl
theorem tyx_of {K : KW} {G H : Hp} {v : V} {d : D} {t : String} (s : Same G H) (r : Rep K G v d) (h : tyN d = some t) : TyX K.k H v (.type t) := by
  cases r <;> simp only [tyN, Option.some.injEq] at h <;> first | (subst h) | cases h
  · exact .base .non
  · exact .base (.bl _)
  · exact .base (.int _)
  · exact .base (.str _)
  · rename_i g1 _; exact .base (.lst (s _ _ g1))
  · rename_i g1 _; exact .base (.tup (s _ _ g1))
theorem de_isi {T : String} {x : Expr} {tn : Str} {pt : Pos} (hT : bootBuiltins tn = some (.type T)) (hm : X.mg "isinstance" = none) (hmt : X.mg tn = none) (h : DE X W x f) (hg : Gl X "isinstance" := by rfl) (hgt : Gl X tn := by rfl)
    (hs : starEach [x, .Name tn pt] X.env = (false, eval x X.env) :: starEach [.Name tn pt] X.env := by rfl) (hs2 : starEach [.Name tn pt] X.env = (false, eval (.Name tn pt) X.env) :: starEach [] X.env := by rfl)
    (hpl : (backTo pos (starEach [.Name tn pt] X.env)).any (·.1) = false := by rfl) (hn : tn ≠ "__name__" := by decide) (hd : (tn == ("__debug__" : Str)) = false := by decide) :
    DE X W (.Call (.Name "isinstance" p) [x, .Name tn pt] [] pos) (xUn (isiD T) f) := by
  obtain ⟨_, a1, a2⟩ := h.ex
  refine ⟨_, pe_callB call_isi hg hm boot_isinstance (pa_cons a1 (pa_cons (pe_bltn (v := .ty T) hgt hmt hT rfl hn hd) pa_nil hs2) hs) (by decide) (by decide) hs hpl, fun B G0 G H σ env Q c p => ?_⟩
  refine a2 B G0 G H σ env _ c ?_
  simp only [xUn] at p
  cases o : f env with
  | no => rw [o] at p; exact p
  | ex n => rw [o] at p; exact p
  | ok d =>
    rw [o] at p
    intro v H1 G1 s1 c1 r1
    simp only [M.bind] at p
    unfold isiD at p
    cases q : tyN d with
    | none => rw [q] at p; exact p.elim
    | some t =>
      rw [q] at p
      cases q2 : kitB t T with
      | none => simp [q2, PoE] at p
      | some b =>
        simp only [q2, Option.bind_some, Option.map_some, M.of] at p
        exact ⟨v, .ty T, _, _, b, rfl, .ty T, tyx_of c1.exG r1 q, kit_ty q2, p _ H1 G1 s1 c1 (.bl b)⟩
/-! ### and, or, not as values -/
@[simp] def xAnd (f g : DEnv → M D) (env : DEnv) : M D := (f env).bind fun d => match d with
  | .bl true => g env
  | .bl false => .ok (.bl false)
  | _ => .no
@[simp] def xOr (f g : DEnv → M D) (env : DEnv) : M D := (f env).bind fun d => match d with
  | .bl true => .ok (.bl true)
  | .bl false => g env
  | _ => .no
@[simp] def notD : D → Option D
  | .bl b => some (.bl (!b))
  | _ => none
theorem de_one {op} (h : DE X W a f) : DE X W (.BoolOp op [a] pos) f := by
  obtain ⟨_, a1, a2⟩ := h.ex
  exact ⟨_, pe_one a1, a2⟩
theorem de_and {rest : List Expr} (ha : DE X W a f) (hb : DE X W (.BoolOp .And (b :: rest) pos) g) : DE X W (.BoolOp .And (a :: b :: rest) pos) (xAnd f g) := by
  obtain ⟨_, a1, a2⟩ := ha.ex
  obtain ⟨_, b1, b2⟩ := hb.ex
  refine ⟨_, pe_and a1 b1, fun B G0 G H σ env Q c p => ?_⟩
  refine a2 B G0 G H σ env _ c ?_
  simp only [xAnd] at p
  cases o : f env with
  | no => rw [o] at p; exact p
  | ex n => rw [o] at p; exact p
  | ok d =>
    rw [o] at p
    intro v H1 G1 s1 c1 r1
    cases d with
    | bl k =>
      cases r1
      cases k with
      | true =>
        refine ⟨true, rfl, iteT (b2 B G0 G1 H1 σ env _ c1 ?_)⟩
        simp only [M.bind] at p
        cases o2 : g env with
        | no => rw [o2] at p; exact p
        | ex n => rw [o2] at p; exact p
        | ok d => rw [o2] at p; exact fun v H2 G2 s2 => p v H2 G2 (s1.trans s2)
      | false => exact ⟨false, rfl, iteF (p _ H1 G1 s1 c1 (.bl false))⟩
    | int i => exact p.elim
    | non => exact p.elim
    | str _ => exact p.elim
    | lst _ => exact p.elim
    | tup _ => exact p.elim
    | scr _ => exact p.elim
theorem de_or {rest : List Expr} (ha : DE X W a f) (hb : DE X W (.BoolOp .Or (b :: rest) pos) g) : DE X W (.BoolOp .Or (a :: b :: rest) pos) (xOr f g) := by
  obtain ⟨_, a1, a2⟩ := ha.ex
  obtain ⟨_, b1, b2⟩ := hb.ex
  refine ⟨_, pe_or a1 b1, fun B G0 G H σ env Q c p => ?_⟩
  refine a2 B G0 G H σ env _ c ?_
  simp only [xOr] at p
  cases o : f env with
  | no => rw [o] at p; exact p
  | ex n => rw [o] at p; exact p
  | ok d =>
    rw [o] at p
    intro v H1 G1 s1 c1 r1
    cases d with
    | bl k =>
      cases r1
      cases k with
      | false =>
        refine ⟨false, rfl, iteF (b2 B G0 G1 H1 σ env _ c1 ?_)⟩
        simp only [M.bind] at p
        cases o2 : g env with
        | no => rw [o2] at p; exact p
        | ex n => rw [o2] at p; exact p
        | ok d => rw [o2] at p; exact fun v H2 G2 s2 => p v H2 G2 (s1.trans s2)
      | true => exact ⟨true, rfl, iteT (p _ H1 G1 s1 c1 (.bl true))⟩
    | int i => exact p.elim
    | non => exact p.elim
    | str _ => exact p.elim
    | lst _ => exact p.elim
    | tup _ => exact p.elim
    | scr _ => exact p.elim
theorem de_not (ha : DE X W a f) : DE X W (.UnaryOp .Not a pos) (xUn notD f) := by
  obtain ⟨_, a1, a2⟩ := ha.ex
  refine ⟨_, pe_not a1, fun B G0 G H σ env Q c p => ?_⟩
  refine a2 B G0 G H σ env _ c ?_
  simp only [xUn] at p
  cases o : f env with
  | no => rw [o] at p; exact p
  | ex n => rw [o] at p; exact p
  | ok d =>
    rw [o] at p
    intro v H1 G1 s1 c1 r1
    cases d with
    | bl k => cases r1; exact ⟨k, rfl, p _ H1 G1 s1 c1 (.bl _)⟩
    | int i => exact p.elim
    | non => exact p.elim
    | str _ => exact p.elim
    | lst _ => exact p.elim
    | tup _ => exact p.elim
    | scr _ => exact p.elim
@[simp] def negD : D → Option D
  | .int i => some (.int (-i))
  | _ => none
theorem de_neg (ha : DE X W a f) : DE X W (.UnaryOp .USub a pos) (xUn negD f) := by
  obtain ⟨_, a1, a2⟩ := ha.ex
  refine ⟨_, pe_un un_neg a1, a2.un ?_⟩
  intro B G0 G H σ env x a d Q c r h k
  cases a with
  | int i => cases r; cases h; exact ⟨i, rfl, k _ H G (Same.refl G) c (.int _)⟩
  | bl _ => cases h
  | non => cases h
  | str _ => cases h
  | lst _ => cases h
  | tup _ => cases h
  | scr _ => cases h
end
end DL

namespace DL
open PySem PySem.Spec PyProof.Rows L2

/-! ### comprehensions -/
def wipeE (env : DEnv) : List Nat → DEnv
  | [] => env
  | v :: vs => (wipeE env vs).set v .un
theorem wipeE_len (env : DEnv) : ∀ vs, (wipeE env vs).length = env.length
  | [] => rfl
  | v :: vs => by unfold wipeE; rw [List.length_set, wipeE_len env vs]
theorem wipeE_out {env : DEnv} {i : Nat} : ∀ {vs : List Nat}, i ∉ vs → (wipeE env vs)[i]? = env[i]?
  | [], _ => rfl
  | v :: vs, h => by
    unfold wipeE
    rw [List.getElem?_set_ne (fun z => h (by simp [z])), wipeE_out (fun z => h (List.mem_cons_of_mem _ z))]
theorem wipeE_in {env : DEnv} {i : Nat} : ∀ {vs : List Nat}, i ∈ vs → i < env.length → (wipeE env vs)[i]? = some .un
  | v :: vs, h, hl => by
    unfold wipeE
    by_cases e : v = i
    · subst e; rw [List.getElem?_set_self (by rw [wipeE_len]; exact hl)]
    · rw [List.getElem?_set_ne e]
      rcases List.mem_cons.mp h with z | z
      · exact absurd z.symm e
      · exact wipeE_in z hl
theorem wipe_in {σ : L2.St} {i : Nat} : ∀ {vs : List Nat}, i ∈ vs → i < σ.length → (wipe σ vs)[i]? = some none
  | v :: vs, h, hl => by
    unfold wipe
    by_cases e : v = i
    · subst e; rw [List.getElem?_set_self (by rw [wipe_length]; exact hl)]
    · rw [List.getElem?_set_ne e]
      rcases List.mem_cons.mp h with z | z
      · exact absurd z.symm e
      · exact wipe_in z hl
theorem wipe_eq {σ σ2 : L2.St} {vs : List Nat} (hl : σ2.length = σ.length) (h : ∀ i, i ∉ vs → σ2[i]? = σ[i]?) : wipe σ2 vs = wipe σ vs := by
  refine List.ext_getElem? fun i => ?_
  by_cases hi : i ∈ vs
  · by_cases hr : i < σ.length
    · rw [wipe_in hi hr, wipe_in hi (by omega)]
    · rw [List.getElem?_eq_none (by rw [wipe_length]; omega), List.getElem?_eq_none (by rw [wipe_length]; omega)]
  · rw [wipe_out hi, wipe_out hi, h i hi]

/-! canonical readings: they don't lean on the context -/
def tEF (K : KW) (mg : Str → Option Value) (W : WX) (f : DEnv → M D) : TE := fun σ H Q => ∃ B G0 G env, Cn K B G0 G σ H env ∧ PoE K mg W B G0 G σ env Q (f env)
def tTF (K : KW) (mg : Str → Option Value) (W : WX) (f : DEnv → M Bool) : TT := fun σ H Q => ∃ B G0 G env, Cn K B G0 G σ H env ∧ PoT K mg W B G0 G σ env Q (f env)
def gF (K : KW) (is : List Nat) (h : DTgt) : TG := fun v σ H Q => ∃ B G0 G env e' d, Cn K B G0 G σ H env ∧ Rep K G v d ∧ h d env = some e' ∧ (∀ σ' H' G', Same G G' → Cn K B G0 G' σ' H' e' → But is σ σ' env e' → Q σ' H')
abbrev W0 : WX := fun _ _ _ _ => False
section
variable {X : Cx} {W : WX} {e : Expr}
theorem DE.canon {f : DEnv → M D} (h : DE X W e f) : PE X e (tEF (kw X) X.mg W f) := by
  obtain ⟨te, a1, a2⟩ := h.ex
  exact ⟨fun pins s σ H Q I ⟨B, G0, G, env, c, p⟩ => a1.run pins s σ H Q I (a2 B G0 G H σ env Q c p)⟩
theorem DT.canon {f : DEnv → M Bool} (h : DT X W e f) : PT X e (tTF (kw X) X.mg W f) := by
  obtain ⟨te, a1, a2⟩ := h.ex
  exact ⟨fun pins s σ H Q I ⟨B, G0, G, env, c, p⟩ => a1.run pins s σ H Q I (a2 B G0 G H σ env Q c p)⟩
theorem DG.canon {is : List Nat} {h : DTgt} (g : DG X is e h) : PG X e (gF (kw X) is h) := by
  obtain ⟨te, a1, a2⟩ := g.ex
  exact ⟨fun pins s σ H v u Q I r ⟨B, G0, G, env, e', d, c, rv, he, k⟩ => a1.run pins s σ H v u Q I r (a2 c rv he k)⟩
end

def cLoop (t : DTgt) (c : DEnv → M Bool) (f : DEnv → M D) (e0 : DEnv) : List D → M (List D)
  | [] => .ok []
  | d :: ds => match t d e0 with
    | none => .no
    | some e => match c e with
      | .ok true => match f e with
        | .ok y => match cLoop t c f e0 ds with
          | .ok ys => .ok (y :: ys)
          | _ => .no
        | _ => .no
      | .ok false => cLoop t c f e0 ds
      | _ => .no
def Cel.isOwned : Cel → Bool
  | .own _ => true
  | .dic _ => true
  | _ => false
@[simp] def lComp (vs : List Nat) (it : DEnv → M (List D)) (t : DTgt) (c : DEnv → M Bool) (f : DEnv → M D) (env : DEnv) : M (List D) :=
  (it env).bind fun ds => if ds.length < sizeLine ∧ (vs.all fun i => match env[i]? with | some s => !s.isOwned | none => true) = true then (match cLoop t c f (wipeE env vs) ds with | .ok ys => .ok ys | _ => .no) else .no
theorem cLoop_len {t : DTgt} {c : DEnv → M Bool} {f : DEnv → M D} {e0 : DEnv} : ∀ {ds ys : List D}, cLoop t c f e0 ds = .ok ys → ys.length ≤ ds.length
  | [], ys, h => by cases h; exact Nat.le_refl _
  | d :: ds, ys, h => by
    unfold cLoop at h
    split at h
    · cases h
    · split at h
      · split at h
        · split at h
          · rename_i q
            cases h
            have := cLoop_len q
            simp only [List.length_cons]
            omega
          · cases h
        · cases h
      · have := cLoop_len h
        simp only [List.length_cons]
        omega
      · cases h
section
variable {K : KW} {B B' G0 G G' H H' : Hp} {σ σ2 : L2.St} {env e' : DEnv} {p : Addr} {o : HO}
/-- no own thing of the slots stands at p -/
def Apart (σ : L2.St) (env : DEnv) (p : Addr) : Prop := ∀ (i : Nat) (s : Cel), env[i]? = some s → s.owned → σ[i]? ≠ some (some (.ref p))
theorem Cn.apart (c : Cn K B G0 G σ H env) (hp : H p = none) : Apart σ env p := fun i s e ho q => by
  obtain ⟨o, e1, h⟩ := c.cel i s e
  rw [q] at e1
  cases e1
  cases s with
  | un => exact ho
  | dat d => exact ho
  | fdc d => exact ho
  | exc d => exact ho
  | own xs => obtain ⟨p', vs, e2, _, _, hp', _⟩ := h; cases e2; rw [hp] at hp'; cases hp'
  | dic xs => obtain ⟨p', vs, e2, _, _, hp', _⟩ := h; cases e2; rw [hp] at hp'; cases hp'
theorem Cn.cels (c : Cn K B G0 G σ H env) (ap : Apart σ env p) (hH : ∀ a, a ≠ p → H' a = H a) (hB : ∀ a, a ≠ p → B' a = B a) : ∀ (i : Nat) (s : Cel), env[i]? = some s → ∃ o, σ[i]? = some o ∧ CelAt K B' G H' s o := fun i s e => by
  obtain ⟨o, e1, h⟩ := c.cel i s e
  refine ⟨o, e1, ?_⟩
  cases s with
  | un => trivial
  | dat d => exact h
  | fdc d => exact h
  | exc d => exact h
  | own xs =>
    obtain ⟨q, vs, e2, gp, bp, hp', r⟩ := h
    have ne : q ≠ p := fun z => ap i _ e trivial (by rw [e1, e2, z])
    exact ⟨q, vs, e2, gp, by rw [hB _ ne]; exact bp, by rw [hH _ ne]; exact hp', r⟩
  | dic xs =>
    obtain ⟨q, vs, e2, gp, bp, hp', r⟩ := h
    have ne : q ≠ p := fun z => ap i _ e trivial (by rw [e1, e2, z])
    exact ⟨q, vs, e2, gp, by rw [hB _ ne]; exact bp, by rw [hH _ ne]; exact hp', r⟩
/-- the thing at p, which nobody knows, is kept through what follows -/
theorem Cn.under (c : Cn K B G0 G σ H env) (hp : H p = some o) (gp : G p = none) (ap : Apart σ env p) : Cn K (upd B p o) G G σ H env where
  len := c.len
  exB := fun a x e => by
    by_cases z : a = p
    · subst z; rw [upd_same] at e; cases e; exact hp
    · rw [upd_ne z] at e; exact c.exB _ _ e
  exG := c.exG
  ex0 := Same.refl G
  new := fun a h => .inl h
  cel := c.cels ap (fun a z => rfl) fun a z => upd_ne z
  sep := c.sep
/-- the thing at p, which nobody knows, is changed -/
theorem Cn.poke (c : Cn K B G0 G σ H env) (gp : G p = none) (bp : B p = none) (ap : Apart σ env p) : Cn K B G0 G σ (upd H p o) env where
  len := c.len
  exB := fun a x e => by rw [upd_ne (ne_of_none e bp)]; exact c.exB _ _ e
  exG := fun a x e => by rw [upd_ne (ne_of_none e gp)]; exact c.exG _ _ e
  ex0 := c.ex0
  new := c.new
  cel := c.cels ap (fun a z => upd_ne z) fun a z => rfl
  sep := c.sep
def less (H : Hp) (p : Addr) : Hp := fun a => if a = p then none else H a
theorem less_ne {a : Addr} (h : a ≠ p) : less H p a = H a := by unfold less; rw [if_neg h]
theorem less_self : less H p p = none := by unfold less; rw [if_pos rfl]
theorem upd_less (h : H p = some o) : upd (less H p) p o = H := by
  funext a
  by_cases z : a = p
  · subst z; rw [upd_same, h]
  · rw [upd_ne z, less_ne z]
/-- .. is forgotten -/
theorem Cn.minus (c : Cn K B G0 G σ H env) (gp : G p = none) (bp : B p = none) (ap : Apart σ env p) : Cn K B G0 G σ (less H p) env where
  len := c.len
  exB := fun a x e => by rw [less_ne (ne_of_none e bp)]; exact c.exB _ _ e
  exG := fun a x e => by rw [less_ne (ne_of_none e gp)]; exact c.exG _ _ e
  ex0 := c.ex0
  new := c.new
  cel := c.cels ap (fun a z => less_ne z) fun a z => rfl
  sep := c.sep
/-- from the block back to the def -/
theorem Cn.back {vs is : List Nat} (c0 : Cn K B G0 G σ H env) (bp : B p = none) (c1 : Cn K (upd B p o) G G' σ2 H' e') (sub : ∀ i ∈ is, i ∈ vs) (bt : But is (wipe σ vs) σ2 (wipeE env vs) e')
    (no : ∀ i ∈ vs, ∀ s, env[i]? = some s → s.isOwned = false) : Cn K B G0 G' σ H' env where
  len := c0.len
  exB := (same_upd bp).trans c1.exB
  exG := c1.exG
  ex0 := c0.ex0.trans c1.ex0
  new := fun a h => by
    rcases c1.new a h with z | z
    · exact c0.new a z
    · exact .inr ((same_upd bp).free z)
  cel := fun i s e => by
    obtain ⟨o0, e0, h0⟩ := c0.cel i s e
    refine ⟨o0, e0, ?_⟩
    by_cases hi : i ∈ vs
    · have q := no i hi s e
      cases s with
      | un => trivial
      | dat d => obtain ⟨v, e2, r⟩ := h0; exact ⟨v, e2, r.up c1.ex0⟩
      | exc d => exact h0
      | fdc d => obtain ⟨q, vs, od, e2, gp, r⟩ := h0; exact ⟨q, vs, od, e2, c1.ex0 _ _ gp, L2.Paired.mapP r fun _ _ z => z.up c1.ex0⟩
      | own xs => cases q
      | dic xs => cases q
    · obtain ⟨b1, b2⟩ := bt.2 i fun z => hi (sub i z)
      rw [wipeE_out hi] at b1
      rw [wipe_out hi] at b2
      obtain ⟨o1, e1, h1⟩ := c1.cel i s (b1.trans e)
      rw [b2, e0] at e1
      cases e1
      cases s with
      | un => trivial
      | dat d => exact h1
      | fdc d => exact h1
      | exc d => exact h1
      | own xs => obtain ⟨q, vs, e2, gp, bp', hp', r⟩ := h1; exact ⟨q, vs, e2, gp, (same_upd bp).free bp', hp', r⟩
      | dic xs => obtain ⟨q, vs, e2, gp, bp', hp', r⟩ := h1; exact ⟨q, vs, e2, gp, (same_upd bp).free bp', hp', r⟩
  sep := c0.sep
theorem Cn.wiped (c : Cn K B G0 G σ H env) (vs : List Nat) : Cn K B G0 G (wipe σ vs) H (wipeE env vs) := by
  refine c.weak (by rw [wipe_length, wipeE_len, c.len]) fun i s e => ?_
  by_cases hi : i ∈ vs
  · have hl : i < env.length := by
      have := (List.getElem?_eq_some_iff.mp e).1
      rw [wipeE_len] at this
      exact this
    rw [wipeE_in hi hl] at e
    cases e
    exact .inl rfl
  · rw [wipeE_out hi] at e
    exact .inr ⟨e, wipe_out hi⟩
end
section
variable {K : KW} {mg : Str → Option Value} {W : WX}
theorem RdL.comp {wi : TI} {it : DEnv → M (List D)} {t : DTgt} {c : DEnv → M Bool} {f : DEnv → M D} {is vs : List Nat} (hi : RdI K mg W wi it) (sub : ∀ i ∈ is, i ∈ vs) :
    RdL K mg W (tLc wi (gF K is t) (tTF K mg W0 c) (tEF K mg W0 f) vs) (lComp vs it t c f) := by
  intro B G0 G H σ env Q cn po
  refine hi B G0 G H σ env _ cn ?_
  simp only [lComp] at po
  cases o : it env with
  | no => rw [o] at po; exact po
  | ex n => rw [o] at po; exact po
  | ok ds =>
    rw [o] at po
    simp only [M.bind] at po
    intro J H1 G1 s1 c1 jok
    split at po
    · rename_i hcond
      obtain ⟨hlen, hno⟩ := hcond
      have no : ∀ i ∈ vs, ∀ s, env[i]? = some s → s.isOwned = false := fun i hi s e => by
        have q := List.all_eq_true.mp hno i hi
        rw [e] at q
        simpa using q
      cases q : cLoop t c f (wipeE env vs) ds with
      | no => rw [q] at po; exact po.elim
      | ex n => rw [q] at po; exact po.elim
      | ok total =>
        rw [q] at po
        intro Dl hD
        have ap : Apart σ env Dl := c1.apart hD
        have bD : B Dl = none := c1.exB.free hD
        have gD : G1 Dl = none := c1.exG.free hD
        refine ⟨fun i m H => m = ds.length - i ∧ ∃ G2 acc ys zs, Same G1 G2 ∧ Cn K B G0 G2 σ H env ∧ H Dl = some (.lst acc) ∧ G2 Dl = none ∧ Reps K G2 acc ys ∧ ys.length ≤ i ∧ cLoop t c f (wipeE env vs) (ds.drop i) = .ok zs ∧ total = ys ++ zs,
          ⟨ds.length, rfl, G1, [], [], total, Same.refl _, c1.poke gD bD ap, upd_same, gD, .nil, Nat.zero_le _, q, rfl⟩, ?_⟩
        rintro i m H2 ⟨rfl, G2, acc, ys, zs, s2, c2, hD2, gD2, ra, hys, hz, ht⟩
        by_cases hi : i < ds.length
        · have hd : ds[i]? = some ds[i] := List.getElem?_eq_getElem hi
          obtain ⟨j1, _⟩ := jok B G0 G2 σ H2 env i s2 c2
          obtain ⟨go, _⟩ := j1 _ hd
          rw [List.drop_eq_getElem_cons hi] at hz
          refine .inr ⟨go, fun H => ∃ G2 acc ys zs, Same G1 G2 ∧ Cn K B G0 G2 σ H env ∧ H Dl = some (.lst acc) ∧ G2 Dl = none ∧ Reps K G2 acc ys ∧ ys.length ≤ i + 1 ∧ cLoop t c f (wipeE env vs) (ds.drop (i + 1)) = .ok zs ∧ total = ys ++ zs,
            fun H' h => ⟨ds.length - (i + 1), by omega, rfl, h⟩, fun x H3 y => ?_⟩
          have cU := c2.under hD2 gD2 ap
          obtain ⟨k1, _⟩ := jok (upd B Dl (.lst acc)) G2 G2 σ H2 env i s2 cU
          obtain ⟨G3, s3, c3, r3⟩ := (k1 _ hd).2 x H3 y
          have key : ∀ {G4 : Hp} {σ' : L2.St} {H4 : Hp} {e4 : DEnv}, Cn K (upd B Dl (.lst acc)) G2 G4 σ' H4 e4 → G4 Dl = none := fun {G4 σ' H4 e4} c4 => by
            cases z : G4 Dl with
            | none => rfl
            | some w =>
              rcases c4.new Dl (by rw [z]; intro k; cases k) with k | k
              · exact absurd gD2 k
              · rw [upd_same] at k; cases k
          unfold cLoop at hz
          cases kt : t ds[i] (wipeE env vs) with
          | none => rw [kt] at hz; cases hz
          | some e1 =>
            rw [kt] at hz
            refine ⟨upd B Dl (.lst acc), G2, G3, wipeE env vs, e1, ds[i], c3.wiped vs, r3, kt, fun σ4 H4 G4 s4 c4 bt => ⟨wipe_eq ?_ ?_, ?_⟩⟩
            · rw [c4.len, bt.1, wipeE_len, c2.len]
            · intro j hj
              rw [(bt.2 j fun z => hj (sub j z)).2, wipe_out hj]
            · refine ⟨upd B Dl (.lst acc), G2, G4, e1, c4, ?_⟩
              simp only at hz
              cases kc : c e1 with
              | no => rw [kc] at hz; cases hz
              | ex n => rw [kc] at hz; cases hz
              | ok b =>
                rw [kc] at hz
                intro H5 G5 s5 c5
                cases b with
                | false =>
                  refine iteF ⟨G5, acc, ys, zs, s2.trans ((s3.trans s4).trans s5), c2.back bD c5 sub bt no, c5.exB _ _ upd_same, key c5, ra.up ((s3.trans s4).trans s5), by omega, hz, ht⟩
                | true =>
                  refine iteT ⟨upd B Dl (.lst acc), G2, G5, e1, c5, ?_⟩
                  simp only at hz
                  cases kf : f e1 with
                  | no => rw [kf] at hz; cases hz
                  | ex n => rw [kf] at hz; cases hz
                  | ok y =>
                    rw [kf] at hz
                    intro v H6 G6 s6 c6 r6
                    simp only at hz
                    cases kl : cLoop t c f (wipeE env vs) (ds.drop (i + 1)) with
                    | no => rw [kl] at hz; cases hz
                    | ex n => rw [kl] at hz; cases hz
                    | ok zs' =>
                      rw [kl] at hz
                      cases hz
                      have cB := c2.back bD c6 sub bt no
                      have s26 := ((s3.trans s4).trans s5).trans s6
                      refine ⟨acc, c6.exB _ _ upd_same, by rw [ra.length]; omega, G6, acc ++ [v], ys ++ [y], zs', s2.trans s26, cB.poke (key c6) bD ap, upd_same, key c6, (ra.up s26).append (.one r6), (by simp; omega), rfl, (by rw [ht]; simp)⟩
        · refine .inl ⟨(jok B G0 G2 σ H2 env i s2 c2).2 (by omega), ?_⟩
          rw [List.drop_of_length_le (by omega)] at hz
          cases hz
          rw [List.append_nil] at ht
          subst ht
          have z := po Dl acc (less H2 Dl) G2 (s1.trans s2) (c2.minus gD2 bD ap) less_self ra
          rw [upd_less hD2] at z
          exact z
    · exact po.elim
end
section
variable {X : Cx} {W : WX} {elt tg iter c : Expr}
/-- [elt for tg in iter] -/
theorem dl_comp {scope : Scope} {own : List (Str × Nat)} {pos : Pos} {it : DEnv → M (List D)} {t : DTgt} {f : DEnv → M D} {is : List Nat} (own' : List (Str × Nat)) (ho : own' = own) (hc : X.calm = true) (hN : X.N.Nodup) (hi : DI X W tg iter it) (ok : BlkOk X.N X.env.scope scope own)
    (hg : ∀ (s : Shared) (H : Hp) (C : Addr) (cl : List (Str × Addr)) (fp : List Addr), DG (X.blk s H scope (compEnvC scope cl C X.env) fp) is tg t)
    (he : ∀ (s : Shared) (H : Hp) (C : Addr) (cl : List (Str × Addr)) (fp : List Addr), DE (X.blk s H scope (compEnvC scope cl C X.env) fp) W0 elt f)
    (sub : ∀ i ∈ is, i ∈ own.map (·.2)) (hs : ∀ x, foldedSetIterable iter X.env x = pure x := by intro _; rfl) :
    DLs X W (.ListComp elt [⟨tg, iter, [], 0⟩] scope pos) (lComp (own.map (·.2)) it t (fun _ => .ok true) f) := by
  obtain ⟨wi, i1, i2⟩ := hi.ex
  refine ⟨_, pe_lc (tt := tTF (kw X) X.mg W0 (fun _ => .ok true)) hc hN i1 ok (fun s H C cl fp => (hg s H C cl fp).canon) (fun s H C cl fp => ?_) (fun s H C cl fp => (he s H C cl fp).canon) hs, RdL.comp i2 sub⟩
  exact ⟨fun pins s σ H Q I ⟨B, G0, G, env, cn, p⟩ => wpAny_tests_nil ⟨H, I, p H G (Same.refl G) cn⟩⟩
/-- [elt for tg in iter if c] -/
theorem dl_compIf {scope : Scope} {own : List (Str × Nat)} {pos : Pos} {it : DEnv → M (List D)} {t : DTgt} {k : DEnv → M Bool} {f : DEnv → M D} {is : List Nat} (own' : List (Str × Nat)) (ho : own' = own) (hc : X.calm = true) (hN : X.N.Nodup) (hi : DI X W tg iter it) (ok : BlkOk X.N X.env.scope scope own)
    (hg : ∀ (s : Shared) (H : Hp) (C : Addr) (cl : List (Str × Addr)) (fp : List Addr), DG (X.blk s H scope (compEnvC scope cl C X.env) fp) is tg t)
    (ht : ∀ (s : Shared) (H : Hp) (C : Addr) (cl : List (Str × Addr)) (fp : List Addr), DT (X.blk s H scope (compEnvC scope cl C X.env) fp) W0 c k)
    (he : ∀ (s : Shared) (H : Hp) (C : Addr) (cl : List (Str × Addr)) (fp : List Addr), DE (X.blk s H scope (compEnvC scope cl C X.env) fp) W0 elt f)
    (sub : ∀ i ∈ is, i ∈ own.map (·.2)) (hs : ∀ x, foldedSetIterable iter X.env x = pure x := by intro _; rfl) :
    DLs X W (.ListComp elt [⟨tg, iter, [c], 0⟩] scope pos) (lComp (own.map (·.2)) it t k f) := by
  obtain ⟨wi, i1, i2⟩ := hi.ex
  exact ⟨_, pe_lc hc hN i1 ok (fun s H C cl fp => (hg s H C cl fp).canon) (fun s H C cl fp => pts_one (ht s H C cl fp).canon) (fun s H C cl fp => (he s H C cl fp).canon) hs, RdL.comp i2 sub⟩
end
end DL

namespace DL
open PySem PySem.Spec PyProof.Rows L2

/-! ### raise -/
/-- the own exception class that the module's name x holds -/
structure ExcF (K : PySem.W.Frag) (mg : Str → Option Value) (x : Str) : Prop where
  ex : ∃ C, mg x = some (.ref C) ∧ PySem.W.excIn K C [.type "ValueError", .type "Exception", .type "BaseException", .type "object"] "ValueError.__new__" = true ∧ PySem.W.keepIn K (.ref C) = true ∧
    PySem.W.subIn K (.ref C) (.type "BaseException") = some true ∧ PySem.W.typeIn K (.ref C) = some (.type "type")
@[simp] def sRaise (c : Str) : DStm := fun env => .ex c env
section
variable {X : Cx} {W : WX} {e : Expr} {f g : DEnv → M D} {pos p : Pos}
theorem ds_raise {x m : Str} {j : Nat} {p p2 pos pos2 : Pos} (T : ExcF X.K X.mg x) (tk : Takes X W) (hc : X.calm = true := by rfl) (hg : Gl X x := by rfl) (hdb : (x == ("__debug__" : Str)) = false := by decide) :
    DS X W (.Raise (some (.Call (.Name x p) [.Constant (.str m) j p2] [] pos)) none pos2) (sRaise x) := by
  obtain ⟨C, h1, h2, h3, h4, h5⟩ := T.ex
  refine ⟨_, ps_raise hc tk (pmk_own PySem.F.excBase_ValueError h2 h1 h3 (raises_own h4 h5) hg hdb), fun B G0 G H σ env E c po => ?_⟩
  exact po _ σ H G h1 c
/-! ### name = [..] -/
theorem ds_setC (i : Nat) {x : Str} {pos' : Pos} {elt tg iter : Expr} {ifs : List Expr} {scope : Scope} {own : List (Str × Nat)} {it : DEnv → M (List D)} {t : DTgt} {k : DEnv → M Bool} {is : List Nat} (hN : X.N.Nodup) (hc : X.calm = true) (hx : X.env.scope.names.lookup x = some .local) (hsw : swapsWith (.ListComp elt [⟨tg, iter, ifs, 0⟩] scope p) (some (.Name x pos')) pos.line X.env = pure true)
    (hi : DI X W tg iter it) (ok : BlkOk X.N X.env.scope scope own)
    (hg : ∀ (s : Shared) (H : Hp) (C : Addr) (cl : List (Str × Addr)) (fp : List Addr), DG (X.blk s H scope (compEnvC scope cl C X.env) fp) is tg t)
    (ht : ∀ (s : Shared) (H : Hp) (C : Addr) (cl : List (Str × Addr)) (fp : List Addr), PTs (X.blk s H scope (compEnvC scope cl C X.env) fp) ifs (tTF (kw X) X.mg W0 k))
    (he : ∀ (s : Shared) (H : Hp) (C : Addr) (cl : List (Str × Addr)) (fp : List Addr), DE (X.blk s H scope (compEnvC scope cl C X.env) fp) W0 elt f)
    (sub : ∀ i ∈ is, i ∈ own.map (·.2)) (hn : X.N[i]? = some x := by rfl) (hs : ∀ x, foldedSetIterable iter X.env x = pure x := by intro _; rfl) :
    DS X W (.Assign [.Name x pos'] (.ListComp elt [⟨tg, iter, ifs, 0⟩] scope p) pos) (sSet i (xL (lComp (own.map (·.2)) it t k f))) := by
  obtain ⟨wi, i1, i2⟩ := hi.ex
  refine ⟨_, ps_setLc (g := gF (kw X) is t) (tt := tTF (kw X) X.mg W0 k) (te := tEF (kw X) X.mg W0 f) hc hN hn hx hsw i1 ok (fun s H C cl fp => (hg s H C cl fp).canon) ht (fun s H C cl fp => (he s H C cl fp).canon) hs, fun B G0 G H σ env E c po => ?_⟩
  refine RdL.dat (RdL.comp i2 sub) B G0 G H σ env _ c ?_
  simp only [sSet] at po
  cases o : xL (lComp (own.map (·.2)) it t k f) env with
  | no => rw [o] at po; exact po
  | ex n => rw [o] at po; exact PoX.s po
  | ok d =>
    rw [o] at po
    exact fun v H1 G1 s1 c1 r1 => po _ H1 G1 s1 (c1.set i r1)
theorem ds_ownC (i : Nat) {x : Str} {pos' : Pos} {elt tg iter : Expr} {ifs : List Expr} {scope : Scope} {own : List (Str × Nat)} {it : DEnv → M (List D)} {t : DTgt} {k : DEnv → M Bool} {is : List Nat} (hN : X.N.Nodup) (hc : X.calm = true) (hx : X.env.scope.names.lookup x = some .local) (hsw : swapsWith (.ListComp elt [⟨tg, iter, ifs, 0⟩] scope p) (some (.Name x pos')) pos.line X.env = pure true)
    (hi : DI X W tg iter it) (ok : BlkOk X.N X.env.scope scope own)
    (hg : ∀ (s : Shared) (H : Hp) (C : Addr) (cl : List (Str × Addr)) (fp : List Addr), DG (X.blk s H scope (compEnvC scope cl C X.env) fp) is tg t)
    (ht : ∀ (s : Shared) (H : Hp) (C : Addr) (cl : List (Str × Addr)) (fp : List Addr), PTs (X.blk s H scope (compEnvC scope cl C X.env) fp) ifs (tTF (kw X) X.mg W0 k))
    (he : ∀ (s : Shared) (H : Hp) (C : Addr) (cl : List (Str × Addr)) (fp : List Addr), DE (X.blk s H scope (compEnvC scope cl C X.env) fp) W0 elt f)
    (sub : ∀ i ∈ is, i ∈ own.map (·.2)) (hn : X.N[i]? = some x := by rfl) (hs : ∀ x, foldedSetIterable iter X.env x = pure x := by intro _; rfl) :
    DS X W (.Assign [.Name x pos'] (.ListComp elt [⟨tg, iter, ifs, 0⟩] scope p) pos) (sOwn i (lComp (own.map (·.2)) it t k f)) := by
  obtain ⟨wi, i1, i2⟩ := hi.ex
  refine ⟨_, ps_setLc (g := gF (kw X) is t) (tt := tTF (kw X) X.mg W0 k) (te := tEF (kw X) X.mg W0 f) hc hN hn hx hsw i1 ok (fun s H C cl fp => (hg s H C cl fp).canon) ht (fun s H C cl fp => (he s H C cl fp).canon) hs, fun B G0 G H σ env E c po => ?_⟩
  refine RdL.comp i2 sub B G0 G H σ env _ c ?_
  simp only [sOwn] at po
  cases o : lComp (own.map (·.2)) it t k f env with
  | no => rw [o] at po; exact po
  | ex n => rw [o] at po; exact PoX.s po
  | ok d =>
    rw [o] at po
    intro q vs H1 G1 s1 c1 hq r1
    exact po _ _ G1 s1 (c1.setOwn i hq ⟨q, vs, rfl, c1.exG.free hq, c1.exB.free hq, upd_same, r1⟩)
theorem pts_no {K : KW} {mg : Str → Option Value} : PTs X [] (tTF K mg W0 (fun _ => .ok true)) :=
  ⟨fun pins s σ H Q I ⟨B, G0, G, env, cn, p⟩ => wpAny_tests_nil ⟨H, I, p H G (Same.refl G) cn⟩⟩
theorem pts_if {c : Expr} {k : DEnv → M Bool} (h : DT X W0 c k) : PTs X [c] (tTF (kw X) X.mg W0 k) := pts_one h.canon
/-! ### how many targets -/
theorem gsl_nil {ds : List D} {env e' : DEnv} (h : gsNil ds env = some e') : ds.length = 0 := by
  cases ds with
  | nil => rfl
  | cons _ _ => cases h
theorem gsl_cons {t : DTgt} {u : List D → DEnv → Option DEnv} {n : Nat} (hu : ∀ ds env e', u ds env = some e' → ds.length = n) : ∀ ds env e', gsCons t u ds env = some e' → ds.length = n + 1 := by
  intro ds env e' h
  cases ds with
  | nil => cases h
  | cons d ds =>
    simp only [gsCons, Option.bind_eq_some_iff] at h
    obtain ⟨e1, _, h2⟩ := h
    simp [hu _ _ _ h2]
/-! ### texts -/
def strsOf : List D → Option (List Str)
  | [] => some []
  | .str s :: r => (strsOf r).map (s :: ·)
  | _ => none
theorem strsOf_map : ∀ {xs : List D} {ns : List Str}, strsOf xs = some ns → xs = ns.map D.str
  | [], ns, h => by cases h; rfl
  | .str i :: r, ns, h => by
    simp only [strsOf, Option.map_eq_some_iff] at h
    obtain ⟨ms, h1, rfl⟩ := h
    rw [strsOf_map h1]
    rfl
  | .non :: _, _, h => by cases h
  | .bl _ :: _, _, h => by cases h
  | .int _ :: _, _, h => by cases h
  | .lst _ :: _, _, h => by cases h
  | .tup _ :: _, _, h => by cases h
  | .scr _ :: _, _, h => by cases h
theorem strsOf_strs : ∀ ns : List Str, strsOf (ns.map D.str) = some ns
  | [] => rfl
  | n :: r => by simp [strsOf, strsOf_strs r]
end
def fuel : Nat := 4000000
def intAD (ds : List D) : Option D := match intD ds with
  | some d => some d
  | none => intSD ds
theorem cx_intA {X : Cx} : CbX X (.type "int") intAD := by
  obtain ⟨r1, a1, a2⟩ := (cx_int (X := X)).ex
  obtain ⟨r2, b1, b2⟩ := (cx_intS (X := X)).ex
  refine ⟨_, a1.or b1, ?_⟩
  intro B G0 G H σ env vs ds d Q c r h k
  unfold intAD at h
  split at h
  · rename_i q
    cases h
    exact .inl (a2 _ _ _ _ _ _ _ _ _ _ c r q k)
  · exact .inr (b2 _ _ _ _ _ _ _ _ _ _ c r h k)
/-! ### the end -/
/-- the law's promise -/
def spEnd (K : PySem.W.Frag) : Sp := fun vs H Q _ => ∃ (a : Addr) (ns : List Int), vs = [.ref a] ∧ SqL K H a (ns.map V.int) ∧ ns.length ≤ 63 ∧ ∀ H', Q (.bl true) H'
theorem sp_law {w : World} {K : PySem.W.Frag} {mg : Str → Option Value} {g : List D → M D} (h : ∀ ns : List Int, ns.length ≤ 63 → g [.scr ns] = .ok (.bl true)) (vs : List V) (H : Hp) (Q : VK) (E : XK) (x : spEnd K vs H Q E) : spD ⟨K, w⟩ mg 1 g vs H Q E := by
  obtain ⟨a, ns, rfl, hS, hl, q⟩ := x
  refine ⟨rfl, H, [.scr ns], Same.refl H, .cons (.scr hS) .nil, ?_⟩
  rw [h ns hl]
  intro v H' G' _ _ _ _ r
  cases r
  exact q H'
theorem cx_no {P : Program} {w : World} {H : Hp} {s : Shared} {e : Value} {s' : Shared} (h : L2.CX P w [] H s (fun _ _ _ => False) e s') : False := by
  obtain ⟨_, _, _, _, _, _, _, _, _, _, _, _, z⟩ := h
  exact z
theorem glob_str {K : PySem.W.Frag} {mg : Str → Option Value} {h : Heap} {x : Str} {v : Value} (X : K.In h) (G : h.Ns mainGlobals mg) (a : PySem.W.nsIn K mainGlobals x = some (some v)) : mg x = some v := PySem.W.mg_of X G a
end DL

namespace DL
open PySem PySem.Spec PyProof.Rows L2

/-! ### methods of texts -/
def asS : D → M Str
  | .str s => .ok s
  | _ => .no
/-- a method of a text with one argument -/
@[simp] def xM1 (h : D → D → Option D) (f g : DEnv → M D) (env : DEnv) : M D := (f env).bind fun a => (asS a).bind fun _ => (g env).bind fun b => .of (h a b)
/-- one that gives a new list -/
@[simp] def lM1 (h : D → D → Option (List D)) (f g : DEnv → M D) (env : DEnv) : M (List D) := (f env).bind fun a => (asS a).bind fun _ => (g env).bind fun b => .of (h a b)
section
variable {K : KW} {mg : Str → Option Value} {W : WX} {ta tb te : TE} {f g : DEnv → M D}
theorem asS_ok {d : D} {s : Str} (h : asS d = .ok s) : d = .str s := by
  cases d <;> simp [asS] at h
  rw [h]
theorem asS_ex {d : D} {c : Str} (h : asS d = .ex c) : False := by
  cases d <;> simp [asS] at h
theorem RdE.m1 {r : V → List V → Hp → VK → Prop} {h : D → D → Option D} (ha : RdE K mg W ta f) (hb : RdE K mg W tb g) (hr : OpD K (fun x y H Q => r x [y] H Q) h) :
    RdE K mg W (tM1 r ta tb) (xM1 h f g) := by
  intro B G0 G H σ env Q c p
  refine ha B G0 G H σ env _ c ?_
  simp only [xM1] at p
  cases e : f env with
  | no => rw [e] at p; exact p
  | ex n => rw [e] at p; exact p
  | ok a =>
    rw [e] at p
    intro v1 H1 G1 s1 c1 r1
    simp only [M.bind] at p
    cases e2 : asS a with
    | no => rw [e2] at p; exact p.elim
    | ex n => exact (asS_ex e2).elim
    | ok s =>
      rw [e2] at p
      simp only [M.bind] at p
      have hs := asS_ok e2
      subst hs
      refine ⟨⟨s, by cases r1; rfl⟩, hb B G0 G1 H1 σ env _ c1 ?_⟩
      cases e3 : g env with
      | no => rw [e3] at p; exact p
      | ex n => rw [e3] at p; exact p
      | ok b =>
        rw [e3] at p
        intro v2 H2 G2 s2 c2 r2
        simp only [M.bind] at p
        cases e4 : h (.str s) b with
        | none => rw [e4] at p; exact p.elim
        | some d =>
          rw [e4] at p
          exact hr _ _ _ _ _ _ _ _ _ _ _ _ c2 (r1.up s2) r2 e4 fun v H' G' s' c' r' => p v H' G' ((s1.trans s2).trans s') c' r'
theorem RdL.m1 {h : D → D → Option (List D)} {r : V → List V → Hp → VK → Prop} (ha : RdE K mg W ta f) (hb : RdE K mg W tb g)
    (hr : ∀ (G H : Hp) (x y : V) (a b : D) (ds : List D) (Q : VK), Same G H → Rep K G x a → Rep K G y b → h a b = some ds → (∃ vs, Reps K G vs ds ∧ ((∀ p, H p = none → Q (.ref p) (upd H p (.lst vs))) → r x [y] H Q))) :
    RdL K mg W (tM1 r ta tb) (lM1 h f g) := by
  intro B G0 G H σ env Q c p
  refine ha B G0 G H σ env _ c ?_
  simp only [lM1] at p
  cases e : f env with
  | no => rw [e] at p; exact p
  | ex n => rw [e] at p; exact p
  | ok a =>
    rw [e] at p
    intro v1 H1 G1 s1 c1 r1
    simp only [M.bind] at p
    cases e2 : asS a with
    | no => rw [e2] at p; exact p.elim
    | ex n => exact (asS_ex e2).elim
    | ok s =>
      rw [e2] at p
      simp only [M.bind] at p
      have hs := asS_ok e2
      subst hs
      refine ⟨⟨s, by cases r1; rfl⟩, hb B G0 G1 H1 σ env _ c1 ?_⟩
      cases e3 : g env with
      | no => rw [e3] at p; exact p
      | ex n => rw [e3] at p; exact p
      | ok b =>
        rw [e3] at p
        intro v2 H2 G2 s2 c2 r2
        simp only [M.bind] at p
        cases e4 : h (.str s) b with
        | none => rw [e4] at p; exact p.elim
        | some d =>
          rw [e4] at p
          obtain ⟨vs, rv, k⟩ := hr G2 H2 v1 v2 _ _ d Q c2.exG (r1.up s2) r2 e4
          exact k fun q hq => p q vs H2 G2 (s1.trans s2) c2 hq rv
end
def splitL : D → D → Option (List D)
  | .str a, .str b => if (b.length == 0) = false ∧ a.length + 2 ≤ sizeLine then some ((Txt.split a b).map D.str) else none
  | _, _ => none
def joinD : D → D → Option D
  | .str a, .lst xs => match strsOf xs with
    | some ys => if (ys.map (·.length)).sum + ys.length * a.length ≤ 16777216 then some (.str (Txt.join a ys)) else none
    | none => none
  | _, _ => none
section
variable {X : Cx} {W : WX} {o e : Expr} {f g : DEnv → M D} {apos pos : Pos}
theorem dl_split (ho : DE X W o f) (he : DE X W e g) (hs : starEach [e] X.env = [(false, eval e X.env)] := by rfl) (hbase : attributeBase o "split" X.env (eval o X.env) = eval o X.env := by rfl) (hline : (apos.endLine == pos.line) = true := by rfl) :
    DLs X W (.Call (.Attribute o "split" apos) [e] [] pos) (lM1 splitL f g) := by
  obtain ⟨_, a1, a2⟩ := ho.ex
  obtain ⟨_, b1, b2⟩ := he.ex
  refine ⟨_, pe_split a1 b1 hs hbase hline, RdL.m1 a2 b2 ?_⟩
  intro G H x y a b ds Q s ra rb h
  unfold splitL at h
  split at h
  · split at h
    · rename_i hc
      cases h
      cases ra; cases rb
      exact ⟨_, Reps.strs _, fun k => ⟨_, _, rfl, rfl, hc.1, hc.2, k⟩⟩
    · cases h
  · cases h
theorem de_join (ho : DE X W o f) (he : DE X W e g) (hs : starEach [e] X.env = [(false, eval e X.env)] := by rfl) (hbase : attributeBase o "join" X.env (eval o X.env) = eval o X.env := by rfl) (hline : (apos.endLine == pos.line) = true := by rfl) :
    DE X W (.Call (.Attribute o "join" apos) [e] [] pos) (xM1 joinD f g) := by
  obtain ⟨_, a1, a2⟩ := ho.ex
  obtain ⟨_, b1, b2⟩ := he.ex
  refine ⟨_, pe_join a1 b1 hs hbase hline, RdE.m1 a2 b2 ?_⟩
  intro B G0 G H σ env x y a b d Q c ra rb h k
  unfold joinD at h
  split at h
  · split at h
    · split at h
      · rename_i xs ys q hc
        cases h
        have e := strsOf_map q
        subst e
        cases ra
        cases rb with
        | lst g1 g2 =>
          have e2 := Reps.of_strs g2
          subst e2
          exact ⟨_, _, ys, rfl, rfl, .inl (.inl (.inl (c.exG _ _ g1))), hc, k _ H G (Same.refl G) c (.str _)⟩
      · cases h
    · cases h
  · cases h
end

/-! ### try, where nothing is raised -/
@[simp] def noX : DOut → DOut
  | .ex _ _ => .no
  | o => o
@[simp] def sThru (g : DStm) : DStm := fun env => noX (g env)
section
variable {X : Cx} {W : WX} {body : List Stmt} {h₀ : ExceptHandler} {hs : List ExceptHandler} {g : DStm} {pos : Pos}
theorem ds_thru (hb : DSs X.nox W0 body g) : DS X W (.Try body (h₀ :: hs) [] [] pos) (sThru g) := by
  obtain ⟨_, a1, a2⟩ := hb.ex
  refine ⟨_, ps_try_thru0 a1, fun B G0 G H σ env E c po => ?_⟩
  refine a2 B G0 G H σ env E c ?_
  simp only [sThru] at po
  cases o : g env with
  | ex n e => rw [o] at po; exact po.elim
  | nx e => rw [o] at po; exact po
  | rt e => rw [o] at po; exact po
  | bk e => rw [o] at po; exact po
  | ct e => rw [o] at po; exact po
  | no => rw [o] at po; exact po
end
end DL

/-! dicts whose keys are whole numbers or tuples of any depth, in one dict -/
namespace DX
open PySem PySem.Spec PyProof.Rows L2 DL
/-- v is the key k: a whole number or a tuple -/
structure IsK (h : Heap) (k : NestedKey) (v : Value) : Prop where
  is : NestedIs h k v
  dep : k.depth ≤ 8
  top : (∃ i t, v = .int i t) ∨ ∃ a, v = .ref a
section
variable {prog : Program} {w : World} {A : Around} {E : Value → Shared → Prop} {s : Shared} {es : Array DictEntry} {xs : List Ent} {k : NestedKey} {v : Value}
theorem ent_at (he : es.toList = xs.map (entD w)) (j : Nat) : es[j]? = (xs[j]?).map (entD w) := by
  rw [← Array.getElem?_toList, he, List.getElem?_map]
def spots (w : World) (es : Array DictEntry) (k : NestedKey) : List Nat := placesWithHash es.size (fun i => es[i]?.map (·.hash)) (k.hash w)
theorem spots_mem (he : es.toList = xs.map (entD w)) {i : Nat} (h : i ∈ spots w es k) : ∃ x, xs[i]? = some x ∧ es[i]? = some (entD w x) ∧ x.1.hash w = k.hash w := by
  unfold spots placesWithHash at h
  obtain ⟨h1, h2⟩ := List.mem_filter.mp h
  dsimp only at h2
  have h3 := ent_at (w := w) he i
  cases q : xs[i]? with
  | none =>
    rw [h3, q] at h2
    simp at h2
  | some x =>
    rw [q] at h3
    refine ⟨x, rfl, h3, ?_⟩
    rw [h3] at h2
    simpa [entD] using h2
theorem spots_in (he : es.toList = xs.map (entD w)) {i : Nat} {x : Ent} (h : xs[i]? = some x) (hk : x.1 = k) : i ∈ spots w es k := by
  unfold spots placesWithHash
  have h3 := ent_at (w := w) he i
  rw [h] at h3
  refine List.mem_filter.mpr ⟨List.mem_range.mpr ?_, ?_⟩
  · have := (Array.getElem?_eq_some_iff.mp h3).1
    exact this
  · dsimp only
    rw [h3]
    simp [entD, hk]
theorem spots_nodup : (spots w es k).Nodup := List.Pairwise.filter _ List.nodup_range
/-- u == v of two keys -/
theorem eq_keys {x : NestedKey} {u : Value} {Q : Bool → Shared → Prop} (hu : A.units + 8 < cLine) (hx : IsK s.heap x u) (hk : IsK s.heap k v) (h : Q (decide (x = k)) s) : wpAny (model prog w) A (eqBool u v) Q E s := by
  have := eqAt_key x k A s u v hx.is hk.is (by have := hx.dep; omega)
  exact this _ _ _ _ (by rw [← NestedKey.decide_eq]; exact h)
theorem plain_find {d : Addr} {o : Obj} {ep : Nat} {Q : Option Nat → Shared → Prop} (hu : A.units + 8 < cLine) (hk : IsK s.heap k v) (ho : s.heap.get? d = some o) (hd : o.data = .dict es ep) (he : es.toList = xs.map (entD w))
    (his : ∀ x ∈ xs, IsK s.heap x.1 x.2.1) (hn : (xs.map (·.1)).Nodup) (hnone : (∀ x ∈ xs, x.1 ≠ k) → Q none s) (hsome : ∀ (j : Nat) (x : Ent), xs[j]? = some x → x.1 = k → Q (some j) s) :
    wpAny (model prog w) A (dictWalkPlain d v (k.hash w) es (spots w es k)) Q E s := by
  unfold dictWalkPlain
  refine wpAny_bind ?_
  refine wpAny_forIn_list _ (fun rest b s' => s' = s ∧ b = (none, ()) ∧ (∀ i ∈ rest, i ∈ spots w es k) ∧ (∀ i ∈ spots w es k, i ∉ rest → ∀ x, xs[i]? = some x → x.1 ≠ k)) _ ?_ ?_ _ _ ⟨rfl, rfl, fun i h => h, fun i h1 h2 => absurd h1 h2⟩
  · rintro i rest b s' ⟨rfl, rfl, h1, h2⟩
    obtain ⟨x, e1, e2, e3⟩ := spots_mem he (h1 i List.mem_cons_self)
    rw [e2]
    dsimp only
    have hh : ((entD w x).hash == k.hash w) = true := by simp [entD, e3]
    rw [if_pos hh]
    refine wpAny_bind (wpAny_dictEpoch ho hd (wpAny_bind (eq_keys hu (his x (List.mem_of_getElem? e1)) hk (wpAny_bind (wpAny_dictEpoch ho hd ?_)))))
    rw [if_neg (by simp)]
    by_cases hkk : x.1 = k
    · rw [decide_eq_true hkk, if_pos rfl]
      exact wpAny_bind (wpAny_rule (wpAny_pure (wpAny_pure (hsome i x e1 hkk))))
    · rw [decide_eq_false hkk, if_neg (by decide)]
      refine wpAny_bind (wpAny_rule (wpAny_pure ⟨rfl, rfl, fun j hj => h1 j (List.mem_cons_of_mem _ hj), fun j hj hr y hy => ?_⟩))
      by_cases hji : j = i
      · subst hji
        rw [e1] at hy
        cases hy
        exact hkk
      · exact h2 j hj (fun z => by
          rcases List.mem_cons.mp z with z | z
          · exact hji z
          · exact hr z) y hy
  · rintro b s' ⟨rfl, rfl, h1, h2⟩
    refine wpAny_pure (hnone fun x hx hkk => ?_)
    obtain ⟨j, hj⟩ := List.mem_iff_getElem?.mp hx
    exact h2 j (spots_in he hj hkk) (by simp) x hj hkk
theorem tells_not {stored : List Value} {Q : Bool → Shared → Prop} (hk : IsK s.heap k v) (hst : ∀ u ∈ stored, ∃ k', IsK s.heap k' u) (h : Q false s) : wpAny (model prog w) A (tableMayTell v stored) Q E s := by
  unfold tableMayTell
  split
  · exact wpAny_pure h
  · refine wpAny_bind (quiet_key k v 8 s hk.is hk.dep _ _ _ ?_)
    rw [if_neg (by decide)]
    refine wpAny_bind ?_
    refine wpAny_forIn_list _ (fun rest r s' => s' = s ∧ r = (none, ()) ∧ ∀ u ∈ rest, ∃ k', IsK s.heap k' u) _ ?_ ?_ _ _ ⟨rfl, rfl, hst⟩
    · rintro u rest r s' ⟨rfl, rfl, hr⟩
      obtain ⟨k', hk'⟩ := hr u List.mem_cons_self
      refine wpAny_bind (quiet_key k' u 8 s' hk'.is hk'.dep _ _ _ ?_)
      rw [if_neg (by decide)]
      exact wpAny_pure ⟨rfl, rfl, fun y hy => hr y (List.mem_cons_of_mem _ hy)⟩
    · rintro r s' ⟨rfl, rfl, _⟩
      exact wpAny_pure h
theorem idx_same (hn : (xs.map (·.1)).Nodup) {i j : Nat} {x y : Ent} (hi : xs[i]? = some x) (hj : xs[j]? = some y) (e : x.1 = y.1) : i = j := by
  have hi' : (xs.map (·.1))[i]? = some x.1 := by rw [List.getElem?_map, hi]; rfl
  have hj' : (xs.map (·.1))[j]? = some x.1 := by rw [List.getElem?_map, hj, e]; rfl
  exact (List.getElem?_inj (List.getElem?_eq_some_iff.mp hi').1 hn).mp (hi'.trans hj'.symm)
theorem find_key {d : Addr} {o : Obj} {ep : Nat} {Q : Option Nat → Shared → Prop} (hu : A.units + 8 < cLine) (hk : IsK s.heap k v) (ho : s.heap.get? d = some o) (hd : o.data = .dict es ep) (he : es.toList = xs.map (entD w))
    (his : ∀ x ∈ xs, IsK s.heap x.1 x.2.1) (hn : (xs.map (·.1)).Nodup) (hnone : (∀ x ∈ xs, x.1 ≠ k) → Q none s) (hsome : ∀ (j : Nat) (x : Ent), xs[j]? = some x → x.1 = k → Q (some j) s) :
    wpAny (model prog w) A (dictFind d v (k.hash w)) Q E s := by
  have hst : ∀ u ∈ (spots w es k).filterMap (fun i => es[i]?.map (·.key)), ∃ k', IsK s.heap k' u := by
    intro u hu'
    obtain ⟨i, h1, h2⟩ := List.mem_filterMap.mp hu'
    obtain ⟨x, e1, e2, e3⟩ := spots_mem he h1
    rw [e2] at h2
    simp only [Option.map_some, Option.some.injEq] at h2
    subst h2
    exact ⟨x.1, his x (List.mem_of_getElem? e1)⟩
  have hany : ¬ (es.any fun e => e.key == v && e.hash != k.hash w) = true := by
    rw [← Array.any_toList, List.any_eq_true]
    rintro ⟨e, hin, hc⟩
    rw [he] at hin
    obtain ⟨x, hx, rfl⟩ := List.mem_map.mp hin
    simp only [entD, Bool.and_eq_true, beq_iff_eq, bne_iff_ne, ne_eq] at hc
    obtain ⟨c1, c2⟩ := hc
    have i1 := (his x hx).is
    rw [c1] at i1
    exact c2 (by rw [NestedIs.inj _ _ _ i1 hk.is])
  unfold dictFind
  try with_reducible refine wpAny_holding ?_
  refine wpAny_bind (wpAny_dictEntries ho hd ?_)
  dsimp only
  rcases hk.top with ⟨i0, t0, rfl⟩ | ⟨a0, rfl⟩
  · dsimp only
    by_cases hall : ((Value.int i0 t0 :: (spots w es k).filterMap (fun i => es[i]?.map (·.key))).all carriedByValue) = true
    · erw [if_pos hall]
      exact plain_find hu hk ho hd he his hn hnone hsome
    · erw [if_neg hall]
      by_cases hone : (((spots w es k).filterMap (fun i => es[i]?.map (·.key))) == [Value.int i0 t0]) = true
      · erw [if_pos hone]
        refine wpAny_bind (wpAny_pure ?_)
        rw [if_neg (by simp)]
        refine wpAny_bind ?_
        refine wpAny_forIn_list _ (fun rest b s' => s' = s ∧ rest.Nodup ∧ ∃ hit, b = (none, hit) ∧ (∀ i ∈ rest, i ∈ spots w es k) ∧
          ((hit = none ∧ ∀ i ∈ spots w es k, i ∉ rest → ∀ x, xs[i]? = some x → x.1 ≠ k) ∨ ∃ j x, hit = some j ∧ j ∉ rest ∧ xs[j]? = some x ∧ x.1 = k)) _ ?_ ?_ _ _ ⟨rfl, spots_nodup, none, rfl, fun i h => h, .inl ⟨rfl, fun i h1 h2 => absurd h1 h2⟩⟩
        · rintro i rest b s' ⟨rfl, nd, hit, rfl, h1, h2⟩
          obtain ⟨nd1, nd2⟩ := List.nodup_cons.mp nd
          obtain ⟨x, e1, e2, e3⟩ := spots_mem he (h1 i List.mem_cons_self)
          rw [e2]
          dsimp only
          have hh : ((entD w x).hash == k.hash w) = true := by simp [entD, e3]
          rw [if_pos hh]
          refine wpAny_bind (wpAny_dictEpoch ho hd (wpAny_bind (eq_keys hu (his x (List.mem_of_getElem? e1)) hk (wpAny_bind (wpAny_dictEpoch ho hd ?_)))))
          rw [if_neg (by simp)]
          by_cases hkk : x.1 = k
          · rw [decide_eq_true hkk, if_pos rfl]
            rcases h2 with ⟨rfl, h2⟩ | ⟨j, y, rfl, j1, j2, j3⟩
            · rw [if_neg (by simp)]
              refine wpAny_bind (wpAny_rule ?_)
              split
              · exact wpAny_pure (wpAny_pure (hsome i x e1 hkk))
              · exact wpAny_pure ⟨rfl, nd2, some i, rfl, fun j hj => h1 j (List.mem_cons_of_mem _ hj), .inr ⟨i, x, rfl, nd1, e1, hkk⟩⟩
            · refine absurd (idx_same hn e1 j2 (hkk.trans j3.symm)) fun z => j1 ?_
              rw [← z]
              exact List.mem_cons_self
          · rw [decide_eq_false hkk, if_neg (by decide)]
            refine wpAny_bind (wpAny_rule ?_)
            rw [if_neg (by simp)]
            refine wpAny_pure ⟨rfl, nd2, hit, rfl, fun j hj => h1 j (List.mem_cons_of_mem _ hj), ?_⟩
            rcases h2 with ⟨h0, h2⟩ | ⟨j, y, h0, j1, j2, j3⟩
            · refine .inl ⟨h0, fun j hj hr y hy => ?_⟩
              by_cases hji : j = i
              · subst hji
                rw [e1] at hy
                cases hy
                exact hkk
              · exact h2 j hj (fun z => by
                  rcases List.mem_cons.mp z with z | z
                  · exact hji z
                  · exact hr z) y hy
            · exact .inr ⟨j, y, h0, fun z => j1 (List.mem_cons_of_mem _ z), j2, j3⟩
        · rintro b s' ⟨rfl, nd, hit, rfl, h1, h2⟩
          rcases h2 with ⟨rfl, h2⟩ | ⟨j, y, rfl, j1, j2, j3⟩
          · refine wpAny_pure (hnone fun x hx hkk => ?_)
            obtain ⟨j, hj⟩ := List.mem_iff_getElem?.mp hx
            exact h2 j (spots_in he hj hkk) (by simp) x hj hkk
          · exact wpAny_pure (hsome j y j2 j3)
      · erw [if_neg hone]
        refine wpAny_bind (tells_not hk hst ?_)
        rw [if_neg (by simp)]
        refine wpAny_bind ?_
        refine wpAny_forIn_list _ (fun rest b s' => s' = s ∧ rest.Nodup ∧ ∃ hit, b = (none, hit) ∧ (∀ i ∈ rest, i ∈ spots w es k) ∧
          ((hit = none ∧ ∀ i ∈ spots w es k, i ∉ rest → ∀ x, xs[i]? = some x → x.1 ≠ k) ∨ ∃ j x, hit = some j ∧ j ∉ rest ∧ xs[j]? = some x ∧ x.1 = k)) _ ?_ ?_ _ _ ⟨rfl, spots_nodup, none, rfl, fun i h => h, .inl ⟨rfl, fun i h1 h2 => absurd h1 h2⟩⟩
        · rintro i rest b s' ⟨rfl, nd, hit, rfl, h1, h2⟩
          obtain ⟨nd1, nd2⟩ := List.nodup_cons.mp nd
          obtain ⟨x, e1, e2, e3⟩ := spots_mem he (h1 i List.mem_cons_self)
          rw [e2]
          dsimp only
          have hh : ((entD w x).hash == k.hash w) = true := by simp [entD, e3]
          rw [if_pos hh]
          refine wpAny_bind (wpAny_dictEpoch ho hd (wpAny_bind (eq_keys hu (his x (List.mem_of_getElem? e1)) hk (wpAny_bind (wpAny_dictEpoch ho hd ?_)))))
          rw [if_neg (by simp)]
          by_cases hkk : x.1 = k
          · rw [decide_eq_true hkk, if_pos rfl]
            rcases h2 with ⟨rfl, h2⟩ | ⟨j, y, rfl, j1, j2, j3⟩
            · rw [if_neg (by simp)]
              refine wpAny_bind (wpAny_rule ?_)
              split
              · exact wpAny_pure (wpAny_pure (hsome i x e1 hkk))
              · exact wpAny_pure ⟨rfl, nd2, some i, rfl, fun j hj => h1 j (List.mem_cons_of_mem _ hj), .inr ⟨i, x, rfl, nd1, e1, hkk⟩⟩
            · refine absurd (idx_same hn e1 j2 (hkk.trans j3.symm)) fun z => j1 ?_
              rw [← z]
              exact List.mem_cons_self
          · rw [decide_eq_false hkk, if_neg (by decide)]
            refine wpAny_bind (wpAny_rule ?_)
            rw [if_neg (by simp)]
            refine wpAny_pure ⟨rfl, nd2, hit, rfl, fun j hj => h1 j (List.mem_cons_of_mem _ hj), ?_⟩
            rcases h2 with ⟨h0, h2⟩ | ⟨j, y, h0, j1, j2, j3⟩
            · refine .inl ⟨h0, fun j hj hr y hy => ?_⟩
              by_cases hji : j = i
              · subst hji
                rw [e1] at hy
                cases hy
                exact hkk
              · exact h2 j hj (fun z => by
                  rcases List.mem_cons.mp z with z | z
                  · exact hji z
                  · exact hr z) y hy
            · exact .inr ⟨j, y, h0, fun z => j1 (List.mem_cons_of_mem _ z), j2, j3⟩
        · rintro b s' ⟨rfl, nd, hit, rfl, h1, h2⟩
          rcases h2 with ⟨rfl, h2⟩ | ⟨j, y, rfl, j1, j2, j3⟩
          · refine wpAny_pure (hnone fun x hx hkk => ?_)
            obtain ⟨j, hj⟩ := List.mem_iff_getElem?.mp hx
            exact h2 j (spots_in he hj hkk) (by simp) x hj hkk
          · exact wpAny_pure (hsome j y j2 j3)
  · dsimp only
    have hall : ¬ ((Value.ref a0 :: (spots w es k).filterMap (fun i => es[i]?.map (·.key))).all carriedByValue) = true := by simp [carriedByValue]
    erw [if_neg hall]
    erw [if_neg hany]
    by_cases hone : (((spots w es k).filterMap (fun i => es[i]?.map (·.key))) == [Value.ref a0]) = true
    · erw [if_pos hone]
      refine wpAny_bind (wpAny_pure ?_)
      rw [if_neg (by simp)]
      refine wpAny_bind ?_
      refine wpAny_forIn_list _ (fun rest b s' => s' = s ∧ rest.Nodup ∧ ∃ hit, b = (none, hit) ∧ (∀ i ∈ rest, i ∈ spots w es k) ∧
        ((hit = none ∧ ∀ i ∈ spots w es k, i ∉ rest → ∀ x, xs[i]? = some x → x.1 ≠ k) ∨ ∃ j x, hit = some j ∧ j ∉ rest ∧ xs[j]? = some x ∧ x.1 = k)) _ ?_ ?_ _ _ ⟨rfl, spots_nodup, none, rfl, fun i h => h, .inl ⟨rfl, fun i h1 h2 => absurd h1 h2⟩⟩
      · rintro i rest b s' ⟨rfl, nd, hit, rfl, h1, h2⟩
        obtain ⟨nd1, nd2⟩ := List.nodup_cons.mp nd
        obtain ⟨x, e1, e2, e3⟩ := spots_mem he (h1 i List.mem_cons_self)
        rw [e2]
        dsimp only
        have hh : ((entD w x).hash == k.hash w) = true := by simp [entD, e3]
        rw [if_pos hh]
        refine wpAny_bind (wpAny_dictEpoch ho hd (wpAny_bind (eq_keys hu (his x (List.mem_of_getElem? e1)) hk (wpAny_bind (wpAny_dictEpoch ho hd ?_)))))
        rw [if_neg (by simp)]
        by_cases hkk : x.1 = k
        · rw [decide_eq_true hkk, if_pos rfl]
          rcases h2 with ⟨rfl, h2⟩ | ⟨j, y, rfl, j1, j2, j3⟩
          · rw [if_neg (by simp)]
            refine wpAny_bind (wpAny_rule ?_)
            split
            · exact wpAny_pure (wpAny_pure (hsome i x e1 hkk))
            · exact wpAny_pure ⟨rfl, nd2, some i, rfl, fun j hj => h1 j (List.mem_cons_of_mem _ hj), .inr ⟨i, x, rfl, nd1, e1, hkk⟩⟩
          · refine absurd (idx_same hn e1 j2 (hkk.trans j3.symm)) fun z => j1 ?_
            rw [← z]
            exact List.mem_cons_self
        · rw [decide_eq_false hkk, if_neg (by decide)]
          refine wpAny_bind (wpAny_rule ?_)
          rw [if_neg (by simp)]
          refine wpAny_pure ⟨rfl, nd2, hit, rfl, fun j hj => h1 j (List.mem_cons_of_mem _ hj), ?_⟩
          rcases h2 with ⟨h0, h2⟩ | ⟨j, y, h0, j1, j2, j3⟩
          · refine .inl ⟨h0, fun j hj hr y hy => ?_⟩
            by_cases hji : j = i
            · subst hji
              rw [e1] at hy
              cases hy
              exact hkk
            · exact h2 j hj (fun z => by
                rcases List.mem_cons.mp z with z | z
                · exact hji z
                · exact hr z) y hy
          · exact .inr ⟨j, y, h0, fun z => j1 (List.mem_cons_of_mem _ z), j2, j3⟩
      · rintro b s' ⟨rfl, nd, hit, rfl, h1, h2⟩
        rcases h2 with ⟨rfl, h2⟩ | ⟨j, y, rfl, j1, j2, j3⟩
        · refine wpAny_pure (hnone fun x hx hkk => ?_)
          obtain ⟨j, hj⟩ := List.mem_iff_getElem?.mp hx
          exact h2 j (spots_in he hj hkk) (by simp) x hj hkk
        · exact wpAny_pure (hsome j y j2 j3)
    · erw [if_neg hone]
      refine wpAny_bind (tells_not hk hst ?_)
      rw [if_neg (by simp)]
      refine wpAny_bind ?_
      refine wpAny_forIn_list _ (fun rest b s' => s' = s ∧ rest.Nodup ∧ ∃ hit, b = (none, hit) ∧ (∀ i ∈ rest, i ∈ spots w es k) ∧
        ((hit = none ∧ ∀ i ∈ spots w es k, i ∉ rest → ∀ x, xs[i]? = some x → x.1 ≠ k) ∨ ∃ j x, hit = some j ∧ j ∉ rest ∧ xs[j]? = some x ∧ x.1 = k)) _ ?_ ?_ _ _ ⟨rfl, spots_nodup, none, rfl, fun i h => h, .inl ⟨rfl, fun i h1 h2 => absurd h1 h2⟩⟩
      · rintro i rest b s' ⟨rfl, nd, hit, rfl, h1, h2⟩
        obtain ⟨nd1, nd2⟩ := List.nodup_cons.mp nd
        obtain ⟨x, e1, e2, e3⟩ := spots_mem he (h1 i List.mem_cons_self)
        rw [e2]
        dsimp only
        have hh : ((entD w x).hash == k.hash w) = true := by simp [entD, e3]
        rw [if_pos hh]
        refine wpAny_bind (wpAny_dictEpoch ho hd (wpAny_bind (eq_keys hu (his x (List.mem_of_getElem? e1)) hk (wpAny_bind (wpAny_dictEpoch ho hd ?_)))))
        rw [if_neg (by simp)]
        by_cases hkk : x.1 = k
        · rw [decide_eq_true hkk, if_pos rfl]
          rcases h2 with ⟨rfl, h2⟩ | ⟨j, y, rfl, j1, j2, j3⟩
          · rw [if_neg (by simp)]
            refine wpAny_bind (wpAny_rule ?_)
            split
            · exact wpAny_pure (wpAny_pure (hsome i x e1 hkk))
            · exact wpAny_pure ⟨rfl, nd2, some i, rfl, fun j hj => h1 j (List.mem_cons_of_mem _ hj), .inr ⟨i, x, rfl, nd1, e1, hkk⟩⟩
          · refine absurd (idx_same hn e1 j2 (hkk.trans j3.symm)) fun z => j1 ?_
            rw [← z]
            exact List.mem_cons_self
        · rw [decide_eq_false hkk, if_neg (by decide)]
          refine wpAny_bind (wpAny_rule ?_)
          rw [if_neg (by simp)]
          refine wpAny_pure ⟨rfl, nd2, hit, rfl, fun j hj => h1 j (List.mem_cons_of_mem _ hj), ?_⟩
          rcases h2 with ⟨h0, h2⟩ | ⟨j, y, h0, j1, j2, j3⟩
          · refine .inl ⟨h0, fun j hj hr y hy => ?_⟩
            by_cases hji : j = i
            · subst hji
              rw [e1] at hy
              cases hy
              exact hkk
            · exact h2 j hj (fun z => by
                rcases List.mem_cons.mp z with z | z
                · exact hji z
                · exact hr z) y hy
          · exact .inr ⟨j, y, h0, fun z => j1 (List.mem_cons_of_mem _ z), j2, j3⟩
      · rintro b s' ⟨rfl, nd, hit, rfl, h1, h2⟩
        rcases h2 with ⟨rfl, h2⟩ | ⟨j, y, rfl, j1, j2, j3⟩
        · refine wpAny_pure (hnone fun x hx hkk => ?_)
          obtain ⟨j, hj⟩ := List.mem_iff_getElem?.mp hx
          exact h2 j (spots_in he hj hkk) (by simp) x hj hkk
        · exact wpAny_pure (hsome j y j2 j3)
/-- the entry of a key -/
def atD (xs : List Ent) (k : NestedKey) : Option Ent := xs.find? fun x => decide (x.1 = k)
theorem atD_none {xs : List Ent} {k : NestedKey} (h : ∀ x ∈ xs, x.1 ≠ k) : atD xs k = none := by
  unfold atD
  rw [List.find?_eq_none]
  intro x hx z
  exact h x hx (of_decide_eq_true z)
theorem atD_some : ∀ {xs : List Ent} {k : NestedKey} (_ : (xs.map (·.1)).Nodup) {j : Nat} {x : Ent}, xs[j]? = some x → x.1 = k → atD xs k = some x
  | [], _, _, _, _, h, _ => by simp at h
  | y :: ys, k, hn, 0, x, h, e => by
    simp only [List.getElem?_cons_zero, Option.some.injEq] at h
    subst h
    unfold atD
    rw [List.find?_cons, decide_eq_true e]
  | y :: ys, k, hn, j + 1, x, h, e => by
    simp only [List.getElem?_cons_succ] at h
    rw [List.map_cons, List.nodup_cons] at hn
    have ne : y.1 ≠ k := fun z => hn.1 (List.mem_map.mpr ⟨x, List.mem_of_getElem? h, e.trans z.symm⟩)
    have ih := atD_some hn.2 h e
    unfold atD at ih ⊢
    rw [List.find?_cons, decide_eq_false ne]
    exact ih
/-- d[k] = v -/
def putD (xs : List Ent) (k : NestedKey) (kv v : Value) : List Ent := if (atD xs k).isSome then xs.map (fun x => if x.1 = k then (x.1, x.2.1, v) else x) else xs ++ [(k, kv, v)]
theorem dget_key {d : Addr} {Q : Option Value → Shared → Prop} (hu : A.units + 8 < cLine) (hk : IsK s.heap k v) (hr : RawD w d xs s.heap) (his : ∀ x ∈ xs, IsK s.heap x.1 x.2.1)
    (h : Q ((atD xs k).map (·.2.2)) { s with toks := s.toks + k.draws }) : wpAny (model prog w) A (dictGet d v) Q E s := by
  obtain ⟨_, _, hn, o, es, ep, ho, _, hd, he⟩ := hr
  unfold dictGet
  try with_reducible refine wpAny_holding ?_
  refine wpAny_bind (pyHash_key k v A s _ hk.is (by have := hk.dep; omega) ?_)
  refine wpAny_bind (find_key (s := { s with toks := s.toks + k.draws }) hu ⟨hk.is, hk.dep, hk.top⟩ ho hd he (fun x hx => ⟨(his x hx).is, (his x hx).dep, (his x hx).top⟩) hn ?_ ?_)
  · intro hno
    rw [atD_none hno] at h
    exact wpAny_pure h
  · intro j x hj hx
    rw [atD_some hn hj hx] at h
    refine wpAny_bind (wpAny_dictEntries (s := { s with toks := s.toks + k.draws }) ho hd ?_)
    rw [ent_at he j, hj]
    exact wpAny_pure h
theorem map_put : ∀ {xs : List Ent} {k : NestedKey} {v : Value} (_ : (xs.map (·.1)).Nodup) {j : Nat} {x : Ent}, xs[j]? = some x → x.1 = k → (xs.map (entD w)).modify j (fun e => { e with val := v }) = (xs.map (fun x => if x.1 = k then (x.1, x.2.1, v) else x)).map (entD w)
  | [], _, _, _, _, _, h, _ => by simp at h
  | y :: ys, k, v, hn, 0, x, h, e => by
    simp only [List.getElem?_cons_zero, Option.some.injEq] at h
    subst h
    rw [List.map_cons, List.nodup_cons] at hn
    have rest : ys.map (fun x => if x.1 = k then (x.1, x.2.1, v) else x) = ys := by
      conv => rhs; rw [← List.map_id ys]
      refine List.map_congr_left fun z hz => ?_
      have ne : ¬ z.1 = k := fun q => hn.1 (List.mem_map.mpr ⟨z, hz, q.trans e.symm⟩)
      show (if z.1 = k then _ else z) = z
      rw [if_neg ne]
    rw [List.map_cons, List.map_cons, List.map_cons, rest, if_pos e]
    rfl
  | y :: ys, k, v, hn, j + 1, x, h, e => by
    simp only [List.getElem?_cons_succ] at h
    rw [List.map_cons, List.nodup_cons] at hn
    have ne : ¬ y.1 = k := fun z => hn.1 (List.mem_map.mpr ⟨x, List.mem_of_getElem? h, e.trans z.symm⟩)
    have ih := map_put (v := v) hn.2 h e
    rw [List.map_cons, List.map_cons, List.map_cons, if_neg ne, ← ih]
    rfl
theorem put_keys {xs : List Ent} {k : NestedKey} {v : Value} : (xs.map (fun x => if x.1 = k then (x.1, x.2.1, v) else x)).map (·.1) = xs.map (·.1) := by
  rw [List.map_map]
  refine List.map_congr_left fun x _ => ?_
  show (if x.1 = k then _ else x).1 = x.1
  split <;> rfl
theorem dset_key {d : Addr} {u : Value} {Q : Unit → Shared → Prop} (hu : A.units + 8 < cLine) (hk : IsK s.heap k v) (hr : RawD w d xs s.heap) (his : ∀ x ∈ xs, IsK s.heap x.1 x.2.1) (hsz : xs.length < sizeLine)
    (hQ : ∀ h', RawD w d (putD xs k v u) h' → Heap.SameBut d s.heap h' → Q () { s with heap := h', toks := s.toks + k.draws }) : wpAny (model prog w) A (dictSet d v u) Q E s := by
  obtain ⟨hl, hsys, hn, o, es, ep, ho, hc, hd, he⟩ := hr
  have hes : es.size = xs.length := by rw [← Array.length_toList, he, List.length_map]
  unfold dictSet
  try with_reducible refine wpAny_holding ?_
  refine wpAny_bind (pyHash_key k v A s _ hk.is (by have := hk.dep; omega) ?_)
  unfold dictSetHashed
  try with_reducible refine wpAny_holding ?_
  refine wpAny_bind (find_key (s := { s with toks := s.toks + k.draws }) hu ⟨hk.is, hk.dep, hk.top⟩ ho hd he (fun x hx => ⟨(his x hx).is, (his x hx).dep, (his x hx).top⟩) hn ?_ ?_)
  · intro hno
    have e0 : putD xs k v u = xs ++ [(k, v, u)] := by unfold putD; rw [atD_none hno]; rfl
    rw [e0] at hQ
    refine wpAny_bind (wpAny_rule (wpAny_updateDictKeys (hz := by omega) (s := { s with toks := s.toks + k.draws }) ho hd (hQ _ ⟨by simp; omega, hsys, ?_, _, _, ep + 1,
      Heap.get?_update_self _ ho (Obj.isFreed_of_dict (Obj.data_mapDictKeys hd _)), hc.mapDictKeys _, Obj.data_mapDictKeys hd _, ?_⟩ (Heap.SameBut.update ..))))
    · rw [List.map_append, List.nodup_append]
      refine ⟨hn, by simp, fun x hx y hy => ?_⟩
      simp only [List.map_cons, List.map_nil, List.mem_singleton] at hy
      subst hy
      obtain ⟨z, hz, rfl⟩ := List.mem_map.mp hx
      exact hno z hz
    · simp [he, entD]
  · intro j x hj hx
    have e0 : putD xs k v u = xs.map (fun x => if x.1 = k then (x.1, x.2.1, u) else x) := by unfold putD; rw [atD_some hn hj hx]; rfl
    rw [e0] at hQ
    refine wpAny_bind (wpAny_rule (wpAny_bind (wpAny_updateDict (s := { s with toks := s.toks + k.draws }) ho hd (wpAny_point (hQ _ ⟨by simp; omega, hsys, ?_, _, _, ep,
      Heap.get?_update_self _ ho (Obj.isFreed_of_dict (Obj.data_mapDict hd _)), hc.mapDict _, Obj.data_mapDict hd _, ?_⟩ (Heap.SameBut.update ..))))))
    · rw [put_keys]; exact hn
    · have := map_put (w := w) (v := u) hn hj hx
      rw [← he] at this
      obtain ⟨l⟩ := es
      simpa using this
theorem RawD.typeIs {d : Addr} (hr : RawD w d xs s.heap) : s.TypeIs (.ref d) "dict" := by
  obtain ⟨_, _, _, o, _, _, ho, hc, _⟩ := hr
  exact ⟨o, ho, hc.1⟩
theorem has_key {d : Addr} {Q : Bool → Shared → Prop} (hu : A.in1.units + 8 < cLine) (hk : IsK s.heap k v) (hr : RawD w d xs s.heap) (his : ∀ x ∈ xs, IsK s.heap x.1 x.2.1)
    (h : Q (atD xs k).isSome { s with toks := s.toks + k.draws }) : wpAny (model prog w) A (contains (.ref d) v) Q E s := by
  have hsys := hr.2.1
  have hty := RawD.typeIs hr
  refine wpAny_contains_slot hty PySem.F.slot_dict_contains ?_
  refine call_meetsIn PySem.F.slot_dict_contains hty PySem.F.entry_dict_contains (PySem.F.args_dict_contains_2 _ _)
    (S := fun A2 R s2 => A2 = A ∧ s2 = s ∧ R (.ok (.ret (.bool (atD xs k).isSome))) { s with toks := s.toks + k.draws }) (fun A2 R s2 hS => ?_) ⟨rfl, rfl, wpAny_truthy_bool h⟩
  obtain ⟨rfl, rfl, hq⟩ := hS
  show wpAny _ _ (dictGet d v >>= _) _ _ _
  refine wpAny_bind (dget_key hu hk hr his ?_)
  cases hf : atD xs k with
  | some p =>
    rw [hf] at hq
    exact (show wpAny _ _ (ret (.bool true)) _ _ _ from wpAny_pure hq)
  | none =>
    rw [hf] at hq
    exact (show wpAny _ _ (Builtin.Dict.pendingKey? d v >>= _) _ _ _ from wpAny_bind (wpAny_pendingKey_other hsys (wpAny_pure hq)))
/-- k in d -/
theorem in_key {d : Addr} {Q : Value → Shared → Prop} (hu : A.in1.units + 8 < cLine) (hk : IsK s.heap k v) (hr : RawD w d xs s.heap) (his : ∀ x ∈ xs, IsK s.heap x.1 x.2.1)
    (h : Q (.bool (atD xs k).isSome) { s with toks := s.toks + k.draws }) : wpAny (model prog w) A (compareOp .In v (.ref d)) Q E s :=
  (show wpAny _ _ (do return .bool (← contains (.ref d) v)) Q E s from wpAny_bind (has_key hu hk hr his (wpAny_pure h)))
/-- k not in d -/
theorem nin_key {d : Addr} {Q : Value → Shared → Prop} (hu : A.in1.units + 8 < cLine) (hk : IsK s.heap k v) (hr : RawD w d xs s.heap) (his : ∀ x ∈ xs, IsK s.heap x.1 x.2.1)
    (h : Q (.bool (!(atD xs k).isSome)) { s with toks := s.toks + k.draws }) : wpAny (model prog w) A (compareOp .NotIn v (.ref d)) Q E s :=
  (show wpAny _ _ (do return .bool (!(← contains (.ref d) v))) Q E s from wpAny_bind (has_key hu hk hr his (wpAny_pure h)))
/-- d[k] -/
theorem item_key {d : Addr} {x : Ent} {Q : Value → Shared → Prop} (hu : A.in1.units + 8 < cLine) (hk : IsK s.heap k v) (hr : RawD w d xs s.heap) (his : ∀ x ∈ xs, IsK s.heap x.1 x.2.1) (hx : atD xs k = some x)
    (h : Q x.2.2 { s with toks := s.toks + k.draws }) : wpAny (model prog w) A (getItem (.ref d) v) Q E s := by
  have hty := RawD.typeIs hr
  unfold getItem
  try with_reducible refine wpAny_holding ?_
  refine wpAny_bind (wpAny_sequenceKey hty (by decide) ?_)
  refine wpAny_bind (wpAny_callSpecial?_slot (name := Str.ofString "__getitem__") hty slot_dict_getitem (wpAny_call_entry slot_dict_getitem hty entry_dict_getitem ?_ (args_dict_getitem _ _)))
  show wpAny _ _ (dictGet d v >>= _) _ _ s
  refine wpAny_bind (dget_key hu hk hr his ?_)
  rw [hx]
  exact wpAny_pure ⟨x.2.2, rfl, wpAny_pure h⟩
/-- d[k] = u -/
theorem store_key {d : Addr} {u : Value} {Q : Unit → Shared → Prop} (hu : A.in1.units + 8 < cLine) (hk : IsK s.heap k v) (hr : RawD w d xs s.heap) (his : ∀ x ∈ xs, IsK s.heap x.1 x.2.1) (hsz : xs.length < sizeLine)
    (hQ : ∀ h', RawD w d (putD xs k v u) h' → Heap.SameBut d s.heap h' → Q () { s with heap := h', toks := s.toks + k.draws }) : wpAny (model prog w) A (setItem (.ref d) v u) Q E s := by
  have hty := RawD.typeIs hr
  unfold setItem
  try with_reducible refine wpAny_holding ?_
  refine wpAny_bind (wpAny_sequenceKey hty (by decide) ?_)
  refine wpAny_bind (wpAny_callSpecial?_slot (name := Str.ofString "__setitem__") hty slot_dict_setitem (wpAny_call_entry slot_dict_setitem hty entry_dict_setitem ?_ (args_dict_setitem _ _ _)))
  show wpAny _ _ (Builtin.Dict.notOrdered "__setitem__" ⟨[.ref d, v, u], []⟩ >>= _) _ _ s
  refine wpAny_bind (wpAny_notOrdered_dict hty ?_)
  show wpAny _ _ (dictSet d v u >>= _) _ _ s
  exact wpAny_bind (dset_key hu hk hr his hsz fun h' r' same => wpAny_pure ⟨.none, rfl, wpAny_pure (hQ h' r' same)⟩)
/-- d.get(k, u) -/
theorem meets_get2 (d : Addr) (v u : Value) (hsys : (d == sysModules) = false) :
    MeetsIn prog w (Builtin.«dict.get» ⟨[.ref d, v, u], []⟩) (fun A R s => A.in1.units + 8 < cLine ∧ ∃ k xs, IsK s.heap k v ∧ RawD w d xs s.heap ∧ (∀ x ∈ xs, IsK s.heap x.1 x.2.1) ∧
      R (.ok (.ret (((atD xs k).map (·.2.2)).getD u))) { s with toks := s.toks + k.draws }) :=
  .of_wp fun A R s ⟨hu, k, xs, hk, hr, his, h⟩ => by
    show wpAny _ _ (dictGet d v >>= _) _ _ s
    refine wpAny_bind (dget_key hu hk hr his ?_)
    cases hf : (atD xs k).map (·.2.2) with
    | some x =>
      rw [hf] at h
      exact wpAny_pure ⟨x, rfl, h⟩
    | none =>
      rw [hf] at h
      exact (show wpAny _ _ (Builtin.Dict.missed d v >>= _) _ _ _ from wpAny_bind (wpAny_missed_other hsys (wpAny_pure ⟨u, rfl, h⟩)))
end
end DX

namespace DX
open PySem PySem.Spec PyProof.Rows L2 DL

/-! ### keys in the abstract heap -/
def KeyIn (X : Cx) (H : Hp) (y : V) (k : NestedKey) : Prop := ∀ h u, HOk X.prog X.w H h → RelV y u → IsK h k u
def EntsIn (X : Cx) (H : Hp) (xs : List Ent) : Prop := ∀ h, HOk X.prog X.w H h → ∀ x ∈ xs, IsK h x.1 x.2.1
mutual
theorem nested_of {P : Program} {w : World} {K : KW} {G H : Hp} {h : Heap} (s : Same G H) (ok : HOk P w H h) : ∀ (d : D) (v : V) (u : Value) (k : NestedKey), keyD d = some k → Rep K G v d → RelV v u → NestedIs h k u
  | .non, _, _, k, e, r, rv => by
    cases r
    simp only [keyD, Option.some.injEq] at e
    subst e
    obtain rfl : _ = Value.none := rv
    exact .none
  | .int i, _, _, k, e, r, rv => by
    cases r
    simp only [keyD, Option.some.injEq] at e
    subst e
    obtain ⟨t, rfl⟩ := id rv
    exact .int _ _
  | .str x, _, _, k, e, r, rv => by
    cases r
    simp only [keyD, Option.some.injEq] at e
    subst e
    obtain ⟨t, rfl⟩ := id rv
    exact .text _ _
  | .tup xs, _, _, k, e, r, rv => by
    cases r with
    | @tup a vs _ g1 g2 =>
      simp only [keyD, Option.map_eq_some_iff] at e
      obtain ⟨ks, e1, rfl⟩ := e
      obtain rfl : _ = Value.ref a := rv
      obtain ⟨_, its, r2, ob, ho, hc, n, hd⟩ := ok a _ (s _ _ g1)
      exact .tup ho hc hd (by simpa using nested_all s ok xs vs its ks e1 g2 r2)
  | .bl _, _, _, k, e, _, _ => by simp [keyD] at e
  | .lst _, _, _, k, e, _, _ => by simp [keyD] at e
  | .scr _, _, _, k, e, _, _ => by simp [keyD] at e
theorem nested_all {P : Program} {w : World} {K : KW} {G H : Hp} {h : Heap} (s : Same G H) (ok : HOk P w H h) : ∀ (ds : List D) (vs : List V) (us : List Value) (ks : List NestedKey), keyDs ds = some ks → Reps K G vs ds → Vals vs us → NestedAll h ks us
  | [], _, _, ks, e, r, rv => by
    cases r; cases rv
    simp only [keyDs, Option.some.injEq] at e
    subst e
    exact .nil
  | d :: ds, _, _, ks, e, r, rv => by
    cases r with
    | cons r1 r2 =>
      cases rv with
      | cons q1 q2 =>
        unfold keyDs at e
        split at e
        · rename_i k ks' e1 e2
          cases e
          exact .cons (nested_of s ok d _ _ _ e1 r1 q1) (nested_all s ok ds _ _ _ e2 r2 q2)
        · cases e
end
theorem keyOk_inv {d : D} {k : NestedKey} (h : keyOk d = some k) : keyD d = some k ∧ k.depth ≤ 8 ∧ ((∃ i, d = .int i) ∨ ∃ xs, d = .tup xs) := by
  cases d with
  | int i =>
    simp only [keyOk, Option.some.injEq] at h
    subst h
    exact ⟨rfl, Nat.zero_le _, .inl ⟨i, rfl⟩⟩
  | tup xs =>
    simp only [keyOk, Option.bind_eq_some_iff] at h
    obtain ⟨ks, h1, h2⟩ := h
    split at h2
    · rename_i h3
      cases h2
      exact ⟨by simp [keyD, h1], h3, .inr ⟨xs, rfl⟩⟩
    · cases h2
  | non => simp [keyOk] at h
  | bl _ => simp [keyOk] at h
  | str _ => simp [keyOk] at h
  | lst _ => simp [keyOk] at h
  | scr _ => simp [keyOk] at h
theorem isK_of {P : Program} {w : World} {K : KW} {G H : Hp} {h : Heap} {d : D} {v : V} {u : Value} {k : NestedKey} (s : Same G H) (ok : HOk P w H h) (e : keyOk d = some k) (r : Rep K G v d) (rv : RelV v u) : IsK h k u := by
  obtain ⟨e1, e2, e3⟩ := keyOk_inv e
  refine ⟨nested_of s ok d v u k e1 r rv, e2, ?_⟩
  rcases e3 with ⟨i, rfl⟩ | ⟨xs, rfl⟩
  · cases r
    obtain ⟨t, rfl⟩ := id rv
    exact .inl ⟨_, _, rfl⟩
  · cases r with
    | @tup a vs _ g1 g2 => exact .inr ⟨a, rv⟩
theorem keyIn_of {X : Cx} {K : KW} {G H : Hp} {d : D} {v : V} {k : NestedKey} (s : Same G H) (e : keyOk d = some k) (r : Rep K G v d) : KeyIn X H v k := fun h u ok rv => isK_of s ok e r rv
theorem paired_mem {α β : Type} {F : α → β → Prop} : ∀ {l : List α} {m : List β}, Paired F l m → ∀ x ∈ l, ∃ y ∈ m, F x y
  | _, _, .nil, x, h => by cases h
  | _, _, .cons r t, x, h => by
    rcases List.mem_cons.mp h with rfl | h
    · exact ⟨_, List.mem_cons_self, r⟩
    · obtain ⟨y, hy, q⟩ := paired_mem t x h
      exact ⟨y, List.mem_cons_of_mem _ hy, q⟩
theorem entsIn_of {X : Cx} {K : KW} {G H : Hp} {xs : List Ent} {kvs : List (D × D)} (s : Same G H) (r : Paired (KRel K G) xs kvs) : EntsIn X H xs := fun h ok x hx => by
  obtain ⟨y, _, q⟩ := paired_mem r x hx
  obtain ⟨v, v1, v2⟩ := q.kv
  exact isK_of s ok q.key v2 v1
theorem raw_at {P : Program} {w : World} {H : Hp} {h : Heap} {a : Addr} {xs : List Ent} (r : Rd H a (DicO w a xs)) (ok : HOk P w H h) : RawD w a xs h := (r.ok ok).1
theorem raw_obj {P : Program} {w w' : World} {H : Hp} {h : Heap} {a : Addr} {xs : List Ent} (r : RawD w a xs h) : ObjOk P w' H h a (DicO w a xs) := by
  obtain ⟨r1, r2, r3, o, es, ep, ho, r4⟩ := id r
  exact ⟨r, ⟨o, ho⟩, fun h1 h2 ⟨q1, q2, q3, o', es', ep', ho', q4⟩ k => ⟨q1, q2, q3, o', es', ep', k _ ho', q4⟩⟩
theorem small1 : 1 ≤ sizeLine := by rw [sizeLine_eq]; decide
theorem in1_room {A : Around} (hu : A.units + 64 < cLine) : A.in1.units + 8 < cLine := by
  rw [Around.in1_units]
  omega

/-! ### readings -/
def tXGet (X : Cx) (td ty : TE) : TE := fun σ H Q => td σ H fun x H1 => ty σ H1 fun y H2 => ∃ a xs k e v, x = .ref a ∧ Rd H2 a (DicO X.w a xs) ∧ KeyIn X H2 y k ∧ EntsIn X H2 xs ∧ atD xs k = some e ∧ RelV v e.2.2 ∧ Q v H2
def rXIn (X : Cx) : R2 := fun x y H Q => ∃ a xs k, y = .ref a ∧ Rd H a (DicO X.w a xs) ∧ KeyIn X H x k ∧ EntsIn X H xs ∧ Q (.bl (atD xs k).isSome) H
def rXNin (X : Cx) : R2 := fun x y H Q => ∃ a xs k, y = .ref a ∧ Rd H a (DicO X.w a xs) ∧ KeyIn X H x k ∧ EntsIn X H xs ∧ Q (.bl (!(atD xs k).isSome)) H
def sXPut (X : Cx) (td ty tv : TE) : TS := fun D σ H => tv σ H fun v H1 => td σ H1 fun x H2 => ty σ H2 fun y H3 => ∃ a xs k, x = .ref a ∧ H3 a = some (DicO X.w a xs) ∧ KeyIn X H3 y k ∧ EntsIn X H3 xs ∧ xs.length < sizeLine ∧
  ∀ iv r, RelV y iv → RelV v r → D.nx σ (upd H3 a (DicO X.w a (putD xs k iv r)))
def tXNew (X : Cx) : TE := fun _ H Q => ∀ p, H p = none → Q (.ref p) (upd H p (DicO X.w p []))
def rXLen (X : Cx) : List V → Hp → VK → Prop := fun vs H Q => ∃ a xs, vs = [.ref a] ∧ Rd H a (DicO X.w a xs) ∧ Q (.int xs.length) H
def tXGet2 (X : Cx) (td ty tx : TE) : TE := fun σ H Q => td σ H fun x H1 => ∃ a xs0, x = .ref a ∧ Rd H1 a (DicO X.w a xs0) ∧ ty σ H1 fun y H2 => tx σ H2 fun z H3 => ∃ xs k v, Rd H3 a (DicO X.w a xs) ∧ KeyIn X H3 y k ∧ EntsIn X H3 xs ∧
  (∀ e, atD xs k = some e → RelV v e.2.2) ∧ (atD xs k = none → v = z) ∧ Q v H3
section
variable {X : Cx} {o i e f value : Expr} {pos pos' apos cpos : Pos} {td ty tv tx : TE}
theorem pe_xget (hu : X.A.units + 64 < cLine) (ho : PE X o td) (hi : PE X i ty) (hs : NoSl i) : PE X (.Subscript o i pos) (tXGet X td ty) := by
  refine ⟨fun pins s σ H Q I h => ?_⟩
  refine subD_of PySem.F.slot_dict_getitem.lookup hs (thn (ho.run pins s σ H _ I h) fun u s1 ⟨x, H1, I1, rx, q1⟩ => thn (hi.run pins s1 σ H1 _ I1 q1) fun iv s2 ⟨y, H2, I2, ry, a, xs, k, en, v, ex, hr, hk, he, hat, rv, q2⟩ => ?_)
  subst ex
  obtain rfl : u = Value.ref a := rx
  have raw := raw_at hr I2.hok
  exact ⟨RawD.typeIs raw, item_key (in1_room hu) (hk _ _ I2.hok ry) raw (he _ I2.hok) hat ⟨v, H2, I2.tok _, rv, q2⟩⟩
theorem or_xin (hu : X.A.units + 64 < cLine) : OpR X (compareOp .In) (rXIn X) := by
  intro pins s σ H x y v u Q I rx ry h
  obtain ⟨a, xs, k, rfl, hr, hk, he, q⟩ := h
  obtain rfl : u = Value.ref a := ry
  exact in_key (in1_room hu) (hk _ _ I.hok rx) (raw_at hr I.hok) (he _ I.hok) ⟨.bl _, H, I.tok _, rfl, q⟩
theorem or_xnin (hu : X.A.units + 64 < cLine) : OpR X (compareOp .NotIn) (rXNin X) := by
  intro pins s σ H x y v u Q I rx ry h
  obtain ⟨a, xs, k, rfl, hr, hk, he, q⟩ := h
  obtain rfl : u = Value.ref a := ry
  exact nin_key (in1_room hu) (hk _ _ I.hok rx) (raw_at hr I.hok) (he _ I.hok) ⟨.bl _, H, I.tok _, rfl, q⟩
theorem ps_xput (hu : X.A.units + 64 < cLine) (ho : PE X o td) (hi : PE X i ty) (hv : PE X value tv) (hs : swapsWith value (some (.Subscript o i pos')) pos.line X.env = pure false) :
    PS X (.Assign [.Subscript o i pos'] value pos) (sXPut X td ty tv) := by
  refine ⟨fun pins s σ H D I h => ?_⟩
  refine wpAny_Assign_Subscript (thn (hv.run pins s σ H _ I h) fun r s1 ⟨v, H1, I1, rv, q1⟩ => thn (ho.run pins s1 σ H1 _ I1 q1) fun u s2 ⟨x, H2, I2, rx, q2⟩ => thn (hi.run pins s2 σ H2 _ I2 q2) fun iv s3 ⟨y, H3, I3, ry, a, xs, k, ex, hr, hk, he, hl, q3⟩ => ?_) hs
  subst ex
  obtain rfl : u = Value.ref a := rx
  refine store_key (in1_room hu) (hk _ _ I3.hok ry) (raw_at (.inl hr) I3.hok) (he _ I3.hok) hl fun h' raw' same => ⟨σ, _, I3.write (e := a) (t' := s3.toks + k.draws) (by rw [hr]; trivial) (.inl rfl) (fun b u hb hu => (same.2 b hb).trans hu) ?_ (raw_obj raw'), q3 iv r ry rv⟩
  obtain ⟨_, _, _, ob, _, _, hob, _⟩ := raw'
  exact ⟨ob, hob⟩
theorem raw_empty {w : World} {h : Heap} (hb : sysModules < h.objs.size) : RawD w h.objs.size [] (h.push { cls := .type "dict", data := .dict #[] }) :=
  ⟨Nat.zero_le _, beq_eq_false_iff_ne.mpr (Ne.symm (Nat.ne_of_lt hb)), List.nodup_nil, _, #[], 0, Heap.get?_push_size _ rfl, ⟨rfl, rfl, rfl⟩, rfl, rfl⟩
theorem pe_xnew : PE X (.Dict [] [] pos) (tXNew X) := ⟨fun pins s σ H Q I h =>
  wpAny_Dict_empty ⟨.ref s.heap.objs.size, _, I.laid (a := s.heap.objs.size) (o := DicO X.w s.heap.objs.size []) (t' := s.toks) (fun _ _ q => Heap.get?_push_of_some _ q) (Nat.le_refl _) (raw_obj (raw_empty I.big)), rfl, h _ (I.hok.fresh (Nat.le_refl _))⟩⟩
theorem pe_xget2 (hu : X.A.units + 64 < cLine) (ho : PE X o td) (he : PE X e ty) (hf : PE X f tx) (m : M2 X o "get" apos e f cpos) : PE X (.Call (.Attribute o "get" apos) [e, f] [] cpos) (tXGet2 X td ty tx) := by
  refine ⟨fun pins s σ H Q I h => ?_⟩
  refine wpAny_Call_method m.base m.few m.line PySem.F.plainAttrs_dict PySem.F.slot_dict_get PySem.F.type_dict_get (thn (ho.run pins s σ H _ I h) fun u s1 ⟨x, H1, I1, rx, a, xs0, ex, d, q1⟩ => ?_)
  subst ex
  obtain rfl : u = Value.ref a := rx
  have raw0 := raw_at d I1.hok
  refine ⟨RawD.typeIs raw0, fun b q => ?_, ?_⟩
  · cases q
    obtain ⟨_, _, _, ob, _, _, h1, h2, _⟩ := raw0
    exact ⟨ob, h1, h2.2.1⟩
  rw [m.trees]
  refine Calls.callWith_builtin rfl (Calls.evalArgs_plain (Calls.spliced_cons (thn (he.run pins s1 σ H1 _ I1 q1) fun iv s2 ⟨y, H2, I2, ry, q2⟩ =>
    Calls.spliced_cons (thn (hf.run pins s2 σ H2 _ I2 q2) fun fv s3 ⟨z, H3, I3, rz, xs, k, v, hr, hk, hes, r1, r2, q3⟩ => Calls.spliced_nil ?_))))
  have raw := raw_at hr I3.hok
  refine call_meetsIn PySem.F.slot_dict_get (RawD.typeIs raw) PySem.F.entry_dict_get (PySem.F.args_dict_get_3 _ _ _) (meets_get2 a iv fv raw.2.1) ⟨in1_room hu, k, xs, hk _ _ I3.hok ry, raw, hes _ I3.hok, v, H3, I3.tok _, ?_, q3⟩
  cases ha : atD xs k with
  | some en => exact r1 en ha
  | none => rw [r2 ha]; exact rz
/-! ### {k: v} -/
def tXDisp1 (X : Cx) (tk tv : TE) : TE := fun σ H Q => ∀ p, H p = none → tk σ (upd H p (DicO X.w p [])) fun y H1 => tv σ H1 fun v H2 => H2 p = some (DicO X.w p []) ∧ ∃ a k, y = .ref a ∧ KeyIn X H2 y k ∧ ∀ r, RelV v r → Q (.ref p) (upd H2 p (DicO X.w p [(k, .ref a, r)]))
theorem pe_xdisp1 {k v : Expr} {tk tv : TE} (hu : X.A.units + 64 < cLine) (hk : PE X k tk) (hv : PE X v tv) (hsh : (evalEachOpt [some k] X.env).zip ((evalEach [v] X.env).map fun v => do let x ← v; standAt pos; pure x) = (pairTrees [some k] [v] X.env pos).map fun p => (some p.1, p.2) := by rfl) :
    PE X (.Dict [some k] [v] pos) (tXDisp1 X tk tv) := by
  refine ⟨fun pins s σ H Q I q => ?_⟩
  have hn := I.hok.fresh (Nat.le_refl s.heap.objs.size)
  have I1 := I.laid (a := s.heap.objs.size) (o := DicO X.w s.heap.objs.size []) (h' := s.heap.push { cls := .type "dict", data := .dict #[] }) (t' := s.toks) (fun _ _ q => Heap.get?_push_of_some _ q) (Nat.le_refl _) (raw_obj (raw_empty I.big))
  rw [arm_eval_Dict, hsh, dictDisplay_pairs _ (by simp [pairTrees]) (by simp [pairTrees])]
  refine wpAny_bind (wpAny_standAt (wpAny_bind (wpAny_subDictH (knd := nestedKind X.prog X.w) (Q := fun d s2 => wpAny (model X.prog X.w) X.A (pure (Value.ref d)) (EP X pins σ Q) X.xe s2) (show X.A.units + 8 < cLine by omega) (by simp [pairTrees]) ?_)))
  refine pairTrees_cons_walk (thn (hk.run pins _ σ _ _ I1 (q _ hn)) fun u s1 ⟨y, H1, I2, ry, q1⟩ => thn (hv.run pins s1 σ H1 _ I2 q1) fun r s2 ⟨x, H2, I3, rx, ep, a, key, ey, hkey, q2⟩ => pairTrees_nil_walk ?_)
  subst ey
  obtain rfl : u = Value.ref a := ry
  have isk := hkey _ _ I3.hok (show RelV (.ref a) (.ref a) from rfl)
  have raw0 := raw_at (.inl ep) I3.hok
  obtain ⟨z1, z2, z3, ob, es, en, z4, z5, z6, z7⟩ := id raw0
  refine ⟨[(key, a, r)], ⟨rfl, rfl, ⟨isk.is, isk.dep⟩, trivial⟩, ⟨ob, es, en, z4, z5, z6, z7, by simp, by simp⟩, fun h' tok dk same => wpAny_pure ⟨.ref s.heap.objs.size, _, ?_, rfl, q2 r rx⟩⟩
  obtain ⟨o2, es2, ep2, d1, d2, d3, d4, _, d5⟩ := dk
  have raw2 : RawD X.w s.heap.objs.size [(key, .ref a, r)] h' := ⟨small1, z2, by simp, o2, es2, ep2, d1, d2, d3, d4⟩
  exact I3.write (e := s.heap.objs.size) (t' := tok) (by rw [ep]; trivial) (.inl rfl) (fun b u hb hu => (same.2 b hb).trans hu) ⟨o2, d1⟩ (raw_obj raw2)
/-! ### len -/
theorem len_key {prog : Program} {w : World} {A : Around} {E : Value → Shared → Prop} {s : Shared} {d : Addr} {xs : List Ent} {Q : Value → Shared → Prop} (hr : RawD w d xs s.heap)
    (h : Q (.int xs.length (s.toks + 1)) { s with toks := s.toks + 1 + 1 }) : wpAny (model prog w) A (call (.builtin "len") [.ref d]) Q E s := by
  have hty := RawD.typeIs hr
  obtain ⟨hl, hsys, hn, o, es, ep, ho, hc, hd, he⟩ := hr
  have hes : es.size = xs.length := by rw [← Array.length_toList, he, List.length_map]
  have line := sizeLine_eq
  have m : MeetsIn prog w (Builtin.«dict.__len__» ⟨[.ref d], []⟩) (fun _ R s2 => s2 = s ∧ R (.ok (.ret (.int xs.length s2.toks))) { s2 with toks := s2.toks + 1 }) := .of_wp fun A R s2 ⟨e, q⟩ => by
    subst e
    show wpAny _ _ (dictSize d >>= _) _ _ s2
    unfold dictSize
    refine wpAny_bind (wpAny_bind (wpAny_dictEntries ho hd (wpAny_pure ?_)))
    show wpAny _ _ (Builtin.Dict.pendingCount d >>= _) _ _ s2
    refine wpAny_bind (wpAny_pendingCount_other hsys ?_)
    refine wpAny_ret_mkInt ?_
    rw [Nat.add_zero, hes]
    exact q
  refine Calls.call_function_entry kind_len plain_len entry_len (args_len1 _) ?_
  unfold Builtin.«len»
  refine wpAny_bind (m := oneArg "len" _) (wpAny_pure ?_)
  refine wpAny_bind (m := callSpecial? (.ref d) (Str.ofString "__len__")) (wpAny_callSpecial?_slot (name := Str.ofString "__len__") hty PySem.F.slot_dict_len
    (call_meetsIn PySem.F.slot_dict_len hty PySem.F.entry_dict_len (PySem.F.args_dict_len_1 _) m ⟨rfl, ?_⟩))
  show wpAny _ _ _ _ _ { s with toks := s.toks + 1 }
  refine wpAny_bind (wpAny_holding (wpAny_pure ?_))
  refine wpAny_bind (wpAny_letGo ?_)
  show wpAny _ _ (if ((xs.length : Nat) : Int) < 0 then _ else _) _ _ _
  rw [if_neg (by omega)]
  show wpAny _ _ (if ((xs.length : Nat) : Int) ≥ 2 ^ 63 then _ else _) _ _ _
  rw [if_neg (by omega)]
  exact wpAny_bind (wpAny_mkInt (wpAny_pure ⟨_, rfl, h⟩))
theorem call_xlen : CallR X (.builtin "len") (rXLen X) := by
  intro pins s σ H vs us Q I r h
  obtain ⟨a, xs, rfl, hr, q⟩ := h
  cases r with
  | cons r1 r2 =>
    cases r2
    obtain rfl : _ = Value.ref a := r1
    exact len_key (raw_at hr I.hok) ⟨.int ((xs.length : Nat) : Int), H, I.tok _, ⟨_, rfl⟩, q⟩
/-! ### a loop over the keys -/
def vOf : Value → V
  | .int i _ => .int i
  | .ref a => .ref a
  | _ => .non
theorem vOf_of {v : V} {u : Value} (h : (∃ i t, u = .int i t) ∨ ∃ a, u = .ref a) (r : RelV v u) : v = vOf u := by
  rcases h with ⟨i, t, rfl⟩ | ⟨a, rfl⟩
  · cases v with
    | int j => obtain ⟨t', e⟩ := r; cases e; rfl
    | str _ => obtain ⟨t', e⟩ := r; cases e
    | byt _ => obtain ⟨t', e⟩ := r; cases e
    | flt _ => obtain ⟨t', e⟩ := r; cases e
    | non => cases r
    | bl _ => cases r
    | ref _ => cases r
    | ty _ => cases r
  · cases v with
    | ref b => cases r; rfl
    | str _ => obtain ⟨t', e⟩ := r; cases e
    | byt _ => obtain ⟨t', e⟩ := r; cases e
    | flt _ => obtain ⟨t', e⟩ := r; cases e
    | int _ => obtain ⟨t', e⟩ := r; cases e
    | non => cases r
    | bl _ => cases r
    | ty _ => cases r
theorem rel_vOf {u : Value} (h : (∃ i t, u = .int i t) ∨ ∃ a, u = .ref a) : RelV (vOf u) u := by
  rcases h with ⟨i, t, rfl⟩ | ⟨a, rfl⟩
  · exact ⟨t, rfl⟩
  · exact rfl
/-- the keys of the dict at d, which stands still -/
def Itx (X : Cx) (d : Addr) (o : Obj) (xs : List Ent) : It :=
  ⟨fun i H => H d = some (.frz o (DicO X.w d xs)) ∧ EntsIn X H xs ∧ i < xs.length, fun i H x H' => H' = H ∧ ∃ e, xs[i]? = some e ∧ x = vOf e.2.1, fun i H => H d = some (.frz o (DicO X.w d xs)) ∧ xs.length ≤ i⟩
theorem frz_raw {pins : List (Addr × Obj)} {σ : L2.St} {H : Hp} {s : Shared} {d : Addr} {o : Obj} {xs : List Ent} (I : Inv X pins σ H s) (h : H d = some (.frz o (DicO X.w d xs))) :
    (d == sysModules) = false ∧ s.heap.get? d = some o ∧ o.ExactDict ∧ ∃ (es : Array DictEntry) (ep : Nat), o.data = .dict es ep ∧ es.size = xs.length ∧ es.toList = xs.map (entD X.w) := by
  obtain ⟨hd, q, _⟩ := I.hok d _ h
  obtain ⟨z1, z2, z3, o', es, ep, ho, hx, hdt, he⟩ := q
  rw [hd] at ho
  cases ho
  exact ⟨z2, hd, hx, es, ep, hdt, by rw [← Array.length_toList, he, List.length_map], he⟩
theorem turn_x {X0 : Cx} {tg : Expr} {d : Addr} {o : Obj} {es : Array DictEntry} {ep : Nat} {xs : List Ent} (it : Addr) (hod : o.data = .dict es ep) : Turn X0.prog X0.w X0.K tg (Itx X0 d o xs) [it] it (fun i h => h.IsKeyIter it d i xs.length ep) where
  mem := by simp
  obj := fun i h st b hb => by
    have e : b = it := by simpa using hb
    subst e
    obtain ⟨oi, e, c, dd⟩ := st
    exact ⟨oi, e, fun v z => by rw [dd] at z; cases z⟩
  keep := fun i h h' st k => st.at fun oi e => k it (by simp) oi e
  item := by
    intro X hP hw hK hc i pins s σ H E I hf st hg
    obtain ⟨hd, hents, hi⟩ := hg
    rw [← hw] at hd
    obtain ⟨f0, f1, f2, f3, f4, f5⟩ := hf it (by simp)
    obtain ⟨hs, hgd, hx, es', ep', hdt, hsz, ent⟩ := frz_raw I hd
    obtain ⟨rfl, rfl⟩ := dict_ep hod hdt
    obtain ⟨e, he⟩ : ∃ e, xs[i]? = some e := ⟨xs[i], List.getElem?_eq_getElem hi⟩
    have hen := ent_at ent i
    rw [he] at hen
    have isk : IsK s.heap e.1 e.2.1 := hents s.heap (by rw [← hP, ← hw]; exact I.hok) e (List.mem_of_getElem? he)
    refine next_key_item st hgd hdt hsz hen fun h' st' sb => ?_
    have I1 : Inv X pins σ H { s with heap := h' } := I.turned (t' := s.toks) (fun b ob hb e => (sb.2 b hb).trans e) f0 f1 f3 f4 f5
    obtain ⟨oi, e2, c, dd⟩ := id st'
    exact ⟨e.2.1, rfl, go_of (s := { s with heap := h' }) e2 c dd (by decide) ⟨vOf e.2.1, H, I1, rel_vOf isk.top, ⟨rfl, e, he, rfl⟩, st', fun b hb => (hf b hb).1⟩⟩
  done := by
    intro X hP hw hK hc i pins s σ H E I hf st hg
    obtain ⟨hd, hi⟩ := hg
    rw [← hw] at hd
    obtain ⟨f0, f1, f2, f3, f4, f5⟩ := hf it (by simp)
    obtain ⟨hs, hgd, hx, es', ep', hdt, hsz, ent⟩ := frz_raw I hd
    obtain ⟨rfl, rfl⟩ := dict_ep hod hdt
    exact next_key_end (I.ok.hd hc) st hgd hdt hsz hi fun h' eb => ⟨rfl, I.turned (t' := s.toks) (fun b ob hb e => eb b ob hb e) f0 f1 f3 f4 f5⟩
  self := fun A i s Q E st h => by
    refine wpAny_pyIter_slot st.typeIs PySem.F.slot_dict_keyiterator_iter (wpAny_call_entry PySem.F.slot_dict_keyiterator_iter st.typeIs PySem.F.entry_dict_keyiterator_iter ?_ (PySem.F.args_dict_keyiterator_iter_1 _))
    exact (show wpAny _ _ (ret (.ref it)) _ _ s from wpAny_pure ⟨_, rfl, "dict_keyiterator", _, st.typeIs, PySem.F.slot_dict_keyiterator_next.lookup, h⟩)
def iXKeys (X : Cx) (td : TE) : TI := fun σ H R => td σ H fun x H1 => ∃ d o xs, x = .ref d ∧ H1 d = some (.frz o (DicO X.w d xs)) ∧ R (Itx X d o xs) H1
theorem pi_xkeys {tg : Expr} (he : PE X e td) : PI X tg e (iXKeys X td) := by
  refine ⟨fun pins s σ H R I h => ?_⟩
  refine thn (he.run pins s σ H _ I h) fun u s1 ⟨x, H1, I1, rx, d, o, xs, ex, hd, q⟩ => ?_
  subst ex
  obtain rfl : u = Value.ref d := rx
  obtain ⟨hs, hgd, hx, es, ep, hdt, hsz, ent⟩ := frz_raw I1 hd
  refine iter_keys hs hgd hx hdt (pi_one (tk := s1.toks) I1 _ (turn_x _ hdt) ⟨_, Heap.get?_push_size _ rfl, rfl, ?_⟩ q)
  rw [hsz]
  rfl
/-- the dict at d stands still from now on -/
theorem ps_frz {st : Stmt} {t : TS} (h : PS X st t) : PS X st (fun D σ H => t D σ H ∨ ∃ d u, H d = some u ∧ Mut (some u) ∧ ∀ od, t D σ (upd H d (.frz od u))) := by
  refine ⟨fun pins s σ H D I hw => ?_⟩
  rcases hw with hw | ⟨d, u, hd, mu, hw⟩
  · exact h.run pins s σ _ _ I hw
  · obtain ⟨od, I1⟩ := I.lock hd mu
    exact h.run pins s σ _ _ I1 (hw od)
end
end DX

namespace DL
open PySem PySem.Spec PyProof.Rows L2
/-! ### dicts as data -/
mutual
theorem keyD_inj : ∀ (a b : D) (k : NestedKey), keyD a = some k → keyD b = some k → a = b
  | .non, b, k, h1, h2 => by
    simp only [keyD, Option.some.injEq] at h1
    subst h1
    cases b <;> simp [keyD] at h2
    rfl
  | .int i, b, k, h1, h2 => by
    simp only [keyD, Option.some.injEq] at h1
    subst h1
    cases b <;> simp [keyD] at h2
    rw [h2]
  | .str s, b, k, h1, h2 => by
    simp only [keyD, Option.some.injEq] at h1
    subst h1
    cases b <;> simp [keyD] at h2
    rw [h2]
  | .tup xs, b, k, h1, h2 => by
    simp only [keyD, Option.map_eq_some_iff] at h1
    obtain ⟨ks, e1, rfl⟩ := h1
    cases b with
    | tup ys =>
      simp only [keyD, Option.map_eq_some_iff] at h2
      obtain ⟨ks', e2, e3⟩ := h2
      cases e3
      rw [keyDs_inj xs ys ks e1 e2]
    | non => simp [keyD] at h2
    | bl _ => simp [keyD] at h2
    | int _ => simp [keyD] at h2
    | str _ => simp [keyD] at h2
    | lst _ => simp [keyD] at h2
    | scr _ => simp [keyD] at h2
  | .bl _, _, _, h1, _ => by simp [keyD] at h1
  | .lst _, _, _, h1, _ => by simp [keyD] at h1
  | .scr _, _, _, h1, _ => by simp [keyD] at h1
theorem keyDs_inj : ∀ (a b : List D) (ks : List NestedKey), keyDs a = some ks → keyDs b = some ks → a = b
  | [], b, ks, h1, h2 => by
    simp only [keyDs, Option.some.injEq] at h1
    subst h1
    cases b with
    | nil => rfl
    | cons y ys =>
      unfold keyDs at h2
      split at h2 <;> cases h2
  | x :: xs, b, ks, h1, h2 => by
    unfold keyDs at h1
    split at h1
    · rename_i k ks' e1 e2
      cases h1
      cases b with
      | nil => simp [keyDs] at h2
      | cons y ys =>
        unfold keyDs at h2
        split at h2
        · rename_i k2 ks2 e3 e4
          cases h2
          rw [keyD_inj x y _ e1 e3, keyDs_inj xs ys _ e2 e4]
        · cases h2
    · cases h1
end
theorem keyOk_inj {a b : D} {k : NestedKey} (h1 : keyOk a = some k) (h2 : keyOk b = some k) : a = b := keyD_inj a b k (DX.keyOk_inv h1).1 (DX.keyOk_inv h2).1
noncomputable def dAt (kvs : List (D × D)) (d : D) : Option D := (kvs.find? fun x => decide (x.1 = d)).map (·.2)
noncomputable def dPut (kvs : List (D × D)) (d v : D) : List (D × D) := if (dAt kvs d).isSome then kvs.map (fun x => if x.1 = d then (x.1, v) else x) else kvs ++ [(d, v)]
section
variable {K : KW} {G : Hp}
theorem at_rel {d : D} {k : NestedKey} (hk : keyOk d = some k) : ∀ {xs : List Ent} {kvs : List (D × D)}, Paired (KRel K G) xs kvs → (∃ e y, DX.atD xs k = some e ∧ dAt kvs d = some y ∧ ∃ v, RelV v e.2.2 ∧ Rep K G v y) ∨ (DX.atD xs k = none ∧ dAt kvs d = none)
  | _, _, .nil => .inr ⟨rfl, rfl⟩
  | _, _, .cons (a := x) (b := y) r t => by
    by_cases h : x.1 = k
    · have e2 : y.1 = d := keyOk_inj (by rw [r.key, h]) hk
      refine .inl ⟨x, y.2, ?_, ?_, r.vv⟩
      · unfold DX.atD
        rw [List.find?_cons, decide_eq_true h]
      · unfold dAt
        rw [List.find?_cons, decide_eq_true e2]
        rfl
    · have e2 : ¬ y.1 = d := fun z => h (by
        have := r.key
        rw [z, hk] at this
        exact (Option.some.inj this).symm)
      have ih := at_rel hk t
      unfold DX.atD dAt at ih ⊢
      rw [List.find?_cons, decide_eq_false h, List.find?_cons, decide_eq_false e2]
      exact ih
theorem put_map {d v : D} {k : NestedKey} {r : Value} (hk : keyOk d = some k) (hv : ∃ v0, RelV v0 r ∧ Rep K G v0 v) : ∀ {xs : List Ent} {kvs : List (D × D)}, Paired (KRel K G) xs kvs →
    Paired (KRel K G) (xs.map fun x => if x.1 = k then (x.1, x.2.1, r) else x) (kvs.map fun x => if x.1 = d then (x.1, v) else x)
  | _, _, .nil => .nil
  | _, _, .cons (a := x) (b := y) q t => by
    have ih := put_map hk hv t
    rw [List.map_cons, List.map_cons]
    refine .cons ?_ ih
    by_cases h : x.1 = k
    · have e2 : y.1 = d := keyOk_inj (by rw [q.key, h]) hk
      rw [if_pos h, if_pos e2]
      exact ⟨q.key, q.kv, hv⟩
    · have e2 : ¬ y.1 = d := fun z => h (by
        have := q.key
        rw [z, hk] at this
        exact (Option.some.inj this).symm)
      rw [if_neg h, if_neg e2]
      exact q
theorem paired_snoc {α β : Type} {F : α → β → Prop} {a : α} {b : β} (h : F a b) : ∀ {l : List α} {m : List β}, Paired F l m → Paired F (l ++ [a]) (m ++ [b])
  | _, _, .nil => .cons h .nil
  | _, _, .cons r t => .cons r (paired_snoc h t)
theorem put_rel {d v : D} {k : NestedKey} {iv r : Value} {xs : List Ent} {kvs : List (D × D)} (hk : keyOk d = some k) (p : Paired (KRel K G) xs kvs) (hi : ∃ v0, RelV v0 iv ∧ Rep K G v0 d) (hv : ∃ v0, RelV v0 r ∧ Rep K G v0 v) :
    Paired (KRel K G) (DX.putD xs k iv r) (dPut kvs d v) := by
  unfold DX.putD dPut
  rcases at_rel hk p with ⟨e, y, h1, h2, _⟩ | ⟨h1, h2⟩
  · rw [h1, h2]
    exact put_map hk hv p
  · rw [h1, h2]
    exact paired_snoc ⟨hk, hi, hv⟩ p
end
@[simp] def celX (env : DEnv) (i : Nat) : M (List (D × D)) := match env[i]? with
  | some (.dic kvs) => .ok kvs
  | some (.fdc kvs) => .ok kvs
  | _ => .no
@[simp] def celW (env : DEnv) (i : Nat) : M (List (D × D)) := match env[i]? with
  | some (.dic kvs) => .ok kvs
  | _ => .no
@[simp] def celF (env : DEnv) (i : Nat) : M (List (D × D)) := match env[i]? with
  | some (.fdc kvs) => .ok kvs
  | _ => .no
noncomputable def inX (kvs : List (D × D)) (d : D) : Option D := (keyOk d).map fun _ => .bl (dAt kvs d).isSome
noncomputable def ninX (kvs : List (D × D)) (d : D) : Option D := (keyOk d).map fun _ => .bl (!(dAt kvs d).isSome)
noncomputable def getX (kvs : List (D × D)) (d : D) : Option D := (keyOk d).bind fun _ => dAt kvs d
noncomputable def get2X (kvs : List (D × D)) (d z : D) : Option D := (keyOk d).map fun _ => (dAt kvs d).getD z
noncomputable def putX (kvs : List (D × D)) (d v : D) : Option (List (D × D)) := (keyOk d).bind fun _ => if kvs.length < sizeLine then some (dPut kvs d v) else none
noncomputable def newX (d v : D) : Option (List (D × D)) := match d with
  | .tup xs => (keyOk (.tup xs)).map fun _ => [(.tup xs, v)]
  | _ => none
@[simp] noncomputable def xInX (i : Nat) (f : DEnv → M D) (env : DEnv) : M D := (f env).bind fun d => (celX env i).bind fun kvs => .of (inX kvs d)
@[simp] noncomputable def xNinX (i : Nat) (f : DEnv → M D) (env : DEnv) : M D := (f env).bind fun d => (celX env i).bind fun kvs => .of (ninX kvs d)
@[simp] noncomputable def xGetX (i : Nat) (f : DEnv → M D) (env : DEnv) : M D := (celX env i).bind fun kvs => (f env).bind fun d => .of (getX kvs d)
@[simp] noncomputable def xGet2X (i : Nat) (f g : DEnv → M D) (env : DEnv) : M D := (celX env i).bind fun kvs => (f env).bind fun d => (g env).bind fun z => .of (get2X kvs d z)
@[simp] noncomputable def xLenX (i : Nat) (env : DEnv) : M D := (celX env i).bind fun kvs => .ok (.int kvs.length)
@[simp] noncomputable def sPutX (i : Nat) (f g : DEnv → M D) : DStm := fun env => (g env).to env fun v => (celW env i).to env fun kvs => (f env).to env fun d => (M.of (putX kvs d v)).to env fun k2 => .nx (env.set i (.dic k2))
@[simp] noncomputable def sDic0 (i : Nat) : DStm := fun env => .nx (env.set i (.dic []))
@[simp] noncomputable def sDic1 (i : Nat) (f g : DEnv → M D) : DStm := fun env => (f env).to env fun d => (g env).to env fun v => (M.of (newX d v)).to env fun k2 => .nx (env.set i (.dic k2))
@[simp] def sFrzD (i : Nat) (g : DStm) : DStm := fun env => match env[i]? with
  | some (.dic kvs) => g (env.set i (.fdc kvs))
  | some (.fdc _) => g env
  | _ => .no
@[simp] def iKeysX (i : Nat) (env : DEnv) : M (List D) := (celF env i).bind fun kvs => .ok (kvs.map (·.1))
@[simp] def sMove (i j : Nat) : DStm := fun env => (celW env j).to env fun kvs => .nx ((env.set j .un).set i (.dic kvs))
theorem celX_inv {env : DEnv} {i : Nat} {kvs : List (D × D)} (h : celX env i = .ok kvs) : env[i]? = some (.dic kvs) ∨ env[i]? = some (.fdc kvs) := by
  simp only [celX] at h
  split at h
  · rename_i e
    cases h
    exact .inl e
  · rename_i e
    cases h
    exact .inr e
  · cases h
theorem celX_no {env : DEnv} {i : Nat} {c : Str} (h : celX env i = .ex c) : False := by
  simp only [celX] at h
  split at h <;> cases h
theorem celW_inv {env : DEnv} {i : Nat} {kvs : List (D × D)} (h : celW env i = .ok kvs) : env[i]? = some (.dic kvs) := by
  simp only [celW] at h
  split at h
  · rename_i e
    cases h
    exact e
  · cases h
theorem celW_no {env : DEnv} {i : Nat} {c : Str} (h : celW env i = .ex c) : False := by
  simp only [celW] at h
  split at h <;> cases h
theorem celF_inv {env : DEnv} {i : Nat} {kvs : List (D × D)} (h : celF env i = .ok kvs) : env[i]? = some (.fdc kvs) := by
  simp only [celF] at h
  split at h
  · rename_i e
    cases h
    exact e
  · cases h
theorem celF_no {env : DEnv} {i : Nat} {c : Str} (h : celF env i = .ex c) : False := by
  simp only [celF] at h
  split at h <;> cases h
/-- where a dict of a slot stands -/
theorem Cn.dict {K : KW} {B G0 G H : Hp} {σ : L2.St} {env : DEnv} {i : Nat} {kvs : List (D × D)} (c : Cn K B G0 G σ H env) (h : env[i]? = some (.dic kvs) ∨ env[i]? = some (.fdc kvs)) :
    ∃ p xs, σ[i]? = some (some (.ref p)) ∧ Rd H p (DicO K.w p xs) ∧ Paired (KRel K G) xs kvs := by
  rcases h with h | h
  · obtain ⟨o, e1, p, xs, e2, gp, bp, hp, r⟩ := c.cel i _ h
    subst e2
    exact ⟨p, xs, e1, .inl hp, r⟩
  · obtain ⟨o, e1, p, xs, od, e2, gp, r⟩ := c.cel i _ h
    subst e2
    exact ⟨p, xs, e1, .inr ⟨od, c.exG _ _ gp⟩, r⟩
theorem paired_len {α β : Type} {F : α → β → Prop} : ∀ {l : List α} {m : List β}, Paired F l m → l.length = m.length
  | _, _, .nil => rfl
  | _, _, .cons _ t => congrArg (· + 1) (paired_len t)
section
variable {X : Cx} {W : WX} {e e1 e2 value : Expr} {f g : DEnv → M D} {pos p : Pos}
theorem RdE.inX {te tv : TE} {r : R2} {h : List (D × D) → D → Option D} (i : Nat) (a2 : RdE (kw X) X.mg W te f)
    (hv : ∀ (σ : L2.St) (H : Hp) (Q : VK) (q : Addr), σ[i]? = some (some (.ref q)) → Q (.ref q) H → tv σ H Q)
    (hr : ∀ (G H : Hp) (x : V) (q : Addr) (d : D) (xs : List Ent) (kvs : List (D × D)) (d' : D) (Q : VK), Same G H → Rep (kw X) G x d → Rd H q (DicO X.w q xs) → Paired (KRel (kw X) G) xs kvs → h kvs d = some d' → (∃ v, Rep (kw X) G v d' ∧ (Q v H → r x (.ref q) H Q))) :
    RdE (kw X) X.mg W (tOp r te tv) (fun env => (f env).bind fun d => (celX env i).bind fun kvs => .of (h kvs d)) := by
  intro B G0 G H σ env Q c p
  refine a2 B G0 G H σ env _ c ?_
  cases o : f env with
  | no => simp only [o] at p; exact p
  | ex n => simp only [o] at p; exact p
  | ok d =>
    simp only [o, M.bind] at p
    intro v1 H1 G1 s1 c1 r1
    cases o2 : celX env i with
    | no => rw [o2] at p; exact p.elim
    | ex n => exact (celX_no o2).elim
    | ok kvs =>
      simp only [o2, M.bind] at p
      obtain ⟨q, xs, e1, hq, pr⟩ := c1.dict (celX_inv o2)
      cases o3 : h kvs d with
      | none => rw [o3] at p; exact p.elim
      | some d' =>
        rw [o3] at p
        obtain ⟨v, rv, k⟩ := hr G1 H1 v1 q d xs kvs d' Q c1.exG r1 hq pr o3
        exact hv σ H1 _ q e1 (k (p v H1 G1 s1 c1 rv))
theorem de_inX (i : Nat) {x : Str} {px : Pos} (hu : X.A.units + 64 < cLine) (h : DE X W e f) (hN : X.N[i]? = some x := by rfl) (hv : Vis X.env.scope x := by first | exact Or.inl rfl | exact Or.inr (Or.inl rfl) | exact Or.inr (Or.inr rfl)) (hd : (x == ("__debug__" : Str)) = false := by decide)
    (hcd : (x == ("__classdict__" : Str)) = false := by decide) (hm : behindInMarks .In (.Name x px) = false := by rfl) : DE X W (.Compare e [.In] [.Name x px] pos) (xInX i f) ∧ DT X W (.Compare e [.In] [.Name x px] pos) (tE (xInX i f)) := by
  obtain ⟨te, a1, a2⟩ := h.ex
  have key : RdE (kw X) X.mg W (tOp (DX.rXIn X) te (tVar i)) (xInX i f) := by
    refine RdE.inX (h := inX) i a2 (fun σ H Q q e1 hq => ⟨.ref q, e1, hq⟩) ?_
    intro G H v q d xs kvs d' Q s r hq pr h
    unfold inX at h
    cases hk : keyOk d with
    | none => rw [hk] at h; cases h
    | some k =>
      rw [hk] at h
      cases h
      refine ⟨_, .bl _, fun q2 => ⟨q, xs, k, rfl, hq, DX.keyIn_of s hk r, DX.entsIn_of s pr, ?_⟩⟩
      rcases at_rel hk pr with ⟨_, _, h1, h2, _⟩ | ⟨h1, h2⟩
      · rw [h1]; rw [h2] at q2; exact q2
      · rw [h1]; rw [h2] at q2; exact q2
  exact ⟨⟨_, pe_cmpR (DX.or_xin hu) a1 (pe_var hN hv hd hcd) hm, key⟩, ⟨_, pt_cmpR (DX.or_xin hu) a1 (pe_var hN hv hd hcd) hm, key.test⟩⟩
theorem de_ninX (i : Nat) {x : Str} {px : Pos} (hu : X.A.units + 64 < cLine) (h : DE X W e f) (hN : X.N[i]? = some x := by rfl) (hv : Vis X.env.scope x := by first | exact Or.inl rfl | exact Or.inr (Or.inl rfl) | exact Or.inr (Or.inr rfl)) (hd : (x == ("__debug__" : Str)) = false := by decide)
    (hcd : (x == ("__classdict__" : Str)) = false := by decide) (hm : behindInMarks .NotIn (.Name x px) = false := by rfl) : DE X W (.Compare e [.NotIn] [.Name x px] pos) (xNinX i f) ∧ DT X W (.Compare e [.NotIn] [.Name x px] pos) (tE (xNinX i f)) := by
  obtain ⟨te, a1, a2⟩ := h.ex
  have key : RdE (kw X) X.mg W (tOp (DX.rXNin X) te (tVar i)) (xNinX i f) := by
    refine RdE.inX (h := ninX) i a2 (fun σ H Q q e1 hq => ⟨.ref q, e1, hq⟩) ?_
    intro G H v q d xs kvs d' Q s r hq pr h
    unfold ninX at h
    cases hk : keyOk d with
    | none => rw [hk] at h; cases h
    | some k =>
      rw [hk] at h
      cases h
      refine ⟨_, .bl _, fun q2 => ⟨q, xs, k, rfl, hq, DX.keyIn_of s hk r, DX.entsIn_of s pr, ?_⟩⟩
      rcases at_rel hk pr with ⟨_, _, h1, h2, _⟩ | ⟨h1, h2⟩
      · rw [h1]; rw [h2] at q2; exact q2
      · rw [h1]; rw [h2] at q2; exact q2
  exact ⟨⟨_, pe_cmpR (DX.or_xnin hu) a1 (pe_var hN hv hd hcd) hm, key⟩, ⟨_, pt_cmpR (DX.or_xnin hu) a1 (pe_var hN hv hd hcd) hm, key.test⟩⟩
end
end DL

namespace DL
open PySem PySem.Spec PyProof.Rows L2
section
variable {X : Cx} {W : WX} {e e1 e2 value : Expr} {f g : DEnv → M D} {st : Stmt} {a : DStm} {pos p : Pos}
/-- d[k] -/
theorem de_getX (i : Nat) {x : Str} {px : Pos} (hu : X.A.units + 64 < cLine) (h : DE X W e f) (hs : NoSl e := by intro _ _; rfl) (hN : X.N[i]? = some x := by rfl) (hv : Vis X.env.scope x := by first | exact Or.inl rfl | exact Or.inr (Or.inl rfl) | exact Or.inr (Or.inr rfl)) (hd : (x == ("__debug__" : Str)) = false := by decide)
    (hcd : (x == ("__classdict__" : Str)) = false := by decide) : DE X W (.Subscript (.Name x px) e pos) (xGetX i f) := by
  obtain ⟨te, a1, a2⟩ := h.ex
  refine ⟨_, DX.pe_xget hu (pe_var hN hv hd hcd) a1 hs, fun B G0 G H σ env Q c po => ?_⟩
  simp only [xGetX] at po
  cases o : celX env i with
  | no => rw [o] at po; exact po.elim
  | ex n => exact (celX_no o).elim
  | ok kvs =>
    simp only [o, M.bind] at po
    obtain ⟨q, xs, e1, hq, pr⟩ := c.dict (celX_inv o)
    refine ⟨.ref q, e1, a2 B G0 G H σ env _ c ?_⟩
    cases o2 : f env with
    | no => rw [o2] at po; exact po
    | ex n => rw [o2] at po; exact po
    | ok d =>
      simp only [o2, M.bind] at po
      intro v1 H1 G1 s1 c1 r1
      obtain ⟨q', xs', e1', hq', pr'⟩ := c1.dict (celX_inv o)
      rw [e1] at e1'
      cases e1'
      unfold getX at po
      cases hk : keyOk d with
      | none => rw [hk] at po; exact po.elim
      | some k =>
        simp only [hk, Option.bind_some] at po
        rcases at_rel hk pr' with ⟨en, y, h1, h2, v, rv, r⟩ | ⟨h1, h2⟩
        · rw [h2] at po
          exact ⟨q, xs', k, en, v, rfl, hq', DX.keyIn_of c1.exG hk r1, DX.entsIn_of c1.exG pr', h1, rv, po v H1 G1 s1 c1 r⟩
        · rw [h2] at po
          exact po.elim
/-- d.get(k, z) -/
theorem de_get2X (i : Nat) {x : Str} {px apos cpos : Pos} (hu : X.A.units + 64 < cLine) (h : DE X W e f) (h2 : DE X W e2 g) (hN : X.N[i]? = some x := by rfl) (m : M2 X (.Name x px) "get" apos e e2 cpos := by exact ⟨rfl, rfl, rfl, rfl⟩) (hv : Vis X.env.scope x := by first | exact Or.inl rfl | exact Or.inr (Or.inl rfl) | exact Or.inr (Or.inr rfl)) (hd : (x == ("__debug__" : Str)) = false := by decide)
    (hcd : (x == ("__classdict__" : Str)) = false := by decide) : DE X W (.Call (.Attribute (.Name x px) "get" apos) [e, e2] [] cpos) (xGet2X i f g) := by
  obtain ⟨te, a1, a2⟩ := h.ex
  obtain ⟨tx, b1, b2⟩ := h2.ex
  refine ⟨_, DX.pe_xget2 hu (pe_var hN hv hd hcd) a1 b1 m, fun B G0 G H σ env Q c po => ?_⟩
  simp only [xGet2X] at po
  cases o : celX env i with
  | no => rw [o] at po; exact po.elim
  | ex n => exact (celX_no o).elim
  | ok kvs =>
    simp only [o, M.bind] at po
    obtain ⟨q, xs, e1, hq, pr⟩ := c.dict (celX_inv o)
    refine ⟨.ref q, e1, q, xs, rfl, hq, a2 B G0 G H σ env _ c ?_⟩
    cases o2 : f env with
    | no => rw [o2] at po; exact po
    | ex n => rw [o2] at po; exact po
    | ok d =>
      simp only [o2, M.bind] at po
      intro v1 H1 G1 s1 c1 r1
      refine b2 B G0 G1 H1 σ env _ c1 ?_
      cases o3 : g env with
      | no => rw [o3] at po; exact po
      | ex n => rw [o3] at po; exact po
      | ok z =>
        simp only [o3, M.bind] at po
        intro v2 H2 G2 s2 c2 r2
        obtain ⟨q', xs', e1', hq', pr'⟩ := c2.dict (celX_inv o)
        rw [e1] at e1'
        cases e1'
        unfold get2X at po
        cases hk : keyOk d with
        | none => rw [hk] at po; exact po.elim
        | some k =>
          simp only [hk, Option.map_some] at po
          rcases at_rel hk pr' with ⟨en, y, h1, h2, v, rv, r⟩ | ⟨h1, h2⟩
          · rw [h2] at po
            exact ⟨xs', k, v, hq', DX.keyIn_of c2.exG hk (r1.up s2), DX.entsIn_of c2.exG pr', fun e q => (by rw [h1] at q; cases q; exact rv), fun q => (by rw [h1] at q; cases q), po v H2 G2 (s1.trans s2) c2 r⟩
          · rw [h2] at po
            exact ⟨xs', k, v2, hq', DX.keyIn_of c2.exG hk (r1.up s2), DX.entsIn_of c2.exG pr', fun e q => (by rw [h1] at q; cases q), fun _ => rfl, po v2 H2 G2 (s1.trans s2) c2 r2⟩
/-- len(d) -/
theorem de_lenX (i : Nat) {x : Str} {px : Pos} (hm : X.mg "len" = none) (hg : Gl X "len" := by rfl) (hN : X.N[i]? = some x := by rfl) (hv : Vis X.env.scope x := by first | exact Or.inl rfl | exact Or.inr (Or.inl rfl) | exact Or.inr (Or.inr rfl)) (hd : (x == ("__debug__" : Str)) = false := by decide)
    (hcd : (x == ("__classdict__" : Str)) = false := by decide) (hs : starEach [.Name x px] X.env = (false, eval (.Name x px) X.env) :: starEach [] X.env := by rfl) (hpl : (backTo pos (starEach [] X.env)).any (·.1) = false := by rfl) :
    DE X W (.Call (.Name "len" p) [.Name x px] [] pos) (xLenX i) := by
  refine ⟨_, pe_callB DX.call_xlen hg hm PySem.boot_len (pa_cons (pe_var hN hv hd hcd) pa_nil hs) (by decide) (by decide) hs hpl, fun B G0 G H σ env Q c po => ?_⟩
  simp only [xLenX] at po
  cases o : celX env i with
  | no => rw [o] at po; exact po.elim
  | ex n => exact (celX_no o).elim
  | ok kvs =>
    simp only [o, M.bind] at po
    obtain ⟨q, xs, e1, hq, pr⟩ := c.dict (celX_inv o)
    refine ⟨.ref q, e1, q, xs, rfl, hq, ?_⟩
    rw [paired_len pr]
    exact po _ H G (Same.refl G) c (.int _)
/-- d[k] = v -/
theorem ds_putX (i : Nat) {x : Str} {px pos' : Pos} (hu : X.A.units + 64 < cLine) (h : DE X W e f) (hv2 : DE X W value g) (hs : swapsWith value (some (.Subscript (.Name x px) e pos')) pos.line X.env = pure false := by rfl) (hN : X.N[i]? = some x := by rfl) (hv : Vis X.env.scope x := by first | exact Or.inl rfl | exact Or.inr (Or.inl rfl) | exact Or.inr (Or.inr rfl)) (hd : (x == ("__debug__" : Str)) = false := by decide)
    (hcd : (x == ("__classdict__" : Str)) = false := by decide) : DS X W (.Assign [.Subscript (.Name x px) e pos'] value pos) (sPutX i f g) := by
  obtain ⟨te, a1, a2⟩ := h.ex
  obtain ⟨tv, b1, b2⟩ := hv2.ex
  refine ⟨_, DX.ps_xput hu (pe_var hN hv hd hcd) a1 b1 hs, fun B G0 G H σ env E c po => ?_⟩
  refine b2 B G0 G H σ env _ c ?_
  simp only [sPutX] at po
  cases o : g env with
  | no => rw [o] at po; exact po
  | ex n => rw [o] at po; exact PoX.s po
  | ok v =>
    simp only [o, M.to] at po
    intro v1 H1 G1 s1 c1 r1
    cases o1 : celW env i with
    | no => rw [o1] at po; exact po.elim
    | ex n => exact (celW_no o1).elim
    | ok kvs =>
      simp only [o1, M.to] at po
      have hi := celW_inv o1
      obtain ⟨oo, e1, q, xs, e2, gp, bp, hp, pr⟩ := c1.cel i _ hi
      subst e2
      refine ⟨.ref q, e1, a2 B G0 G1 H1 σ env _ c1 ?_⟩
      cases o2 : f env with
      | no => rw [o2] at po; exact po
      | ex n => rw [o2] at po; exact PoX.s po
      | ok d =>
        simp only [o2, M.to] at po
        intro v2 H2 G2 s2 c2 r2
        obtain ⟨oo', e1', q', xs', e2', gp', bp', hp', pr'⟩ := c2.cel i _ hi
        rw [e1] at e1'
        cases e1'
        cases e2'
        unfold putX at po
        cases hk : keyOk d with
        | none => rw [hk] at po; exact po.elim
        | some k =>
          simp only [hk, Option.bind_some] at po
          by_cases hl : kvs.length < sizeLine
          · rw [if_pos hl] at po
            simp only [M.of, M.to] at po
            refine ⟨q, xs', k, rfl, hp', DX.keyIn_of c2.exG hk r2, DX.entsIn_of c2.exG pr', by rw [paired_len pr']; exact hl, fun iv r hiv hr => ?_⟩
            exact po σ _ G2 (s1.trans s2) (c2.updO hi trivial e1 ⟨q, _, rfl, gp', bp', upd_same, put_rel hk pr' ⟨v2, hiv, r2⟩ ⟨v1, hr, r1.up s2⟩⟩ trivial)
          · rw [if_neg hl] at po
            exact po.elim
/-- x = {} -/
theorem ds_dic0 (i : Nat) {x : Str} {pos' : Pos} (hN : X.N.Nodup) (hi : X.N[i]? = some x := by rfl) (hx : Loc X.env.scope x := by first | exact .inl rfl | exact .inr rfl) (hs : swapsWith (.Dict [] [] p) (some (.Name x pos')) pos.line X.env = pure false := by rfl) (hf : X.fn x = true ∨ X.env.scope.names.lookup x = some .local := by first | exact .inl rfl | exact .inr rfl) :
    DS X W (.Assign [.Name x pos'] (.Dict [] [] p) pos) (sDic0 i) := by
  refine ⟨_, ps_set (i := i) hN hi hx DX.pe_xnew hs hf, fun B G0 G H σ env E c po => ?_⟩
  intro q hq
  exact po _ _ G (Same.refl G) (c.setOwn i hq ⟨q, [], rfl, c.exG.free hq, c.exB.free hq, upd_same, .nil⟩)
theorem upd_less2 {H : Hp} {p : Addr} {o : HO} : upd (less H p) p o = upd H p o := by
  funext a
  by_cases z : a = p
  · subst z; rw [upd_same, upd_same]
  · rw [upd_ne z, less_ne z, upd_ne z]
/-- what was under a new thing comes back -/
theorem Cn.over {K : KW} {B G0 G G' H H' : Hp} {σ : L2.St} {env : DEnv} {p : Addr} {o : HO} (c0 : Cn K B G0 G σ H env) (bp : B p = none) (c1 : Cn K (upd B p o) G G' σ H' env) : Cn K B G0 G' σ H' env where
  len := c0.len
  exB := (same_upd bp).trans c1.exB
  exG := c1.exG
  ex0 := c0.ex0.trans c1.ex0
  new := fun a h => by
    rcases c1.new a h with z | z
    · exact c0.new a z
    · exact .inr ((same_upd bp).free z)
  cel := fun i s e => by
    obtain ⟨q, e1, h⟩ := c1.cel i s e
    refine ⟨q, e1, ?_⟩
    cases s with
    | un => trivial
    | dat d => exact h
    | own xs => obtain ⟨q, vs, e2, gp, bp', hp', r⟩ := h; exact ⟨q, vs, e2, gp, (same_upd bp).free bp', hp', r⟩
    | dic xs => obtain ⟨q, vs, e2, gp, bp', hp', r⟩ := h; exact ⟨q, vs, e2, gp, (same_upd bp).free bp', hp', r⟩
    | fdc xs => exact h
    | exc xs => exact h
  sep := c1.sep
theorem ds_dic1 (i : Nat) {k v : Expr} {x : Str} {pos' : Pos} (hu : X.A.units + 64 < cLine) (hN : X.N.Nodup) (h : DE X W k f) (h2 : DE X W v g) (hi : X.N[i]? = some x := by rfl) (hx : Loc X.env.scope x := by first | exact .inl rfl | exact .inr rfl) (hs : swapsWith (.Dict [some k] [v] p) (some (.Name x pos')) pos.line X.env = pure false := by rfl) (hf : X.fn x = true ∨ X.env.scope.names.lookup x = some .local := by first | exact .inl rfl | exact .inr rfl)
    (hsh : (evalEachOpt [some k] X.env).zip ((evalEach [v] X.env).map fun v => do let x ← v; standAt p; pure x) = (pairTrees [some k] [v] X.env p).map fun p => (some p.1, p.2) := by rfl) :
    DS X W (.Assign [.Name x pos'] (.Dict [some k] [v] p) pos) (sDic1 i f g) := by
  obtain ⟨te, a1, a2⟩ := h.ex
  obtain ⟨tv, b1, b2⟩ := h2.ex
  refine ⟨_, ps_set (i := i) hN hi hx (DX.pe_xdisp1 hu a1 b1 hsh) hs hf, fun B G0 G H σ env E c po => ?_⟩
  intro q hq
  have bq := c.exB.free hq
  have gq := c.exG.free hq
  have ap := c.apart hq
  have c1 : Cn (kw X) (upd B q (DicO X.w q [])) G G σ (upd H q (DicO X.w q [])) env := (c.poke gq bq ap).under upd_same gq ap
  have noG : ∀ {G4 σ4 H4 e4}, Cn (kw X) (upd B q (DicO X.w q [])) G G4 σ4 H4 e4 → G4 q = none := fun {G4 σ4 H4 e4} c4 => by
    cases z : G4 q with
    | none => rfl
    | some w =>
      rcases c4.new q (by rw [z]; intro k; cases k) with k | k
      · exact absurd gq k
      · rw [upd_same] at k; cases k
  refine a2 _ G G _ σ env _ c1 ?_
  simp only [sDic1] at po
  cases o : f env with
  | no => rw [o] at po; exact po
  | ex n =>
    rw [o] at po
    intro cls H' G' hm c'
    exact po cls σ H' G' hm (c.over bq c')
  | ok d =>
    simp only [o, M.to] at po
    intro v1 H1 G1 s1 c2 r1
    have c2' : Cn (kw X) (upd B q (DicO X.w q [])) G G1 σ H1 env := c2
    refine b2 _ G G1 H1 σ env _ c2 ?_
    cases o2 : g env with
    | no => rw [o2] at po; exact po
    | ex n =>
      rw [o2] at po
      intro cls H' G' hm c'
      exact po cls σ H' G' hm (c.over bq c')
    | ok z =>
      simp only [o2, M.to] at po
      intro v2 H2 G2 s2 c3 r2
      cases d with
      | tup ys =>
        simp only [newX] at po
        cases hk : keyOk (.tup ys) with
        | none => rw [hk] at po; exact po.elim
        | some key =>
          simp only [hk, Option.map_some, M.of, M.to] at po
          have hp2 : H2 q = some (DicO X.w q []) := c3.exB _ _ upd_same
          have r1' := r1.up s2
          cases r1' with
          | @tup ad vs _ g1 g2 =>
            refine ⟨hp2, ad, key, rfl, DX.keyIn_of c3.exG hk (.tup g1 g2), fun r hr => ?_⟩
            have c4 := c.over bq c3
            have g4 := noG c3
            have ap4 : Apart σ env q := ap
            have c5 := (c4.minus g4 bq ap4).setOwn i (t := .dic [(.tup ys, z)]) (o := DicO X.w q [(key, .ref ad, r)]) less_self ⟨q, _, rfl, g4, bq, upd_same, .cons ⟨hk, ⟨.ref ad, rfl, .tup g1 g2⟩, v2, hr, r2⟩ .nil⟩
            rw [upd_less2] at c5
            exact po _ _ G2 (s1.trans s2) c5
      | non => exact po.elim
      | bl _ => exact po.elim
      | int _ => exact po.elim
      | str _ => exact po.elim
      | lst _ => exact po.elim
      | scr _ => exact po.elim
/-- the dict of a slot stands still ahead of the statement -/
theorem ds_frzD (i : Nat) (h : DS X W st a) : DS X W st (sFrzD i a) := by
  obtain ⟨ts, a1, a2⟩ := h.ex
  refine ⟨_, DX.ps_frz a1, fun B G0 G H σ env E c po => ?_⟩
  simp only [sFrzD] at po
  cases o : env[i]? with
  | none => simp only [o] at po; exact po.elim
  | some s =>
    cases s with
    | dic kvs =>
      simp only [o] at po
      obtain ⟨oo, e1, p, xs, e2, gp, bp, hp, r⟩ := c.cel i _ o
      subst e2
      refine .inr ⟨p, _, hp, trivial, fun od => ?_⟩
      have hl := (List.getElem?_eq_some_iff.mp o).1
      have sG : Same G (upd G p (.frz od (DicO X.w p xs))) := same_upd gp
      have c' : Cn (kw X) B G0 (upd G p (.frz od (DicO X.w p xs))) σ (upd H p (.frz od (DicO X.w p xs))) (env.set i (.fdc kvs)) := {
        len := by simp [c.len]
        exB := fun a x e => by rw [upd_ne (ne_of_none e bp)]; exact c.exB _ _ e
        exG := fun a x e => by
          by_cases z : a = p
          · subst z; rw [upd_same] at e ⊢; exact e
          · rw [upd_ne z] at e ⊢; exact c.exG _ _ e
        ex0 := c.ex0.trans sG
        new := fun a h => by
          by_cases z : a = p
          · subst z; exact .inr bp
          · rw [upd_ne z] at h; exact c.new a h
        cel := fun j s e => by
          by_cases hj : i = j
          · subst hj
            rw [List.getElem?_set_self hl] at e
            cases e
            exact ⟨_, e1, p, xs, od, rfl, upd_same, L2.Paired.mapP r fun _ _ z => z.up sG⟩
          · rw [List.getElem?_set_ne hj] at e
            obtain ⟨q, f1, h1⟩ := c.cel j s e
            refine ⟨q, f1, ?_⟩
            have ne : s.owned → q ≠ some (.ref p) := fun hu z => by
              rw [z] at f1
              exact c.sep i j _ s p hj o e trivial hu e1 f1
            cases s with
            | un => trivial
            | dat d => obtain ⟨v, e4, r4⟩ := h1; exact ⟨v, e4, r4.up sG⟩
            | own xs =>
              obtain ⟨p', vs', e4, gp', bp', hp', r'⟩ := h1
              have np : p' ≠ p := fun z => ne trivial (by rw [e4, z])
              exact ⟨p', vs', e4, by rw [upd_ne np]; exact gp', bp', by rw [upd_ne np]; exact hp', r'.up sG⟩
            | dic xs =>
              obtain ⟨p', vs', e4, gp', bp', hp', r'⟩ := h1
              have np : p' ≠ p := fun z => ne trivial (by rw [e4, z])
              exact ⟨p', vs', e4, by rw [upd_ne np]; exact gp', bp', by rw [upd_ne np]; exact hp', L2.Paired.mapP r' fun _ _ z => z.up sG⟩
            | exc xs => exact h1
            | fdc xs => obtain ⟨p', vs', od', e4, gp', r'⟩ := h1; exact ⟨p', vs', od', e4, sG _ _ gp', L2.Paired.mapP r' fun _ _ z => z.up sG⟩
        sep := fun j k s u q ne f1 f2 o1 o2 h1 => by
          have nj : i ≠ j := fun z => by
            subst z
            rw [List.getElem?_set_self hl] at f1
            cases f1
            exact o1
          have nk : i ≠ k := fun z => by
            subst z
            rw [List.getElem?_set_self hl] at f2
            cases f2
            exact o2
          rw [List.getElem?_set_ne nj] at f1
          rw [List.getElem?_set_ne nk] at f2
          exact c.sep j k s u q ne f1 f2 o1 o2 h1 }
      exact a2 B G0 _ _ σ _ E c' (PoS.up sG po)
    | un => simp only [o] at po; exact po.elim
    | dat d => simp only [o] at po; exact po.elim
    | own d => simp only [o] at po; exact po.elim
    | fdc d => simp only [o] at po; exact .inl (a2 B G0 G H σ env E c po)
    | exc d => simp only [o] at po; exact po.elim
theorem paired_at {α β : Type} {F : α → β → Prop} : ∀ {l : List α} {m : List β} {j : Nat} {y : β}, Paired F l m → m[j]? = some y → ∃ x, l[j]? = some x ∧ F x y
  | _, _, _, _, .nil, h => by simp at h
  | _, _, 0, _, .cons r _, h => by
    simp only [List.getElem?_cons_zero, Option.some.injEq] at h
    subst h
    exact ⟨_, rfl, r⟩
  | _, _, j + 1, _, .cons _ t, h => by
    simp only [List.getElem?_cons_succ] at h
    obtain ⟨x, h1, h2⟩ := paired_at t h
    exact ⟨x, by rw [List.getElem?_cons_succ]; exact h1, h2⟩
theorem top_of {K : KW} {G : Hp} {d : D} {k : NestedKey} {v : V} {u : Value} (hk : keyOk d = some k) (r : Rep K G v d) (rv : RelV v u) : (∃ i t, u = .int i t) ∨ ∃ a, u = .ref a := by
  obtain ⟨_, _, h⟩ := DX.keyOk_inv hk
  rcases h with ⟨i, rfl⟩ | ⟨xs, rfl⟩
  · cases r
    obtain ⟨t, rfl⟩ := id rv
    exact .inl ⟨_, _, rfl⟩
  · cases r with
    | @tup a vs _ g1 g2 => exact .inr ⟨a, rv⟩
/-- for .. in d, d standing still -/
theorem di_keysX {tg : Expr} (i : Nat) {x : Str} {px : Pos} (hN : X.N[i]? = some x := by rfl) (hv : Vis X.env.scope x := by first | exact Or.inl rfl | exact Or.inr (Or.inl rfl) | exact Or.inr (Or.inr rfl)) (hd : (x == ("__debug__" : Str)) = false := by decide)
    (hcd : (x == ("__classdict__" : Str)) = false := by decide) : DI X W tg (.Name x px) (iKeysX i) := by
  refine ⟨_, DX.pi_xkeys (pe_var hN hv hd hcd), fun B G0 G H σ env R c po => ?_⟩
  simp only [iKeysX] at po
  cases o : celF env i with
  | no => rw [o] at po; exact po.elim
  | ex n => exact (celF_no o).elim
  | ok kvs =>
    simp only [o, M.bind] at po
    obtain ⟨oo, e1, p, xs, od, e2, gp, r⟩ := c.cel i _ (celF_inv o)
    subst e2
    refine ⟨.ref p, e1, p, od, xs, rfl, c.exG _ _ gp, po _ H G (Same.refl G) c ?_⟩
    intro B2 G02 G2 σ2 H2 env2 j s2 c2
    have gp2 := s2 _ _ gp
    have ents : DX.EntsIn X H2 xs := DX.entsIn_of (s2.trans c2.exG) r
    refine ⟨fun d hd => ?_, fun hl => ⟨c2.exG _ _ gp2, by rw [paired_len r]; simpa using hl⟩⟩
    rw [List.getElem?_map] at hd
    cases q : kvs[j]? with
    | none => rw [q] at hd; cases hd
    | some y =>
      rw [q] at hd
      cases hd
      obtain ⟨en, hen, kr⟩ := paired_at r q
      have hj : j < xs.length := (List.getElem?_eq_some_iff.mp hen).1
      refine ⟨⟨c2.exG _ _ gp2, ents, hj⟩, fun v H3 z => ?_⟩
      obtain ⟨rfl, e3, he3, rfl⟩ := z
      rw [hen] at he3
      cases he3
      obtain ⟨v0, rv, rp⟩ := kr.kv
      have top := top_of kr.key rp rv
      exact ⟨G2, Same.refl _, c2, by rw [← DX.vOf_of top rv]; exact rp.up s2⟩
/-- the own thing of slot j goes to slot i -/
theorem Cn.move {K : KW} {B G0 G H : Hp} {σ : L2.St} {env : DEnv} {i j : Nat} {t : Cel} {o : Option V} (c : Cn K B G0 G σ H env) (hij : i ≠ j) (hj : env[j]? = some t) (ho : σ[j]? = some o) : Cn K B G0 G (σ.set i o) H ((env.set j .un).set i t) where
  len := by simp [c.len]
  exB := c.exB
  exG := c.exG
  ex0 := c.ex0
  new := c.new
  cel := fun k s e => by
    by_cases hk : i = k
    · subst hk
      have hi : i < env.length := by
        have := (List.getElem?_eq_some_iff.mp e).1
        simpa using this
      rw [List.getElem?_set_self (by simpa using hi)] at e
      cases e
      obtain ⟨o', e1, h1⟩ := c.cel j _ hj
      rw [ho] at e1
      cases e1
      exact ⟨o, by rw [List.getElem?_set_self (by rw [c.len]; exact hi)], h1⟩
    · rw [List.getElem?_set_ne hk] at e
      by_cases hk2 : j = k
      · subst hk2
        rw [List.getElem?_set_self (List.getElem?_eq_some_iff.mp hj).1] at e
        cases e
        exact ⟨o, by rw [List.getElem?_set_ne hk]; exact ho, trivial⟩
      · rw [List.getElem?_set_ne hk2] at e
        obtain ⟨o', e1, h1⟩ := c.cel k s e
        exact ⟨o', by rw [List.getElem?_set_ne hk]; exact e1, h1⟩
  sep := fun k l s u q ne f1 f2 o1 o2 h1 => by
    have back : ∀ {k : Nat} {s : Cel}, ((env.set j .un).set i t)[k]? = some s → s.owned → ∃ k' , ((k = i ∧ k' = j) ∨ (k ≠ i ∧ k' = k ∧ k ≠ j)) ∧ env[k']? = some s ∧ (σ.set i o)[k]? = σ[k']? := fun {k s} f oo => by
      by_cases hk : i = k
      · subst hk
        have hi : i < env.length := by
          have := (List.getElem?_eq_some_iff.mp f).1
          simpa using this
        rw [List.getElem?_set_self (by simpa using hi)] at f
        cases f
        exact ⟨j, .inl ⟨rfl, rfl⟩, hj, by rw [List.getElem?_set_self (by rw [c.len]; exact hi), ho]⟩
      · rw [List.getElem?_set_ne hk] at f
        by_cases hk2 : j = k
        · subst hk2
          rw [List.getElem?_set_self (List.getElem?_eq_some_iff.mp hj).1] at f
          cases f
          exact oo.elim
        · rw [List.getElem?_set_ne hk2] at f
          exact ⟨k, .inr ⟨fun z => hk z.symm, rfl, fun z => hk2 z.symm⟩, f, by rw [List.getElem?_set_ne hk]⟩
    obtain ⟨k', a1, a2, a3⟩ := back f1 o1
    obtain ⟨l', b1, b2, b3⟩ := back f2 o2
    rw [a3] at h1
    rw [b3]
    refine c.sep k' l' s u q ?_ a2 b2 o1 o2 h1
    rcases a1 with ⟨a, a'⟩ | ⟨a, a', a4⟩ <;> rcases b1 with ⟨b, b'⟩ | ⟨b, b', b4⟩ <;> omega
/-- x = y, y's own dict; y is not read behind it -/
theorem ds_move (i j : Nat) {x y : Str} {py pos' : Pos} (hij : i ≠ j) (hN : X.N.Nodup) (hj : X.N[j]? = some y := by rfl) (hv : Vis X.env.scope y := by first | exact Or.inl rfl | exact Or.inr (Or.inl rfl) | exact Or.inr (Or.inr rfl)) (hd : (y == ("__debug__" : Str)) = false := by decide) (hcd : (y == ("__classdict__" : Str)) = false := by decide)
    (hi : X.N[i]? = some x := by rfl) (hx : Loc X.env.scope x := by first | exact .inl rfl | exact .inr rfl) (hs : swapsWith (.Name y py) (some (.Name x pos')) pos.line X.env = pure false := by rfl) (hf : X.fn x = true ∨ X.env.scope.names.lookup x = some .local := by first | exact .inl rfl | exact .inr rfl) :
    DS X W (.Assign [.Name x pos'] (.Name y py) pos) (sMove i j) := by
  refine ⟨_, ps_set (i := i) hN hi hx (pe_var hj hv hd hcd) hs hf, fun B G0 G H σ env E c po => ?_⟩
  simp only [sMove] at po
  cases o : celW env j with
  | no => rw [o] at po; exact po.elim
  | ex n => exact (celW_no o).elim
  | ok kvs =>
    simp only [o, M.to] at po
    have h := celW_inv o
    obtain ⟨oo, e1, p, xs, e2, gp, bp, hp, r⟩ := c.cel j _ h
    subst e2
    exact ⟨.ref p, e1, po _ H G (Same.refl G) (c.move hij h e1)⟩
end
end DL

namespace DL
open PySem PySem.Spec PyProof.Rows L2
/-! ### while all stands still -/
/-- own lists are lent as data -/
def stillC : Cel → Cel
  | .own xs => .dat (.lst xs)
  | .dic _ => .un
  | c => c
@[simp] def still (env : DEnv) : DEnv := env.map stillC
/-- data that hold no object -/
def flatD : D → Bool
  | .non => true
  | .bl _ => true
  | .int _ => true
  | .str _ => true
  | _ => false
theorem flat_rep {K : KW} {G G' : Hp} {v : V} {d : D} (h : flatD d = true) (r : Rep K G v d) : Rep K G' v d := by
  cases r <;> simp [flatD] at h
  · exact .non
  · exact .bl _
  · exact .int _
  · exact .str _
@[simp] def xStill (f : DEnv → M D) (env : DEnv) : M D := (f (still env)).bind fun d => if flatD d = true then .ok d else .no
@[simp] def tStill (t : DEnv → M Bool) (env : DEnv) : M Bool := t (still env)
theorem Cn.still {K : KW} {B G0 G H : Hp} {σ : L2.St} {env : DEnv} (c : Cn K B G0 G σ H env) : Cn K H H H σ H (still env) where
  len := by simp [c.len]
  exB := Same.refl H
  exG := Same.refl H
  ex0 := Same.refl H
  new := fun a h => .inl h
  cel := fun i s e => by
    simp only [DL.still, List.getElem?_map, Option.map_eq_some_iff] at e
    obtain ⟨t, e1, rfl⟩ := e
    obtain ⟨o, e2, h⟩ := c.cel i t e1
    refine ⟨o, e2, ?_⟩
    cases t with
    | un => trivial
    | dat d => obtain ⟨v, e3, r⟩ := h; exact ⟨v, e3, r.up c.exG⟩
    | own xs => obtain ⟨p, vs, e3, gp, bp, hp, r⟩ := h; exact ⟨_, e3, .lst hp (r.up c.exG)⟩
    | dic xs => trivial
    | exc xs => exact h
    | fdc xs => obtain ⟨p, vs, od, e3, gp, r⟩ := h; exact ⟨p, vs, od, e3, c.exG _ _ gp, L2.Paired.mapP r fun _ _ z => z.up c.exG⟩
  sep := fun i j s t p ne e1 e2 o1 o2 q => by
    simp only [DL.still, List.getElem?_map, Option.map_eq_some_iff] at e1
    obtain ⟨t, _, rfl⟩ := e1
    cases t <;> exact o1.elim
theorem Cn.wake {K : KW} {B G0 G G' H H' : Hp} {σ : L2.St} {env env' : DEnv} (c : Cn K B G0 G σ H env) (c' : Cn K H H G' σ H' env') : Cn K B G0 G σ H' env :=
  c.grow (Same.refl G) c'.exB (c.exG.trans c'.exB) fun a h => .inl h
section
variable {X : Cx} {W : WX} {e : Expr} {f : DEnv → M D} {t : DEnv → M Bool} {pos p : Pos}
theorem RdE.still {K : KW} {mg : Str → Option Value} {te : TE} (h : RdE K mg W te f) : RdE K mg W te (xStill f) := by
  intro B G0 G H σ env Q c po
  refine h H H H H σ (DL.still env) Q c.still ?_
  simp only [xStill] at po
  cases o : f (DL.still env) with
  | no => rw [o] at po; exact po
  | ex n =>
    rw [o] at po
    intro cls H' G' hm c'
    exact po cls H' G hm (c.wake c')
  | ok d =>
    simp only [o, M.bind] at po
    intro v H' G' s c' r
    by_cases hf : flatD d = true
    · rw [if_pos hf] at po
      exact po v H' G (Same.refl G) (c.wake c') (flat_rep hf r)
    · rw [if_neg hf] at po
      exact po.elim
theorem RdT.still {K : KW} {mg : Str → Option Value} {te : TT} (h : RdT K mg W te t) : RdT K mg W te (tStill t) := by
  intro B G0 G H σ env Q c po
  refine h H H H H σ (DL.still env) Q c.still ?_
  simp only [tStill] at po
  cases o : t (DL.still env) with
  | no => rw [o] at po; exact po
  | ex n =>
    rw [o] at po
    intro cls H' G' hm c'
    exact po cls H' G hm (c.wake c')
  | ok d =>
    rw [o] at po
    intro H' G' s c'
    exact po H' G (Same.refl G) (c.wake c')
theorem de_still (h : DE X W e f) : DE X W e (xStill f) := by
  obtain ⟨_, a1, a2⟩ := h.ex
  exact ⟨_, a1, a2.still⟩
theorem dt_still (h : DT X W e t) : DT X W e (tStill t) := by
  obtain ⟨_, a1, a2⟩ := h.ex
  exact ⟨_, a1, a2.still⟩
end
/-! ### a new list that a call gives -/
mutual
def noLst : D → Bool
  | .non => true
  | .bl _ => true
  | .int _ => true
  | .str _ => true
  | .tup xs => noLsts xs
  | _ => false
def noLsts : List D → Bool
  | [] => true
  | x :: xs => noLst x && noLsts xs
end
/-- the tuples alone -/
def tups (H : Hp) : Hp := fun a => match H a with
  | some (.tup xs) => some (.tup xs)
  | _ => none
theorem tups_same (H : Hp) : Same (tups H) H := fun a o e => by
  unfold tups at e
  split at e
  · rename_i h
    cases e
    exact h
  · cases e
theorem tups_at {H : Hp} {a : Addr} {xs : List V} (h : H a = some (.tup xs)) : tups H a = some (.tup xs) := by
  unfold tups
  rw [h]
theorem tups_only {H : Hp} {a : Addr} (h : tups H a ≠ none) : ∃ xs, tups H a = some (.tup xs) := by
  cases q : tups H a with
  | none => exact absurd q h
  | some o =>
    unfold tups at q
    split at q
    · cases q; exact ⟨_, rfl⟩
    · cases q
mutual
theorem Rep.tups {K : KW} {G H : Hp} (s : Same G H) : ∀ (d : D) (v : V), noLst d = true → Rep K G v d → Rep K (tups H) v d
  | .non, _, _, r => by cases r; exact .non
  | .bl _, _, _, r => by cases r; exact .bl _
  | .int _, _, _, r => by cases r; exact .int _
  | .str _, _, _, r => by cases r; exact .str _
  | .tup xs, _, h, r => by
    cases r with
    | tup g1 g2 => exact .tup (tups_at (s _ _ g1)) (Reps.tups s xs _ (by simpa [noLst] using h) g2)
  | .lst _, _, h, _ => by simp [noLst] at h
  | .scr _, _, h, _ => by simp [noLst] at h
theorem Reps.tups {K : KW} {G H : Hp} (s : Same G H) : ∀ (ds : List D) (vs : List V), noLsts ds = true → Reps K G vs ds → Reps K (tups H) vs ds
  | [], _, _, r => by cases r; exact .nil
  | d :: ds, _, h, r => by
    cases r with
    | cons r1 r2 =>
      have h' : noLst d = true ∧ noLsts ds = true := by simpa [noLsts] using h
      exact .cons (Rep.tups s d _ h'.1 r1) (Reps.tups s ds _ h'.2 r2)
end
theorem flats_rep {K : KW} {G G' : Hp} : ∀ {ds : List D} {vs : List V}, ds.all flatD = true → Reps K G vs ds → Reps K G' vs ds
  | [], _, _, r => by cases r; exact .nil
  | d :: ds, _, h, r => by
    cases r with
    | cons r1 r2 =>
      have h' : flatD d = true ∧ ds.all flatD = true := by simpa using h
      exact .cons (flat_rep h'.1 r1) (flats_rep h'.2 r2)
def ownC : D → Option Cel
  | .lst xs => if xs.all flatD = true then some (.own xs) else none
  | d => if flatD d = true then some (.dat d) else none
@[simp] def sOwnCall (i n : Nat) (g : List D → M D) (ga : DEnv → M (List D)) : DStm := fun env => (ga env).to env fun ds => if ds.length = n ∧ noLsts ds = true then (g ds).to env fun d => (M.of (ownC d)).to env fun c => .nx (env.set i c) else .no
section
variable {X : Cx} {W : WX} {e : Expr} {es : List Expr} {pos p pos2 : Pos}
theorem ds_ownCall {k j n : Nat} (i : Nat) {x y : Str} {pos' : Pos} {g : List D → M D} {ga : DEnv → M (List D)} (F : DFn X.prog X.w X.K X.mg X.base k y n g) (hr : Room j X.A) (hj : k ≤ j) (tk : Takes X W) (ha : DA X W (e :: es) ga) (hN : X.N.Nodup)
    (hg : Gl X y := by rfl) (hdb : (y == ("__debug__" : Str)) = false := by decide) (he : starEach (e :: es) X.env = (false, eval e X.env) :: starEach es X.env := by rfl) (hpl : (backTo pos (starEach es X.env)).any (·.1) = false := by rfl)
    (hi : X.N[i]? = some x := by rfl) (hx : Loc X.env.scope x := by first | exact .inl rfl | exact .inr rfl) (hs : swapsWith (.Call (.Name y p) (e :: es) [] pos) (some (.Name x pos')) pos2.line X.env = pure false := by rfl) (hf : X.fn x = true ∨ X.env.scope.names.lookup x = some .local := by first | exact .inl rfl | exact .inr rfl) :
    DS X W (.Assign [.Name x pos'] (.Call (.Name y p) (e :: es) [] pos) pos2) (sOwnCall i n g ga) := by
  obtain ⟨f, fd, ps, F1, F2, F3, F4⟩ := F.ex
  obtain ⟨_, a1, a2⟩ := ha.ex
  refine ⟨_, ps_set (i := i) hN hi hx (pe_callS F1 (hr.mono hj) hg F2 F3 F4 (fun σ => passAt tk σ) a1 hdb he hpl) hs hf, fun B G0 G H σ env E c po => ?_⟩
  refine a2 B G0 G H σ env _ c ?_
  simp only [sOwnCall] at po
  cases o : ga env with
  | no => rw [o] at po; exact po
  | ex m => rw [o] at po; exact PoX.s po
  | ok ds =>
    simp only [o, M.to] at po
    intro vs H1 G1 s1 c1 r1
    by_cases hl : ds.length = n ∧ noLsts ds = true
    · rw [if_pos hl] at po
      have rt : Reps (kw X) (tups H1) vs ds := Reps.tups c1.exG ds vs hl.2 r1
      refine ⟨r1.length.trans hl.1, tups H1, ds, tups_same H1, rt, ?_⟩
      cases q : g ds with
      | no => rw [q] at po; exact po
      | ex m =>
        rw [q] at po
        intro cls H' hm hh
        exact po cls σ H' G1 hm (c1.grow (Same.refl _) hh (c1.exG.trans hh) fun a z => .inl z)
      | ok d =>
        simp only [q, M.to] at po
        intro v H' G' s2 gh hh nw r
        have c2 := c1.grow (Same.refl G1) hh (c1.exG.trans hh) fun a z => .inl z
        cases o2 : ownC d with
        | none => rw [o2] at po; exact po.elim
        | some cl =>
          simp only [o2, M.of, M.to] at po
          cases d with
          | lst xs =>
            simp only [ownC] at o2
            split at o2
            · rename_i hfl
              cases o2
              cases r with
              | @lst a ys _ g1 g2 =>
                have ha : H1 a = none := by
                  rcases nw a (by rw [g1]; intro z; cases z) with z | z
                  · obtain ⟨zs, hz⟩ := tups_only z
                    have := s2 _ _ hz
                    rw [g1] at this
                    cases this
                  · exact z
                have hB := c1.exB.free ha
                have hG := c1.exG.free ha
                have hp := gh _ _ g1
                -- what is new stands at a alone
                have ap : Apart σ env a := c1.apart ha
                have c3 := (c2.minus hG hB ap).setOwn i (t := .own xs) (o := .lst ys) less_self ⟨a, ys, rfl, hG, hB, upd_same, flats_rep hfl g2⟩
                rw [upd_less hp] at c3
                exact po _ H' G1 s1 c3
            · cases o2
          | non => cases o2; exact po _ H' G1 s1 (c2.set i (flat_rep rfl r))
          | bl b => cases o2; exact po _ H' G1 s1 (c2.set i (flat_rep rfl r))
          | int b => cases o2; exact po _ H' G1 s1 (c2.set i (flat_rep rfl r))
          | str b => cases o2; exact po _ H' G1 s1 (c2.set i (flat_rep rfl r))
          | tup b => simp [ownC, flatD] at o2
          | scr b => simp [ownC, flatD] at o2
    · rw [if_neg hl] at po
      exact po.elim
end
end DL

namespace DL
open PySem PySem.Spec PyProof.Rows L2
/-! ### range downward -/
noncomputable def rng3D : List D → Option (List D)
  | [.int i, .int j, .int c] => if inB i = true ∧ inB j = true ∧ c = -1 then some ((List.range (i - j).toNat).map fun (m : Nat) => D.int (i + (m : Int) * (-1))) else none
  | _ => none
theorem jok_rngC {K : KW} {G1 : Hp} {lo c : Int} {n : Nat} : JOk K (Itc lo c n) G1 ((List.range n).map fun (m : Nat) => D.int (lo + (m : Int) * c)) := by
  intro B G0 G σ H env i _ cn
  refine ⟨fun d hd => ?_, fun hi => by
    show n ≤ i
    simpa using hi⟩
  have hi : i < n := by
    have := (List.getElem?_eq_some_iff.mp hd).1
    simpa using this
  refine ⟨hi, fun x H' y => ?_⟩
  obtain ⟨rfl, rfl⟩ := y
  refine ⟨G, Same.refl G, cn, ?_⟩
  rw [List.getElem?_map, List.getElem?_range hi] at hd
  simp only [Option.map_some, Option.some.injEq] at hd
  subst hd
  exact .int _
section
variable {X : Cx} {W : WX} {tg : Expr} {pos p : Pos}
theorem di_rng3 {a b c : Expr} {g : DEnv → M (List D)} (hm : X.mg "range" = none) (ha : DA X W [a, b, c] g) (hg : Gl X "range" := by rfl) (hs : starEach [a, b, c] X.env = (false, eval a X.env) :: starEach [b, c] X.env := by rfl)
    (hpl : (backTo pos (starEach [b, c] X.env)).any (·.1) = false := by rfl) : DI X W tg (.Call (.Name "range" p) [a, b, c] [] pos) (iRng rng3D g) := by
  obtain ⟨ta, a1, a2⟩ := ha.ex
  refine ⟨_, pi_range3 hg hm a1 hs hpl, ?_⟩
  intro B G0 G H σ env R cn po
  simp only [iRng] at po
  refine a2 B G0 G H σ env _ cn ?_
  cases o : g env with
  | no => rw [o] at po; exact po
  | ex m => rw [o] at po; exact po
  | ok ds =>
    rw [o] at po
    intro vs H1 G1 s1 c1 r1
    simp only [M.bind] at po
    cases q : rng3D ds with
    | none => rw [q] at po; exact po.elim
    | some its =>
      rw [q] at po
      unfold rng3D at q
      split at q
      · split at q
        · rename_i hc
          obtain ⟨h1, h2, rfl⟩ := hc
          obtain ⟨x1, x2⟩ := (inB_iff _).mp h1
          obtain ⟨y1, y2⟩ := (inB_iff _).mp h2
          cases q
          cases r1 with
          | cons x y =>
            cases y with
            | cons y z =>
              cases z with
              | cons z u =>
                cases u; cases x; cases y; cases z
                exact ⟨_, _, _, _, rfl, RgC.neg x1 x2 y1 y2, po _ H1 G1 s1 c1 jok_rngC⟩
        · cases q
      · cases q
end
end DL

namespace DL
open PySem PySem.Spec PyProof.Rows L2
/-! ### try .. except X as e -/
section
variable {K : KW} {B G0 G G' H H' : Hp} {σ σ' : L2.St} {env env' : DEnv}
theorem Cn.base (c : Cn K B G0 G σ H env) : Cn K B G G σ H env :=
  { len := c.len, exB := c.exB, exG := c.exG, ex0 := Same.refl G, new := fun a h => .inl h, cel := c.cel, sep := c.sep }
theorem Cn.unbase (c : Cn K B G0 G σ H env) (c' : Cn K B G G' σ' H' env') : Cn K B G0 G' σ' H' env' :=
  { len := c'.len, exB := c'.exB, exG := c'.exG, ex0 := c.ex0.trans c'.ex0, new := fun a h => (c'.new a h).elim (fun z => c.new a z) .inr, cel := c'.cel, sep := c'.sep }
theorem Cn.setExc (c : Cn K B G0 G σ H env) (i : Nat) (a : Addr) : Cn K B G0 G (σ.set i (some (.ref a))) H (env.set i (.exc a)) where
  len := by simp [c.len]
  exB := c.exB
  exG := c.exG
  ex0 := c.ex0
  new := c.new
  cel := fun j s e => by
    by_cases h : i = j
    · subst h
      have hi : i < env.length := by
        have := (List.getElem?_eq_some_iff.mp e).1
        simpa using this
      rw [List.getElem?_set_self hi] at e
      cases e
      exact ⟨some (.ref a), by rw [List.getElem?_set_self (by rw [c.len]; exact hi)], rfl⟩
    · rw [List.getElem?_set_ne h] at e
      obtain ⟨o, e1, q⟩ := c.cel j s e
      exact ⟨o, by rw [List.getElem?_set_ne h]; exact e1, q⟩
  sep := fun j k s t p ne e1 e2 o1 o2 q => by
    have hj : i ≠ j := fun z => by
      subst z
      have hi : i < env.length := by
        have := (List.getElem?_eq_some_iff.mp e1).1
        simpa using this
      rw [List.getElem?_set_self hi] at e1
      cases e1
      exact o1
    have hk : i ≠ k := fun z => by
      subst z
      have hi : i < env.length := by
        have := (List.getElem?_eq_some_iff.mp e2).1
        simpa using this
      rw [List.getElem?_set_self hi] at e2
      cases e2
      exact o2
    rw [List.getElem?_set_ne hj] at e1 q
    rw [List.getElem?_set_ne hk] at e2 ⊢
    exact c.sep j k s t p ne e1 e2 o1 o2 q
end
def tSF (K : KW) (mg : Str → Option Value) (W : WX) (g : DStm) : TS := fun E σ H => ∃ B G0 G env, Cn K B G0 G σ H env ∧ PoS K mg W B G0 G E (g env)
theorem DSs.canon {X : Cx} {W : WX} {st : List Stmt} {g : DStm} (h : DSs X W st g) : PSs X st (tSF (kw X) X.mg W g) := by
  obtain ⟨ts, a1, a2⟩ := h.ex
  exact ⟨fun pins s σ H E I ⟨B, G0, G, env, c, p⟩ => a1.run pins s σ H E I (a2 B G0 G H σ env E c p)⟩
open Classical in
/-- what the suite gives back for an exception of class c, whatever its place -/
noncomputable def suiteR (i : Nat) (gs : Addr → Str → DStm) (c : Str) (e : DEnv) : DOut := if h : ∃ d, ∀ a, gs a c (e.set i (.exc a)) = .rt d then .rt h.choose else .no
theorem suiteR_eq {i : Nat} {gs : Addr → Str → DStm} {c : Str} {e : DEnv} {d : D} (h : ∀ a, gs a c (e.set i (.exc a)) = .rt d) : suiteR i gs c e = .rt d := by
  have hex : ∃ d, ∀ a, gs a c (e.set i (.exc a)) = .rt d := ⟨d, h⟩
  unfold suiteR
  rw [dif_pos hex]
  have := (hex.choose_spec 0).symm.trans (h 0)
  exact this
theorem suiteR_inv {i : Nat} {gs : Addr → Str → DStm} {c : Str} {e : DEnv} : suiteR i gs c e = .no ∨ ∃ d, suiteR i gs c e = .rt d ∧ ∀ a, gs a c (e.set i (.exc a)) = .rt d := by
  unfold suiteR
  split
  · rename_i h
    exact .inr ⟨_, rfl, h.choose_spec⟩
  · exact .inl rfl
noncomputable def sTryAs (i : Nat) (cs : List Str) (gb : DStm) (gs : Addr → Str → DStm) : DStm := fun env => match gb env with
  | .ex c e => if c ∈ cs then suiteR i gs c e else .no
  | o => o
section
variable {X : Cx} {W : WX} {body suite : List Stmt} {b₀ : Stmt} {pos pos' np : Pos}
theorem ds_tryAs (i : Nat) {x n : Str} {cv : Value} {cs : List Str} {gb : DStm} {gs : Addr → Str → DStm} (hN : X.N.Nodup) (hc : Names X x cv) (tk : Takes X W)
    (hcat : ∀ c ∈ cs, ∃ D, X.mg c = some (.ref D) ∧ PySem.W.exmOne X.K (.ref D) cv = some true)
    (hb : ∀ (W' : WX) (pn : List (Addr × Obj)) (xe : Value → Shared → Prop), Takes (X.tr pn xe) W' → PassesOwn (model X.prog X.w) X.A X.env xe → DSs (X.tr pn xe) W' body gb)
    (hsu : ∀ c ∈ cs, ∀ (a : Addr) (oe : Obj) (pn : List (Addr × Obj)) (D : Addr), X.mg c = some (.ref D) → Zc (.ref D) none oe → (∃ vs, oe.data = .fields vs) → DSs (X.suite a ((a, oe) :: pn)) W0 (b₀ :: suite) (gs a c))
    (hi : X.N[i]? = some n := by rfl) (hln : X.env.kindOf n = some .local := by rfl) (hs : X.stack = X.env :: X.outer := by rfl) (hf : X.env.frame = some X.env.locals := by rfl) :
    DS X W (.Try body [.ExceptHandler (some (.Name x np)) (some n) (b₀ :: suite) pos'] [] [] pos) (sTryAs i cs gb gs) := by
  refine ⟨_, ps_try_as (tb := fun W' => tSF (kw X) X.mg W' gb) (ts := fun a cls d E σ H => ∃ c ∈ cs, X.mg c = some cls ∧ d = none ∧ (∃ D, cls = .ref D) ∧ tSF (kw X) X.mg W0 (gs a c) E σ H) hs hf hN hi hln hc tk
    (fun W' pn xe h1 h2 => (hb W' pn xe h1 h2).canon) (fun a oe cls d pn hz hfl => ⟨fun pins s σ H E I ⟨c, hcs, hm, hd, ⟨D, hD⟩, h⟩ => ?_⟩), fun B G0 G H σ env E c po => ?_⟩
  · subst hD hd
    exact (hsu c hcs a oe pn D hm hz hfl).canon.run pins s σ H E I h
  · refine ⟨B, G, G, env, c.base, ?_⟩
    unfold sTryAs at po
    cases o : gb env with
    | no => rw [o] at po; exact po
    | nx e => rw [o] at po; exact fun σ' H' G' s c' => po σ' H' G' s (c.unbase c')
    | rt d => rw [o] at po; exact fun v σ' H' G' e s c' r => po v σ' H' G' e s (c.unbase c') r
    | bk e => rw [o] at po; exact fun σ' H' G' s c' => po σ' H' G' s (c.unbase c')
    | ct e => rw [o] at po; exact fun σ' H' G' s c' => po σ' H' G' s (c.unbase c')
    | ex n e =>
      rw [o] at po
      simp only at po
      by_cases hn : n ∈ cs
      · rw [if_pos hn] at po
        rcases suiteR_inv (i := i) (gs := gs) (c := n) (e := e) with z | ⟨d, z, hd⟩
        · rw [z] at po; exact po.elim
        · rw [z] at po
          intro cls σ' H' G' hm c'
          obtain ⟨D, hD, hex⟩ := hcat n hn
          rw [hD] at hm
          cases hm
          refine ⟨true, hex, fun _ a ha => ⟨n, hn, hD, rfl, ⟨D, rfl⟩, B, G', G', _, (c'.base.setExc i a), ?_⟩, fun h => by cases h⟩
          rw [hd a]
          intro v σ2 H2 G2 e2 s2 c2 r2
          have c3 := c.unbase (c'.unbase (c'.base.unbase c2))
          exact po v σ2 H2 G2 e2 (c'.ex0.trans s2) c3 r2
      · rw [if_neg hn] at po
        exact po.elim
end
/-! ### what is asked of the exception -/
/-- isinstance(e, C), e at slot i -/
@[simp] def xIsE (i : Nat) (a : Addr) (b : Bool) (env : DEnv) : M D := match env[i]? with
  | some (.exc a') => if a' = a then .ok (.bl b) else .no
  | _ => .no
def subE (c C : Str) : Bool := decide (c = C) || decide (C = "WriteError") || decide (C = "ValueError")
section
variable {X : Cx} {W : WX} {a : Addr} {oe : Obj} {pn : List (Addr × Obj)} {pos p px pc : Pos}
theorem xIsE_rd {K : KW} {mg : Str → Option Value} {i : Nat} {v : V} {k : PySem.W.Frag} {D : Addr} {cv : Value} {b : Bool} (hv : ∀ u, RelV v u → u = cv) (hk : PySem.W.kitOne k (.ref D) cv = some b) :
    RdE K mg W (tCB (rIsE k D a) (tCons (tVar i) (tCons (tC v) tNil))) (xIsE i a b) := by
  intro B G0 G H σ env Q c po
  simp only [xIsE] at po
  cases o : env[i]? with
  | none => rw [o] at po; exact po.elim
  | some s =>
    cases s with
    | exc a' =>
      simp only [o] at po
      by_cases h : a' = a
      · rw [if_pos h] at po
        subst h
        obtain ⟨oo, e1, e2⟩ := c.cel i _ o
        subst e2
        exact ⟨_, e1, v, cv, b, rfl, hv, hk, po _ H G (Same.refl G) c (.bl b)⟩
      · rw [if_neg h] at po
        exact po.elim
    | un => rw [o] at po; exact po.elim
    | dat _ => rw [o] at po; exact po.elim
    | own _ => rw [o] at po; exact po.elim
    | dic _ => rw [o] at po; exact po.elim
    | fdc _ => rw [o] at po; exact po.elim
theorem de_isE (i : Nat) {n C : Str} {D D' : Addr} {b : Bool} (EC : ExcC X.K D) (hz : Zc (.ref D) none oe) (hf : ∃ vs, oe.data = .fields vs) (hk : PySem.W.kitOne X.K (.ref D) (.ref D') = some b) (hm : X.mg "isinstance" = none) (hmC : X.mg C = some (.ref D'))
    (hN : X.N[i]? = some n := by rfl) (hv : Vis X.env.scope n := by first | exact Or.inl rfl | exact Or.inr (Or.inl rfl) | exact Or.inr (Or.inr rfl)) (hd : (n == ("__debug__" : Str)) = false := by decide) (hcd : (n == ("__classdict__" : Str)) = false := by decide)
    (hg : Gl X "isinstance" := by rfl) (hgC : Gl X C := by rfl) (hdC : (C == ("__debug__" : Str)) = false := by decide)
    (hs : starEach [.Name n px, .Name C pc] X.env = (false, eval (.Name n px) X.env) :: starEach [.Name C pc] X.env := by rfl) (hs2 : starEach [.Name C pc] X.env = (false, eval (.Name C pc) X.env) :: starEach [] X.env := by rfl) (hpl : (backTo pos (starEach [.Name C pc] X.env)).any (·.1) = false := by rfl) :
    DE (X.suite a ((a, oe) :: pn)) W (.Call (.Name "isinstance" p) [.Name n px, .Name C pc] [] pos) (xIsE i a b) := by
  refine ⟨_, pe_callB (X := X.suite a ((a, oe) :: pn)) (call_isE EC hz hf) hg hm boot_isinstance (pa_cons (pe_var hN hv hd hcd) (pa_cons (pe_glob (v := .ref D') hgC hmC rfl hdC) pa_nil hs2) hs) (by decide) (by decide) hs hpl, ?_⟩
  exact xIsE_rd (fun u h => h) hk
theorem de_isET (i : Nat) {n C : Str} {T : String} {D : Addr} {b : Bool} (EC : ExcC X.K D) (hz : Zc (.ref D) none oe) (hf : ∃ vs, oe.data = .fields vs) (hk : PySem.W.kitOne X.K (.ref D) (.type T) = some b) (hT : bootBuiltins C = some (.type T)) (hm : X.mg "isinstance" = none) (hmC : X.mg C = none)
    (hN : X.N[i]? = some n := by rfl) (hv : Vis X.env.scope n := by first | exact Or.inl rfl | exact Or.inr (Or.inl rfl) | exact Or.inr (Or.inr rfl)) (hd : (n == ("__debug__" : Str)) = false := by decide) (hcd : (n == ("__classdict__" : Str)) = false := by decide)
    (hg : Gl X "isinstance" := by rfl) (hgC : Gl X C := by rfl) (hdC : (C == ("__debug__" : Str)) = false := by decide) (hnC : C ≠ "__name__" := by decide)
    (hs : starEach [.Name n px, .Name C pc] X.env = (false, eval (.Name n px) X.env) :: starEach [.Name C pc] X.env := by rfl) (hs2 : starEach [.Name C pc] X.env = (false, eval (.Name C pc) X.env) :: starEach [] X.env := by rfl) (hpl : (backTo pos (starEach [.Name C pc] X.env)).any (·.1) = false := by rfl) :
    DE (X.suite a ((a, oe) :: pn)) W (.Call (.Name "isinstance" p) [.Name n px, .Name C pc] [] pos) (xIsE i a b) := by
  refine ⟨_, pe_callB (X := X.suite a ((a, oe) :: pn)) (call_isE EC hz hf) hg hm boot_isinstance (pa_cons (pe_var hN hv hd hcd) (pa_cons (pe_bltn (v := .ty T) hgC hmC hT rfl hnC hdC) pa_nil hs2) hs) (by decide) (by decide) hs hpl, ?_⟩
  exact xIsE_rd (fun u h => h) hk
end
end DL

namespace DL
open PySem PySem.Spec PyProof.Rows L2
/-! ### more of own lists -/
def setO (xs : List D) (d v : D) : Option (List D) := match d with
  | .int k => (ixN xs.length k).map fun j => xs.set j v
  | _ => none
@[simp] def sSetO (i : Nat) (f g : DEnv → M D) : DStm := fun env => (g env).to env fun v => (celO env i).to env fun xs => (f env).to env fun d => (M.of (setO xs d v)).to env fun ys => .nx (env.set i (.own ys))
def extO (xs : List D) (d : D) : Option (List D) := match d with
  | .lst ys => if xs.length + ys.length ≤ sizeLine then some (xs ++ ys) else none
  | _ => none
def popO (xs : List D) (d : D) : Option (List D) := match d with
  | .int k => if (-(2 ^ 62) ≤ k ∧ k < 2 ^ 62) then (ixN xs.length k).map fun j => xs.eraseIdx j else none
  | _ => none
/-- a change of an own list by one argument -/
@[simp] def sChg (h : List D → D → Option (List D)) (i : Nat) (f : DEnv → M D) : DStm := fun env => (celO env i).to env fun xs => (f env).to env fun d => (M.of (h xs d)).to env fun ys => .nx (env.set i (.own ys))
section
variable {X : Cx} {W : WX} {e e2 value : Expr} {f g : DEnv → M D} {pos p : Pos}
theorem ds_setO (i : Nat) {x : Str} {px pos' : Pos} (h : DE X W e f) (hv2 : DE X W value g) (hs : swapsWithSole [.Subscript (.Name x px) e pos'] value pos.line X.env = pure false := by rfl) (hw : swappedStores [.Subscript (.Name x px) e pos'] value X.env = pure none := by rfl)
    (h1 : (assignEach [.Subscript (.Name x px) e pos'] X.env).map (·.2) = [assign (.Subscript (.Name x px) e pos') X.env] := by rfl)
    (ha : ∀ v, assign (.Subscript (.Name x px) e pos') X.env v = (do
      let ov ← holding [v] (eval (.Name x px) X.env)
      let iv ← holding [v, ov] (eval e X.env)
      standAt pos'
      holding [v, ov, iv] (setItem ov iv v)
      release [v, ov, iv] []) := by intro _; rfl)
    (hN : X.N[i]? = some x := by rfl) (hv : Vis X.env.scope x := by first | exact Or.inl rfl | exact Or.inr (Or.inl rfl) | exact Or.inr (Or.inr rfl)) (hd : (x == ("__debug__" : Str)) = false := by decide)
    (hcd : (x == ("__classdict__" : Str)) = false := by decide) : DS X W (.Assign [.Subscript (.Name x px) e pos'] value pos) (sSetO i f g) := by
  obtain ⟨te, a1, a2⟩ := h.ex
  obtain ⟨tv, b1, b2⟩ := hv2.ex
  refine ⟨_, ps_asg b1 (pg_sub (pe_var hN hv hd hcd) a1 set_list ha) hs hw h1, fun B G0 G H σ env E c po => ?_⟩
  refine b2 B G0 G H σ env _ c ?_
  simp only [sSetO] at po
  cases o : g env with
  | no => rw [o] at po; exact po
  | ex n => rw [o] at po; exact PoX.s po
  | ok v =>
    simp only [o, M.to] at po
    intro v1 H1 G1 s1 c1 r1
    cases o1 : celO env i with
    | no => rw [o1] at po; exact po.elim
    | ex n => exact (celO_no o1).elim
    | ok xs =>
      simp only [o1, M.to] at po
      have hi := celO_inv o1
      obtain ⟨oo, e1, q, vs, e2, gp, bp, hp, r⟩ := c1.cel i _ hi
      subst e2
      refine ⟨.ref q, e1, a2 B G0 G1 H1 σ env _ c1 ?_⟩
      cases o2 : f env with
      | no => rw [o2] at po; exact po
      | ex n => rw [o2] at po; exact PoX.s po
      | ok d =>
        simp only [o2, M.to] at po
        intro v2 H2 G2 s2 c2 r2
        obtain ⟨oo', e1', q', vs', e2', gp', bp', hp', r'⟩ := c2.cel i _ hi
        rw [e1] at e1'
        cases e1'
        cases e2'
        cases d with
        | int k =>
          cases r2
          simp only [setO] at po
          cases hj : ixN xs.length k with
          | none => rw [hj] at po; exact po.elim
          | some j =>
            simp only [hj, Option.map_some, M.of, M.to] at po
            refine ⟨q, vs', k, j, rfl, rfl, hp', by rw [r'.length]; exact hj, ?_⟩
            exact po σ _ G2 (s1.trans s2) (c2.updO hi trivial e1 ⟨q, _, rfl, gp', bp', upd_same, Reps.set (r1.up s2) j r'⟩ trivial)
        | non => exact po.elim
        | bl _ => exact po.elim
        | str _ => exact po.elim
        | lst _ => exact po.elim
        | tup _ => exact po.elim
        | scr _ => exact po.elim
theorem ds_chg {h : List D → D → Option (List D)} {r : V → List V → Hp → VK → Prop} {name : Str} {id : String} (slot : Slot "list" name id) (hty : typeOf (.builtin id) = pure (.type "method_descriptor")) (hm : MtM X id r)
    (hr : ∀ (K : KW) (G H : Hp) (q : Addr) (vs : List V) (xs ys : List D) (v : V) (d : D) (Q : VK), Same G H → G q = none → H q = some (.lst vs) → Reps K G vs xs → Rep K G v d → h xs d = some ys → ∃ ws u, Reps K G ws ys ∧ (Q u (upd H q (.lst ws)) → r (.ref q) [v] H Q))
    (i : Nat) {x : Str} {px apos cpos : Pos} (he : DE X W e f) (hN : X.N[i]? = some x := by rfl) (hv : Vis X.env.scope x := by first | exact Or.inl rfl | exact Or.inr (Or.inl rfl) | exact Or.inr (Or.inr rfl)) (hd : (x == ("__debug__" : Str)) = false := by decide)
    (hcd : (x == ("__classdict__" : Str)) = false := by decide) (hbase : attributeBase (.Name x px) name X.env (eval (.Name x px) X.env) = eval (.Name x px) X.env := by rfl)
    (hfew : ((backTo cpos (starEach [e] X.env)).all (fun x => !x.1) && (backToKw cpos (keywordEach [] X.env)).all (fun x => x.1.isSome)
      && decide ([e].length + ([] : List Keyword).length + (if ([] : List Keyword).isEmpty then 0 else 1) < 30)) = true := by rfl)
    (hline : (apos.endLine == cpos.line) = true := by rfl) (hse : starEach [e] X.env = (false, eval e X.env) :: starEach [] X.env := by rfl) (hplain : (backTo cpos (starEach [] X.env)).any (·.1) = false := by rfl)
    (hs : swapsWith (.Call (.Attribute (.Name x px) name apos) [e] [] cpos) none pos.line X.env = pure false := by rfl) :
    DS X W (.Expr (.Call (.Attribute (.Name x px) name apos) [e] [] cpos) pos) (sChg h i f) := by
  obtain ⟨te, a1, a2⟩ := he.ex
  refine ⟨_, ps_expr (pe_bm PySem.F.plainAttrs_list slot hty hm (pe_var hN hv hd hcd) (pa_cons a1 pa_nil hse) hbase hfew hline hse hplain) hs, fun B G0 G H σ env E c po => ?_⟩
  simp only [sChg] at po
  cases o : celO env i with
  | no => rw [o] at po; exact po.elim
  | ex n => exact (celO_no o).elim
  | ok xs =>
    rw [o] at po
    have hi := celO_inv o
    obtain ⟨q, e1, p, vs, e2, gp, bp, hp, rr⟩ := c.cel i _ hi
    subst e2
    refine ⟨.ref p, e1, .inl ⟨rfl, _, .inl (.inl hp)⟩, ?_⟩
    refine a2 B G0 G H σ env _ c ?_
    simp only [M.to] at po
    cases q : f env with
    | no => rw [q] at po; exact po
    | ex n => rw [q] at po; exact PoX.s po
    | ok d =>
      rw [q] at po
      intro v H1 G1 s1 c1 r1
      simp only [M.to] at po
      obtain ⟨q', e1', p', vs', e2', gp', bp', hp', r'⟩ := c1.cel i _ hi
      rw [e1] at e1'
      cases e1'
      cases e2'
      cases hh : h xs d with
      | none => rw [hh] at po; exact po.elim
      | some ys =>
        simp only [hh, M.of, M.to] at po
        obtain ⟨ws, u, rw', k⟩ := hr (kw X) G1 H1 p vs' xs ys v d _ c1.exG gp' hp' r' r1 hh
        exact k (po σ _ G1 s1 (c1.updO hi trivial e1 ⟨p, _, rfl, gp', bp', upd_same, rw'⟩ trivial))
theorem ds_ext (i : Nat) {x : Str} {px apos cpos : Pos} (he : DE X W e f) (hN : X.N[i]? = some x := by rfl) (hv : Vis X.env.scope x := by first | exact Or.inl rfl | exact Or.inr (Or.inl rfl) | exact Or.inr (Or.inr rfl)) (hd : (x == ("__debug__" : Str)) = false := by decide)
    (hcd : (x == ("__classdict__" : Str)) = false := by decide) (hbase : attributeBase (.Name x px) "extend" X.env (eval (.Name x px) X.env) = eval (.Name x px) X.env := by rfl)
    (hfew : ((backTo cpos (starEach [e] X.env)).all (fun x => !x.1) && (backToKw cpos (keywordEach [] X.env)).all (fun x => x.1.isSome)
      && decide ([e].length + ([] : List Keyword).length + (if ([] : List Keyword).isEmpty then 0 else 1) < 30)) = true := by rfl)
    (hline : (apos.endLine == cpos.line) = true := by rfl) (hse : starEach [e] X.env = (false, eval e X.env) :: starEach [] X.env := by rfl) (hplain : (backTo cpos (starEach [] X.env)).any (·.1) = false := by rfl)
    (hs : swapsWith (.Call (.Attribute (.Name x px) "extend" apos) [e] [] cpos) none pos.line X.env = pure false := by rfl) :
    DS X W (.Expr (.Call (.Attribute (.Name x px) "extend" apos) [e] [] cpos) pos) (sChg extO i f) := by
  refine ds_chg PySem.F.slot_list_extend PySem.F.type_list_extend mt_extend ?_ i he hN hv hd hcd hbase hfew hline hse hplain hs
  intro K G H q vs xs ys v d Q s gq hq r rv h
  cases d with
  | lst zs =>
    simp only [extO] at h
    split at h
    · rename_i hl
      cases h
      cases rv with
      | @lst b us _ g1 g2 => exact ⟨_, .non, r.append g2, fun k => ⟨q, b, vs, us, rfl, rfl, hq, s _ _ g1, by rw [r.length, g2.length]; exact hl, k⟩⟩
    · cases h
  | non => cases h
  | bl _ => cases h
  | int _ => cases h
  | str _ => cases h
  | tup _ => cases h
  | scr _ => cases h
theorem Reps.erase {K : KW} {G : Hp} : ∀ {vs : List V} {ds : List D} (j : Nat), Reps K G vs ds → Reps K G (vs.eraseIdx j) (ds.eraseIdx j)
  | [], [], _, h => by simpa using h
  | _ :: _, _ :: _, 0, .cons _ h => h
  | _ :: _, _ :: _, j + 1, .cons h1 h => .cons h1 (Reps.erase j h)
theorem ds_popO (i : Nat) {x : Str} {px apos cpos : Pos} (he : DE X W e f) (hN : X.N[i]? = some x := by rfl) (hv : Vis X.env.scope x := by first | exact Or.inl rfl | exact Or.inr (Or.inl rfl) | exact Or.inr (Or.inr rfl)) (hd : (x == ("__debug__" : Str)) = false := by decide)
    (hcd : (x == ("__classdict__" : Str)) = false := by decide) (hbase : attributeBase (.Name x px) "pop" X.env (eval (.Name x px) X.env) = eval (.Name x px) X.env := by rfl)
    (hfew : ((backTo cpos (starEach [e] X.env)).all (fun x => !x.1) && (backToKw cpos (keywordEach [] X.env)).all (fun x => x.1.isSome)
      && decide ([e].length + ([] : List Keyword).length + (if ([] : List Keyword).isEmpty then 0 else 1) < 30)) = true := by rfl)
    (hline : (apos.endLine == cpos.line) = true := by rfl) (hse : starEach [e] X.env = (false, eval e X.env) :: starEach [] X.env := by rfl) (hplain : (backTo cpos (starEach [] X.env)).any (·.1) = false := by rfl)
    (hs : swapsWith (.Call (.Attribute (.Name x px) "pop" apos) [e] [] cpos) none pos.line X.env = pure false := by rfl) :
    DS X W (.Expr (.Call (.Attribute (.Name x px) "pop" apos) [e] [] cpos) pos) (sChg popO i f) := by
  refine ds_chg PySem.F.slot_list_pop PySem.F.type_list_pop mt_popAt ?_ i he hN hv hd hcd hbase hfew hline hse hplain hs
  intro K G H q vs xs ys v d Q s gq hq r rv h
  cases d with
  | int k =>
    cases rv
    simp only [popO] at h
    split at h
    · rename_i hk
      cases hj : ixN xs.length k with
      | none => rw [hj] at h; cases h
      | some j =>
        rw [hj] at h
        cases h
        rw [← r.length] at hj
        obtain ⟨hj2, hlt, _, _⟩ := ixN_seq hj
        exact ⟨_, vs[j], Reps.erase j r, fun z => ⟨q, vs, k, j, vs[j], rfl, rfl, hq, by omega, by omega, hj2, List.getElem?_eq_getElem hlt, z⟩⟩
    · cases h
  | non => cases h
  | bl _ => cases h
  | lst _ => cases h
  | str _ => cases h
  | tup _ => cases h
  | scr _ => cases h
/-! ### index of a sign, count and index of bools -/
def idxD : D → D → Option D
  | .str a, .str b => (Txt.index0 a b).map fun k => .int (k : Nat)
  | _, _ => none
theorem de_sidx {o : Expr} {apos cpos : Pos} (hc : X.calm = true) (tk : Takes X W) (ho : DE X W o f) (he : DE X W e g) (hbase : attributeBase o "index" X.env (eval o X.env) = eval o X.env := by rfl)
    (hfew : ((backTo cpos (starEach [e] X.env)).all (fun x => !x.1) && (backToKw cpos (keywordEach [] X.env)).all (fun x => x.1.isSome)
      && decide ([e].length + ([] : List Keyword).length + (if ([] : List Keyword).isEmpty then 0 else 1) < 30)) = true := by rfl)
    (hline : (apos.endLine == cpos.line) = true := by rfl) (hse : starEach [e] X.env = (false, eval e X.env) :: starEach [] X.env := by rfl) (hplain : (backTo cpos (starEach [] X.env)).any (·.1) = false := by rfl) :
    DE X W (.Call (.Attribute o "index" apos) [e] [] cpos) (xM1 idxD f g) := by
  obtain ⟨_, a1, a2⟩ := ho.ex
  obtain ⟨_, b1, b2⟩ := he.ex
  refine ⟨_, pe_bmS PySem.F.plainAttrs_str PySem.F.slot_str_index PySem.F.type_str_index (mt_indexX hc tk) a1 (pa_cons b1 pa_nil hse) hbase hfew hline hse hplain, fun B G0 G H σ env Q c po => ?_⟩
  refine a2 B G0 G H σ env _ c ?_
  simp only [xM1] at po
  cases o1 : f env with
  | no => rw [o1] at po; exact po
  | ex n => rw [o1] at po; exact po
  | ok a =>
    simp only [o1, M.bind] at po
    intro v1 H1 G1 s1 c1 r1
    cases e2 : asS a with
    | no => rw [e2] at po; exact po.elim
    | ex n => exact (asS_ex e2).elim
    | ok s =>
      rw [e2] at po
      have hs := asS_ok e2
      subst hs
      cases r1
      refine ⟨rfl, b2 B G0 G1 H1 σ env _ c1 ?_⟩
      simp only [M.bind] at po
      cases o2 : g env with
      | no => rw [o2] at po; exact po
      | ex n => rw [o2] at po; exact po
      | ok b =>
        simp only [o2, M.bind] at po
        intro v2 H2 G2 s2 c2 r2
        cases b with
        | str y =>
          cases r2
          simp only [idxD] at po
          cases hi : Txt.index0 s y with
          | none => rw [hi] at po; exact po.elim
          | some k =>
            simp only [hi, Option.map_some, M.of] at po
            refine ⟨s, y, rfl, rfl, fun k' hk => ?_, fun hk => by rw [hi] at hk; cases hk⟩
            rw [hi] at hk
            cases hk
            exact po _ H2 G2 (s1.trans s2) c2 (.int _)
        | non => exact po.elim
        | bl _ => exact po.elim
        | int _ => exact po.elim
        | lst _ => exact po.elim
        | tup _ => exact po.elim
        | scr _ => exact po.elim
end
end DL

namespace DL
open PySem PySem.Spec PyProof.Rows L2
/-! ### lists of bools -/
def boolsOf : List D → Option (List Bool)
  | [] => some []
  | .bl b :: r => (boolsOf r).map (b :: ·)
  | _ => none
theorem boolsOf_map : ∀ {xs : List D} {ns : List Bool}, boolsOf xs = some ns → xs = ns.map D.bl
  | [], ns, h => by cases h; rfl
  | .bl i :: r, ns, h => by
    simp only [boolsOf, Option.map_eq_some_iff] at h
    obtain ⟨ms, h1, rfl⟩ := h
    rw [boolsOf_map h1]
    rfl
  | .non :: _, _, h => by cases h
  | .int _ :: _, _, h => by cases h
  | .str _ :: _, _, h => by cases h
  | .lst _ :: _, _, h => by cases h
  | .tup _ :: _, _, h => by cases h
  | .scr _ :: _, _, h => by cases h
theorem Reps.of_bools {K : KW} {G : Hp} : ∀ {ns : List Bool} {vs : List V}, Reps K G vs (ns.map D.bl) → vs = ns.map V.bl
  | [], _, h => by cases h; rfl
  | _ :: r, _, h => by
    cases h with
    | cons h1 h2 =>
      cases h1
      rw [Reps.of_bools h2]
      rfl
def cntB : D → D → Option D
  | .lst xs, .bl b => (boolsOf xs).map fun bs => .int (bs.count b : Nat)
  | _, _ => none
def idxB : D → D → Option D
  | .lst xs, .bl b => (boolsOf xs).bind fun bs => (bs.findIdx? (· == b)).map fun j => .int (j : Nat)
  | _, _ => none
def asL : D → M (List D)
  | .lst xs => .ok xs
  | _ => .no
@[simp] theorem asL_lst (xs : List D) : asL (.lst xs) = .ok xs := rfl
theorem asL_ok {d : D} {s : List D} (h : asL d = .ok s) : d = .lst s := by
  cases d <;> simp [asL] at h
  rw [h]
theorem asL_ex {d : D} {c : Str} (h : asL d = .ex c) : False := by
  cases d <;> simp [asL] at h
@[simp] def xL1 (h : D → D → Option D) (f g : DEnv → M D) (env : DEnv) : M D := (f env).bind fun a => (asL a).bind fun _ => (g env).bind fun b => .of (h a b)
def isB (b : Bool) (v : Value) : Bool := match v with
  | .bool c => c == b
  | _ => false
def rCntB (K : PySem.W.Frag) : V → List V → Hp → VK → Prop := fun x xs H Q => ∃ (p : Addr) (bs : List Bool) (b : Bool), x = .ref p ∧ xs = [.bl b] ∧ SqL K H p (bs.map V.bl) ∧ Q (.int (bs.count b : Nat)) H
theorem bools_vals : ∀ {bs : List Bool} {us : List Value}, Vals (bs.map V.bl) us → us = bs.map Value.bool
  | [], _, h => by cases h; rfl
  | b :: bs, _, h => by
    cases h with
    | cons r t =>
      obtain rfl : _ = Value.bool b := r
      rw [bools_vals t]
      rfl
theorem cnt_bools (b : Bool) : ∀ bs : List Bool, (bs.map Value.bool).countP (isB b) = bs.count b
  | [] => rfl
  | c :: bs => by
    rw [List.map_cons, List.countP_cons, List.count_cons, cnt_bools b bs]
    rfl
section
variable {X : Cx} {W : WX} {o e : Expr} {f g : DEnv → M D} {apos cpos : Pos}
theorem mt_bcount : MtR X "list.count" (rCntB X.K) := by
  intro pins s σ H x xs v us Q I rx rxs h
  obtain ⟨p, bs, b, rfl, rfl, hs, q⟩ := h
  cases rx
  obtain ⟨u, rfl, ru⟩ := rxs.one
  obtain rfl : u = Value.bool b := ru
  obtain ⟨its, rv, ⟨⟨cls, dd, data, sl⟩, n, ho, hc, hdn, hd⟩, hlen⟩ := I.list hs
  simp only at hc hd
  subst hc hd
  have hi := bools_vals rv
  refine call_meets PySem.F.slot_list_count ⟨_, ho, rfl⟩ PySem.F.entry_list_count (PySem.F.args_list_count_2 _ _)
    (SeqAt.list_countAt p its.toArray n dd sl (.bool b) (isB b)) ⟨ho, fun y hy => ?_, ?_⟩
  · have hy' : y ∈ its := by simpa using hy
    rw [hi] at hy'
    obtain ⟨c, _, rfl⟩ := List.mem_map.mp hy'
    exact SeqAt.EqAt.bool_bool c b
  · have ec : its.toArray.toList.countP (isB b) = bs.count b := by
      show its.countP (isB b) = _
      rw [hi, cnt_bools]
    refine ⟨.int (bs.count b : Nat), H, I.tok _, ⟨s.toks, ?_⟩, q⟩
    show Value.int ((its.toArray.toList.countP (isB b) : Nat) : Int) s.toks = Value.int ((bs.count b : Nat) : Int) s.toks
    rw [ec]
theorem RdE.l1 {K : KW} {mg : Str → Option Value} {ta tb : TE} {r : V → List V → Hp → VK → Prop} {h : D → D → Option D} (ha : RdE K mg W ta f) (hb : RdE K mg W tb g) (hr : OpD K (fun x y H Q => r x [y] H Q) h) :
    RdE K mg W (tBM K.k "list" r ta (tCons tb tNil)) (xL1 h f g) := by
  intro B G0 G H σ env Q c p
  refine ha B G0 G H σ env _ c ?_
  simp only [xL1] at p
  cases e : f env with
  | no => rw [e] at p; exact p
  | ex n => rw [e] at p; exact p
  | ok a =>
    rw [e] at p
    intro v1 H1 G1 s1 c1 r1
    simp only [M.bind] at p
    cases e2 : asL a with
    | no => rw [e2] at p; exact p.elim
    | ex n => exact (asL_ex e2).elim
    | ok s =>
      rw [e2] at p
      simp only [M.bind] at p
      have hs := asL_ok e2
      subst hs
      have r1' := r1
      cases r1' with
      | @lst ad vs _ g1 g2 =>
        refine ⟨.inl ⟨rfl, _, .inl (.inl (c1.exG _ _ g1))⟩, hb B G0 G1 H1 σ env _ c1 ?_⟩
        cases e3 : g env with
        | no => rw [e3] at p; exact p
        | ex n => rw [e3] at p; exact p
        | ok b =>
          rw [e3] at p
          intro v2 H2 G2 s2 c2 r2
          simp only [M.bind] at p
          cases e4 : h (.lst s) b with
          | none => rw [e4] at p; exact p.elim
          | some d =>
            rw [e4] at p
            exact hr _ _ _ _ _ _ _ _ _ _ _ _ c2 (r1.up s2) r2 e4 fun v H' G' s' c' r' => p v H' G' ((s1.trans s2).trans s') c' r'
theorem de_bcnt (ho : DE X W o f) (he : DE X W e g) (hbase : attributeBase o "count" X.env (eval o X.env) = eval o X.env := by rfl)
    (hfew : ((backTo cpos (starEach [e] X.env)).all (fun x => !x.1) && (backToKw cpos (keywordEach [] X.env)).all (fun x => x.1.isSome)
      && decide ([e].length + ([] : List Keyword).length + (if ([] : List Keyword).isEmpty then 0 else 1) < 30)) = true := by rfl)
    (hline : (apos.endLine == cpos.line) = true := by rfl) (hse : starEach [e] X.env = (false, eval e X.env) :: starEach [] X.env := by rfl) (hplain : (backTo cpos (starEach [] X.env)).any (·.1) = false := by rfl) :
    DE X W (.Call (.Attribute o "count" apos) [e] [] cpos) (xL1 cntB f g) := by
  obtain ⟨_, a1, a2⟩ := ho.ex
  obtain ⟨_, b1, b2⟩ := he.ex
  refine ⟨_, pe_bm PySem.F.plainAttrs_list PySem.F.slot_list_count PySem.F.type_list_count mt_bcount a1 (pa_cons b1 pa_nil hse) hbase hfew hline hse hplain, RdE.l1 (K := kw X) a2 b2 ?_⟩
  intro B G0 G H σ env x y a b d Q c ra rb h k
  unfold cntB at h
  split at h
  · rename_i xs b0
    cases hb : boolsOf xs with
    | none => rw [hb] at h; cases h
    | some bs =>
      rw [hb] at h
      cases h
      have e := boolsOf_map hb
      subst e
      cases rb
      cases ra with
      | lst g1 g2 =>
        have e2 := Reps.of_bools g2
        subst e2
        exact ⟨_, bs, b0, rfl, rfl, .inl (.inl (c.exG _ _ g1)), k _ H G (Same.refl G) c (.int _)⟩
  · cases h
theorem de_bidx (ho : DE X W o f) (he : DE X W e g) (hbase : attributeBase o "index" X.env (eval o X.env) = eval o X.env := by rfl)
    (hfew : ((backTo cpos (starEach [e] X.env)).all (fun x => !x.1) && (backToKw cpos (keywordEach [] X.env)).all (fun x => x.1.isSome)
      && decide ([e].length + ([] : List Keyword).length + (if ([] : List Keyword).isEmpty then 0 else 1) < 30)) = true := by rfl)
    (hline : (apos.endLine == cpos.line) = true := by rfl) (hse : starEach [e] X.env = (false, eval e X.env) :: starEach [] X.env := by rfl) (hplain : (backTo cpos (starEach [] X.env)).any (·.1) = false := by rfl) :
    DE X W (.Call (.Attribute o "index" apos) [e] [] cpos) (xL1 idxB f g) := by
  obtain ⟨_, a1, a2⟩ := ho.ex
  obtain ⟨_, b1, b2⟩ := he.ex
  refine ⟨_, pe_bm PySem.F.plainAttrs_list PySem.F.slot_list_index PySem.F.type_list_index mt_index a1 (pa_cons b1 pa_nil hse) hbase hfew hline hse hplain, RdE.l1 (K := kw X) a2 b2 ?_⟩
  intro B G0 G H σ env x y a b d Q c ra rb h k
  unfold idxB at h
  split at h
  · rename_i xs b0
    cases hb : boolsOf xs with
    | none => rw [hb] at h; cases h
    | some bs =>
      rw [hb] at h
      simp only [Option.bind_some, Option.map_eq_some_iff] at h
      obtain ⟨j, hj, rfl⟩ := h
      have e := boolsOf_map hb
      subst e
      cases rb
      cases ra with
      | lst g1 g2 =>
        have e2 := Reps.of_bools g2
        subst e2
        obtain ⟨hlt, h1, h2⟩ := List.findIdx?_eq_some_iff_getElem.mp hj
        refine ⟨_, bs.map V.bl, .bl b0, j, .bl bs[j], rfl, rfl, .inl (.inl (c.exG _ _ g1)), rfl, by simp [flatV], by rw [List.getElem?_map, List.getElem?_eq_getElem hlt]; rfl, ?_, fun m z' hm hz => ?_, k _ H G (Same.refl G) c (.int _)⟩
        · simpa [eqV] using h1
        · rw [List.getElem?_map] at hz
          have hml : m < bs.length := by omega
          rw [List.getElem?_eq_getElem hml] at hz
          cases hz
          have := h2 m hm
          simpa [eqV] using this
  · cases h
end
/-! ### the classes of exceptions -/
structure ExcTab (K : PySem.W.Frag) (mg : Str → Option Value) (cs Cs : List Str) : Prop where
  cls : ∀ c ∈ cs, ∃ D, mg c = some (.ref D) ∧ ExcC K D ∧ PySem.W.kitOne K (.ref D) (.type "ValueError") = some true
  pair : ∀ c ∈ cs, ∀ C ∈ Cs, ∀ D, mg c = some (.ref D) → ∃ D', mg C = some (.ref D') ∧ PySem.W.kitOne K (.ref D) (.ref D') = some (subE c C)
  werr : ∃ E, mg "WriteError" = some (.ref E) ∧ ∀ c ∈ cs, ∃ D, mg c = some (.ref D) ∧ PySem.W.exmOne K (.ref D) (.ref E) = some true
theorem ExcTab.ec {K : PySem.W.Frag} {mg : Str → Option Value} {cs Cs : List Str} (T : ExcTab K mg cs Cs) {c : Str} (hc : c ∈ cs) {D : Addr} (hm : mg c = some (.ref D)) : ExcC K D ∧ PySem.W.kitOne K (.ref D) (.type "ValueError") = some true := by
  obtain ⟨D', h1, h2⟩ := T.cls c hc
  rw [hm] at h1
  cases h1
  exact h2
theorem takes_suite {X : Cx} : Takes X W0 := fun _ _ ⟨_, _, _, _, _, _, _, _, _, _, _, _, _, _, _, _, w⟩ => w.elim
end DL

/-! ### list(d) of a dict, sorted, min of data -/
namespace DX
open PySem PySem.Spec PyProof.Rows L2 DL
section
variable {X : Cx}
def rXList (X : Cx) : List V → Hp → VK → Prop := fun vs H Q => ∃ a xs, vs = [.ref a] ∧ Rd H a (DicO X.w a xs) ∧ EntsIn X H xs ∧ ∀ p, H p = none → Q (.ref p) (upd H p (.lst (xs.map fun e => vOf e.2.1)))
theorem vals_keys {h : Heap} {w : World} : ∀ {xs : List Ent} {us : List Value}, (∀ x ∈ xs, IsK h x.1 x.2.1) → us = xs.map (fun x => x.2.1) → Vals (xs.map fun e => vOf e.2.1) us
  | [], us, _, e => by subst e; exact .nil
  | x :: xs, us, hx, e => by
    subst e
    exact .cons (rel_vOf (hx x List.mem_cons_self).top) (vals_keys (w := w) (fun y hy => hx y (List.mem_cons_of_mem _ hy)) rfl)
theorem call_xlist (hc : X.calm = true) : CallR X (.type "list") (rXList X) := by
  intro pins s σ H vs us Q I r h
  obtain ⟨a, xs, rfl, hr, hin, q⟩ := h
  cases r with
  | cons r1 r2 =>
    cases r2
    obtain rfl : _ = Value.ref a := r1
    obtain ⟨hl, hsys, hn, o, es, ep, ho, hx, hd, he⟩ := raw_at hr I.hok
    have hes : es.size = xs.length := by rw [← Array.length_toList, he, List.length_map]
    refine PySem.W.kdl_call (KdlSrc.rawDict hsys) (I.ok.hd hc) ⟨o, ho, hx, hd⟩ (by rw [hes]; exact hl) fun h' tk acc c' hk hS hit => ?_
    have hacc : acc.toList = xs.map (fun x => x.2.1) := by
      refine List.ext_getElem? fun j => ?_
      have hsz := hit.1
      by_cases hj : j < xs.length
      · have hj2 : j < acc.size := by omega
        have e1 : acc[j]? = some acc[j] := Array.getElem?_eq_getElem hj2
        obtain ⟨hi, hv⟩ := hit.2 j _ e1
        have e2 : es.toList[j]? = some es[j] := by rw [Array.getElem?_toList]; exact Array.getElem?_eq_getElem hi
        rw [he, List.getElem?_map, List.getElem?_eq_getElem hj] at e2
        rw [Array.getElem?_toList, e1, List.getElem?_map, List.getElem?_eq_getElem hj, hv]
        have := Option.some.inj e2
        rw [← this]
        rfl
      · rw [List.getElem?_eq_none_iff.mpr (by rw [Array.length_toList]; omega), List.getElem?_eq_none_iff.mpr (by rw [List.length_map]; omega)]
    have ks : ∀ x ∈ xs, IsK s.heap x.1 x.2.1 := hin s.heap I.hok
    exact ⟨.ref s.heap.objs.size, upd H s.heap.objs.size (.lst (xs.map fun e => vOf e.2.1)), I.laid (t' := tk) hk (Nat.le_refl _)
      (show ObjOk X.prog X.w _ _ _ (.lst (xs.map fun e => vOf e.2.1)) from ⟨by rw [List.length_map]; exact hl, acc.toList, c', vals_keys (w := X.w) ks hacc, by rw [Array.toArray_toList]; exact hS⟩), rfl, q _ (I.hok.fresh (Nat.le_refl _))⟩
end
end DX
namespace DL
open PySem PySem.Spec PyProof.Rows L2
/-! ### sorted -/
section
variable {K : KW} {G : Hp}
theorem reps_zip : ∀ {vs : List V} {ds : List D}, Reps K G vs ds → ∃ bs : List (V × D), vs = bs.map (·.1) ∧ ds = bs.map (·.2) ∧ ∀ b ∈ bs, Rep K G b.1 b.2
  | [], _, r => by cases r; exact ⟨[], rfl, rfl, by simp⟩
  | v :: vs, _, r => by
    cases r with
    | @cons _ _ d ds r1 r2 =>
      obtain ⟨bs, h1, h2, h3⟩ := reps_zip r2
      refine ⟨(v, d) :: bs, by rw [h1]; rfl, by rw [h2]; rfl, fun b hb => ?_⟩
      rcases List.mem_cons.mp hb with rfl | hb
      · exact r1
      · exact h3 b hb
theorem zip_reps : ∀ {bs : List (V × D)}, (∀ b ∈ bs, Rep K G b.1 b.2) → Reps K G (bs.map (·.1)) (bs.map (·.2))
  | [], _ => .nil
  | b :: bs, h => .cons (h b List.mem_cons_self) (zip_reps fun x hx => h x (List.mem_cons_of_mem _ hx))
end
theorem each_rel : ∀ {bs : List (V × D)} {us : List Value}, Vals (bs.map (·.1)) us → PySem.W.EachIs (fun u b => RelV b.1 u) us bs
  | [], us, r => by cases r; exact .nil
  | b :: bs, us, r => by
    cases r with
    | cons r1 r2 => exact .cons r1 (each_rel r2)
theorem rel_each : ∀ {bs : List (V × D)} {us : List Value}, PySem.W.EachIs (fun u b => RelV b.1 u) us bs → Vals (bs.map (·.1)) us
  | _, _, .nil => .nil
  | _, _, .cons h t => .cons h (rel_each t)
def rSortD (K : PySem.W.Frag) : List V → Hp → VK → Prop := fun vs H Q => ∃ (a : Addr) (bs : List (V × D)), vs = [.ref a] ∧ SqL K H a (bs.map (·.1)) ∧ (∀ b ∈ bs, Dp K H b.1 (py b.2)) ∧ PySem.W.AllAlike (bs.map fun b => py b.2) ∧ PySem.W.Sortable (bs.map fun b => py b.2) ∧ (∀ b ∈ bs, (py b.2).depth ≤ 60) ∧
  ∀ p, H p = none → Q (.ref p) (upd H p (.lst ((bs.mergeSort (PySem.W.dataLe false fun b => py b.2)).map (·.1))))
section
variable {X : Cx}
theorem each_reads {pins : List (Addr × Obj)} {σ : L2.St} {H : Hp} {s : Shared} (I : Inv X pins σ H s) : ∀ {bs : List (V × D)} {us : List Value}, (∀ b ∈ bs, Dp X.K H b.1 (py b.2)) → Vals (bs.map (·.1)) us → PySem.W.EachIs (fun u b => ∃ as, Reads s.heap u (py b.2) as) us bs
  | [], us, _, r => by cases r; exact .nil
  | b :: bs, us, h, r => by
    cases r with
    | cons r1 r2 => exact .cons (Dp.reads I (py b.2) b.1 _ (h b List.mem_cons_self) r1) (each_reads I (fun x hx => h x (List.mem_cons_of_mem _ hx)) r2)
theorem call_sortD (hu : X.A.units + 64 < cLine) : CallR X (.builtin "sorted") (rSortD X.K) := by
  intro pins s σ H vs us Q I r h
  obtain ⟨a, bs, rfl, hs, hd, hal, hk, hdp, q⟩ := h
  obtain ⟨its, rv, hl, hz⟩ := I.list hs
  rw [Vals.ref1 r]
  have hlen : bs.length ≤ sizeLine := by
    rw [List.length_map] at hz
    exact hz
  refine PySem.W.sorted_data (enc := fun b : V × D => py b.2) hl.isList (each_rel rv) (each_reads I hd rv) hal hk hlen (fun b hb => by have := hdp b hb; omega) fun out ho eo => ?_
  obtain ⟨ep, he'⟩ := PyProof.Rows.sortedAll_at s.heap its (List.toArray out)
  have hl2 : ((bs.mergeSort (PySem.W.dataLe false fun b => py b.2)).map (·.1)).length ≤ sizeLine := by rw [List.length_map, List.length_mergeSort]; exact hlen
  exact ⟨.ref _, upd H (s.heap.objs.size + 1) (.lst ((bs.mergeSort (PySem.W.dataLe false fun b => py b.2)).map (·.1))), I.laid (t' := s.toks) (fun _ _ => PyProof.Rows.sortedAll_old) (Nat.le_succ _) ⟨hl2, out, ep, rel_each eo, he'⟩, rfl, q _ (I.hok.fresh (Nat.le_succ _))⟩
end
/-- data of one kind, that can be set in order -/
def AlkD (ds : List D) : Prop := (∀ a ∈ ds, eqOk 60 a = true) ∧ ∀ a ∈ ds, ∀ b ∈ ds, PySem.W.alike (py a) (py b) = true
open Classical in
noncomputable def sortD : List D → Option D
  | [.lst ds] => if AlkD ds ∧ PySem.W.Sortable (ds.map py) then some (.lst (ds.mergeSort (PySem.W.dataLe false py))) else none
  | _ => none
section
variable {X : Cx}
theorem cx_sortD (hu : X.A.units + 64 < cLine) : CbX X (.builtin "sorted") sortD := by
  refine ⟨_, call_sortD hu, ?_⟩
  intro B G0 G H σ env vs ds d Q c r h k
  unfold sortD at h
  split at h
  · split at h
    · rename_i ds' hc
      obtain ⟨⟨h1, h2⟩, h3⟩ := hc
      cases h
      cases r with
      | cons r1 r2 =>
        cases r2
        cases r1 with
        | @lst q vs' _ g1 g2 =>
          obtain ⟨bs, rfl, rfl, hb⟩ := reps_zip g2
          have hm : ∀ b ∈ bs, b.2 ∈ bs.map (·.2) := fun b hb => List.mem_map.mpr ⟨b, hb, rfl⟩
          refine ⟨q, bs, rfl, .inl (.inl (c.exG _ _ g1)), fun b hbm => dp_mono c.exG (h1 _ (hm b hbm)) (hb b hbm), ?_, ?_, fun b hbm => (eqOk_shape 60 b.2 (h1 _ (hm b hbm))).2, fun p hp => ?_⟩
          · intro d hd d' hd'
            obtain ⟨b, hb1, rfl⟩ := List.mem_map.mp hd
            obtain ⟨b', hb2, rfl⟩ := List.mem_map.mp hd'
            exact h2 _ (hm b hb1) _ (hm b' hb2)
          · have e : (bs.map (·.2)).map py = bs.map fun b => py b.2 := by rw [List.map_map]; rfl
            rw [e] at h3
            exact h3
          · have gp := c.exG.free hp
            refine k _ _ (upd G p _) (same_upd gp) (c.laid hp) (.lst upd_same ?_)
            have e : (bs.map (·.2)).mergeSort (PySem.W.dataLe false py) = (bs.mergeSort (PySem.W.dataLe false fun b => py b.2)).map (·.2) := (PySem.W.sort_maps (fun b : V × D => b.2) fun a _ b _ => rfl).symm
            rw [e]
            exact zip_reps fun b hbm => (hb b (List.mem_mergeSort.mp hbm)).up (same_upd gp)
    · cases h
  · cases h
/-! ### list(d) -/
/-- the keys of a dict, as a new list -/
@[simp] def lKeysX (i : Nat) (env : DEnv) : M (List D) := (celX env i).bind fun kvs => .ok (kvs.map (·.1))
theorem reps_keys {K : KW} {G : Hp} : ∀ {xs : List Ent} {kvs : List (D × D)}, Paired (KRel K G) xs kvs → Reps K G (xs.map fun e => DX.vOf e.2.1) (kvs.map (·.1))
  | _, _, .nil => .nil
  | _, _, .cons h t => by
    obtain ⟨v0, rv, rp⟩ := h.kv
    refine .cons ?_ (reps_keys t)
    have e := DX.vOf_of (top_of h.key rp rv) rv
    rw [e] at rp
    exact rp
theorem dl_keysX {W : WX} {p pos : Pos} (i : Nat) {x : Str} {px : Pos} (hc : X.calm = true) (hm : X.mg "list" = none) (hg : Gl X "list" := by rfl) (hN : X.N[i]? = some x := by rfl) (hv : Vis X.env.scope x := by first | exact Or.inl rfl | exact Or.inr (Or.inl rfl) | exact Or.inr (Or.inr rfl)) (hd : (x == ("__debug__" : Str)) = false := by decide)
    (hcd : (x == ("__classdict__" : Str)) = false := by decide) (hs : starEach [.Name x px] X.env = (false, eval (.Name x px) X.env) :: starEach [] X.env := by rfl) (hpl : (backTo pos (starEach [] X.env)).any (·.1) = false := by rfl) :
    DLs X W (.Call (.Name "list" p) [.Name x px] [] pos) (lKeysX i) := by
  refine ⟨_, pe_callTy (DX.call_xlist hc) hg hm boot_list (pa_cons (pe_var hN hv hd hcd) pa_nil hs) (by decide) (by decide) hs hpl, fun B G0 G H σ env Q c po => ?_⟩
  simp only [lKeysX] at po
  cases o : celX env i with
  | no => rw [o] at po; exact po.elim
  | ex n => exact (celX_no o).elim
  | ok kvs =>
    simp only [o, M.bind] at po
    obtain ⟨q, xs, e1, hq, pr⟩ := c.dict (celX_inv o)
    exact ⟨.ref q, e1, q, xs, rfl, hq, DX.entsIn_of c.exG pr, fun l hl => po l _ H G (Same.refl G) c hl (reps_keys pr)⟩
end
/-! ### min of data -/
theorem minD_mem (x : PyData) (xs : List PyData) : PySem.W.minD x xs ∈ x :: xs := by
  unfold PySem.W.minD
  induction xs generalizing x with
  | nil => simp
  | cons y ys ih =>
    rw [List.foldl_cons]
    have := ih (if PySem.W.dataLt y x = true then y else x)
    rcases List.mem_cons.mp this with h | h
    · rw [h]
      split
      · exact List.mem_cons_of_mem _ List.mem_cons_self
      · exact List.mem_cons_self
    · exact List.mem_cons_of_mem _ (List.mem_cons_of_mem _ h)
def rMinLD (K : PySem.W.Frag) : List V → Hp → VK → Prop := fun vs H Q => ∃ (a : Addr) (bs : List (V × D)) (x : PyData) (xs : List PyData), vs = [.ref a] ∧ SqL K H a (bs.map (·.1)) ∧ DpAll K H (bs.map (·.1)) (x :: xs) ∧ (bs.map fun b => py b.2) = x :: xs ∧ PySem.W.AlikeAll (x :: xs) ∧ PyData.depthAll (x :: xs) ≤ 60 ∧
  ∀ b ∈ bs, py b.2 = PySem.W.minD x xs → Q b.1 H
section
variable {X : Cx}
theorem call_minLD (hu : X.A.units + 64 < cLine) (hc : X.calm = true) : CallR X (.builtin "min") (rMinLD X.K) := by
  intro pins s σ H vs us Q I r h
  obtain ⟨a, bs, x, xs, rfl, hs, hd, he, hal, hdp, q⟩ := h
  obtain ⟨its, rv, hl, hz⟩ := I.list hs
  rw [Vals.ref1 r]
  obtain ⟨as, hr⟩ := Dp.readsAll I (x :: xs) _ _ hd rv
  refine PySem.W.min_list_data (vs := its.toArray) (I.ok.hd hc) hl.isList (by simpa using hr) hal (by omega) fun i v h' tk bs2 hv hrd hk => ?_
  have hv' : its[i]? = some v := by simpa using hv
  obtain ⟨cs, r1, hi, _⟩ := PySem.W.readsAll_at hr i v hv'
  have r2 := PySem.W.reads_keeps hk r1
  have hb : i < bs.length := by
    have := congrArg List.length he
    rw [List.length_map] at this
    simp only [List.length_cons] at this hi
    omega
  have e1 : (x :: xs).getD i .none = py bs[i].2 := by
    rw [← he, List.getD_eq_getElem?_getD, List.getElem?_map, List.getElem?_eq_getElem hb]
    rfl
  have m1 : (x :: xs).getD i .none ∈ x :: xs := by
    rw [e1, ← he]
    exact List.mem_map.mpr ⟨bs[i], List.getElem_mem hb, rfl⟩
  have e2 := PySem.W.alike_unique _ _ _ _ _ (hal.1 _ m1 _ (minD_mem x xs)) r2 hrd
  have rel : ∀ {bs : List (V × D)} {us : List Value} {i : Nat} (hb : i < bs.length) {v : Value}, Vals (bs.map (·.1)) us → us[i]? = some v → RelV bs[i].1 v := by
    intro bs
    induction bs with
    | nil => intro us i hb; simp at hb
    | cons b bs ih =>
      intro us i hb v r hv
      cases r with
      | cons r1 r2 =>
        cases i with
        | zero =>
          simp only [List.getElem?_cons_zero, Option.some.injEq] at hv
          subst hv
          exact r1
        | succ i =>
          simp only [List.getElem?_cons_succ] at hv
          exact ih (by simpa using hb) r2 hv
  exact ⟨bs[i].1, H, I.kept (t' := tk) hk, rel hb rv hv', q bs[i] (List.getElem_mem hb) (by rw [← e1, e2])⟩
end
/-- the least of data of one kind, the first one of those -/
noncomputable def leastD (x : D) (xs : List D) : D := xs.foldl (fun a y => if PySem.W.dataLt (py y) (py a) then y else a) x
open Classical in
noncomputable def minLD : List D → Option D
  | [.lst (x :: xs)] => if AlkD (x :: xs) ∧ ∀ a ∈ x :: xs, py a ≠ .none then some (leastD x xs) else none
  | _ => none
theorem pys_map : ∀ ds : List D, pys ds = ds.map py
  | [] => rfl
  | d :: ds => by rw [List.map_cons, ← pys_map ds]; rfl
theorem leastD_py (x : D) (xs : List D) : py (leastD x xs) = PySem.W.minD (py x) (xs.map py) := by
  unfold leastD PySem.W.minD
  induction xs generalizing x with
  | nil => rfl
  | cons y ys ih =>
    rw [List.foldl_cons, List.map_cons, List.foldl_cons, ih]
    congr 1
    split <;> rfl
theorem leastD_mem (x : D) (xs : List D) : leastD x xs ∈ x :: xs := by
  unfold leastD
  induction xs generalizing x with
  | nil => simp
  | cons y ys ih =>
    rw [List.foldl_cons]
    have := ih (if PySem.W.dataLt (py y) (py x) = true then y else x)
    rcases List.mem_cons.mp this with h | h
    · rw [h]
      split
      · exact List.mem_cons_of_mem _ List.mem_cons_self
      · exact List.mem_cons_self
    · exact List.mem_cons_of_mem _ (List.mem_cons_of_mem _ h)
theorem py_inj {a b : D} (ha : eqOk 60 a = true) (hb : eqOk 60 b = true) (h : py a = py b) : a = b := by
  refine (eqv_of 60 60 a b ha hb).mp ?_
  rw [h]
  exact (eqv_of 60 60 b b hb hb).mpr rfl
theorem eqOks_all : ∀ {ds : List D}, (∀ a ∈ ds, eqOk 60 a = true) → eqOks 60 ds = true
  | [], _ => rfl
  | d :: ds, h => by
    simp only [eqOks, h d List.mem_cons_self, eqOks_all fun a ha => h a (List.mem_cons_of_mem _ ha), Bool.and_self]
section
variable {X : Cx}
theorem cx_minLD (hu : X.A.units + 64 < cLine) (hc : X.calm = true) : CbX X (.builtin "min") minLD := by
  refine ⟨_, call_minLD hu hc, ?_⟩
  intro B G0 G H σ env vs ds d Q c r h k
  unfold minLD at h
  split at h
  · split at h
    · rename_i x xs hcd
      obtain ⟨⟨h1, h2⟩, h3⟩ := hcd
      cases h
      cases r with
      | cons r1 r2 =>
        cases r2
        cases r1 with
        | @lst q vs' _ g1 g2 =>
          obtain ⟨bs, rfl, e, hb⟩ := reps_zip g2
          have ok := eqOks_all h1
          have hp : DpAll (kw X).k H (bs.map (·.1)) (pys (x :: xs)) := Reps.dp 60 (x :: xs) _ ok (by
            have := g2.up c.exG
            exact this)
          rw [pys_map] at hp
          have hpy : (bs.map fun b => py b.2) = py x :: xs.map py := by
            have : (bs.map (·.2)).map py = (x :: xs).map py := by rw [e]
            rw [List.map_map] at this
            exact this
          refine ⟨q, bs, py x, xs.map py, rfl, .inl (.inl (c.exG _ _ g1)), hp, hpy, ⟨?_, ?_⟩, ?_, fun b hbm hmin => ?_⟩
          · intro a ha b hb
            obtain ⟨a', ha', rfl⟩ := List.mem_map.mp (show a ∈ (x :: xs).map py from ha)
            obtain ⟨b', hb', rfl⟩ := List.mem_map.mp (show b ∈ (x :: xs).map py from hb)
            exact h2 _ ha' _ hb'
          · intro a ha
            obtain ⟨a', ha', rfl⟩ := List.mem_map.mp (show a ∈ (x :: xs).map py from ha)
            exact h3 _ ha'
          · have := (eqOks_shape 60 (x :: xs) ok).2
            rw [pys_map] at this
            exact this
          · have hbd : b.2 ∈ x :: xs := by
              rw [e]
              exact List.mem_map.mpr ⟨b, hbm, rfl⟩
            have : b.2 = leastD x xs := py_inj (h1 _ hbd) (h1 _ (leastD_mem x xs)) (by rw [hmin, leastD_py])
            exact k _ H G (Same.refl G) c (this ▸ hb b hbm)
    · cases h
  · cases h
end
end DL

/-! ### min of two data -/
namespace DX
open PySem PySem.W PyProof.Rows
section
variable {prog : Program} {w : World} {A : Around} {E : Value → Shared → Prop} {s : Shared}
theorem call_min_twoH {a b : Value} {Q : Value → Shared → Prop}
    (h : wpAny (model prog w) A.in1 (pyIter (.ref s.heap.objs.size)) (fun it s₂ => ∃ I fp wr G n P St H bt, it = .ref I ∧ WalksS prog w A.in1 I fp wr G n P St ∧ St 0 s₂ ∧ (∀ b ∈ fp, b < s₂.heap.objs.size) ∧ 0 < n ∧
      (∀ b o, H.get? b = some o → b ∉ wr) ∧ (∀ b o, H.get? b = some o → s₂.heap.get? b = some o) ∧ CmpIn prog w A.in1 .Lt H P bt ∧ ∀ v s', P (argBest bt (n - 1)) v → Moved wr G s₂ s' → Q v s') E
      { s with heap := s.heap.push { cls := .type "tuple", data := .seq #[a, b] } }) :
    wpAny (model prog w) A (call (.builtin "min") [a, b]) Q E s := by
  have hname : (toString "min" ++ toString ".loop" : String) = "min.loop" := by decide
  refine call_function_tree F.kind_min F.plain_min F.entry_min (F.args_min2 _ _) ?_
  show wpAny _ A.in1 (Builtin.Builtins.bindParams "min" ["key", "default"] 0 ⟨[], []⟩ >>= _) _ _ s
  refine wpAny_bind (wpAny_of_eq (show Builtin.Builtins.bindParams "min" ["key", "default"] 0 ⟨[], []⟩ = pure [none, none] from rfl) ?_)
  show wpAny _ A.in1 (newTuple [a, b] >>= _) _ _ s
  refine wpAny_bind (wpAny_newObj_type ?_)
  refine wpAny_bind (wpAny_mono h (fun it s₂ h₂ => ?_) fun _ _ e => e)
  obtain ⟨I, fp, wr, G, n, P, St, H, bt, rfl, W, hst, hfp, hn, hw, hkeep, hcmp, hQ⟩ := h₂
  refine wpAny_bind (wpAny_newObj_type ?_)
  have hSf : s₂.heap.objs.size ∉ fp := fun hm => Nat.lt_irrefl _ (hfp _ hm)
  rw [hname]
  refine wpAny_pure ⟨plainId_quiet F.plain_min_loop _, codeAny_min_loop_firstH W H hw bt hcmp s₂.heap.objs.size hSf (fresh_in hkeep) _ hn (fun b o e => Heap.get?_push_of_some _ (hkeep b o e)) (W.frame 0 s₂ _ s₂.toks hst (Nat.le_refl _) fun b _ o e => Heap.get?_push_of_some _ e) (Heap.get?_push_size _ rfl) fun v s' hP hm => ?_⟩
  exact hQ v s' hP (Moved.drop_new (tk := s₂.toks) hm (Nat.le_refl _))
theorem min2_data {a b : Value} {x y : PyData} {as : List Addr} {Q : Value → Shared → Prop} (hh : A.handled = none) (hr : ReadsAll s.heap [a, b] [x, y] as) (ha : AlikeAll [x, y]) (hu : A.units + 1 + PyData.depthAll [x, y] < cLine)
    (h : ∀ h' tk, (∀ b o, s.heap.get? b = some o → h'.get? b = some o) → Q (if dataLt y x = true then b else a) { s with heap := h', toks := tk }) :
    wpAny (model prog w) A (call (.builtin "min") [a, b]) Q E s := by
  have hT : (s.heap.push { cls := .type "tuple", data := .seq #[a, b] }).IsTuple s.heap.objs.size #[a, b] := ⟨_, Heap.get?_push_size _ rfl, rfl, 0, rfl⟩
  have k1 : ∀ b' o, s.heap.get? b' = some o → (s.heap.push { cls := .type "tuple", data := .seq #[a, b] }).get? b' = some o := fun b' o e => Heap.get?_push_of_some _ e
  have hr1 : ReadsAll (s.heap.push { cls := .type "tuple", data := .seq #[a, b] }) (#[a, b] : Array Value).toList [x, y] as := by
    have : (#[a, b] : Array Value).toList = [a, b] := rfl
    rw [this]
    exact ReadsAll.keeps k1 hr
  refine call_min_twoH (iter_tupleW (A := A.in1) (s := { s with heap := s.heap.push { cls := .type "tuple", data := .seq #[a, b] } }) hh hT fun s₂ e W st hfp hw hk => ?_)
  refine ⟨_, _, _, _, _, _, _, _, _, rfl, W, st, hfp, Nat.succ_pos _, hw, hk, cmpIn_lt (A := A.in1) (s := { s with heap := s.heap.push { cls := .type "tuple", data := .seq #[a, b] } }) hr1 ha (by show A.units + 1 + _ < _; exact hu), fun v s' hP m => ?_⟩
  obtain ⟨h', tk, rfl, hk'⟩ := moved_old e rfl m
  have hv : v = if dataLt y x = true then b else a := by
    cases hb : dataLt y x <;> simp [argBest, hb] at hP <;> simp [hP]
  rw [hv]
  exact h h' tk fun b' o e => hk' b' o (k1 b' o e)
end
end DX
namespace DL
open PySem PySem.Spec PyProof.Rows L2
def rMin2LD (K : PySem.W.Frag) : List V → Hp → VK → Prop := fun vs H Q => ∃ (v u : V) (x y : PyData), vs = [v, u] ∧ DpAll K H [v, u] [x, y] ∧ PySem.W.AlikeAll [x, y] ∧ PyData.depthAll [x, y] ≤ 60 ∧ Q (if PySem.W.dataLt y x = true then u else v) H
open Classical in
noncomputable def min2LD : List D → Option D
  | [x, y] => if AlkD [x, y] ∧ ∀ a ∈ [x, y], py a ≠ .none then some (if PySem.W.dataLt (py y) (py x) = true then y else x) else none
  | _ => none
section
variable {X : Cx}
theorem call_min2LD (hu : X.A.units + 64 < cLine) (hc : X.calm = true) : CallR X (.builtin "min") (rMin2LD X.K) := by
  intro pins s σ H vs us Q I r h
  obtain ⟨v, u, x, y, rfl, hd, hal, hdp, q⟩ := h
  obtain ⟨a, b, rfl, r1, r2⟩ := vals2 r
  obtain ⟨as, hr⟩ := Dp.readsAll I [x, y] _ _ hd r
  refine DX.min2_data (I.ok.hd hc) hr hal (by omega) fun h' tk hk => ⟨_, H, I.kept (t' := tk) hk, ?_, q⟩
  cases PySem.W.dataLt y x
  · exact r1
  · exact r2
theorem cx_min2LD (hu : X.A.units + 64 < cLine) (hc : X.calm = true) : CbX X (.builtin "min") min2LD := by
  refine ⟨_, call_min2LD hu hc, ?_⟩
  intro B G0 G H σ env vs ds d Q c r h k
  unfold min2LD at h
  split at h
  · split at h
    · rename_i x y hcd
      obtain ⟨⟨h1, h2⟩, h3⟩ := hcd
      cases h
      have ok := eqOks_all h1
      have hp : DpAll (kw X).k H vs (pys [x, y]) := Reps.dp 60 [x, y] _ ok (r.up c.exG)
      cases r with
      | cons r1 r2 =>
        cases r2 with
        | cons r2 r3 =>
          cases r3
          rw [pys_map] at hp
          refine ⟨_, _, py x, py y, rfl, hp, ⟨?_, ?_⟩, ?_, ?_⟩
          · intro a ha b hb
            obtain ⟨a', ha', rfl⟩ := List.mem_map.mp (show a ∈ [x, y].map py from ha)
            obtain ⟨b', hb', rfl⟩ := List.mem_map.mp (show b ∈ [x, y].map py from hb)
            exact h2 _ ha' _ hb'
          · intro a ha
            obtain ⟨a', ha', rfl⟩ := List.mem_map.mp (show a ∈ [x, y].map py from ha)
            exact h3 _ ha'
          · have := (eqOks_shape 60 [x, y] ok).2
            rw [pys_map] at this
            exact this
          · cases hb : PySem.W.dataLt (py y) (py x) with
            | true => rw [hb] at k; exact k _ H G (Same.refl G) c r2
            | false => rw [hb] at k; exact k _ H G (Same.refl G) c r1
    · cases h
  · cases h
/-! ### min of two whole numbers, or of two data; of a list of data -/
noncomputable def min2AD (ds : List D) : Option D := match min2D ds with
  | some d => some d
  | none => min2LD ds
theorem cx_min2A (hu : X.A.units + 64 < cLine) (hc : X.calm = true) : CbX X (.builtin "min") min2AD := by
  obtain ⟨r1, a1, a2⟩ := (cx_min2 (X := X) hc).ex
  obtain ⟨r2, b1, b2⟩ := (cx_min2LD (X := X) hu hc).ex
  refine ⟨_, a1.or b1, ?_⟩
  intro B G0 G H σ env vs ds d Q c r h k
  unfold min2AD at h
  split at h
  · rename_i d' e
    cases h
    exact .inl (a2 B G0 G H σ env vs ds d Q c r e k)
  · exact .inr (b2 B G0 G H σ env vs ds d Q c r h k)
end
end DL

namespace DL
open PySem PySem.Spec PyProof.Rows L2
/-! ### a list of lists that change -/
abbrev WtL := List (List D)
/-- at p stands a list of lists, held by nobody else; B: the heap without them, BN: with them -/
structure Nst (K : KW) (B BN G : Hp) (p : Addr) (wt : WtL) : Prop where
  ex : ∃ qs : List Addr, (p :: qs).Nodup ∧ (∀ a, a ∉ p :: qs → BN a = B a) ∧ (∀ a ∈ p :: qs, B a = none ∧ G a = none) ∧ BN p = some (.lst (qs.map V.ref)) ∧ qs.length = wt.length ∧ ∀ (i : Nat) (q : Addr) (ds : List D), qs[i]? = some q → wt[i]? = some ds → ∃ vs, BN q = some (.lst vs) ∧ Reps K G vs ds
section
variable {K : KW} {B BN G0 G G' H H' : Hp} {σ σ' : L2.St} {env env' : DEnv} {p : Addr} {wt : WtL}
theorem Nst.base (n : Nst K B BN G p wt) : Same B BN := fun a x e => by
  obtain ⟨qs, h1, h2, h3, _⟩ := n.ex
  by_cases h : a ∈ p :: qs
  · rw [(h3 a h).1] at e; cases e
  · rw [h2 a h]; exact e
theorem Nst.up (n : Nst K B BN G p wt) (c : Cn K BN G0 G σ H env) (s : Same G G') (c' : Cn K BN G0 G' σ' H' env') : Nst K B BN G' p wt := by
  obtain ⟨qs, h1, h2, h3, h4, h5, h6⟩ := n.ex
  have some_of : ∀ a ∈ p :: qs, BN a ≠ none := fun a ha => by
    rcases List.mem_cons.mp ha with rfl | ha
    · rw [h4]; intro z; cases z
    · obtain ⟨i, hi⟩ := List.mem_iff_getElem?.mp ha
      have hl := (List.getElem?_eq_some_iff.mp hi).1
      obtain ⟨vs, e, _⟩ := h6 i a _ hi (List.getElem?_eq_getElem (by omega))
      rw [e]; intro z; cases z
  refine ⟨qs, h1, h2, fun a ha => ⟨(h3 a ha).1, ?_⟩, h4, h5, fun i q ds a b => ?_⟩
  · cases z : G' a with
    | none => rfl
    | some w =>
      rcases c'.new a (by rw [z]; intro k; cases k) with k | k
      · cases y : G0 a with
        | none => exact absurd y k
        | some x =>
          have := c.ex0 _ _ y
          rw [(h3 a ha).2] at this
          cases this
      · exact absurd k (some_of a ha)
  · obtain ⟨vs, e, r⟩ := h6 i q ds a b
    exact ⟨vs, e, r.up s⟩
theorem Cn.lower (s : Same B BN) (c : Cn K BN G0 G σ H env) : Cn K B G0 G σ H env where
  len := c.len
  exB := s.trans c.exB
  exG := c.exG
  ex0 := c.ex0
  new := fun a h => by
    rcases c.new a h with z | z
    · exact .inl z
    · exact .inr (s.free z)
  cel := fun i u e => by
    obtain ⟨o, e1, h⟩ := c.cel i u e
    refine ⟨o, e1, ?_⟩
    cases u with
    | un => trivial
    | dat d => exact h
    | exc a => exact h
    | fdc d => exact h
    | own xs => obtain ⟨p', vs, e2, gp, bp, r⟩ := h; exact ⟨p', vs, e2, gp, s.free bp, r⟩
    | dic xs => obtain ⟨p', vs, e2, gp, bp, r⟩ := h; exact ⟨p', vs, e2, gp, s.free bp, r⟩
  sep := c.sep
/-- an object of the frame is written, or a new one laid -/
theorem Cn.poke2 (c : Cn K BN G0 G σ H env) {q : Addr} {o : HO} (gq : G q = none) (hq : BN q ≠ none ∨ H q = none) : Cn K (L2.upd BN q o) G0 G σ (L2.upd H q o) env where
  len := c.len
  exB := fun a x e => by
    by_cases z : a = q
    · subst z; rw [upd_same] at e ⊢; exact e
    · rw [upd_ne z] at e ⊢; exact c.exB _ _ e
  exG := fun a x e => by rw [upd_ne (ne_of_none e gq)]; exact c.exG _ _ e
  ex0 := c.ex0
  new := fun a h => by
    have z : a ≠ q := fun z => by rw [z] at h; exact h gq
    rw [upd_ne z]
    exact c.new a h
  cel := fun i u e => by
    obtain ⟨o', e1, h⟩ := c.cel i u e
    refine ⟨o', e1, ?_⟩
    have key : ∀ {p' : Addr} {x : HO}, BN p' = none → H p' = some x → p' ≠ q := fun {p' x} b h z => by
      subst z
      rcases hq with hq | hq
      · exact hq b
      · rw [h] at hq; cases hq
    cases u with
    | un => trivial
    | dat d => exact h
    | exc a => exact h
    | fdc d => exact h
    | own xs => obtain ⟨p', vs, e2, gp, bp, hp, r⟩ := h; exact ⟨p', vs, e2, gp, by rw [upd_ne (key bp hp)]; exact bp, by rw [upd_ne (key bp hp)]; exact hp, r⟩
    | dic xs => obtain ⟨p', vs, e2, gp, bp, hp, r⟩ := h; exact ⟨p', vs, e2, gp, by rw [upd_ne (key bp hp)]; exact bp, by rw [upd_ne (key bp hp)]; exact hp, r⟩
  sep := c.sep
theorem Nst.one (c : Cn K B G0 G σ H env) {q : Addr} {vs : List V} {ds : List D} (hq : H q = none) (hp : L2.upd H q (.lst vs) p = none) (r : Reps K G vs ds) : Nst K B (L2.upd (L2.upd B q (.lst vs)) p (.lst [.ref q])) G p [ds] := by
  have ne : p ≠ q := fun z => by rw [z, upd_same] at hp; cases hp
  rw [upd_ne ne] at hp
  refine ⟨[q], by simp [ne], fun a ha => ?_, fun a ha => ?_, upd_same, rfl, fun i q' ds' h1 h2 => ?_⟩
  · simp only [List.mem_cons, List.not_mem_nil, or_false, not_or] at ha
    rw [upd_ne ha.1, upd_ne ha.2]
  · simp only [List.mem_cons, List.not_mem_nil, or_false] at ha
    rcases ha with rfl | rfl
    · exact ⟨c.exB.free hp, c.exG.free hp⟩
    · exact ⟨c.exB.free hq, c.exG.free hq⟩
  · cases i with
    | zero =>
      simp at h1 h2
      subst h1 h2
      exact ⟨vs, by rw [upd_ne (Ne.symm ne), upd_same], r⟩
    | succ i => simp at h1
theorem Nst.push (n : Nst K B BN G p wt) (c : Cn K BN G0 G σ H env) {q : Addr} (hq : H q = none) : ∃ qs : List Addr, BN p = some (.lst (qs.map V.ref)) ∧ qs.length = wt.length ∧ q ≠ p ∧ Nst K B (L2.upd (L2.upd BN q (.lst [])) p (.lst (qs.map V.ref ++ [.ref q]))) G p (wt ++ [[]]) := by
  obtain ⟨qs, h1, h2, h3, h4, h5, h6⟩ := n.ex
  have bq : BN q = none := c.exB.free hq
  have ne : q ≠ p := fun z => by rw [z, h4] at bq; cases bq
  have nm : q ∉ qs := fun z => by
    obtain ⟨i, hi⟩ := List.mem_iff_getElem?.mp z
    have hl := (List.getElem?_eq_some_iff.mp hi).1
    obtain ⟨vs, e, _⟩ := h6 i q _ hi (List.getElem?_eq_getElem (by omega))
    rw [bq] at e; cases e
  have np : p ∉ qs := (List.nodup_cons.mp h1).1
  refine ⟨qs, h4, h5, ne, qs ++ [q], ?_, fun a ha => ?_, fun a ha => ?_, by rw [upd_same, List.map_append]; rfl, by simp [h5], fun i q' ds' e1 e2 => ?_⟩
  · rw [List.nodup_cons] at h1 ⊢
    refine ⟨fun z => ?_, ?_⟩
    · rcases List.mem_append.mp z with z | z
      · exact h1.1 z
      · rw [List.mem_singleton] at z; exact ne z.symm
    · rw [List.nodup_append]
      exact ⟨h1.2, by simp, fun a ha b hb z => by
        rw [List.mem_singleton] at hb
        subst hb
        subst z
        exact nm ha⟩
  · simp only [List.mem_cons, List.mem_append, List.not_mem_nil, or_false, not_or] at ha
    rw [upd_ne ha.1, upd_ne ha.2.2]
    exact h2 a (by simp [ha.1, ha.2.1])
  · by_cases z : a = q
    · subst z
      exact ⟨n.base.free bq, c.exG.free hq⟩
    · refine h3 a ?_
      rcases List.mem_cons.mp ha with e | e
      · rw [e]; exact List.mem_cons_self
      · rcases List.mem_append.mp e with e | e
        · exact List.mem_cons_of_mem _ e
        · exact absurd (List.mem_singleton.mp e) z
  · by_cases hi : i < qs.length
    · rw [List.getElem?_append_left hi] at e1
      rw [List.getElem?_append_left (by omega)] at e2
      obtain ⟨vs, e, r⟩ := h6 i q' ds' e1 e2
      have m := List.mem_of_getElem? e1
      have n1 : q' ≠ p := fun z => by subst z; exact np m
      have n2 : q' ≠ q := fun z => by subst z; exact nm m
      exact ⟨vs, by rw [upd_ne n1, upd_ne n2]; exact e, r⟩
    · rw [List.getElem?_append_right (by omega)] at e1 e2
      have i0 : i - qs.length = 0 := by
        have := (List.getElem?_eq_some_iff.mp e1).1
        simp at this
        omega
      rw [i0] at e1
      rw [show i - wt.length = 0 by omega] at e2
      simp at e1 e2
      subst e1 e2
      exact ⟨[], by rw [upd_ne ne, upd_same], .nil⟩
theorem Nst.at (n : Nst K B BN G p wt) {i : Int} {ds : List D} (h : atI wt i = some ds) : ∃ (k : Nat) (qs : List Addr) (q : Addr) (vs : List V), BN p = some (.lst (qs.map V.ref)) ∧ ixN wt.length i = some k ∧ wt[k]? = some ds ∧ atI (qs.map V.ref) i = some (.ref q) ∧ BN q = some (.lst vs) ∧ Reps K G vs ds ∧ q ≠ p ∧ G q = none ∧
    ∀ (d : D) (v : V), Rep K G v d → Nst K B (L2.upd BN q (.lst (vs ++ [v]))) G p (wt.set k (ds ++ [d])) := by
  obtain ⟨qs, h1, h2, h3, h4, h5, h6⟩ := n.ex
  unfold atI at h
  cases hk : ixN wt.length i with
  | none => rw [hk] at h; cases h
  | some k =>
    rw [hk] at h
    have h : wt[k]? = some ds := h
    have hl := (List.getElem?_eq_some_iff.mp h).1
    obtain ⟨q0, hq⟩ : ∃ q0, qs[k]? = some q0 := ⟨_, List.getElem?_eq_getElem (by omega)⟩
    obtain ⟨vs, e, r⟩ := h6 k _ ds hq h
    have m := List.mem_of_getElem? hq
    have np : p ∉ qs := (List.nodup_cons.mp h1).1
    have nq : q0 ≠ p := fun z => np (z ▸ m)
    refine ⟨k, qs, q0, vs, h4, rfl, h, ?_, e, r, nq, (h3 _ (List.mem_cons_of_mem _ m)).2, fun d v rv => ⟨qs, h1, fun a ha => ?_, h3, by rw [upd_ne (Ne.symm nq)]; exact h4, by simp [h5], fun j q' ds' e1 e2 => ?_⟩⟩
    · unfold atI
      rw [List.length_map, h5, hk]
      show (qs.map V.ref)[k]? = _
      rw [List.getElem?_map, hq]
      rfl
    · have ne : a ≠ q0 := fun z => by
        subst z
        exact ha (List.mem_cons_of_mem _ m)
      rw [upd_ne ne]
      exact h2 a ha
    · by_cases hj : k = j
      · subst hj
        rw [List.getElem?_set_self hl] at e2
        rw [hq] at e1
        cases e1
        cases e2
        exact ⟨_, upd_same, r.append (.one rv)⟩
      · rw [List.getElem?_set_ne hj] at e2
        obtain ⟨vs', e', r'⟩ := h6 j q' ds' e1 e2
        have ne : q' ≠ q0 := fun z => by
          have nd := (List.nodup_cons.mp h1).2
          obtain ⟨hj1, hj2⟩ := List.getElem?_eq_some_iff.mp e1
          obtain ⟨hk1, hk2⟩ := List.getElem?_eq_some_iff.mp hq
          have := (List.pairwise_iff_getElem.mp nd)
          rcases Nat.lt_trichotomy j k with y | y | y
          · exact this j k hj1 hk1 y (hj2.trans (z.trans hk2.symm))
          · exact hj y.symm
          · exact this k j hk1 hj1 y (hk2.trans (z.symm.trans hj2.symm))
        exact ⟨vs', by rw [upd_ne ne]; exact e', r'⟩
/-- behind a call that was handed the list -/
theorem Cn.called {Bc : Hp} (n : Nst K Bc BN G p wt) (c : Cn K BN G0 G σ H env) : ∃ B0 : Hp, Nst K B0 H G p wt ∧ ∀ (H' G' BN' : Hp) (wt' : WtL), Same G G' → Same G' H' → Same BN' H' → Nst K B0 BN' G' p wt' → (∀ a, G' a ≠ none → G a ≠ none ∨ BN' a = none) →
    ∃ BN2, Cn K BN2 G0 G' σ H' env ∧ Nst K Bc BN2 G' p wt' := by
  obtain ⟨qs, h1, h2, h3, h4, h5, h6⟩ := n.ex
  refine ⟨fun a => if a ∈ p :: qs then none else H a, ⟨qs, h1, fun a ha => by simp only [if_neg ha], fun a ha => ⟨by simp only [if_pos ha], (h3 a ha).2⟩, c.exB _ _ h4, h5, fun i q ds e1 e2 => ?_⟩, ?_⟩
  · obtain ⟨vs, e, r⟩ := h6 i q ds e1 e2
    exact ⟨vs, c.exB _ _ e, r⟩
  intro H' G' BN' wt' sG gH bH n' nw
  have bnc : ∀ a, a ∈ p :: qs → BN a ≠ none := fun a ha => by
    rcases List.mem_cons.mp ha with rfl | ha
    · rw [h4]; intro z; cases z
    · obtain ⟨i, hi⟩ := List.mem_iff_getElem?.mp ha
      have hl := (List.getElem?_eq_some_iff.mp hi).1
      obtain ⟨vs, e, _⟩ := h6 i a _ hi (List.getElem?_eq_getElem (by omega))
      rw [e]; intro z; cases z
  obtain ⟨qs', k1, k2, k3, k4, k5, k6⟩ := n'.ex
  have bcH : Same Bc H := n.base.trans c.exB
  have b0 : ∀ a x, a ∉ p :: qs → H a = some x → a ∉ p :: qs' ∧ BN' a = some x := fun a x ha hx => by
    have z : a ∉ p :: qs' := fun z => by
      have := (k3 a z).1
      rw [if_neg ha, hx] at this
      cases this
    exact ⟨z, by rw [k2 a z, if_neg ha]; exact hx⟩
  have bc0 : ∀ a, a ∈ p :: qs' → Bc a = none := fun a ha => by
    by_cases z : a ∈ p :: qs
    · exact (h3 a z).1
    · have := (k3 a ha).1
      rw [if_neg z] at this
      exact bcH.free this
  refine ⟨fun a => if a ∈ p :: qs' then BN' a else Bc a, ?_, ⟨qs', k1, fun a ha => by simp only [if_neg ha], fun a ha => ⟨bc0 a ha, (k3 a ha).2⟩, by simp only [if_pos (List.mem_cons_self)]; exact k4, k5, fun i q ds e1 e2 => ?_⟩⟩
  · exact {
      len := c.len
      exB := fun a x e => by
        have e : (if a ∈ p :: qs' then BN' a else Bc a) = some x := e
        by_cases z : a ∈ p :: qs'
        · rw [if_pos z] at e; exact bH _ _ e
        · rw [if_neg z] at e
          have za : a ∉ p :: qs := fun y => by rw [(h3 a y).1] at e; cases e
          exact bH _ _ (b0 a x za (bcH _ _ e)).2
      exG := gH
      ex0 := c.ex0.trans sG
      new := fun a h => by
        have za : a ∉ p :: qs' := fun z => h (k3 a z).2
        show G0 a ≠ none ∨ (if a ∈ p :: qs' then BN' a else Bc a) = none
        rw [if_neg za]
        rcases nw a h with z | z
        · rcases c.new a z with y | y
          · exact .inl y
          · exact .inr (n.base.free y)
        · rw [k2 a za] at z
          by_cases y : a ∈ p :: qs
          · exact .inr (h3 a y).1
          · rw [if_neg y] at z
            exact .inr (bcH.free z)
      cel := fun i u e => by
        obtain ⟨o, e1, h⟩ := c.cel i u e
        refine ⟨o, e1, ?_⟩
        have key : ∀ {p' : Addr} {x : HO}, G p' = none → BN p' = none → H p' = some x → G' p' = none ∧ (if p' ∈ p :: qs' then BN' p' else Bc p') = none ∧ H' p' = some x := fun {p' x} g b h => by
          have z : p' ∉ p :: qs := fun z => bnc p' z b
          obtain ⟨y1, y2⟩ := b0 p' x z h
          refine ⟨?_, by rw [if_neg y1]; exact n.base.free b, bH _ _ y2⟩
          cases q : G' p' with
          | none => rfl
          | some w =>
            rcases nw p' (by rw [q]; intro z; cases z) with t | t
            · exact absurd g t
            · rw [y2] at t; cases t
        cases u with
        | un => trivial
        | dat d => obtain ⟨v, e2, r⟩ := h; exact ⟨v, e2, r.up sG⟩
        | exc a => exact h
        | fdc kvs => obtain ⟨p', vs, od, e2, gp, r⟩ := h; exact ⟨p', vs, od, e2, sG _ _ gp, L2.Paired.mapP r fun _ _ z => z.up sG⟩
        | own xs =>
          obtain ⟨p', vs, e2, gp, bp, hp, r⟩ := h
          obtain ⟨y1, y2, y3⟩ := key gp bp hp
          exact ⟨p', vs, e2, y1, y2, y3, r.up sG⟩
        | dic xs =>
          obtain ⟨p', vs, e2, gp, bp, hp, r⟩ := h
          obtain ⟨y1, y2, y3⟩ := key gp bp hp
          exact ⟨p', vs, e2, y1, y2, y3, L2.Paired.mapP r fun _ _ z => z.up sG⟩
      sep := c.sep }
  · obtain ⟨vs, e, r⟩ := k6 i q ds e1 e2
    have m : q ∈ p :: qs' := List.mem_cons_of_mem _ (List.mem_of_getElem? e1)
    exact ⟨vs, by simp only [if_pos m]; exact e, r⟩
end
/-! ### statements beside it -/
inductive DOut2 where
  | nx (w : WtL) (env : DEnv) | rt (d : D) (w : WtL) | bk (w : WtL) (env : DEnv) | ct (w : WtL) (env : DEnv) | no
abbrev DStm2 := WtL → DEnv → DOut2
@[simp] def M.to2 {α : Type} (k : α → DOut2) : M α → DOut2
  | .ok a => k a
  | _ => .no
@[simp] def DOut2.then (u : DStm2) : DOut2 → DOut2
  | .nx w e => u w e
  | .rt d w => .rt d w
  | .bk w e => .bk w e
  | .ct w e => .ct w e
  | .no => .no
@[simp] def sNext2 : DStm2 := fun w e => .nx w e
@[simp] def sCont2 : DStm2 := fun w e => .ct w e
@[simp] def sSeq2 (a b : DStm2) : DStm2 := fun w e => (a w e).then b
@[simp] def sIf2 (t : WtL → DEnv → M Bool) (a b : DStm2) : DStm2 := fun w e => (t w e).to2 fun c => if c = true then a w e else b w e
def dWhile2 (t : WtL → DEnv → M Bool) (body : DStm2) : Nat → DStm2
  | 0, _, _ => .no
  | n + 1, w, e => match t w e with
    | .ok false => .nx w e
    | .ok true => match body w e with
      | .nx w' e' => dWhile2 t body n w' e'
      | .ct w' e' => dWhile2 t body n w' e'
      | .bk w' e' => .nx w' e'
      | .rt d w' => .rt d w'
      | .no => .no
    | _ => .no
def dLoop2 (tg : DTgt) (body : DStm2) : List D → DStm2
  | [], w, e => .nx w e
  | d :: ds, w, e => match tg d e with
    | none => .no
    | some e => match body w e with
      | .nx w' e' => dLoop2 tg body ds w' e'
      | .ct w' e' => dLoop2 tg body ds w' e'
      | .bk w' e' => .nx w' e'
      | .rt d w' => .rt d w'
      | .no => .no
@[simp] def sFor2 (it : DEnv → M (List D)) (tg : DTgt) (body : DStm2) : DStm2 := fun w e => (it e).to2 fun ds => dLoop2 tg body ds w e
open Classical in
/-- a statement that leaves the list alone -/
@[simp] noncomputable def sLift (iw : Nat) (g : DStm) : DStm2 := fun w env => match g env with
  | .nx e => if e[iw]? = env[iw]? then .nx w e else .no
  | .rt d => .rt d w
  | .bk e => if e[iw]? = env[iw]? then .bk w e else .no
  | .ct e => if e[iw]? = env[iw]? then .ct w e else .no
  | .ex _ _ => .no
  | .no => .no
@[simp] def sSet2 (i : Nat) (f : WtL → DEnv → M D) : DStm2 := fun w env => (f w env).to2 fun d => .nx w (env.set i (.dat d))
@[simp] def sPush2 : DStm2 := fun w env => if w.length < sizeLine then .nx (w ++ [[]]) env else .no
def rowAt (w : WtL) : D → Option (List D)
  | .int i => atI w i
  | _ => none
def appRow (w : WtL) (d x : D) : Option WtL := match d with
  | .int i => (ixN w.length i).bind fun k => (w[k]?).bind fun l => if l.length < sizeLine then some (w.set k (l ++ [x])) else none
  | _ => none
@[simp] def sAppAt2 (f g : DEnv → M D) : DStm2 := fun w env => (f env).to2 fun a => (g env).to2 fun b => (M.of (appRow w a b)).to2 fun w' => .nx w' env
@[simp] def xLen0 : WtL → DEnv → M D := fun w _ => .ok (.int w.length)
@[simp] def xLen1 (f : DEnv → M D) : WtL → DEnv → M D := fun w env => (f env).bind fun a => .of ((rowAt w a).map fun l => .int l.length)
@[simp] def xAt2 (f g : DEnv → M D) : WtL → DEnv → M D := fun w env => (f env).bind fun a => (M.of (rowAt w a)).bind fun l => (g env).bind fun b => .of (ixD l b)
@[simp] def xOp2 (h : D → D → Option D) (f g : WtL → DEnv → M D) : WtL → DEnv → M D := fun w env => (f w env).bind fun a => (g w env).bind fun b => .of (h a b)
@[simp] def tE2 (f : WtL → DEnv → M D) : WtL → DEnv → M Bool := fun w env => (f w env).bind asB
@[simp] def sCallN (n : Nat) (g : List D → WtL → M WtL) (ga : DEnv → M (List D)) : DStm2 := fun w env => (ga env).to2 fun ds => if ds.length = n then (g ds w).to2 fun w' => .nx w' env else .no
def PoS2 (K : KW) (B G0 G : Hp) (iw : Nat) (p : Addr) (E : Ends) : DOut2 → Prop
  | .nx w e => ∀ σ H G' BN, Same G G' → Cn K BN G0 G' σ H e → Nst K B BN G' p w → e[iw]? = some (.exc p) → E.nx σ H
  | .rt d w => ∀ v σ H G' BN e, Same G G' → Cn K BN G0 G' σ H e → Nst K B BN G' p w → Rep K G' v d → E.rt v H
  | .bk w e => ∀ σ H G' BN, Same G G' → Cn K BN G0 G' σ H e → Nst K B BN G' p w → e[iw]? = some (.exc p) → E.bk σ H
  | .ct w e => ∀ σ H G' BN, Same G G' → Cn K BN G0 G' σ H e → Nst K B BN G' p w → e[iw]? = some (.exc p) → E.ct σ H
  | .no => False
theorem PoS2.up {K : KW} {B G0 G G1 : Hp} {iw : Nat} {p : Addr} {E : Ends} {o : DOut2} (s : Same G G1) (h : PoS2 K B G0 G iw p E o) : PoS2 K B G0 G1 iw p E o := by
  cases o with
  | nx w e => exact fun σ H G' BN s' => h σ H G' BN (s.trans s')
  | rt d w => exact fun v σ H G' BN e s' => h v σ H G' BN e (s.trans s')
  | bk w e => exact fun σ H G' BN s' => h σ H G' BN (s.trans s')
  | ct w e => exact fun σ H G' BN s' => h σ H G' BN (s.trans s')
  | no => exact h
def RdS2 (K : KW) (iw : Nat) (ts : TS) (g : DStm2) : Prop :=
  ∀ B BN G0 G H σ env p w E, Cn K BN G0 G σ H env → Nst K B BN G p w → env[iw]? = some (.exc p) → PoS2 K B G0 G iw p E (g w env) → ts E σ H
def RdE2 (K : KW) (mg : Str → Option Value) (W : WX) (iw : Nat) (te : TE) (f : WtL → DEnv → M D) : Prop :=
  ∀ B BN G0 G H σ env p w Q, Cn K BN G0 G σ H env → Nst K B BN G p w → env[iw]? = some (.exc p) → PoE K mg W BN G0 G σ env Q (f w env) → te σ H Q
def RdT2 (K : KW) (mg : Str → Option Value) (W : WX) (iw : Nat) (tt : TT) (f : WtL → DEnv → M Bool) : Prop :=
  ∀ B BN G0 G H σ env p w Q, Cn K BN G0 G σ H env → Nst K B BN G p w → env[iw]? = some (.exc p) → PoT K mg W BN G0 G σ env Q (f w env) → tt σ H Q
structure DS2 (X : Cx) (W : WX) (iw : Nat) (st : Stmt) (g : DStm2) : Prop where
  ex : ∃ ts, PS X st ts ∧ RdS2 (kw X) iw ts g
structure DSs2 (X : Cx) (W : WX) (iw : Nat) (st : List Stmt) (g : DStm2) : Prop where
  ex : ∃ ts, PSs X st ts ∧ RdS2 (kw X) iw ts g
structure DE2 (X : Cx) (W : WX) (iw : Nat) (e : Expr) (f : WtL → DEnv → M D) : Prop where
  ex : ∃ te, PE X e te ∧ RdE2 (kw X) X.mg W iw te f
structure DT2 (X : Cx) (W : WX) (iw : Nat) (e : Expr) (f : WtL → DEnv → M Bool) : Prop where
  ex : ∃ te, PT X e te ∧ RdT2 (kw X) X.mg W iw te f
section
variable {X : Cx} {W : WX} {iw : Nat} {st : Stmt} {rest body : List Stmt} {a b : DStm2} {g : DStm} {e e1 e2 tg iter : Expr} {f : DEnv → M D} {pos p : Pos}
theorem ds2_lift (h : DS X W st g) : DS2 X W iw st (sLift iw g) := by
  obtain ⟨ts, a1, a2⟩ := h.ex
  refine ⟨ts, a1, fun B BN G0 G H σ env p w E c n hp po => ?_⟩
  refine a2 BN G0 G H σ env E c ?_
  simp only [sLift] at po
  cases o : g env with
  | nx e =>
    rw [o] at po
    simp only at po
    by_cases h : e[iw]? = env[iw]?
    · rw [if_pos h] at po
      exact fun σ' H' G' s c' => po σ' H' G' BN s c' (n.up c s c') (h.trans hp)
    · rw [if_neg h] at po; exact po.elim
  | rt d => rw [o] at po; exact fun v σ' H' G' e s c' r => po v σ' H' G' BN e s c' (n.up c s c') r
  | bk e =>
    rw [o] at po
    simp only at po
    by_cases h : e[iw]? = env[iw]?
    · rw [if_pos h] at po
      exact fun σ' H' G' s c' => po σ' H' G' BN s c' (n.up c s c') (h.trans hp)
    · rw [if_neg h] at po; exact po.elim
  | ct e =>
    rw [o] at po
    simp only at po
    by_cases h : e[iw]? = env[iw]?
    · rw [if_pos h] at po
      exact fun σ' H' G' s c' => po σ' H' G' BN s c' (n.up c s c') (h.trans hp)
    · rw [if_neg h] at po; exact po.elim
  | ex c e => rw [o] at po; exact po.elim
  | no => rw [o] at po; exact po.elim
theorem dss2_nil : DSs2 X W iw [] sNext2 := ⟨_, pss_nil, fun B BN G0 G H σ env p w E c n hp po => po σ H G BN (Same.refl G) c n hp⟩
theorem dss2_cons (h1 : DS2 X W iw st a) (h2 : DSs2 X W iw rest b) : DSs2 X W iw (st :: rest) (sSeq2 a b) := by
  obtain ⟨t, a1, a2⟩ := h1.ex
  obtain ⟨u, b1, b2⟩ := h2.ex
  refine ⟨_, pss_cons a1 b1, fun B BN G0 G H σ env p w E c n hp po => ?_⟩
  refine a2 B BN G0 G H σ env p w _ c n hp ?_
  simp only [sSeq2] at po
  cases o : a w env with
  | nx w' e =>
    rw [o] at po
    intro σ' H' G' BN' s c' n' hp'
    exact b2 B BN' G0 G' H' σ' e p w' E c' n' hp' (po.up s)
  | rt d w' => rw [o] at po; exact po
  | bk w' e => rw [o] at po; exact po
  | ct w' e => rw [o] at po; exact po
  | no => rw [o] at po; exact po
theorem dss2_one (h1 : DS2 X W iw st a) : DSs2 X W iw [st] a := by
  obtain ⟨t, a1, a2⟩ := h1.ex
  exact ⟨_, pss_one a1, a2⟩
theorem ds2_cont : DS2 X W iw (.Continue pos) sCont2 := ⟨_, ps_continue, fun B BN G0 G H σ env p w E c n hp po => po σ H G BN (Same.refl G) c n hp⟩
theorem ds2_if {c : Expr} {t : WtL → DEnv → M Bool} {as bs : List Stmt} (hc : DT2 X W iw c t) (ha : DSs2 X W iw as a) (hb : DSs2 X W iw bs b) : DS2 X W iw (.If c as bs pos) (sIf2 t a b) := by
  obtain ⟨_, c1, c2⟩ := hc.ex
  obtain ⟨_, a1, a2⟩ := ha.ex
  obtain ⟨_, b1, b2⟩ := hb.ex
  refine ⟨_, ps_if c1 a1 b1, fun B BN G0 G H σ env p w E c n hp po => ?_⟩
  refine c2 B BN G0 G H σ env p w _ c n hp ?_
  simp only [sIf2] at po
  cases o : t w env with
  | no => rw [o] at po; exact po
  | ex k => rw [o] at po; exact po.elim
  | ok k =>
    rw [o] at po
    intro H1 G1 s1 c1
    cases k with
    | true => exact iteT (a2 B BN G0 G1 H1 σ env p w E c1 (n.up c s1 c1) hp (PoS2.up s1 po))
    | false => exact iteF (b2 B BN G0 G1 H1 σ env p w E c1 (n.up c s1 c1) hp (PoS2.up s1 po))
theorem ds2_while (m : Nat) {c : Expr} {t : WtL → DEnv → M Bool} (hp : PassesOwn (model X.prog X.w) X.A X.env X.xe) (hc : DT2 X W iw c t) (hb : DSs2 X W iw body a) : DS2 X W iw (.While c body [] pos) (dWhile2 t a m) := by
  obtain ⟨tc, c1, c2⟩ := hc.ex
  obtain ⟨tb, b1, b2⟩ := hb.ex
  refine ⟨_, ps_while hp c1 b1, fun B BN G0 G H σ env p w E c n hq po => ?_⟩
  refine ⟨fun m σ H => ∃ env G BN w, Cn (kw X) BN G0 G σ H env ∧ Nst (kw X) B BN G p w ∧ env[iw]? = some (.exc p) ∧ PoS2 (kw X) B G0 G iw p E (dWhile2 t a m w env), ⟨m, env, G, BN, w, c, n, hq, po⟩, ?_⟩
  rintro m σ1 H1 ⟨env1, G1, BN1, w1, c1, n1, hq1, p1⟩
  cases m with
  | zero => exact (show False from p1).elim
  | succ m =>
    unfold dWhile2 at p1
    refine c2 B BN1 G0 G1 H1 σ1 env1 p w1 _ c1 n1 hq1 ?_
    cases o : t w1 env1 with
    | no => rw [o] at p1; exact p1
    | ex k => rw [o] at p1; exact p1.elim
    | ok k =>
      rw [o] at p1
      intro H2 G2 s2 c2
      have n2 := n1.up c1 s2 c2
      cases k with
      | false => exact iteF (p1 σ1 H2 G2 BN1 s2 c2 n2 hq1)
      | true =>
        refine iteT ⟨fun σ' H' => ∃ env G BN w, Cn (kw X) BN G0 G σ' H' env ∧ Nst (kw X) B BN G p w ∧ env[iw]? = some (.exc p) ∧ PoS2 (kw X) B G0 G iw p E (dWhile2 t a m w env), fun σ' H' x => ⟨m, Nat.lt_succ_self m, x⟩, ?_⟩
        refine b2 B BN1 G0 G2 H2 σ1 env1 p w1 _ c2 n2 hq1 ?_
        have p2 := PoS2.up s2 p1
        simp only at p2
        cases q : a w1 env1 with
        | nx w' e' => rw [q] at p2; exact fun σ5 H5 G5 BN5 s5 c5 n5 h5 => ⟨e', G5, BN5, w', c5, n5, h5, PoS2.up s5 p2⟩
        | ct w' e' => rw [q] at p2; exact fun σ5 H5 G5 BN5 s5 c5 n5 h5 => ⟨e', G5, BN5, w', c5, n5, h5, PoS2.up s5 p2⟩
        | bk w' e' => rw [q] at p2; exact p2
        | rt d w' => rw [q] at p2; exact p2
        | no => rw [q] at p2; exact p2
theorem ds2_for {it : DEnv → M (List D)} {t : DTgt} {is : List Nat} (hp : PassesOwn (model X.prog X.w) X.A X.env X.xe) (hc : X.calm = true) (hi : DI X W tg iter it) (hg : DG X is tg t) (hb : DSs2 X W iw body a) (hw : iw ∉ is := by decide)
    (hs : ∀ x, foldedSetIterable iter X.env x = pure x := by intro _; rfl) : DS2 X W iw (.For tg iter body [] pos) (sFor2 it t a) := by
  obtain ⟨wi, i1, i2⟩ := hi.ex
  obtain ⟨g, g1, g2⟩ := hg.ex
  obtain ⟨tb, b1, b2⟩ := hb.ex
  refine ⟨_, ps_for hp hc i1 g1 b1 hs, fun B BN G0 G H σ env p w E c n hq po => ?_⟩
  refine i2 BN G0 G H σ env _ c ?_
  simp only [sFor2] at po
  cases o : it env with
  | no => rw [o] at po; exact po
  | ex n => rw [o] at po; exact po.elim
  | ok ds =>
    rw [o] at po
    intro J H1 G1 s1 c1 jok
    have po : PoS2 (kw X) B G0 G1 iw p E (dLoop2 t a ds w env) := PoS2.up s1 po
    refine ⟨fun i m σ H => m = ds.length - i ∧ ∃ env G BN w, Same G1 G ∧ Cn (kw X) BN G0 G σ H env ∧ Nst (kw X) B BN G p w ∧ env[iw]? = some (.exc p) ∧ PoS2 (kw X) B G0 G iw p E (dLoop2 t a (ds.drop i) w env), ⟨ds.length, rfl, env, G1, BN, w, Same.refl _, c1, n.up c s1 c1, hq, by rw [List.drop_zero]; exact po⟩, ?_⟩
    rintro i m σ2 H2 ⟨rfl, env2, G2, BN2, w2, s2, c2, n2, hq2, p2⟩
    obtain ⟨j1, j2⟩ := jok BN2 G0 G2 σ2 H2 env2 i s2 c2
    by_cases hi : i < ds.length
    · have hd : ds[i]? = some ds[i] := List.getElem?_eq_getElem hi
      obtain ⟨go, yl⟩ := j1 _ hd
      rw [List.drop_eq_getElem_cons hi] at p2
      unfold dLoop2 at p2
      refine .inr ⟨go, fun σ' H' => ∃ env G BN w, Same G1 G ∧ Cn (kw X) BN G0 G σ' H' env ∧ Nst (kw X) B BN G p w ∧ env[iw]? = some (.exc p) ∧ PoS2 (kw X) B G0 G iw p E (dLoop2 t a (ds.drop (i + 1)) w env), fun σ' H' ⟨env', G', BN', w', x1, x2, x3, x4, x5⟩ => ⟨ds.length - (i + 1), by omega, rfl, env', G', BN', w', x1, x2, x3, x4, x5⟩, fun x H' y => ?_⟩
      obtain ⟨G3, s3, c3, r3⟩ := yl x H' y
      have n3 := n2.up c2 s3 c3
      cases k : t ds[i] env2 with
      | none => simp [k, PoS2] at p2
      | some e1 =>
        rw [k] at p2
        refine g2 c3 r3 k fun σ4 H4 G4 s4 c4 bt => ?_
        have n4 := n3.up c3 s4 c4
        have hq4 : e1[iw]? = some (.exc p) := (bt.2 iw hw).1.trans hq2
        refine b2 B BN2 G0 G4 H4 σ4 e1 p w2 _ c4 n4 hq4 ?_
        have p2 := PoS2.up (s3.trans s4) p2
        simp only at p2
        cases q : a w2 e1 with
        | nx w' e' =>
          rw [q] at p2
          exact fun σ5 H5 G5 BN5 s5 c5 n5 h5 => ⟨e', G5, BN5, w', ((s2.trans s3).trans s4).trans s5, c5, n5, h5, PoS2.up s5 p2⟩
        | ct w' e' =>
          rw [q] at p2
          exact fun σ5 H5 G5 BN5 s5 c5 n5 h5 => ⟨e', G5, BN5, w', ((s2.trans s3).trans s4).trans s5, c5, n5, h5, PoS2.up s5 p2⟩
        | bk w' e' => rw [q] at p2; exact p2
        | rt d w' => rw [q] at p2; exact p2
        | no => rw [q] at p2; exact p2
    · refine .inl ⟨j2 (by omega), ?_⟩
      rw [List.drop_of_length_le (by omega)] at p2
      exact p2 σ2 H2 G2 BN2 (Same.refl _) c2 n2 hq2
/-! ### expressions beside it -/
theorem de2_lift (h : DE X W e f) : DE2 X W iw e (fun _ => f) := by
  obtain ⟨te, a1, a2⟩ := h.ex
  exact ⟨te, a1, fun B BN G0 G H σ env p w Q c n hp po => a2 BN G0 G H σ env Q c po⟩
theorem dt2_lift {t : DEnv → M Bool} (h : DT X W e t) : DT2 X W iw e (fun _ => t) := by
  obtain ⟨te, a1, a2⟩ := h.ex
  exact ⟨te, a1, fun B BN G0 G H σ env p w Q c n hp po => a2 BN G0 G H σ env Q c po⟩
theorem RdE2.op {K : KW} {mg : Str → Option Value} {ta tb : TE} {f g : WtL → DEnv → M D} {r : R2} {h : D → D → Option D} (ha : RdE2 K mg W iw ta f) (hb : RdE2 K mg W iw tb g) (hr : OpD K r h) : RdE2 K mg W iw (tOp r ta tb) (xOp2 h f g) := by
  intro B BN G0 G H σ env p w Q c n hp po
  refine ha B BN G0 G H σ env p w _ c n hp ?_
  simp only [xOp2] at po
  cases e : f w env with
  | no => rw [e] at po; exact po
  | ex k => rw [e] at po; exact po
  | ok x =>
    rw [e] at po
    intro v1 H1 G1 s1 c1 r1
    refine hb B BN G0 G1 H1 σ env p w _ c1 (n.up c s1 c1) hp ?_
    simp only [M.bind] at po
    cases e2 : g w env with
    | no => rw [e2] at po; exact po
    | ex k => rw [e2] at po; exact po
    | ok y =>
      rw [e2] at po
      intro v2 H2 G2 s2 c2 r2
      simp only [M.bind] at po
      cases e3 : h x y with
      | none => rw [e3] at po; exact po.elim
      | some d =>
        rw [e3] at po
        exact hr _ _ _ _ _ _ _ _ _ _ _ _ c2 (r1.up s2) r2 e3 fun v H' G' s c' r' => po v H' G' ((s1.trans s2).trans s) c' r'
theorem RdE2.test {K : KW} {mg : Str → Option Value} {te : TE} {f : WtL → DEnv → M D} (h : RdE2 K mg W iw te f) : RdT2 K mg W iw (tTest te) (tE2 f) := by
  intro B BN G0 G H σ env p w Q c n hp po
  refine h B BN G0 G H σ env p w _ c n hp ?_
  simp only [tE2] at po
  cases e : f w env with
  | no => rw [e] at po; exact po
  | ex k => rw [e] at po; exact po
  | ok d =>
    rw [e] at po
    intro v H1 G1 s1 c1 r1
    cases d with
    | bl b =>
      cases r1
      exact ⟨b, rfl, po H1 G1 s1 c1⟩
    | non => exact po.elim
    | int _ => exact po.elim
    | str _ => exact po.elim
    | lst _ => exact po.elim
    | tup _ => exact po.elim
    | scr _ => exact po.elim
theorem dt2_cmp {op : CmpOp} {h : D → D → Option D} {f g : WtL → DEnv → M D} (ho : OpX X (compareOp op) h) (ha : DE2 X W iw e1 f) (hb : DE2 X W iw e2 g) (hm : behindInMarks op e2 = false) :
    DT2 X W iw (.Compare e1 [op] [e2] pos) (tE2 (xOp2 h f g)) := by
  obtain ⟨r, o1, o2⟩ := ho.ex
  obtain ⟨ta, a1, a2⟩ := ha.ex
  obtain ⟨tb, b1, b2⟩ := hb.ex
  exact ⟨_, pt_cmpR o1 a1 b1 hm, (RdE2.op a2 b2 o2).test⟩
theorem slot_exc {K : KW} {B G0 G H : Hp} {σ : L2.St} {env : DEnv} {iw : Nat} {q : Addr} (c : Cn K B G0 G σ H env) (hp : env[iw]? = some (.exc q)) : σ[iw]? = some (some (.ref q)) := by
  obtain ⟨o, e1, e2⟩ := c.cel iw _ hp
  rw [e1]
  exact congrArg some e2
/-- len(x), x the list of lists -/
theorem de2_len0 {x : Str} {px : Pos} (hm : X.mg "len" = none) (hg : Gl X "len" := by rfl) (hN : X.N[iw]? = some x := by rfl) (hv : Vis X.env.scope x := by first | exact Or.inl rfl | exact Or.inr (Or.inl rfl) | exact Or.inr (Or.inr rfl)) (hd : (x == ("__debug__" : Str)) = false := by decide)
    (hcd : (x == ("__classdict__" : Str)) = false := by decide) (hs : starEach [.Name x px] X.env = (false, eval (.Name x px) X.env) :: starEach [] X.env := by rfl) (hpl : (backTo pos (starEach [] X.env)).any (·.1) = false := by rfl) :
    DE2 X W iw (.Call (.Name "len" p) [.Name x px] [] pos) xLen0 := by
  refine ⟨_, pe_callB call_len_seq hg hm PySem.boot_len (pa_cons (pe_var hN hv hd hcd) pa_nil hs) (by decide) (by decide) hs hpl, fun B BN G0 G H σ env p w Q c n hp po => ?_⟩
  obtain ⟨qs, h1, h2, h3, h4, h5, h6⟩ := n.ex
  refine ⟨.ref p, slot_exc c hp, p, _, rfl, .inl (.inl (.inl (c.exB _ _ h4))), ?_⟩
  have := po (.int ((qs.map V.ref).length : Nat)) H G (Same.refl G) c (by
    rw [List.length_map, h5]
    exact .int _)
  exact this
/-- len(x[e]) -/
theorem de2_len1 {x : Str} {px ps : Pos} (h : DE X W e f) (hm : X.mg "len" = none) (hsl : PlainIx e := by intro _ _; rfl) (hg : Gl X "len" := by rfl) (hN : X.N[iw]? = some x := by rfl) (hv : Vis X.env.scope x := by first | exact Or.inl rfl | exact Or.inr (Or.inl rfl) | exact Or.inr (Or.inr rfl)) (hd : (x == ("__debug__" : Str)) = false := by decide)
    (hcd : (x == ("__classdict__" : Str)) = false := by decide) (hs : starEach [.Subscript (.Name x px) e ps] X.env = (false, eval (.Subscript (.Name x px) e ps) X.env) :: starEach [] X.env := by rfl) (hpl : (backTo pos (starEach [] X.env)).any (·.1) = false := by rfl) :
    DE2 X W iw (.Call (.Name "len" p) [.Subscript (.Name x px) e ps] [] pos) (xLen1 f) := by
  obtain ⟨te, a1, a2⟩ := h.ex
  refine ⟨_, pe_callB call_len_seq hg hm PySem.boot_len (pa_cons (pe_ix ix_list (pe_var hN hv hd hcd) a1 hsl) pa_nil hs) (by decide) (by decide) hs hpl, fun B BN G0 G H σ env p w Q c n hp po => ?_⟩
  refine ⟨.ref p, slot_exc c hp, ?_⟩
  refine a2 BN G0 G H σ env _ c ?_
  simp only [xLen1] at po
  cases o : f env with
  | no => rw [o] at po; exact po
  | ex k => rw [o] at po; exact po
  | ok d =>
    rw [o] at po
    intro v H1 G1 s1 c1 r1
    simp only [M.bind] at po
    have n1 := n.up c s1 c1
    cases k : rowAt w d with
    | none => rw [k] at po; exact po.elim
    | some l =>
      rw [k] at po
      cases d with
      | int j =>
        cases r1
        obtain ⟨m, qs, q, vs, z1, z2, z3, z4, z5, z6, _⟩ := n1.at k
        refine ⟨p, qs.map V.ref, j, .ref q, rfl, rfl, .inl (.inl (c1.exB _ _ z1)), z4, q, vs, rfl, .inl (.inl (.inl (c1.exB _ _ z5))), ?_⟩
        rw [z6.length]
        exact po _ H1 G1 s1 c1 (.int _)
      | non => cases k
      | bl _ => cases k
      | str _ => cases k
      | lst _ => cases k
      | tup _ => cases k
      | scr _ => cases k
/-- x[e1][e2] -/
theorem de2_at {x : Str} {px ps : Pos} {f2 : DEnv → M D} (h : DE X W e f) (h2 : DE X W e2 f2) (hsl : PlainIx e := by intro _ _; rfl) (hsl2 : PlainIx e2 := by intro _ _; rfl) (hN : X.N[iw]? = some x := by rfl) (hv : Vis X.env.scope x := by first | exact Or.inl rfl | exact Or.inr (Or.inl rfl) | exact Or.inr (Or.inr rfl)) (hd : (x == ("__debug__" : Str)) = false := by decide)
    (hcd : (x == ("__classdict__" : Str)) = false := by decide) : DE2 X W iw (.Subscript (.Subscript (.Name x px) e ps) e2 pos) (xAt2 f f2) := by
  obtain ⟨te, a1, a2⟩ := h.ex
  obtain ⟨te2, b1, b2⟩ := h2.ex
  refine ⟨_, pe_ix ix_list (pe_ix ix_list (pe_var hN hv hd hcd) a1 hsl) b1 hsl2, fun B BN G0 G H σ env p w Q c n hp po => ?_⟩
  refine ⟨.ref p, slot_exc c hp, ?_⟩
  refine a2 BN G0 G H σ env _ c ?_
  simp only [xAt2] at po
  cases o : f env with
  | no => rw [o] at po; exact po
  | ex k => rw [o] at po; exact po
  | ok d =>
    rw [o] at po
    intro v H1 G1 s1 c1 r1
    simp only [M.bind] at po
    have n1 := n.up c s1 c1
    cases k : rowAt w d with
    | none => rw [k] at po; exact po.elim
    | some l =>
      rw [k] at po
      simp only [M.of, M.bind] at po
      cases d with
      | int j =>
        cases r1
        obtain ⟨m, qs, q, vs, z1, z2, z3, z4, z5, z6, _⟩ := n1.at k
        refine ⟨p, qs.map V.ref, j, .ref q, rfl, rfl, .inl (.inl (c1.exB _ _ z1)), z4, ?_⟩
        refine b2 BN G0 G1 H1 σ env _ c1 ?_
        cases o2 : f2 env with
        | no => rw [o2] at po; exact po
        | ex k => rw [o2] at po; exact po
        | ok d2 =>
          rw [o2] at po
          simp only [M.bind] at po
          intro v2 H2 G2 s2 c2 r2
          cases y : ixD l d2 with
          | none => rw [y] at po; exact po.elim
          | some t =>
            rw [y] at po
            cases d2 with
            | int i =>
              cases r2
              obtain ⟨v3, hv3, rv3⟩ := atI_rep (z6.up s2) y
              exact ⟨q, vs, i, v3, rfl, rfl, .inl (.inl (c2.exB _ _ z5)), hv3, po v3 H2 G2 (s1.trans s2) c2 rv3⟩
            | non => cases y
            | bl _ => cases y
            | str _ => cases y
            | lst _ => cases y
            | tup _ => cases y
            | scr _ => cases y
      | non => cases k
      | bl _ => cases k
      | str _ => cases k
      | lst _ => cases k
      | tup _ => cases k
      | scr _ => cases k
end
end DL

namespace DL
open PySem PySem.Spec PyProof.Rows L2
/-! ### changes of the list of lists -/
section
variable {X : Cx} {W : WX} {iw : Nat} {e e1 e2 : Expr} {f g : DEnv → M D} {pos p : Pos}
theorem ds2_set (i : Nat) {x : Str} {pos' : Pos} {f : WtL → DEnv → M D} (hN : X.N.Nodup) (h : DE2 X W iw e f) (hw : iw ≠ i := by decide) (hi : X.N[i]? = some x := by rfl) (hx : Loc X.env.scope x := by first | exact .inl rfl | exact .inr rfl) (hs : swapsWith e (some (.Name x pos')) pos.line X.env = pure false := by rfl) (hf : X.fn x = true ∨ X.env.scope.names.lookup x = some .local := by first | exact .inl rfl | exact .inr rfl) :
    DS2 X W iw (.Assign [.Name x pos'] e pos) (sSet2 i f) := by
  obtain ⟨_, a1, a2⟩ := h.ex
  refine ⟨_, ps_set (i := i) hN hi hx a1 hs hf, fun B BN G0 G H σ env p w E c n hp po => ?_⟩
  refine a2 B BN G0 G H σ env p w _ c n hp ?_
  simp only [sSet2] at po
  cases o : f w env with
  | no => rw [o] at po; exact po
  | ex n => rw [o] at po; exact po.elim
  | ok d =>
    rw [o] at po
    exact fun v H1 G1 s1 c1 r1 => po _ H1 G1 BN s1 (c1.set i r1) (n.up c s1 c1) (by rw [List.getElem?_set_ne (Ne.symm hw)]; exact hp)
/-- x.append([]) -/
theorem ds2_push {x : Str} {px apos cpos lp : Pos} (hN : X.N[iw]? = some x := by rfl) (hv : Vis X.env.scope x := by first | exact Or.inl rfl | exact Or.inr (Or.inl rfl) | exact Or.inr (Or.inr rfl)) (hd : (x == ("__debug__" : Str)) = false := by decide)
    (hcd : (x == ("__classdict__" : Str)) = false := by decide) (hbase : attributeBase (.Name x px) "append" X.env (eval (.Name x px) X.env) = eval (.Name x px) X.env := by rfl)
    (hfew : ((backTo cpos (starEach [.List [] lp] X.env)).all (fun x => !x.1) && (backToKw cpos (keywordEach [] X.env)).all (fun x => x.1.isSome)
      && decide (([.List [] lp] : List Expr).length + ([] : List Keyword).length + (if ([] : List Keyword).isEmpty then 0 else 1) < 30)) = true := by rfl)
    (hline : (apos.endLine == cpos.line) = true := by rfl) (hse : starEach [.List [] lp] X.env = (false, eval (.List [] lp) X.env) :: starEach [] X.env := by rfl) (hplain : (backTo cpos (starEach [] X.env)).any (·.1) = false := by rfl)
    (hs : swapsWith (.Call (.Attribute (.Name x px) "append" apos) [.List [] lp] [] cpos) none pos.line X.env = pure false := by rfl) :
    DS2 X W iw (.Expr (.Call (.Attribute (.Name x px) "append" apos) [.List [] lp] [] cpos) pos) sPush2 := by
  refine ⟨_, ps_expr (pe_bm PySem.F.plainAttrs_list PySem.F.slot_list_append PySem.F.type_list_append mt_append (pe_var hN hv hd hcd) (pa_cons (pe_lst pa_nil) pa_nil hse) hbase hfew hline hse hplain) hs, fun B BN G0 G H σ env p w E c n hp po => ?_⟩
  simp only [sPush2] at po
  obtain ⟨qs0, h1, h2, h3, h4, h5, h6⟩ := n.ex
  refine ⟨.ref p, slot_exc c hp, .inl ⟨rfl, _, .inl (.inl (c.exB _ _ h4))⟩, Nat.zero_le _, fun q hq => ?_⟩
  obtain ⟨qs, k1, k2, k3, k4⟩ := n.push c hq
  by_cases hl : w.length < sizeLine
  · rw [if_pos hl] at po
    have hpq : L2.upd H q (.lst []) p = some (.lst (qs.map V.ref)) := by rw [upd_ne (Ne.symm k3)]; exact c.exB _ _ k1
    refine ⟨p, qs.map V.ref, .ref q, rfl, rfl, hpq, by rw [List.length_map, k2]; exact hl, ?_⟩
    have c1 : Cn (kw X) (L2.upd BN q (.lst [])) G0 G σ (L2.upd H q (.lst [])) env := c.poke2 (c.exG.free hq) (.inr hq)
    have gp : G p = none := (h3 p List.mem_cons_self).2
    have c2 := c1.poke2 (q := p) (o := .lst (qs.map V.ref ++ [.ref q])) gp (.inl (by rw [upd_ne (Ne.symm k3), k1]; intro z; cases z))
    exact po σ _ G _ (Same.refl G) c2 k4 hp
  · rw [if_neg hl] at po
    exact po.elim
/-- x[e].append(y) -/
theorem ds2_appAt {x : Str} {px ps apos cpos : Pos} (h : DE X W e f) (h2 : DE X W e2 g) (hsl : PlainIx e := by intro _ _; rfl) (hN : X.N[iw]? = some x := by rfl) (hv : Vis X.env.scope x := by first | exact Or.inl rfl | exact Or.inr (Or.inl rfl) | exact Or.inr (Or.inr rfl)) (hd : (x == ("__debug__" : Str)) = false := by decide)
    (hcd : (x == ("__classdict__" : Str)) = false := by decide) (hbase : attributeBase (.Subscript (.Name x px) e ps) "append" X.env (eval (.Subscript (.Name x px) e ps) X.env) = eval (.Subscript (.Name x px) e ps) X.env := by rfl)
    (hfew : ((backTo cpos (starEach [e2] X.env)).all (fun x => !x.1) && (backToKw cpos (keywordEach [] X.env)).all (fun x => x.1.isSome)
      && decide ([e2].length + ([] : List Keyword).length + (if ([] : List Keyword).isEmpty then 0 else 1) < 30)) = true := by rfl)
    (hline : (apos.endLine == cpos.line) = true := by rfl) (hse : starEach [e2] X.env = (false, eval e2 X.env) :: starEach [] X.env := by rfl) (hplain : (backTo cpos (starEach [] X.env)).any (·.1) = false := by rfl)
    (hs : swapsWith (.Call (.Attribute (.Subscript (.Name x px) e ps) "append" apos) [e2] [] cpos) none pos.line X.env = pure false := by rfl) :
    DS2 X W iw (.Expr (.Call (.Attribute (.Subscript (.Name x px) e ps) "append" apos) [e2] [] cpos) pos) (sAppAt2 f g) := by
  obtain ⟨te, a1, a2⟩ := h.ex
  obtain ⟨te2, b1, b2⟩ := h2.ex
  refine ⟨_, ps_expr (pe_bm PySem.F.plainAttrs_list PySem.F.slot_list_append PySem.F.type_list_append mt_append (pe_ix ix_list (pe_var hN hv hd hcd) a1 hsl) (pa_cons b1 pa_nil hse) hbase hfew hline hse hplain) hs, fun B BN G0 G H σ env p w E c n hp po => ?_⟩
  refine ⟨.ref p, slot_exc c hp, ?_⟩
  refine a2 BN G0 G H σ env _ c ?_
  simp only [sAppAt2] at po
  cases o : f env with
  | no => rw [o] at po; exact po
  | ex k => rw [o] at po; exact po.elim
  | ok d =>
    rw [o] at po
    simp only [M.to2] at po
    intro v H1 G1 s1 c1 r1
    have n1 := n.up c s1 c1
    cases o2 : g env with
    | no => rw [o2] at po; exact po.elim
    | ex k => rw [o2] at po; exact po.elim
    | ok d2 =>
      rw [o2] at po
      simp only [M.to2] at po
      cases k : appRow w d d2 with
      | none => rw [k] at po; exact po.elim
      | some w' =>
        rw [k] at po
        simp only [M.of, M.to2] at po
        unfold appRow at k
        cases d with
        | int j =>
          cases r1
          simp only [Option.bind_eq_some_iff] at k
          obtain ⟨m, hm, l, hl, hif⟩ := k
          split at hif
          · rename_i hlt
            cases hif
            have at1 : atI w j = some l := by unfold atI; rw [hm]; exact hl
            obtain ⟨m', qs, q, vs, z1, z2, z3, z4, z5, z6, z7, z8, _⟩ := n1.at at1
            rw [hm] at z2
            cases z2
            refine ⟨p, qs.map V.ref, j, .ref q, rfl, rfl, .inl (.inl (c1.exB _ _ z1)), z4, .inl ⟨rfl, _, .inl (.inl (c1.exB _ _ z5))⟩, ?_⟩
            refine b2 BN G0 G1 H1 σ env _ c1 ?_
            rw [o2]
            intro v2 H2 G2 s2 c2 r2
            have n2 := n1.up c1 s2 c2
            obtain ⟨m2, qs2, q2, vs2, y1, y2, y3, y4, y5, y6, y7, y8, y9⟩ := n2.at at1
            rw [hm] at y2
            cases y2
            have eqs : qs2 = qs := by
              rw [z1] at y1
              injection y1 with y1
              injection y1 with y1
              exact ((List.map_inj_right (fun a b h => by cases h; rfl)).mp y1).symm
            subst eqs
            rw [z4] at y4
            cases y4
            rw [z5] at y5
            cases y5
            refine ⟨q, vs, v2, rfl, rfl, c2.exB _ _ z5, by rw [z6.length]; exact hlt, ?_⟩
            have c3 := c2.poke2 (q := q) (o := .lst (vs ++ [v2])) y8 (.inl (by rw [z5]; intro z; cases z))
            exact po σ _ G2 _ (s1.trans s2) c3 (y9 d2 v2 r2) hp
          · cases hif
        | non => cases k
        | bl _ => cases k
        | str _ => cases k
        | lst _ => cases k
        | tup _ => cases k
        | scr _ => cases k
end
/-! ### defs that are handed the list -/
/-- a def of n arguments; at place j the list of lists, that it changes as g tells; it hands back None -/
def spN (K : KW) (n j : Nat) (g : List D → WtL → M WtL) : Sp := fun vs H Q E => vs.length = n + 1 ∧ ∃ (B0 G : Hp) (p : Addr) (ds : List D) (w w' : WtL), vs[j]? = some (.ref p) ∧ Reps K G (vs.eraseIdx j) ds ∧ ds.length = n ∧ j ≤ n ∧ Same G H ∧ Nst K B0 H G p w ∧ g ds w = .ok w' ∧
  ∀ H' G' BN', Same G G' → Same G' H' → Same BN' H' → Nst K B0 BN' G' p w' → (∀ a, G' a ≠ none → G a ≠ none ∨ BN' a = none) → Q .non H'
def iniN (n j : Nat) (p : Addr) (ds : List D) : DEnv := (ds.take j).map .dat ++ .exc p :: ((ds.drop j).map .dat ++ List.replicate (n - ds.length - 1) .un)
open Classical in
noncomputable def fnN (n j : Nat) (g : DStm2) (ds : List D) (w : WtL) : M WtL := if h : ∃ w', ∀ p, ∃ e, g w (iniN n j p ds) = .nx w' e then .ok h.choose else .no
theorem fnN_eq {n j : Nat} {g : DStm2} {ds : List D} {w w' : WtL} (h : ∀ p, ∃ e, g w (iniN n j p ds) = .nx w' e) : fnN n j g ds w = .ok w' := by
  have hex : ∃ w', ∀ p, ∃ e, g w (iniN n j p ds) = .nx w' e := ⟨w', h⟩
  unfold fnN
  rw [dif_pos hex]
  obtain ⟨e1, h1⟩ := hex.choose_spec 0
  obtain ⟨e2, h2⟩ := h 0
  rw [h1] at h2
  injection h2 with h3
  rw [h3]
theorem fnN_inv {n j : Nat} {g : DStm2} {ds : List D} {w w' : WtL} (h : fnN n j g ds w = .ok w') : ∀ p, ∃ e, g w (iniN n j p ds) = .nx w' e := by
  unfold fnN at h
  split at h
  · rename_i hex
    cases h
    exact hex.choose_spec
  · cases h
theorem reps_get {K : KW} {G : Hp} {vs : List V} {ds : List D} (r : Reps K G vs ds) {i : Nat} (h : i < ds.length) : ∃ v, vs[i]? = some v ∧ Rep K G v ds[i] := r.get (List.getElem?_eq_getElem h)
theorem cn_startN {K : KW} {G H : Hp} {N : List Str} {vs : List V} {ds : List D} {j : Nat} {p : Addr} (e : Same G H) (hj : vs[j]? = some (.ref p)) (hl : vs.length = ds.length + 1) (hjn : j ≤ ds.length) (hN : ds.length + 1 ≤ N.length) (r : Reps K G (vs.eraseIdx j) ds) : Cn K H G G (start N vs) H (iniN N.length j p ds) where
  len := by
    simp only [L2.start, iniN, List.length_append, List.length_map, List.length_replicate, List.length_cons, List.length_take, List.length_drop, hl]
    omega
  exB := Same.refl H
  exG := e
  ex0 := Same.refl G
  new := fun a h => .inl h
  cel := fun i s hs => by
    unfold iniN at hs
    have lt : (List.map Cel.dat (ds.take j)).length = j := by rw [List.length_map, List.length_take]; omega
    have sl : ∀ {i : Nat} {v : V}, vs[i]? = some v → (start N vs)[i]? = some (some v) := fun {i v} h => by
      have := (List.getElem?_eq_some_iff.mp h).1
      unfold L2.start
      rw [List.getElem?_append_left (by rw [List.length_map]; exact this), List.getElem?_map, h]
      rfl
    rcases Nat.lt_trichotomy i j with h | h | h
    · rw [List.getElem?_append_left (by omega), List.getElem?_map, List.getElem?_take_of_lt h] at hs
      have hd : i < ds.length := by omega
      rw [List.getElem?_eq_getElem hd] at hs
      simp only [Option.map_some, Option.some.injEq] at hs
      subst hs
      obtain ⟨v, e1, r1⟩ := reps_get r hd
      rw [List.getElem?_eraseIdx_of_lt h] at e1
      exact ⟨some v, sl e1, v, rfl, r1⟩
    · subst h
      rw [List.getElem?_append_right (by omega), lt, Nat.sub_self] at hs
      simp only [List.getElem?_cons_zero, Option.some.injEq] at hs
      subst hs
      exact ⟨some (.ref p), sl hj, rfl⟩
    · rw [List.getElem?_append_right (by omega), lt] at hs
      obtain ⟨k, hk⟩ : ∃ k, i - j = k + 1 := ⟨i - j - 1, by omega⟩
      rw [hk, List.getElem?_cons_succ] at hs
      by_cases h2 : i ≤ ds.length
      · have l2 : (List.map Cel.dat (ds.drop j)).length = ds.length - j := by rw [List.length_map, List.length_drop]
        rw [List.getElem?_append_left (by omega), List.getElem?_map, List.getElem?_drop] at hs
        have hd : j + k < ds.length := by omega
        rw [List.getElem?_eq_getElem hd] at hs
        simp only [Option.map_some, Option.some.injEq] at hs
        subst hs
        obtain ⟨v, e1, r1⟩ := reps_get r hd
        rw [List.getElem?_eraseIdx_of_ge (by omega)] at e1
        have e3 : j + k + 1 = i := by omega
        rw [e3] at e1
        exact ⟨some v, sl e1, v, rfl, r1⟩
      · have l2 : (List.map Cel.dat (ds.drop j)).length = ds.length - j := by rw [List.length_map, List.length_drop]
        rw [List.getElem?_append_right (by omega), l2, List.getElem?_replicate] at hs
        split at hs
        · rename_i hx
          simp only [Option.some.injEq] at hs
          subst hs
          refine ⟨none, ?_, trivial⟩
          unfold L2.start
          rw [List.getElem?_append_right (by rw [List.length_map]; omega), List.getElem?_replicate, List.length_map, if_pos (by omega)]
        · cases hs
  sep := fun i k s t q ne e1 e2 o1 o2 h1 => by
    have no : ∀ (i : Nat) (s : Cel), (iniN N.length j p ds)[i]? = some s → ¬ s.owned := fun i s h o => by
      have m := List.mem_of_getElem? h
      unfold iniN at m
      rcases List.mem_append.mp m with m | m
      · obtain ⟨d, _, rfl⟩ := List.mem_map.mp m
        exact o
      · rcases List.mem_cons.mp m with rfl | m
        · exact o
        · rcases List.mem_append.mp m with m | m
          · obtain ⟨d, _, rfl⟩ := List.mem_map.mp m
            exact o
          · rw [List.eq_of_mem_replicate m] at o
            exact o
    exact absurd o1 (no i s e1)
theorem iniN_exc {n j : Nat} {p : Addr} {ds : List D} (h : j ≤ ds.length) : (iniN n j p ds)[j]? = some (.exc p) := by
  have lt : (List.map Cel.dat (ds.take j)).length = j := by rw [List.length_map, List.length_take]; omega
  unfold iniN
  rw [List.getElem?_append_right (by omega), lt, Nat.sub_self]
  rfl
section
variable (P : Program) (w : World) (K : PySem.W.Frag) (mg : Str → Option Value) (base : Heap)
structure DFnN (k : Nat) (x : Str) (n j : Nat) (g : List D → WtL → M WtL) : Prop where
  ex : ∃ f fd ps, FnOk P w K mg base (L2.CX P w) k f fd ps (spN ⟨K, w⟩ n j g) ∧ mg x = some (.ref f) ∧ PySem.W.keepIn K (.ref f) = true ∧ Binds K fd ps []
end
section
variable {P : Program} {w : World} {K : PySem.W.Frag} {mg : Str → Option Value} {base : Heap}
theorem DFnN.mk' {x qual : Str} {st : Stmt} {f : Addr} {fd : FuncData} {N ps : List Str} {k n j : Nat} {g : DStm2} (F : Fun K x qual st f fd) (S : FnScope N ps (defScope st)) (hn : ps.length = n + 1) (hx : mg x = some (.ref f)) (hN : n + 1 ≤ N.length)
    (hb : ∀ (kV doc pm : Value) (an : Option Addr) (cdv ct : Value) (us : List Value), us.length = ps.length → bindArgs (PySem.W.fnOf x qual (defArgs st) (defBody st) (defScope st) .none kV doc pm an cdv ct) ⟨us, []⟩ = pure (ps.zip us))
    (hbody : ∀ (cdv : Value) (A : Around) (outer : List Env) (s : Shared) (H : Hp) (E : XK), Room k (A.deeper (envOfC qual (defScope st) s.heap.objs.size f cdv)) →
      Takes (cxOf (L2.CX P w) P w K mg base N qual (defScope st) f cdv A outer s H E) (wOf E) →
      PassesOwn (model P w) (cxOf (L2.CX P w) P w K mg base N qual (defScope st) f cdv A outer s H E).A (cxOf (L2.CX P w) P w K mg base N qual (defScope st) f cdv A outer s H E).env (cxOf (L2.CX P w) P w K mg base N qual (defScope st) f cdv A outer s H E).xe →
      DSs2 (cxOf (L2.CX P w) P w K mg base N qual (defScope st) f cdv A outer s H E) (wOf E) j (defBody st) g) :
    DFnN P w K mg base (k + 1) x n j (fnN N.length j g) := by
  refine ⟨f, fd, ps, F.okX S (fun vs H Q E h => h.1.trans hn.symm) (fun cdv A outer s H vs Q E hr h => ?_), hx, F.kp, F.binds hb⟩
  obtain ⟨hl, B0, G, p, ds, wt, w', hj, r, hd, hjn, sG, nst, hg, p1⟩ := h
  obtain ⟨ts, h1, h2⟩ := (hbody cdv A outer s H E hr (takes_of rfl rfl rfl rfl) (passes_of rfl)).ex
  obtain ⟨e, he⟩ := fnN_inv hg p
  refine ⟨ts, h1, h2 B0 H G G H _ _ p wt _ (cn_startN sG hj (by omega) (by omega) (by omega) r) nst (iniN_exc (by omega)) ?_⟩
  rw [he]
  intro σ' H' G' BN' s' c' n' _
  exact p1 H' G' BN' s' c'.exG c'.exB n' (fun a h => c'.new a h)
end
/-- the arguments, the list of lists at place j -/
structure DAN (X : Cx) (W : WX) (iw j : Nat) (es : List Expr) (ga : DEnv → M (List D)) : Prop where
  ex : ∃ ta, PA X es ta ∧ ∀ B BN G0 G H σ env p w (Q : List V → Hp → Prop), Cn (kw X) BN G0 G σ H env → Nst (kw X) B BN G p w → env[iw]? = some (.exc p) →
    (∃ ds, ga env = .ok ds ∧ ∀ vs H' G', Same G G' → Cn (kw X) BN G0 G' σ H' env → vs.length = ds.length + 1 → vs[j]? = some (.ref p) → Reps (kw X) G' (vs.eraseIdx j) ds → Q vs H') → ta σ H Q
section
variable {X : Cx} {W : WX} {iw : Nat} {e : Expr} {es : List Expr} {f : DEnv → M D} {ga : DEnv → M (List D)} {pos p : Pos}
theorem dan0 {x : Str} {px : Pos} (ha : DA X W es ga) (hs : starEach (.Name x px :: es) X.env = (false, eval (.Name x px) X.env) :: starEach es X.env := by rfl) (hN : X.N[iw]? = some x := by rfl) (hv : Vis X.env.scope x := by first | exact Or.inl rfl | exact Or.inr (Or.inl rfl) | exact Or.inr (Or.inr rfl)) (hd : (x == ("__debug__" : Str)) = false := by decide)
    (hcd : (x == ("__classdict__" : Str)) = false := by decide) : DAN X W iw 0 (.Name x px :: es) ga := by
  obtain ⟨ta, a1, a2⟩ := ha.ex
  refine ⟨_, pa_cons (pe_var hN hv hd hcd) a1 hs, fun B BN G0 G H σ env p w Q c n hp ⟨ds, e1, po⟩ => ?_⟩
  refine ⟨.ref p, slot_exc c hp, ?_⟩
  refine a2 BN G0 G H σ env _ c ?_
  rw [e1]
  intro vs H1 G1 s1 c1 r1
  exact po (.ref p :: vs) H1 G1 s1 c1 (by simp [r1.length]) rfl r1
theorem dan1 {x : Str} {px : Pos} (h : DE X W e f) (ha : DA X W es ga) (hs0 : starEach (e :: .Name x px :: es) X.env = (false, eval e X.env) :: starEach (.Name x px :: es) X.env := by rfl) (hs : starEach (.Name x px :: es) X.env = (false, eval (.Name x px) X.env) :: starEach es X.env := by rfl) (hN : X.N[iw]? = some x := by rfl) (hv : Vis X.env.scope x := by first | exact Or.inl rfl | exact Or.inr (Or.inl rfl) | exact Or.inr (Or.inr rfl)) (hd : (x == ("__debug__" : Str)) = false := by decide)
    (hcd : (x == ("__classdict__" : Str)) = false := by decide) : DAN X W iw 1 (e :: .Name x px :: es) (aCons f ga) := by
  obtain ⟨te, b1, b2⟩ := h.ex
  obtain ⟨ta, a1, a2⟩ := ha.ex
  refine ⟨_, pa_cons b1 (pa_cons (pe_var hN hv hd hcd) a1 hs) hs0, fun B BN G0 G H σ env p w Q c n hp ⟨ds, e1, po⟩ => ?_⟩
  refine b2 BN G0 G H σ env _ c ?_
  simp only [aCons] at e1
  cases o : f env with
  | no => rw [o] at e1; cases e1
  | ex k => rw [o] at e1; cases e1
  | ok d =>
    rw [o] at e1
    simp only [M.bind] at e1
    intro v H1 G1 s1 c1 r1
    refine ⟨.ref p, slot_exc c1 hp, ?_⟩
    refine a2 BN G0 G1 H1 σ env _ c1 ?_
    cases o2 : ga env with
    | no => rw [o2] at e1; cases e1
    | ex k => rw [o2] at e1; cases e1
    | ok ds' =>
      rw [o2] at e1
      cases e1
      intro vs H2 G2 s2 c2 r2
      exact po (v :: .ref p :: vs) H2 G2 (s1.trans s2) c2 (by simp [r2.length]) rfl (.cons (r1.up s2) r2)
theorem ds2_call {k l n j : Nat} {x : Str} {g : List D → WtL → M WtL} {pos2 : Pos} (F : DFnN X.prog X.w X.K X.mg X.base k x n j g) (hr : Room l X.A) (hj : k ≤ l) (hjn : j ≤ n) (tk : Takes X W) (ha : DAN X W iw j (e :: es) ga)
    (hg : Gl X x := by rfl) (hdb : (x == ("__debug__" : Str)) = false := by decide) (he : starEach (e :: es) X.env = (false, eval e X.env) :: starEach es X.env := by rfl) (hpl : (backTo pos (starEach es X.env)).any (·.1) = false := by rfl)
    (hs : swapsWith (.Call (.Name x p) (e :: es) [] pos) none pos2.line X.env = pure false := by rfl) :
    DS2 X W iw (.Expr (.Call (.Name x p) (e :: es) [] pos) pos2) (sCallN n g ga) := by
  obtain ⟨f, fd, ps, F1, F2, F3, F4⟩ := F.ex
  obtain ⟨_, a1, a2⟩ := ha.ex
  refine ⟨_, ps_expr (pe_callS F1 (hr.mono hj) hg F2 F3 F4 (fun σ => passAt tk σ) a1 hdb he hpl) hs, fun B BN G0 G H σ env p w E c nst hp po => ?_⟩
  refine a2 B BN G0 G H σ env p w _ c nst hp ?_
  simp only [sCallN] at po
  cases o : ga env with
  | no => rw [o] at po; exact po.elim
  | ex m => rw [o] at po; exact po.elim
  | ok ds =>
    rw [o] at po
    simp only [M.to2] at po
    by_cases hl : ds.length = n
    · rw [if_pos hl] at po
      refine ⟨ds, rfl, fun vs H1 G1 s1 c1 hv hvj r1 => ?_⟩
      cases q : g ds w with
      | no => rw [q] at po; exact po.elim
      | ex m => rw [q] at po; exact po.elim
      | ok w' =>
        rw [q] at po
        have n1 := nst.up c s1 c1
        obtain ⟨B0, m1, m2⟩ := Cn.called n1 c1
        refine ⟨by omega, B0, G1, p, ds, w, w', hvj, r1, hl, hjn, c1.exG, m1, q, fun H' G' BN' s2 gh bh n' nw => ?_⟩
        obtain ⟨BN2, c3, n3⟩ := m2 H' G' BN' w' s2 gh bh n' nw
        exact po σ H' G' BN2 (s1.trans s2) c3 n3 hp
    · rw [if_neg hl] at po
      exact po.elim
/-! ### a def that makes the list -/
open Classical in
noncomputable def enterR (k : Addr → DOut2) : DOut := if h : ∃ d, ∀ p, ∃ w, k p = .rt d w then .rt h.choose else .no
theorem enterR_eq {k : Addr → DOut2} {d : D} (h : ∀ p, ∃ w, k p = .rt d w) : enterR k = .rt d := by
  have hex : ∃ d, ∀ p, ∃ w, k p = .rt d w := ⟨d, h⟩
  unfold enterR
  rw [dif_pos hex]
  obtain ⟨e1, h1⟩ := hex.choose_spec 0
  obtain ⟨e2, h2⟩ := h 0
  rw [h1] at h2
  injection h2 with h3
  rw [h3]
theorem enterR_inv {k : Addr → DOut2} : enterR k = .no ∨ ∃ d, enterR k = .rt d ∧ ∀ p, ∃ w, k p = .rt d w := by
  unfold enterR
  split
  · rename_i h
    exact .inr ⟨_, rfl, h.choose_spec⟩
  · exact .inl rfl
/-- x = [[..]] ahead of g -/
noncomputable def sEnter (iw : Nat) (f : DEnv → M (List D)) (g : DStm2) : DStm := fun env => if iw < env.length then (f env).to env fun ds => enterR fun p => g [ds] (env.set iw (.exc p)) else .no
theorem dss_enter {x : Str} {pos' lp : Pos} {rest : List Stmt} {f : DEnv → M (List D)} {g : DStm2} (hN : X.N.Nodup) (h : DLs X W e f) (hb : DSs2 X W iw rest g) (hi : X.N[iw]? = some x := by rfl) (hx : Loc X.env.scope x := by first | exact .inl rfl | exact .inr rfl) (hs : swapsWith (.List [e] lp) (some (.Name x pos')) pos.line X.env = pure false := by rfl) (hf : X.fn x = true ∨ X.env.scope.names.lookup x = some .local := by first | exact .inl rfl | exact .inr rfl)
    (hst : starEach [e] X.env = (false, eval e X.env) :: starEach [] X.env := by rfl) :
    DSs X W (.Assign [.Name x pos'] (.List [e] lp) pos :: rest) (sEnter iw f g) := by
  obtain ⟨te, a1, a2⟩ := h.ex
  obtain ⟨u, b1, b2⟩ := hb.ex
  refine ⟨_, pss_cons (ps_set (i := iw) hN hi hx (pe_lst (pa_cons a1 pa_nil hst)) hs hf) b1, fun B G0 G H σ env E c po => ?_⟩
  refine a2 B G0 G H σ env _ c ?_
  unfold sEnter at po
  by_cases hle : iw < env.length
  case neg => rw [if_neg hle] at po; exact po.elim
  rw [if_pos hle] at po
  cases o : f env with
  | no => rw [o] at po; exact po.elim
  | ex n => rw [o] at po; exact PoX.s po
  | ok ds =>
    rw [o] at po
    simp only [M.to] at po
    intro q vs H1 G1 s1 c1 hq r1
    refine ⟨by rw [sizeLine_eq]; show 1 ≤ _; decide, fun p hp => ?_⟩
    rcases enterR_inv (k := fun p => g [ds] (env.set iw (.exc p))) with z | ⟨d, z, hd⟩
    · rw [z] at po; exact po.elim
    · rw [z] at po
      have ne : p ≠ q := fun z => by rw [z, upd_same] at hp; cases hp
      have hp' := hp
      rw [upd_ne ne] at hp'
      have n1 : Nst (kw X) B (L2.upd (L2.upd B q (.lst vs)) p (.lst [.ref q])) G1 p [ds] := Nst.one c1 hq hp r1
      have c2 : Cn (kw X) (L2.upd B q (.lst vs)) G0 G1 σ (L2.upd H1 q (.lst vs)) env := c1.poke2 (c1.exG.free hq) (.inr hq)
      have c3 := c2.poke2 (q := p) (o := .lst [.ref q]) (c1.exG.free hp') (.inr hp)
      have c4 := c3.setExc iw p
      obtain ⟨w, hw⟩ := hd p
      refine b2 B _ G0 G1 _ _ _ p [ds] E c4 n1 (by rw [List.getElem?_set_self hle]) ?_
      rw [hw]
      intro v σ' H' G' BN' e' s' c' n' r'
      exact po v σ' H' G' e' (s1.trans s') (c'.lower n'.base) r'
end
end DL

namespace DL
open PySem PySem.Spec PyProof.Rows L2
/-! ### a, b = x, y -/
@[simp] def sPar (i j : Nat) (ga : DEnv → M (List D)) : DStm := fun env => (ga env).to env fun ds => match ds with
  | [d1, d2] => .nx ((env.set i (.dat d1)).set j (.dat d2))
  | _ => .no
section
variable {X : Cx} {W : WX} {a b : Expr} {ga : DEnv → M (List D)} {pos : Pos}
theorem ds_par (i j : Nat) {x y : Str} {px py pt pt2 : Pos} {kt k2} (hN : X.N.Nodup) (ha : DA X W [a, b] ga) (hc : X.calm = true := by rfl) (hij : i ≠ j := by decide) (hi : X.N[i]? = some x := by rfl) (hj : X.N[j]? = some y := by rfl)
    (hx : X.env.scope.names.lookup x = some .local := by rfl) (hy : X.env.scope.names.lookup y = some .local := by rfl)
    (hw : swappedStores [.Tuple [.Name x px, .Name y py] kt pt] (.Tuple [a, b] k2 pt2) X.env = pure (some [x, y]) := by rfl)
    (hs : swapsWithSole [.Tuple [.Name x px, .Name y py] kt pt] (.Tuple [a, b] k2 pt2) pos.line X.env = pure false := by rfl) :
    DS X W (.Assign [.Tuple [.Name x px, .Name y py] kt pt] (.Tuple [a, b] k2 pt2) pos) (sPar i j ga) := by
  obtain ⟨ta, a1, a2⟩ := ha.ex
  refine ⟨_, ps_par hc hN hi hj hij hx hy a1 hw hs, fun B G0 G H σ env E c po => ?_⟩
  refine a2 B G0 G H σ env _ c ?_
  simp only [sPar] at po
  cases o : ga env with
  | no => rw [o] at po; exact po
  | ex n => rw [o] at po; exact PoX.s po
  | ok ds =>
    rw [o] at po
    intro vs H1 G1 s1 c1 r1
    simp only [M.to] at po
    match ds, r1, po with
    | [d1, d2], .cons (v := v1) r1 (.cons (v := v2) r2 .nil), po => exact ⟨_, _, rfl, po _ H1 G1 s1 ((c1.set i r1).set j r2)⟩
    | [], _, po => exact po.elim
    | [_], _, po => exact po.elim
    | _ :: _ :: _ :: _, _, po => exact po.elim
end
end DL

namespace DL
open PySem PySem.Spec PyProof.Rows L2
/-! ### a > b of data that are alike -/
def rGtL (K : PySem.W.Frag) : R2 := fun x y H Q => ∃ d e, Dp K H x d ∧ Dp K H y e ∧ PySem.W.alike d e = true ∧ d ≠ .none ∧ d.depth ≤ 60 ∧ Q (.bl (PySem.W.dataLt e d)) H
open Classical in
noncomputable def gtLD (a b : D) : Option D := if eqOk 60 a = true ∧ eqOk 60 b = true ∧ PySem.W.alike (py a) (py b) = true ∧ py a ≠ .none then some (.bl (PySem.W.dataLt (py b) (py a))) else none
noncomputable def gtAD (a b : D) : Option D := match gtD a b with
  | some d => some d
  | none => gtLD a b
@[simp] theorem gtAD_int (a b : Int) : gtAD (.int a) (.int b) = gtD (.int a) (.int b) := rfl
section
variable {X : Cx}
theorem op_gtL (hu : X.A.units + 64 < cLine) : OpR X (compareOp .Gt) (rGtL X.K) := by
  intro pins s σ H x y v u Q I rx ry h
  obtain ⟨d, e, hd, he, al, nn, dp, q⟩ := h
  obtain ⟨as, r1⟩ := Dp.reads I d x v hd rx
  obtain ⟨bs, r2⟩ := Dp.reads I e y u he ry
  exact PySem.W.gt_data r1 r2 al nn (by have := Nat.min_le_left d.depth e.depth; omega) ⟨.bl _, H, I, rfl, q⟩
theorem ox_gtA (hu : X.A.units + 64 < cLine) : OpX X (compareOp .Gt) gtAD := by
  refine ⟨_, op_gt.or (op_gtL hu), opd_pure ?_⟩
  intro G H x y a b d Q s ra rb e
  unfold gtAD at e
  split at e
  · rename_i d' e'
    cases e
    unfold gtD at e'
    split at e'
    · cases ra; cases rb; cases e'
      exact ⟨_, .bl _, fun q => .inl ⟨_, _, rfl, rfl, q⟩⟩
    · cases e'
  · unfold gtLD at e
    split at e
    · rename_i h
      cases e
      exact ⟨_, .bl _, fun q => .inr ⟨_, _, dp_mono s h.1 ra, dp_mono s h.2.1 rb, h.2.2.1, h.2.2.2, (eqOk_shape 60 a h.1).2, q⟩⟩
    · cases e
end
end DL

namespace DL
open PySem PySem.Spec PyProof.Rows L2
/-! ### try .. except X, without a name -/
def ExcSelf (K : PySem.W.Frag) (mg : Str → Option Value) (C : Str) : Prop := ∃ D, mg C = some (.ref D) ∧ PySem.W.exmOne K (.ref D) (.ref D) = some true
def sTryOnly (C : Str) (gb gs : DStm) : DStm := fun env => match gb env with
  | .ex c e => if c = C then (match gs e with | .rt d => .rt d | _ => .no) else .no
  | o => o
section
variable {X : Cx} {W : WX} {body suite : List Stmt} {b₀ : Stmt} {pos pos' np : Pos}
theorem ds_tryOnly {C : Str} {D : Addr} {gb gs : DStm} (hc : Names X C (.ref D)) (hm : X.mg C = some (.ref D)) (hex : PySem.W.exmOne X.K (.ref D) (.ref D) = some true) (tk : Takes X W)
    (hb : ∀ (W' : WX) (pn : List (Addr × Obj)) (xe : Value → Shared → Prop), Takes (X.tr pn xe) W' → PassesOwn (model X.prog X.w) X.A X.env xe → DSs (X.tr pn xe) W' body gb)
    (hsu : ∀ (a : Addr) (oe : Obj) (pn : List (Addr × Obj)), DSs (X.suite a ((a, oe) :: pn)) W0 (b₀ :: suite) gs)
    (hs : X.stack = X.env :: X.outer := by rfl) (hf : X.env.frame = some X.env.locals := by rfl) :
    DS X W (.Try body [.ExceptHandler (some (.Name C np)) none (b₀ :: suite) pos'] [] [] pos) (sTryOnly C gb gs) := by
  refine ⟨_, ps_try_only (tb := fun W' => tSF (kw X) X.mg W' gb) (ts := fun a cls d => tSF (kw X) X.mg W0 gs) hs hf hc tk
    (fun W' pn xe h1 h2 => (hb W' pn xe h1 h2).canon) (fun a oe cls d pn hz hfl => ⟨fun pins s σ H E I h => (hsu a oe pn).canon.run pins s σ H E I h⟩), fun B G0 G H σ env E c po => ?_⟩
  refine ⟨B, G, G, env, c.base, ?_⟩
  unfold sTryOnly at po
  cases o : gb env with
  | no => rw [o] at po; exact po
  | nx e => rw [o] at po; exact fun σ' H' G' s c' => po σ' H' G' s (c.unbase c')
  | rt d => rw [o] at po; exact fun v σ' H' G' e s c' r => po v σ' H' G' e s (c.unbase c') r
  | bk e => rw [o] at po; exact fun σ' H' G' s c' => po σ' H' G' s (c.unbase c')
  | ct e => rw [o] at po; exact fun σ' H' G' s c' => po σ' H' G' s (c.unbase c')
  | ex n e =>
    rw [o] at po
    simp only at po
    by_cases hn : n = C
    · rw [if_pos hn] at po
      subst hn
      intro cls σ' H' G' hm2 c'
      rw [hm] at hm2
      cases hm2
      refine ⟨true, hex, fun _ a ha => ⟨B, G', G', _, c'.base, ?_⟩, fun h => by cases h⟩
      cases q : gs e with
      | rt d =>
        rw [q] at po
        intro v σ2 H2 G2 e2 s2 c2 r2
        have c3 := c.unbase (c'.unbase (c'.base.unbase c2))
        exact po v σ2 H2 G2 e2 (c'.ex0.trans s2) c3 r2
      | no => rw [q] at po; exact po.elim
      | nx e => rw [q] at po; exact po.elim
      | bk e => rw [q] at po; exact po.elim
      | ct e => rw [q] at po; exact po.elim
      | ex _ _ => rw [q] at po; exact po.elim
    · rw [if_neg hn] at po
      exact po.elim
end
end DL

namespace DL
open PySem PySem.Spec PyProof.Rows L2
/-! ### a op b op' c -/
@[simp] def xChain (h h' : D → D → Option D) (f g k : DEnv → M D) : DEnv → M D := fun env => (f env).bind fun a => (g env).bind fun b => (M.of (h a b)).bind fun d => match d with
  | .bl true => (k env).bind fun c => M.of (h' b c)
  | .bl false => .ok (.bl false)
  | _ => .no
section
variable {X : Cx} {W : WX} {a b c : Expr} {f g k : DEnv → M D} {pos : Pos}
theorem RdE.chain {K : KW} {mg : Str → Option Value} {ta tb tc : TE} {r r' : R2} {h h' : D → D → Option D} (ha : RdE K mg W ta f) (hb : RdE K mg W tb g) (hc : RdE K mg W tc k) (hr : OpD K r h) (hr' : OpD K r' h') : RdE K mg W (tChain r r' ta tb tc) (xChain h h' f g k) := by
  intro B G0 G H σ env Q c p
  refine ha B G0 G H σ env _ c ?_
  simp only [xChain] at p
  cases e : f env with
  | no => rw [e] at p; exact p
  | ex n => rw [e] at p; exact p
  | ok a =>
    rw [e] at p
    simp only [M.bind] at p
    intro v1 H1 G1 s1 c1 r1
    refine hb B G0 G1 H1 σ env _ c1 ?_
    cases e2 : g env with
    | no => rw [e2] at p; exact p
    | ex n => rw [e2] at p; exact p
    | ok b =>
      rw [e2] at p
      simp only [M.bind] at p
      intro v2 H2 G2 s2 c2 r2
      cases e3 : h a b with
      | none => rw [e3] at p; exact p.elim
      | some d =>
        rw [e3] at p
        simp only [M.of, M.bind] at p
        refine hr _ _ _ _ _ _ _ _ _ _ _ _ c2 (r1.up s2) r2 e3 fun v H' G' s c' r' => ?_
        cases d with
        | bl t =>
          cases r'
          refine ⟨t, rfl, ?_⟩
          cases t with
          | false =>
            rw [if_neg (by decide)]
            exact p _ H' G' ((s1.trans s2).trans s) c' (.bl false)
          | true =>
            rw [if_pos rfl]
            simp only at p
            refine hc B G0 G' H' σ env _ c' ?_
            cases e4 : k env with
            | no => rw [e4] at p; exact p
            | ex n => rw [e4] at p; intro cls H3 G3 hm c3; exact p cls H3 G3 hm c3
            | ok d3 =>
              rw [e4] at p
              simp only [M.bind] at p
              intro v3 H3 G3 s3 c3 r3
              cases e5 : h' b d3 with
              | none => rw [e5] at p; exact p.elim
              | some d5 =>
                rw [e5] at p
                simp only [M.of] at p
                exact hr' _ _ _ _ _ _ _ _ _ _ _ _ c3 (r2.up (s.trans s3)) r3 e5 fun v H4 G4 s4 c4 r4 => p v H4 G4 ((((s1.trans s2).trans s).trans s3).trans s4) c4 r4
        | _ => exact p.elim
theorem dt_chain {op op' : CmpOp} {h h' : D → D → Option D} (ho : OpX X (compareOp op) h) (ho' : OpX X (compareOp op') h') (ha : DE X W a f) (hb : DE X W b g) (hc : DE X W c k)
    (hm : lastMarks [op, op'] [b, c] = false := by with_unfolding_all rfl) : DT X W (.Compare a [op, op'] [b, c] pos) (tE (xChain h h' f g k)) := by
  obtain ⟨r, o1, o2⟩ := ho.ex
  obtain ⟨r', o1', o2'⟩ := ho'.ex
  obtain ⟨ta, a1, a2⟩ := ha.ex
  obtain ⟨tb, b1, b2⟩ := hb.ex
  obtain ⟨tc, c1, c2⟩ := hc.ex
  exact ⟨_, pt_chain o1 o1' a1 b1 c1 hm, (RdE.chain a2 b2 c2 o2 o2').test⟩
end
/-! ### parts of tuples, tuples n times -/
def slcTD (lo hi : Option Int) : D → Option D
  | .tup xs => some (.tup (cutL xs lo hi))
  | _ => none
@[simp] def xCutT (f : DEnv → M D) (l u : DEnv → M (Option Int)) (env : DEnv) : M D := (f env).bind fun d => (l env).bind fun x => (u env).bind fun y => .of (slcTD x y d)
section
variable {X : Cx} {W : WX} {e : Expr} {f : DEnv → M D} {pos : Pos}
theorem cutL_whole {α : Type} {xs : List α} {lo hi : Option Int} (h : HT.sIx xs.length 0 lo = 0 ∧ HT.sIx xs.length xs.length hi = xs.length) : cutL xs lo hi = xs := by
  unfold cutL
  rw [h.1, h.2]
  simp
theorem de_sliceT {lo hi : Option Expr} {l u : DEnv → M (Option Int)} {p2 : Pos} (he : DE X W e f) (hl : DO X W lo l) (hu : DO X W hi u) : DE X W (.Subscript e (.Slice lo hi none p2) pos) (xCutT f l u) := by
  obtain ⟨_, a1, a2⟩ := he.ex
  obtain ⟨_, b1, b2⟩ := hl.ex
  obtain ⟨_, c1, c2⟩ := hu.ex
  refine ⟨_, pe_slice sl_tupA a1 b1 c1, fun B G0 G H σ env Q c p => ?_⟩
  refine a2 B G0 G H σ env _ c ?_
  simp only [xCutT] at p
  cases o : f env with
  | no => rw [o] at p; exact p
  | ex n => rw [o] at p; exact p
  | ok d =>
    rw [o] at p
    intro v H1 G1 s1 k1 r1
    refine b2 B G0 G1 H1 σ env _ k1 ?_
    simp only [M.bind] at p
    cases o2 : l env with
    | no => rw [o2] at p; exact p
    | ex n => rw [o2] at p; exact p
    | ok x =>
      rw [o2] at p
      intro H2 G2 s2 k2
      refine c2 B G0 G2 H2 σ env _ k2 ?_
      simp only [M.bind] at p
      cases o3 : u env with
      | no => rw [o3] at p; exact p
      | ex n => rw [o3] at p; exact p
      | ok y =>
        rw [o3] at p
        intro H3 G3 s3 k3
        have r3 := (r1.up s2).up s3
        have ss := (s1.trans s2).trans s3
        simp only [M.bind] at p
        cases q : slcTD x y d with
        | none => rw [q] at p; exact p.elim
        | some z =>
          rw [q] at p
          unfold slcTD at q
          split at q
          · cases q
            cases r3 with
            | tup g1 g2 =>
              refine ⟨_, _, rfl, .inl (.inl (k3.exG _ _ g1)), fun hz => ?_, fun hz q hq => ?_⟩
              · rw [g2.length] at hz
                rw [cutL_whole hz] at p
                exact p _ H3 G3 ss k3 (.tup g1 g2)
              · have gq := k3.exG.free hq
                exact p _ _ (upd G3 q _) (ss.trans (same_upd gq)) (k3.laid hq) (.tup upd_same ((g2.cut x y).up (same_upd gq)))
          · cases q
def mulTD : D → D → Option D
  | .tup xs, .int k => if xs ≠ [] ∧ 2 ≤ k ∧ k ≤ 1000 ∧ xs.length ≤ 1000 then some (.tup (List.replicate k.toNat xs).flatten) else none
  | _, _ => none
theorem Reps.repl {K : KW} {G : Hp} {vs : List V} {ds : List D} (r : Reps K G vs ds) : ∀ n : Nat, Reps K G (List.replicate n vs).flatten (List.replicate n ds).flatten
  | 0 => .nil
  | n + 1 => by
    rw [List.replicate_succ, List.replicate_succ, List.flatten_cons, List.flatten_cons]
    exact r.append (Reps.repl r n)
theorem ox_mulT : OpX X (binaryOp .Mult) mulTD := by
  refine ⟨_, op_repT, ?_⟩
  intro B G0 G H σ env x y a b d Q c ra rb e k
  unfold mulTD at e
  split at e
  · split at e
    · rename_i hc
      cases e
      cases rb
      cases ra with
      | tup g1 g2 =>
        have gl := g2.length
        refine ⟨_, _, _, rfl, rfl, .inl (.inl (c.exG _ _ g1)), fun z => hc.1 (List.eq_nil_of_length_eq_zero (by rw [← gl, z]; rfl)), hc.2.1, hc.2.2.1, by rw [gl]; exact hc.2.2.2, fun p hp => ?_⟩
        have gp := c.exG.free hp
        exact k _ _ (upd G p _) (same_upd gp) (c.laid hp) (.tup upd_same ((g2.repl _).up (same_upd gp)))
    · cases e
  · cases e
end
end DL

namespace DL
open PySem PySem.Spec PyProof.Rows L2
/-! ### a list of dicts -/
abbrev WtM := List (List (D × D))
/-- at p stands a list of dicts, held by nobody else; B: the heap without them, BN: with them -/
structure NsM (K : KW) (B BN G : Hp) (p : Addr) (wt : WtM) : Prop where
  ex : ∃ qs : List Addr, (p :: qs).Nodup ∧ (∀ a, a ∉ p :: qs → BN a = B a) ∧ (∀ a ∈ p :: qs, B a = none ∧ G a = none) ∧ BN p = some (.lst (qs.map V.ref)) ∧ qs.length = wt.length ∧ ∀ (i : Nat) (q : Addr) (kvs : List (D × D)), qs[i]? = some q → wt[i]? = some kvs → ∃ xs, BN q = some (DicO K.w q xs) ∧ Paired (KRel K G) xs kvs
section
variable {K : KW} {B BN G0 G G' H H' : Hp} {σ σ' : L2.St} {env env' : DEnv} {p : Addr} {wt : WtM}
theorem NsM.base (n : NsM K B BN G p wt) : Same B BN := fun a x e => by
  obtain ⟨qs, h1, h2, h3, _⟩ := n.ex
  by_cases h : a ∈ p :: qs
  · rw [(h3 a h).1] at e; cases e
  · rw [h2 a h]; exact e
theorem NsM.up (n : NsM K B BN G p wt) (c : Cn K BN G0 G σ H env) (s : Same G G') (c' : Cn K BN G0 G' σ' H' env') : NsM K B BN G' p wt := by
  obtain ⟨qs, h1, h2, h3, h4, h5, h6⟩ := n.ex
  have some_of : ∀ a ∈ p :: qs, BN a ≠ none := fun a ha => by
    rcases List.mem_cons.mp ha with rfl | ha
    · rw [h4]; intro z; cases z
    · obtain ⟨i, hi⟩ := List.mem_iff_getElem?.mp ha
      have hl := (List.getElem?_eq_some_iff.mp hi).1
      obtain ⟨vs, e, _⟩ := h6 i a _ hi (List.getElem?_eq_getElem (by omega))
      rw [e]; intro z; cases z
  refine ⟨qs, h1, h2, fun a ha => ⟨(h3 a ha).1, ?_⟩, h4, h5, fun i q ds a b => ?_⟩
  · cases z : G' a with
    | none => rfl
    | some w =>
      rcases c'.new a (by rw [z]; intro k; cases k) with k | k
      · cases y : G0 a with
        | none => exact absurd y k
        | some x =>
          have := c.ex0 _ _ y
          rw [(h3 a ha).2] at this
          cases this
      · exact absurd k (some_of a ha)
  · obtain ⟨vs, e, r⟩ := h6 i q ds a b
    exact ⟨vs, e, L2.Paired.mapP r fun _ _ z => z.up s⟩
theorem NsM.one {G : Hp} {q : Addr} {xs : List Ent} {kvs : List (D × D)} (bq : B q = none) (bp : B p = none) (gq : G q = none) (gp : G p = none) (ne : p ≠ q) (r : Paired (KRel K G) xs kvs) : NsM K B (L2.upd (L2.upd B q (DicO K.w q xs)) p (.lst [.ref q])) G p [kvs] := by
  refine ⟨[q], by simp [ne], fun a ha => ?_, fun a ha => ?_, upd_same, rfl, fun i q' ds' h1 h2 => ?_⟩
  · simp only [List.mem_cons, List.not_mem_nil, or_false, not_or] at ha
    rw [upd_ne ha.1, upd_ne ha.2]
  · simp only [List.mem_cons, List.not_mem_nil, or_false] at ha
    rcases ha with rfl | rfl
    · exact ⟨bp, gp⟩
    · exact ⟨bq, gq⟩
  · cases i with
    | zero =>
      simp at h1 h2
      subst h1 h2
      exact ⟨xs, by rw [upd_ne (Ne.symm ne), upd_same], r⟩
    | succ i => simp at h1
theorem NsM.push (n : NsM K B BN G p wt) (c : Cn K BN G0 G σ H env) {q : Addr} (hq : H q = none) : ∃ qs : List Addr, BN p = some (.lst (qs.map V.ref)) ∧ qs.length = wt.length ∧ q ≠ p ∧ NsM K B (L2.upd (L2.upd BN q (DicO K.w q [])) p (.lst (qs.map V.ref ++ [.ref q]))) G p (wt ++ [[]]) := by
  obtain ⟨qs, h1, h2, h3, h4, h5, h6⟩ := n.ex
  have bq : BN q = none := c.exB.free hq
  have ne : q ≠ p := fun z => by rw [z, h4] at bq; cases bq
  have nm : q ∉ qs := fun z => by
    obtain ⟨i, hi⟩ := List.mem_iff_getElem?.mp z
    have hl := (List.getElem?_eq_some_iff.mp hi).1
    obtain ⟨vs, e, _⟩ := h6 i q _ hi (List.getElem?_eq_getElem (by omega))
    rw [bq] at e; cases e
  have np : p ∉ qs := (List.nodup_cons.mp h1).1
  refine ⟨qs, h4, h5, ne, qs ++ [q], ?_, fun a ha => ?_, fun a ha => ?_, by rw [upd_same, List.map_append]; rfl, by simp [h5], fun i q' ds' e1 e2 => ?_⟩
  · rw [List.nodup_cons] at h1 ⊢
    refine ⟨fun z => ?_, ?_⟩
    · rcases List.mem_append.mp z with z | z
      · exact h1.1 z
      · rw [List.mem_singleton] at z; exact ne z.symm
    · rw [List.nodup_append]
      exact ⟨h1.2, by simp, fun a ha b hb z => by
        rw [List.mem_singleton] at hb
        subst hb
        subst z
        exact nm ha⟩
  · simp only [List.mem_cons, List.mem_append, List.not_mem_nil, or_false, not_or] at ha
    rw [upd_ne ha.1, upd_ne ha.2.2]
    exact h2 a (by simp [ha.1, ha.2.1])
  · by_cases z : a = q
    · subst z
      exact ⟨n.base.free bq, c.exG.free hq⟩
    · refine h3 a ?_
      rcases List.mem_cons.mp ha with e | e
      · rw [e]; exact List.mem_cons_self
      · rcases List.mem_append.mp e with e | e
        · exact List.mem_cons_of_mem _ e
        · exact absurd (List.mem_singleton.mp e) z
  · by_cases hi : i < qs.length
    · rw [List.getElem?_append_left hi] at e1
      rw [List.getElem?_append_left (by omega)] at e2
      obtain ⟨vs, e, r⟩ := h6 i q' ds' e1 e2
      have m := List.mem_of_getElem? e1
      have n1 : q' ≠ p := fun z => by subst z; exact np m
      have n2 : q' ≠ q := fun z => by subst z; exact nm m
      exact ⟨vs, by rw [upd_ne n1, upd_ne n2]; exact e, r⟩
    · rw [List.getElem?_append_right (by omega)] at e1 e2
      have i0 : i - qs.length = 0 := by
        have := (List.getElem?_eq_some_iff.mp e1).1
        simp at this
        omega
      rw [i0] at e1
      rw [show i - wt.length = 0 by omega] at e2
      simp at e1 e2
      subst e1 e2
      exact ⟨[], by rw [upd_ne ne, upd_same], .nil⟩
theorem NsM.at (n : NsM K B BN G p wt) {i : Int} {kvs : List (D × D)} (h : atI wt i = some kvs) : ∃ (k : Nat) (qs : List Addr) (q : Addr) (xs : List Ent), BN p = some (.lst (qs.map V.ref)) ∧ ixN wt.length i = some k ∧ wt[k]? = some kvs ∧ atI (qs.map V.ref) i = some (.ref q) ∧ BN q = some (DicO K.w q xs) ∧ Paired (KRel K G) xs kvs ∧ q ≠ p ∧ G q = none ∧
    ∀ (xs' : List Ent) (kvs' : List (D × D)), Paired (KRel K G) xs' kvs' → NsM K B (L2.upd BN q (DicO K.w q xs')) G p (wt.set k kvs') := by
  obtain ⟨qs, h1, h2, h3, h4, h5, h6⟩ := n.ex
  unfold atI at h
  cases hk : ixN wt.length i with
  | none => rw [hk] at h; cases h
  | some k =>
    rw [hk] at h
    have h : wt[k]? = some kvs := h
    have hl := (List.getElem?_eq_some_iff.mp h).1
    obtain ⟨q0, hq⟩ : ∃ q0, qs[k]? = some q0 := ⟨_, List.getElem?_eq_getElem (by omega)⟩
    obtain ⟨vs, e, r⟩ := h6 k _ kvs hq h
    have m := List.mem_of_getElem? hq
    have np : p ∉ qs := (List.nodup_cons.mp h1).1
    have nq : q0 ≠ p := fun z => np (z ▸ m)
    refine ⟨k, qs, q0, vs, h4, rfl, h, ?_, e, r, nq, (h3 _ (List.mem_cons_of_mem _ m)).2, fun xs' kvs' rv => ⟨qs, h1, fun a ha => ?_, h3, by rw [upd_ne (Ne.symm nq)]; exact h4, by simp [h5], fun j q' ds' e1 e2 => ?_⟩⟩
    · unfold atI
      rw [List.length_map, h5, hk]
      show (qs.map V.ref)[k]? = _
      rw [List.getElem?_map, hq]
      rfl
    · have ne : a ≠ q0 := fun z => by
        subst z
        exact ha (List.mem_cons_of_mem _ m)
      rw [upd_ne ne]
      exact h2 a ha
    · by_cases hj : k = j
      · subst hj
        rw [List.getElem?_set_self hl] at e2
        rw [hq] at e1
        cases e1
        cases e2
        exact ⟨_, upd_same, rv⟩
      · rw [List.getElem?_set_ne hj] at e2
        obtain ⟨vs', e', r'⟩ := h6 j q' ds' e1 e2
        have ne : q' ≠ q0 := fun z => by
          have nd := (List.nodup_cons.mp h1).2
          obtain ⟨hj1, hj2⟩ := List.getElem?_eq_some_iff.mp e1
          obtain ⟨hk1, hk2⟩ := List.getElem?_eq_some_iff.mp hq
          have := (List.pairwise_iff_getElem.mp nd)
          rcases Nat.lt_trichotomy j k with y | y | y
          · exact this j k hj1 hk1 y (hj2.trans (z.trans hk2.symm))
          · exact hj y.symm
          · exact this k j hk1 hj1 y (hk2.trans (z.symm.trans hj2.symm))
        exact ⟨vs', by rw [upd_ne ne]; exact e', r'⟩
/-- behind a new thing -/
theorem Cn.rebase {o : HO} (c0 : Cn K B G0 G σ H env) (gp : G p = none) (c1 : Cn K (L2.upd B p o) G G' σ' H' env') : Cn K (L2.upd B p o) G0 G' σ' H' env' where
  len := c1.len
  exB := c1.exB
  exG := c1.exG
  ex0 := c0.ex0.trans c1.ex0
  new := fun a h => by
    rcases c1.new a h with z | z
    · have ne : a ≠ p := fun y => by subst y; exact z gp
      rcases c0.new a z with y | y
      · exact .inl y
      · exact .inr (by rw [upd_ne ne]; exact y)
    · exact .inr z
  cel := c1.cel
  sep := c1.sep
end
/-! ### statements beside it -/
inductive DOut3 where
  | nx (w : WtM) (env : DEnv) | rt (d : D) (w : WtM) | bk (w : WtM) (env : DEnv) | ct (w : WtM) (env : DEnv) | no
abbrev DStm3 := WtM → DEnv → DOut3
@[simp] def M.to3 {α : Type} (k : α → DOut3) : M α → DOut3
  | .ok a => k a
  | _ => .no
@[simp] def DOut3.then (u : DStm3) : DOut3 → DOut3
  | .nx w e => u w e
  | .rt d w => .rt d w
  | .bk w e => .bk w e
  | .ct w e => .ct w e
  | .no => .no
@[simp] def sNext3 : DStm3 := fun w e => .nx w e
@[simp] def sCont3 : DStm3 := fun w e => .ct w e
@[simp] def sSeq3 (a b : DStm3) : DStm3 := fun w e => (a w e).then b
@[simp] def sIf3 (t : WtM → DEnv → M Bool) (a b : DStm3) : DStm3 := fun w e => (t w e).to3 fun c => if c = true then a w e else b w e
def dWhile3 (t : WtM → DEnv → M Bool) (body : DStm3) : Nat → DStm3
  | 0, _, _ => .no
  | n + 1, w, e => match t w e with
    | .ok false => .nx w e
    | .ok true => match body w e with
      | .nx w' e' => dWhile3 t body n w' e'
      | .ct w' e' => dWhile3 t body n w' e'
      | .bk w' e' => .nx w' e'
      | .rt d w' => .rt d w'
      | .no => .no
    | _ => .no
def dLoop3 (tg : DTgt) (body : DStm3) : List D → DStm3
  | [], w, e => .nx w e
  | d :: ds, w, e => match tg d e with
    | none => .no
    | some e => match body w e with
      | .nx w' e' => dLoop3 tg body ds w' e'
      | .ct w' e' => dLoop3 tg body ds w' e'
      | .bk w' e' => .nx w' e'
      | .rt d w' => .rt d w'
      | .no => .no
@[simp] def sFor3 (it : DEnv → M (List D)) (tg : DTgt) (body : DStm3) : DStm3 := fun w e => (it e).to3 fun ds => dLoop3 tg body ds w e
open Classical in
/-- a statement that leaves the list alone -/
@[simp] noncomputable def sLiftM (iw : Nat) (g : DStm) : DStm3 := fun w env => match g env with
  | .nx e => if e[iw]? = env[iw]? then .nx w e else .no
  | .rt d => .rt d w
  | .bk e => if e[iw]? = env[iw]? then .bk w e else .no
  | .ct e => if e[iw]? = env[iw]? then .ct w e else .no
  | .ex _ _ => .no
  | .no => .no
@[simp] def sSet3 (i : Nat) (f : WtM → DEnv → M D) : DStm3 := fun w env => (f w env).to3 fun d => .nx w (env.set i (.dat d))
@[simp] def xLen0M : WtM → DEnv → M D := fun w _ => .ok (.int w.length)
@[simp] def xOp3 (h : D → D → Option D) (f g : WtM → DEnv → M D) : WtM → DEnv → M D := fun w env => (f w env).bind fun a => (g w env).bind fun b => .of (h a b)
@[simp] def tE3 (f : WtM → DEnv → M D) : WtM → DEnv → M Bool := fun w env => (f w env).bind asB
def PoS3 (K : KW) (B G0 G : Hp) (iw : Nat) (p : Addr) (E : Ends) : DOut3 → Prop
  | .nx w e => ∀ σ H G' BN, Same G G' → Cn K BN G0 G' σ H e → NsM K B BN G' p w → e[iw]? = some (.exc p) → E.nx σ H
  | .rt d w => ∀ v σ H G' BN e, Same G G' → Cn K BN G0 G' σ H e → NsM K B BN G' p w → Rep K G' v d → E.rt v H
  | .bk w e => ∀ σ H G' BN, Same G G' → Cn K BN G0 G' σ H e → NsM K B BN G' p w → e[iw]? = some (.exc p) → E.bk σ H
  | .ct w e => ∀ σ H G' BN, Same G G' → Cn K BN G0 G' σ H e → NsM K B BN G' p w → e[iw]? = some (.exc p) → E.ct σ H
  | .no => False
theorem PoS3.up {K : KW} {B G0 G G1 : Hp} {iw : Nat} {p : Addr} {E : Ends} {o : DOut3} (s : Same G G1) (h : PoS3 K B G0 G iw p E o) : PoS3 K B G0 G1 iw p E o := by
  cases o with
  | nx w e => exact fun σ H G' BN s' => h σ H G' BN (s.trans s')
  | rt d w => exact fun v σ H G' BN e s' => h v σ H G' BN e (s.trans s')
  | bk w e => exact fun σ H G' BN s' => h σ H G' BN (s.trans s')
  | ct w e => exact fun σ H G' BN s' => h σ H G' BN (s.trans s')
  | no => exact h
def RdS3 (K : KW) (iw : Nat) (ts : TS) (g : DStm3) : Prop :=
  ∀ B BN G0 G H σ env p w E, Cn K BN G0 G σ H env → NsM K B BN G p w → env[iw]? = some (.exc p) → PoS3 K B G0 G iw p E (g w env) → ts E σ H
def RdE3 (K : KW) (mg : Str → Option Value) (W : WX) (iw : Nat) (te : TE) (f : WtM → DEnv → M D) : Prop :=
  ∀ B BN G0 G H σ env p w Q, Cn K BN G0 G σ H env → NsM K B BN G p w → env[iw]? = some (.exc p) → PoE K mg W BN G0 G σ env Q (f w env) → te σ H Q
def RdT3 (K : KW) (mg : Str → Option Value) (W : WX) (iw : Nat) (tt : TT) (f : WtM → DEnv → M Bool) : Prop :=
  ∀ B BN G0 G H σ env p w Q, Cn K BN G0 G σ H env → NsM K B BN G p w → env[iw]? = some (.exc p) → PoT K mg W BN G0 G σ env Q (f w env) → tt σ H Q
structure DS3 (X : Cx) (W : WX) (iw : Nat) (st : Stmt) (g : DStm3) : Prop where
  ex : ∃ ts, PS X st ts ∧ RdS3 (kw X) iw ts g
structure DSs3 (X : Cx) (W : WX) (iw : Nat) (st : List Stmt) (g : DStm3) : Prop where
  ex : ∃ ts, PSs X st ts ∧ RdS3 (kw X) iw ts g
structure DE3 (X : Cx) (W : WX) (iw : Nat) (e : Expr) (f : WtM → DEnv → M D) : Prop where
  ex : ∃ te, PE X e te ∧ RdE3 (kw X) X.mg W iw te f
structure DT3 (X : Cx) (W : WX) (iw : Nat) (e : Expr) (f : WtM → DEnv → M Bool) : Prop where
  ex : ∃ te, PT X e te ∧ RdT3 (kw X) X.mg W iw te f
section
variable {X : Cx} {W : WX} {iw : Nat} {st : Stmt} {rest body : List Stmt} {a b : DStm3} {g : DStm} {e e1 e2 tg iter : Expr} {f : DEnv → M D} {pos p : Pos}
theorem ds3_lift (h : DS X W st g) : DS3 X W iw st (sLiftM iw g) := by
  obtain ⟨ts, a1, a2⟩ := h.ex
  refine ⟨ts, a1, fun B BN G0 G H σ env p w E c n hp po => ?_⟩
  refine a2 BN G0 G H σ env E c ?_
  simp only [sLiftM] at po
  cases o : g env with
  | nx e =>
    rw [o] at po
    simp only at po
    by_cases h : e[iw]? = env[iw]?
    · rw [if_pos h] at po
      exact fun σ' H' G' s c' => po σ' H' G' BN s c' (n.up c s c') (h.trans hp)
    · rw [if_neg h] at po; exact po.elim
  | rt d => rw [o] at po; exact fun v σ' H' G' e s c' r => po v σ' H' G' BN e s c' (n.up c s c') r
  | bk e =>
    rw [o] at po
    simp only at po
    by_cases h : e[iw]? = env[iw]?
    · rw [if_pos h] at po
      exact fun σ' H' G' s c' => po σ' H' G' BN s c' (n.up c s c') (h.trans hp)
    · rw [if_neg h] at po; exact po.elim
  | ct e =>
    rw [o] at po
    simp only at po
    by_cases h : e[iw]? = env[iw]?
    · rw [if_pos h] at po
      exact fun σ' H' G' s c' => po σ' H' G' BN s c' (n.up c s c') (h.trans hp)
    · rw [if_neg h] at po; exact po.elim
  | ex c e => rw [o] at po; exact po.elim
  | no => rw [o] at po; exact po.elim
theorem dss3_nil : DSs3 X W iw [] sNext3 := ⟨_, pss_nil, fun B BN G0 G H σ env p w E c n hp po => po σ H G BN (Same.refl G) c n hp⟩
theorem dss3_cons (h1 : DS3 X W iw st a) (h2 : DSs3 X W iw rest b) : DSs3 X W iw (st :: rest) (sSeq3 a b) := by
  obtain ⟨t, a1, a2⟩ := h1.ex
  obtain ⟨u, b1, b2⟩ := h2.ex
  refine ⟨_, pss_cons a1 b1, fun B BN G0 G H σ env p w E c n hp po => ?_⟩
  refine a2 B BN G0 G H σ env p w _ c n hp ?_
  simp only [sSeq3] at po
  cases o : a w env with
  | nx w' e =>
    rw [o] at po
    intro σ' H' G' BN' s c' n' hp'
    exact b2 B BN' G0 G' H' σ' e p w' E c' n' hp' (po.up s)
  | rt d w' => rw [o] at po; exact po
  | bk w' e => rw [o] at po; exact po
  | ct w' e => rw [o] at po; exact po
  | no => rw [o] at po; exact po
theorem dss3_one (h1 : DS3 X W iw st a) : DSs3 X W iw [st] a := by
  obtain ⟨t, a1, a2⟩ := h1.ex
  exact ⟨_, pss_one a1, a2⟩
theorem ds3_cont : DS3 X W iw (.Continue pos) sCont3 := ⟨_, ps_continue, fun B BN G0 G H σ env p w E c n hp po => po σ H G BN (Same.refl G) c n hp⟩
theorem ds3_if {c : Expr} {t : WtM → DEnv → M Bool} {as bs : List Stmt} (hc : DT3 X W iw c t) (ha : DSs3 X W iw as a) (hb : DSs3 X W iw bs b) : DS3 X W iw (.If c as bs pos) (sIf3 t a b) := by
  obtain ⟨_, c1, c2⟩ := hc.ex
  obtain ⟨_, a1, a2⟩ := ha.ex
  obtain ⟨_, b1, b2⟩ := hb.ex
  refine ⟨_, ps_if c1 a1 b1, fun B BN G0 G H σ env p w E c n hp po => ?_⟩
  refine c2 B BN G0 G H σ env p w _ c n hp ?_
  simp only [sIf3] at po
  cases o : t w env with
  | no => rw [o] at po; exact po
  | ex k => rw [o] at po; exact po.elim
  | ok k =>
    rw [o] at po
    intro H1 G1 s1 c1
    cases k with
    | true => exact iteT (a2 B BN G0 G1 H1 σ env p w E c1 (n.up c s1 c1) hp (PoS3.up s1 po))
    | false => exact iteF (b2 B BN G0 G1 H1 σ env p w E c1 (n.up c s1 c1) hp (PoS3.up s1 po))
theorem ds3_while (m : Nat) {c : Expr} {t : WtM → DEnv → M Bool} (hp : PassesOwn (model X.prog X.w) X.A X.env X.xe) (hc : DT3 X W iw c t) (hb : DSs3 X W iw body a) : DS3 X W iw (.While c body [] pos) (dWhile3 t a m) := by
  obtain ⟨tc, c1, c2⟩ := hc.ex
  obtain ⟨tb, b1, b2⟩ := hb.ex
  refine ⟨_, ps_while hp c1 b1, fun B BN G0 G H σ env p w E c n hq po => ?_⟩
  refine ⟨fun m σ H => ∃ env G BN w, Cn (kw X) BN G0 G σ H env ∧ NsM (kw X) B BN G p w ∧ env[iw]? = some (.exc p) ∧ PoS3 (kw X) B G0 G iw p E (dWhile3 t a m w env), ⟨m, env, G, BN, w, c, n, hq, po⟩, ?_⟩
  rintro m σ1 H1 ⟨env1, G1, BN1, w1, c1, n1, hq1, p1⟩
  cases m with
  | zero => exact (show False from p1).elim
  | succ m =>
    unfold dWhile3 at p1
    refine c2 B BN1 G0 G1 H1 σ1 env1 p w1 _ c1 n1 hq1 ?_
    cases o : t w1 env1 with
    | no => rw [o] at p1; exact p1
    | ex k => rw [o] at p1; exact p1.elim
    | ok k =>
      rw [o] at p1
      intro H2 G2 s2 c2
      have n2 := n1.up c1 s2 c2
      cases k with
      | false => exact iteF (p1 σ1 H2 G2 BN1 s2 c2 n2 hq1)
      | true =>
        refine iteT ⟨fun σ' H' => ∃ env G BN w, Cn (kw X) BN G0 G σ' H' env ∧ NsM (kw X) B BN G p w ∧ env[iw]? = some (.exc p) ∧ PoS3 (kw X) B G0 G iw p E (dWhile3 t a m w env), fun σ' H' x => ⟨m, Nat.lt_succ_self m, x⟩, ?_⟩
        refine b2 B BN1 G0 G2 H2 σ1 env1 p w1 _ c2 n2 hq1 ?_
        have p2 := PoS3.up s2 p1
        simp only at p2
        cases q : a w1 env1 with
        | nx w' e' => rw [q] at p2; exact fun σ5 H5 G5 BN5 s5 c5 n5 h5 => ⟨e', G5, BN5, w', c5, n5, h5, PoS3.up s5 p2⟩
        | ct w' e' => rw [q] at p2; exact fun σ5 H5 G5 BN5 s5 c5 n5 h5 => ⟨e', G5, BN5, w', c5, n5, h5, PoS3.up s5 p2⟩
        | bk w' e' => rw [q] at p2; exact p2
        | rt d w' => rw [q] at p2; exact p2
        | no => rw [q] at p2; exact p2
theorem ds3_for {it : DEnv → M (List D)} {t : DTgt} {is : List Nat} (hp : PassesOwn (model X.prog X.w) X.A X.env X.xe) (hc : X.calm = true) (hi : DI X W tg iter it) (hg : DG X is tg t) (hb : DSs3 X W iw body a) (hw : iw ∉ is := by decide)
    (hs : ∀ x, foldedSetIterable iter X.env x = pure x := by intro _; rfl) : DS3 X W iw (.For tg iter body [] pos) (sFor3 it t a) := by
  obtain ⟨wi, i1, i2⟩ := hi.ex
  obtain ⟨g, g1, g2⟩ := hg.ex
  obtain ⟨tb, b1, b2⟩ := hb.ex
  refine ⟨_, ps_for hp hc i1 g1 b1 hs, fun B BN G0 G H σ env p w E c n hq po => ?_⟩
  refine i2 BN G0 G H σ env _ c ?_
  simp only [sFor3] at po
  cases o : it env with
  | no => rw [o] at po; exact po
  | ex n => rw [o] at po; exact po.elim
  | ok ds =>
    rw [o] at po
    intro J H1 G1 s1 c1 jok
    have po : PoS3 (kw X) B G0 G1 iw p E (dLoop3 t a ds w env) := PoS3.up s1 po
    refine ⟨fun i m σ H => m = ds.length - i ∧ ∃ env G BN w, Same G1 G ∧ Cn (kw X) BN G0 G σ H env ∧ NsM (kw X) B BN G p w ∧ env[iw]? = some (.exc p) ∧ PoS3 (kw X) B G0 G iw p E (dLoop3 t a (ds.drop i) w env), ⟨ds.length, rfl, env, G1, BN, w, Same.refl _, c1, n.up c s1 c1, hq, by rw [List.drop_zero]; exact po⟩, ?_⟩
    rintro i m σ2 H2 ⟨rfl, env2, G2, BN2, w2, s2, c2, n2, hq2, p2⟩
    obtain ⟨j1, j2⟩ := jok BN2 G0 G2 σ2 H2 env2 i s2 c2
    by_cases hi : i < ds.length
    · have hd : ds[i]? = some ds[i] := List.getElem?_eq_getElem hi
      obtain ⟨go, yl⟩ := j1 _ hd
      rw [List.drop_eq_getElem_cons hi] at p2
      unfold dLoop3 at p2
      refine .inr ⟨go, fun σ' H' => ∃ env G BN w, Same G1 G ∧ Cn (kw X) BN G0 G σ' H' env ∧ NsM (kw X) B BN G p w ∧ env[iw]? = some (.exc p) ∧ PoS3 (kw X) B G0 G iw p E (dLoop3 t a (ds.drop (i + 1)) w env), fun σ' H' ⟨env', G', BN', w', x1, x2, x3, x4, x5⟩ => ⟨ds.length - (i + 1), by omega, rfl, env', G', BN', w', x1, x2, x3, x4, x5⟩, fun x H' y => ?_⟩
      obtain ⟨G3, s3, c3, r3⟩ := yl x H' y
      have n3 := n2.up c2 s3 c3
      cases k : t ds[i] env2 with
      | none => simp [k, PoS3] at p2
      | some e1 =>
        rw [k] at p2
        refine g2 c3 r3 k fun σ4 H4 G4 s4 c4 bt => ?_
        have n4 := n3.up c3 s4 c4
        have hq4 : e1[iw]? = some (.exc p) := (bt.2 iw hw).1.trans hq2
        refine b2 B BN2 G0 G4 H4 σ4 e1 p w2 _ c4 n4 hq4 ?_
        have p2 := PoS3.up (s3.trans s4) p2
        simp only at p2
        cases q : a w2 e1 with
        | nx w' e' =>
          rw [q] at p2
          exact fun σ5 H5 G5 BN5 s5 c5 n5 h5 => ⟨e', G5, BN5, w', ((s2.trans s3).trans s4).trans s5, c5, n5, h5, PoS3.up s5 p2⟩
        | ct w' e' =>
          rw [q] at p2
          exact fun σ5 H5 G5 BN5 s5 c5 n5 h5 => ⟨e', G5, BN5, w', ((s2.trans s3).trans s4).trans s5, c5, n5, h5, PoS3.up s5 p2⟩
        | bk w' e' => rw [q] at p2; exact p2
        | rt d w' => rw [q] at p2; exact p2
        | no => rw [q] at p2; exact p2
    · refine .inl ⟨j2 (by omega), ?_⟩
      rw [List.drop_of_length_le (by omega)] at p2
      exact p2 σ2 H2 G2 BN2 (Same.refl _) c2 n2 hq2
/-! ### expressions beside it -/
theorem de3_lift (h : DE X W e f) : DE3 X W iw e (fun _ => f) := by
  obtain ⟨te, a1, a2⟩ := h.ex
  exact ⟨te, a1, fun B BN G0 G H σ env p w Q c n hp po => a2 BN G0 G H σ env Q c po⟩
theorem dt3_lift {t : DEnv → M Bool} (h : DT X W e t) : DT3 X W iw e (fun _ => t) := by
  obtain ⟨te, a1, a2⟩ := h.ex
  exact ⟨te, a1, fun B BN G0 G H σ env p w Q c n hp po => a2 BN G0 G H σ env Q c po⟩
theorem RdE3.op {K : KW} {mg : Str → Option Value} {ta tb : TE} {f g : WtM → DEnv → M D} {r : R2} {h : D → D → Option D} (ha : RdE3 K mg W iw ta f) (hb : RdE3 K mg W iw tb g) (hr : OpD K r h) : RdE3 K mg W iw (tOp r ta tb) (xOp3 h f g) := by
  intro B BN G0 G H σ env p w Q c n hp po
  refine ha B BN G0 G H σ env p w _ c n hp ?_
  simp only [xOp3] at po
  cases e : f w env with
  | no => rw [e] at po; exact po
  | ex k => rw [e] at po; exact po
  | ok x =>
    rw [e] at po
    intro v1 H1 G1 s1 c1 r1
    refine hb B BN G0 G1 H1 σ env p w _ c1 (n.up c s1 c1) hp ?_
    simp only [M.bind] at po
    cases e2 : g w env with
    | no => rw [e2] at po; exact po
    | ex k => rw [e2] at po; exact po
    | ok y =>
      rw [e2] at po
      intro v2 H2 G2 s2 c2 r2
      simp only [M.bind] at po
      cases e3 : h x y with
      | none => rw [e3] at po; exact po.elim
      | some d =>
        rw [e3] at po
        exact hr _ _ _ _ _ _ _ _ _ _ _ _ c2 (r1.up s2) r2 e3 fun v H' G' s c' r' => po v H' G' ((s1.trans s2).trans s) c' r'
theorem RdE3.test {K : KW} {mg : Str → Option Value} {te : TE} {f : WtM → DEnv → M D} (h : RdE3 K mg W iw te f) : RdT3 K mg W iw (tTest te) (tE3 f) := by
  intro B BN G0 G H σ env p w Q c n hp po
  refine h B BN G0 G H σ env p w _ c n hp ?_
  simp only [tE3] at po
  cases e : f w env with
  | no => rw [e] at po; exact po
  | ex k => rw [e] at po; exact po
  | ok d =>
    rw [e] at po
    intro v H1 G1 s1 c1 r1
    cases d with
    | bl b =>
      cases r1
      exact ⟨b, rfl, po H1 G1 s1 c1⟩
    | non => exact po.elim
    | int _ => exact po.elim
    | str _ => exact po.elim
    | lst _ => exact po.elim
    | tup _ => exact po.elim
    | scr _ => exact po.elim
theorem dt3_cmp {op : CmpOp} {h : D → D → Option D} {f g : WtM → DEnv → M D} (ho : OpX X (compareOp op) h) (ha : DE3 X W iw e1 f) (hb : DE3 X W iw e2 g) (hm : behindInMarks op e2 = false) :
    DT3 X W iw (.Compare e1 [op] [e2] pos) (tE3 (xOp3 h f g)) := by
  obtain ⟨r, o1, o2⟩ := ho.ex
  obtain ⟨ta, a1, a2⟩ := ha.ex
  obtain ⟨tb, b1, b2⟩ := hb.ex
  exact ⟨_, pt_cmpR o1 a1 b1 hm, (RdE3.op a2 b2 o2).test⟩
/-- len(x), x the list of lists -/
theorem de3_len0 {x : Str} {px : Pos} (hm : X.mg "len" = none) (hg : Gl X "len" := by rfl) (hN : X.N[iw]? = some x := by rfl) (hv : Vis X.env.scope x := by first | exact Or.inl rfl | exact Or.inr (Or.inl rfl) | exact Or.inr (Or.inr rfl)) (hd : (x == ("__debug__" : Str)) = false := by decide)
    (hcd : (x == ("__classdict__" : Str)) = false := by decide) (hs : starEach [.Name x px] X.env = (false, eval (.Name x px) X.env) :: starEach [] X.env := by rfl) (hpl : (backTo pos (starEach [] X.env)).any (·.1) = false := by rfl) :
    DE3 X W iw (.Call (.Name "len" p) [.Name x px] [] pos) xLen0M := by
  refine ⟨_, pe_callB call_len_seq hg hm PySem.boot_len (pa_cons (pe_var hN hv hd hcd) pa_nil hs) (by decide) (by decide) hs hpl, fun B BN G0 G H σ env p w Q c n hp po => ?_⟩
  obtain ⟨qs, h1, h2, h3, h4, h5, h6⟩ := n.ex
  refine ⟨.ref p, slot_exc c hp, p, _, rfl, .inl (.inl (.inl (c.exB _ _ h4))), ?_⟩
  have := po (.int ((qs.map V.ref).length : Nat)) H G (Same.refl G) c (by
    rw [List.length_map, h5]
    exact .int _)
  exact this
end
end DL

namespace DL
open PySem PySem.Spec PyProof.Rows L2
/-! ### changes of the list of dicts -/
def rowAtM (w : WtM) : D → Option (List (D × D))
  | .int i => atI w i
  | _ => none
@[simp] noncomputable def sListM (i : Nat) (f : DEnv → M D) : DStm3 := fun w env => (f env).to3 fun a => (M.of (rowAtM w a)).to3 fun kvs => .nx w (env.set i (.own (kvs.map (·.1))))
@[simp] def sPushM : DStm3 := fun w env => if w.length < sizeLine then .nx (w ++ [[]]) env else .no
noncomputable def putRow (w : WtM) (a d v : D) : Option WtM := match a with
  | .int i => (ixN w.length i).bind fun k => (w[k]?).bind fun l => (putX l d v).map fun l' => w.set k l'
  | _ => none
@[simp] noncomputable def sPutAtM (f g h : DEnv → M D) : DStm3 := fun w env => (h env).to3 fun v => (f env).to3 fun a => (g env).to3 fun d => (M.of (putRow w a d v)).to3 fun w' => .nx w' env
section
variable {X : Cx} {W : WX} {iw : Nat} {e e1 e2 value : Expr} {f g h : DEnv → M D} {pos p : Pos}
/-- y = list(x[e]) -/
theorem ds3_list (i : Nat) {x y : Str} {px ps pos' : Pos} (hN' : X.N.Nodup) (hc : X.calm = true) (h : DE X W e f) (hm : X.mg "list" = none) (hw : iw ≠ i := by decide) (hsl : PlainIx e := by intro _ _; rfl) (hg : Gl X "list" := by rfl) (hN : X.N[iw]? = some x := by rfl) (hv : Vis X.env.scope x := by first | exact Or.inl rfl | exact Or.inr (Or.inl rfl) | exact Or.inr (Or.inr rfl)) (hd : (x == ("__debug__" : Str)) = false := by decide)
    (hcd : (x == ("__classdict__" : Str)) = false := by decide) (hs : starEach [.Subscript (.Name x px) e ps] X.env = (false, eval (.Subscript (.Name x px) e ps) X.env) :: starEach [] X.env := by rfl) (hpl : (backTo p (starEach [] X.env)).any (·.1) = false := by rfl)
    (hi : X.N[i]? = some y := by rfl) (hx : Loc X.env.scope y := by first | exact .inl rfl | exact .inr rfl) (hf : X.fn y = true ∨ X.env.scope.names.lookup y = some .local := by first | exact .inl rfl | exact .inr rfl) {pl : Pos}
    (hs3 : swapsWith (.Call (.Name "list" pl) [.Subscript (.Name x px) e ps] [] p) (some (.Name y pos')) pos.line X.env = pure false := by rfl) :
    DS3 X W iw (.Assign [.Name y pos'] (.Call (.Name "list" pl) [.Subscript (.Name x px) e ps] [] p) pos) (sListM i f) := by
  obtain ⟨te, a1, a2⟩ := h.ex
  refine ⟨_, ps_set (i := i) hN' hi hx (pe_callTy (DX.call_xlist hc) hg hm boot_list (pa_cons (pe_ix ix_list (pe_var hN hv hd hcd) a1 hsl) pa_nil hs) (by decide) (by decide) hs hpl) hs3 hf, fun B BN G0 G H σ env p w E c n hp po => ?_⟩
  refine ⟨.ref p, slot_exc c hp, ?_⟩
  refine a2 BN G0 G H σ env _ c ?_
  simp only [sListM] at po
  cases o : f env with
  | no => rw [o] at po; exact po
  | ex k => rw [o] at po; exact po.elim
  | ok d =>
    rw [o] at po
    simp only [M.to3] at po
    intro v H1 G1 s1 c1 r1
    have n1 := n.up c s1 c1
    cases k : rowAtM w d with
    | none => rw [k] at po; exact po.elim
    | some kvs =>
      rw [k] at po
      simp only [M.of, M.to3] at po
      cases d with
      | int j =>
        cases r1
        obtain ⟨m, qs, q, xs, z1, z2, z3, z4, z5, z6, _⟩ := n1.at k
        refine ⟨p, qs.map V.ref, j, .ref q, rfl, rfl, .inl (.inl (c1.exB _ _ z1)), z4, q, xs, rfl, .inl (c1.exB _ _ z5), DX.entsIn_of c1.exG z6, fun l hl => ?_⟩
        have c2 := c1.setOwn i (t := .own (kvs.map (·.1))) (o := .lst (xs.map fun e => DX.vOf e.2.1)) hl ⟨l, _, rfl, c1.exG.free hl, c1.exB.free hl, upd_same, reps_keys z6⟩
        exact po _ _ G1 BN s1 c2 n1 (by rw [List.getElem?_set_ne (Ne.symm hw)]; exact hp)
      | non => cases k
      | bl _ => cases k
      | str _ => cases k
      | lst _ => cases k
      | tup _ => cases k
      | scr _ => cases k
/-- x.append({}) -/
theorem ds3_push {x : Str} {px apos cpos lp : Pos} (hN : X.N[iw]? = some x := by rfl) (hv : Vis X.env.scope x := by first | exact Or.inl rfl | exact Or.inr (Or.inl rfl) | exact Or.inr (Or.inr rfl)) (hd : (x == ("__debug__" : Str)) = false := by decide)
    (hcd : (x == ("__classdict__" : Str)) = false := by decide) (hbase : attributeBase (.Name x px) "append" X.env (eval (.Name x px) X.env) = eval (.Name x px) X.env := by rfl)
    (hfew : ((backTo cpos (starEach [.Dict [] [] lp] X.env)).all (fun x => !x.1) && (backToKw cpos (keywordEach [] X.env)).all (fun x => x.1.isSome)
      && decide (([.Dict [] [] lp] : List Expr).length + ([] : List Keyword).length + (if ([] : List Keyword).isEmpty then 0 else 1) < 30)) = true := by rfl)
    (hline : (apos.endLine == cpos.line) = true := by rfl) (hse : starEach [.Dict [] [] lp] X.env = (false, eval (.Dict [] [] lp) X.env) :: starEach [] X.env := by rfl) (hplain : (backTo cpos (starEach [] X.env)).any (·.1) = false := by rfl)
    (hs : swapsWith (.Call (.Attribute (.Name x px) "append" apos) [.Dict [] [] lp] [] cpos) none pos.line X.env = pure false := by rfl) :
    DS3 X W iw (.Expr (.Call (.Attribute (.Name x px) "append" apos) [.Dict [] [] lp] [] cpos) pos) sPushM := by
  refine ⟨_, ps_expr (pe_bm PySem.F.plainAttrs_list PySem.F.slot_list_append PySem.F.type_list_append mt_append (pe_var hN hv hd hcd) (pa_cons DX.pe_xnew pa_nil hse) hbase hfew hline hse hplain) hs, fun B BN G0 G H σ env p w E c n hp po => ?_⟩
  simp only [sPushM] at po
  obtain ⟨qs0, h1, h2, h3, h4, h5, h6⟩ := n.ex
  refine ⟨.ref p, slot_exc c hp, .inl ⟨rfl, _, .inl (.inl (c.exB _ _ h4))⟩, fun q hq => ?_⟩
  obtain ⟨qs, k1, k2, k3, k4⟩ := n.push c hq
  by_cases hl : w.length < sizeLine
  · rw [if_pos hl] at po
    have hpq : L2.upd H q (DicO X.w q []) p = some (.lst (qs.map V.ref)) := by rw [upd_ne (Ne.symm k3)]; exact c.exB _ _ k1
    refine ⟨p, qs.map V.ref, .ref q, rfl, rfl, hpq, by rw [List.length_map, k2]; exact hl, ?_⟩
    have c1 : Cn (kw X) (L2.upd BN q (DicO X.w q [])) G0 G σ (L2.upd H q (DicO X.w q [])) env := c.poke2 (c.exG.free hq) (.inr hq)
    have gp : G p = none := (h3 p List.mem_cons_self).2
    have c2 := c1.poke2 (q := p) (o := .lst (qs.map V.ref ++ [.ref q])) gp (.inl (by rw [upd_ne (Ne.symm k3), k1]; intro z; cases z))
    exact po σ _ G _ (Same.refl G) c2 k4 hp
  · rw [if_neg hl] at po
    exact po.elim
/-- x[e][k] = v -/
theorem ds3_putAt {x : Str} {px ps pos' : Pos} (hu : X.A.units + 64 < cLine) (he : DE X W e f) (h2 : DE X W e2 g) (hv2 : DE X W value h) (hsl : PlainIx e := by intro _ _; rfl) (hs : swapsWith value (some (.Subscript (.Subscript (.Name x px) e ps) e2 pos')) pos.line X.env = pure false := by rfl) (hN : X.N[iw]? = some x := by rfl) (hv : Vis X.env.scope x := by first | exact Or.inl rfl | exact Or.inr (Or.inl rfl) | exact Or.inr (Or.inr rfl)) (hd : (x == ("__debug__" : Str)) = false := by decide)
    (hcd : (x == ("__classdict__" : Str)) = false := by decide) : DS3 X W iw (.Assign [.Subscript (.Subscript (.Name x px) e ps) e2 pos'] value pos) (sPutAtM f g h) := by
  obtain ⟨te, a1, a2⟩ := he.ex
  obtain ⟨tk, k1, k2⟩ := h2.ex
  obtain ⟨tv, b1, b2⟩ := hv2.ex
  refine ⟨_, DX.ps_xput hu (pe_ix ix_list (pe_var hN hv hd hcd) a1 hsl) k1 b1 hs, fun B BN G0 G H σ env p w E c n hp po => ?_⟩
  refine b2 BN G0 G H σ env _ c ?_
  simp only [sPutAtM] at po
  cases o : h env with
  | no => rw [o] at po; exact po
  | ex k => rw [o] at po; exact po.elim
  | ok vd =>
    rw [o] at po
    simp only [M.to3] at po
    intro v1 H1 G1 s1 c1 r1
    have n1 := n.up c s1 c1
    refine ⟨.ref p, slot_exc c1 hp, ?_⟩
    refine a2 BN G0 G1 H1 σ env _ c1 ?_
    cases o2 : f env with
    | no => rw [o2] at po; exact po
    | ex k => rw [o2] at po; exact po.elim
    | ok ad =>
      rw [o2] at po
      simp only [M.to3] at po
      intro v2 H2 G2 s2 c2 r2
      have n2 := n1.up c1 s2 c2
      cases o3 : g env with
      | no => rw [o3] at po; exact po.elim
      | ex k => rw [o3] at po; exact po.elim
      | ok kd =>
        rw [o3] at po
        simp only [M.to3] at po
        cases k : putRow w ad kd vd with
        | none => rw [k] at po; exact po.elim
        | some w' =>
          rw [k] at po
          simp only [M.of, M.to3] at po
          unfold putRow at k
          cases ad with
          | int j =>
            cases r2
            simp only [Option.bind_eq_some_iff, Option.map_eq_some_iff] at k
            obtain ⟨m, hm, l, hl, l', hp', rfl⟩ := k
            have at1 : atI w j = some l := by unfold atI; rw [hm]; exact hl
            obtain ⟨m', qs, q, xs, z1, z2, z3, z4, z5, z6, z7, z8, _⟩ := n2.at at1
            refine ⟨p, qs.map V.ref, j, .ref q, rfl, rfl, .inl (.inl (c2.exB _ _ z1)), z4, ?_⟩
            refine k2 BN G0 G2 H2 σ env _ c2 ?_
            rw [o3]
            intro v3 H3 G3 s3 c3 r3
            have n3 := n2.up c2 s3 c3
            obtain ⟨m2, qs2, q2, xs2, y1, y2, y3, y4, y5, y6, y7, y8, y9⟩ := n3.at at1
            rw [hm] at y2
            cases y2
            have eqs : qs2 = qs := by
              rw [z1] at y1
              injection y1 with y1
              injection y1 with y1
              exact ((List.map_inj_right (fun a b h => by cases h; rfl)).mp y1).symm
            subst eqs
            rw [z4] at y4
            cases y4
            unfold putX at hp'
            cases hk : keyOk kd with
            | none => rw [hk] at hp'; cases hp'
            | some key =>
              rw [hk] at hp'
              simp only [Option.bind_some] at hp'
              split at hp'
              · rename_i hlt
                cases hp'
                refine ⟨q, xs2, key, rfl, c3.exB _ _ y5, DX.keyIn_of c3.exG hk r3, DX.entsIn_of c3.exG y6, by rw [paired_len y6]; exact hlt, fun iv r hiv hr => ?_⟩
                have pr := put_rel hk y6 (iv := iv) (r := r) ⟨v3, hiv, r3⟩ ⟨v1, hr, (r1.up s2).up s3⟩
                have c4 := c3.poke2 (q := q) (o := DicO X.w q (DX.putD xs2 key iv r)) y8 (.inl (by rw [y5]; intro z; cases z))
                exact po σ _ G3 _ ((s1.trans s2).trans s3) c4 (y9 _ _ pr) hp
              · cases hp'
          | non => cases k
          | bl _ => cases k
          | str _ => cases k
          | lst _ => cases k
          | tup _ => cases k
          | scr _ => cases k
end
/-! ### y = x.pop() -/
def popL (xs : List D) : Option (List D × D) := match xs.getLast? with
  | some d => some (xs.dropLast, d)
  | none => none
@[simp] def sPopL (i j : Nat) : DStm := fun env => (celO env j).to env fun xs => (M.of (popL xs)).to env fun y => .nx ((env.set j (.own y.1)).set i (.dat y.2))
section
variable {X : Cx} {W : WX} {pos : Pos}
theorem Reps.dropLast {K : KW} {G : Hp} {vs : List V} {ds : List D} (r : Reps K G vs ds) : Reps K G vs.dropLast ds.dropLast := by
  rw [List.dropLast_eq_take, List.dropLast_eq_take, r.length]
  exact r.take _
theorem ds_popL (i j : Nat) {x y : Str} {px apos cpos pos' : Pos} (hN' : X.N.Nodup) (hij : j ≠ i := by decide) (hN : X.N[j]? = some x := by rfl) (hv : Vis X.env.scope x := by first | exact Or.inl rfl | exact Or.inr (Or.inl rfl) | exact Or.inr (Or.inr rfl)) (hd : (x == ("__debug__" : Str)) = false := by decide)
    (hcd : (x == ("__classdict__" : Str)) = false := by decide) (hbase : attributeBase (.Name x px) "pop" X.env (eval (.Name x px) X.env) = eval (.Name x px) X.env := by rfl) (hline : (apos.endLine == cpos.line) = true := by rfl)
    (hi : X.N[i]? = some y := by rfl) (hx : Loc X.env.scope y := by first | exact .inl rfl | exact .inr rfl) (hs : swapsWith (.Call (.Attribute (.Name x px) "pop" apos) [] [] cpos) (some (.Name y pos')) pos.line X.env = pure false := by rfl) (hf : X.fn y = true ∨ X.env.scope.names.lookup y = some .local := by first | exact .inl rfl | exact .inr rfl) :
    DS X W (.Assign [.Name y pos'] (.Call (.Attribute (.Name x px) "pop" apos) [] [] cpos) pos) (sPopL i j) := by
  refine ⟨_, ps_set (i := i) hN' hi hx (pe_bm0 PySem.F.plainAttrs_list PySem.F.slot_list_pop PySem.F.type_list_pop mt_pop (pe_var hN hv hd hcd) hbase hline) hs hf, fun B G0 G H σ env E c po => ?_⟩
  simp only [sPopL] at po
  cases o : celO env j with
  | no => rw [o] at po; exact po.elim
  | ex n => exact (celO_no o).elim
  | ok xs =>
    rw [o] at po
    simp only [M.to] at po
    have hj := celO_inv o
    obtain ⟨q, e1, p, vs, e2, gp, bp, hp, r⟩ := c.cel j _ hj
    subst e2
    refine ⟨.ref p, e1, .inl ⟨rfl, _, .inl (.inl hp)⟩, ?_⟩
    cases k : popL xs with
    | none => rw [k] at po; exact po.elim
    | some yd =>
      rw [k] at po
      simp only [M.of, M.to] at po
      unfold popL at k
      cases g : xs.getLast? with
      | none => rw [g] at k; cases k
      | some d =>
        rw [g] at k
        cases k
        rw [List.getLast?_eq_getElem?] at g
        obtain ⟨v, hv, rv⟩ := r.get g
        refine ⟨p, vs, v, rfl, rfl, hp, by rw [r.length]; exact hv, ?_⟩
        have c1 := c.updO (o := .lst vs.dropLast) (t := .own xs.dropLast) hj trivial e1 ⟨p, _, rfl, gp, bp, upd_same, Reps.dropLast r⟩ trivial
        exact po _ _ G (Same.refl G) (c1.set i rv)
end
/-! ### x = [{k: v}] ahead of the rest -/
open Classical in
noncomputable def enterM (k : Addr → DOut3) : DOut := if h : ∃ d, ∀ p, ∃ w, k p = .rt d w then .rt h.choose else .no
theorem enterM_eq {k : Addr → DOut3} {d : D} (h : ∀ p, ∃ w, k p = .rt d w) : enterM k = .rt d := by
  have hex : ∃ d, ∀ p, ∃ w, k p = .rt d w := ⟨d, h⟩
  unfold enterM
  rw [dif_pos hex]
  obtain ⟨e1, h1⟩ := hex.choose_spec 0
  obtain ⟨e2, h2⟩ := h 0
  rw [h1] at h2
  injection h2 with h3
  rw [h3]
theorem enterM_inv {k : Addr → DOut3} : enterM k = .no ∨ ∃ d, enterM k = .rt d ∧ ∀ p, ∃ w, k p = .rt d w := by
  unfold enterM
  split
  · rename_i h
    exact .inr ⟨_, rfl, h.choose_spec⟩
  · exact .inl rfl
noncomputable def sEnterM (iw : Nat) (f g : DEnv → M D) (b : DStm3) : DStm := fun env => if iw < env.length then (f env).to env fun d => (g env).to env fun z => (M.of (newX d z)).to env fun kvs => enterM fun p => b [kvs] (env.set iw (.exc p)) else .no
section
variable {X : Cx} {W : WX} {iw : Nat} {k v : Expr} {f g : DEnv → M D} {b : DStm3} {pos p : Pos}
theorem dss_enterM {x : Str} {pos' lp : Pos} {rest : List Stmt} (hu : X.A.units + 64 < cLine) (hN : X.N.Nodup) (h : DE X W k f) (h2 : DE X W v g) (hb : DSs3 X W iw rest b) (hi : X.N[iw]? = some x := by rfl) (hx : Loc X.env.scope x := by first | exact .inl rfl | exact .inr rfl) (hs : swapsWith (.List [.Dict [some k] [v] p] lp) (some (.Name x pos')) pos.line X.env = pure false := by rfl) (hf : X.fn x = true ∨ X.env.scope.names.lookup x = some .local := by first | exact .inl rfl | exact .inr rfl)
    (hst : starEach [.Dict [some k] [v] p] X.env = (false, eval (.Dict [some k] [v] p) X.env) :: starEach [] X.env := by rfl)
    (hsh : (evalEachOpt [some k] X.env).zip ((evalEach [v] X.env).map fun v => do let x ← v; standAt p; pure x) = (pairTrees [some k] [v] X.env p).map fun p => (some p.1, p.2) := by rfl) :
    DSs X W (.Assign [.Name x pos'] (.List [.Dict [some k] [v] p] lp) pos :: rest) (sEnterM iw f g b) := by
  obtain ⟨te, a1, a2⟩ := h.ex
  obtain ⟨tv, b1, b2⟩ := h2.ex
  obtain ⟨u, d1, d2⟩ := hb.ex
  refine ⟨_, pss_cons (ps_set (i := iw) hN hi hx (pe_lst (pa_cons (DX.pe_xdisp1 hu a1 b1 hsh) pa_nil hst)) hs hf) d1, fun B G0 G H σ env E c po => ?_⟩
  intro q hq
  have bq := c.exB.free hq
  have gq := c.exG.free hq
  have ap := c.apart hq
  have c1 : Cn (kw X) (upd B q (DicO X.w q [])) G G σ (upd H q (DicO X.w q [])) env := (c.poke gq bq ap).under upd_same gq ap
  have noG : ∀ {G4 σ4 H4 e4}, Cn (kw X) (upd B q (DicO X.w q [])) G G4 σ4 H4 e4 → G4 q = none := fun {G4 σ4 H4 e4} c4 => by
    cases z : G4 q with
    | none => rfl
    | some w =>
      rcases c4.new q (by rw [z]; intro k; cases k) with k | k
      · exact absurd gq k
      · rw [upd_same] at k; cases k
  refine a2 _ G G _ σ env _ c1 ?_
  unfold sEnterM at po
  by_cases hle : iw < env.length
  case neg => rw [if_neg hle] at po; exact po.elim
  rw [if_pos hle] at po
  cases o : f env with
  | no => rw [o] at po; exact po
  | ex n =>
    rw [o] at po
    intro cls H' G' hm c'
    exact po cls σ H' G' hm (c.over bq c')
  | ok d =>
    rw [o] at po
    simp only [M.to] at po
    intro v1 H1 G1 s1 c2 r1
    refine b2 _ G G1 H1 σ env _ c2 ?_
    cases o2 : g env with
    | no => rw [o2] at po; exact po
    | ex n =>
      rw [o2] at po
      intro cls H' G' hm c'
      exact po cls σ H' G' hm (c.over bq c')
    | ok z =>
      rw [o2] at po
      simp only [M.to] at po
      intro v2 H2 G2 s2 c3 r2
      cases d with
      | tup ys =>
        simp only [newX] at po
        cases hk : keyOk (.tup ys) with
        | none => rw [hk] at po; exact po.elim
        | some key =>
          simp only [hk, Option.map_some, M.of, M.to] at po
          have hp2 : H2 q = some (DicO X.w q []) := c3.exB _ _ upd_same
          have r1' := r1.up s2
          cases r1' with
          | @tup ad vs _ g1 g2 =>
            refine ⟨hp2, ad, key, rfl, DX.keyIn_of c3.exG hk (.tup g1 g2), fun r hr => ?_⟩
            have g4 := noG c3
            have c4 : Cn (kw X) (upd (upd B q (DicO X.w q [])) q (DicO X.w q [(key, .ref ad, r)])) G G2 σ (upd H2 q (DicO X.w q [(key, .ref ad, r)])) env := c3.poke2 g4 (.inl (by rw [upd_same]; intro z; cases z))
            have eu : upd (upd B q (DicO X.w q [])) q (DicO X.w q [(key, .ref ad, r)]) = upd B q (DicO X.w q [(key, .ref ad, r)]) := by
              funext a
              by_cases y : a = q
              · subst y; rw [upd_same, upd_same]
              · rw [upd_ne y, upd_ne y, upd_ne y]
            rw [eu] at c4
            have c5 := c.rebase gq c4
            refine ⟨by rw [sizeLine_eq]; show 1 ≤ _; decide, fun pp hpp => ?_⟩
            rcases enterM_inv (k := fun p => b [[(.tup ys, z)]] (env.set iw (.exc p))) with y | ⟨dd, y, hd⟩
            · rw [y] at po; exact po.elim
            · rw [y] at po
              have ne : pp ≠ q := fun y => by rw [y, upd_same] at hpp; cases hpp
              have hpp' := hpp
              rw [upd_ne ne] at hpp'
              have c6 := c5.poke2 (q := pp) (o := .lst [.ref q]) (c3.exG.free hpp') (.inr hpp)
              have n1 : NsM (kw X) B (L2.upd (L2.upd B q (DicO X.w q [(key, .ref ad, r)])) pp (.lst [.ref q])) G2 pp [[(.tup ys, z)]] :=
                NsM.one bq ((same_upd bq).free (c3.exB.free hpp')) g4 (c3.exG.free hpp') ne (.cons ⟨hk, ⟨.ref ad, rfl, .tup g1 g2⟩, v2, hr, r2⟩ .nil)
              have c7 := c6.setExc iw pp
              obtain ⟨ww, hw⟩ := hd pp
              refine d2 B _ G0 G2 _ _ _ pp [[(.tup ys, z)]] E c7 n1 (by rw [List.getElem?_set_self hle]) ?_
              rw [hw]
              intro vv σ' H' G' BN' e' s' c' n' r'
              exact po vv σ' H' G' e' ((s1.trans s2).trans s') (c'.lower n'.base) r'
      | non => exact po.elim
      | bl _ => exact po.elim
      | int _ => exact po.elim
      | str _ => exact po.elim
      | lst _ => exact po.elim
      | scr _ => exact po.elim
end
end DL

namespace DL
open PySem PySem.Spec PyProof.Rows L2
/-! ### two lists that a call gives, looked at, and then changed and left -/
theorem Cn.setU {K : KW} {B G0 G H : Hp} {σ : L2.St} {env : DEnv} (c : Cn K B G0 G σ H env) (i : Nat) (v : V) : Cn K B G0 G (σ.set i (some v)) H (env.set i .un) where
  len := by simp [c.len]
  exB := c.exB
  exG := c.exG
  ex0 := c.ex0
  new := c.new
  cel := fun j s e => by
    by_cases h : i = j
    · subst h
      have hi : i < env.length := by
        have := (List.getElem?_eq_some_iff.mp e).1
        simpa using this
      rw [List.getElem?_set_self hi] at e
      cases e
      exact ⟨some v, by rw [List.getElem?_set_self (by rw [c.len]; exact hi)], trivial⟩
    · rw [List.getElem?_set_ne h] at e
      obtain ⟨o, e1, q⟩ := c.cel j s e
      exact ⟨o, by rw [List.getElem?_set_ne h]; exact e1, q⟩
  sep := fun j k s t p ne e1 e2 o1 o2 q => by
    have hj : i ≠ j := fun z => by
      subst z
      have hi : i < env.length := by
        have := (List.getElem?_eq_some_iff.mp e1).1
        simpa using this
      rw [List.getElem?_set_self hi] at e1
      cases e1
      exact o1
    have hk : i ≠ k := fun z => by
      subst z
      have hi : i < env.length := by
        have := (List.getElem?_eq_some_iff.mp e2).1
        simpa using this
      rw [List.getElem?_set_self hi] at e2
      cases e2
      exact o2
    rw [List.getElem?_set_ne hj] at e1 q
    rw [List.getElem?_set_ne hk] at e2 ⊢
    exact c.sep j k s t p ne e1 e2 o1 o2 q
def flatR : M D → DOut
  | .ok r => if flatD r = true then .rt r else .no
  | _ => .no
def mB : M Bool → DOut → DOut → DOut
  | .ok true, a, _ => a
  | .ok false, _, b => b
  | _, _, _ => .no
def twoL (d : D) (b : DOut) : DOut := match d with
  | .tup [.lst xs, .lst _] => if xs.length < sizeLine then b else .no
  | _ => .no
noncomputable def sLose (i n : Nat) (g : List D → M D) (ga : DEnv → M (List D)) (t1 : DEnv → M Bool) (f1 : DEnv → M D) (t2 : DEnv → M Bool) (f2 : DEnv → M D) (rest : DStm) : DStm := fun env => if i < env.length then match ga env with
  | .ok ds => if ds.length = n ∧ noLsts ds = true then match g ds with
    | .ok d => mB (t1 ((still env).set i (.dat d))) (flatR (f1 ((still env).set i (.dat d)))) (mB (t2 ((still env).set i (.dat d))) (flatR (f2 ((still env).set i (.dat d)))) (twoL d (rest (env.set i .un))))
    | _ => .no
    else .no
  | _ => .no
  else .no
section
variable {X : Cx} {W : WX} {e c1 c2 r1 r2 : Expr} {es : List Expr} {rest : List Stmt} {pos p pos2 pos3 pos4 pr1 pr2 : Pos}
theorem dss_lose {k j n : Nat} (i : Nat) {x y : Str} {pos' px1 px2 pi1 pi2 ps1 ps2 pa1 pa2 pc1 pc2 pe1 pe2 pn : Pos} {kn : Nat} {g : List D → M D} {ga : DEnv → M (List D)} {t1 t2 : DEnv → M Bool} {f1 f2 : DEnv → M D} {u : DStm} (F : DFn X.prog X.w X.K X.mg X.base k y n g) (hr : Room j X.A) (hj : k ≤ j) (tk : Takes X W) (ha : DA X W (e :: es) ga) (hN : X.N.Nodup)
    (ht1 : DT X W c1 t1) (hf1 : DE X W r1 f1) (ht2 : DT X W c2 t2) (hf2 : DE X W r2 f2) (hu : DSs X W rest u) (h0 : DE X W (.Constant (.int 0) kn pn) (xC (.int 0)))
    (hi0 : DE X W (.Constant (.int 0) kn pi1) (xC (.int 0))) (hi1 : DE X W (.Constant (.int 1) kn pi2) (xC (.int 1)))
    (hg : Gl X y := by rfl) (hdb : (y == ("__debug__" : Str)) = false := by decide) (he : starEach (e :: es) X.env = (false, eval e X.env) :: starEach es X.env := by rfl) (hpl : (backTo pos (starEach es X.env)).any (·.1) = false := by rfl)
    (hi : X.N[i]? = some x := by rfl) (hx : Loc X.env.scope x := by first | exact .inl rfl | exact .inr rfl) (hs : swapsWith (.Call (.Name y p) (e :: es) [] pos) (some (.Name x pos')) pos2.line X.env = pure false := by rfl) (hf : X.fn x = true ∨ X.env.scope.names.lookup x = some .local := by first | exact .inl rfl | exact .inr rfl)
    (hv : Vis X.env.scope x := by first | exact Or.inl rfl | exact Or.inr (Or.inl rfl) | exact Or.inr (Or.inr rfl)) (hd : (x == ("__debug__" : Str)) = false := by decide)
    (hcd : (x == ("__classdict__" : Str)) = false := by decide)
    (hsl1 : PlainIx (.Constant (.int 0) kn pi1) := by intro _ _; rfl) (hsl2 : PlainIx (.Constant (.int 1) kn pi2) := by intro _ _; rfl)
    (hbase : attributeBase (.Subscript (.Name x px1) (.Constant (.int 0) kn pi1) ps1) "append" X.env (eval (.Subscript (.Name x px1) (.Constant (.int 0) kn pi1) ps1) X.env) = eval (.Subscript (.Name x px1) (.Constant (.int 0) kn pi1) ps1) X.env := by rfl)
    (hfew : ((backTo pc1 (starEach [.Constant (.int 0) kn pn] X.env)).all (fun x => !x.1) && (backToKw pc1 (keywordEach [] X.env)).all (fun x => x.1.isSome)
      && decide (([.Constant (.int 0) kn pn] : List Expr).length + ([] : List Keyword).length + (if ([] : List Keyword).isEmpty then 0 else 1) < 30)) = true := by rfl)
    (hline : (pa1.endLine == pc1.line) = true := by rfl) (hse : starEach [.Constant (.int 0) kn pn] X.env = (false, eval (.Constant (.int 0) kn pn) X.env) :: starEach [] X.env := by rfl) (hplain : (backTo pc1 (starEach [] X.env)).any (·.1) = false := by rfl)
    (hsA : swapsWith (.Call (.Attribute (.Subscript (.Name x px1) (.Constant (.int 0) kn pi1) ps1) "append" pa1) [.Constant (.int 0) kn pn] [] pc1) none pe1.line X.env = pure false := by rfl)
    (hbase2 : attributeBase (.Subscript (.Name x px2) (.Constant (.int 1) kn pi2) ps2) "clear" X.env (eval (.Subscript (.Name x px2) (.Constant (.int 1) kn pi2) ps2) X.env) = eval (.Subscript (.Name x px2) (.Constant (.int 1) kn pi2) ps2) X.env := by rfl)
    (hline2 : (pa2.endLine == pc2.line) = true := by rfl)
    (hsC : swapsWith (.Call (.Attribute (.Subscript (.Name x px2) (.Constant (.int 1) kn pi2) ps2) "clear" pa2) [] [] pc2) none pe2.line X.env = pure false := by rfl) :
    DSs X W (.Assign [.Name x pos'] (.Call (.Name y p) (e :: es) [] pos) pos2 :: .If c1 [.Return (some r1) pr1] [] pos3 :: .If c2 [.Return (some r2) pr2] [] pos4 :: .Expr (.Call (.Attribute (.Subscript (.Name x px1) (.Constant (.int 0) kn pi1) ps1) "append" pa1) [.Constant (.int 0) kn pn] [] pc1) pe1 :: .Expr (.Call (.Attribute (.Subscript (.Name x px2) (.Constant (.int 1) kn pi2) ps2) "clear" pa2) [] [] pc2) pe2 :: rest)
      (sLose i n g ga t1 f1 t2 f2 u) := by
  obtain ⟨f, fd, ps, F1, F2, F3, F4⟩ := F.ex
  obtain ⟨_, a1, a2⟩ := ha.ex
  obtain ⟨_, t11, t12⟩ := ht1.ex
  obtain ⟨_, f11, f12⟩ := hf1.ex
  obtain ⟨_, t21, t22⟩ := ht2.ex
  obtain ⟨_, f21, f22⟩ := hf2.ex
  obtain ⟨_, u1, u2⟩ := hu.ex
  obtain ⟨_, n01, n02⟩ := h0.ex
  obtain ⟨_, i01, i02⟩ := hi0.ex
  obtain ⟨_, i11, i12⟩ := hi1.ex
  refine ⟨_, pss_cons (ps_set (i := i) hN hi hx (pe_callS F1 (hr.mono hj) hg F2 F3 F4 (fun σ => passAt tk σ) a1 hdb he hpl) hs hf)
    (pss_cons (ps_if t11 (pss_one (ps_ret f11)) pss_nil) (pss_cons (ps_if t21 (pss_one (ps_ret f21)) pss_nil)
    (pss_cons (ps_expr (pe_bm PySem.F.plainAttrs_list PySem.F.slot_list_append PySem.F.type_list_append mt_append (pe_ix ix_tup (pe_var hi hv hd hcd) i01 hsl1) (pa_cons n01 pa_nil hse) hbase hfew hline hse hplain) hsA)
    (pss_cons (ps_expr (pe_bm0 PySem.F.plainAttrs_list PySem.F.slot_list_clear PySem.F.type_list_clear mt_clear (pe_ix ix_tup (pe_var hi hv hd hcd) i11 hsl2) hbase2 hline2) hsC) u1)))), fun B G0 G H σ env E c po => ?_⟩
  refine a2 B G0 G H σ env _ c ?_
  unfold sLose at po
  by_cases hi' : i < env.length
  case neg => rw [if_neg hi'] at po; exact po.elim
  rw [if_pos hi'] at po
  cases o : ga env with
  | no => rw [o] at po; exact po.elim
  | ex m => rw [o] at po; exact po.elim
  | ok ds =>
    rw [o] at po
    simp only at po
    intro vs H1 G1 s1 c1 r1
    by_cases hl : ds.length = n ∧ noLsts ds = true
    case neg => rw [if_neg hl] at po; exact po.elim
    rw [if_pos hl] at po
    have rt : Reps (kw X) (tups H1) vs ds := Reps.tups c1.exG ds vs hl.2 r1
    refine ⟨r1.length.trans hl.1, tups H1, ds, tups_same H1, rt, ?_⟩
    cases q : g ds with
    | no => rw [q] at po; exact po.elim
    | ex m => rw [q] at po; exact po.elim
    | ok d =>
      rw [q] at po
      simp only at po
      intro v H' G' s2 gh hh nw r
      have c2 := c1.grow (Same.refl G1) hh (c1.exG.trans hh) fun a z => .inl z
      have c4 : Cn (kw X) H' H' H' (σ.set i (some v)) H' ((still env).set i (.dat d)) := c2.still.set i (r.up gh)
      refine t12 H' H' H' H' (σ.set i (some v)) _ _ c4 ?_
      cases e1 : t1 ((still env).set i (.dat d)) with
      | no => rw [e1] at po; exact po.elim
      | ex m => rw [e1] at po; exact po.elim
      | ok b1 =>
        rw [e1] at po
        intro H2 G2 s3 c5
        cases b1 with
        | true =>
          refine iteT ?_
          simp only [mB] at po
          refine f12 H' H' G2 H2 (σ.set i (some v)) _ _ c5 ?_
          cases e2 : f1 ((still env).set i (.dat d)) with
          | no => rw [e2] at po; exact po.elim
          | ex m => rw [e2] at po; exact po.elim
          | ok w =>
            rw [e2] at po
            intro v3 H3 G3 s4 c6 r3
            simp only [flatR] at po
            by_cases hfl : flatD w = true
            · rw [if_pos hfl] at po
              have c7 := c2.grow (Same.refl G1) c6.exB (c2.exG.trans c6.exB) fun a z => .inl z
              exact po v3 σ H3 G1 env s1 c7 (flat_rep hfl r3)
            · rw [if_neg hfl] at po; exact po.elim
        | false =>
          refine iteF ?_
          simp only [mB] at po
          refine t22 H' H' G2 H2 (σ.set i (some v)) _ _ c5 ?_
          cases e3 : t2 ((still env).set i (.dat d)) with
          | no => rw [e3] at po; exact po.elim
          | ex m => rw [e3] at po; exact po.elim
          | ok b2 =>
            rw [e3] at po
            intro H4 G4 s5 c8
            cases b2 with
            | true =>
              refine iteT ?_
              simp only [mB] at po
              refine f22 H' H' G4 H4 (σ.set i (some v)) _ _ c8 ?_
              cases e2 : f2 ((still env).set i (.dat d)) with
              | no => rw [e2] at po; exact po.elim
              | ex m => rw [e2] at po; exact po.elim
              | ok w =>
                rw [e2] at po
                intro v3 H3 G3 s4 c6 r3
                simp only [flatR] at po
                by_cases hfl : flatD w = true
                · rw [if_pos hfl] at po
                  have c7 := c2.grow (Same.refl G1) c6.exB (c2.exG.trans c6.exB) fun a z => .inl z
                  exact po v3 σ H3 G1 env s1 c7 (flat_rep hfl r3)
                · rw [if_neg hfl] at po; exact po.elim
            | false =>
              refine iteF ?_
              simp only [mB] at po
              unfold twoL at po
              split at po
              · rename_i xs ys
                by_cases hxl : xs.length < sizeLine
                case neg => rw [if_neg hxl] at po; exact po.elim
                rw [if_pos hxl] at po
                cases r with
                | @tup a vs2 _ g1 g2 =>
                  cases g2 with
                  | cons r0 g3 =>
                    cases g3 with
                    | cons r1' g4 =>
                      cases g4
                      cases r0 with
                      | @lst p0 vs0 _ h01 h02 =>
                        cases r1' with
                        | @lst p1 vs1 _ h11 h12 =>
                          have fresh : ∀ {p : Addr} {vs : List V}, G' p = some (.lst vs) → H1 p = none := fun {p vs} hp => by
                            rcases nw p (by rw [hp]; intro z; cases z) with z | z
                            · obtain ⟨zs, hz⟩ := tups_only z
                              have := s2 _ _ hz
                              rw [hp] at this
                              cases this
                            · exact z
                          have fr0 := fresh h01
                          have fr1 := fresh h11
                          have slot : (σ.set i (some (V.ref a)))[i]? = some (some (.ref a)) := by
                            rw [List.getElem?_set_self (by rw [c.len]; exact hi')]
                          have up4 : Same G' H4 := gh.trans c8.exB
                          -- found[0].append(0)
                          refine ⟨.ref a, slot, ?_⟩
                          refine i02 H' H' G4 H4 _ _ _ c8 ?_
                          intro vi H5 G5 s6 c9 ri
                          cases ri
                          have up5 : Same G' H5 := gh.trans c9.exB
                          refine ⟨a, [.ref p0, .ref p1], 0, .ref p0, rfl, rfl, .inl (.inl (up5 _ _ g1)), rfl, .inl ⟨rfl, _, .inl (.inl (up5 _ _ h01))⟩, ?_⟩
                          refine n02 H' H' G5 H5 _ _ _ c9 ?_
                          intro vn H6 G6 s7 c10 rn
                          have up6 : Same G' H6 := gh.trans c10.exB
                          have hlen : vs0.length < sizeLine := by rw [h02.length]; exact hxl
                          refine ⟨p0, vs0, vn, rfl, rfl, up6 _ _ h01, hlen, ?_⟩
                          -- found[1].clear()
                          have na : a ≠ p0 := fun z => by rw [z, h01] at g1; cases g1
                          refine ⟨.ref a, slot, ?_⟩
                          have c2' := c2.grow (Same.refl G1) c10.exB (c2.exG.trans c10.exB) fun a z => .inl z
                          have ap0 : Apart σ env p0 := c1.apart fr0
                          have ap1 : Apart σ env p1 := c1.apart fr1
                          have c11 : Cn (kw X) B G0 G1 σ (L2.upd H6 p0 (.lst (vs0 ++ [vn]))) env := c2'.poke (c1.exG.free fr0) (c1.exB.free fr0) ap0
                          have n8 : L2.upd H6 p0 (.lst (vs0 ++ [vn])) a = some (.tup [.ref p0, .ref p1]) := by rw [upd_ne na]; exact up6 _ _ g1
                          obtain ⟨ws, hp8⟩ : ∃ ws, L2.upd H6 p0 (.lst (vs0 ++ [vn])) p1 = some (.lst ws) := by
                            by_cases z : p1 = p0
                            · exact ⟨_, by rw [z, upd_same]⟩
                            · exact ⟨_, by rw [upd_ne z]; exact up6 _ _ h11⟩
                          generalize hH8 : L2.upd H6 p0 (.lst (vs0 ++ [vn])) = H8 at c11 n8 hp8
                          refine i12 H8 H8 H8 H8 (σ.set i (some (.ref a))) _ _ (c11.setU i (.ref a)).still ?_
                          intro vi2 H7 G7 s8 c12 ri2
                          cases ri2
                          have s87 : Same H8 H7 := c12.exB
                          refine ⟨a, [.ref p0, .ref p1], 1, .ref p1, rfl, rfl, .inl (.inl (s87 _ _ n8)), rfl, .inl ⟨rfl, _, .inl (.inl (s87 _ _ hp8))⟩, p1, ws, rfl, rfl, s87 _ _ hp8, ?_⟩
                          have c13 := c11.grow (Same.refl G1) s87 (c11.exG.trans s87) fun a z => .inl z
                          have c14 : Cn (kw X) B G0 G1 σ (L2.upd H7 p1 (.lst [])) env := c13.poke (c1.exG.free fr1) (c1.exB.free fr1) ap1
                          exact u2 B G0 G1 _ _ _ E (c14.setU i (.ref a)) (PoS.up s1 po)
              · exact po.elim
end
end DL

namespace Wk
open PySem PySem.Spec PyProof.Rows L2 DL
/-! ### the text -/
def topS (i : Nat) : Stmt := PySem.Challenge.pw_alikewritten_k04_whole_plain_or_two_mess.main.body.getD i (.Pass ⟨0, 0, 0, 0⟩)

abbrev s_is_word : Stmt := topS 8
abbrev N_is_word : List Str := ["word", "letter"]
theorem sc_is_word : FnScope N_is_word ["word"] (defScope s_is_word) := ⟨rfl, rfl, rfl, by decide +kernel, rfl, by decide +kernel, by decide +kernel⟩
abbrev s_asked_writer : Stmt := topS 9
abbrev N_asked_writer : List Str := ["writer", "signs", "rows", "endings", "row", "word", "after"]
theorem sc_asked_writer : FnScope N_asked_writer ["writer"] (defScope s_asked_writer) := ⟨rfl, rfl, rfl, by decide +kernel, rfl, by decide +kernel, by decide +kernel⟩
abbrev s_rest_of : Stmt := topS 11
abbrev N_rest_of : List Str := ["ahead", "word"]
theorem sc_rest_of : FnScope N_rest_of ["ahead", "word"] (defScope s_rest_of) := ⟨rfl, rfl, rfl, by decide +kernel, rfl, by decide +kernel, by decide +kernel⟩
abbrev s_moves_of : Stmt := topS 12
abbrev N_moves_of : List Str := ["writer", "state", "moves", "sign", "word", "after"]
theorem sc_moves_of : FnScope N_moves_of ["writer", "state"] (defScope s_moves_of) := ⟨rfl, rfl, rfl, by decide +kernel, rfl, by decide +kernel, by decide +kernel⟩
abbrev s_starts_of : Stmt := topS 13
abbrev N_starts_of : List Str := ["writer", "state", "moves", "found", "k", "j"]
theorem sc_starts_of : FnScope N_starts_of ["writer", "state"] (defScope s_starts_of) := ⟨rfl, rfl, rfl, by decide +kernel, rfl, by decide +kernel, by decide +kernel⟩
abbrev s_after_move : Stmt := topS 14
abbrev N_after_move : List Str := ["spot", "move", "rest"]
theorem sc_after_move : FnScope N_after_move ["spot", "move"] (defScope s_after_move) := ⟨rfl, rfl, rfl, by decide +kernel, rfl, by decide +kernel, by decide +kernel⟩
abbrev s_put : Stmt := topS 15
abbrev N_put : List Str := ["waiting", "cost", "entry"]
theorem sc_put : FnScope N_put ["waiting", "cost", "entry"] (defScope s_put) := ⟨rfl, rfl, rfl, by decide +kernel, rfl, by decide +kernel, by decide +kernel⟩
abbrev s_begun : Stmt := topS 16
abbrev N_begun : List Str := ["writer", "waiting", "cost", "state", "message", "one", "other", "rest", "mine", "theirs", "more", "spot"]
theorem sc_begun : FnScope N_begun ["writer", "waiting", "cost", "state", "message"] (defScope s_begun) := ⟨rfl, rfl, rfl, by decide +kernel, rfl, by decide +kernel, by decide +kernel⟩
abbrev s_gone_on : Stmt := topS 17
abbrev N_gone_on : List Str := ["writer", "waiting", "cost", "entry", "spot", "mine", "theirs", "move", "found", "longer"]
theorem sc_gone_on : FnScope N_gone_on ["writer", "waiting", "cost", "entry"] (defScope s_gone_on) := ⟨rfl, rfl, rfl, by decide +kernel, rfl, by decide +kernel, by decide +kernel⟩
abbrev s_alike : Stmt := topS 18
abbrev N_alike : List Str := ["writer", "waiting", "met", "cost", "at", "entry", "sign"]
theorem sc_alike : FnScope N_alike ["writer"] (defScope s_alike) := ⟨rfl, rfl, rfl, by decide +kernel, rfl, by decide +kernel, by decide +kernel⟩
abbrev s__law_cell_at : Stmt := topS 20
abbrev N__law_cell_at : List Str := ["script", "k"]
theorem sc__law_cell_at : FnScope N__law_cell_at ["script", "k"] (defScope s__law_cell_at) := ⟨rfl, rfl, rfl, by decide +kernel, rfl, by decide +kernel, by decide +kernel⟩
abbrev s__law_stirred : Stmt := topS 21
abbrev N__law_stirred : List Str := ["cell", "k", "mixed"]
theorem sc__law_stirred : FnScope N__law_stirred ["cell", "k"] (defScope s__law_stirred) := ⟨rfl, rfl, rfl, by decide +kernel, rfl, by decide +kernel, by decide +kernel⟩
abbrev s__law_word : Stmt := topS 22
abbrev N__law_word : List Str := ["cell", "most", "letters", "size", "word", "k"]
theorem sc__law_word : FnScope N__law_word ["cell", "most", "letters"] (defScope s__law_word) := ⟨rfl, rfl, rfl, by decide +kernel, rfl, by decide +kernel, by decide +kernel⟩
abbrev s__law_writer : Stmt := topS 23
abbrev N__law_writer : List Str := ["script", "at", "most", "head", "states", "size", "letters", "seed", "own", "rows", "ends", "state", "row", "sign", "after", "word"]
theorem sc__law_writer : FnScope N__law_writer ["script", "at", "most"] (defScope s__law_writer) := ⟨rfl, rfl, rfl, by decide +kernel, rfl, by decide +kernel, by decide +kernel⟩
abbrev s__law_written : Stmt := topS 24
abbrev N__law_written : List Str := ["writer", "message", "text", "state", "sign"]
theorem sc__law_written : FnScope N__law_written ["writer", "message"] (defScope s__law_written) := ⟨rfl, rfl, rfl, by decide +kernel, rfl, by decide +kernel, by decide +kernel⟩
abbrev s__law_is_message : Stmt := topS 25
abbrev N__law_is_message : List Str := ["found", "signs", "sign"]
theorem sc__law_is_message : FnScope N__law_is_message ["found", "signs"] (defScope s__law_is_message) := ⟨rfl, rfl, rfl, by decide +kernel, rfl, by decide +kernel, by decide +kernel⟩
abbrev s__law_over : Stmt := topS 26
abbrev N__law_over : List Str := ["one", "other"]
theorem sc__law_over : FnScope N__law_over ["one", "other"] (defScope s__law_over) := ⟨rfl, rfl, rfl, by decide +kernel, rfl, by decide +kernel, by decide +kernel⟩
abbrev s__law_moves : Stmt := topS 27
abbrev N__law_moves : List Str := ["writer", "state", "moves", "word", "after"]
theorem sc__law_moves : FnScope N__law_moves ["writer", "state"] (defScope s__law_moves) := ⟨rfl, rfl, rfl, by decide +kernel, rfl, by decide +kernel, by decide +kernel⟩
abbrev s__law_goes : Stmt := topS 28
abbrev N__law_goes : List Str := ["writer", "spot", "found", "moves", "word", "after", "k", "j", "rest", "one", "other", "cost", "go"]
theorem sc__law_goes : FnScope N__law_goes ["writer", "spot"] (defScope s__law_goes) := ⟨rfl, rfl, rfl, by decide +kernel, rfl, by decide +kernel, by decide +kernel⟩
abbrev s__law_fewest : Stmt := topS 29
abbrev N__law_fewest : List Str := ["writer", "layers", "met", "cost", "todo", "spot", "more", "after"]
theorem sc__law_fewest : FnScope N__law_fewest ["writer"] (defScope s__law_fewest) := ⟨rfl, rfl, rfl, by decide +kernel, rfl, by decide +kernel, by decide +kernel⟩
abbrev s__law_right : Stmt := topS 30
abbrev N__law_right : List Str := ["writer", "found", "due"]
theorem sc__law_right : FnScope N__law_right ["writer", "found", "due"] (defScope s__law_right) := ⟨rfl, rfl, rfl, by decide +kernel, rfl, by decide +kernel, by decide +kernel⟩
abbrev s_law : Stmt := topS 31
abbrev N_law : List Str := ["script", "writer", "due", "found"]
theorem sc_law : FnScope N_law ["script"] (defScope s_law) := ⟨rfl, rfl, rfl, by decide +kernel, rfl, by decide +kernel, by decide +kernel⟩
/-! ### the readings -/
noncomputable def r_is_word : DStm := sRet (xAnd (xOp leD (xCb lenD (aCons (xVar 0) (aNil))) (xC (.int 8))) (xOp eqD (xL (lComp [1] (iAny (xVar 0)) (gN 1) (tE (xOp ninSD (xVar 1) (xC (.str "abcd")))) (xVar 1))) (xL (lLst (aNil)))))
noncomputable def f_is_word : List D → M D := fnD 2 r_is_word
noncomputable def r_asked_writer_b1 : DStm := sIf (tEither (tNo (tE (xCall 1 f_is_word (aCons (xVar 5) (aNil))))) (tEither (tE (xOp ltD (xVar 6) (xC (.int 0)))) (tE (xOp geD (xVar 6) (xCb lenD (aCons (xVar 2) (aNil))))))) (sRaise "NoWriter") (sNext)
noncomputable def r_asked_writer_b2 : DStm := sSeq (sIf (tE (xOp neD (xCb lenD (aCons (xVar 4) (aNil))) (xVar 1))) (sRaise "NoWriter") (sNext)) (sFor (iAny (xVar 4)) (gT (gsCons (gN 5) (gsCons (gN 6) (gsNil)))) r_asked_writer_b1)
noncomputable def r_asked_writer_b3 : DStm := sIf (tNo (tE (xCall 1 f_is_word (aCons (xVar 5) (aNil))))) (sRaise "NoWriter") (sNext)
noncomputable def r_asked_writer : DStm := sSeq (sAsg (gT (gsCons (gN 1) (gsCons (gN 2) (gsCons (gN 3) (gsNil))))) (xVar 0)) (sSeq (sIf (tEither (tE (xOp ltD (xVar 1) (xC (.int 1)))) (tEither (tE (xOp gtD (xVar 1) (xC (.int 4)))) (tEither (tE (xOp ltD (xCb lenD (aCons (xVar 2) (aNil))) (xC (.int 1)))) (tEither (tE (xOp gtD (xCb lenD (aCons (xVar 2) (aNil))) (xC (.int 6)))) (tE (xOp neD (xCb lenD (aCons (xVar 3) (aNil))) (xCb lenD (aCons (xVar 2) (aNil))))))))) (sRaise "NoWriter") (sNext)) (sSeq (sFor (iAny (xVar 2)) (gN 4) r_asked_writer_b2) (sFor (iAny (xVar 3)) (gN 5) r_asked_writer_b3)))
noncomputable def f_asked_writer : List D → M D := fnD 7 r_asked_writer
noncomputable def r_rest_of : DStm := sSeq (sIf (tE (xOp eqD (xCut (xVar 0) (oNo) (oPart (xCb lenD (aCons (xVar 1) (aNil))))) (xVar 1))) (sRet (xTup (aCons (xC (.bl true)) (aCons (xCut (xVar 0) (oPart (xCb lenD (aCons (xVar 1) (aNil)))) (oNo)) (aNil))))) (sNext)) (sSeq (sIf (tE (xOp eqD (xCut (xVar 1) (oNo) (oPart (xCb lenD (aCons (xVar 0) (aNil))))) (xVar 0))) (sRet (xTup (aCons (xC (.bl false)) (aCons (xCut (xVar 1) (oPart (xCb lenD (aCons (xVar 0) (aNil)))) (oNo)) (aNil))))) (sNext)) (sRet (xC .non)))
noncomputable def f_rest_of : List D → M D := fnD 2 r_rest_of
noncomputable def r_moves_of_b1 : DStm := sSeq (sAsg (gT (gsCons (gN 4) (gsCons (gN 5) (gsNil)))) (xOp ixAD (xOp ixAD (xOp ixAD (xVar 0) (xC (.int 1))) (xVar 1)) (xVar 3))) (sApp 2 (xTup (aCons (xL (lLst (aCons (xVar 3) (aNil)))) (aCons (xVar 4) (aCons (xVar 5) (aNil))))))
noncomputable def r_moves_of : DStm := sSeq (sOwn 2 (lLst (aCons (xTup (aCons (xL (lLst (aNil))) (aCons (xOp ixAD (xOp ixAD (xVar 0) (xC (.int 2))) (xVar 1)) (aCons (xC .non) (aNil))))) (aNil)))) (sSeq (sFor (iRng rng1D (aCons (xOp ixAD (xVar 0) (xC (.int 0))) (aNil))) (gN 3) r_moves_of_b1) (sFrz 2 (sRet (xVar 2))))
noncomputable def f_moves_of : List D → M D := fnD 6 r_moves_of
noncomputable def r_starts_of_b1 : DStm := sApp 3 (xTup (aCons (xOp ixAD (xVar 2) (xVar 5)) (aCons (xOp ixAD (xVar 2) (xVar 4)) (aNil))))
noncomputable def r_starts_of_b2 : DStm := sFor (iRng rng1D (aCons (xVar 4) (aNil))) (gN 5) r_starts_of_b1
noncomputable def r_starts_of : DStm := sSeq (sSet 2 (xCall 2 f_moves_of (aCons (xVar 0) (aCons (xVar 1) (aNil))))) (sSeq (sOwn 3 (lLst (aNil))) (sSeq (sFor (iRng rng1D (aCons (xCb lenD (aCons (xVar 2) (aNil))) (aNil))) (gN 4) r_starts_of_b2) (sFrz 3 (sRet (xVar 3)))))
noncomputable def f_starts_of : List D → M D := fnD 6 r_starts_of
noncomputable def r_after_move : DStm := sSeq (sSet 2 (xCall 2 f_rest_of (aCons (xOp ixAD (xVar 0) (xC (.int 2))) (aCons (xOp ixAD (xVar 1) (xC (.int 1))) (aNil))))) (sSeq (sIf (tE (xOp isND (xVar 2) (xC .non))) (sRet (xC .non)) (sNext)) (sSeq (sIf (tE (xOp ixAD (xVar 2) (xC (.int 0)))) (sSeq (sIf (tBoth (tE (xOp eqD (xOp ixAD (xVar 2) (xC (.int 1))) (xC (.str "")))) (tE (xOp isND (xOp ixAD (xVar 1) (xC (.int 2))) (xC .non)))) (sRet (xTup (aCons (xTup (aCons (xOp ixAD (xVar 0) (xC (.int 1))) (aCons (xC .non) (aCons (xC (.str "")) (aNil))))) (aCons (xC (.bl true)) (aNil))))) (sNext)) (sRet (xTup (aCons (xTup (aCons (xOp ixAD (xVar 1) (xC (.int 2))) (aCons (xOp ixAD (xVar 0) (xC (.int 1))) (aCons (xOp ixAD (xVar 2) (xC (.int 1))) (aNil))))) (aCons (xC (.bl false)) (aNil)))))) (sNext)) (sRet (xTup (aCons (xTup (aCons (xOp ixAD (xVar 0) (xC (.int 1))) (aCons (xOp ixAD (xVar 1) (xC (.int 2))) (aCons (xOp ixAD (xVar 2) (xC (.int 1))) (aNil))))) (aCons (xC (.bl true)) (aNil)))))))
noncomputable def f_after_move : List D → M D := fnD 3 r_after_move
noncomputable def r_put_b1 : DStm2 := sPush2
noncomputable def r_put : DStm2 := sSeq2 (dWhile2 (tE2 (xOp2 leD (xLen0) (fun _ => xVar 1))) r_put_b1 fuel) (sAppAt2 (xVar 1) (xVar 2))
noncomputable def f_put : List D → WtL → M WtL := fnN 3 0 r_put
noncomputable def r_begun_b1 : DStm2 := sSeq2 (sLift 1 (sSet 7 (xCall 2 f_rest_of (aCons (xOp ixAD (xVar 6) (xC (.int 1))) (aCons (xOp ixAD (xVar 5) (xC (.int 1))) (aNil)))))) (sIf2 (fun _ => tE (xOp isNND (xVar 7) (xC .non))) (sSeq2 (sLift 1 (sSet 8 (xOp addD (xVar 4) (xOp ixAD (xVar 5) (xC (.int 0)))))) (sSeq2 (sLift 1 (sSet 9 (xOp addD (xVar 4) (xOp ixAD (xVar 6) (xC (.int 0)))))) (sSeq2 (sLift 1 (sSet 10 (xOp addD (xOp addD (xVar 2) (xCb lenD (aCons (xOp ixAD (xVar 5) (xC (.int 0))) (aNil)))) (xCb lenD (aCons (xOp ixAD (xVar 6) (xC (.int 0))) (aNil)))))) (sSeq2 (sLift 1 (sIf (tE (xOp ixAD (xVar 7) (xC (.int 0)))) (sSet 11 (xTup (aCons (xOp ixAD (xVar 5) (xC (.int 2))) (aCons (xOp ixAD (xVar 6) (xC (.int 2))) (aCons (xOp ixAD (xVar 7) (xC (.int 1))) (aNil)))))) (sSeq (sSet 11 (xTup (aCons (xOp ixAD (xVar 6) (xC (.int 2))) (aCons (xOp ixAD (xVar 5) (xC (.int 2))) (aCons (xOp ixAD (xVar 7) (xC (.int 1))) (aNil)))))) (sPar 8 9 (aCons (xVar 9) (aCons (xVar 8) (aNil))))))) (sSeq2 (sLift 1 (sIf (tBoth (tE (xOp isND (xOp ixAD (xVar 11) (xC (.int 0))) (xC .non))) (tE (xOp eqD (xOp ixAD (xVar 11) (xC (.int 2))) (xC (.str ""))))) (sSeq (sSet 11 (xTup (aCons (xOp ixAD (xVar 11) (xC (.int 1))) (aCons (xC .non) (aCons (xC (.str "")) (aNil)))))) (sPar 8 9 (aCons (xVar 9) (aCons (xVar 8) (aNil))))) (sNext))) (sCallN 2 f_put (aCons (xVar 10) (aCons (xTup (aCons (xVar 11) (aCons (xVar 8) (aCons (xVar 9) (aNil))))) (aNil))))))))) (sNext2))
noncomputable def r_begun : DStm2 := sFor2 (iAny (xCall 2 f_starts_of (aCons (xVar 0) (aCons (xVar 3) (aNil))))) (gT (gsCons (gN 5) (gsCons (gN 6) (gsNil)))) r_begun_b1
noncomputable def f_begun : List D → WtL → M WtL := fnN 12 1 r_begun
noncomputable def r_gone_on_b1 : DStm2 := sSeq2 (sLift 1 (sSet 8 (xCall 2 f_after_move (aCons (xVar 4) (aCons (xVar 7) (aNil)))))) (sIf2 (fun _ => tE (xOp isNND (xVar 8) (xC .non))) (sSeq2 (sLift 1 (sSet 9 (xOp addD (xVar 5) (xOp ixAD (xVar 7) (xC (.int 0)))))) (sIf2 (fun _ => tE (xOp ixAD (xVar 8) (xC (.int 1)))) (sCallN 2 f_put (aCons (xOp addD (xVar 2) (xCb lenD (aCons (xOp ixAD (xVar 7) (xC (.int 0))) (aNil)))) (aCons (xTup (aCons (xOp ixAD (xVar 8) (xC (.int 0))) (aCons (xVar 6) (aCons (xVar 9) (aNil))))) (aNil)))) (sCallN 2 f_put (aCons (xOp addD (xVar 2) (xCb lenD (aCons (xOp ixAD (xVar 7) (xC (.int 0))) (aNil)))) (aCons (xTup (aCons (xOp ixAD (xVar 8) (xC (.int 0))) (aCons (xVar 9) (aCons (xVar 6) (aNil))))) (aNil)))))) (sNext2))
noncomputable def r_gone_on : DStm2 := sSeq2 (sLift 1 (sAsg (gT (gsCons (gN 4) (gsCons (gN 5) (gsCons (gN 6) (gsNil))))) (xVar 3))) (sFor2 (iAny (xCall 2 f_moves_of (aCons (xVar 0) (aCons (xOp ixAD (xVar 4) (xC (.int 0))) (aNil))))) (gN 7) r_gone_on_b1)
noncomputable def f_gone_on : List D → WtL → M WtL := fnN 10 1 r_gone_on
noncomputable def r_alike_b1 : DStm2 := sCallN 2 f_put (aCons (xOp addD (xVar 3) (xC (.int 2))) (aCons (xTup (aCons (xOp ixAD (xOp ixAD (xOp ixAD (xOp ixAD (xVar 0) (xC (.int 1))) (xOp ixAD (xVar 5) (xC (.int 0)))) (xVar 6)) (xC (.int 1))) (aCons (xOp addD (xOp ixAD (xVar 5) (xC (.int 1))) (xL (lLst (aCons (xVar 6) (aNil))))) (aNil)))) (aNil)))
noncomputable def r_alike_b2 : DStm2 := sSeq2 (sSet2 5 (xAt2 (xVar 3) (xVar 4))) (sSeq2 (sLift 1 (sSet 4 (xOp addD (xVar 4) (xC (.int 1))))) (sSeq2 (sLift 1 (sIf (tE (xInX 2 (xOp ixAD (xVar 5) (xC (.int 0))))) (sCont) (sNext))) (sSeq2 (sLift 1 (sPutX 2 (xOp ixAD (xVar 5) (xC (.int 0))) (xC (.bl true)))) (sIf2 (fun _ => tE (xOp eqD (xCb lenD (aCons (xVar 5) (aNil))) (xC (.int 2)))) (sSeq2 (sCallN 4 f_begun (aCons (xVar 0) (aCons (xVar 3) (aCons (xOp ixAD (xVar 5) (xC (.int 0))) (aCons (xOp ixAD (xVar 5) (xC (.int 1))) (aNil)))))) (sFor2 (iRng rng1D (aCons (xOp ixAD (xVar 0) (xC (.int 0))) (aNil))) (gN 6) r_alike_b1)) (sIf2 (fun _ => tE (xOp eqD (xOp ixAD (xVar 5) (xC (.int 0))) (xTup (aCons (xC .non) (aCons (xC .non) (aCons (xC (.str "")) (aNil))))))) (sLift 1 (sRet (xTup (aCons (xOp ixAD (xVar 5) (xC (.int 1))) (aCons (xOp ixAD (xVar 5) (xC (.int 2))) (aNil)))))) (sIf2 (fun _ => tE (xOp isNND (xOp ixAD (xOp ixAD (xVar 5) (xC (.int 0))) (xC (.int 0))) (xC .non))) (sCallN 3 f_gone_on (aCons (xVar 0) (aCons (xVar 3) (aCons (xVar 5) (aNil))))) (sNext2)))))))
noncomputable def r_alike_b3 : DStm2 := sSeq2 (sLift 1 (sSet 4 (xC (.int 0)))) (sSeq2 (dWhile2 (tE2 (xOp2 ltD (fun _ => xVar 4) (xLen1 (xVar 3)))) r_alike_b2 fuel) (sLift 1 (sSet 3 (xOp addD (xVar 3) (xC (.int 1))))))
noncomputable def r_alike_n4 : DStm2 := sSeq2 (sLift 1 (sDic0 2)) (sSeq2 (sLift 1 (sSet 3 (xC (.int 0)))) (sSeq2 (dWhile2 (tE2 (xOp2 ltD (fun _ => xVar 3) (xLen0))) r_alike_b3 fuel) (sLift 1 (sRet (xC .non)))))
noncomputable def r_alike : DStm := sSeq (sExpr (xCall 1 f_asked_writer (aCons (xVar 0) (aNil)))) (sEnter 1 (lLst (aCons (xTup (aCons (xC (.int 0)) (aCons (xL (lLst (aNil))) (aNil)))) (aNil))) r_alike_n4)
noncomputable def f_alike : List D → M D := fnD 7 r_alike
noncomputable def r__law_cell_at : DStm := sSeq (sIf (tE (xOp ltD (xVar 1) (xCb lenD (aCons (xVar 0) (aNil))))) (sRet (xOp ixAD (xVar 0) (xVar 1))) (sNext)) (sRet (xC (.int 0)))
noncomputable def f__law_cell_at : List D → M D := fnD 2 r__law_cell_at
noncomputable def r__law_stirred : DStm := sSeq (sSet 2 (xOp modD (xOp mulD (xOp addD (xOp addD (xVar 0) (xOp mulD (xC (.int 1009)) (xVar 1))) (xC (.int 17))) (xC (.int 48271))) (xC (.int 2147483647)))) (sSeq (sSet 2 (xOp modD (xOp mulD (xVar 2) (xVar 2)) (xC (.int 2147483647)))) (sRet (xOp fdivD (xOp modD (xOp mulD (xVar 2) (xC (.int 48271))) (xC (.int 2147483647))) (xC (.int 8)))))
noncomputable def f__law_stirred : List D → M D := fnD 3 r__law_stirred
noncomputable def r__law_word_b1 : DStm := sSeq (sSet 4 (xOp addD (xVar 4) (xOp ixAD (xC (.str "abcd")) (xOp modD (xVar 0) (xVar 2))))) (sSet 0 (xOp fdivD (xVar 0) (xVar 2)))
noncomputable def r__law_word : DStm := sSeq (sSet 3 (xOp modD (xVar 0) (xOp addD (xVar 1) (xC (.int 1))))) (sSeq (sSet 0 (xOp fdivD (xVar 0) (xOp addD (xVar 1) (xC (.int 1))))) (sSeq (sSet 4 (xC (.str ""))) (sSeq (sFor (iRng rng1D (aCons (xVar 3) (aNil))) (gN 5) r__law_word_b1) (sRet (xTup (aCons (xVar 4) (aCons (xVar 0) (aNil))))))))
noncomputable def f__law_word : List D → M D := fnD 6 r__law_word
noncomputable def r__law_writer_b1 : DStm := sSeq (sIf (tE (xOp eqD (xOp modD (xOp fdivD (xVar 3) (xC (.int 6048))) (xC (.int 2))) (xC (.int 0)))) (sSet 8 (xCall 2 f__law_stirred (aCons (xVar 7) (aCons (xOp addD (xOp mulD (xC (.int 97)) (xVar 11)) (xOp mulD (xC (.int 11)) (xVar 13))) (aNil))))) (sNext)) (sSeq (sSet 14 (xOp modD (xVar 8) (xVar 4))) (sSeq (sAsg (gT (gsCons (gN 15) (gsCons (gN 8) (gsNil)))) (xCall 3 f__law_word (aCons (xOp fdivD (xVar 8) (xVar 4)) (aCons (xVar 5) (aCons (xVar 6) (aNil)))))) (sApp 12 (xTup (aCons (xVar 15) (aCons (xVar 14) (aNil)))))))
noncomputable def r__law_writer_b2 : DStm := sSeq (sOwn 12 (lLst (aNil))) (sSeq (sFor (iRng rng1D (aCons (xOp addD (xC (.int 1)) (xOp modD (xVar 3) (xOp ixAD (xVar 2) (xC (.int 0))))) (aNil))) (gN 13) r__law_writer_b1) (sSeq (sFrz 12 (sApp 9 (xCb tupD (aCons (xVar 12) (aNil))))) (sSeq (sIf (tE (xOp eqD (xOp modD (xOp fdivD (xVar 3) (xC (.int 6048))) (xC (.int 2))) (xC (.int 0)))) (sSet 8 (xCall 2 f__law_stirred (aCons (xVar 7) (aCons (xOp addD (xOp mulD (xC (.int 97)) (xVar 11)) (xC (.int 71))) (aNil))))) (sNext)) (sSeq (sAsg (gT (gsCons (gN 15) (gsCons (gN 8) (gsNil)))) (xCall 3 f__law_word (aCons (xVar 8) (aCons (xCb min2D (aCons (xVar 5) (aCons (xOp addD (xC (.int 2)) (xOp modD (xOp fdivD (xVar 3) (xC (.int 864))) (xC (.int 7)))) (aNil)))) (aCons (xVar 6) (aNil)))))) (sApp 10 (xVar 15))))))
noncomputable def r__law_writer : DStm := sSeq (sSet 3 (xCall 2 f__law_cell_at (aCons (xVar 0) (aCons (xVar 1) (aNil))))) (sSeq (sSet 4 (xOp addD (xC (.int 1)) (xOp modD (xOp fdivD (xVar 3) (xC (.int 4))) (xOp ixAD (xVar 2) (xC (.int 1)))))) (sSeq (sSet 5 (xOp modD (xOp fdivD (xVar 3) (xC (.int 24))) (xOp addD (xOp ixAD (xVar 2) (xC (.int 2))) (xC (.int 1))))) (sSeq (sSet 6 (xOp addD (xC (.int 1)) (xOp modD (xOp fdivD (xVar 3) (xC (.int 216))) (xC (.int 4))))) (sSeq (sSet 7 (xCall 2 f__law_cell_at (aCons (xVar 0) (aCons (xOp addD (xVar 1) (xC (.int 1))) (aNil))))) (sSeq (sSet 8 (xVar 7)) (sSeq (sOwn 9 (lLst (aNil))) (sSeq (sOwn 10 (lLst (aNil))) (sSeq (sFor (iRng rng1D (aCons (xVar 4) (aNil))) (gN 11) r__law_writer_b2) (sFrz 10 (sFrz 9 (sRet (xTup (aCons (xOp addD (xC (.int 1)) (xOp modD (xVar 3) (xOp ixAD (xVar 2) (xC (.int 0))))) (aCons (xCb tupD (aCons (xVar 9) (aNil))) (aCons (xCb tupD (aCons (xVar 10) (aNil))) (aNil))))))))))))))))
noncomputable def f__law_writer : List D → M D := fnD 16 r__law_writer
noncomputable def r__law_written_b1 : DStm := sSeq (sSet 2 (xOp addD (xVar 2) (xOp ixAD (xOp ixAD (xOp ixAD (xOp ixAD (xVar 0) (xC (.int 1))) (xVar 3)) (xVar 4)) (xC (.int 0))))) (sSet 3 (xOp ixAD (xOp ixAD (xOp ixAD (xOp ixAD (xVar 0) (xC (.int 1))) (xVar 3)) (xVar 4)) (xC (.int 1))))
noncomputable def r__law_written : DStm := sSeq (sSet 2 (xC (.str ""))) (sSeq (sSet 3 (xC (.int 0))) (sSeq (sFor (iAny (xVar 1)) (gN 4) r__law_written_b1) (sRet (xOp addD (xVar 2) (xOp ixAD (xOp ixAD (xVar 0) (xC (.int 2))) (xVar 3))))))
noncomputable def f__law_written : List D → M D := fnD 5 r__law_written
noncomputable def r__law_is_message_b1 : DStm := sIf (tEither (tNo (tE (xUn (isiD "int") (xVar 2)))) (tEither (tE (xUn (isiD "bool") (xVar 2))) (tEither (tE (xOp ltD (xVar 2) (xC (.int 0)))) (tE (xOp geD (xVar 2) (xVar 1)))))) (sRet (xC (.bl false))) (sNext)
noncomputable def r__law_is_message : DStm := sSeq (sIf (tNo (tE (xUn (isiD "list") (xVar 0)))) (sRet (xC (.bl false))) (sNext)) (sSeq (sFor (iAny (xVar 0)) (gN 2) r__law_is_message_b1) (sRet (xC (.bl true))))
noncomputable def f__law_is_message : List D → M D := fnD 3 r__law_is_message
noncomputable def r__law_over : DStm := sSeq (sIf (tE (xOp eqD (xCut (xVar 0) (oNo) (oPart (xCb lenD (aCons (xVar 1) (aNil))))) (xVar 1))) (sRet (xTup (aCons (xCut (xVar 0) (oPart (xCb lenD (aCons (xVar 1) (aNil)))) (oNo)) (aCons (xC (.str "")) (aNil))))) (sNext)) (sSeq (sIf (tE (xOp eqD (xCut (xVar 1) (oNo) (oPart (xCb lenD (aCons (xVar 0) (aNil))))) (xVar 0))) (sRet (xTup (aCons (xC (.str "")) (aCons (xCut (xVar 1) (oPart (xCb lenD (aCons (xVar 0) (aNil)))) (oNo)) (aNil))))) (sNext)) (sRet (xC .non)))
noncomputable def f__law_over : List D → M D := fnD 2 r__law_over
noncomputable def r__law_moves_b1 : DStm := sApp 2 (xTup (aCons (xC (.int 1)) (aCons (xVar 3) (aCons (xVar 4) (aNil)))))
noncomputable def r__law_moves : DStm := sSeq (sOwn 2 (lLst (aCons (xTup (aCons (xC (.int 0)) (aCons (xOp ixAD (xOp ixAD (xVar 0) (xC (.int 2))) (xVar 1)) (aCons (xC .non) (aNil))))) (aNil)))) (sSeq (sFor (iAny (xOp ixAD (xOp ixAD (xVar 0) (xC (.int 1))) (xVar 1))) (gT (gsCons (gN 3) (gsCons (gN 4) (gsNil)))) r__law_moves_b1) (sFrz 2 (sRet (xVar 2))))
noncomputable def f__law_moves : List D → M D := fnD 5 r__law_moves
noncomputable def r__law_goes_b1 : DStm := sApp 2 (xTup (aCons (xC (.int 2)) (aCons (xTup (aCons (xC (.str "same")) (aCons (xVar 5) (aNil)))) (aNil))))
noncomputable def r__law_goes_b2 : DStm := sSeq (sSet 8 (xCall 2 f__law_over (aCons (xOp ixAD (xOp ixAD (xVar 3) (xVar 7)) (xC (.int 1))) (aCons (xOp ixAD (xOp ixAD (xVar 3) (xVar 6)) (xC (.int 1))) (aNil))))) (sIf (tE (xOp isNND (xVar 8) (xC .non))) (sApp 2 (xTup (aCons (xOp addD (xOp ixAD (xOp ixAD (xVar 3) (xVar 7)) (xC (.int 0))) (xOp ixAD (xOp ixAD (xVar 3) (xVar 6)) (xC (.int 0)))) (aCons (xTup (aCons (xTup (aCons (xOp ixAD (xOp ixAD (xVar 3) (xVar 7)) (xC (.int 2))) (aCons (xOp ixAD (xOp ixAD (xVar 3) (xVar 6)) (xC (.int 2))) (aNil)))) (aCons (xVar 8) (aNil)))) (aNil))))) (sNext))
noncomputable def r__law_goes_b3 : DStm := sFor (iRng rng1D (aCons (xVar 6) (aNil))) (gN 7) r__law_goes_b2
noncomputable def r__law_goes_b4 : DStm := sApp 2 (xTup (aCons (xVar 11) (aCons (xTup (aCons (xTup (aCons (xVar 5) (aCons (xVar 10) (aNil)))) (aCons (xCall 2 f__law_over (aCons (xOp addD (xOp ixAD (xVar 8) (xC (.int 0))) (xVar 4)) (aCons (xOp ixAD (xVar 8) (xC (.int 1))) (aNil)))) (aNil)))) (aNil))))
noncomputable def r__law_goes_b5 : DStm := sApp 2 (xTup (aCons (xVar 11) (aCons (xTup (aCons (xTup (aCons (xVar 9) (aCons (xVar 5) (aNil)))) (aCons (xCall 2 f__law_over (aCons (xOp ixAD (xVar 8) (xC (.int 0))) (aCons (xOp addD (xOp ixAD (xVar 8) (xC (.int 1))) (xVar 4)) (aNil)))) (aNil)))) (aNil))))
noncomputable def r__law_goes : DStm := sSeq (sOwn 2 (lLst (aNil))) (sSeq (sIf (tE (xOp eqD (xOp ixAD (xVar 1) (xC (.int 0))) (xC (.str "same")))) (sSeq (sSet 3 (xCall 2 f__law_moves (aCons (xVar 0) (aCons (xOp ixAD (xVar 1) (xC (.int 1))) (aNil))))) (sSeq (sFor (iAny (xOp ixAD (xOp ixAD (xVar 0) (xC (.int 1))) (xOp ixAD (xVar 1) (xC (.int 1))))) (gT (gsCons (gN 4) (gsCons (gN 5) (gsNil)))) r__law_goes_b1) (sSeq (sFor (iRng rng1D (aCons (xCb lenD (aCons (xVar 3) (aNil))) (aNil))) (gN 6) r__law_goes_b3) (sFrz 2 (sRet (xVar 2)))))) (sNext)) (sSeq (sAsg (gT (gsCons (gN 9) (gsCons (gN 10) (gsNil)))) (xOp ixAD (xVar 1) (xC (.int 0)))) (sSeq (sSet 8 (xOp ixAD (xVar 1) (xC (.int 1)))) (sSeq (sIf (tEither (tE (xOp neD (xOp ixAD (xVar 8) (xC (.int 1))) (xC (.str "")))) (tBoth (tE (xOp eqD (xOp ixAD (xVar 8) (xC (.int 0))) (xC (.str "")))) (tE (xOp isNND (xVar 9) (xC .non))))) (sIf (tE (xOp isNND (xVar 9) (xC .non))) (sFor (iAny (xCall 2 f__law_moves (aCons (xVar 0) (aCons (xVar 9) (aNil))))) (gT (gsCons (gN 11) (gsCons (gN 4) (gsCons (gN 5) (gsNil))))) r__law_goes_b4) (sNext)) (sIf (tE (xOp isNND (xVar 10) (xC .non))) (sFor (iAny (xCall 2 f__law_moves (aCons (xVar 0) (aCons (xVar 10) (aNil))))) (gT (gsCons (gN 11) (gsCons (gN 4) (gsCons (gN 5) (gsNil))))) r__law_goes_b5) (sNext))) (sFrz 2 (sRet (xL (lComp [12] (iAny (xVar 2)) (gN 12) (tE (xOp isNND (xOp ixAD (xOp ixAD (xVar 12) (xC (.int 1))) (xC (.int 1))) (xC .non))) (xVar 12)))))))))
noncomputable def f__law_goes : List D → M D := fnD 13 r__law_goes
noncomputable def r__law_fewest_b1 : DStm3 := sPushM
noncomputable def r__law_fewest_b2 : DStm3 := sSeq3 (dWhile3 (tE3 (xOp3 leD (xLen0M) (fun _ => xOp addD (xVar 3) (xVar 6)))) r__law_fewest_b1 fuel) (sSeq3 (sLiftM 1 (sIf (tE (xOp eqD (xVar 6) (xC (.int 0)))) (sApp 4 (xVar 7)) (sNext))) (sPutAtM (xOp addD (xVar 3) (xVar 6)) (xVar 7) (xC (.bl true))))
noncomputable def r__law_fewest_b3 : DStm3 := sSeq3 (sLiftM 1 (sPopL 5 4)) (sIf3 (fun _ => tE (xNinX 2 (xVar 5))) (sSeq3 (sLiftM 1 (sPutX 2 (xVar 5) (xC (.bl true)))) (sSeq3 (sLiftM 1 (sIf (tE (xOp eqD (xVar 5) (xTup (aCons (xTup (aCons (xC .non) (aCons (xC .non) (aNil)))) (aCons (xTup (aCons (xC (.str "")) (aCons (xC (.str "")) (aNil)))) (aNil)))))) (sRet (xVar 3)) (sNext))) (sFor3 (iAny (xCall 2 f__law_goes (aCons (xVar 0) (aCons (xVar 5) (aNil))))) (gT (gsCons (gN 6) (gsCons (gN 7) (gsNil)))) r__law_fewest_b2))) (sNext3))
noncomputable def r__law_fewest_b4 : DStm3 := sSeq3 (sListM 4 (xVar 3)) (sSeq3 (dWhile3 (fun _ => tE (xOp gtD (xLenO 4) (xC (.int 0)))) r__law_fewest_b3 fuel) (sLiftM 1 (sSet 3 (xOp addD (xVar 3) (xC (.int 1))))))
noncomputable def r__law_fewest_n5 : DStm3 := sSeq3 (sLiftM 1 (sDic0 2)) (sSeq3 (sLiftM 1 (sSet 3 (xC (.int 0)))) (sSeq3 (dWhile3 (tE3 (xOp3 ltD (fun _ => xVar 3) (xLen0M))) r__law_fewest_b4 fuel) (sLiftM 1 (sRet (xC .non)))))
noncomputable def r__law_fewest : DStm := sEnterM 1 (xTup (aCons (xC (.str "same")) (aCons (xC (.int 0)) (aNil)))) (xC (.bl true)) r__law_fewest_n5
noncomputable def f__law_fewest : List D → M D := fnD 8 r__law_fewest
noncomputable def r__law_right : DStm := sSeq (sIf (tEither (tNo (tE (xUn (isiD "tuple") (xVar 1)))) (tE (xOp neD (xCb lenD (aCons (xVar 1) (aNil))) (xC (.int 2))))) (sRet (xC (.bl false))) (sNext)) (sSeq (sIf (tEither (tNo (tE (xCall 2 f__law_is_message (aCons (xOp ixAD (xVar 1) (xC (.int 0))) (aCons (xOp ixAD (xVar 0) (xC (.int 0))) (aNil)))))) (tNo (tE (xCall 2 f__law_is_message (aCons (xOp ixAD (xVar 1) (xC (.int 1))) (aCons (xOp ixAD (xVar 0) (xC (.int 0))) (aNil))))))) (sRet (xC (.bl false))) (sNext)) (sSeq (sIf (tEither (tE (xOp eqD (xOp ixAD (xVar 1) (xC (.int 0))) (xOp ixAD (xVar 1) (xC (.int 1))))) (tE (xOp neD (xOp addD (xCb lenD (aCons (xOp ixAD (xVar 1) (xC (.int 0))) (aNil))) (xCb lenD (aCons (xOp ixAD (xVar 1) (xC (.int 1))) (aNil)))) (xVar 2)))) (sRet (xC (.bl false))) (sNext)) (sRet (xOp eqD (xCall 2 f__law_written (aCons (xVar 0) (aCons (xOp ixAD (xVar 1) (xC (.int 0))) (aNil)))) (xCall 2 f__law_written (aCons (xVar 0) (aCons (xOp ixAD (xVar 1) (xC (.int 1))) (aNil))))))))
noncomputable def f__law_right : List D → M D := fnD 3 r__law_right
noncomputable def r_law : DStm := sSeq (sSet 1 (xCall 3 f__law_writer (aCons (xVar 0) (aCons (xC (.int 0)) (aCons (xOp ixAD (xL (lLst (aCons (xTup (aCons (xC (.int 4)) (aCons (xC (.int 4)) (aCons (xC (.int 3)) (aNil))))) (aCons (xTup (aCons (xC (.int 4)) (aCons (xC (.int 6)) (aCons (xC (.int 8)) (aNil))))) (aNil))))) (xCb intAD (aCons (xOp eqD (xOp modD (xCall 2 f__law_cell_at (aCons (xVar 0) (aCons (xC (.int 2)) (aNil)))) (xC (.int 8))) (xC (.int 1))) (aNil)))) (aNil)))))) (sSeq (sSet 2 (xCall 1 f__law_fewest (aCons (xVar 1) (aNil)))) (sLose 3 1 f_alike (aCons (xVar 1) (aNil)) (tE (xOp isND (xVar 2) (xC .non))) (xOp isND (xVar 3) (xC .non)) (tNo (tE (xCall 3 f__law_right (aCons (xVar 1) (aCons (xVar 3) (aCons (xVar 2) (aNil))))))) (xC (.bl false)) (sRet (xCall 3 f__law_right (aCons (xVar 1) (aCons (xCall 1 f_alike (aCons (xVar 1) (aNil))) (aCons (xVar 2) (aNil))))))))
noncomputable def f_law : List D → M D := fnD 4 r_law
/-! ### the walks -/
structure Txt (K : PySem.W.Frag) (mg : Str → Option Value) : Prop where
  f_is_word : ∃ f fd, Fun K "is_word" "is_word" s_is_word f fd ∧ mg "is_word" = some (.ref f)
  f_asked_writer : ∃ f fd, Fun K "asked_writer" "asked_writer" s_asked_writer f fd ∧ mg "asked_writer" = some (.ref f)
  f_rest_of : ∃ f fd, Fun K "rest_of" "rest_of" s_rest_of f fd ∧ mg "rest_of" = some (.ref f)
  f_moves_of : ∃ f fd, Fun K "moves_of" "moves_of" s_moves_of f fd ∧ mg "moves_of" = some (.ref f)
  f_starts_of : ∃ f fd, Fun K "starts_of" "starts_of" s_starts_of f fd ∧ mg "starts_of" = some (.ref f)
  f_after_move : ∃ f fd, Fun K "after_move" "after_move" s_after_move f fd ∧ mg "after_move" = some (.ref f)
  f_put : ∃ f fd, Fun K "put" "put" s_put f fd ∧ mg "put" = some (.ref f)
  f_begun : ∃ f fd, Fun K "begun" "begun" s_begun f fd ∧ mg "begun" = some (.ref f)
  f_gone_on : ∃ f fd, Fun K "gone_on" "gone_on" s_gone_on f fd ∧ mg "gone_on" = some (.ref f)
  f_alike : ∃ f fd, Fun K "alike" "alike" s_alike f fd ∧ mg "alike" = some (.ref f)
  f__law_cell_at : ∃ f fd, Fun K "_law_cell_at" "_law_cell_at" s__law_cell_at f fd ∧ mg "_law_cell_at" = some (.ref f)
  f__law_stirred : ∃ f fd, Fun K "_law_stirred" "_law_stirred" s__law_stirred f fd ∧ mg "_law_stirred" = some (.ref f)
  f__law_word : ∃ f fd, Fun K "_law_word" "_law_word" s__law_word f fd ∧ mg "_law_word" = some (.ref f)
  f__law_writer : ∃ f fd, Fun K "_law_writer" "_law_writer" s__law_writer f fd ∧ mg "_law_writer" = some (.ref f)
  f__law_written : ∃ f fd, Fun K "_law_written" "_law_written" s__law_written f fd ∧ mg "_law_written" = some (.ref f)
  f__law_is_message : ∃ f fd, Fun K "_law_is_message" "_law_is_message" s__law_is_message f fd ∧ mg "_law_is_message" = some (.ref f)
  f__law_over : ∃ f fd, Fun K "_law_over" "_law_over" s__law_over f fd ∧ mg "_law_over" = some (.ref f)
  f__law_moves : ∃ f fd, Fun K "_law_moves" "_law_moves" s__law_moves f fd ∧ mg "_law_moves" = some (.ref f)
  f__law_goes : ∃ f fd, Fun K "_law_goes" "_law_goes" s__law_goes f fd ∧ mg "_law_goes" = some (.ref f)
  f__law_fewest : ∃ f fd, Fun K "_law_fewest" "_law_fewest" s__law_fewest f fd ∧ mg "_law_fewest" = some (.ref f)
  f__law_right : ∃ f fd, Fun K "_law_right" "_law_right" s__law_right f fd ∧ mg "_law_right" = some (.ref f)
  f_law : ∃ f fd, Fun K "law" "law" s_law f fd ∧ mg "law" = some (.ref f)
  z_bool : mg "bool" = none
  z_int : mg "int" = none
  z_isinstance : mg "isinstance" = none
  z_len : mg "len" = none
  z_list : mg "list" = none
  z_min : mg "min" = none
  z_range : mg "range" = none
  z_tuple : mg "tuple" = none
  t_LETTERS : ∃ t, mg "LETTERS" = some (.str "abcd" t)
  t_LONGEST : ∃ t, mg "LONGEST" = some (.int 8 t)
  t_SIGNS : ∃ t, mg "SIGNS" = some (.int 4 t)
  t_STATES : ∃ t, mg "STATES" = some (.int 6 t)
  e_NoWriter : ExcF K mg "NoWriter"
section
variable {P : Program} {w : World} {K : PySem.W.Frag} {mg : Str → Option Value} {base : Heap}
theorem w_is_word (T : Txt K mg) : DFn P w K mg base 1 "is_word" 1 f_is_word := by
  obtain ⟨f, fd, F, hx⟩ := T.f_is_word
  obtain ⟨k_LETTERS, g_LETTERS⟩ := T.t_LETTERS
  obtain ⟨k_LONGEST, g_LONGEST⟩ := T.t_LONGEST
  refine DFn.mk' (k := 0) (N := N_is_word) F sc_is_word rfl hx (fun _ _ _ _ _ _ us hl => match us, hl with | [_], _ => rfl) (fun cdv A outer s H E hr tk hp => ?_)
  have nd := sc_is_word.nd
  exact (dss_one (ds_ret (de_and (de_cmp ox_le (de_cb cx_len rfl T.z_len PySem.boot_len (da_cons (dv 0) da_nil)) (de_globI rfl g_LONGEST) (nomark _)) (de_one (de_cmp (ox_eq hr.units) (de_ofL (dl_compIf [("letter", 1)] rfl rfl nd (di_any (dv 0)) (blkOk_by (own := [("letter", 1)]) (N := N_is_word) (sc := defScope s_is_word) (by decide +kernel)) (fun _ _ _ _ _ => (dg_name 1 nd)) (fun _ _ _ _ _ => (dt_cmp ox_ninS (dv 1) (de_globS rfl g_LETTERS) (by rfl))) (fun _ _ _ _ _ => (dv 1)) (by decide))) (de_ofL (dl_lst da_nil)) (nomark _))))))
theorem w_asked_writer (T : Txt K mg) : DFn P w K mg base 2 "asked_writer" 1 f_asked_writer := by
  obtain ⟨f, fd, F, hx⟩ := T.f_asked_writer
  obtain ⟨k_SIGNS, g_SIGNS⟩ := T.t_SIGNS
  obtain ⟨k_STATES, g_STATES⟩ := T.t_STATES
  refine DFn.mk' (k := 1) (N := N_asked_writer) F sc_asked_writer rfl hx (fun _ _ _ _ _ _ us hl => match us, hl with | [_], _ => rfl) (fun cdv A outer s H E hr tk hp => ?_)
  have nd := sc_asked_writer.nd
  exact (dss_cons (ds_asg (dg_tup rfl (dgs_cons (dg_name 1 nd) (dgs_cons (dg_name 2 nd) (dgs_cons (dg_name 3 nd) dgs_nil))) (gsl_cons (gsl_cons (gsl_cons (fun _ _ _ h => gsl_nil h))))) (dv 0))
  (dss_cons (ds_if (dt_w (dw_or (dt_cmp ox_lt (dv 1) de_int (nomark _)) (dw_or (dt_cmp ox_gt (dv 1) (de_globI rfl g_SIGNS) (nomark _)) (dw_or (dt_cmp ox_lt (de_cb cx_len rfl T.z_len PySem.boot_len (da_cons (dv 2) da_nil)) de_int (nomark _)) (dw_or (dt_cmp ox_gt (de_cb cx_len rfl T.z_len PySem.boot_len (da_cons (dv 2) da_nil)) (de_globI rfl g_STATES) (nomark _)) (dw_or1 (dt_cmp (ox_ne hr.units) (de_cb cx_len rfl T.z_len PySem.boot_len (da_cons (dv 3) da_nil)) (de_cb cx_len rfl T.z_len PySem.boot_len (da_cons (dv 2) da_nil)) (nomark _))))))))
   (dss_one (ds_raise T.e_NoWriter tk))
   dss_nil)
  (dss_cons (ds_for hp rfl (di_any (dv 2)) (dg_name 4 nd)
   (dss_cons (ds_if (dt_cmp (ox_ne hr.units) (de_cb cx_len rfl T.z_len PySem.boot_len (da_cons (dv 4) da_nil)) (dv 1) (nomark _))
   (dss_one (ds_raise T.e_NoWriter tk))
   dss_nil)
  (dss_one (ds_for hp rfl (di_any (dv 4)) (dg_tup rfl (dgs_cons (dg_name 5 nd) (dgs_cons (dg_name 6 nd) dgs_nil)) (gsl_cons (gsl_cons (fun _ _ _ h => gsl_nil h))))
   (dss_one (ds_if (dt_w (dw_or (dt_not (dt_val (de_call (w_is_word T) hr (by decide) tk (da_cons (dv 5) da_nil)))) (dw_or (dt_cmp ox_lt (dv 6) de_int (nomark _)) (dw_or1 (dt_cmp ox_ge (dv 6) (de_cb cx_len rfl T.z_len PySem.boot_len (da_cons (dv 2) da_nil)) (nomark _))))))
   (dss_one (ds_raise T.e_NoWriter tk))
   dss_nil))))))
  (dss_one (ds_for hp rfl (di_any (dv 3)) (dg_name 5 nd)
   (dss_one (ds_if (dt_not (dt_val (de_call (w_is_word T) hr (by decide) tk (da_cons (dv 5) da_nil))))
   (dss_one (ds_raise T.e_NoWriter tk))
   dss_nil)))))))
theorem w_rest_of (T : Txt K mg) : DFn P w K mg base 1 "rest_of" 2 f_rest_of := by
  obtain ⟨f, fd, F, hx⟩ := T.f_rest_of
  refine DFn.mk' (k := 0) (N := N_rest_of) F sc_rest_of rfl hx (fun _ _ _ _ _ _ us hl => match us, hl with | [_, _], _ => rfl) (fun cdv A outer s H E hr tk hp => ?_)
  have nd := sc_rest_of.nd
  exact (dss_cons (ds_if (dt_cmp (ox_eq hr.units) (de_slice (dv 0) do_none (do_some (de_cb cx_len rfl T.z_len PySem.boot_len (da_cons (dv 1) da_nil)))) (dv 1) (nomark _))
   (dss_one (ds_ret (de_tup (da_cons de_bl (da_cons (de_slice (dv 0) (do_some (de_cb cx_len rfl T.z_len PySem.boot_len (da_cons (dv 1) da_nil))) do_none) da_nil)))))
   dss_nil)
  (dss_cons (ds_if (dt_cmp (ox_eq hr.units) (de_slice (dv 1) do_none (do_some (de_cb cx_len rfl T.z_len PySem.boot_len (da_cons (dv 0) da_nil)))) (dv 0) (nomark _))
   (dss_one (ds_ret (de_tup (da_cons de_bl (da_cons (de_slice (dv 1) (do_some (de_cb cx_len rfl T.z_len PySem.boot_len (da_cons (dv 0) da_nil))) do_none) da_nil)))))
   dss_nil)
  (dss_one (ds_ret de_non))))
theorem w_moves_of (T : Txt K mg) : DFn P w K mg base 1 "moves_of" 2 f_moves_of := by
  obtain ⟨f, fd, F, hx⟩ := T.f_moves_of
  refine DFn.mk' (k := 0) (N := N_moves_of) F sc_moves_of rfl hx (fun _ _ _ _ _ _ us hl => match us, hl with | [_, _], _ => rfl) (fun cdv A outer s H E hr tk hp => ?_)
  have nd := sc_moves_of.nd
  exact (dss_cons (ds_own 2 nd (dl_lst (da_cons (de_tup (da_cons (de_ofL (dl_lst da_nil)) (da_cons (de_ix (de_ix (dv 0) de_int) (dv 1)) (da_cons de_non da_nil)))) da_nil)))
  (dss_cons (ds_for hp rfl (di_rng1 T.z_range (da_cons (de_ix (dv 0) de_int) da_nil)) (dg_name 3 nd)
   (dss_cons (ds_asg (dg_tup rfl (dgs_cons (dg_name 4 nd) (dgs_cons (dg_name 5 nd) dgs_nil)) (gsl_cons (gsl_cons (fun _ _ _ h => gsl_nil h)))) (de_ix (de_ix (de_ix (dv 0) de_int) (dv 1)) (dv 3)))
  (dss_one (ds_app 2 (de_tup (da_cons (de_ofL (dl_lst (da_cons (dv 3) da_nil))) (da_cons (dv 4) (da_cons (dv 5) da_nil))))))))
  (dss_one (ds_frz 2 (ds_ret (dv 2))))))
theorem w_starts_of (T : Txt K mg) : DFn P w K mg base 2 "starts_of" 2 f_starts_of := by
  obtain ⟨f, fd, F, hx⟩ := T.f_starts_of
  refine DFn.mk' (k := 1) (N := N_starts_of) F sc_starts_of rfl hx (fun _ _ _ _ _ _ us hl => match us, hl with | [_, _], _ => rfl) (fun cdv A outer s H E hr tk hp => ?_)
  have nd := sc_starts_of.nd
  exact (dss_cons (ds_set 2 nd (de_call (w_moves_of T) hr (by decide) tk (da_cons (dv 0) (da_cons (dv 1) da_nil))))
  (dss_cons (ds_own 3 nd (dl_lst da_nil))
  (dss_cons (ds_for hp rfl (di_rng1 T.z_range (da_cons (de_cb cx_len rfl T.z_len PySem.boot_len (da_cons (dv 2) da_nil)) da_nil)) (dg_name 4 nd)
   (dss_one (ds_for hp rfl (di_rng1 T.z_range (da_cons (dv 4) da_nil)) (dg_name 5 nd)
   (dss_one (ds_app 3 (de_tup (da_cons (de_ix (dv 2) (dv 5)) (da_cons (de_ix (dv 2) (dv 4)) da_nil))))))))
  (dss_one (ds_frz 3 (ds_ret (dv 3)))))))
theorem w_after_move (T : Txt K mg) : DFn P w K mg base 2 "after_move" 2 f_after_move := by
  obtain ⟨f, fd, F, hx⟩ := T.f_after_move
  refine DFn.mk' (k := 1) (N := N_after_move) F sc_after_move rfl hx (fun _ _ _ _ _ _ us hl => match us, hl with | [_, _], _ => rfl) (fun cdv A outer s H E hr tk hp => ?_)
  have nd := sc_after_move.nd
  exact (dss_cons (ds_set 2 nd (de_call (w_rest_of T) hr (by decide) tk (da_cons (de_ix (dv 0) de_int) (da_cons (de_ix (dv 1) de_int) da_nil))))
  (dss_cons (ds_if (dt_cmp ox_isN (dv 2) de_non (nomark _))
   (dss_one (ds_ret de_non))
   dss_nil)
  (dss_cons (ds_if (dt_val (de_ix (dv 2) de_int))
   (dss_cons (ds_if (dt_w (dw_and (dt_cmp (ox_eq hr.units) (de_ix (dv 2) de_int) de_str (nomark _)) (dw_and1 (dt_cmp ox_isN (de_ix (dv 1) de_int) de_non (nomark _)))))
   (dss_one (ds_ret (de_tup (da_cons (de_tup (da_cons (de_ix (dv 0) de_int) (da_cons de_non (da_cons de_str da_nil)))) (da_cons de_bl da_nil)))))
   dss_nil)
  (dss_one (ds_ret (de_tup (da_cons (de_tup (da_cons (de_ix (dv 1) de_int) (da_cons (de_ix (dv 0) de_int) (da_cons (de_ix (dv 2) de_int) da_nil)))) (da_cons de_bl da_nil))))))
   dss_nil)
  (dss_one (ds_ret (de_tup (da_cons (de_tup (da_cons (de_ix (dv 0) de_int) (da_cons (de_ix (dv 1) de_int) (da_cons (de_ix (dv 2) de_int) da_nil)))) (da_cons de_bl da_nil))))))))
theorem w_put (T : Txt K mg) : DFnN P w K mg base 1 "put" 2 0 f_put := by
  obtain ⟨f, fd, F, hx⟩ := T.f_put
  refine DFnN.mk' (k := 0) (N := N_put) F sc_put rfl hx (by decide) (fun _ _ _ _ _ _ us hl => match us, hl with | [_, _, _], _ => rfl) (fun cdv A outer s H E hr tk hp => ?_)
  have nd := sc_put.nd
  exact (dss2_cons (ds2_while fuel hp (dt2_cmp ox_le (de2_len0 T.z_len) (de2_lift (dv 1)) (nomark _))
   (dss2_one ds2_push))
  (dss2_one (ds2_appAt (dv 1) (dv 2))))
theorem w_begun (T : Txt K mg) : DFnN P w K mg base 3 "begun" 4 1 f_begun := by
  obtain ⟨f, fd, F, hx⟩ := T.f_begun
  refine DFnN.mk' (k := 2) (N := N_begun) F sc_begun rfl hx (by decide) (fun _ _ _ _ _ _ us hl => match us, hl with | [_, _, _, _, _], _ => rfl) (fun cdv A outer s H E hr tk hp => ?_)
  have nd := sc_begun.nd
  exact (dss2_one (ds2_for hp rfl (di_any (de_call (w_starts_of T) hr (by decide) tk (da_cons (dv 0) (da_cons (dv 3) da_nil)))) (dg_tup rfl (dgs_cons (dg_name 5 nd) (dgs_cons (dg_name 6 nd) dgs_nil)) (gsl_cons (gsl_cons (fun _ _ _ h => gsl_nil h))))
   (dss2_cons (ds2_lift (ds_set 7 nd (de_call (w_rest_of T) hr (by decide) tk (da_cons (de_ix (dv 6) de_int) (da_cons (de_ix (dv 5) de_int) da_nil)))))
  (dss2_one (ds2_if (dt2_lift (dt_cmp ox_isNN (dv 7) de_non (nomark _)))
   (dss2_cons (ds2_lift (ds_set 8 nd (de_bin ox_add (dv 4) (de_ix (dv 5) de_int))))
  (dss2_cons (ds2_lift (ds_set 9 nd (de_bin ox_add (dv 4) (de_ix (dv 6) de_int))))
  (dss2_cons (ds2_lift (ds_set 10 nd (de_bin ox_add (de_bin ox_add (dv 2) (de_cb cx_len rfl T.z_len PySem.boot_len (da_cons (de_ix (dv 5) de_int) da_nil))) (de_cb cx_len rfl T.z_len PySem.boot_len (da_cons (de_ix (dv 6) de_int) da_nil)))))
  (dss2_cons (ds2_lift (ds_if (dt_val (de_ix (dv 7) de_int))
   (dss_one (ds_set 11 nd (de_tup (da_cons (de_ix (dv 5) de_int) (da_cons (de_ix (dv 6) de_int) (da_cons (de_ix (dv 7) de_int) da_nil))))))
   (dss_cons (ds_set 11 nd (de_tup (da_cons (de_ix (dv 6) de_int) (da_cons (de_ix (dv 5) de_int) (da_cons (de_ix (dv 7) de_int) da_nil)))))
  (dss_one (ds_par 8 9 nd (da_cons (dv 9) (da_cons (dv 8) da_nil)))))))
  (dss2_cons (ds2_lift (ds_if (dt_w (dw_and (dt_cmp ox_isN (de_ix (dv 11) de_int) de_non (nomark _)) (dw_and1 (dt_cmp (ox_eq hr.units) (de_ix (dv 11) de_int) de_str (nomark _)))))
   (dss_cons (ds_set 11 nd (de_tup (da_cons (de_ix (dv 11) de_int) (da_cons de_non (da_cons de_str da_nil)))))
  (dss_one (ds_par 8 9 nd (da_cons (dv 9) (da_cons (dv 8) da_nil)))))
   dss_nil))
  (dss2_one (ds2_call (w_put T) hr (by decide) (by decide) tk (dan0 (da_cons (dv 10) (da_cons (de_tup (da_cons (dv 11) (da_cons (dv 8) (da_cons (dv 9) da_nil)))) da_nil))))))))))
   dss2_nil)))))
theorem w_gone_on (T : Txt K mg) : DFnN P w K mg base 3 "gone_on" 3 1 f_gone_on := by
  obtain ⟨f, fd, F, hx⟩ := T.f_gone_on
  refine DFnN.mk' (k := 2) (N := N_gone_on) F sc_gone_on rfl hx (by decide) (fun _ _ _ _ _ _ us hl => match us, hl with | [_, _, _, _], _ => rfl) (fun cdv A outer s H E hr tk hp => ?_)
  have nd := sc_gone_on.nd
  exact (dss2_cons (ds2_lift (ds_asg (dg_tup rfl (dgs_cons (dg_name 4 nd) (dgs_cons (dg_name 5 nd) (dgs_cons (dg_name 6 nd) dgs_nil))) (gsl_cons (gsl_cons (gsl_cons (fun _ _ _ h => gsl_nil h))))) (dv 3)))
  (dss2_one (ds2_for hp rfl (di_any (de_call (w_moves_of T) hr (by decide) tk (da_cons (dv 0) (da_cons (de_ix (dv 4) de_int) da_nil)))) (dg_name 7 nd)
   (dss2_cons (ds2_lift (ds_set 8 nd (de_call (w_after_move T) hr (by decide) tk (da_cons (dv 4) (da_cons (dv 7) da_nil)))))
  (dss2_one (ds2_if (dt2_lift (dt_cmp ox_isNN (dv 8) de_non (nomark _)))
   (dss2_cons (ds2_lift (ds_set 9 nd (de_bin ox_add (dv 5) (de_ix (dv 7) de_int))))
  (dss2_one (ds2_if (dt2_lift (dt_val (de_ix (dv 8) de_int)))
   (dss2_one (ds2_call (w_put T) hr (by decide) (by decide) tk (dan0 (da_cons (de_bin ox_add (dv 2) (de_cb cx_len rfl T.z_len PySem.boot_len (da_cons (de_ix (dv 7) de_int) da_nil))) (da_cons (de_tup (da_cons (de_ix (dv 8) de_int) (da_cons (dv 6) (da_cons (dv 9) da_nil)))) da_nil)))))
   (dss2_one (ds2_call (w_put T) hr (by decide) (by decide) tk (dan0 (da_cons (de_bin ox_add (dv 2) (de_cb cx_len rfl T.z_len PySem.boot_len (da_cons (de_ix (dv 7) de_int) da_nil))) (da_cons (de_tup (da_cons (de_ix (dv 8) de_int) (da_cons (dv 9) (da_cons (dv 6) da_nil)))) da_nil))))))))
   dss2_nil))))))
theorem w_alike (T : Txt K mg) : DFn P w K mg base 4 "alike" 1 f_alike := by
  obtain ⟨f, fd, F, hx⟩ := T.f_alike
  refine DFn.mk' (k := 3) (N := N_alike) F sc_alike rfl hx (fun _ _ _ _ _ _ us hl => match us, hl with | [_], _ => rfl) (fun cdv A outer s H E hr tk hp => ?_)
  have nd := sc_alike.nd
  exact (dss_cons (ds_expr (de_call (w_asked_writer T) hr (by decide) tk (da_cons (dv 0) da_nil)))
  (dss_enter nd (dl_lst (da_cons (de_tup (da_cons de_int (da_cons (de_ofL (dl_lst da_nil)) da_nil))) da_nil))
  (dss2_cons (ds2_lift (ds_dic0 2 nd))
  (dss2_cons (ds2_lift (ds_set 3 nd de_int))
  (dss2_cons (ds2_while fuel hp (dt2_cmp ox_lt (de2_lift (dv 3)) (de2_len0 T.z_len) (nomark _))
   (dss2_cons (ds2_lift (ds_set 4 nd de_int))
  (dss2_cons (ds2_while fuel hp (dt2_cmp ox_lt (de2_lift (dv 4)) (de2_len1 (dv 3) T.z_len) (nomark _))
   (dss2_cons (ds2_set 5 nd (de2_at (dv 3) (dv 4)))
  (dss2_cons (ds2_lift (ds_set 4 nd (de_bin ox_add (dv 4) de_int)))
  (dss2_cons (ds2_lift (ds_if (de_inX 2 hr.units (de_ix (dv 5) de_int)).2
   (dss_one ds_cont)
   dss_nil))
  (dss2_cons (ds2_lift (ds_putX 2 hr.units (de_ix (dv 5) de_int) de_bl))
  (dss2_one (ds2_if (dt2_lift (dt_cmp (ox_eq hr.units) (de_cb cx_len rfl T.z_len PySem.boot_len (da_cons (dv 5) da_nil)) de_int (nomark _)))
   (dss2_cons (ds2_call (w_begun T) hr (by decide) (by decide) tk (dan1 (dv 0) (da_cons (dv 3) (da_cons (de_ix (dv 5) de_int) (da_cons (de_ix (dv 5) de_int) da_nil)))))
  (dss2_one (ds2_for hp rfl (di_rng1 T.z_range (da_cons (de_ix (dv 0) de_int) da_nil)) (dg_name 6 nd)
   (dss2_one (ds2_call (w_put T) hr (by decide) (by decide) tk (dan0 (da_cons (de_bin ox_add (dv 3) de_int) (da_cons (de_tup (da_cons (de_ix (de_ix (de_ix (de_ix (dv 0) de_int) (de_ix (dv 5) de_int)) (dv 6)) de_int) (da_cons (de_bin ox_add (de_ix (dv 5) de_int) (de_ofL (dl_lst (da_cons (dv 6) da_nil)))) da_nil))) da_nil))))))))
   (dss2_one (ds2_if (dt2_lift (dt_cmp (ox_eq hr.units) (de_ix (dv 5) de_int) (de_tup (da_cons de_non (da_cons de_non (da_cons de_str da_nil)))) (nomark _)))
   (dss2_one (ds2_lift (ds_ret (de_tup (da_cons (de_ix (dv 5) de_int) (da_cons (de_ix (dv 5) de_int) da_nil))))))
   (dss2_one (ds2_if (dt2_lift (dt_cmp ox_isNN (de_ix (de_ix (dv 5) de_int) de_int) de_non (nomark _)))
   (dss2_one (ds2_call (w_gone_on T) hr (by decide) (by decide) tk (dan1 (dv 0) (da_cons (dv 3) (da_cons (dv 5) da_nil)))))
   dss2_nil)))))))))))
  (dss2_one (ds2_lift (ds_set 3 nd (de_bin ox_add (dv 3) de_int)))))))
  (dss2_one (ds2_lift (ds_ret de_non))))))))
theorem w__law_cell_at (T : Txt K mg) : DFn P w K mg base 1 "_law_cell_at" 2 f__law_cell_at := by
  obtain ⟨f, fd, F, hx⟩ := T.f__law_cell_at
  refine DFn.mk' (k := 0) (N := N__law_cell_at) F sc__law_cell_at rfl hx (fun _ _ _ _ _ _ us hl => match us, hl with | [_, _], _ => rfl) (fun cdv A outer s H E hr tk hp => ?_)
  have nd := sc__law_cell_at.nd
  exact (dss_cons (ds_if (dt_cmp ox_lt (dv 1) (de_cb cx_len rfl T.z_len PySem.boot_len (da_cons (dv 0) da_nil)) (nomark _))
   (dss_one (ds_ret (de_ix (dv 0) (dv 1))))
   dss_nil)
  (dss_one (ds_ret de_int)))
theorem w__law_stirred (T : Txt K mg) : DFn P w K mg base 1 "_law_stirred" 2 f__law_stirred := by
  obtain ⟨f, fd, F, hx⟩ := T.f__law_stirred
  refine DFn.mk' (k := 0) (N := N__law_stirred) F sc__law_stirred rfl hx (fun _ _ _ _ _ _ us hl => match us, hl with | [_, _], _ => rfl) (fun cdv A outer s H E hr tk hp => ?_)
  have nd := sc__law_stirred.nd
  exact (dss_cons (ds_set 2 nd (de_bin ox_mod (de_bin ox_mul (de_bin ox_add (de_bin ox_add (dv 0) (de_bin ox_mul de_int (dv 1))) de_int) de_int) de_int))
  (dss_cons (ds_set 2 nd (de_bin ox_mod (de_bin ox_mul (dv 2) (dv 2)) de_int))
  (dss_one (ds_ret (de_bin ox_fdiv (de_bin ox_mod (de_bin ox_mul (dv 2) de_int) de_int) de_int)))))
theorem w__law_word (T : Txt K mg) : DFn P w K mg base 1 "_law_word" 3 f__law_word := by
  obtain ⟨f, fd, F, hx⟩ := T.f__law_word
  refine DFn.mk' (k := 0) (N := N__law_word) F sc__law_word rfl hx (fun _ _ _ _ _ _ us hl => match us, hl with | [_, _, _], _ => rfl) (fun cdv A outer s H E hr tk hp => ?_)
  have nd := sc__law_word.nd
  exact (dss_cons (ds_set 3 nd (de_bin ox_mod (dv 0) (de_bin ox_add (dv 1) de_int)))
  (dss_cons (ds_set 0 nd (de_bin ox_fdiv (dv 0) (de_bin ox_add (dv 1) de_int)))
  (dss_cons (ds_set 4 nd de_str)
  (dss_cons (ds_for hp rfl (di_rng1 T.z_range (da_cons (dv 3) da_nil)) (dg_name 5 nd)
   (dss_cons (ds_set 4 nd (de_bin ox_add (dv 4) (de_ix de_str (de_bin ox_mod (dv 0) (dv 2)))))
  (dss_one (ds_set 0 nd (de_bin ox_fdiv (dv 0) (dv 2))))))
  (dss_one (ds_ret (de_tup (da_cons (dv 4) (da_cons (dv 0) da_nil)))))))))
theorem w__law_writer (T : Txt K mg) : DFn P w K mg base 2 "_law_writer" 3 f__law_writer := by
  obtain ⟨f, fd, F, hx⟩ := T.f__law_writer
  refine DFn.mk' (k := 1) (N := N__law_writer) F sc__law_writer rfl hx (fun _ _ _ _ _ _ us hl => match us, hl with | [_, _, _], _ => rfl) (fun cdv A outer s H E hr tk hp => ?_)
  have nd := sc__law_writer.nd
  exact (dss_cons (ds_set 3 nd (de_call (w__law_cell_at T) hr (by decide) tk (da_cons (dv 0) (da_cons (dv 1) da_nil))))
  (dss_cons (ds_set 4 nd (de_bin ox_add de_int (de_bin ox_mod (de_bin ox_fdiv (dv 3) de_int) (de_ix (dv 2) de_int))))
  (dss_cons (ds_set 5 nd (de_bin ox_mod (de_bin ox_fdiv (dv 3) de_int) (de_bin ox_add (de_ix (dv 2) de_int) de_int)))
  (dss_cons (ds_set 6 nd (de_bin ox_add de_int (de_bin ox_mod (de_bin ox_fdiv (dv 3) de_int) de_int)))
  (dss_cons (ds_set 7 nd (de_call (w__law_cell_at T) hr (by decide) tk (da_cons (dv 0) (da_cons (de_bin ox_add (dv 1) de_int) da_nil))))
  (dss_cons (ds_set 8 nd (dv 7))
  (dss_cons (ds_own 9 nd (dl_lst da_nil))
  (dss_cons (ds_own 10 nd (dl_lst da_nil))
  (dss_cons (ds_for hp rfl (di_rng1 T.z_range (da_cons (dv 4) da_nil)) (dg_name 11 nd)
   (dss_cons (ds_own 12 nd (dl_lst da_nil))
  (dss_cons (ds_for hp rfl (di_rng1 T.z_range (da_cons (de_bin ox_add de_int (de_bin ox_mod (dv 3) (de_ix (dv 2) de_int))) da_nil)) (dg_name 13 nd)
   (dss_cons (ds_if (dt_cmp (ox_eq hr.units) (de_bin ox_mod (de_bin ox_fdiv (dv 3) de_int) de_int) de_int (nomark _))
   (dss_one (ds_set 8 nd (de_call (w__law_stirred T) hr (by decide) tk (da_cons (dv 7) (da_cons (de_bin ox_add (de_bin ox_mul de_int (dv 11)) (de_bin ox_mul de_int (dv 13))) da_nil)))))
   dss_nil)
  (dss_cons (ds_set 14 nd (de_bin ox_mod (dv 8) (dv 4)))
  (dss_cons (ds_asg (dg_tup rfl (dgs_cons (dg_name 15 nd) (dgs_cons (dg_name 8 nd) dgs_nil)) (gsl_cons (gsl_cons (fun _ _ _ h => gsl_nil h)))) (de_call (w__law_word T) hr (by decide) tk (da_cons (de_bin ox_fdiv (dv 8) (dv 4)) (da_cons (dv 5) (da_cons (dv 6) da_nil)))))
  (dss_one (ds_app 12 (de_tup (da_cons (dv 15) (da_cons (dv 14) da_nil)))))))))
  (dss_cons (ds_frz 12 (ds_app 9 (de_ct cx_tup rfl T.z_tuple boot_tuple (da_cons (dv 12) da_nil))))
  (dss_cons (ds_if (dt_cmp (ox_eq hr.units) (de_bin ox_mod (de_bin ox_fdiv (dv 3) de_int) de_int) de_int (nomark _))
   (dss_one (ds_set 8 nd (de_call (w__law_stirred T) hr (by decide) tk (da_cons (dv 7) (da_cons (de_bin ox_add (de_bin ox_mul de_int (dv 11)) de_int) da_nil)))))
   dss_nil)
  (dss_cons (ds_asg (dg_tup rfl (dgs_cons (dg_name 15 nd) (dgs_cons (dg_name 8 nd) dgs_nil)) (gsl_cons (gsl_cons (fun _ _ _ h => gsl_nil h)))) (de_call (w__law_word T) hr (by decide) tk (da_cons (dv 8) (da_cons (de_cb (cx_min2 rfl) rfl T.z_min boot_min (da_cons (dv 5) (da_cons (de_bin ox_add de_int (de_bin ox_mod (de_bin ox_fdiv (dv 3) de_int) de_int)) da_nil))) (da_cons (dv 6) da_nil)))))
  (dss_one (ds_app 10 (dv 15)))))))))
  (dss_one (ds_frz 10 (ds_frz 9 (ds_ret (de_tup (da_cons (de_bin ox_add de_int (de_bin ox_mod (dv 3) (de_ix (dv 2) de_int))) (da_cons (de_ct cx_tup rfl T.z_tuple boot_tuple (da_cons (dv 9) da_nil)) (da_cons (de_ct cx_tup rfl T.z_tuple boot_tuple (da_cons (dv 10) da_nil)) da_nil)))))))))))))))))
theorem w__law_written (T : Txt K mg) : DFn P w K mg base 1 "_law_written" 2 f__law_written := by
  obtain ⟨f, fd, F, hx⟩ := T.f__law_written
  refine DFn.mk' (k := 0) (N := N__law_written) F sc__law_written rfl hx (fun _ _ _ _ _ _ us hl => match us, hl with | [_, _], _ => rfl) (fun cdv A outer s H E hr tk hp => ?_)
  have nd := sc__law_written.nd
  exact (dss_cons (ds_set 2 nd de_str)
  (dss_cons (ds_set 3 nd de_int)
  (dss_cons (ds_for hp rfl (di_any (dv 1)) (dg_name 4 nd)
   (dss_cons (ds_set 2 nd (de_bin ox_add (dv 2) (de_ix (de_ix (de_ix (de_ix (dv 0) de_int) (dv 3)) (dv 4)) de_int)))
  (dss_one (ds_set 3 nd (de_ix (de_ix (de_ix (de_ix (dv 0) de_int) (dv 3)) (dv 4)) de_int)))))
  (dss_one (ds_ret (de_bin ox_add (dv 2) (de_ix (de_ix (dv 0) de_int) (dv 3))))))))
theorem w__law_is_message (T : Txt K mg) : DFn P w K mg base 1 "_law_is_message" 2 f__law_is_message := by
  obtain ⟨f, fd, F, hx⟩ := T.f__law_is_message
  refine DFn.mk' (k := 0) (N := N__law_is_message) F sc__law_is_message rfl hx (fun _ _ _ _ _ _ us hl => match us, hl with | [_, _], _ => rfl) (fun cdv A outer s H E hr tk hp => ?_)
  have nd := sc__law_is_message.nd
  exact (dss_cons (ds_if (dt_not (dt_val (de_isi boot_list T.z_isinstance T.z_list (dv 0))))
   (dss_one (ds_ret de_bl))
   dss_nil)
  (dss_cons (ds_for hp rfl (di_any (dv 0)) (dg_name 2 nd)
   (dss_one (ds_if (dt_w (dw_or (dt_not (dt_val (de_isi boot_int T.z_isinstance T.z_int (dv 2)))) (dw_or (dt_val (de_isi boot_bool T.z_isinstance T.z_bool (dv 2))) (dw_or (dt_cmp ox_lt (dv 2) de_int (nomark _)) (dw_or1 (dt_cmp ox_ge (dv 2) (dv 1) (nomark _)))))))
   (dss_one (ds_ret de_bl))
   dss_nil)))
  (dss_one (ds_ret de_bl))))
theorem w__law_over (T : Txt K mg) : DFn P w K mg base 1 "_law_over" 2 f__law_over := by
  obtain ⟨f, fd, F, hx⟩ := T.f__law_over
  refine DFn.mk' (k := 0) (N := N__law_over) F sc__law_over rfl hx (fun _ _ _ _ _ _ us hl => match us, hl with | [_, _], _ => rfl) (fun cdv A outer s H E hr tk hp => ?_)
  have nd := sc__law_over.nd
  exact (dss_cons (ds_if (dt_cmp (ox_eq hr.units) (de_slice (dv 0) do_none (do_some (de_cb cx_len rfl T.z_len PySem.boot_len (da_cons (dv 1) da_nil)))) (dv 1) (nomark _))
   (dss_one (ds_ret (de_tup (da_cons (de_slice (dv 0) (do_some (de_cb cx_len rfl T.z_len PySem.boot_len (da_cons (dv 1) da_nil))) do_none) (da_cons de_str da_nil)))))
   dss_nil)
  (dss_cons (ds_if (dt_cmp (ox_eq hr.units) (de_slice (dv 1) do_none (do_some (de_cb cx_len rfl T.z_len PySem.boot_len (da_cons (dv 0) da_nil)))) (dv 0) (nomark _))
   (dss_one (ds_ret (de_tup (da_cons de_str (da_cons (de_slice (dv 1) (do_some (de_cb cx_len rfl T.z_len PySem.boot_len (da_cons (dv 0) da_nil))) do_none) da_nil)))))
   dss_nil)
  (dss_one (ds_ret de_non))))
theorem w__law_moves (T : Txt K mg) : DFn P w K mg base 1 "_law_moves" 2 f__law_moves := by
  obtain ⟨f, fd, F, hx⟩ := T.f__law_moves
  refine DFn.mk' (k := 0) (N := N__law_moves) F sc__law_moves rfl hx (fun _ _ _ _ _ _ us hl => match us, hl with | [_, _], _ => rfl) (fun cdv A outer s H E hr tk hp => ?_)
  have nd := sc__law_moves.nd
  exact (dss_cons (ds_own 2 nd (dl_lst (da_cons (de_tup (da_cons de_int (da_cons (de_ix (de_ix (dv 0) de_int) (dv 1)) (da_cons de_non da_nil)))) da_nil)))
  (dss_cons (ds_for hp rfl (di_any (de_ix (de_ix (dv 0) de_int) (dv 1))) (dg_tup rfl (dgs_cons (dg_name 3 nd) (dgs_cons (dg_name 4 nd) dgs_nil)) (gsl_cons (gsl_cons (fun _ _ _ h => gsl_nil h))))
   (dss_one (ds_app 2 (de_tup (da_cons de_int (da_cons (dv 3) (da_cons (dv 4) da_nil)))))))
  (dss_one (ds_frz 2 (ds_ret (dv 2))))))
theorem w__law_goes (T : Txt K mg) : DFn P w K mg base 2 "_law_goes" 2 f__law_goes := by
  obtain ⟨f, fd, F, hx⟩ := T.f__law_goes
  refine DFn.mk' (k := 1) (N := N__law_goes) F sc__law_goes rfl hx (fun _ _ _ _ _ _ us hl => match us, hl with | [_, _], _ => rfl) (fun cdv A outer s H E hr tk hp => ?_)
  have nd := sc__law_goes.nd
  exact (dss_cons (ds_own 2 nd (dl_lst da_nil))
  (dss_cons (ds_if (dt_cmp (ox_eq hr.units) (de_ix (dv 1) de_int) de_str (nomark _))
   (dss_cons (ds_set 3 nd (de_call (w__law_moves T) hr (by decide) tk (da_cons (dv 0) (da_cons (de_ix (dv 1) de_int) da_nil))))
  (dss_cons (ds_for hp rfl (di_any (de_ix (de_ix (dv 0) de_int) (de_ix (dv 1) de_int))) (dg_tup rfl (dgs_cons (dg_name 4 nd) (dgs_cons (dg_name 5 nd) dgs_nil)) (gsl_cons (gsl_cons (fun _ _ _ h => gsl_nil h))))
   (dss_one (ds_app 2 (de_tup (da_cons de_int (da_cons (de_tup (da_cons de_str (da_cons (dv 5) da_nil))) da_nil))))))
  (dss_cons (ds_for hp rfl (di_rng1 T.z_range (da_cons (de_cb cx_len rfl T.z_len PySem.boot_len (da_cons (dv 3) da_nil)) da_nil)) (dg_name 6 nd)
   (dss_one (ds_for hp rfl (di_rng1 T.z_range (da_cons (dv 6) da_nil)) (dg_name 7 nd)
   (dss_cons (ds_set 8 nd (de_call (w__law_over T) hr (by decide) tk (da_cons (de_ix (de_ix (dv 3) (dv 7)) de_int) (da_cons (de_ix (de_ix (dv 3) (dv 6)) de_int) da_nil))))
  (dss_one (ds_if (dt_cmp ox_isNN (dv 8) de_non (nomark _))
   (dss_one (ds_app 2 (de_tup (da_cons (de_bin ox_add (de_ix (de_ix (dv 3) (dv 7)) de_int) (de_ix (de_ix (dv 3) (dv 6)) de_int)) (da_cons (de_tup (da_cons (de_tup (da_cons (de_ix (de_ix (dv 3) (dv 7)) de_int) (da_cons (de_ix (de_ix (dv 3) (dv 6)) de_int) da_nil))) (da_cons (dv 8) da_nil))) da_nil)))))
   dss_nil))))))
  (dss_one (ds_frz 2 (ds_ret (dv 2)))))))
   dss_nil)
  (dss_cons (ds_asg (dg_tup rfl (dgs_cons (dg_name 9 nd) (dgs_cons (dg_name 10 nd) dgs_nil)) (gsl_cons (gsl_cons (fun _ _ _ h => gsl_nil h)))) (de_ix (dv 1) de_int))
  (dss_cons (ds_set 8 nd (de_ix (dv 1) de_int))
  (dss_cons (ds_if (dt_w (dw_or (dt_cmp (ox_ne hr.units) (de_ix (dv 8) de_int) de_str (nomark _)) (dw_or1 (dt_w (dw_and (dt_cmp (ox_eq hr.units) (de_ix (dv 8) de_int) de_str (nomark _)) (dw_and1 (dt_cmp ox_isNN (dv 9) de_non (nomark _))))))))
   (dss_one (ds_if (dt_cmp ox_isNN (dv 9) de_non (nomark _))
   (dss_one (ds_for hp rfl (di_any (de_call (w__law_moves T) hr (by decide) tk (da_cons (dv 0) (da_cons (dv 9) da_nil)))) (dg_tup rfl (dgs_cons (dg_name 11 nd) (dgs_cons (dg_name 4 nd) (dgs_cons (dg_name 5 nd) dgs_nil))) (gsl_cons (gsl_cons (gsl_cons (fun _ _ _ h => gsl_nil h)))))
   (dss_one (ds_app 2 (de_tup (da_cons (dv 11) (da_cons (de_tup (da_cons (de_tup (da_cons (dv 5) (da_cons (dv 10) da_nil))) (da_cons (de_call (w__law_over T) hr (by decide) tk (da_cons (de_bin ox_add (de_ix (dv 8) de_int) (dv 4)) (da_cons (de_ix (dv 8) de_int) da_nil))) da_nil))) da_nil)))))))
   dss_nil))
   (dss_one (ds_if (dt_cmp ox_isNN (dv 10) de_non (nomark _))
   (dss_one (ds_for hp rfl (di_any (de_call (w__law_moves T) hr (by decide) tk (da_cons (dv 0) (da_cons (dv 10) da_nil)))) (dg_tup rfl (dgs_cons (dg_name 11 nd) (dgs_cons (dg_name 4 nd) (dgs_cons (dg_name 5 nd) dgs_nil))) (gsl_cons (gsl_cons (gsl_cons (fun _ _ _ h => gsl_nil h)))))
   (dss_one (ds_app 2 (de_tup (da_cons (dv 11) (da_cons (de_tup (da_cons (de_tup (da_cons (dv 9) (da_cons (dv 5) da_nil))) (da_cons (de_call (w__law_over T) hr (by decide) tk (da_cons (de_ix (dv 8) de_int) (da_cons (de_bin ox_add (de_ix (dv 8) de_int) (dv 4)) da_nil))) da_nil))) da_nil)))))))
   dss_nil)))
  (dss_one (ds_frz 2 (ds_ret (de_ofL (dl_compIf [("go", 12)] rfl rfl nd (di_any (dv 2)) (blkOk_by (own := [("go", 12)]) (N := N__law_goes) (sc := defScope s__law_goes) (by decide +kernel)) (fun _ _ _ _ _ => (dg_name 12 nd)) (fun _ _ _ _ _ => (dt_cmp ox_isNN (de_ix (de_ix (dv 12) de_int) de_int) de_non (nomark _))) (fun _ _ _ _ _ => (dv 12)) (by decide)))))))))))
theorem w__law_fewest (T : Txt K mg) : DFn P w K mg base 3 "_law_fewest" 1 f__law_fewest := by
  obtain ⟨f, fd, F, hx⟩ := T.f__law_fewest
  refine DFn.mk' (k := 2) (N := N__law_fewest) F sc__law_fewest rfl hx (fun _ _ _ _ _ _ us hl => match us, hl with | [_], _ => rfl) (fun cdv A outer s H E hr tk hp => ?_)
  have nd := sc__law_fewest.nd
  exact (dss_enterM hr.units nd (de_tup (da_cons de_str (da_cons de_int da_nil))) de_bl
  (dss3_cons (ds3_lift (ds_dic0 2 nd))
  (dss3_cons (ds3_lift (ds_set 3 nd de_int))
  (dss3_cons (ds3_while fuel hp (dt3_cmp ox_lt (de3_lift (dv 3)) (de3_len0 T.z_len) (nomark _))
   (dss3_cons (ds3_list 4 nd rfl (dv 3) T.z_list)
  (dss3_cons (ds3_while fuel hp (dt3_lift (dt_cmp ox_gt (de_lenO 4 T.z_len) de_int (nomark _)))
   (dss3_cons (ds3_lift (ds_popL 5 4 nd))
  (dss3_one (ds3_if (dt3_lift (de_ninX 2 hr.units (dv 5)).2)
   (dss3_cons (ds3_lift (ds_putX 2 hr.units (dv 5) de_bl))
  (dss3_cons (ds3_lift (ds_if (dt_cmp (ox_eq hr.units) (dv 5) (de_tup (da_cons (de_tup (da_cons de_non (da_cons de_non da_nil))) (da_cons (de_tup (da_cons de_str (da_cons de_str da_nil))) da_nil))) (nomark _))
   (dss_one (ds_ret (dv 3)))
   dss_nil))
  (dss3_one (ds3_for hp rfl (di_any (de_call (w__law_goes T) hr (by decide) tk (da_cons (dv 0) (da_cons (dv 5) da_nil)))) (dg_tup rfl (dgs_cons (dg_name 6 nd) (dgs_cons (dg_name 7 nd) dgs_nil)) (gsl_cons (gsl_cons (fun _ _ _ h => gsl_nil h))))
   (dss3_cons (ds3_while fuel hp (dt3_cmp ox_le (de3_len0 T.z_len) (de3_lift (de_bin ox_add (dv 3) (dv 6))) (nomark _))
   (dss3_one ds3_push))
  (dss3_cons (ds3_lift (ds_if (dt_cmp (ox_eq hr.units) (dv 6) de_int (nomark _))
   (dss_one (ds_app 4 (dv 7)))
   dss_nil))
  (dss3_one (ds3_putAt hr.units (de_bin ox_add (dv 3) (dv 6)) (dv 7) de_bl))))))))
   dss3_nil))))
  (dss3_one (ds3_lift (ds_set 3 nd (de_bin ox_add (dv 3) de_int)))))))
  (dss3_one (ds3_lift (ds_ret de_non)))))))
theorem w__law_right (T : Txt K mg) : DFn P w K mg base 2 "_law_right" 3 f__law_right := by
  obtain ⟨f, fd, F, hx⟩ := T.f__law_right
  refine DFn.mk' (k := 1) (N := N__law_right) F sc__law_right rfl hx (fun _ _ _ _ _ _ us hl => match us, hl with | [_, _, _], _ => rfl) (fun cdv A outer s H E hr tk hp => ?_)
  have nd := sc__law_right.nd
  exact (dss_cons (ds_if (dt_w (dw_or (dt_not (dt_val (de_isi boot_tuple T.z_isinstance T.z_tuple (dv 1)))) (dw_or1 (dt_cmp (ox_ne hr.units) (de_cb cx_len rfl T.z_len PySem.boot_len (da_cons (dv 1) da_nil)) de_int (nomark _)))))
   (dss_one (ds_ret de_bl))
   dss_nil)
  (dss_cons (ds_if (dt_w (dw_or (dt_not (dt_val (de_call (w__law_is_message T) hr (by decide) tk (da_cons (de_ix (dv 1) de_int) (da_cons (de_ix (dv 0) de_int) da_nil))))) (dw_or1 (dt_not (dt_val (de_call (w__law_is_message T) hr (by decide) tk (da_cons (de_ix (dv 1) de_int) (da_cons (de_ix (dv 0) de_int) da_nil))))))))
   (dss_one (ds_ret de_bl))
   dss_nil)
  (dss_cons (ds_if (dt_w (dw_or (dt_cmp (ox_eq hr.units) (de_ix (dv 1) de_int) (de_ix (dv 1) de_int) (nomark _)) (dw_or1 (dt_cmp (ox_ne hr.units) (de_bin ox_add (de_cb cx_len rfl T.z_len PySem.boot_len (da_cons (de_ix (dv 1) de_int) da_nil)) (de_cb cx_len rfl T.z_len PySem.boot_len (da_cons (de_ix (dv 1) de_int) da_nil))) (dv 2) (nomark _)))))
   (dss_one (ds_ret de_bl))
   dss_nil)
  (dss_one (ds_ret (de_cmp (ox_eq hr.units) (de_call (w__law_written T) hr (by decide) tk (da_cons (dv 0) (da_cons (de_ix (dv 1) de_int) da_nil))) (de_call (w__law_written T) hr (by decide) tk (da_cons (dv 0) (da_cons (de_ix (dv 1) de_int) da_nil))) (nomark _)))))))
theorem w_law (T : Txt K mg) : DFn P w K mg base 5 "law" 1 f_law := by
  obtain ⟨f, fd, F, hx⟩ := T.f_law
  refine DFn.mk' (k := 4) (N := N_law) F sc_law rfl hx (fun _ _ _ _ _ _ us hl => match us, hl with | [_], _ => rfl) (fun cdv A outer s H E hr tk hp => ?_)
  have nd := sc_law.nd
  exact (dss_cons (ds_set 1 nd (de_call (w__law_writer T) hr (by decide) tk (da_cons (dv 0) (da_cons de_int (da_cons (de_ix (de_ofL (dl_lst (da_cons (de_tup (da_cons de_int (da_cons de_int (da_cons de_int da_nil)))) (da_cons (de_tup (da_cons de_int (da_cons de_int (da_cons de_int da_nil)))) da_nil)))) (de_ct cx_intA rfl T.z_int boot_int (da_cons (de_cmp (ox_eq hr.units) (de_bin ox_mod (de_call (w__law_cell_at T) hr (by decide) tk (da_cons (dv 0) (da_cons de_int da_nil))) de_int) de_int (nomark _)) da_nil))) da_nil)))))
  (dss_cons (ds_set 2 nd (de_call (w__law_fewest T) hr (by decide) tk (da_cons (dv 1) da_nil)))
  (dss_lose 3 (w_alike T) hr (by decide) tk (da_cons (dv 1) da_nil) nd
  (dt_cmp ox_isN (dv 2) de_non (nomark _)) (de_cmp ox_isN (dv 3) de_non (nomark _))
  (dt_not (dt_val (de_call (w__law_right T) hr (by decide) tk (da_cons (dv 1) (da_cons (dv 3) (da_cons (dv 2) da_nil)))))) de_bl
  (dss_one (ds_ret (de_call (w__law_right T) hr (by decide) tk (da_cons (dv 1) (da_cons (de_call (w_alike T) hr (by decide) tk (da_cons (dv 1) da_nil)) (da_cons (dv 2) da_nil)))))) de_int de_int de_int)))
end
/-! ### what the top has written -/
section
variable {P : Program} {w : World} {K : PySem.W.Frag} {mg : Str → Option Value} {base : Heap}
theorem fn_law {f : Addr} {fd : FuncData} (F : Fun K "law" "law" s_law f fd) (T : Txt K mg) : FnOk P w K mg base (L2.CX P w) 5 f fd ["script"] (spD ⟨K, w⟩ mg 1 f_law) := by
  refine fun_okD (k := 4) (N := N_law) (n := 1) F sc_law rfl (fun cdv A outer s H E hr tk hp => ?_)
  have nd := sc_law.nd
  exact (dss_cons (ds_set 1 nd (de_call (w__law_writer T) hr (by decide) tk (da_cons (dv 0) (da_cons de_int (da_cons (de_ix (de_ofL (dl_lst (da_cons (de_tup (da_cons de_int (da_cons de_int (da_cons de_int da_nil)))) (da_cons (de_tup (da_cons de_int (da_cons de_int (da_cons de_int da_nil)))) da_nil)))) (de_ct cx_intA rfl T.z_int boot_int (da_cons (de_cmp (ox_eq hr.units) (de_bin ox_mod (de_call (w__law_cell_at T) hr (by decide) tk (da_cons (dv 0) (da_cons de_int da_nil))) de_int) de_int (nomark _)) da_nil))) da_nil)))))
  (dss_cons (ds_set 2 nd (de_call (w__law_fewest T) hr (by decide) tk (da_cons (dv 1) da_nil)))
  (dss_lose 3 (w_alike T) hr (by decide) tk (da_cons (dv 1) da_nil) nd
  (dt_cmp ox_isN (dv 2) de_non (nomark _)) (de_cmp ox_isN (dv 3) de_non (nomark _))
  (dt_not (dt_val (de_call (w__law_right T) hr (by decide) tk (da_cons (dv 1) (da_cons (dv 3) (da_cons (dv 2) da_nil)))))) de_bl
  (dss_one (ds_ret (de_call (w__law_right T) hr (by decide) tk (da_cons (dv 1) (da_cons (de_call (w_alike T) hr (by decide) tk (da_cons (dv 1) da_nil)) (da_cons (dv 2) da_nil)))))) de_int de_int de_int)))
end
theorem all_mk {P : Program} {w : World} {K : PySem.W.Frag} {h : Heap} {mg : Str → Option Value} {fa : Addr} (X : K.In h) (G : h.Ns mainGlobals mg) (hfa : mg "law" = some (.ref fa)) (law_true : ∀ ns : List Int, ns.length ≤ 63 → f_law [.scr ns] = .ok (.bl true))
    {f0 : Addr} {od0 an0 : Option Addr} {sl0 : Array (Option Value)} {oc0 kV0 dc0 pm0 cd0 ct0 : Value}
    {f1 : Addr} {od1 an1 : Option Addr} {sl1 : Array (Option Value)} {oc1 kV1 dc1 pm1 cd1 ct1 : Value}
    {f2 : Addr} {od2 an2 : Option Addr} {sl2 : Array (Option Value)} {oc2 kV2 dc2 pm2 cd2 ct2 : Value}
    {f3 : Addr} {od3 an3 : Option Addr} {sl3 : Array (Option Value)} {oc3 kV3 dc3 pm3 cd3 ct3 : Value}
    {f4 : Addr} {od4 an4 : Option Addr} {sl4 : Array (Option Value)} {oc4 kV4 dc4 pm4 cd4 ct4 : Value}
    {f5 : Addr} {od5 an5 : Option Addr} {sl5 : Array (Option Value)} {oc5 kV5 dc5 pm5 cd5 ct5 : Value}
    {f6 : Addr} {od6 an6 : Option Addr} {sl6 : Array (Option Value)} {oc6 kV6 dc6 pm6 cd6 ct6 : Value}
    {f7 : Addr} {od7 an7 : Option Addr} {sl7 : Array (Option Value)} {oc7 kV7 dc7 pm7 cd7 ct7 : Value}
    {f8 : Addr} {od8 an8 : Option Addr} {sl8 : Array (Option Value)} {oc8 kV8 dc8 pm8 cd8 ct8 : Value}
    {f9 : Addr} {od9 an9 : Option Addr} {sl9 : Array (Option Value)} {oc9 kV9 dc9 pm9 cd9 ct9 : Value}
    {f10 : Addr} {od10 an10 : Option Addr} {sl10 : Array (Option Value)} {oc10 kV10 dc10 pm10 cd10 ct10 : Value}
    {f11 : Addr} {od11 an11 : Option Addr} {sl11 : Array (Option Value)} {oc11 kV11 dc11 pm11 cd11 ct11 : Value}
    {f12 : Addr} {od12 an12 : Option Addr} {sl12 : Array (Option Value)} {oc12 kV12 dc12 pm12 cd12 ct12 : Value}
    {f13 : Addr} {od13 an13 : Option Addr} {sl13 : Array (Option Value)} {oc13 kV13 dc13 pm13 cd13 ct13 : Value}
    {f14 : Addr} {od14 an14 : Option Addr} {sl14 : Array (Option Value)} {oc14 kV14 dc14 pm14 cd14 ct14 : Value}
    {f15 : Addr} {od15 an15 : Option Addr} {sl15 : Array (Option Value)} {oc15 kV15 dc15 pm15 cd15 ct15 : Value}
    {f16 : Addr} {od16 an16 : Option Addr} {sl16 : Array (Option Value)} {oc16 kV16 dc16 pm16 cd16 ct16 : Value}
    {f17 : Addr} {od17 an17 : Option Addr} {sl17 : Array (Option Value)} {oc17 kV17 dc17 pm17 cd17 ct17 : Value}
    {f18 : Addr} {od18 an18 : Option Addr} {sl18 : Array (Option Value)} {oc18 kV18 dc18 pm18 cd18 ct18 : Value}
    {f19 : Addr} {od19 an19 : Option Addr} {sl19 : Array (Option Value)} {oc19 kV19 dc19 pm19 cd19 ct19 : Value}
    {f20 : Addr} {od20 an20 : Option Addr} {sl20 : Array (Option Value)} {oc20 kV20 dc20 pm20 cd20 ct20 : Value}
    {f21 : Addr} {od21 an21 : Option Addr} {sl21 : Array (Option Value)} {oc21 kV21 dc21 pm21 cd21 ct21 : Value}
    {tk_LETTERS : Tok}
    {tk_LONGEST : Tok}
    {tk_SIGNS : Tok}
    {tk_STATES : Tok}
    {C_NoWriter : Addr}
    (a0 : PySem.W.nsIn K mainGlobals "is_word" = some (some (.ref f0))) (l0 : K.lookup f0 = some ⟨oc0, od0, .func (PySem.W.fnOf "is_word" "is_word" (defArgs s_is_word) (defBody s_is_word) (defScope s_is_word) .none kV0 dc0 pm0 an0 cd0 ct0), sl0⟩) (c0 : PySem.W.codeIn K cd0 "is_word" = true) (k0 : PySem.W.keepIn K (.ref f0) = true)
    (a1 : PySem.W.nsIn K mainGlobals "asked_writer" = some (some (.ref f1))) (l1 : K.lookup f1 = some ⟨oc1, od1, .func (PySem.W.fnOf "asked_writer" "asked_writer" (defArgs s_asked_writer) (defBody s_asked_writer) (defScope s_asked_writer) .none kV1 dc1 pm1 an1 cd1 ct1), sl1⟩) (c1 : PySem.W.codeIn K cd1 "asked_writer" = true) (k1 : PySem.W.keepIn K (.ref f1) = true)
    (a2 : PySem.W.nsIn K mainGlobals "rest_of" = some (some (.ref f2))) (l2 : K.lookup f2 = some ⟨oc2, od2, .func (PySem.W.fnOf "rest_of" "rest_of" (defArgs s_rest_of) (defBody s_rest_of) (defScope s_rest_of) .none kV2 dc2 pm2 an2 cd2 ct2), sl2⟩) (c2 : PySem.W.codeIn K cd2 "rest_of" = true) (k2 : PySem.W.keepIn K (.ref f2) = true)
    (a3 : PySem.W.nsIn K mainGlobals "moves_of" = some (some (.ref f3))) (l3 : K.lookup f3 = some ⟨oc3, od3, .func (PySem.W.fnOf "moves_of" "moves_of" (defArgs s_moves_of) (defBody s_moves_of) (defScope s_moves_of) .none kV3 dc3 pm3 an3 cd3 ct3), sl3⟩) (c3 : PySem.W.codeIn K cd3 "moves_of" = true) (k3 : PySem.W.keepIn K (.ref f3) = true)
    (a4 : PySem.W.nsIn K mainGlobals "starts_of" = some (some (.ref f4))) (l4 : K.lookup f4 = some ⟨oc4, od4, .func (PySem.W.fnOf "starts_of" "starts_of" (defArgs s_starts_of) (defBody s_starts_of) (defScope s_starts_of) .none kV4 dc4 pm4 an4 cd4 ct4), sl4⟩) (c4 : PySem.W.codeIn K cd4 "starts_of" = true) (k4 : PySem.W.keepIn K (.ref f4) = true)
    (a5 : PySem.W.nsIn K mainGlobals "after_move" = some (some (.ref f5))) (l5 : K.lookup f5 = some ⟨oc5, od5, .func (PySem.W.fnOf "after_move" "after_move" (defArgs s_after_move) (defBody s_after_move) (defScope s_after_move) .none kV5 dc5 pm5 an5 cd5 ct5), sl5⟩) (c5 : PySem.W.codeIn K cd5 "after_move" = true) (k5 : PySem.W.keepIn K (.ref f5) = true)
    (a6 : PySem.W.nsIn K mainGlobals "put" = some (some (.ref f6))) (l6 : K.lookup f6 = some ⟨oc6, od6, .func (PySem.W.fnOf "put" "put" (defArgs s_put) (defBody s_put) (defScope s_put) .none kV6 dc6 pm6 an6 cd6 ct6), sl6⟩) (c6 : PySem.W.codeIn K cd6 "put" = true) (k6 : PySem.W.keepIn K (.ref f6) = true)
    (a7 : PySem.W.nsIn K mainGlobals "begun" = some (some (.ref f7))) (l7 : K.lookup f7 = some ⟨oc7, od7, .func (PySem.W.fnOf "begun" "begun" (defArgs s_begun) (defBody s_begun) (defScope s_begun) .none kV7 dc7 pm7 an7 cd7 ct7), sl7⟩) (c7 : PySem.W.codeIn K cd7 "begun" = true) (k7 : PySem.W.keepIn K (.ref f7) = true)
    (a8 : PySem.W.nsIn K mainGlobals "gone_on" = some (some (.ref f8))) (l8 : K.lookup f8 = some ⟨oc8, od8, .func (PySem.W.fnOf "gone_on" "gone_on" (defArgs s_gone_on) (defBody s_gone_on) (defScope s_gone_on) .none kV8 dc8 pm8 an8 cd8 ct8), sl8⟩) (c8 : PySem.W.codeIn K cd8 "gone_on" = true) (k8 : PySem.W.keepIn K (.ref f8) = true)
    (a9 : PySem.W.nsIn K mainGlobals "alike" = some (some (.ref f9))) (l9 : K.lookup f9 = some ⟨oc9, od9, .func (PySem.W.fnOf "alike" "alike" (defArgs s_alike) (defBody s_alike) (defScope s_alike) .none kV9 dc9 pm9 an9 cd9 ct9), sl9⟩) (c9 : PySem.W.codeIn K cd9 "alike" = true) (k9 : PySem.W.keepIn K (.ref f9) = true)
    (a10 : PySem.W.nsIn K mainGlobals "_law_cell_at" = some (some (.ref f10))) (l10 : K.lookup f10 = some ⟨oc10, od10, .func (PySem.W.fnOf "_law_cell_at" "_law_cell_at" (defArgs s__law_cell_at) (defBody s__law_cell_at) (defScope s__law_cell_at) .none kV10 dc10 pm10 an10 cd10 ct10), sl10⟩) (c10 : PySem.W.codeIn K cd10 "_law_cell_at" = true) (k10 : PySem.W.keepIn K (.ref f10) = true)
    (a11 : PySem.W.nsIn K mainGlobals "_law_stirred" = some (some (.ref f11))) (l11 : K.lookup f11 = some ⟨oc11, od11, .func (PySem.W.fnOf "_law_stirred" "_law_stirred" (defArgs s__law_stirred) (defBody s__law_stirred) (defScope s__law_stirred) .none kV11 dc11 pm11 an11 cd11 ct11), sl11⟩) (c11 : PySem.W.codeIn K cd11 "_law_stirred" = true) (k11 : PySem.W.keepIn K (.ref f11) = true)
    (a12 : PySem.W.nsIn K mainGlobals "_law_word" = some (some (.ref f12))) (l12 : K.lookup f12 = some ⟨oc12, od12, .func (PySem.W.fnOf "_law_word" "_law_word" (defArgs s__law_word) (defBody s__law_word) (defScope s__law_word) .none kV12 dc12 pm12 an12 cd12 ct12), sl12⟩) (c12 : PySem.W.codeIn K cd12 "_law_word" = true) (k12 : PySem.W.keepIn K (.ref f12) = true)
    (a13 : PySem.W.nsIn K mainGlobals "_law_writer" = some (some (.ref f13))) (l13 : K.lookup f13 = some ⟨oc13, od13, .func (PySem.W.fnOf "_law_writer" "_law_writer" (defArgs s__law_writer) (defBody s__law_writer) (defScope s__law_writer) .none kV13 dc13 pm13 an13 cd13 ct13), sl13⟩) (c13 : PySem.W.codeIn K cd13 "_law_writer" = true) (k13 : PySem.W.keepIn K (.ref f13) = true)
    (a14 : PySem.W.nsIn K mainGlobals "_law_written" = some (some (.ref f14))) (l14 : K.lookup f14 = some ⟨oc14, od14, .func (PySem.W.fnOf "_law_written" "_law_written" (defArgs s__law_written) (defBody s__law_written) (defScope s__law_written) .none kV14 dc14 pm14 an14 cd14 ct14), sl14⟩) (c14 : PySem.W.codeIn K cd14 "_law_written" = true) (k14 : PySem.W.keepIn K (.ref f14) = true)
    (a15 : PySem.W.nsIn K mainGlobals "_law_is_message" = some (some (.ref f15))) (l15 : K.lookup f15 = some ⟨oc15, od15, .func (PySem.W.fnOf "_law_is_message" "_law_is_message" (defArgs s__law_is_message) (defBody s__law_is_message) (defScope s__law_is_message) .none kV15 dc15 pm15 an15 cd15 ct15), sl15⟩) (c15 : PySem.W.codeIn K cd15 "_law_is_message" = true) (k15 : PySem.W.keepIn K (.ref f15) = true)
    (a16 : PySem.W.nsIn K mainGlobals "_law_over" = some (some (.ref f16))) (l16 : K.lookup f16 = some ⟨oc16, od16, .func (PySem.W.fnOf "_law_over" "_law_over" (defArgs s__law_over) (defBody s__law_over) (defScope s__law_over) .none kV16 dc16 pm16 an16 cd16 ct16), sl16⟩) (c16 : PySem.W.codeIn K cd16 "_law_over" = true) (k16 : PySem.W.keepIn K (.ref f16) = true)
    (a17 : PySem.W.nsIn K mainGlobals "_law_moves" = some (some (.ref f17))) (l17 : K.lookup f17 = some ⟨oc17, od17, .func (PySem.W.fnOf "_law_moves" "_law_moves" (defArgs s__law_moves) (defBody s__law_moves) (defScope s__law_moves) .none kV17 dc17 pm17 an17 cd17 ct17), sl17⟩) (c17 : PySem.W.codeIn K cd17 "_law_moves" = true) (k17 : PySem.W.keepIn K (.ref f17) = true)
    (a18 : PySem.W.nsIn K mainGlobals "_law_goes" = some (some (.ref f18))) (l18 : K.lookup f18 = some ⟨oc18, od18, .func (PySem.W.fnOf "_law_goes" "_law_goes" (defArgs s__law_goes) (defBody s__law_goes) (defScope s__law_goes) .none kV18 dc18 pm18 an18 cd18 ct18), sl18⟩) (c18 : PySem.W.codeIn K cd18 "_law_goes" = true) (k18 : PySem.W.keepIn K (.ref f18) = true)
    (a19 : PySem.W.nsIn K mainGlobals "_law_fewest" = some (some (.ref f19))) (l19 : K.lookup f19 = some ⟨oc19, od19, .func (PySem.W.fnOf "_law_fewest" "_law_fewest" (defArgs s__law_fewest) (defBody s__law_fewest) (defScope s__law_fewest) .none kV19 dc19 pm19 an19 cd19 ct19), sl19⟩) (c19 : PySem.W.codeIn K cd19 "_law_fewest" = true) (k19 : PySem.W.keepIn K (.ref f19) = true)
    (a20 : PySem.W.nsIn K mainGlobals "_law_right" = some (some (.ref f20))) (l20 : K.lookup f20 = some ⟨oc20, od20, .func (PySem.W.fnOf "_law_right" "_law_right" (defArgs s__law_right) (defBody s__law_right) (defScope s__law_right) .none kV20 dc20 pm20 an20 cd20 ct20), sl20⟩) (c20 : PySem.W.codeIn K cd20 "_law_right" = true) (k20 : PySem.W.keepIn K (.ref f20) = true)
    (a21 : PySem.W.nsIn K mainGlobals "law" = some (some (.ref f21))) (l21 : K.lookup f21 = some ⟨oc21, od21, .func (PySem.W.fnOf "law" "law" (defArgs s_law) (defBody s_law) (defScope s_law) .none kV21 dc21 pm21 an21 cd21 ct21), sl21⟩) (c21 : PySem.W.codeIn K cd21 "law" = true) (k21 : PySem.W.keepIn K (.ref f21) = true)
    (z_bool : PySem.W.nsIn K mainGlobals "bool" = some none)
    (z_int : PySem.W.nsIn K mainGlobals "int" = some none)
    (z_isinstance : PySem.W.nsIn K mainGlobals "isinstance" = some none)
    (z_len : PySem.W.nsIn K mainGlobals "len" = some none)
    (z_list : PySem.W.nsIn K mainGlobals "list" = some none)
    (z_min : PySem.W.nsIn K mainGlobals "min" = some none)
    (z_range : PySem.W.nsIn K mainGlobals "range" = some none)
    (z_tuple : PySem.W.nsIn K mainGlobals "tuple" = some none)
    (g_LETTERS : PySem.W.nsIn K mainGlobals "LETTERS" = some (some (.str "abcd" tk_LETTERS)))
    (g_LONGEST : PySem.W.nsIn K mainGlobals "LONGEST" = some (some (.int 8 tk_LONGEST)))
    (g_SIGNS : PySem.W.nsIn K mainGlobals "SIGNS" = some (some (.int 4 tk_SIGNS)))
    (g_STATES : PySem.W.nsIn K mainGlobals "STATES" = some (some (.int 6 tk_STATES)))
    (ea_NoWriter : PySem.W.nsIn K mainGlobals "NoWriter" = some (some (.ref C_NoWriter))) (ex_NoWriter : PySem.W.excIn K C_NoWriter [.type "ValueError", .type "Exception", .type "BaseException", .type "object"] "ValueError.__new__" = true) (ek_NoWriter : PySem.W.keepIn K (.ref C_NoWriter) = true) (eb_NoWriter : PySem.W.subIn K (.ref C_NoWriter) (.type "BaseException") = some true) (et_NoWriter : PySem.W.typeIn K (.ref C_NoWriter) = some (.type "type"))
    : ∃ fd : FuncData, (∀ (s : Shared) (v : Value), BindsTo s fd ⟨[v], []⟩ [("script", v)]) ∧ ∀ base : Heap, K.In base → base.Ns mainGlobals mg → FnOk P w K mg base (L2.CX P w) 5 fa fd ["script"] (spEnd K) := by
  have e := hfa.symm.trans (PySem.W.mg_of X G a21)
  cases e
  have F0 := fun_mk (st := s_is_word) l0 c0 k0
  have F1 := fun_mk (st := s_asked_writer) l1 c1 k1
  have F2 := fun_mk (st := s_rest_of) l2 c2 k2
  have F3 := fun_mk (st := s_moves_of) l3 c3 k3
  have F4 := fun_mk (st := s_starts_of) l4 c4 k4
  have F5 := fun_mk (st := s_after_move) l5 c5 k5
  have F6 := fun_mk (st := s_put) l6 c6 k6
  have F7 := fun_mk (st := s_begun) l7 c7 k7
  have F8 := fun_mk (st := s_gone_on) l8 c8 k8
  have F9 := fun_mk (st := s_alike) l9 c9 k9
  have F10 := fun_mk (st := s__law_cell_at) l10 c10 k10
  have F11 := fun_mk (st := s__law_stirred) l11 c11 k11
  have F12 := fun_mk (st := s__law_word) l12 c12 k12
  have F13 := fun_mk (st := s__law_writer) l13 c13 k13
  have F14 := fun_mk (st := s__law_written) l14 c14 k14
  have F15 := fun_mk (st := s__law_is_message) l15 c15 k15
  have F16 := fun_mk (st := s__law_over) l16 c16 k16
  have F17 := fun_mk (st := s__law_moves) l17 c17 k17
  have F18 := fun_mk (st := s__law_goes) l18 c18 k18
  have F19 := fun_mk (st := s__law_fewest) l19 c19 k19
  have F20 := fun_mk (st := s__law_right) l20 c20 k20
  have F21 := fun_mk (st := s_law) l21 c21 k21
  have T : Txt K mg := { f_is_word := ⟨_, _, F0, PySem.W.mg_of X G a0⟩, f_asked_writer := ⟨_, _, F1, PySem.W.mg_of X G a1⟩, f_rest_of := ⟨_, _, F2, PySem.W.mg_of X G a2⟩, f_moves_of := ⟨_, _, F3, PySem.W.mg_of X G a3⟩, f_starts_of := ⟨_, _, F4, PySem.W.mg_of X G a4⟩, f_after_move := ⟨_, _, F5, PySem.W.mg_of X G a5⟩, f_put := ⟨_, _, F6, PySem.W.mg_of X G a6⟩, f_begun := ⟨_, _, F7, PySem.W.mg_of X G a7⟩, f_gone_on := ⟨_, _, F8, PySem.W.mg_of X G a8⟩, f_alike := ⟨_, _, F9, PySem.W.mg_of X G a9⟩, f__law_cell_at := ⟨_, _, F10, PySem.W.mg_of X G a10⟩, f__law_stirred := ⟨_, _, F11, PySem.W.mg_of X G a11⟩, f__law_word := ⟨_, _, F12, PySem.W.mg_of X G a12⟩, f__law_writer := ⟨_, _, F13, PySem.W.mg_of X G a13⟩, f__law_written := ⟨_, _, F14, PySem.W.mg_of X G a14⟩, f__law_is_message := ⟨_, _, F15, PySem.W.mg_of X G a15⟩, f__law_over := ⟨_, _, F16, PySem.W.mg_of X G a16⟩, f__law_moves := ⟨_, _, F17, PySem.W.mg_of X G a17⟩, f__law_goes := ⟨_, _, F18, PySem.W.mg_of X G a18⟩, f__law_fewest := ⟨_, _, F19, PySem.W.mg_of X G a19⟩, f__law_right := ⟨_, _, F20, PySem.W.mg_of X G a20⟩, f_law := ⟨_, _, F21, PySem.W.mg_of X G a21⟩, z_bool := PySem.W.mg_none_of X G z_bool, z_int := PySem.W.mg_none_of X G z_int, z_isinstance := PySem.W.mg_none_of X G z_isinstance, z_len := PySem.W.mg_none_of X G z_len, z_list := PySem.W.mg_none_of X G z_list, z_min := PySem.W.mg_none_of X G z_min, z_range := PySem.W.mg_none_of X G z_range, z_tuple := PySem.W.mg_none_of X G z_tuple, t_LETTERS := ⟨_, PySem.W.mg_of X G g_LETTERS⟩, t_LONGEST := ⟨_, PySem.W.mg_of X G g_LONGEST⟩, t_SIGNS := ⟨_, PySem.W.mg_of X G g_SIGNS⟩, t_STATES := ⟨_, PySem.W.mg_of X G g_STATES⟩, e_NoWriter := ⟨_, PySem.W.mg_of X G ea_NoWriter, ex_NoWriter, ek_NoWriter, eb_NoWriter, et_NoWriter⟩ }
  refine ⟨PySem.W.fnOf "law" "law" (defArgs s_law) (defBody s_law) (defScope s_law) .none kV21 dc21 pm21 an21 cd21 ct21, fun s v => .of_eq rfl, fun base _ _ => ?_⟩
  exact (fn_law F21 T).imp (sp_law law_true)
end Wk

namespace Wk
open PySem PySem.Spec PyProof.Rows L2 TL DL
/-! ### plain facts -/
theorem line_big : 1000000 ≤ sizeLine := by rw [sizeLine_eq]; decide
theorem atI_nat' {α : Type} (xs : List α) (n : Nat) : atI xs (n : Int) = xs[n]? := by
  cases h : xs[n]? with
  | some v => exact atI_nat h
  | none =>
    have hn : xs.length ≤ n := List.getElem?_eq_none_iff.mp h
    unfold atI ixN
    rw [if_pos (by omega), if_neg (by omega)]
    rfl
@[simp] theorem dLoop_nil (t : DTgt) (b : DStm) (e : DEnv) : dLoop t b [] e = .nx e := rfl
theorem dLoop_cons (t : DTgt) (b : DStm) (d : D) (ds : List D) (e : DEnv) : dLoop t b (d :: ds) e = (match t d e with
    | none => .no
    | some e => match b e with
      | .nx e' => dLoop t b ds e'
      | .ct e' => dLoop t b ds e'
      | .bk e' => .nx e'
      | .rt d => .rt d
      | .ex c e => .ex c e
      | .no => .no) := rfl
theorem dLoop_step {t : DTgt} {b : DStm} {d : D} {ds : List D} {e e1 e2 : DEnv} {r : DOut} (h1 : t d e = some e1) (h2 : b e1 = .nx e2) (h3 : dLoop t b ds e2 = r) : dLoop t b (d :: ds) e = r := by
  rw [dLoop_cons, h1]
  simp only [h2]
  exact h3
/-- a loop whose turns go on, by an invariant of the turns -/
theorem dLoop_inv {t : DTgt} {b : DStm} {α : Type} (I : List α → DEnv → Prop) (P : DEnv → Prop) (f : α → D) (step : ∀ a as e, I (a :: as) e → ∃ e1, t (f a) e = some e1 ∧ ∃ e2, (b e1 = .nx e2 ∨ b e1 = .ct e2) ∧ I as e2) (fin : ∀ e, I [] e → P e) :
    ∀ (as : List α) (e : DEnv), I as e → ∃ e', dLoop t b (as.map f) e = .nx e' ∧ P e'
  | [], e, h => ⟨e, rfl, fin e h⟩
  | a :: as, e, h => by
    obtain ⟨e1, h1, e2, h2, h3⟩ := step a as e h
    obtain ⟨e', q1, q2⟩ := dLoop_inv I P f step fin as e2 h3
    refine ⟨e', ?_, q2⟩
    rw [List.map_cons, dLoop_cons, h1]
    rcases h2 with h2 | h2
    · simp only [h2]; exact q1
    · simp only [h2]; exact q1

/-! ### texts by their signs -/
abbrev T := List Nat
def sv (l : T) : Str := ⟨l.toArray⟩
theorem sv_tl (l : T) : tl (sv l) = l := rfl
theorem tl_sv (s : Str) : sv (tl s) = s := mk_tl s
@[simp] theorem sv_app (a b : T) : sv a ++ sv b = sv (a ++ b) := ext_tl (by rw [tl_append]; rfl)
@[simp] theorem sv_len (a : T) : (sv a).length = a.length := by rw [len_tl, sv_tl]
@[simp] theorem sv_inj {a b : T} : sv a = sv b ↔ a = b := ⟨fun h => by have := congrArg tl h; exact this, fun h => by rw [h]⟩
@[simp] theorem sv_cps (a : T) : (sv a).cps.toList = a := rfl
def tD (l : T) : D := .str (sv l)
theorem tD_def (l : T) : D.str (sv l) = tD l := rfl
@[simp] theorem tD_inj {a b : T} : tD a = tD b ↔ a = b := by simp [tD]
theorem nil_tD : (D.str "") = tD [] := by
  unfold tD; congr 1
theorem abcd_tD : (D.str "abcd") = tD [97, 98, 99, 100] := by
  unfold tD; congr 1
@[simp] theorem add_tD {a b : T} (h : a.length + b.length ≤ 100000) : addD (tD a) (tD b) = some (tD (a ++ b)) := by
  unfold tD addD
  have := line_big
  simp only [sv_len, sv_app]
  rw [if_pos (by omega)]
@[simp] theorem len_tD {a : T} (h : a.length ≤ 100000) : lenD [tD a] = some (.int a.length) := by
  unfold tD lenD
  have := line_big
  simp only [sv_len]
  rw [if_pos (by omega)]

/-! ### writers -/
structure Wr where
  signs : Nat
  rows : List (List (T × Nat))
  ends : List T
def pairD (p : T × Nat) : D := .tup [tD p.1, .int (p.2 : Int)]
def rowD (r : List (T × Nat)) : D := .tup (r.map pairD)
def rowsD (r : List (List (T × Nat))) : D := .tup (r.map rowD)
def endsD (e : List T) : D := .tup (e.map tD)
def wrD (w : Wr) : D := .tup [.int (w.signs : Int), rowsD w.rows, endsD w.ends]
def Wd (l : T) : Prop := l.length ≤ 8 ∧ ∀ c ∈ l, 97 ≤ c ∧ c ≤ 100
structure Wr.Ok (w : Wr) : Prop where
  s1 : 1 ≤ w.signs
  s4 : w.signs ≤ 4
  r1 : 1 ≤ w.rows.length
  r6 : w.rows.length ≤ 6
  el : w.ends.length = w.rows.length
  rl : ∀ r ∈ w.rows, r.length = w.signs
  pr : ∀ r ∈ w.rows, ∀ p ∈ r, Wd p.1 ∧ p.2 < w.rows.length
  en : ∀ e ∈ w.ends, Wd e
def Wr.at (w : Wr) (st m : Nat) : T × Nat := (w.rows.getD st []).getD m ([], 0)
def Wr.fin (w : Wr) (st : Nat) : T := w.ends.getD st []
def Wr.gone (w : Wr) : Nat → List Nat → T × Nat
  | st, [] => ([], st)
  | st, m :: ms => ((w.at st m).1 ++ (w.gone (w.at st m).2 ms).1, (w.gone (w.at st m).2 ms).2)
def Wr.text (w : Wr) (ms : List Nat) : T := (w.gone 0 ms).1 ++ w.fin (w.gone 0 ms).2
/-- a message as data -/
def mD (ms : List Nat) : D := .lst (ms.map fun (m : Nat) => D.int (m : Int))
def Msg (w : Wr) (ms : List Nat) : Prop := ∀ m ∈ ms, m < w.signs

theorem Wr.Ok.at_ok {w : Wr} (o : w.Ok) {st m : Nat} (hs : st < w.rows.length) (hm : m < w.signs) : ∃ r, w.rows[st]? = some r ∧ r[m]? = some (w.at st m) ∧ Wd (w.at st m).1 ∧ (w.at st m).2 < w.rows.length := by
  have h1 : w.rows[st]? = some w.rows[st] := List.getElem?_eq_getElem hs
  have mem := List.getElem_mem hs
  have hl := o.rl _ mem
  have h2 : (w.rows[st])[m]? = some (w.rows[st])[m] := List.getElem?_eq_getElem (by omega)
  have e : w.at st m = (w.rows[st])[m] := by
    unfold Wr.at
    simp only [List.getD_eq_getElem?_getD, h1, Option.getD_some, h2]
  refine ⟨_, h1, by rw [h2, e], ?_⟩
  rw [e]
  exact o.pr _ mem _ (List.getElem_mem _)
theorem Wr.Ok.fin_ok {w : Wr} (o : w.Ok) {st : Nat} (hs : st < w.rows.length) : w.ends[st]? = some (w.fin st) ∧ Wd (w.fin st) := by
  have hl : st < w.ends.length := by rw [o.el]; exact hs
  have h1 : w.ends[st]? = some w.ends[st] := List.getElem?_eq_getElem hl
  have e : w.fin st = w.ends[st] := by
    unfold Wr.fin
    rw [List.getD_eq_getElem?_getD, h1, Option.getD_some]
  rw [e]
  exact ⟨h1, o.en _ (List.getElem_mem _)⟩
theorem Wr.Ok.gone_ok {w : Wr} (o : w.Ok) : ∀ (ms : List Nat) (st : Nat), st < w.rows.length → Msg w ms → (w.gone st ms).2 < w.rows.length ∧ (w.gone st ms).1.length ≤ 8 * ms.length
  | [], st, h, _ => ⟨h, by simp [Wr.gone]⟩
  | m :: ms, st, h, hm => by
    obtain ⟨r, h1, h2, h3, h4⟩ := o.at_ok h (hm m List.mem_cons_self)
    obtain ⟨q1, q2⟩ := o.gone_ok ms _ h4 fun x hx => hm x (List.mem_cons_of_mem _ hx)
    refine ⟨q1, ?_⟩
    simp only [Wr.gone, List.length_append, List.length_cons]
    have := h3.1
    omega
@[simp] theorem wr0 (w : Wr) : ixAD (wrD w) (.int 0) = some (.int w.signs) := rfl
@[simp] theorem wr1 (w : Wr) : ixAD (wrD w) (.int 1) = some (rowsD w.rows) := rfl
@[simp] theorem wr2 (w : Wr) : ixAD (wrD w) (.int 2) = some (endsD w.ends) := rfl
theorem ix_rows {rs : List (List (T × Nat))} {n : Nat} {r : List (T × Nat)} (h : rs[n]? = some r) : ixAD (rowsD rs) (.int n) = some (rowD r) := by
  simp only [rowsD, ixAD]
  rw [atI_nat', List.getElem?_map, h]
  rfl
theorem ix_row {r : List (T × Nat)} {n : Nat} {p : T × Nat} (h : r[n]? = some p) : ixAD (rowD r) (.int n) = some (pairD p) := by
  simp only [rowD, ixAD]
  rw [atI_nat', List.getElem?_map, h]
  rfl
theorem ix_ends {es : List T} {n : Nat} {e : T} (h : es[n]? = some e) : ixAD (endsD es) (.int n) = some (tD e) := by
  simp only [endsD, ixAD]
  rw [atI_nat', List.getElem?_map, h]
  rfl
@[simp] theorem pair0 (p : T × Nat) : ixAD (pairD p) (.int 0) = some (tD p.1) := rfl
@[simp] theorem pair1 (p : T × Nat) : ixAD (pairD p) (.int 1) = some (.int p.2) := rfl

end Wk

namespace Wk
open PySem PySem.Spec PyProof.Rows L2 TL DL
theorem cLoop_filter {t : DTgt} {c : DEnv → M Bool} {f : DEnv → M D} {e0 : DEnv} {α : Type} (g : α → D) (p : α → Bool) (y : α → D) : ∀ (as : List α), (∀ a ∈ as, ∃ e, t (g a) e0 = some e ∧ c e = .ok (p a) ∧ (p a = true → f e = .ok (y a))) → cLoop t c f e0 (as.map g) = .ok ((as.filter p).map y)
  | [], _ => rfl
  | a :: as, h => by
    obtain ⟨e, h1, h2, h3⟩ := h a List.mem_cons_self
    have ih := cLoop_filter g p y as fun x hx => h x (List.mem_cons_of_mem _ hx)
    rw [List.map_cons]
    unfold cLoop
    simp only [h1, h2]
    cases q : p a with
    | true => simp [h3 q, ih, List.filter_cons, q]
    | false => simp [ih, List.filter_cons, q]
theorem cLoop_map {t : DTgt} {f : DEnv → M D} {e0 : DEnv} {α : Type} (g : α → D) (y : α → D) (as : List α) (h : ∀ a ∈ as, ∃ e, t (g a) e0 = some e ∧ f e = .ok (y a)) : cLoop t (fun _ => .ok true) f e0 (as.map g) = .ok (as.map y) := by
  have := cLoop_filter (t := t) (c := fun _ => .ok true) (f := f) (e0 := e0) g (fun _ => true) y as fun a ha => by
    obtain ⟨e, h1, h2⟩ := h a ha
    exact ⟨e, h1, rfl, fun _ => h2⟩
  rw [this, List.filter_eq_self.mpr (fun _ _ => rfl)]
theorem found_sv (l : T) (c : Nat) : (!(Builtin.Str.occurrences (sv l) (sv [c]) 0 (sv l).length 1).isEmpty) = decide (c ∈ l) := PySem.StrLaws.found_one (sv l) c
@[simp] theorem inS_one (c : Nat) (l : T) : inSD (tD [c]) (tD l) = some (.bl (decide (c ∈ l))) := by
  unfold tD inSD
  simp only [found_sv]
@[simp] theorem ninS_one (c : Nat) (l : T) : ninSD (tD [c]) (tD l) = some (.bl (!decide (c ∈ l))) := by
  unfold tD ninSD
  simp only [found_sv]
@[simp] theorem items_tD (l : T) : itemsD (tD l) = .ok (l.map fun c => tD [c]) := rfl
theorem small_line {n : Nat} (h : n ≤ 100000) : n ≤ sizeLine := Nat.le_trans (Nat.le_trans h (by decide)) line_big
theorem small_lt {n : Nat} (h : n ≤ 100000) : n < sizeLine := Nat.lt_of_le_of_lt h (Nat.lt_of_lt_of_le (by decide) line_big)

/-! ### == -/
theorem strOk_sv {l : T} (h : ∀ c ∈ l, c < 1114112) : PyData.strOk (sv l) = true := by
  unfold PyData.strOk sv
  simpa using h
theorem eqOk_tD {n : Nat} {l : T} (h : ∀ c ∈ l, c < 1114112) : eqOk n (tD l) = true := by
  unfold tD
  cases n <;> simpa [eqOk] using strOk_sv h
theorem eqD_eq {a b : D} (h : (scalD a b || (eqOk 60 a && eqOk 60 b)) = true) : eqD a b = some (.bl (decide (a = b))) := by unfold eqD; rw [if_pos h]
theorem neD_eq {a b : D} (h : (scalD a b || (eqOk 60 a && eqOk 60 b)) = true) : neD a b = some (.bl (!decide (a = b))) := by unfold neD; rw [if_pos h]
@[simp] theorem eqD_int (a b : Int) : eqD (.int a) (.int b) = some (.bl (decide (a = b))) := by rw [eqD_eq rfl]; simp
@[simp] theorem neD_int (a b : Int) : neD (.int a) (.int b) = some (.bl (!decide (a = b))) := by rw [neD_eq rfl]; simp
@[simp] theorem eqD_tD (a b : T) : eqD (tD a) (tD b) = some (.bl (decide (a = b))) := by rw [eqD_eq rfl]; simp
@[simp] theorem neD_tD (a b : T) : neD (tD a) (tD b) = some (.bl (!decide (a = b))) := by rw [neD_eq rfl]; simp

/-! ### the sizes of bool lists -/
theorem eqOks_of {n : Nat} {α : Type} (f : α → D) : ∀ (l : List α), (∀ a ∈ l, eqOk n (f a) = true) → eqOks n (l.map f) = true
  | [], _ => by cases n <;> rfl
  | a :: l, h => by
    rw [List.map_cons]
    unfold eqOks
    rw [h a List.mem_cons_self, eqOks_of f l fun x hx => h x (List.mem_cons_of_mem _ hx)]
    rfl
theorem eqOk_lst {n : Nat} {α : Type} (f : α → D) (l : List α) (h : ∀ a ∈ l, eqOk n (f a) = true) : eqOk (n + 1) (.lst (l.map f)) = true := by
  unfold eqOk
  exact eqOks_of f l h
theorem eqOk_tup {n : Nat} {α : Type} (f : α → D) (l : List α) (h : ∀ a ∈ l, eqOk n (f a) = true) : eqOk (n + 1) (.tup (l.map f)) = true := by
  unfold eqOk
  exact eqOks_of f l h
theorem eqOk_int {n : Nat} (i : Int) : eqOk n (.int i) = true := by cases n <;> rfl

/-! ### is_word -/
def wdB (l : T) : Bool := decide (l.length ≤ 8) && decide (∀ c ∈ l, 97 ≤ c ∧ c ≤ 100)
theorem wdB_iff {l : T} : wdB l = true ↔ Wd l := by simp [wdB, Wd]
theorem is_word_eq (l : T) (hl : l.length ≤ 100000) (hc : ∀ c ∈ l, c < 1114112) : f_is_word [tD l] = .ok (.bl (wdB l)) := by
  have e : f_is_word [tD l] = fnRes (r_is_word [.dat (tD l), .un]) := rfl
  rw [e]
  have comp : cLoop (gN 1) (tE (xOp ninSD (xVar 1) (xC (.str "abcd")))) (xVar 1) (wipeE [.dat (tD l), .un] [1]) (l.map fun c => tD [c]) = .ok ((l.filter fun c => !decide (c ∈ [97, 98, 99, 100])).map fun c => tD [c]) := by
    refine cLoop_filter (fun c => tD [c]) _ (fun c => tD [c]) l fun c hc => ?_
    refine ⟨_, rfl, ?_, fun _ => ?_⟩
    · simp [wipeE, abcd_tD]
    · simp [wipeE]
  have key : (decide (D.lst ((l.filter fun c => !decide (c ∈ [97, 98, 99, 100])).map fun c => tD [c]) = D.lst [])) = decide (∀ c ∈ l, 97 ≤ c ∧ c ≤ 100) := by
    rw [Bool.eq_iff_iff]
    simp only [decide_eq_true_eq, D.lst.injEq, List.map_eq_nil_iff, List.filter_eq_nil_iff]
    constructor
    · intro h c hc
      have := h c hc
      simp at this
      omega
    · intro h c hc
      have := h c hc
      simp
      omega
  have hE : eqD (D.lst ((l.filter fun c => !decide (c ∈ [97, 98, 99, 100])).map fun c => tD [c])) (D.lst []) = some (.bl (decide (∀ c ∈ l, 97 ≤ c ∧ c ≤ 100))) := by
    rw [eqD_eq, key]
    have h1 : eqOk 60 (D.lst ((l.filter fun c => !decide (c ∈ [97, 98, 99, 100])).map fun c => tD [c])) = true :=
      eqOk_lst (n := 59) _ _ fun c hc' => eqOk_tD fun x hx => by
        simp at hx
        subst hx
        exact hc _ (List.mem_filter.mp hc').1
    rw [h1]
    rfl
  by_cases h8 : l.length ≤ 8
  · have i8 : ((l.length : Int) ≤ 8) := by omega
    simp only [r_is_word, sRet, xAnd, xOp, xCb, aCons, aNil, xVar, xC, celD, xL, lComp, lLst, iAny, List.getElem?_cons_zero, M.bind, len_tD hl, M.of, leD, decide_eq_true i8, items_tD, List.length_map]
    rw [if_pos ⟨small_lt hl, by simp [Cel.isOwned]⟩, comp]
    simp only [M.bind, M.of, List.length_nil, Nat.zero_le, if_true, hE, M.to, fnRes]
    simp [wdB, h8]
  · have i8 : ¬ ((l.length : Int) ≤ 8) := by omega
    simp [r_is_word, len_tD hl, leD, i8, wdB, h8]
end Wk

namespace Wk
open PySem PySem.Spec PyProof.Rows L2 TL DL
theorem Wd.small {l : T} (h : Wd l) : l.length ≤ 100000 := by have := h.1; omega
theorem Wd.uni {l : T} (h : Wd l) : ∀ c ∈ l, c < 1114112 := fun c hc => by have := (h.2 c hc).2; omega
theorem is_word_ok {l : T} (h : Wd l) : f_is_word [tD l] = .ok (.bl true) := by rw [is_word_eq l h.small h.uni, wdB_iff.mpr h]
@[simp] theorem len_rows (rs : List (List (T × Nat))) : lenD [rowsD rs] = some (.int rs.length) := by simp [rowsD, lenD]
@[simp] theorem len_row (rs : List (T × Nat)) : lenD [rowD rs] = some (.int rs.length) := by simp [rowD, lenD]
@[simp] theorem len_ends (rs : List T) : lenD [endsD rs] = some (.int rs.length) := by simp [endsD, lenD]
@[simp] theorem items_rows (rs : List (List (T × Nat))) : itemsD (rowsD rs) = .ok (rs.map rowD) := rfl
@[simp] theorem items_row (rs : List (T × Nat)) : itemsD (rowD rs) = .ok (rs.map pairD) := rfl
@[simp] theorem items_ends (rs : List T) : itemsD (endsD rs) = .ok (rs.map tD) := rfl
theorem asked_row_loop {rs : List (List (T × Nat))} (a b c d : Cel) : ∀ (r : List (T × Nat)) (x y : Cel), (∀ p ∈ r, Wd p.1 ∧ p.2 < rs.length) →
    ∃ x' y', dLoop (gT (gsCons (gN 5) (gsCons (gN 6) gsNil))) r_asked_writer_b1 (r.map pairD) [a, b, .dat (rowsD rs), c, d, x, y] = .nx [a, b, .dat (rowsD rs), c, d, x', y']
  | [], x, y, _ => ⟨x, y, rfl⟩
  | p :: r, x, y, h => by
    obtain ⟨h1, h2⟩ := h p List.mem_cons_self
    obtain ⟨x', y', e⟩ := asked_row_loop a b c d r (.dat (tD p.1)) (.dat (.int p.2)) fun q hq => h q (List.mem_cons_of_mem _ hq)
    refine ⟨x', y', dLoop_step rfl ?_ e⟩
    have n1 : ¬ ((p.2 : Int) < 0) := by omega
    have n2 : ¬ ((rs.length : Int) ≤ (p.2 : Int)) := by omega
    simp [r_asked_writer_b1, is_word_ok h1, ltD, geD, n1, n2]
theorem asked_rows_loop {rs : List (List (T × Nat))} {s : Nat} (a c : Cel) : ∀ (r : List (List (T × Nat))) (d x y : Cel), (∀ q ∈ r, q.length = s ∧ ∀ p ∈ q, Wd p.1 ∧ p.2 < rs.length) →
    ∃ d' x' y', dLoop (gN 4) r_asked_writer_b2 (r.map rowD) [a, .dat (.int s), .dat (rowsD rs), c, d, x, y] = .nx [a, .dat (.int s), .dat (rowsD rs), c, d', x', y']
  | [], d, x, y, _ => ⟨d, x, y, rfl⟩
  | q :: r, d, x, y, h => by
    obtain ⟨h1, h2⟩ := h q List.mem_cons_self
    obtain ⟨x1, y1, e1⟩ := asked_row_loop (rs := rs) a (.dat (.int s)) c (.dat (rowD q)) q x y h2
    obtain ⟨d', x', y', e⟩ := asked_rows_loop a c r (.dat (rowD q)) x1 y1 fun p hp => h p (List.mem_cons_of_mem _ hp)
    refine ⟨d', x', y', dLoop_step rfl ?_ e⟩
    simp [r_asked_writer_b2, h1, e1]
theorem asked_ends_loop (a b c d x y : Cel) : ∀ (r : List T) (z : Cel), (∀ q ∈ r, Wd q) →
    ∃ z', dLoop (gN 5) r_asked_writer_b3 (r.map tD) [a, b, c, d, x, z, y] = .nx [a, b, c, d, x, z', y]
  | [], z, _ => ⟨z, rfl⟩
  | q :: r, z, h => by
    obtain ⟨z', e⟩ := asked_ends_loop a b c d x y r (.dat (tD q)) fun p hp => h p (List.mem_cons_of_mem _ hp)
    refine ⟨z', dLoop_step rfl ?_ e⟩
    simp [r_asked_writer_b3, is_word_ok (h q List.mem_cons_self)]
theorem asked_writer_ok {w : Wr} (o : w.Ok) : f_asked_writer [wrD w] = .ok .non := by
  have e : f_asked_writer [wrD w] = fnRes (r_asked_writer [.dat (wrD w), .un, .un, .un, .un, .un, .un]) := rfl
  rw [e]
  obtain ⟨d1, x1, y1, e1⟩ := asked_rows_loop (rs := w.rows) (s := w.signs) (.dat (wrD w)) (.dat (endsD w.ends)) w.rows .un .un .un fun q hq => ⟨o.rl q hq, o.pr q hq⟩
  obtain ⟨z1, e2⟩ := asked_ends_loop (.dat (wrD w)) (.dat (.int w.signs)) (.dat (rowsD w.rows)) (.dat (endsD w.ends)) d1 y1 w.ends x1 o.en
  have s1 := o.s1; have s4 := o.s4; have r1 := o.r1; have r6 := o.r6
  have n1 : ¬ ((w.signs : Int) < 1) := by omega
  have n2 : ¬ ((4 : Int) < (w.signs : Int)) := by omega
  have n3 : ¬ ((w.rows.length : Int) < 1) := by omega
  have n4 : ¬ ((6 : Int) < (w.rows.length : Int)) := by omega
  have wd : wrD w = .tup [.int w.signs, rowsD w.rows, endsD w.ends] := rfl
  rw [wd] at e1 e2 ⊢
  simp [r_asked_writer, ltD, gtD, n1, n2, n3, n4, o.el, e1, e2]
end Wk

namespace Wk
open PySem PySem.Spec PyProof.Rows L2 TL DL
/-! ### cells -/
def IntsD (d : D) (ns : List Int) : Prop := d = .scr ns ∨ d = .lst (ns.map D.int)
def cellAt (ns : List Int) (k : Nat) : Int := ns.getD k 0
theorem cell_eq {d : D} {ns : List Int} (h : IntsD d ns) (k : Nat) : f__law_cell_at [d, .int k] = .ok (.int (cellAt ns k)) := by
  have e : f__law_cell_at [d, .int k] = fnRes (r__law_cell_at [.dat d, .dat (.int k)]) := rfl
  rw [e]
  have hl : lenD [d] = some (.int ns.length) := by
    rcases h with rfl | rfl
    · rfl
    · simp [lenD]
  by_cases hk : k < ns.length
  · have hi : ixAD d (.int k) = some (.int (cellAt ns k)) := by
      have e1 : ns[k]? = some (cellAt ns k) := by
        unfold cellAt
        rw [List.getD_eq_getElem?_getD, List.getElem?_eq_getElem hk]
        rfl
      rcases h with rfl | rfl
      · simp only [ixAD]
        rw [atI_nat', e1]
        rfl
      · simp only [ixAD]
        rw [atI_nat', List.getElem?_map, e1]
        rfl
    simp [r__law_cell_at, hl, ltD, hk, hi]
  · have e1 : cellAt ns k = 0 := by
      unfold cellAt
      rw [List.getD_eq_getElem?_getD, List.getElem?_eq_none_iff.mpr (by omega)]
      rfl
    simp [r__law_cell_at, hl, ltD, hk, e1]
theorem mulD_r {a b : Int} (h : -10000000000 ≤ b ∧ b ≤ 10000000000) : mulD (.int a) (.int b) = some (.int (a * b)) := if_pos (.inr (inM_small h.1 h.2))
theorem mulD_l {a b : Int} (h : -10000000000 ≤ a ∧ a ≤ 10000000000) : mulD (.int a) (.int b) = some (.int (a * b)) := if_pos (.inl (inM_small h.1 h.2))
theorem modD_p {a b : Int} (h : 0 < b) : modD (.int a) (.int b) = some (.int (a % b)) := if_pos h
theorem fdivD_p {a b : Int} (h : 0 < b ∧ b < 1073741824) : fdivD (.int a) (.int b) = some (.int (a / b)) := if_pos h
@[simp] theorem addD_int (a b : Int) : addD (.int a) (.int b) = some (.int (a + b)) := rfl
@[simp] theorem subD_int (a b : Int) : subD (.int a) (.int b) = some (.int (a - b)) := rfl
@[simp] theorem ltD_int (a b : Int) : ltD (.int a) (.int b) = some (.bl (decide (a < b))) := rfl
@[simp] theorem leD_int (a b : Int) : leD (.int a) (.int b) = some (.bl (decide (a ≤ b))) := rfl
@[simp] theorem gtD_int (a b : Int) : gtD (.int a) (.int b) = some (.bl (decide (b < a))) := rfl
@[simp] theorem geD_int (a b : Int) : geD (.int a) (.int b) = some (.bl (decide (b ≤ a))) := rfl
theorem stirred_eq (c k : Int) : ∃ r : Int, 0 ≤ r ∧ f__law_stirred [.int c, .int k] = .ok (.int r) := by
  have e : f__law_stirred [.int c, .int k] = fnRes (r__law_stirred [.dat (.int c), .dat (.int k), .un]) := rfl
  rw [e]
  have b1 : ∀ x : Int, 0 ≤ x % 2147483647 ∧ x % 2147483647 < 2147483647 := fun x => by omega
  have m1 := mulD_l (a := 1009) (b := k) (by decide)
  have m2 := mulD_r (a := c + 1009 * k + 17) (b := 48271) (by decide)
  have m3 := modD_p (a := (c + 1009 * k + 17) * 48271) (b := 2147483647) (by decide)
  generalize hx : (c + 1009 * k + 17) * 48271 % 2147483647 = x at m3
  have bx := b1 ((c + 1009 * k + 17) * 48271)
  rw [hx] at bx
  have m4 := mulD_l (a := x) (b := x) (by omega)
  have m5 := modD_p (a := x * x) (b := 2147483647) (by decide)
  generalize hy : x * x % 2147483647 = y at m5
  have m6 := mulD_r (a := y) (b := 48271) (by decide)
  have m7 := modD_p (a := y * 48271) (b := 2147483647) (by decide)
  generalize hz : y * 48271 % 2147483647 = z at m7
  have bz := b1 (y * 48271)
  rw [hz] at bz
  have m8 := fdivD_p (a := z) (b := 8) (by decide)
  refine ⟨z / 8, by omega, ?_⟩
  simp [r__law_stirred, m1, m2, m3, m4, m5, m6, m7, m8]
theorem ix_abcd {i : Int} (h0 : 0 ≤ i) (h4 : i < 4) : ∃ c : Nat, (97 ≤ c ∧ c ≤ 100) ∧ c = 97 + i.toNat ∧ ixAD (.str "abcd") (.int i) = some (tD [c]) := by
  obtain ⟨n, rfl⟩ := Int.eq_ofNat_of_zero_le h0
  have hn : n < 4 := by omega
  refine ⟨97 + n, by omega, by simp, ?_⟩
  have hs : ("abcd" : Str).length ≤ sizeLine := small_line (by decide)
  have e : ("abcd" : Str).cps.toList = [97, 98, 99, 100] := by decide
  unfold ixAD
  simp only
  rw [if_pos hs, e]
  have h2 : atI [97, 98, 99, 100] (n : Int) = some (97 + n) := by
    have := atI_nat' [97, 98, 99, 100] n
    rw [this]
    match n, hn with
    | 0, _ => rfl
    | 1, _ => rfl
    | 2, _ => rfl
    | 3, _ => rfl
  rw [h2]
  rfl
theorem word_loop {L : Int} (h1 : 1 ≤ L) (h4 : L ≤ 4) (a c3 : Cel) : ∀ (ds : List D) (cell : Int) (acc : T) (c5 : Cel), acc.length + ds.length ≤ 8 → Wd acc →
    ∃ (acc' : T) (cell' : Int) (c5' : Cel), Wd acc' ∧ acc'.length = acc.length + ds.length ∧
      dLoop (gN 5) r__law_word_b1 ds [.dat (.int cell), a, .dat (.int L), c3, .dat (tD acc), c5] = .nx [.dat (.int cell'), a, .dat (.int L), c3, .dat (tD acc'), c5']
  | [], cell, acc, c5, _, hw => ⟨acc, cell, c5, hw, by simp, rfl⟩
  | d :: ds, cell, acc, c5, hl, hw => by
    simp only [List.length_cons] at hl
    have hm : 0 ≤ cell % L ∧ cell % L < 4 := ⟨Int.emod_nonneg _ (by omega), by have := Int.emod_lt_of_pos cell (show 0 < L by omega); omega⟩
    obtain ⟨c, hc, _, hi⟩ := ix_abcd hm.1 hm.2
    have ha : addD (tD acc) (tD [c]) = some (tD (acc ++ [c])) := add_tD (by simp; omega)
    obtain ⟨acc', cell', c5', q1, q2, q3⟩ := word_loop h1 h4 a c3 ds (cell / L) (acc ++ [c]) (.dat d) (by simp; omega) ⟨by simp; omega, fun x hx => by
      rcases List.mem_append.mp hx with hx | hx
      · exact hw.2 x hx
      · rw [List.mem_singleton.mp hx]; exact hc⟩
    refine ⟨acc', cell', c5', q1, by rw [q2]; simp; omega, dLoop_step rfl ?_ q3⟩
    simp [r__law_word_b1, modD_p (a := cell) (b := L) (by omega), fdivD_p (a := cell) (b := L) (by omega), hi, ha]
theorem rng1_nat {n : Nat} (h : n ≤ 1000) : rng1D [.int (n : Int)] = some ((List.range n).map fun (m : Nat) => D.int (m : Int)) :=
  (if_pos (inB_small (j := (n : Int)) (by omega) (by omega))).trans (by rw [Int.toNat_natCast])
theorem sSeq_nx {a b : DStm} {env e1 : DEnv} {r : DOut} (h1 : a env = .nx e1) (h2 : b e1 = r) : sSeq a b env = r := by
  simp only [sSeq, h1, DOut.then]
  exact h2
theorem sSet_ok {i : Nat} {f : DEnv → M D} {env e1 : DEnv} {d : D} (h : f env = .ok d) (he : env.set i (.dat d) = e1) : sSet i f env = .nx e1 := by
  simp only [sSet, h, M.to, he]
theorem sFor_ok {it : DEnv → M (List D)} {t : DTgt} {b : DStm} {env : DEnv} {ds : List D} {r : DOut} (h : it env = .ok ds) (hl : dLoop t b ds env = r) : sFor it t b env = r := by
  simp only [sFor, h, M.to]
  exact hl
theorem sRet_ok {f : DEnv → M D} {env : DEnv} {d : D} (h : f env = .ok d) : sRet f env = .rt d := by
  simp only [sRet, h, M.to]
theorem word_eq (cell : Int) {most : Nat} (hm : most ≤ 8) {L : Int} (h1 : 1 ≤ L) (h4 : L ≤ 4) : ∃ (l : T) (c : Int), Wd l ∧ l.length ≤ most ∧ f__law_word [.int cell, .int most, .int L] = .ok (.tup [tD l, .int c]) := by
  have e : f__law_word [.int cell, .int most, .int L] = fnRes (r__law_word [.dat (.int cell), .dat (.int most), .dat (.int L), .un, .un, .un]) := rfl
  rw [e]
  have m1 := modD_p (a := cell) (b := (most : Int) + 1) (by omega)
  have m2 := fdivD_p (a := cell) (b := (most : Int) + 1) (by omega)
  obtain ⟨n, hn⟩ := Int.eq_ofNat_of_zero_le (Int.emod_nonneg cell (show (most : Int) + 1 ≠ 0 by omega))
  have hn' : cell % ((most : Int) + 1) = (n : Int) := hn
  have hlt := Int.emod_lt_of_pos cell (show 0 < (most : Int) + 1 by omega)
  rw [hn'] at m1 hlt
  obtain ⟨acc, c', c5, w1, w2, w3⟩ := word_loop h1 h4 (.dat (.int most)) (.dat (.int n)) ((List.range n).map fun (m : Nat) => D.int (m : Int)) (cell / ((most : Int) + 1)) [] .un (by simp; omega) ⟨by simp, by simp⟩
  refine ⟨acc, c', w1, by rw [w2]; simp; omega, ?_⟩
  have hr : r__law_word [.dat (.int cell), .dat (.int most), .dat (.int L), .un, .un, .un] = .rt (.tup [tD acc, .int c']) := by
    refine sSeq_nx (sSet_ok (d := .int n) ?_ rfl) (sSeq_nx (sSet_ok (d := .int (cell / ((most : Int) + 1))) ?_ rfl) (sSeq_nx (sSet_ok (d := tD []) ?_ rfl) (sSeq_nx (sFor_ok ?_ w3) (sRet_ok ?_))))
    · simp [m1]
    · simp [m2]
    · simp [nil_tD]
    · simp [rng1_nat (show n ≤ 1000 by omega)]
    · simp [small_line]
  rw [hr]
  rfl
theorem iRng_ok {r : List D → Option (List D)} {g : DEnv → M (List D)} {env : DEnv} {ds its : List D} (h1 : g env = .ok ds) (h2 : r ds = some its) : iRng r g env = .ok its := by
  simp only [iRng, h1, M.bind, h2, M.of]
theorem lComp_ok {vs : List Nat} {it : DEnv → M (List D)} {t : DTgt} {c : DEnv → M Bool} {f : DEnv → M D} {env : DEnv} {ds r : List D} (h1 : it env = .ok ds) (h2 : ds.length ≤ 100000) (h3 : (vs.all fun i => match env[i]? with | some s => !s.isOwned | none => true) = true) (h4 : cLoop t c f (wipeE env vs) ds = .ok r) : lComp vs it t c f env = .ok r := by
  simp only [lComp, h1, M.bind]
  rw [if_pos ⟨small_lt h2, h3⟩, h4]
end Wk

namespace Wk
open PySem PySem.Spec PyProof.Rows L2 TL DL
/-! ### _law_writer -/
/-- the pairs of a row, of words to n letters and states below S -/
def RowOk (n S : Nat) (r : List (T × Nat)) : Prop := ∀ p ∈ r, Wd p.1 ∧ p.1.length ≤ n ∧ p.2 < S
theorem natOf {i : Int} (h : 0 ≤ i) : ∃ n : Nat, i = (n : Int) := ⟨i.toNat, by omega⟩
theorem writer_in {S n : Nat} (hS : 1 ≤ S ∧ S ≤ 6) (hn : n ≤ 8) {L : Int} (hL : 1 ≤ L ∧ L ≤ 4) (head seed state : Int) (c0 c1 c2 c9 c10 : Cel) : ∀ (ds : List Nat) (own : Int) (row : List (T × Nat)) (c13 c14 c15 : Cel), row.length + ds.length ≤ 1000 → RowOk n S row →
    ∃ (own' : Int) (row' : List (T × Nat)) (c13' c14' c15' : Cel), RowOk n S row' ∧ row'.length = row.length + ds.length ∧
      dLoop (gN 13) r__law_writer_b1 (ds.map fun (m : Nat) => D.int (m : Int)) [c0, c1, c2, .dat (.int head), .dat (.int S), .dat (.int n), .dat (.int L), .dat (.int seed), .dat (.int own), c9, c10, .dat (.int state), .own (row.map pairD), c13, c14, c15] =
        .nx [c0, c1, c2, .dat (.int head), .dat (.int S), .dat (.int n), .dat (.int L), .dat (.int seed), .dat (.int own'), c9, c10, .dat (.int state), .own (row'.map pairD), c13', c14', c15']
  | [], own, row, c13, c14, c15, _, hr => ⟨own, row, c13, c14, c15, hr, by simp, rfl⟩
  | d :: ds, own, row, c13, c14, c15, hl, hr => by
    simp only [List.length_cons] at hl
    have f1 := fdivD_p (a := head) (b := 6048) (by decide)
    have f2 := modD_p (a := head / 6048) (b := 2) (by decide)
    have m1 := mulD_l (a := 97) (b := state) (by decide)
    have m2 := mulD_l (a := 11) (b := (d : Int)) (by decide)
    obtain ⟨q, hq0, hq⟩ := stirred_eq seed (97 * state + 11 * (d : Int))
    -- the value of own behind the if
    have step : ∀ o : Int, ∃ (own' : Int) (p : T × Nat), (Wd p.1 ∧ p.1.length ≤ n ∧ p.2 < S) ∧ modD (.int o) (.int S) = some (.int (p.2 : Int)) ∧ fdivD (.int o) (.int S) = some (.int (o / S)) ∧ f__law_word [.int (o / S), .int n, .int L] = .ok (.tup [tD p.1, .int own']) := fun o => by
      obtain ⟨l, c, w1, w2, w3⟩ := word_eq (o / S) hn hL.1 hL.2
      obtain ⟨a, ha⟩ := natOf (Int.emod_nonneg o (show (S : Int) ≠ 0 by omega))
      have hlt := Int.emod_lt_of_pos o (show (0 : Int) < S by omega)
      refine ⟨c, (l, a), ⟨w1, w2, by show a < S; omega⟩, ?_, fdivD_p ⟨by omega, by omega⟩, w3⟩
      rw [modD_p (by omega), ha]
    have big : (List.map pairD row).length < sizeLine := small_lt (by rw [List.length_map]; omega)
    by_cases hb : head / 6048 % 2 = 0
    · obtain ⟨own1, p, h1, h2, h3, h4⟩ := step q
      obtain ⟨own', row', x, y, z, r1, r2, r3⟩ := writer_in hS hn hL head seed state c0 c1 c2 c9 c10 ds own1 (row ++ [p]) (.dat (.int d)) (.dat (.int p.2)) (.dat (tD p.1)) (by simp; omega) (fun x hx => by
        rcases List.mem_append.mp hx with hx | hx
        · exact hr x hx
        · rw [List.mem_singleton.mp hx]; exact h1)
      refine ⟨own', row', x, y, z, r1, by rw [r2]; simp; omega, dLoop_step rfl ?_ r3⟩
      simp [r__law_writer_b1, f1, f2, hb, m1, m2, hq, h2, h3, h4, small_line, big, pairD]
      simpa using big
    · obtain ⟨own1, p, h1, h2, h3, h4⟩ := step own
      obtain ⟨own', row', x, y, z, r1, r2, r3⟩ := writer_in hS hn hL head seed state c0 c1 c2 c9 c10 ds own1 (row ++ [p]) (.dat (.int d)) (.dat (.int p.2)) (.dat (tD p.1)) (by simp; omega) (fun x hx => by
        rcases List.mem_append.mp hx with hx | hx
        · exact hr x hx
        · rw [List.mem_singleton.mp hx]; exact h1)
      refine ⟨own', row', x, y, z, r1, by rw [r2]; simp; omega, dLoop_step rfl ?_ r3⟩
      simp [r__law_writer_b1, f1, f2, hb, m1, m2, hq, h2, h3, h4, small_line, big, pairD]
      simpa using big

theorem min2_int (i j : Int) : min2D [.int i, .int j] = some (.int (min i j)) := by
  have e : (if j < i then j else i) = min i j := by split <;> omega
  show some (D.int (if j < i then j else i)) = _
  rw [e]
theorem writer_out {S n g : Nat} (hS : 1 ≤ S ∧ S ≤ 6) (hn : n ≤ 8) {L : Int} (hL : 1 ≤ L ∧ L ≤ 4) (head seed : Int) (c0 c1 : Cel) (a b c : Nat) (ha : 1 ≤ a) (hg : 1 + head % (a : Int) = (g : Int)) (hg4 : g ≤ 4) :
    ∀ (ds : List Nat) (own : Int) (rows : List (List (T × Nat))) (ends : List T) (c11 c12 c13 c14 c15 : Cel), rows.length + ds.length ≤ 1000 → ends.length = rows.length → (∀ r ∈ rows, r.length = g ∧ RowOk n S r) → (∀ e ∈ ends, Wd e ∧ e.length ≤ n) →
    ∃ (own' : Int) (rows' : List (List (T × Nat))) (ends' : List T) (c11' c12' c13' c14' c15' : Cel), rows'.length = rows.length + ds.length ∧ ends'.length = rows'.length ∧ (∀ r ∈ rows', r.length = g ∧ RowOk n S r) ∧ (∀ e ∈ ends', Wd e ∧ e.length ≤ n) ∧
      dLoop (gN 11) r__law_writer_b2 (ds.map fun (m : Nat) => D.int (m : Int)) [c0, c1, .dat (.tup [.int a, .int b, .int c]), .dat (.int head), .dat (.int S), .dat (.int n), .dat (.int L), .dat (.int seed), .dat (.int own), .own (rows.map rowD), .own (ends.map tD), c11, c12, c13, c14, c15] =
        .nx [c0, c1, .dat (.tup [.int a, .int b, .int c]), .dat (.int head), .dat (.int S), .dat (.int n), .dat (.int L), .dat (.int seed), .dat (.int own'), .own (rows'.map rowD), .own (ends'.map tD), c11', c12', c13', c14', c15']
  | [], own, rows, ends, c11, c12, c13, c14, c15, _, he, hr, hen => ⟨own, rows, ends, c11, c12, c13, c14, c15, by simp, he, hr, hen, rfl⟩
  | d :: ds, own, rows, ends, c11, c12, c13, c14, c15, hl, he, hr, hen => by
    simp only [List.length_cons] at hl
    have f1 := fdivD_p (a := head) (b := 6048) (by decide)
    have f2 := modD_p (a := head / 6048) (b := 2) (by decide)
    have f3 := fdivD_p (a := head) (b := 864) (by decide)
    have f4 := modD_p (a := head / 864) (b := 7) (by decide)
    have f5 := modD_p (a := head) (b := (a : Int)) (by omega)
    have m1 := mulD_l (a := 97) (b := (d : Int)) (by decide)
    obtain ⟨q, hq0, hq⟩ := stirred_eq seed (97 * (d : Int) + 71)
    have hrng : iRng rng1D (aCons (xOp addD (xC (.int 1)) (xOp modD (xVar 3) (xOp ixAD (xVar 2) (xC (.int 0))))) (aNil)) [c0, c1, .dat (.tup [.int a, .int b, .int c]), .dat (.int head), .dat (.int S), .dat (.int n), .dat (.int L), .dat (.int seed), .dat (.int own), .own (rows.map rowD), .own (ends.map tD), .dat (.int d), .own [], c13, c14, c15] = .ok ((List.range g).map fun (m : Nat) => D.int (m : Int)) := by
      have : ixAD (.tup [.int a, .int b, .int c]) (.int 0) = some (.int a) := rfl
      simp [this, f5, hg, rng1_nat (show g ≤ 1000 by omega)]
    obtain ⟨own1, row1, x1, y1, z1, r1, r2, r3⟩ := writer_in hS hn hL head seed (d : Int) c0 c1 (.dat (.tup [.int a, .int b, .int c])) (.own (rows.map rowD)) (.own (ends.map tD)) (List.range g) own [] c13 c14 c15 (by simp; omega) (fun x hx => by simp at hx)
    have hmin : ∃ k : Nat, k ≤ 8 ∧ k ≤ n ∧ min (n : Int) (2 + head / 864 % 7) = (k : Int) := by
      refine ⟨(min (n : Int) (2 + head / 864 % 7)).toNat, ?_, ?_, ?_⟩ <;> omega
    obtain ⟨k, hk8, hkn, hk⟩ := hmin
    have big1 : rows.length < sizeLine := small_lt (by omega)
    have big2 : ends.length < sizeLine := small_lt (by omega)
    simp only [List.length_nil, Nat.zero_add, List.length_range] at r2
    have key : ∀ (o : Int), ∃ (own' : Int) (l : T), (Wd l ∧ l.length ≤ n) ∧ f__law_word [.int o, .int k, .int L] = .ok (.tup [tD l, .int own']) := fun o => by
      obtain ⟨l, c, w1, w2, w3⟩ := word_eq o hk8 hL.1 hL.2
      exact ⟨c, l, ⟨w1, by omega⟩, w3⟩
    have rowD_eq : D.tup (row1.map pairD) = rowD row1 := rfl
    have tail := fun (own2 : Int) (l : T) (h1 : Wd l ∧ l.length ≤ n) => writer_out hS hn hL head seed c0 c1 a b c ha hg hg4 ds own2 (rows ++ [row1]) (ends ++ [l]) (.dat (.int d)) (.dat (.lst (row1.map pairD))) x1 y1 (.dat (tD l)) (by simp; omega) (by simp; omega) (fun x hx => by
      rcases List.mem_append.mp hx with hx | hx
      · exact hr x hx
      · rw [List.mem_singleton.mp hx]; exact ⟨r2, r1⟩) (fun x hx => by
      rcases List.mem_append.mp hx with hx | hx
      · exact hen x hx
      · rw [List.mem_singleton.mp hx]; exact h1)
    by_cases hb : head / 6048 % 2 = 0
    · obtain ⟨own2, l, h1, h2⟩ := key q
      obtain ⟨own', rows', ends', e1, e2, e3, e4, e5, t1, t2, t3, t4, t5⟩ := tail own2 l h1
      refine ⟨own', rows', ends', e1, e2, e3, e4, e5, by rw [t1]; simp; omega, t2, t3, t4, dLoop_step rfl ?_ t5⟩
      unfold r__law_writer_b2
      refine sSeq_nx (e1 := [c0, c1, .dat (.tup [.int a, .int b, .int c]), .dat (.int head), .dat (.int S), .dat (.int n), .dat (.int L), .dat (.int seed), .dat (.int own), .own (rows.map rowD), .own (ends.map tD), .dat (.int d), .own [], c13, c14, c15]) (by simp [small_line]) ?_
      refine sSeq_nx (sFor_ok hrng r3) ?_
      simp [f1, f2, f3, f4, hb, m1, hq, min2_int, hk, h2, big1, big2, tupD, rowD_eq]
    · obtain ⟨own2, l, h1, h2⟩ := key own1
      obtain ⟨own', rows', ends', e1, e2, e3, e4, e5, t1, t2, t3, t4, t5⟩ := tail own2 l h1
      refine ⟨own', rows', ends', e1, e2, e3, e4, e5, by rw [t1]; simp; omega, t2, t3, t4, dLoop_step rfl ?_ t5⟩
      unfold r__law_writer_b2
      refine sSeq_nx (e1 := [c0, c1, .dat (.tup [.int a, .int b, .int c]), .dat (.int head), .dat (.int S), .dat (.int n), .dat (.int L), .dat (.int seed), .dat (.int own), .own (rows.map rowD), .own (ends.map tD), .dat (.int d), .own [], c13, c14, c15]) (by simp [small_line]) ?_
      refine sSeq_nx (sFor_ok hrng r3) ?_
      simp [f1, f2, f3, f4, hb, m1, hq, min2_int, hk, h2, big1, big2, tupD, rowD_eq]
theorem writer_eq {d : D} {ns : List Int} (hd : IntsD d ns) (at' : Nat) {a b c : Nat} (ha : 1 ≤ a ∧ a ≤ 4) (hb : 1 ≤ b ∧ b ≤ 6) (hc : c ≤ 8) :
    ∃ w : Wr, w.Ok ∧ w.signs ≤ a ∧ (w.signs : Int) = 1 + cellAt ns at' % a ∧ w.rows.length ≤ b ∧ (∀ r ∈ w.rows, ∀ p ∈ r, p.1.length ≤ c) ∧ (∀ e ∈ w.ends, e.length ≤ c) ∧
      f__law_writer [d, .int at', .tup [.int a, .int b, .int c]] = .ok (wrD w) := by
  have e : f__law_writer [d, .int at', .tup [.int a, .int b, .int c]] = fnRes (r__law_writer [.dat d, .dat (.int at'), .dat (.tup [.int a, .int b, .int c]), .un, .un, .un, .un, .un, .un, .un, .un, .un, .un, .un, .un, .un]) := rfl
  rw [e]
  generalize hh : cellAt ns at' = head
  have c1 : f__law_cell_at [d, .int at'] = .ok (.int head) := by rw [cell_eq hd, hh]
  have c2 := cell_eq hd (at' + 1)
  simp only [Int.natCast_add, Int.cast_ofNat_Int] at c2
  generalize hs : cellAt ns (at' + 1) = seed at c2
  have f0 := fdivD_p (a := head) (b := 4) (by decide)
  have f1 := modD_p (a := head / 4) (b := (b : Int)) (by omega)
  have f2 := fdivD_p (a := head) (b := 24) (by decide)
  have f3 := modD_p (a := head / 24) (b := (c : Int) + 1) (by omega)
  have f4 := fdivD_p (a := head) (b := 216) (by decide)
  have f5 := modD_p (a := head / 216) (b := 4) (by decide)
  have f6 := modD_p (a := head) (b := (a : Int)) (by omega)
  have l1 : 0 ≤ head / 4 % (b : Int) ∧ head / 4 % (b : Int) < b := ⟨Int.emod_nonneg _ (by omega), Int.emod_lt_of_pos _ (by omega)⟩
  have l2 : 0 ≤ head / 24 % ((c : Int) + 1) ∧ head / 24 % ((c : Int) + 1) < c + 1 := ⟨Int.emod_nonneg _ (by omega), Int.emod_lt_of_pos _ (by omega)⟩
  have l3 : 0 ≤ head / 216 % 4 ∧ head / 216 % 4 < 4 := by omega
  have l4 : 0 ≤ head % (a : Int) ∧ head % (a : Int) < a := ⟨Int.emod_nonneg _ (by omega), Int.emod_lt_of_pos _ (by omega)⟩
  obtain ⟨S, hS⟩ := natOf (show 0 ≤ 1 + head / 4 % (b : Int) by omega)
  obtain ⟨n, hn⟩ := natOf l2.1
  obtain ⟨g, hg⟩ := natOf (show 0 ≤ 1 + head % (a : Int) by omega)
  obtain ⟨own', rows, ends, c11, c12, c13, c14, c15, t1, t2, t3, t4, t5⟩ := writer_out (S := S) (n := n) (g := g) (by omega) (by omega) (L := 1 + head / 216 % 4) (by omega) head seed (.dat d) (.dat (.int at')) a b c ha.1 hg (by omega) (List.range S) seed [] [] .un .un .un .un .un (by simp; omega) rfl (fun _ h => by simp at h) (fun _ h => by simp at h)
  simp only [List.length_nil, Nat.zero_add, List.length_range] at t1
  have hrng := rng1_nat (show S ≤ 1000 by omega)
  refine ⟨⟨g, rows, ends⟩, ⟨by show 1 ≤ g; omega, by show g ≤ 4; omega, by show 1 ≤ rows.length; omega, by show rows.length ≤ 6; omega, t2, fun r h => (t3 r h).1, fun r h p hp => ⟨((t3 r h).2 p hp).1, by show p.2 < rows.length; have := ((t3 r h).2 p hp).2.2; omega⟩, fun e h => (t4 e h).1⟩,
    by show g ≤ a; omega, by show (g : Int) = _; omega, by show rows.length ≤ b; omega, fun r h p hp => by have := ((t3 r h).2 p hp).2.1; omega, fun e h => by have := (t4 e h).2; omega, ?_⟩
  have i0 : ixAD (.tup [.int a, .int b, .int c]) (.int 0) = some (.int a) := rfl
  have i1 : ixAD (.tup [.int a, .int b, .int c]) (.int 1) = some (.int b) := rfl
  have i2 : ixAD (.tup [.int a, .int b, .int c]) (.int 2) = some (.int c) := rfl
  have hr : r__law_writer [.dat d, .dat (.int at'), .dat (.tup [.int a, .int b, .int c]), .un, .un, .un, .un, .un, .un, .un, .un, .un, .un, .un, .un, .un] = .rt (wrD ⟨g, rows, ends⟩) := by
    unfold r__law_writer
    refine sSeq_nx (sSet_ok (d := .int head) (by simp [c1]) rfl) ?_
    refine sSeq_nx (sSet_ok (d := .int S) (by simp [f0, f1, i1, hS]) rfl) ?_
    refine sSeq_nx (sSet_ok (d := .int n) (by simp [f2, f3, i2, hn]) rfl) ?_
    refine sSeq_nx (sSet_ok (d := .int (1 + head / 216 % 4)) (by simp [f4, f5]) rfl) ?_
    refine sSeq_nx (sSet_ok (d := .int seed) (by simp [c2]) rfl) ?_
    refine sSeq_nx (sSet_ok (d := .int seed) (by simp) rfl) ?_
    refine sSeq_nx (e1 := [.dat d, .dat (.int at'), .dat (.tup [.int a, .int b, .int c]), .dat (.int head), .dat (.int S), .dat (.int n), .dat (.int (1 + head / 216 % 4)), .dat (.int seed), .dat (.int seed), .own [], .un, .un, .un, .un, .un, .un]) (by simp [small_line]) ?_
    refine sSeq_nx (e1 := [.dat d, .dat (.int at'), .dat (.tup [.int a, .int b, .int c]), .dat (.int head), .dat (.int S), .dat (.int n), .dat (.int (1 + head / 216 % 4)), .dat (.int seed), .dat (.int seed), .own [], .own [], .un, .un, .un, .un, .un]) (by simp [small_line]) ?_
    refine sSeq_nx (sFor_ok (by simp [hrng]) t5) ?_
    simp [i0, f6, hg, tupD, small_line]
    rfl
  rw [hr]
  rfl
end Wk

namespace Wk
open PySem PySem.Spec PyProof.Rows L2 TL DL
/-! ### slices -/
theorem cutL_take {α : Type} (l : List α) (k : Nat) : cutL l none (some (k : Int)) = l.take k := by
  unfold cutL
  rw [HT.sIx_none, HT.sIx_nat, Nat.sub_zero, List.drop_zero]
  rw [List.take_eq_take_iff]
  omega
theorem cutL_drop {α : Type} (l : List α) (k : Nat) : cutL l (some (k : Int)) none = l.drop k := by
  unfold cutL
  rw [HT.sIx_none, HT.sIx_nat]
  rw [List.take_of_length_le (by rw [List.length_drop]; omega)]
  by_cases h : k ≤ l.length
  · rw [Nat.min_eq_left h]
  · rw [Nat.min_eq_right (by omega), List.drop_of_length_le (Nat.le_refl _), List.drop_of_length_le (by omega)]
theorem cutL_mid {α : Type} (l : List α) (j k : Nat) : cutL l (some (j : Int)) (some (k : Int)) = (l.drop j).take (k - j) := by
  unfold cutL
  rw [HT.sIx_nat, HT.sIx_nat]
  by_cases h : j ≤ l.length
  · rw [Nat.min_eq_left h, List.take_eq_take_iff, List.length_drop]
    omega
  · rw [List.drop_of_length_le (show l.length ≤ min j l.length by omega), List.drop_of_length_le (show l.length ≤ j by omega)]
    simp
theorem cut_tD {l : T} (h : l.length ≤ 100000) (lo hi : Option Int) : slcD lo hi (tD l) = some (tD (cutL l lo hi)) := by
  unfold tD slcD
  simp only [sv_len]
  rw [if_pos (small_line h)]
  congr 2
@[simp] theorem cut_mD (ms : List Nat) (k : Nat) : slcD none (some (k : Int)) (mD ms) = some (mD (ms.take k)) := by
  simp only [mD, slcD, cutL_take, List.map_take]
@[simp] theorem isi_str (l : T) : isiD "str" (tD l) = some (.bl true) := rfl
theorem len_mD (ms : List Nat) : lenD [mD ms] = some (.int ms.length) := by simp [mD, lenD]
theorem eqOk_mD (ms : List Nat) : eqOk 60 (mD ms) = true := eqOk_lst (n := 59) _ ms fun m _ => eqOk_int _
theorem mD_inj {a b : List Nat} : mD a = mD b ↔ a = b := by
  constructor
  · intro h
    simp only [mD, D.lst.injEq] at h
    exact (List.map_inj_right (fun x y h => by simp only [D.int.injEq] at h; omega)).mp h
  · rintro rfl; rfl
theorem eq_mD (a b : List Nat) : eqD (mD a) (mD b) = some (.bl (decide (a = b))) := by
  rw [eqD_eq (by rw [eqOk_mD, eqOk_mD]; simp)]
  simp only [mD_inj]
theorem tup3 (a b c : Int) : xTup (aCons (xC (.int a)) (aCons (xC (.int b)) (aCons (xC (.int c)) aNil))) = fun _ => .ok (.tup [.int a, .int b, .int c]) := by
  funext env
  simp [small_line]
theorem cells0 (ns : List Int) : IntsD (.scr ns) ns := .inl rfl
theorem eqOk_wrD {w : Wr} (o : w.Ok) : eqOk 60 (wrD w) = true := by
  have h1 : eqOk 59 (rowsD w.rows) = true := eqOk_tup (n := 58) rowD w.rows fun r hr => eqOk_tup (n := 57) pairD r fun p hp => by
    have := eqOk_tD (n := 56) ((o.pr r hr p hp).1.uni)
    simp only [pairD, eqOk, eqOks, this, Bool.and_self]
  have h2 : eqOk 59 (endsD w.ends) = true := eqOk_tup (n := 58) tD w.ends fun l hl => eqOk_tD (o.en l hl).uni
  have h3 : eqOk 59 (.int (w.signs : Int)) = true := eqOk_int _
  show eqOks 59 [.int (w.signs : Int), rowsD w.rows, endsD w.ends] = true
  simp only [eqOks, h1, h2, h3, Bool.and_self]
theorem Wr.Ok.row_ok {w : Wr} (o : w.Ok) {k : Nat} (h : k < w.rows.length) : ∃ r, w.rows[k]? = some r ∧ w.rows.getD k [] = r ∧ r.length = w.signs ∧ ∀ p ∈ r, Wd p.1 ∧ p.2 < w.rows.length := by
  have h1 : w.rows[k]? = some w.rows[k] := List.getElem?_eq_getElem h
  exact ⟨_, h1, by rw [List.getD_eq_getElem?_getD, h1]; rfl, o.rl _ (List.getElem_mem _), o.pr _ (List.getElem_mem _)⟩
end Wk

namespace Wk
open PySem PySem.Spec PyProof.Rows L2 TL DL
/-! ### a search in layers -/
structure Gr (N : Type) where
  s : Nat
  d : N → Nat → N
  acc : N → Bool
  n0 : N
section
variable {N : Type} [DecidableEq N] (g : Gr N)
def Gr.run (ms : List Nat) : N := ms.foldl g.d g.n0
/-- the place of a message among all, the shorter ones first -/
def Gr.enc (ms : List Nat) : Nat := ms.foldl (fun a c => a * g.s + (c + 1)) 0
def Gr.Val (ms : List Nat) : Prop := ∀ c ∈ ms, c < g.s
variable {g}
theorem run_snoc (ms : List Nat) (c : Nat) : g.run (ms ++ [c]) = g.d (g.run ms) c := by simp [Gr.run, List.foldl_append]
theorem enc_snoc (ms : List Nat) (c : Nat) : g.enc (ms ++ [c]) = g.enc ms * g.s + (c + 1) := by simp [Gr.enc, List.foldl_append]
theorem enc_nil : g.enc [] = 0 := rfl
theorem val_snoc {ms : List Nat} {c : Nat} (h : g.Val ms) (hc : c < g.s) : g.Val (ms ++ [c]) := fun x hx => by
  rcases List.mem_append.mp hx with hx | hx
  · exact h x hx
  · rw [List.mem_singleton.mp hx]; exact hc
theorem val_init {ms : List Nat} {c : Nat} (h : g.Val (ms ++ [c])) : g.Val ms ∧ c < g.s := ⟨fun x hx => h x (List.mem_append_left _ hx), h c (by simp)⟩
theorem enc_lt {a b : List Nat} {c c' : Nat} (h : g.enc a < g.enc b) (hc : c < g.s) : g.enc (a ++ [c]) < g.enc (b ++ [c']) := by
  rw [enc_snoc, enc_snoc]
  have h1 : (g.enc a + 1) * g.s ≤ g.enc b * g.s := Nat.mul_le_mul_right _ h
  rw [Nat.add_mul, Nat.one_mul] at h1
  omega
theorem enc_le {a b : List Nat} {c : Nat} (h : g.enc a ≤ g.enc b) : g.enc (a ++ [c]) ≤ g.enc (b ++ [c]) := by
  rw [enc_snoc, enc_snoc]
  have := Nat.mul_le_mul_right g.s h
  omega
theorem enc_init {a : List Nat} {c : Nat} (hc : c < g.s) : g.enc a < g.enc (a ++ [c]) := by
  rw [enc_snoc]
  have : g.enc a * 1 ≤ g.enc a * g.s := Nat.mul_le_mul_left _ (by omega)
  omega
theorem len_enc : ∀ (n : Nat) (a b : List Nat), b.length = n → g.Val a → a.length < b.length → g.enc a < g.enc b
  | 0, a, b, hb, _, h => by omega
  | n + 1, a, b, hb, ha, h => by
    rcases List.eq_nil_or_concat b with rfl | ⟨b1, c, rfl⟩
    · simp at hb
    · rw [List.concat_eq_append] at hb h ⊢
      simp only [List.length_append, List.length_singleton] at hb h
      rcases List.eq_nil_or_concat a with rfl | ⟨a1, x, rfl⟩
      · rw [enc_nil, enc_snoc]; omega
      · rw [List.concat_eq_append] at ha h ⊢
        simp only [List.length_append, List.length_singleton] at h
        obtain ⟨v1, v2⟩ := val_init ha
        exact enc_lt (len_enc n a1 b1 (by omega) v1 (by omega)) v2
theorem len_of_enc {a b : List Nat} (hb : g.Val b) (h : g.enc a ≤ g.enc b) : a.length ≤ b.length := by
  rcases Nat.lt_or_ge b.length a.length with z | z
  · have := len_enc a.length b a rfl hb z
    omega
  · exact z
variable (g)
def Gr.step (n : N) (m : List Nat) (Q : List (N × List Nat)) (c : Nat) : List (N × List Nat) := if g.d n c ∈ Q.map (·.1) then Q else Q ++ [(g.d n c, m ++ [c])]
/-- what the queue holds, behind all signs of the places below p, and the signs below c at p -/
structure Gr.Inv (F : List N) (p c : Nat) (Q : List (N × List Nat)) : Prop where
  q0 : Q[0]? = some (g.n0, [])
  nd : (Q.map (·.1)).Nodup
  inF : ∀ x ∈ Q, x.1 ∈ F
  ok : ∀ x ∈ Q, g.Val x.2 ∧ g.run x.2 = x.1
  srt : ∀ (i j : Nat) (x y : N × List Nat), i < j → Q[i]? = some x → Q[j]? = some y → g.enc x.2 < g.enc y.2
  len : ∀ (j : Nat) (x : N × List Nat), Q[j]? = some x → x.2.length ≤ j
  par : ∀ x ∈ Q, x.2 = [] ∨ ∃ (i : Nat) (y : N × List Nat) (k : Nat), (i < p ∨ (i = p ∧ k < c)) ∧ Q[i]? = some y ∧ k < g.s ∧ x.2 = y.2 ++ [k]
  no : ∀ (i : Nat) (x : N × List Nat), i < p → Q[i]? = some x → g.acc x.1 = false
  done : ∀ (i : Nat) (x : N × List Nat) (k : Nat), (i < p ∨ (i = p ∧ k < c)) → Q[i]? = some x → k < g.s → ∃ y ∈ Q, y.1 = g.d x.1 k ∧ g.enc y.2 ≤ g.enc (x.2 ++ [k])
variable {g}
theorem inv_start {F : List N} (h : g.n0 ∈ F) : g.Inv F 0 0 [(g.n0, [])] where
  q0 := rfl
  nd := by simp
  inF := fun x hx => by rw [List.mem_singleton.mp hx]; exact h
  ok := fun x hx => by rw [List.mem_singleton.mp hx]; exact ⟨fun c hc => by simp at hc, rfl⟩
  srt := fun i j x y hij h1 h2 => by
    have := (List.getElem?_eq_some_iff.mp h2).1
    simp at this
    omega
  len := fun j x h1 => by
    have hj := (List.getElem?_eq_some_iff.mp h1).1
    simp only [List.length_singleton] at hj
    have : j = 0 := by omega
    subst this
    simp at h1
    rw [← h1]
    exact Nat.le_refl _
  par := fun x hx => .inl (by rw [List.mem_singleton.mp hx])
  no := fun i x h => by omega
  done := fun i x k h => by omega
theorem getElem?_snoc {α : Type} {l : List α} {a x : α} {i : Nat} (h : (l ++ [a])[i]? = some x) : l[i]? = some x ∨ (i = l.length ∧ x = a) := by
  by_cases hi : i < l.length
  · rw [List.getElem?_append_left hi] at h
    exact .inl h
  · rw [List.getElem?_append_right (by omega)] at h
    have := (List.getElem?_eq_some_iff.mp h).1
    simp only [List.length_singleton] at this
    have e : i = l.length := by omega
    subst e
    simp at h
    exact .inr ⟨rfl, h.symm⟩
theorem getElem?_old {α : Type} {l : List α} {a x : α} {i : Nat} (h : l[i]? = some x) : (l ++ [a])[i]? = some x := by
  rw [List.getElem?_append_left (List.getElem?_eq_some_iff.mp h).1]
  exact h
theorem inv_sign {F : List N} {p c : Nat} {Q : List (N × List Nat)} {n : N} {m : List Nat} (I : g.Inv F p c Q) (hF : ∀ c, c < g.s → g.d n c ∈ F) (hp : Q[p]? = some (n, m)) (hc : c < g.s) : g.Inv F p (c + 1) (g.step n m Q c) := by
  have hlt : p < Q.length := (List.getElem?_eq_some_iff.mp hp).1
  have below : ∀ x ∈ Q, g.enc x.2 < g.enc (m ++ [c]) := fun x hx => by
    rcases I.par x hx with h | ⟨i, y, k, h1, h2, h3, h4⟩
    · rw [h, enc_nil, enc_snoc]; omega
    · rw [h4]
      rcases h1 with h1 | ⟨h1, h1'⟩
      · exact enc_lt (I.srt i p y (n, m) h1 h2 hp) h3
      · subst h1
        rw [hp] at h2
        cases h2
        rw [enc_snoc, enc_snoc]
        dsimp only
        omega
  unfold Gr.step
  split
  · rename_i hin
    obtain ⟨y, hy, hy1⟩ := List.mem_map.mp hin
    exact { q0 := I.q0, nd := I.nd, inF := I.inF, ok := I.ok, srt := I.srt, len := I.len, no := I.no
            par := fun x hx => by
              rcases I.par x hx with h | ⟨i, y, k, h1, h2⟩
              · exact .inl h
              · exact .inr ⟨i, y, k, by omega, h2⟩
            done := fun i x k h1 h2 h3 => by
              by_cases z : i = p ∧ k = c
              · obtain ⟨rfl, rfl⟩ := z
                rw [hp] at h2
                cases h2
                exact ⟨y, hy, hy1, Nat.le_of_lt (below y hy)⟩
              · exact I.done i x k (by omega) h2 h3 }
  · rename_i hin
    exact {
      q0 := getElem?_old I.q0
      nd := by
        rw [List.map_append, List.nodup_append]
        refine ⟨I.nd, by simp, fun a ha b hb => ?_⟩
        simp only [List.map_cons, List.map_nil, List.mem_singleton] at hb
        subst hb
        exact fun z => hin (z ▸ ha)
      inF := fun x hx => by
        rcases List.mem_append.mp hx with hx | hx
        · exact I.inF x hx
        · rw [List.mem_singleton.mp hx]
          exact hF c hc
      ok := fun x hx => by
        rcases List.mem_append.mp hx with hx | hx
        · exact I.ok x hx
        · rw [List.mem_singleton.mp hx]
          obtain ⟨v, r⟩ := I.ok _ (List.mem_of_getElem? hp)
          exact ⟨val_snoc v hc, by rw [run_snoc, r]⟩
      srt := fun i j x y hij h1 h2 => by
        rcases getElem?_snoc h2 with h2 | ⟨h2, rfl⟩
        · have hj := (List.getElem?_eq_some_iff.mp h2).1
          rcases getElem?_snoc h1 with h1 | ⟨h1, _⟩
          · exact I.srt i j x y hij h1 h2
          · omega
        · rcases getElem?_snoc h1 with h1 | ⟨h1, _⟩
          · exact below x (List.mem_of_getElem? h1)
          · omega
      len := fun j x h => by
        rcases getElem?_snoc h with h | ⟨h, rfl⟩
        · exact I.len j x h
        · have := I.len p _ hp
          simp only [List.length_append, List.length_singleton] at this ⊢
          omega
      par := fun x hx => by
        rcases List.mem_append.mp hx with hx | hx
        · rcases I.par x hx with h | ⟨i, y, k, h1, h2, h3⟩
          · exact .inl h
          · exact .inr ⟨i, y, k, by omega, getElem?_old h2, h3⟩
        · rw [List.mem_singleton.mp hx]
          exact .inr ⟨p, (n, m), c, .inr ⟨rfl, Nat.lt_succ_self _⟩, getElem?_old hp, hc, rfl⟩
      no := fun i x h1 h2 => by
        rcases getElem?_snoc h2 with h2 | ⟨h2, _⟩
        · exact I.no i x h1 h2
        · omega
      done := fun i x k h1 h2 h3 => by
        rcases getElem?_snoc h2 with h2' | ⟨h2', _⟩
        · clear h2
          rename Q[i]? = some x => h2
          by_cases z : i = p ∧ k = c
          · obtain ⟨rfl, rfl⟩ := z
            rw [hp] at h2
            cases h2
            exact ⟨_, List.mem_append_right _ (List.mem_singleton.mpr rfl), rfl, Nat.le_refl _⟩
          · obtain ⟨y, hy, q⟩ := I.done i x k (by omega) h2 h3
            exact ⟨y, List.mem_append_left _ hy, q⟩
        · omega }
theorem step_at {Q : List (N × List Nat)} {n n' : N} {m m' : List Nat} {p c : Nat} (h : Q[p]? = some (n', m')) : (g.step n m Q c)[p]? = some (n', m') := by
  unfold Gr.step
  split
  · exact h
  · exact getElem?_old h
/-- the queue behind all signs of a place -/
def Gr.grow (g : Gr N) (n : N) (m : List Nat) (Q : List (N × List Nat)) : List Nat → List (N × List Nat) := fun cs => cs.foldl (g.step n m) Q
theorem inv_signs {F : List N} {p : Nat} {Q : List (N × List Nat)} {n : N} {m : List Nat} (hF : ∀ c, c < g.s → g.d n c ∈ F) (hp : Q[p]? = some (n, m)) (I : g.Inv F p 0 Q) : ∀ k, k ≤ g.s → g.Inv F p k (g.grow n m Q (List.range k)) ∧ (g.grow n m Q (List.range k))[p]? = some (n, m)
  | 0, _ => ⟨I, hp⟩
  | k + 1, hk => by
    obtain ⟨I', hp'⟩ := inv_signs hF hp I k (by omega)
    have e : g.grow n m Q (List.range (k + 1)) = g.step n m (g.grow n m Q (List.range k)) k := by
      unfold Gr.grow
      rw [List.range_succ, List.foldl_append]
      rfl
    rw [e]
    exact ⟨inv_sign I' hF hp' (by omega), step_at hp'⟩
theorem inv_next {F : List N} {p : Nat} {Q : List (N × List Nat)} {n : N} {m : List Nat} (hF : ∀ c, c < g.s → g.d n c ∈ F) (hp : Q[p]? = some (n, m)) (I : g.Inv F p 0 Q) (ha : g.acc n = false) : g.Inv F (p + 1) 0 (g.grow n m Q (List.range g.s)) := by
  obtain ⟨J, hq⟩ := inv_signs hF hp I g.s (Nat.le_refl _)
  exact { q0 := J.q0, nd := J.nd, inF := J.inF, ok := J.ok, srt := J.srt, len := J.len
          par := fun x hx => by
            rcases J.par x hx with h | ⟨i, y, k, h1, h2⟩
            · exact .inl h
            · exact .inr ⟨i, y, k, by omega, h2⟩
          no := fun i x h1 h2 => by
            by_cases z : i = p
            · subst z
              rw [hq] at h2
              cases h2
              exact ha
            · exact J.no i x (by omega) h2
          done := fun i x k h1 h2 h3 => J.done i x k (by omega) h2 h3 }
theorem inv_len {F : List N} {p c : Nat} {Q : List (N × List Nat)} (I : g.Inv F p c Q) : Q.length ≤ F.length := by
  have h : ∀ (l D : List N), l.Nodup → (∀ x ∈ l, x ∈ D) → l.length ≤ D.length := by
    intro l
    induction l with
    | nil => intros; exact Nat.zero_le _
    | cons x l ih =>
      intro D hn hs
      obtain ⟨h1, h2⟩ := List.nodup_cons.mp hn
      have hx : x ∈ D := hs x List.mem_cons_self
      have := ih (D.erase x) h2 fun y hy => (List.mem_erase_of_ne (fun (e : y = x) => h1 (e ▸ hy))).2 (hs y (List.mem_cons_of_mem _ hy))
      have e := List.length_erase_of_mem hx
      have hp : 0 < D.length := List.length_pos_of_mem hx
      simp only [List.length_cons]
      omega
  have := h (Q.map (·.1)) F I.nd fun x hx => by
    obtain ⟨y, hy, rfl⟩ := List.mem_map.mp hx
    exact I.inF y hy
  simpa using this
theorem inv_reach {F : List N} {p : Nat} {Q : List (N × List Nat)} (I : g.Inv F p 0 Q) : ∀ (k : Nat) (ms : List Nat), ms.length = k → g.Val ms → (∀ x, Q[p]? = some x → g.enc ms < g.enc x.2) → ∃ (i : Nat) (x : N × List Nat), i < p ∧ Q[i]? = some x ∧ x.1 = g.run ms ∧ g.enc x.2 ≤ g.enc ms
  | 0, ms, hk, v, h => by
    have : ms = [] := List.length_eq_zero_iff.mp hk
    subst this
    refine ⟨0, _, ?_, I.q0, rfl, Nat.le_refl _⟩
    rcases Nat.eq_zero_or_pos p with z | z
    · subst z
      exact absurd (h _ I.q0) (Nat.lt_irrefl _)
    · exact z
  | k + 1, ms, hk, v, h => by
    rcases List.eq_nil_or_concat ms with rfl | ⟨m1, c, rfl⟩
    · simp at hk
    · rw [List.concat_eq_append] at hk v h ⊢
      obtain ⟨v1, v2⟩ := val_init v
      have lt := enc_init (g := g) (a := m1) v2
      obtain ⟨i, x, h1, h2, h3, h4⟩ := inv_reach I k m1 (by simpa using hk) v1 fun x hx => Nat.lt_trans lt (h x hx)
      obtain ⟨y, hy, y1, y2⟩ := I.done i x c (.inl h1) h2 v2
      obtain ⟨j, hj⟩ := List.mem_iff_getElem?.mp hy
      have le : g.enc y.2 ≤ g.enc (m1 ++ [c]) := Nat.le_trans y2 (enc_le h4)
      refine ⟨j, y, ?_, hj, by rw [y1, h3, run_snoc], le⟩
      rcases Nat.lt_or_ge j p with z | z
      · exact z
      · have hjl := (List.getElem?_eq_some_iff.mp hj).1
        have hz : Q[p]? = some Q[p] := List.getElem?_eq_getElem (by omega)
        have h5 := h _ hz
        rcases Nat.eq_or_lt_of_le z with e | e
        · subst e
          rw [hj] at hz
          rw [← Option.some.inj hz] at h5
          omega
        · have := I.srt p j _ y e hz hj
          omega
theorem inv_found {F : List N} {p : Nat} {Q : List (N × List Nat)} {n : N} {m : List Nat} (I : g.Inv F p 0 Q) (hp : Q[p]? = some (n, m)) {ms : List Nat} (v : g.Val ms) (ha : g.acc (g.run ms) = true) : g.enc m ≤ g.enc ms := by
  rcases Nat.lt_or_ge (g.enc ms) (g.enc m) with z | z
  · obtain ⟨i, x, h1, h2, h3, _⟩ := inv_reach I _ ms rfl v fun x hx => by
      rw [hp] at hx
      cases hx
      exact z
    have := I.no i x h1 h2
    rw [h3, ha] at this
    cases this
  · exact z
theorem inv_none {F : List N} {p : Nat} {Q : List (N × List Nat)} (I : g.Inv F p 0 Q) (hp : Q.length ≤ p) {ms : List Nat} (v : g.Val ms) : g.acc (g.run ms) = false := by
  obtain ⟨i, x, h1, h2, h3, _⟩ := inv_reach I _ ms rfl v fun x hx => by
    rw [List.getElem?_eq_none_iff.mpr hp] at hx
    cases hx
  rw [← h3]
  exact I.no i x h1 h2
/-- the while loop of a search -/
theorem while_search {F : List N} (hF : ∀ n ∈ F, g.acc n = false → ∀ c, c < g.s → g.d n c ∈ F) {t : DEnv → M Bool} {body : DStm} (P : Nat → List (N × List Nat) → DEnv → Prop)
    (h1 : ∀ p Q e, P p Q e → t e = .ok (decide (p < Q.length))) (h2 : ∀ p Q e n m, P p Q e → g.Inv F p 0 Q → Q[p]? = some (n, m) → g.acc n = true → body e = .rt (mD m))
    (h3 : ∀ p Q e n m, P p Q e → g.Inv F p 0 Q → Q[p]? = some (n, m) → g.acc n = false → ∃ e', body e = .nx e' ∧ P (p + 1) (g.grow n m Q (List.range g.s)) e') :
    ∀ (k fu p : Nat) (Q : List (N × List Nat)) (e : DEnv), F.length + 1 - p ≤ k → k < fu → P p Q e → g.Inv F p 0 Q →
      (∃ m, dWhile t body fu e = .rt (mD m) ∧ g.Val m ∧ g.acc (g.run m) = true ∧ m.length ≤ F.length ∧ ∀ ms, g.Val ms → g.acc (g.run ms) = true → g.enc m ≤ g.enc ms) ∨
      (∃ e', dWhile t body fu e = .nx e' ∧ ∀ ms, g.Val ms → g.acc (g.run ms) = false)
  | k, 0, _, _, _, _, hk, _, _ => by omega
  | k, fu + 1, p, Q, e, hF2, hk, hP, I => by
    have ht := h1 p Q e hP
    have hl := inv_len I
    by_cases hp : p < Q.length
    · rw [decide_eq_true hp] at ht
      have hq : Q[p]? = some (Q[p].1, Q[p].2) := List.getElem?_eq_getElem hp
      cases ha : g.acc Q[p].1 with
      | true =>
        refine .inl ⟨Q[p].2, ?_, ?_⟩
        · unfold dWhile
          rw [ht]
          simp only [h2 p Q e _ _ hP I hq ha]
        · obtain ⟨v, r⟩ := I.ok _ (List.mem_of_getElem? hq)
          simp only at v r
          have := I.len p _ hq
          simp only at this
          exact ⟨v, by rw [r]; exact ha, by omega, fun ms v ha2 => inv_found I hq v ha2⟩
      | false =>
        obtain ⟨e', hb, hP'⟩ := h3 p Q e _ _ hP I hq ha
        have I' := inv_next (hF _ (I.inF _ (List.mem_of_getElem? hq)) ha) hq I ha
        match k, hF2 with
        | 0, hF2 => omega
        | k + 1, hF2 =>
          have ih := while_search hF P h1 h2 h3 k fu (p + 1) _ e' (by omega) (by omega) hP' I'
          have e0 : dWhile t body (fu + 1) e = dWhile t body fu e' := by
            conv => lhs; unfold dWhile
            rw [ht]
            simp only [hb]
          rw [e0]
          exact ih
    · rw [decide_eq_false hp] at ht
      refine .inr ⟨e, ?_, fun ms v => inv_none I (by omega) v⟩
      unfold dWhile
      rw [ht]
end
end Wk

namespace Wk
open PySem PySem.Spec PyProof.Rows L2 TL DL
/-! ### what a search has met, as data -/
section
variable {N : Type} [DecidableEq N] (nD : N → D)
def metD (Q : List (N × List Nat)) : List (D × D) := Q.map fun x => (nD x.1, D.bl true)
variable {nD}
theorem dAt_met (inj : ∀ a b, nD a = nD b → a = b) (n : N) : ∀ Q : List (N × List Nat), dAt (metD nD Q) (nD n) = if n ∈ Q.map (·.1) then some (D.bl true) else none
  | [] => rfl
  | x :: Q => by
    have ih := dAt_met inj n Q
    by_cases h : x.1 = n
    · have e : dAt (metD nD (x :: Q)) (nD n) = some (.bl true) := by
        unfold dAt metD
        rw [List.map_cons, List.find?_cons, decide_eq_true (by rw [h])]
        rfl
      rw [e, if_pos (by rw [List.map_cons, h]; exact List.mem_cons_self)]
    · have e : dAt (metD nD (x :: Q)) (nD n) = dAt (metD nD Q) (nD n) := by
        unfold dAt metD
        rw [List.map_cons, List.find?_cons, decide_eq_false (fun z => h (inj _ _ z))]
      have e2 : (n ∈ (x :: Q).map (·.1)) ↔ n ∈ Q.map (·.1) := by
        rw [List.map_cons, List.mem_cons]
        exact ⟨fun z => z.resolve_left fun z => h z.symm, .inr⟩
      rw [e, ih]
      by_cases q : n ∈ Q.map (·.1)
      · rw [if_pos q, if_pos (e2.mpr q)]
      · rw [if_neg q, if_neg fun z => q (e2.mp z)]
theorem nin_met (inj : ∀ a b, nD a = nD b → a = b) {n : N} {k : NestedKey} (hk : keyOk (nD n) = some k) (Q : List (N × List Nat)) : ninX (metD nD Q) (nD n) = some (.bl (!decide (n ∈ Q.map (·.1)))) := by
  unfold ninX
  rw [hk, dAt_met inj]
  by_cases h : n ∈ Q.map (·.1)
  · rw [if_pos h, decide_eq_true h]; rfl
  · rw [if_neg h, decide_eq_false h]; rfl
theorem nin_in (inj : ∀ a b, nD a = nD b → a = b) {n : N} {k : NestedKey} (hk : keyOk (nD n) = some k) {Q : List (N × List Nat)} (h : n ∈ Q.map (·.1)) : ninX (metD nD Q) (nD n) = some (.bl false) := by
  rw [nin_met inj hk, decide_eq_true h]; rfl
theorem nin_not (inj : ∀ a b, nD a = nD b → a = b) {n : N} {k : NestedKey} (hk : keyOk (nD n) = some k) {Q : List (N × List Nat)} (h : n ∉ Q.map (·.1)) : ninX (metD nD Q) (nD n) = some (.bl true) := by
  rw [nin_met inj hk, decide_eq_false h]; rfl
theorem put_met (inj : ∀ a b, nD a = nD b → a = b) {n : N} {k : NestedKey} (hk : keyOk (nD n) = some k) {Q : List (N × List Nat)} (h : n ∉ Q.map (·.1)) (hl : Q.length ≤ 10000) (m : List Nat) : putX (metD nD Q) (nD n) (.bl true) = some (metD nD (Q ++ [(n, m)])) := by
  unfold putX
  rw [hk]
  have : (metD nD Q).length < sizeLine := by
    unfold metD
    rw [List.length_map]
    exact small_lt (by omega)
  simp only [Option.bind_some]
  rw [if_pos this]
  unfold dPut
  rw [dAt_met inj, if_neg h]
  simp [metD]
end
theorem gone_snoc (w : Wr) (c : Nat) : ∀ (ms : List Nat) (st : Nat), w.gone st (ms ++ [c]) = ((w.gone st ms).1 ++ (w.at (w.gone st ms).2 c).1, (w.at (w.gone st ms).2 c).2)
  | [], st => by simp [Wr.gone]
  | m :: ms, st => by
    have ih := gone_snoc w c ms (w.at st m).2
    simp only [List.cons_append, Wr.gone, ih, List.append_assoc]
theorem fuel_big : 100000 < fuel := by unfold fuel; decide
theorem add_mD {m : List Nat} {c : Nat} (h : m.length ≤ 10000) : addD (mD m) (.lst [.int c]) = some (mD (m ++ [c])) := by
  have : (m.map fun (m : Nat) => D.int (m : Int)).length + ([D.int c] : List D).length ≤ sizeLine := small_line (by simp; omega)
  show (if (m.map fun (m : Nat) => D.int (m : Int)).length + ([D.int c] : List D).length ≤ sizeLine then some (D.lst ((m.map fun (m : Nat) => D.int (m : Int)) ++ [D.int c])) else none) = _
  rw [if_pos this]
  simp [mD]
theorem at_fst_len {w : Wr} (o : w.Ok) {st c : Nat} (h : st < w.rows.length) (hc : c < w.signs) : (w.at st c).1.length ≤ 8 := by
  obtain ⟨_, _, _, h3, _⟩ := o.at_ok h hc
  exact h3.1
end Wk

namespace Wk
open PySem PySem.Spec PyProof.Rows L2 TL DL
/-! ### two messages beside one another -/
abbrev ON := Option Nat
inductive AN where
  | com (st : Nat) | spt (a b : ON) (r : T)
  deriving DecidableEq
structure Mv where
  g : List Nat
  t : T
  o : ON
inductive AE where
  | com (st : Nat) (m : List Nat) | spt (a b : ON) (r : T) (m n : List Nat)
def AE.key : AE → AN
  | .com st _ => .com st
  | .spt a b r _ _ => .spt a b r
def goalN : AN := .spt none none []
def restOf (x y : T) : Option (Bool × T) := if x.take y.length = y then some (true, x.drop y.length) else if y.take x.length = x then some (false, y.drop x.length) else none
def Wr.moves (w : Wr) (st : Nat) : List Mv := ⟨[], w.fin st, none⟩ :: (List.range w.signs).map fun c => ⟨[c], (w.at st c).1, some (w.at st c).2⟩
def afterM (b : ON) (r : T) (mv : Mv) : Option ((ON × ON × T) × Bool) := match restOf r mv.t with
  | none => none
  | some (true, r') => if r' = [] ∧ mv.o = none then some ((b, none, []), true) else some ((mv.o, b, r'), false)
  | some (false, r') => some ((b, mv.o, r'), true)
def begM (one other : Mv) : Option ((ON × ON × T) × Bool) := match restOf other.t one.t with
  | none => none
  | some (true, r) => if one.o = none ∧ r = [] then some ((other.o, none, []), true) else some ((one.o, other.o, r), false)
  | some (false, r) => if other.o = none ∧ r = [] then some ((one.o, none, []), false) else some ((other.o, one.o, r), true)
/-- the pairs of unlike moves -/
def pairsOf {α : Type} : List α → List (α × α)
  | [] => []
  | l => (List.range l.length).flatMap fun k => match l[k]? with
    | some b => (l.take k).map fun a => (a, b)
    | none => []
def goE (b : ON) (r : T) (m n : List Nat) (mv : Mv) : Option (Nat × AE) := (afterM b r mv).map fun x => (mv.g.length, if x.2 = true then .spt x.1.1 x.1.2.1 x.1.2.2 n (m ++ mv.g) else .spt x.1.1 x.1.2.1 x.1.2.2 (m ++ mv.g) n)
def beE (m : List Nat) (p : Mv × Mv) : Option (Nat × AE) := (begM p.1 p.2).map fun x => (p.1.g.length + p.2.g.length, if x.2 = true then .spt x.1.1 x.1.2.1 x.1.2.2 (m ++ p.2.g) (m ++ p.1.g) else .spt x.1.1 x.1.2.1 x.1.2.2 (m ++ p.1.g) (m ++ p.2.g))
def Wr.exps (w : Wr) : AE → List (Nat × AE)
  | .com st m => (pairsOf (w.moves st)).filterMap (beE m) ++ (List.range w.signs).map fun c => (2, .com (w.at st c).2 (m ++ [c]))
  | .spt (some st) b r m n => (w.moves st).filterMap (goE b r m n)
  | .spt none _ _ _ _ => []
def goN (b : ON) (r : T) (mv : Mv) : Option (Nat × AN) := (afterM b r mv).map fun x => (mv.g.length, .spt x.1.1 x.1.2.1 x.1.2.2)
def beN (p : Mv × Mv) : Option (Nat × AN) := (begM p.1 p.2).map fun x => (p.1.g.length + p.2.g.length, .spt x.1.1 x.1.2.1 x.1.2.2)
def Wr.succs (w : Wr) : AN → List (Nat × AN)
  | .com st => (pairsOf (w.moves st)).filterMap beN ++ (List.range w.signs).map fun c => (2, .com (w.at st c).2)
  | .spt (some st) b r => (w.moves st).filterMap (goN b r)
  | .spt none _ _ => []
theorem filterMap_key {α : Type} (f : α → Option (Nat × AE)) (f' : α → Option (Nat × AN)) (h : ∀ a, (f a).map (fun x => (x.1, x.2.key)) = f' a) : ∀ l : List α, (l.filterMap f).map (fun x => (x.1, x.2.key)) = l.filterMap f'
  | [] => rfl
  | a :: l => by
    have ih := filterMap_key f f' h l
    have ha := h a
    cases e : f a with
    | none =>
      rw [e] at ha
      rw [List.filterMap_cons_none e, List.filterMap_cons_none (by rw [← ha]; rfl), ih]
    | some x =>
      rw [e] at ha
      rw [List.filterMap_cons_some e, List.filterMap_cons_some (by rw [← ha]; rfl), List.map_cons, ih]
theorem exps_key (w : Wr) (e : AE) : (w.exps e).map (fun x => (x.1, x.2.key)) = w.succs e.key := by
  cases e with
  | com st m =>
    unfold Wr.exps AE.key Wr.succs
    rw [List.map_append]
    congr 1
    · refine filterMap_key _ _ (fun p => ?_) _
      unfold beE beN
      cases begM p.1 p.2 with
      | none => rfl
      | some x =>
        simp only [Option.map_some]
        split <;> rfl
    · rw [List.map_map]
      rfl
  | spt a b r m n =>
    cases a with
    | none => rfl
    | some st =>
      unfold Wr.exps AE.key Wr.succs
      refine filterMap_key _ _ (fun mv => ?_) _
      unfold goE goN
      cases afterM b r mv with
      | none => rfl
      | some x =>
        simp only [Option.map_some]
        split <;> rfl
/-! ### what stays over -/
theorem rest_t {x y r : T} : restOf x y = some (true, r) ↔ x = y ++ r := by
  unfold restOf
  constructor
  · intro h
    split at h
    · rename_i h1
      cases h
      conv => lhs; rw [← List.take_append_drop y.length x, h1]
    · split at h <;> cases h
  · rintro rfl
    rw [if_pos (by simp)]
    simp
theorem rest_f {x y r : T} : restOf x y = some (false, r) ↔ y = x ++ r ∧ r ≠ [] := by
  unfold restOf
  constructor
  · intro h
    split at h
    · cases h
    · rename_i h1
      split at h
      · rename_i h2
        cases h
        have e : y = x ++ y.drop x.length := by conv => lhs; rw [← List.take_append_drop x.length y, h2]
        refine ⟨e, fun z => h1 ?_⟩
        rw [z, List.append_nil] at e
        rw [e, List.take_length]
      · cases h
  · rintro ⟨rfl, h⟩
    have hl : 0 < r.length := List.length_pos_iff.mpr h
    rw [if_neg (fun z => by
      have := congrArg List.length z
      rw [List.length_take, List.length_append] at this
      omega), if_pos (by simp)]
    simp
theorem rest_of_app {x y u v : T} (h : y ++ u = x ++ v) : (∃ r, restOf x y = some (true, r) ∧ u = r ++ v) ∨ ∃ r, restOf x y = some (false, r) ∧ v = r ++ u := by
  rcases List.append_eq_append_iff.mp h with ⟨r, h1, h2⟩ | ⟨r, h1, h2⟩
  · exact .inl ⟨r, rest_t.mpr h1, h2⟩
  · by_cases z : r = []
    · subst z
      rw [List.append_nil] at h1
      rw [List.nil_append] at h2
      exact .inl ⟨[], rest_t.mpr (by rw [List.append_nil]; exact h1.symm), by rw [List.nil_append]; exact h2.symm⟩
    · exact .inr ⟨r, rest_f.mpr ⟨h1, z⟩, h2⟩
/-! ### what an entry says -/
def Wr.wrote (w : Wr) (m : List Nat) : ON → T
  | none => w.text m
  | some _ => (w.gone 0 m).1
def Wr.stands (w : Wr) (m : List Nat) (o : ON) : Prop := ∀ st, o = some st → (w.gone 0 m).2 = st
/-- two messages, told so far, that do not come to be one -/
def Part (m : List Nat) (a : ON) (n : List Nat) (b : ON) : Prop := ∃ c, (∃ x y u v, x ≠ y ∧ m = c ++ x :: u ∧ n = c ++ y :: v) ∨ (∃ y v, a = none ∧ m = c ∧ n = c ++ y :: v) ∨ (∃ x u, b = none ∧ m = c ++ x :: u ∧ n = c)
theorem Part.symm {m n : List Nat} {a b : ON} (h : Part m a n b) : Part n b m a := by
  obtain ⟨c, ⟨x, y, u, v, h1, h2, h3⟩ | ⟨y, v, h1, h2, h3⟩ | ⟨x, u, h1, h2, h3⟩⟩ := h
  · exact ⟨c, .inl ⟨y, x, v, u, Ne.symm h1, h3, h2⟩⟩
  · exact ⟨c, .inr (.inr ⟨y, v, h1, h3, h2⟩)⟩
  · exact ⟨c, .inr (.inl ⟨x, u, h1, h3, h2⟩)⟩
theorem Part.go {m n g : List Nat} {st : Nat} {o b : ON} (h : Part m (some st) n b) : Part (m ++ g) o n b := by
  obtain ⟨c, ⟨x, y, u, v, h1, h2, h3⟩ | ⟨y, v, h1, h2, h3⟩ | ⟨x, u, h1, h2, h3⟩⟩ := h
  · exact ⟨c, .inl ⟨x, y, u ++ g, v, h1, by rw [h2]; simp, h3⟩⟩
  · cases h1
  · exact ⟨c, .inr (.inr ⟨x, u ++ g, h1, by rw [h2]; simp, h3⟩)⟩
theorem Part.ne {m n : List Nat} (h : Part m none n none) : m ≠ n := by
  obtain ⟨c, ⟨x, y, u, v, h1, h2, h3⟩ | ⟨y, v, h1, h2, h3⟩ | ⟨x, u, h1, h2, h3⟩⟩ := h
  · intro z
    rw [h2, h3] at z
    have := List.append_cancel_left z
    injection this with e _
    exact h1 e
  · intro z
    rw [h2, h3] at z
    have := congrArg List.length z
    simp at this
  · intro z
    rw [h2, h3] at z
    have := congrArg List.length z
    simp at this
def Wr.Sound (w : Wr) (j : Nat) : AE → Prop
  | .com st m => Msg w m ∧ (w.gone 0 m).2 = st ∧ j = 2 * m.length
  | .spt a b r m n => Msg w m ∧ Msg w n ∧ w.stands m a ∧ w.stands n b ∧ w.wrote n b = w.wrote m a ++ r ∧ Part m a n b ∧ j = m.length + n.length
theorem move_mem {w : Wr} {st : Nat} {mv : Mv} (h : mv ∈ w.moves st) : mv = ⟨[], w.fin st, none⟩ ∨ ∃ c, c < w.signs ∧ mv = ⟨[c], (w.at st c).1, some (w.at st c).2⟩ := by
  unfold Wr.moves at h
  rcases List.mem_cons.mp h with h | h
  · exact .inl h
  · obtain ⟨c, hc, rfl⟩ := List.mem_map.mp h
    exact .inr ⟨c, List.mem_range.mp hc, rfl⟩
theorem move_ok {w : Wr} {st : Nat} {mv : Mv} (h : mv ∈ w.moves st) {m : List Nat} (hm : Msg w m) (hs : (w.gone 0 m).2 = st) : Msg w (m ++ mv.g) ∧ w.stands (m ++ mv.g) mv.o ∧ w.wrote (m ++ mv.g) mv.o = (w.gone 0 m).1 ++ mv.t := by
  rcases move_mem h with rfl | ⟨c, hc, rfl⟩
  · refine ⟨by simpa using hm, fun st h => by simp at h, ?_⟩
    simp only [List.append_nil, Wr.wrote, Wr.text, hs]
  · refine ⟨fun x hx => ?_, fun st' h => ?_, ?_⟩
    · rcases List.mem_append.mp hx with hx | hx
      · exact hm x hx
      · rw [List.mem_singleton.mp hx]; exact hc
    · simp only [Option.some.injEq] at h
      rw [gone_snoc, hs, ← h]
    · simp only [Wr.wrote]
      rw [gone_snoc, hs]
theorem pairs_mem' {α : Type} {l : List α} {p : α × α} : p ∈ pairsOf l ↔ ∃ (j k : Nat), j < k ∧ l[j]? = some p.1 ∧ l[k]? = some p.2 := by
  have e : pairsOf l = (List.range l.length).flatMap fun k => match l[k]? with
      | some b => (l.take k).map fun a => (a, b)
      | none => [] := by
    cases l with
    | nil => rfl
    | cons a l => rfl
  rw [e]
  simp only [List.mem_flatMap, List.mem_range]
  constructor
  · rintro ⟨k, hk, h⟩
    rw [List.getElem?_eq_getElem hk] at h
    obtain ⟨a, ha, rfl⟩ := List.mem_map.mp h
    obtain ⟨j, hj⟩ := List.mem_iff_getElem?.mp ha
    have hl := (List.getElem?_eq_some_iff.mp hj).1
    rw [List.length_take] at hl
    rw [List.getElem?_take_of_lt (by omega)] at hj
    exact ⟨j, k, by omega, hj, List.getElem?_eq_getElem hk⟩
  · rintro ⟨j, k, h1, h2, h3⟩
    have hk := (List.getElem?_eq_some_iff.mp h3).1
    refine ⟨k, hk, ?_⟩
    rw [h3]
    refine List.mem_map.mpr ⟨p.1, ?_, rfl⟩
    exact List.mem_iff_getElem?.mpr ⟨j, by rw [List.getElem?_take_of_lt h1]; exact h2⟩
theorem move_at {w : Wr} {st k : Nat} {mv : Mv} (h : (w.moves st)[k]? = some mv) : (k = 0 ∧ mv = ⟨[], w.fin st, none⟩) ∨ ∃ c, k = c + 1 ∧ c < w.signs ∧ mv = ⟨[c], (w.at st c).1, some (w.at st c).2⟩ := by
  unfold Wr.moves at h
  cases k with
  | zero =>
    simp only [List.getElem?_cons_zero, Option.some.injEq] at h
    exact .inl ⟨rfl, h.symm⟩
  | succ c =>
    rw [List.getElem?_cons_succ, List.getElem?_map] at h
    cases q : (List.range w.signs)[c]? with
    | none => rw [q] at h; cases h
    | some x =>
      rw [q] at h
      obtain ⟨q1, q2⟩ := List.getElem?_eq_some_iff.mp q
      rw [List.getElem_range] at q2
      rw [List.length_range] at q1
      subst q2
      cases h
      exact .inr ⟨c, rfl, q1, rfl⟩
theorem move_at_c {w : Wr} {st c : Nat} (h : c < w.signs) : (w.moves st)[c + 1]? = some ⟨[c], (w.at st c).1, some (w.at st c).2⟩ := by
  unfold Wr.moves
  rw [List.getElem?_cons_succ, List.getElem?_map, List.getElem?_range h]
  rfl
/-- moves of unlike places part -/
theorem part_pair {w : Wr} {st : Nat} {p : Mv × Mv} (h : p ∈ pairsOf (w.moves st)) (m : List Nat) : Part (m ++ p.1.g) p.1.o (m ++ p.2.g) p.2.o := by
  obtain ⟨j, k, h1, h2, h3⟩ := pairs_mem'.mp h
  rcases move_at h3 with ⟨z, _⟩ | ⟨c, hc, _, e2⟩
  · omega
  rw [e2]
  rcases move_at h2 with ⟨_, e1⟩ | ⟨c', hc', _, e1⟩
  · rw [e1]
    exact ⟨m, .inr (.inl ⟨c, [], rfl, by simp, rfl⟩)⟩
  · rw [e1]
    exact ⟨m, .inl ⟨c', c, [], [], by omega, rfl, rfl⟩⟩
theorem pair_in {α : Type} {l : List α} {p : α × α} (h : p ∈ pairsOf l) : p.1 ∈ l ∧ p.2 ∈ l := by
  obtain ⟨j, k, h1, h2, h3⟩ := pairs_mem'.mp h
  exact ⟨List.mem_of_getElem? h2, List.mem_of_getElem? h3⟩
theorem sound_exps {w : Wr} {j : Nat} {e : AE} (h : w.Sound j e) : ∀ x ∈ w.exps e, w.Sound (j + x.1) x.2 := by
  cases e with
  | com st m =>
    obtain ⟨h1, h2, h3⟩ := h
    intro x hx
    unfold Wr.exps at hx
    rcases List.mem_append.mp hx with hx | hx
    · obtain ⟨p, hp, hb⟩ := List.mem_filterMap.mp hx
      obtain ⟨i1, i2⟩ := pair_in hp
      obtain ⟨a1, a2, a3⟩ := move_ok i1 h1 h2
      obtain ⟨b1, b2, b3⟩ := move_ok i2 h1 h2
      have pt := part_pair hp m
      unfold beE begM at hb
      have la : (m ++ p.1.g).length = m.length + p.1.g.length := List.length_append
      have lb : (m ++ p.2.g).length = m.length + p.2.g.length := List.length_append
      cases q : restOf p.2.t p.1.t with
      | none => rw [q] at hb; cases hb
      | some y =>
        obtain ⟨f, r⟩ := y
        rw [q] at hb
        cases f with
        | true =>
          have e := rest_t.mp q
          simp only at hb
          split at hb
          · rename_i hz
            cases hb
            simp only [if_true]
            refine ⟨b1, a1, b2, fun st h => by simp at h, ?_, ?_, by omega⟩
            · rw [hz.1] at a3
              rw [a3, b3, e, hz.2]
              simp
            · have := pt.symm
              rw [hz.1] at this
              exact this
          · cases hb
            simp only [Bool.false_eq_true, if_false]
            exact ⟨a1, b1, a2, b2, by rw [b3, a3, e, List.append_assoc], pt, by omega⟩
        | false =>
          obtain ⟨e, hr⟩ := rest_f.mp q
          simp only at hb
          rw [if_neg (fun z => hr z.2)] at hb
          cases hb
          simp only [if_true]
          exact ⟨b1, a1, b2, a2, by rw [a3, b3, e, List.append_assoc], pt.symm, by omega⟩
    · obtain ⟨c, hc, rfl⟩ := List.mem_map.mp hx
      have hc' := List.mem_range.mp hc
      refine ⟨fun x hx => ?_, by rw [gone_snoc, h2], by simp; omega⟩
      rcases List.mem_append.mp hx with hx | hx
      · exact h1 x hx
      · rw [List.mem_singleton.mp hx]; exact hc'
  | spt a b r m n =>
    cases a with
    | none => intro x hx; simp [Wr.exps] at hx
    | some st =>
      obtain ⟨h1, h2, h3, h4, h5, h6, h7⟩ := h
      intro x hx
      unfold Wr.exps at hx
      obtain ⟨mv, hmv, hb⟩ := List.mem_filterMap.mp hx
      obtain ⟨a1, a2, a3⟩ := move_ok hmv h1 (h3 st rfl)
      have la : (m ++ mv.g).length = m.length + mv.g.length := List.length_append
      have h5' : w.wrote n b = (w.gone 0 m).1 ++ r := h5
      unfold goE afterM at hb
      cases q : restOf r mv.t with
      | none => rw [q] at hb; cases hb
      | some y =>
        obtain ⟨f, r'⟩ := y
        rw [q] at hb
        cases f with
        | true =>
          have e := rest_t.mp q
          simp only at hb
          split at hb
          · rename_i hz
            cases hb
            simp only [if_true]
            refine ⟨h2, a1, h4, fun st h => by simp at h, ?_, ?_, by omega⟩
            · rw [hz.2] at a3
              rw [a3, h5', e, hz.1]
              simp
            · exact (h6.go (g := mv.g) (o := none)).symm
          · cases hb
            simp only [Bool.false_eq_true, if_false]
            exact ⟨a1, h2, a2, h4, by rw [h5', a3, e, List.append_assoc], h6.go, by omega⟩
        | false =>
          obtain ⟨e, hr⟩ := rest_f.mp q
          cases hb
          simp only [if_true]
          exact ⟨h2, a1, h4, a2, by rw [a3, h5', e, List.append_assoc], (h6.go (g := mv.g) (o := mv.o)).symm, by omega⟩
theorem sound_goal {w : Wr} {j : Nat} {m n : List Nat} (h : w.Sound j (.spt none none [] m n)) : Msg w m ∧ Msg w n ∧ m ≠ n ∧ w.text m = w.text n ∧ j = m.length + n.length := by
  obtain ⟨h1, h2, h3, h4, h5, h6, h7⟩ := h
  refine ⟨h1, h2, h6.ne, ?_, h7⟩
  have : w.text n = w.text m ++ [] := h5
  rw [this, List.append_nil]
/-! ### whatever is written alike is come to -/
inductive Wr.Rch (w : Wr) : Nat → AN → Prop
  | z : w.Rch 0 (.com 0)
  | s {c : Nat} {n : AN} {d : Nat} {n' : AN} : w.Rch c n → (d, n') ∈ w.succs n → w.Rch (c + d) n'
theorem rch_com {w : Wr} : ∀ (k : Nat) (m : List Nat), m.length = k → Msg w m → w.Rch (2 * m.length) (.com (w.gone 0 m).2)
  | 0, m, hk, _ => by
    have : m = [] := List.length_eq_zero_iff.mp hk
    subst this
    exact .z
  | k + 1, m, hk, hm => by
    rcases List.eq_nil_or_concat m with rfl | ⟨m1, c, rfl⟩
    · simp at hk
    · rw [List.concat_eq_append] at hk hm ⊢
      have ih := rch_com k m1 (by simpa using hk) fun x hx => hm x (List.mem_append_left _ hx)
      have hc : c < w.signs := hm c (by simp)
      rw [gone_snoc]
      have e : 2 * (m1 ++ [c]).length = 2 * m1.length + 2 := by simp; omega
      rw [e]
      refine .s ih ?_
      unfold Wr.succs
      exact List.mem_append_right _ (List.mem_map.mpr ⟨c, List.mem_range.mpr hc, rfl⟩)
/-- what is still to be written -/
def Wr.rt (w : Wr) (o : ON) (u : List Nat) : T := match o with
  | none => []
  | some st => (w.gone st u).1 ++ w.fin (w.gone st u).2
def left (o : ON) : Nat := match o with
  | none => 0
  | some _ => 1
/-- the next move of what is still to be told -/
theorem next_move {w : Wr} {st : Nat} {u : List Nat} (hu : Msg w u) : ∃ (mv : Mv) (u' : List Nat), mv ∈ w.moves st ∧ w.rt (some st) u = mv.t ++ w.rt mv.o u' ∧ u = mv.g ++ u' ∧ (mv.o = none → u' = []) ∧ u'.length + left mv.o < u.length + 1 ∧ (mv.g = [] → mv.o = none) := by
  cases u with
  | nil => exact ⟨⟨[], w.fin st, none⟩, [], List.mem_cons_self, by simp [Wr.rt, Wr.gone], rfl, fun _ => rfl, by simp [left], fun _ => rfl⟩
  | cons c u =>
    have hc := hu c List.mem_cons_self
    refine ⟨⟨[c], (w.at st c).1, some (w.at st c).2⟩, u, List.mem_of_getElem? (move_at_c hc), ?_, rfl, fun h => by simp at h, by simp [left], fun h => by simp at h⟩
    simp [Wr.rt, Wr.gone]
theorem rch_spt {w : Wr} : ∀ (k c : Nat) (a b : ON) (r : T) (u v : List Nat), u.length + v.length + left a + left b ≤ k → w.Rch c (.spt a b r) → Msg w u → Msg w v → (a = none → u = []) → (b = none → v = []) → (a = none → r = [] → b = none) → w.rt a u = r ++ w.rt b v → w.Rch (c + u.length + v.length) goalN
  | k, c, none, b, r, u, v, hk, h, hu, hv, ha, hb, hn, ht => by
    have e : [] = r ++ w.rt b v := ht
    have e1 := List.append_eq_nil_iff.mp e.symm
    have b0 := hn rfl e1.1
    subst b0
    rw [ha rfl, hb rfl]
    rw [e1.1] at h
    exact h
  | 0, c, some st, b, r, u, v, hk, h, hu, hv, ha, hb, hn, ht => by simp [left] at hk
  | k + 1, c, some st, b, r, u, v, hk, h, hu, hv, ha, hb, hn, ht => by
    obtain ⟨mv, u', m1, m2, m3, m4, m5, m6⟩ := next_move (st := st) hu
    have hu' : Msg w u' := fun x hx => hu x (by rw [m3]; exact List.mem_append_right _ hx)
    have ul : u.length = mv.g.length + u'.length := by rw [m3, List.length_append]
    rw [m2] at ht
    have hk' : u.length + v.length + 1 + left b ≤ k + 1 := hk
    rcases rest_of_app ht with ⟨r', q, e⟩ | ⟨r', q, e⟩
    · by_cases z : r' = [] ∧ mv.o = none
      · obtain ⟨z1, z2⟩ := z
        have am : afterM b r mv = some ((b, none, []), true) := by
          unfold afterM
          rw [q]
          exact if_pos ⟨z1, z2⟩
        have st' : w.Rch (c + mv.g.length) (.spt b none []) := by
          refine .s h ?_
          unfold Wr.succs
          exact List.mem_filterMap.mpr ⟨mv, m1, by unfold goN; rw [am]; rfl⟩
        have u0 := m4 z2
        rw [z1, z2] at e
        have := rch_spt k (c + mv.g.length) b none [] v [] (by simp [left] at hk' m5 ⊢; rw [z2] at m5; simp [left] at m5; omega) st' hv (fun x hx => by simp at hx) hb (fun _ => rfl) (fun _ _ => rfl) (by
          show w.rt b v = [] ++ []
          have : w.rt none u' = [] := rfl
          rw [this] at e
          simpa using e.symm)
        rw [u0] at ul
        have e3 : c + mv.g.length + v.length + ([] : List Nat).length = c + u.length + v.length := by rw [ul]; simp
        rw [e3] at this
        exact this
      · have am : afterM b r mv = some ((mv.o, b, r'), false) := by
          unfold afterM
          rw [q]
          exact if_neg z
        have st' : w.Rch (c + mv.g.length) (.spt mv.o b r') := by
          refine .s h ?_
          unfold Wr.succs
          exact List.mem_filterMap.mpr ⟨mv, m1, by unfold goN; rw [am]; rfl⟩
        have := rch_spt k (c + mv.g.length) mv.o b r' u' v (by omega) st' hu' hv m4 hb (fun h1 h2 => absurd ⟨h2, h1⟩ z) e
        have e3 : c + mv.g.length + u'.length + v.length = c + u.length + v.length := by rw [ul]; omega
        rw [e3] at this
        exact this
    · obtain ⟨_, hr⟩ := rest_f.mp q
      have am : afterM b r mv = some ((b, mv.o, r'), true) := by
        unfold afterM
        rw [q]
      have st' : w.Rch (c + mv.g.length) (.spt b mv.o r') := by
        refine .s h ?_
        unfold Wr.succs
        exact List.mem_filterMap.mpr ⟨mv, m1, by unfold goN; rw [am]; rfl⟩
      have := rch_spt k (c + mv.g.length) b mv.o r' v u' (by omega) st' hv hu' hb m4 (fun _ h2 => absurd h2 hr) e
      have e3 : c + mv.g.length + v.length + u'.length = c + u.length + v.length := by rw [ul]; omega
      rw [e3] at this
      exact this
theorem common : ∀ m n : List Nat, m ≠ n → ∃ c, (∃ x y u v, x ≠ y ∧ m = c ++ x :: u ∧ n = c ++ y :: v) ∨ (∃ y v, m = c ∧ n = c ++ y :: v) ∨ (∃ x u, m = c ++ x :: u ∧ n = c)
  | [], [], h => absurd rfl h
  | [], y :: v, _ => ⟨[], .inr (.inl ⟨y, v, rfl, rfl⟩)⟩
  | x :: u, [], _ => ⟨[], .inr (.inr ⟨x, u, rfl, rfl⟩)⟩
  | x :: u, y :: v, h => by
    by_cases e : x = y
    · subst e
      have h' : u ≠ v := fun z => h (by rw [z])
      obtain ⟨c, ⟨x', y', u', v', h1, h2, h3⟩ | ⟨y', v', h2, h3⟩ | ⟨x', u', h2, h3⟩⟩ := common u v h'
      · exact ⟨x :: c, .inl ⟨x', y', u', v', h1, by rw [h2]; rfl, by rw [h3]; rfl⟩⟩
      · exact ⟨x :: c, .inr (.inl ⟨y', v', by rw [h2], by rw [h3]; rfl⟩)⟩
      · exact ⟨x :: c, .inr (.inr ⟨x', u', by rw [h2]; rfl, by rw [h3]⟩)⟩
    · exact ⟨[], .inl ⟨x, y, u, v, e, rfl, rfl⟩⟩
theorem gone_app (w : Wr) : ∀ (m n : List Nat) (st : Nat), w.gone st (m ++ n) = ((w.gone st m).1 ++ (w.gone (w.gone st m).2 n).1, (w.gone (w.gone st m).2 n).2)
  | [], n, st => by simp [Wr.gone]
  | c :: m, n, st => by
    have ih := gone_app w m n (w.at st c).2
    simp only [List.cons_append, Wr.gone, ih, List.append_assoc]
theorem text_app (w : Wr) (c u : List Nat) : w.text (c ++ u) = (w.gone 0 c).1 ++ w.rt (some (w.gone 0 c).2) u := by
  unfold Wr.text Wr.rt
  rw [gone_app]
  simp
theorem rch_pair {w : Wr} {c : List Nat} (hc : Msg w c) {one other : Mv} {u v : List Nat} (hp : (one, other) ∈ pairsOf (w.moves (w.gone 0 c).2)) (hu : Msg w u) (hv : Msg w v) (h1 : one.o = none → u = []) (h2 : other.o = none → v = []) (ht : one.t ++ w.rt one.o u = other.t ++ w.rt other.o v) :
    w.Rch (2 * c.length + (one.g.length + other.g.length) + u.length + v.length) goalN := by
  have h := rch_com _ c rfl hc
  have key : ∀ {sp : (ON × ON × T) × Bool}, begM one other = some sp → w.Rch (2 * c.length + (one.g.length + other.g.length)) (.spt sp.1.1 sp.1.2.1 sp.1.2.2) := fun {sp} hb => by
    refine .s h ?_
    unfold Wr.succs
    exact List.mem_append_left _ (List.mem_filterMap.mpr ⟨(one, other), hp, by unfold beN; rw [hb]; rfl⟩)
  rcases rest_of_app ht with ⟨r, q, e⟩ | ⟨r, q, e⟩
  · by_cases z : one.o = none ∧ r = []
    · have bm : begM one other = some ((other.o, none, []), true) := by
        unfold begM
        rw [q]
        exact if_pos z
      have := rch_spt (v.length + 0 + left other.o + 0) _ other.o none [] v [] (Nat.le_refl _) (key bm) hv (fun x hx => by simp at hx) h2 (fun _ => rfl) (fun _ _ => rfl) (by
        rw [z.1, z.2] at e
        have e0 : w.rt none u = [] := rfl
        rw [e0] at e
        show w.rt other.o v = [] ++ []
        simpa using e.symm)
      rw [h1 z.1]
      simpa using this
    · have bm : begM one other = some ((one.o, other.o, r), false) := by
        unfold begM
        rw [q]
        exact if_neg z
      exact rch_spt (u.length + v.length + left one.o + left other.o) _ one.o other.o r u v (Nat.le_refl _) (key bm) hu hv h1 h2 (fun a b => absurd ⟨a, b⟩ z) e
  · obtain ⟨_, hr⟩ := rest_f.mp q
    have bm : begM one other = some ((other.o, one.o, r), true) := by
      unfold begM
      rw [q]
      exact if_neg (fun z => hr z.2)
    have := rch_spt (v.length + u.length + left other.o + left one.o) _ other.o one.o r v u (Nat.le_refl _) (key bm) hv hu h2 h1 (fun _ b => absurd b hr) e
    have e3 : 2 * c.length + (one.g.length + other.g.length) + v.length + u.length = 2 * c.length + (one.g.length + other.g.length) + u.length + v.length := by omega
    rw [e3] at this
    exact this
theorem rch_alike {w : Wr} {m n : List Nat} (hm : Msg w m) (hn : Msg w n) (hne : m ≠ n) (ht : w.text m = w.text n) : w.Rch (m.length + n.length) goalN := by
  obtain ⟨c, ⟨x, y, u, v, h1, h2, h3⟩ | ⟨y, v, h2, h3⟩ | ⟨x, u, h2, h3⟩⟩ := common m n hne
  · have hc : Msg w c := fun z hz => hm z (by rw [h2]; exact List.mem_append_left _ hz)
    have hx : x < w.signs := hm x (by rw [h2]; simp)
    have hy : y < w.signs := hn y (by rw [h3]; simp)
    have hu : Msg w u := fun z hz => hm z (by rw [h2]; simp [hz])
    have hv : Msg w v := fun z hz => hn z (by rw [h3]; simp [hz])
    rw [h2, h3, text_app, text_app] at ht
    have ht' := List.append_cancel_left ht
    have e1 : ∀ (x : Nat) (u : List Nat), w.rt (some (w.gone 0 c).2) (x :: u) = (w.at (w.gone 0 c).2 x).1 ++ w.rt (some (w.at (w.gone 0 c).2 x).2) u := fun x u => by simp [Wr.rt, Wr.gone]
    rw [e1, e1] at ht'
    rcases Nat.lt_or_gt_of_ne h1 with z | z
    · have hp : ((⟨[x], (w.at (w.gone 0 c).2 x).1, some (w.at (w.gone 0 c).2 x).2⟩ : Mv), (⟨[y], (w.at (w.gone 0 c).2 y).1, some (w.at (w.gone 0 c).2 y).2⟩ : Mv)) ∈ pairsOf (w.moves (w.gone 0 c).2) := pairs_mem'.mpr ⟨x + 1, y + 1, by omega, move_at_c hx, move_at_c hy⟩
      have := rch_pair hc hp hu hv (fun h => by simp at h) (fun h => by simp at h) ht'
      have e : 2 * c.length + (([x] : List Nat).length + ([y] : List Nat).length) + u.length + v.length = m.length + n.length := by rw [h2, h3]; simp; omega
      rw [e] at this
      exact this
    · have hp : ((⟨[y], (w.at (w.gone 0 c).2 y).1, some (w.at (w.gone 0 c).2 y).2⟩ : Mv), (⟨[x], (w.at (w.gone 0 c).2 x).1, some (w.at (w.gone 0 c).2 x).2⟩ : Mv)) ∈ pairsOf (w.moves (w.gone 0 c).2) := pairs_mem'.mpr ⟨y + 1, x + 1, by omega, move_at_c hy, move_at_c hx⟩
      have := rch_pair hc hp hv hu (fun h => by simp at h) (fun h => by simp at h) ht'.symm
      have e : 2 * c.length + (([y] : List Nat).length + ([x] : List Nat).length) + v.length + u.length = m.length + n.length := by rw [h2, h3]; simp; omega
      rw [e] at this
      exact this
  · have hc : Msg w c := by rw [← h2]; exact hm
    have hy : y < w.signs := hn y (by rw [h3]; simp)
    have hv : Msg w v := fun z hz => hn z (by rw [h3]; simp [hz])
    have hm' : w.text m = w.text (c ++ []) := by rw [h2, List.append_nil]
    rw [hm', h3, text_app, text_app] at ht
    have ht' := List.append_cancel_left ht
    have e0 : w.rt (some (w.gone 0 c).2) [] = w.fin (w.gone 0 c).2 ++ w.rt none [] := by simp [Wr.rt, Wr.gone]
    have e1 : w.rt (some (w.gone 0 c).2) (y :: v) = (w.at (w.gone 0 c).2 y).1 ++ w.rt (some (w.at (w.gone 0 c).2 y).2) v := by simp [Wr.rt, Wr.gone]
    rw [e0, e1] at ht'
    have hp : ((⟨[], w.fin (w.gone 0 c).2, none⟩ : Mv), (⟨[y], (w.at (w.gone 0 c).2 y).1, some (w.at (w.gone 0 c).2 y).2⟩ : Mv)) ∈ pairsOf (w.moves (w.gone 0 c).2) := pairs_mem'.mpr ⟨0, y + 1, by omega, rfl, move_at_c hy⟩
    have := rch_pair (u := []) hc hp (fun z hz => by simp at hz) hv (fun _ => rfl) (fun h => by simp at h) ht'
    have e : 2 * c.length + (([] : List Nat).length + ([y] : List Nat).length) + ([] : List Nat).length + v.length = m.length + n.length := by rw [h2, h3]; simp; omega
    rw [e] at this
    exact this
  · have hc : Msg w c := by rw [← h3]; exact hn
    have hx : x < w.signs := hm x (by rw [h2]; simp)
    have hu : Msg w u := fun z hz => hm z (by rw [h2]; simp [hz])
    have hn' : w.text n = w.text (c ++ []) := by rw [h3, List.append_nil]
    rw [hn', h2, text_app, text_app] at ht
    have ht' := List.append_cancel_left ht
    have e0 : w.rt (some (w.gone 0 c).2) [] = w.fin (w.gone 0 c).2 ++ w.rt none [] := by simp [Wr.rt, Wr.gone]
    have e1 : w.rt (some (w.gone 0 c).2) (x :: u) = (w.at (w.gone 0 c).2 x).1 ++ w.rt (some (w.at (w.gone 0 c).2 x).2) u := by simp [Wr.rt, Wr.gone]
    rw [e0, e1] at ht'
    have hp : ((⟨[], w.fin (w.gone 0 c).2, none⟩ : Mv), (⟨[x], (w.at (w.gone 0 c).2 x).1, some (w.at (w.gone 0 c).2 x).2⟩ : Mv)) ∈ pairsOf (w.moves (w.gone 0 c).2) := pairs_mem'.mpr ⟨0, x + 1, by omega, rfl, move_at_c hx⟩
    have := rch_pair (u := []) hc hp (fun z hz => by simp at hz) hu (fun _ => rfl) (fun h => by simp at h) ht'.symm
    have e : 2 * c.length + (([] : List Nat).length + ([x] : List Nat).length) + ([] : List Nat).length + u.length = m.length + n.length := by rw [h2, h3]; simp; omega
    rw [e] at this
    exact this
end Wk

namespace Wk
open PySem PySem.Spec PyProof.Rows L2 TL DL
/-! ### lists by cost -/
section
variable {α : Type}
def row (wt : List (List α)) (i : Nat) : List α := wt.getD i []
def padW (wt : List (List α)) (c : Nat) : List (List α) := wt ++ List.replicate (c + 1 - wt.length) []
def putW (wt : List (List α)) (c : Nat) (e : α) : List (List α) := (padW wt c).set c (row (padW wt c) c ++ [e])
theorem row_pad (wt : List (List α)) (c i : Nat) : row (padW wt c) i = row wt i := by
  unfold row padW
  rw [List.getD_eq_getElem?_getD, List.getD_eq_getElem?_getD]
  by_cases h : i < wt.length
  · rw [List.getElem?_append_left h]
  · rw [List.getElem?_append_right (by omega), List.getElem?_replicate, List.getElem?_eq_none_iff.mpr (show wt.length ≤ i by omega)]
    split <;> rfl
theorem len_pad (wt : List (List α)) (c : Nat) : (padW wt c).length = max wt.length (c + 1) := by
  unfold padW
  rw [List.length_append, List.length_replicate]
  omega
theorem len_put (wt : List (List α)) (c : Nat) (e : α) : (putW wt c e).length = max wt.length (c + 1) := by
  unfold putW
  rw [List.length_set, len_pad]
theorem row_put (wt : List (List α)) (c i : Nat) (e : α) : row (putW wt c e) i = row wt i ++ if i = c then [e] else [] := by
  by_cases h : i = c
  · subst h
    rw [if_pos rfl]
    have hl : i < (padW wt i).length := by rw [len_pad]; omega
    show (putW wt i e).getD i [] = _
    unfold putW
    rw [List.getD_eq_getElem?_getD, List.getElem?_set_self hl, row_pad]
    rfl
  · rw [if_neg h, List.append_nil, ← row_pad wt c i]
    show (putW wt c e).getD i [] = (padW wt c).getD i []
    unfold putW
    rw [List.getD_eq_getElem?_getD, List.getElem?_set_ne (Ne.symm h), List.getD_eq_getElem?_getD]
theorem row_beyond {wt : List (List α)} {i : Nat} (h : wt.length ≤ i) : row wt i = [] := by
  unfold row
  rw [List.getD_eq_getElem?_getD, List.getElem?_eq_none_iff.mpr h]
  rfl
def puts (wt : List (List α)) (c : Nat) (l : List (Nat × α)) : List (List α) := l.foldl (fun wt x => putW wt (c + x.1) x.2) wt
theorem puts_cons (wt : List (List α)) (c : Nat) (x : Nat × α) (l : List (Nat × α)) : puts wt c (x :: l) = puts (putW wt (c + x.1) x.2) c l := rfl
theorem puts_app (wt : List (List α)) (c : Nat) (l m : List (Nat × α)) : puts wt c (l ++ m) = puts (puts wt c l) c m := by unfold puts; rw [List.foldl_append]
theorem row_puts (c i : Nat) : ∀ (l : List (Nat × α)) (wt : List (List α)), row (puts wt c l) i = row wt i ++ (l.filter fun x => decide (c + x.1 = i)).map (·.2)
  | [], wt => by simp [puts]
  | x :: l, wt => by
    rw [puts_cons, row_puts c i l, row_put, List.filter_cons]
    by_cases h : c + x.1 = i
    · rw [if_pos h.symm, if_pos (decide_eq_true h), List.map_cons, List.append_assoc]
      rfl
    · rw [if_neg (fun z => h z.symm), if_neg (by rw [decide_eq_false h]; decide), List.append_nil]
theorem len_puts {c k : Nat} : ∀ (l : List (Nat × α)) (wt : List (List α)), (∀ x ∈ l, x.1 ≤ k) → wt.length ≤ (puts wt c l).length ∧ (puts wt c l).length ≤ max wt.length (c + k + 1)
  | [], wt, _ => by simp only [puts, List.foldl_nil]; omega
  | x :: l, wt, h => by
    have hx := h x List.mem_cons_self
    have ih := len_puts (c := c) l (putW wt (c + x.1) x.2) fun y hy => h y (List.mem_cons_of_mem _ hy)
    rw [len_put] at ih
    rw [puts_cons]
    omega
theorem rowlen_puts (c i : Nat) (l : List (Nat × α)) (wt : List (List α)) : (row (puts wt c l) i).length ≤ (row wt i).length + l.length := by
  rw [row_puts, List.length_append, List.length_map]
  have := List.length_filter_le (fun x : Nat × α => decide (c + x.1 = i)) l
  omega
end
/-! ### how much there is -/
def Wr.allT (w : Wr) : List T := (w.rows.flatMap fun r => r.map (·.1)) ++ w.ends
def Wr.aU (w : Wr) : List T := [] :: w.allT.flatMap fun t => (List.range (t.length + 1)).map fun k => t.drop k
def Wr.aO (w : Wr) : List ON := none :: (List.range w.rows.length).map some
def Wr.aF (w : Wr) : List AN := (List.range w.rows.length).map .com ++ w.aO.flatMap fun a => w.aO.flatMap fun b => w.aU.map fun r => .spt a b r
theorem aO_mem {w : Wr} {o : ON} : o ∈ w.aO ↔ ∀ st, o = some st → st < w.rows.length := by
  unfold Wr.aO
  cases o with
  | none => simp
  | some st => simp
theorem aF_com {w : Wr} {st : Nat} : AN.com st ∈ w.aF ↔ st < w.rows.length := by
  unfold Wr.aF
  simp
theorem aF_spt {w : Wr} {a b : ON} {r : T} : AN.spt a b r ∈ w.aF ↔ a ∈ w.aO ∧ b ∈ w.aO ∧ r ∈ w.aU := by
  unfold Wr.aF
  simp only [List.mem_append, List.mem_map, List.mem_flatMap]
  constructor
  · rintro (⟨st, _, h⟩ | ⟨a', h1, b', h2, r', h3, h4⟩)
    · cases h
    · cases h4
      exact ⟨h1, h2, h3⟩
  · rintro ⟨h1, h2, h3⟩
    exact .inr ⟨a, h1, b, h2, r, h3, rfl⟩
theorem flat_len {α β : Type} {f : α → List β} {k : Nat} : ∀ {l : List α}, (∀ a ∈ l, (f a).length ≤ k) → (l.flatMap f).length ≤ l.length * k
  | [], _ => by simp
  | x :: l, h => by
    have h1 := h x List.mem_cons_self
    have ih := flat_len (f := f) (k := k) (l := l) fun a ha => h a (List.mem_cons_of_mem _ ha)
    rw [List.flatMap_cons, List.length_append, List.length_cons, Nat.succ_mul]
    omega
theorem allT_wd {w : Wr} (o : w.Ok) : ∀ t ∈ w.allT, Wd t := fun t ht => by
  unfold Wr.allT at ht
  rcases List.mem_append.mp ht with ht | ht
  · obtain ⟨r, hr, h⟩ := List.mem_flatMap.mp ht
    obtain ⟨p, hp, rfl⟩ := List.mem_map.mp h
    exact (o.pr r hr p hp).1
  · exact o.en t ht
theorem aU_wd {w : Wr} (o : w.Ok) {r : T} (h : r ∈ w.aU) : Wd r := by
  unfold Wr.aU at h
  rcases List.mem_cons.mp h with rfl | h
  · exact ⟨by simp, fun c hc => by simp at hc⟩
  · obtain ⟨t, ht, h⟩ := List.mem_flatMap.mp h
    obtain ⟨k, _, rfl⟩ := List.mem_map.mp h
    have hw := allT_wd o t ht
    exact ⟨by rw [List.length_drop]; have := hw.1; omega, fun c hc => hw.2 c (List.mem_of_mem_drop hc)⟩
theorem aU_of {w : Wr} {t : T} (h : t ∈ w.allT) (k : Nat) : t.drop k ∈ w.aU := by
  unfold Wr.aU
  by_cases hk : k ≤ t.length
  · exact List.mem_cons_of_mem _ (List.mem_flatMap.mpr ⟨t, h, List.mem_map.mpr ⟨k, List.mem_range.mpr (by omega), rfl⟩⟩)
  · rw [List.drop_of_length_le (by omega)]
    exact List.mem_cons_self
theorem aU_drop {w : Wr} {r : T} (h : r ∈ w.aU) (k : Nat) : r.drop k ∈ w.aU := by
  have h' := h
  unfold Wr.aU at h
  rcases List.mem_cons.mp h with rfl | h
  · simpa using h'
  · obtain ⟨t, ht, h⟩ := List.mem_flatMap.mp h
    obtain ⟨j, _, rfl⟩ := List.mem_map.mp h
    rw [List.drop_drop]
    exact aU_of ht _
theorem aU_nil {w : Wr} : ([] : T) ∈ w.aU := List.mem_cons_self
theorem aF_len {w : Wr} (o : w.Ok) : w.aF.length ≤ 13300 := by
  have r6 := o.r6; have el := o.el; have s4 := o.s4
  have h1 : w.allT.length ≤ 30 := by
    unfold Wr.allT
    rw [List.length_append]
    have := flat_len (f := fun r : List (T × Nat) => r.map (·.1)) (k := 4) (l := w.rows) fun r hr => by rw [List.length_map, o.rl r hr]; exact s4
    omega
  have h2 : w.aU.length ≤ 271 := by
    unfold Wr.aU
    rw [List.length_cons]
    have := flat_len (f := fun t : T => (List.range (t.length + 1)).map fun k => t.drop k) (k := 9) (l := w.allT) fun t ht => by
      rw [List.length_map, List.length_range]
      have := (allT_wd o t ht).1
      omega
    omega
  have h3 : w.aO.length ≤ 7 := by unfold Wr.aO; simp; omega
  have h4 : ∀ a : ON, (w.aO.flatMap fun b => w.aU.map fun r => AN.spt a b r).length ≤ 7 * 271 := fun a => by
    have := flat_len (f := fun b : ON => w.aU.map fun r => AN.spt a b r) (k := 271) (l := w.aO) fun b _ => by rw [List.length_map]; exact h2
    have := Nat.mul_le_mul_right 271 h3
    omega
  have h5 := flat_len (f := fun a : ON => w.aO.flatMap fun b => w.aU.map fun r => AN.spt a b r) (k := 7 * 271) (l := w.aO) fun a _ => h4 a
  have h6 := Nat.mul_le_mul_right (7 * 271) h3
  unfold Wr.aF
  rw [List.length_append, List.length_map, List.length_range]
  omega
theorem move_in {w : Wr} (o : w.Ok) {st : Nat} (hs : st < w.rows.length) {mv : Mv} (h : mv ∈ w.moves st) : mv.t ∈ w.allT ∧ mv.o ∈ w.aO ∧ mv.g.length ≤ 1 := by
  rcases move_mem h with rfl | ⟨c, hc, rfl⟩
  · obtain ⟨f1, _⟩ := o.fin_ok hs
    exact ⟨List.mem_append_right _ (List.mem_of_getElem? f1), aO_mem.mpr fun st h => by simp at h, by simp⟩
  · obtain ⟨r, h1, h2, _, h4⟩ := o.at_ok hs hc
    refine ⟨List.mem_append_left _ (List.mem_flatMap.mpr ⟨r, List.mem_of_getElem? h1, List.mem_map.mpr ⟨_, List.mem_of_getElem? h2, rfl⟩⟩), aO_mem.mpr fun st h => ?_, by simp⟩
    simp only [Option.some.injEq] at h
    rw [← h]; exact h4
theorem rest_in {w : Wr} {x y r : T} {f : Bool} (hx : x ∈ w.aU) (hy : y ∈ w.allT) (h : restOf x y = some (f, r)) : r ∈ w.aU := by
  cases f with
  | true =>
    have e := rest_t.mp h
    have : r = x.drop y.length := by rw [e]; simp
    rw [this]
    exact aU_drop hx _
  | false =>
    obtain ⟨e, _⟩ := rest_f.mp h
    have : r = y.drop x.length := by rw [e]; simp
    rw [this]
    exact aU_of hy _
theorem succs_in {w : Wr} (o : w.Ok) {n : AN} (h : n ∈ w.aF) : ∀ x ∈ w.succs n, x.1 ≤ 2 ∧ x.2 ∈ w.aF := by
  cases n with
  | com st =>
    have hs := aF_com.mp h
    intro x hx
    unfold Wr.succs at hx
    rcases List.mem_append.mp hx with hx | hx
    · obtain ⟨p, hp, hb⟩ := List.mem_filterMap.mp hx
      obtain ⟨i1, i2⟩ := pair_in hp
      obtain ⟨a1, a2, a3⟩ := move_in o hs i1
      obtain ⟨b1, b2, b3⟩ := move_in o hs i2
      unfold beN begM at hb
      cases q : restOf p.2.t p.1.t with
      | none => rw [q] at hb; cases hb
      | some y =>
        obtain ⟨f, r⟩ := y
        have hr := rest_in (by have := aU_of b1 0; rwa [List.drop_zero] at this) a1 q
        rw [q] at hb
        cases f with
        | true =>
          simp only at hb
          split at hb
          · cases hb
            exact ⟨by simp only; omega, aF_spt.mpr ⟨b2, aO_mem.mpr fun st h => by simp at h, aU_nil⟩⟩
          · cases hb
            exact ⟨by simp only; omega, aF_spt.mpr ⟨a2, b2, hr⟩⟩
        | false =>
          simp only at hb
          split at hb
          · cases hb
            exact ⟨by simp only; omega, aF_spt.mpr ⟨a2, aO_mem.mpr fun st h => by simp at h, aU_nil⟩⟩
          · cases hb
            exact ⟨by simp only; omega, aF_spt.mpr ⟨b2, a2, hr⟩⟩
    · obtain ⟨c, hc, rfl⟩ := List.mem_map.mp hx
      obtain ⟨_, _, _, _, h4⟩ := o.at_ok hs (List.mem_range.mp hc)
      exact ⟨Nat.le_refl _, aF_com.mpr h4⟩
  | spt a b r =>
    obtain ⟨h1, h2, h3⟩ := aF_spt.mp h
    cases a with
    | none => intro x hx; simp [Wr.succs] at hx
    | some st =>
      have hs := aO_mem.mp h1 st rfl
      intro x hx
      unfold Wr.succs at hx
      obtain ⟨mv, hmv, hb⟩ := List.mem_filterMap.mp hx
      obtain ⟨a1, a2, a3⟩ := move_in o hs hmv
      unfold goN afterM at hb
      cases q : restOf r mv.t with
      | none => rw [q] at hb; cases hb
      | some y =>
        obtain ⟨f, r'⟩ := y
        have hr := rest_in h3 a1 q
        rw [q] at hb
        cases f with
        | true =>
          simp only at hb
          split at hb
          · cases hb
            exact ⟨by simp only; omega, aF_spt.mpr ⟨h2, aO_mem.mpr fun st h => by simp at h, aU_nil⟩⟩
          · cases hb
            exact ⟨by simp only; omega, aF_spt.mpr ⟨a2, h2, hr⟩⟩
        | false =>
          cases hb
          exact ⟨by simp only; omega, aF_spt.mpr ⟨h2, a2, hr⟩⟩
theorem pairs_len {α : Type} {l : List α} (h : l.length ≤ 5) : (pairsOf l).length ≤ 10 := by
  match l, h with
  | [], _ => simp [pairsOf]
  | [a], _ => simp [pairsOf, List.range_succ]
  | [a, b], _ => simp [pairsOf, List.range_succ]
  | [a, b, c], _ => simp [pairsOf, List.range_succ]
  | [a, b, c, d], _ => simp [pairsOf, List.range_succ]
  | [a, b, c, d, e], _ => simp [pairsOf, List.range_succ]
  | a :: b :: c :: d :: e :: f :: l, h => simp at h
theorem moves_len {w : Wr} (o : w.Ok) (st : Nat) : (w.moves st).length ≤ 5 := by
  have := o.s4
  unfold Wr.moves
  simp
  omega
theorem exps_len {w : Wr} (o : w.Ok) (e : AE) : (w.exps e).length ≤ 15 := by
  have s4 := o.s4
  cases e with
  | com st m =>
    unfold Wr.exps
    rw [List.length_append, List.length_map, List.length_range]
    have h1 := List.length_filterMap_le (beE m) (pairsOf (w.moves st))
    have h2 := pairs_len (moves_len o st)
    omega
  | spt a b r m n =>
    cases a with
    | none => simp [Wr.exps]
    | some st =>
      have h1 := List.length_filterMap_le (goE b r m n) (w.moves st)
      have h2 := moves_len o st
      show (List.filterMap (goE b r m n) (w.moves st)).length ≤ 15
      omega
/-! ### the search -/
abbrev Wt := List (List AE)
structure SI (w : Wr) (wt : Wt) (met : List (AN × Nat)) (c i0 : Nat) : Prop where
  nd : (met.map (·.1)).Nodup
  inF : ∀ i, ∀ e ∈ row wt i, e.key ∈ w.aF
  metF : ∀ x ∈ met, x.1 ∈ w.aF
  snd : ∀ i, ∀ e ∈ row wt i, w.Sound i e
  exp : ∀ x ∈ met, x.2 ≤ c ∧ x.1 ≠ goalN ∧ ∀ y ∈ w.succs x.1, ∃ j, j ≤ x.2 + y.1 ∧ ∃ e ∈ row wt j, e.key = y.2
  done : ∀ (j i : Nat) (e : AE), (row wt j)[i]? = some e → (j < c ∨ (j = c ∧ i < i0)) → ∃ d, d ≤ j ∧ (e.key, d) ∈ met
  start : ∃ e ∈ row wt 0, e.key = .com 0
  len : wt.length ≤ 1 + 2 * met.length
  rows : ∀ i, (row wt i).length ≤ 1 + 15 * met.length
theorem si_start {w : Wr} (o : w.Ok) : SI w [[.com 0 []]] [] 0 0 where
  nd := by simp
  inF := fun i e he => by
    cases i with
    | zero =>
      have : e = .com 0 [] := by simpa [row] using he
      subst this
      exact aF_com.mpr (by have := o.r1; omega)
    | succ i => simp [row] at he
  metF := fun x hx => by simp at hx
  snd := fun i e he => by
    cases i with
    | zero =>
      have : e = .com 0 [] := by simpa [row] using he
      subst this
      exact ⟨fun x hx => by simp at hx, rfl, rfl⟩
    | succ i => simp [row] at he
  exp := fun x hx => by simp at hx
  done := fun j i e _ h => by omega
  start := ⟨.com 0 [], by simp [row], rfl⟩
  len := by simp
  rows := fun i => by
    cases i with
    | zero => simp [row]
    | succ i => simp [row]
theorem si_met {w : Wr} {wt : Wt} {met : List (AN × Nat)} {c i0 : Nat} (I : SI w wt met c i0) : met.length ≤ w.aF.length := by
  have h : ∀ (l D : List AN), l.Nodup → (∀ x ∈ l, x ∈ D) → l.length ≤ D.length := by
    intro l
    induction l with
    | nil => intros; exact Nat.zero_le _
    | cons x l ih =>
      intro D hn hs
      obtain ⟨h1, h2⟩ := List.nodup_cons.mp hn
      have hx : x ∈ D := hs x List.mem_cons_self
      have := ih (D.erase x) h2 fun y hy => (List.mem_erase_of_ne (fun (e : y = x) => h1 (e ▸ hy))).2 (hs y (List.mem_cons_of_mem _ hy))
      have e := List.length_erase_of_mem hx
      have hp : 0 < D.length := List.length_pos_of_mem hx
      simp only [List.length_cons]
      omega
  have := h (met.map (·.1)) w.aF I.nd fun x hx => by
    obtain ⟨y, hy, rfl⟩ := List.mem_map.mp hx
    exact I.metF y hy
  simpa using this
theorem si_skip {w : Wr} {wt : Wt} {met : List (AN × Nat)} {c i0 : Nat} {e : AE} (I : SI w wt met c i0) (he : (row wt c)[i0]? = some e) (hm : e.key ∈ met.map (·.1)) : SI w wt met c (i0 + 1) :=
  { I with
    done := fun j i e' h h2 => by
      by_cases z : j = c ∧ i = i0
      · obtain ⟨rfl, rfl⟩ := z
        rw [he] at h
        cases h
        obtain ⟨x, hx, hk⟩ := List.mem_map.mp hm
        exact ⟨x.2, (I.exp x hx).1, by rw [← hk]; exact hx⟩
      · exact I.done j i e' h (by omega) }
theorem si_new {w : Wr} (o : w.Ok) {wt : Wt} {met : List (AN × Nat)} {c i0 : Nat} {e : AE} (I : SI w wt met c i0) (he : (row wt c)[i0]? = some e) (hm : e.key ∉ met.map (·.1)) (hg : e.key ≠ goalN) :
    SI w (puts wt c (w.exps e)) (met ++ [(e.key, c)]) c (i0 + 1) := by
  have hin := List.mem_of_getElem? he
  have hF := I.inF c e hin
  have hS := I.snd c e hin
  have sx : ∀ x ∈ w.exps e, x.1 ≤ 2 ∧ x.2.key ∈ w.aF := fun x hx => by
    have : (x.1, x.2.key) ∈ w.succs e.key := by
      rw [← exps_key]
      exact List.mem_map.mpr ⟨x, hx, rfl⟩
    exact succs_in o hF _ this
  have old : ∀ j e', e' ∈ row wt j → e' ∈ row (puts wt c (w.exps e)) j := fun j e' h => by
    rw [row_puts]
    exact List.mem_append_left _ h
  have new : ∀ x ∈ w.exps e, x.2 ∈ row (puts wt c (w.exps e)) (c + x.1) := fun x hx => by
    rw [row_puts]
    exact List.mem_append_right _ (List.mem_map.mpr ⟨x, List.mem_filter.mpr ⟨hx, by simp⟩, rfl⟩)
  have cases' : ∀ j e', e' ∈ row (puts wt c (w.exps e)) j → e' ∈ row wt j ∨ ∃ x ∈ w.exps e, c + x.1 = j ∧ x.2 = e' := fun j e' h => by
    rw [row_puts] at h
    rcases List.mem_append.mp h with h | h
    · exact .inl h
    · obtain ⟨x, hx, rfl⟩ := List.mem_map.mp h
      obtain ⟨h1, h2⟩ := List.mem_filter.mp hx
      exact .inr ⟨x, h1, by simpa using h2, rfl⟩
  have hcl : c < wt.length := by
    rcases Nat.lt_or_ge c wt.length with z | z
    · exact z
    · rw [row_beyond z] at he
      simp at he
  have hi0 : i0 < (row wt c).length := (List.getElem?_eq_some_iff.mp he).1
  exact {
    nd := by
      rw [List.map_append, List.nodup_append]
      refine ⟨I.nd, by simp, fun a ha b hb => ?_⟩
      simp only [List.map_cons, List.map_nil, List.mem_singleton] at hb
      subst hb
      exact fun z => hm (z ▸ ha)
    inF := fun j e' h => by
      rcases cases' j e' h with h | ⟨x, hx, _, rfl⟩
      · exact I.inF j e' h
      · exact (sx x hx).2
    metF := fun x hx => by
      rcases List.mem_append.mp hx with hx | hx
      · exact I.metF x hx
      · rw [List.mem_singleton.mp hx]; exact hF
    snd := fun j e' h => by
      rcases cases' j e' h with h | ⟨x, hx, rfl, rfl⟩
      · exact I.snd j e' h
      · exact sound_exps hS x hx
    exp := fun x hx => by
      rcases List.mem_append.mp hx with hx | hx
      · obtain ⟨h1, h2, h3⟩ := I.exp x hx
        refine ⟨h1, h2, fun y hy => ?_⟩
        obtain ⟨j, hj, e', he', hk⟩ := h3 y hy
        exact ⟨j, hj, e', old j e' he', hk⟩
      · rw [List.mem_singleton.mp hx]
        refine ⟨Nat.le_refl _, hg, fun y hy => ?_⟩
        rw [← exps_key] at hy
        obtain ⟨x', hx', rfl⟩ := List.mem_map.mp hy
        exact ⟨c + x'.1, Nat.le_refl _, x'.2, new x' hx', rfl⟩
    done := fun j i e' h h2 => by
      rw [row_puts] at h
      by_cases hi : i < (row wt j).length
      · rw [List.getElem?_append_left hi] at h
        by_cases z : j = c ∧ i = i0
        · obtain ⟨rfl, rfl⟩ := z
          rw [he] at h
          cases h
          exact ⟨j, Nat.le_refl _, List.mem_append_right _ (List.mem_singleton.mpr rfl)⟩
        · obtain ⟨d, h3, h4⟩ := I.done j i e' h (by omega)
          exact ⟨d, h3, List.mem_append_left _ h4⟩
      · exfalso
        rcases h2 with h2 | ⟨rfl, h2⟩
        · rw [List.getElem?_append_right (by omega)] at h
          have m := List.mem_of_getElem? h
          obtain ⟨x, hx, _⟩ := List.mem_map.mp m
          have := (List.mem_filter.mp hx).2
          have := of_decide_eq_true this
          omega
        · omega
    start := by
      obtain ⟨e', h1, h2⟩ := I.start
      exact ⟨e', old 0 e' h1, h2⟩
    len := by
      have := (len_puts (c := c) (k := 2) (w.exps e) wt fun x hx => (sx x hx).1).2
      have := I.len
      rw [List.length_append, List.length_singleton]
      omega
    rows := fun j => by
      have h1 := rowlen_puts c j (w.exps e) wt
      have h2 := exps_len o e
      have := I.rows j
      rw [List.length_append, List.length_singleton]
      omega }
theorem si_row {w : Wr} {wt : Wt} {met : List (AN × Nat)} {c i0 : Nat} (I : SI w wt met c i0) (h : (row wt c).length ≤ i0) : SI w wt met (c + 1) 0 :=
  { I with
    exp := fun x hx => by
      obtain ⟨h1, h2⟩ := I.exp x hx
      exact ⟨by omega, h2⟩
    done := fun j i e he h2 => by
      have hi := (List.getElem?_eq_some_iff.mp he).1
      refine I.done j i e he ?_
      by_cases z : j = c
      · subst z; exact .inr ⟨rfl, by omega⟩
      · exact .inl (by omega) }
theorem si_reach {w : Wr} {wt : Wt} {met : List (AN × Nat)} {c i0 : Nat} (I : SI w wt met c i0) {C : Nat} (hC : ∀ j, j < C → ∀ e ∈ row wt j, ∃ d, d ≤ j ∧ (e.key, d) ∈ met) {k : Nat} {n : AN} (h : w.Rch k n) : k < C → ∃ d, d ≤ k ∧ (n, d) ∈ met := by
  induction h with
  | z =>
    intro hk
    obtain ⟨e, h1, h2⟩ := I.start
    obtain ⟨d, h3, h4⟩ := hC 0 hk e h1
    exact ⟨d, h3, h2 ▸ h4⟩
  | @s k n d n' _ hs ih =>
    intro hk
    obtain ⟨d', h1, h2⟩ := ih (by omega)
    obtain ⟨j, hj, e, he, hk'⟩ := (I.exp _ h2).2.2 _ hs
    simp only at hj hk'
    obtain ⟨d2, h3, h4⟩ := hC j (by omega) e he
    exact ⟨d2, by omega, hk' ▸ h4⟩
theorem si_done {w : Wr} {wt : Wt} {met : List (AN × Nat)} {c i0 : Nat} (I : SI w wt met c i0) : ∀ j, j < c → ∀ e ∈ row wt j, ∃ d, d ≤ j ∧ (e.key, d) ∈ met := fun j hj e he => by
  obtain ⟨i, hi⟩ := List.mem_iff_getElem?.mp he
  exact I.done j i e hi (.inl hj)
/-- what is told -/
structure Found (w : Wr) (m n : List Nat) : Prop where
  m1 : Msg w m
  m2 : Msg w n
  ne : m ≠ n
  al : w.text m = w.text n
  few : ∀ m' n', Msg w m' → Msg w n' → m' ≠ n' → w.text m' = w.text n' → m.length + n.length ≤ m'.length + n'.length
theorem si_found {w : Wr} {wt : Wt} {met : List (AN × Nat)} {c i0 : Nat} {m n : List Nat} (I : SI w wt met c i0) (he : (row wt c)[i0]? = some (.spt none none [] m n)) : Found w m n ∧ m.length + n.length = c := by
  obtain ⟨h1, h2, h3, h4, h5⟩ := sound_goal (I.snd c _ (List.mem_of_getElem? he))
  refine ⟨⟨h1, h2, h3, h4, fun m' n' a b cc d => ?_⟩, h5.symm⟩
  have r := rch_alike a b cc d
  rcases Nat.lt_or_ge (m'.length + n'.length) c with z | z
  · obtain ⟨d, _, hd⟩ := si_reach I (si_done I) r z
    exact absurd rfl (I.exp _ hd).2.1
  · omega
theorem si_none {w : Wr} {wt : Wt} {met : List (AN × Nat)} {c i0 : Nat} (I : SI w wt met c i0) (h : wt.length ≤ c) : ∀ m n, Msg w m → Msg w n → m ≠ n → w.text m ≠ w.text n := fun m n a b cc d => by
  have r := rch_alike a b cc d
  obtain ⟨d, _, hd⟩ := si_reach I (C := m.length + n.length + 1) (fun j hj e he => by
    by_cases z : j < c
    · exact si_done I j z e he
    · rw [row_beyond (by omega)] at he
      simp at he) r (by omega)
  exact absurd rfl (I.exp _ hd).2.1
end Wk

namespace Wk
open PySem PySem.Spec PyProof.Rows L2 TL DL
/-! ### what one is ahead by -/
/-- what two texts have beyond their common beginning -/
def ov (x y : T) : Option (T × T) := if x.take y.length = y then some (x.drop y.length, []) else if y.take x.length = x then some ([], y.drop x.length) else none
theorem ov_some {x y u v : T} (h : ov x y = some (u, v)) : (u = [] ∨ v = []) ∧ ∃ p, x = p ++ u ∧ y = p ++ v ∧ u.length ≤ x.length ∧ v.length ≤ y.length := by
  unfold ov at h
  split at h
  · rename_i h1
    cases h
    exact ⟨.inr rfl, y, by conv => lhs; rw [← List.take_append_drop y.length x, h1], by simp, by simp, by simp⟩
  · split at h
    · rename_i h1
      cases h
      exact ⟨.inl rfl, x, by simp, by conv => lhs; rw [← List.take_append_drop x.length y, h1], by simp, by simp⟩
    · cases h
theorem take_app {x y : T} (h : x.take y.length = y) : ∃ u, x = y ++ u := ⟨x.drop y.length, by conv => lhs; rw [← List.take_append_drop y.length x, h]⟩
theorem app_take (y u : T) : (y ++ u).take y.length = y := by simp
theorem ov_none {x y : T} : ov x y = none ↔ (¬ ∃ u, x = y ++ u) ∧ ¬ ∃ u, y = x ++ u := by
  unfold ov
  constructor
  · intro h
    split at h
    · cases h
    · rename_i h1
      split at h
      · cases h
      · rename_i h2
        exact ⟨fun ⟨u, e⟩ => h1 (by rw [e]; exact app_take _ _), fun ⟨u, e⟩ => h2 (by rw [e]; exact app_take _ _)⟩
  · rintro ⟨h1, h2⟩
    rw [if_neg fun z => h1 (take_app z), if_neg fun z => h2 (take_app z)]
theorem ov_pre (p x y : T) : ov (p ++ x) (p ++ y) = ov x y := by
  unfold ov
  have e1 : ((p ++ x).take (p ++ y).length = p ++ y) ↔ x.take y.length = y := by
    rw [List.length_append, List.take_length_add_append, List.append_cancel_left_eq]
  have e2 : ((p ++ y).take (p ++ x).length = p ++ x) ↔ y.take x.length = x := by
    rw [List.length_append, List.take_length_add_append, List.append_cancel_left_eq]
  have e3 : (p ++ x).drop (p ++ y).length = x.drop y.length := by rw [List.length_append, List.drop_length_add_append]
  have e4 : (p ++ y).drop (p ++ x).length = y.drop x.length := by rw [List.length_append, List.drop_length_add_append]
  simp only [e1, e2, e3, e4]
theorem app_eq {a b c d : T} (h : a ++ b = c ++ d) : (∃ u, a = c ++ u) ∨ ∃ u, c = a ++ u := by
  rcases List.append_eq_append_iff.mp h with ⟨u, h1, _⟩ | ⟨u, h1, _⟩
  · exact .inr ⟨u, h1⟩
  · exact .inl ⟨u, h1⟩
/-- what parted stays parted -/
theorem ov_part {x y : T} (h : ov x y = none) (a b : T) : ov (x ++ a) (y ++ b) = none ∧ x ++ a ≠ y ++ b := by
  obtain ⟨h1, h2⟩ := ov_none.mp h
  have key : ∀ a b, x ++ a ≠ y ++ b := fun a b e => by
    rcases app_eq e with z | z
    · exact h1 z
    · exact h2 z
  refine ⟨ov_none.mpr ⟨fun ⟨u, e⟩ => ?_, fun ⟨u, e⟩ => ?_⟩, key a b⟩
  · rw [List.append_assoc] at e
    exact key _ _ e
  · rw [List.append_assoc] at e
    exact key _ _ e.symm
def ovD : Option (T × T) → D
  | none => .non
  | some r => .tup [tD r.1, tD r.2]
/-! ### two writers beside one another -/
abbrev PN := Nat × Nat × Option (T × T)
def on (o : Option (T × T)) (a b : T) : Option (T × T) := match o with
  | none => none
  | some r => ov (r.1 ++ a) (r.2 ++ b)
def un (o : Option (T × T)) (a b : T) : Bool := match o with
  | none => true
  | some r => decide (r.1 ++ a ≠ r.2 ++ b)
theorem on_ov (x y a b : T) : on (ov x y) a b = ov (x ++ a) (y ++ b) := by
  cases h : ov x y with
  | none => exact ((ov_part h a b).1).symm
  | some r =>
    obtain ⟨_, p, e1, e2, _⟩ := ov_some (u := r.1) (v := r.2) h
    show ov (r.1 ++ a) (r.2 ++ b) = _
    conv => rhs; rw [e1, e2]
    rw [List.append_assoc, List.append_assoc, ov_pre]
theorem un_ov (x y a b : T) : un (ov x y) a b = decide (x ++ a ≠ y ++ b) := by
  cases h : ov x y with
  | none => exact (decide_eq_true (ov_part h a b).2).symm
  | some r =>
    obtain ⟨_, p, e1, e2, _⟩ := ov_some (u := r.1) (v := r.2) h
    show decide (r.1 ++ a ≠ r.2 ++ b) = _
    conv => rhs; rw [e1, e2]
    rw [List.append_assoc, List.append_assoc]
    simp only [ne_eq, List.append_cancel_left_eq]
noncomputable def pr (w v : Wr) : Gr PN where
  s := w.signs
  d := fun n c => ((w.at n.1 c).2, (v.at n.2.1 c).2, on n.2.2 (w.at n.1 c).1 (v.at n.2.1 c).1)
  acc := fun n => un n.2.2 (w.fin n.1) (v.fin n.2.1)
  n0 := (0, 0, some ([], []))
theorem pr_run {w v : Wr} : ∀ (k : Nat) (ms : List Nat), ms.length = k → (pr w v).run ms = ((w.gone 0 ms).2, (v.gone 0 ms).2, ov (w.gone 0 ms).1 (v.gone 0 ms).1)
  | 0, ms, hk => by
    have : ms = [] := List.length_eq_zero_iff.mp hk
    subst this
    rfl
  | k + 1, ms, hk => by
    rcases List.eq_nil_or_concat ms with rfl | ⟨m1, c, rfl⟩
    · simp at hk
    · rw [List.concat_eq_append] at hk ⊢
      rw [run_snoc, pr_run k m1 (by simpa using hk), gone_snoc, gone_snoc]
      show (_, _, on (ov (w.gone 0 m1).1 (v.gone 0 m1).1) _ _) = _
      rw [on_ov]
theorem pr_acc {w v : Wr} (ms : List Nat) : (pr w v).acc ((pr w v).run ms) = decide (w.text ms ≠ v.text ms) := by
  rw [pr_run _ ms rfl]
  exact un_ov _ _ _ _
/-- the one rest that two states can have where they write alike -/
noncomputable def lone (w v : Wr) (a b : Nat) : PN := (a, b, some ((v.fin b).take ((v.fin b).length - (w.fin a).length), (w.fin a).take ((w.fin a).length - (v.fin b).length)))
theorem lone_eq {x y e f : T} (h : x ++ e = y ++ f) (hn : x = [] ∨ y = []) : x = f.take (f.length - e.length) ∧ y = e.take (e.length - f.length) := by
  have hl := congrArg List.length h
  simp only [List.length_append] at hl
  rcases hn with rfl | rfl
  · simp only [List.nil_append] at h
    simp only [List.length_nil, Nat.zero_add] at hl
    subst h
    simp
  · simp only [List.nil_append] at h
    simp only [List.length_nil, Nat.zero_add] at hl
    subst h
    simp
noncomputable def pairs (w v : Wr) : List PN := (List.range w.rows.length).flatMap fun a => (List.range v.rows.length).map fun b => lone w v a b
noncomputable def prF (w v : Wr) : List PN := (pr w v).n0 :: (pairs w v).flatMap fun n => (List.range w.signs).map ((pr w v).d n)
/-- what holds of all that is come to -/
def PGood (w v : Wr) (n : PN) : Prop := n.1 < w.rows.length ∧ n.2.1 < v.rows.length ∧ ∀ r, n.2.2 = some r → (r.1 = [] ∨ r.2 = []) ∧ r.1.length ≤ 16 ∧ r.2.length ≤ 16
theorem pairs_mem {w v : Wr} {n : PN} : n ∈ pairs w v ↔ ∃ a b, a < w.rows.length ∧ b < v.rows.length ∧ n = lone w v a b := by
  unfold pairs
  simp only [List.mem_flatMap, List.mem_map, List.mem_range]
  constructor
  · rintro ⟨a, h1, b, h2, rfl⟩
    exact ⟨a, b, h1, h2, rfl⟩
  · rintro ⟨a, b, h1, h2, rfl⟩
    exact ⟨a, h1, b, h2, rfl⟩
theorem prF_good {w v : Wr} (o : w.Ok) (q : v.Ok) (hs : w.signs = v.signs) {n : PN} (h : n ∈ prF w v) : PGood w v n := by
  rcases List.mem_cons.mp h with rfl | h
  · have h1 := o.r1; have h2 := q.r1
    refine ⟨h1, h2, fun r hr => ?_⟩
    cases hr
    exact ⟨.inl rfl, by simp, by simp⟩
  · simp only [List.mem_flatMap, List.mem_map, List.mem_range] at h
    obtain ⟨p, hp, c, hc, rfl⟩ := h
    obtain ⟨a, b, h1, h2, rfl⟩ := pairs_mem.mp hp
    obtain ⟨_, _, _, w3, w4⟩ := o.at_ok h1 hc
    obtain ⟨_, _, _, v3, v4⟩ := q.at_ok h2 (hs ▸ hc)
    have f1 := (o.fin_ok h1).2.1
    have f2 := (q.fin_ok h2).2.1
    refine ⟨w4, v4, fun r hr => ?_⟩
    obtain ⟨g1, p, g2, g3, g4, g5⟩ := ov_some (u := r.1) (v := r.2) (show ov _ _ = some (r.1, r.2) from hr)
    have w3l := w3.1
    have v3l := v3.1
    simp only [List.length_append, List.length_take] at g4 g5
    exact ⟨g1, by have : (w.at (lone w v a b).1 c).1.length ≤ 8 := w3l; omega, by have : (v.at (lone w v a b).2.1 c).1.length ≤ 8 := v3l; omega⟩
theorem prF_closed {w v : Wr} (o : w.Ok) (q : v.Ok) (hs : w.signs = v.signs) : ∀ n ∈ prF w v, (pr w v).acc n = false → ∀ c, c < (pr w v).s → (pr w v).d n c ∈ prF w v := fun n hn ha c hc => by
  obtain ⟨h1, h2, h3⟩ := prF_good o q hs hn
  obtain ⟨a, b, r⟩ := n
  have e : (a, b, r) = lone w v a b := by
    cases r with
    | none => cases ha
    | some r =>
      have ha' : decide (r.1 ++ w.fin a ≠ r.2 ++ v.fin b) = false := ha
      have hb : r.1 ++ w.fin a = r.2 ++ v.fin b := by simpa using ha'
      obtain ⟨e1, e2⟩ := lone_eq hb (h3 r rfl).1
      unfold lone
      rw [← e1, ← e2]
  refine List.mem_cons_of_mem _ (List.mem_flatMap.mpr ⟨_, pairs_mem.mpr ⟨a, b, h1, h2, e⟩, List.mem_map.mpr ⟨c, List.mem_range.mpr hc, rfl⟩⟩)
theorem prF_len {w v : Wr} (o : w.Ok) (q : v.Ok) : (prF w v).length ≤ 145 := by
  have key : ∀ l : List PN, (l.flatMap fun n => (List.range w.signs).map ((pr w v).d n)).length = l.length * w.signs := by
    intro l
    induction l with
    | nil => simp
    | cons x l ih => simp only [List.flatMap_cons, List.length_append, ih, List.length_map, List.length_range, List.length_cons, Nat.succ_mul]; omega
  have key2 : ∀ l : List Nat, (l.flatMap fun a => (List.range v.rows.length).map fun b => lone w v a b).length = l.length * v.rows.length := by
    intro l
    induction l with
    | nil => simp
    | cons x l ih => simp only [List.flatMap_cons, List.length_append, ih, List.length_map, List.length_range, List.length_cons, Nat.succ_mul]; omega
  unfold prF pairs
  rw [List.length_cons, key, key2, List.length_range]
  have := Nat.mul_le_mul (Nat.mul_le_mul o.r6 q.r6) o.s4
  omega
theorem prF_n0 {w v : Wr} : (pr w v).n0 ∈ prF w v := List.mem_cons_self
/-! ### as data -/
def pnD (n : PN) : D := .tup [.int (n.1 : Int), .int (n.2.1 : Int), ovD n.2.2]
def pqD (x : PN × List Nat) : D := .tup [.int (x.1.1 : Int), .int (x.1.2.1 : Int), ovD x.1.2.2, mD x.2]
theorem ovD_inj {a b : Option (T × T)} (h : ovD a = ovD b) : a = b := by
  cases a with
  | none => cases b with
    | none => rfl
    | some s => simp [ovD] at h
  | some r => cases b with
    | none => simp [ovD] at h
    | some s =>
      simp only [ovD, D.tup.injEq, List.cons.injEq, tD_inj, and_true] at h
      exact congrArg some (Prod.ext h.1 h.2)
theorem pnD_inj (a b : PN) (h : pnD a = pnD b) : a = b := by
  simp only [pnD, D.tup.injEq, List.cons.injEq, D.int.injEq, and_true] at h
  exact Prod.ext (by omega) (Prod.ext (by show a.2.1 = b.2.1; omega) (ovD_inj h.2.2))
end Wk

namespace Wk
open PySem PySem.Spec PyProof.Rows L2 TL DL
/-! ### two messages beside one another, looked at once more -/
inductive LS where
  | same (st : Nat) | pr (a b : ON) (x y : T)
  deriving DecidableEq
def lgoal : LS := .pr none none [] []
def lpair (p : Mv × Mv) : Option (Nat × LS) := (ov p.1.t p.2.t).map fun r => (p.1.g.length + p.2.g.length, .pr p.1.o p.2.o r.1 r.2)
def lgoa (b : ON) (x y : T) (mv : Mv) : Option (Nat × LS) := (ov (x ++ mv.t) y).map fun r => (mv.g.length, .pr mv.o b r.1 r.2)
def lgob (a : ON) (x y : T) (mv : Mv) : Option (Nat × LS) := (ov x (y ++ mv.t)).map fun r => (mv.g.length, .pr a mv.o r.1 r.2)
def Wr.ofO (w : Wr) : ON → List Mv
  | none => []
  | some st => w.moves st
def Wr.lgo (w : Wr) : LS → List (Nat × LS)
  | .same st => ((List.range w.signs).map fun c => (2, .same (w.at st c).2)) ++ (pairsOf (w.moves st)).filterMap lpair
  | .pr a b x y => if y ≠ [] ∨ (x = [] ∧ a ≠ none) then (w.ofO a).filterMap (lgoa b x y) else (w.ofO b).filterMap (lgob a x y)
theorem lgo_same (w : Wr) (st : Nat) : w.lgo (.same st) = ((List.range w.signs).map fun c => (2, .same (w.at st c).2)) ++ (pairsOf (w.moves st)).filterMap lpair := rfl
theorem lgo_pr (w : Wr) (a b : ON) (x y : T) : w.lgo (.pr a b x y) = if y ≠ [] ∨ (x = [] ∧ a ≠ none) then (w.ofO a).filterMap (lgoa b x y) else (w.ofO b).filterMap (lgob a x y) := rfl
def Wr.LSound (w : Wr) (j : Nat) : LS → Prop
  | .same st => ∃ m, Msg w m ∧ (w.gone 0 m).2 = st ∧ j = 2 * m.length
  | .pr a b x y => ∃ m n C, Msg w m ∧ Msg w n ∧ w.stands m a ∧ w.stands n b ∧ w.wrote m a = C ++ x ∧ w.wrote n b = C ++ y ∧ Part m a n b ∧ j = m.length + n.length
theorem msg_snoc {w : Wr} {m : List Nat} {c : Nat} (h : Msg w m) (hc : c < w.signs) : Msg w (m ++ [c]) := fun x hx => by
  rcases List.mem_append.mp hx with hx | hx
  · exact h x hx
  · rw [List.mem_singleton.mp hx]; exact hc
theorem lsound_go {w : Wr} {j : Nat} {s : LS} (h : w.LSound j s) : ∀ z ∈ w.lgo s, w.LSound (j + z.1) z.2 := by
  cases s with
  | same st =>
    obtain ⟨m, h1, h2, h3⟩ := h
    intro z hz
    rw [lgo_same] at hz
    rcases List.mem_append.mp hz with hz | hz
    · obtain ⟨c, hc, rfl⟩ := List.mem_map.mp hz
      exact ⟨m ++ [c], msg_snoc h1 (List.mem_range.mp hc), by rw [gone_snoc, h2], by simp; omega⟩
    · obtain ⟨p, hp, hb⟩ := List.mem_filterMap.mp hz
      obtain ⟨i1, i2⟩ := pair_in hp
      obtain ⟨a1, a2, a3⟩ := move_ok i1 h1 h2
      obtain ⟨b1, b2, b3⟩ := move_ok i2 h1 h2
      have pt := part_pair hp m
      unfold lpair at hb
      cases q : ov p.1.t p.2.t with
      | none => rw [q] at hb; cases hb
      | some r =>
        obtain ⟨u, v⟩ := r
        rw [q] at hb
        cases hb
        obtain ⟨_, C, e1, e2, _⟩ := ov_some q
        exact ⟨m ++ p.1.g, m ++ p.2.g, (w.gone 0 m).1 ++ C, a1, b1, a2, b2, by rw [a3, e1, List.append_assoc], by rw [b3, e2, List.append_assoc], pt, by simp only [List.length_append]; omega⟩
  | pr a b x y =>
    obtain ⟨m, n, C, h1, h2, h3, h4, h5, h6, h7, h8⟩ := h
    intro z hz
    rw [lgo_pr] at hz
    split at hz
    · cases a with
      | none => simp [Wr.ofO] at hz
      | some st =>
        obtain ⟨mv, hmv, hb⟩ := List.mem_filterMap.mp hz
        obtain ⟨a1, a2, a3⟩ := move_ok hmv h1 (h3 st rfl)
        unfold lgoa at hb
        cases q : ov (x ++ mv.t) y with
        | none => rw [q] at hb; cases hb
        | some r =>
          obtain ⟨u, v⟩ := r
          rw [q] at hb
          cases hb
          obtain ⟨_, p, e1, e2, _⟩ := ov_some q
          have h5' : (w.gone 0 m).1 = C ++ x := h5
          exact ⟨m ++ mv.g, n, C ++ p, a1, h2, a2, h4, by rw [a3, h5', List.append_assoc, e1, List.append_assoc], by rw [h6, e2, List.append_assoc], h7.go, by simp only [List.length_append]; omega⟩
    · cases b with
      | none => simp [Wr.ofO] at hz
      | some st =>
        obtain ⟨mv, hmv, hb⟩ := List.mem_filterMap.mp hz
        obtain ⟨a1, a2, a3⟩ := move_ok hmv h2 (h4 st rfl)
        unfold lgob at hb
        cases q : ov x (y ++ mv.t) with
        | none => rw [q] at hb; cases hb
        | some r =>
          obtain ⟨u, v⟩ := r
          rw [q] at hb
          cases hb
          obtain ⟨_, p, e1, e2, _⟩ := ov_some q
          have h6' : (w.gone 0 n).1 = C ++ y := h6
          exact ⟨m, n ++ mv.g, C ++ p, h1, a1, h3, a2, by rw [h5, e1, List.append_assoc], by rw [a3, h6', List.append_assoc, e2, List.append_assoc], h7.symm.go.symm, by simp only [List.length_append]; omega⟩
theorem lsound_goal {w : Wr} {j : Nat} (h : w.LSound j lgoal) : ∃ m n, Msg w m ∧ Msg w n ∧ m ≠ n ∧ w.text m = w.text n ∧ j = m.length + n.length := by
  obtain ⟨m, n, C, h1, h2, h3, h4, h5, h6, h7, h8⟩ := h
  refine ⟨m, n, h1, h2, h7.ne, ?_, h8⟩
  have e1 : w.text m = C ++ [] := h5
  have e2 : w.text n = C ++ [] := h6
  rw [e1, e2]
inductive Wr.LRch (w : Wr) : Nat → LS → Prop
  | z : w.LRch 0 (.same 0)
  | s {c : Nat} {n : LS} {d : Nat} {n' : LS} : w.LRch c n → (d, n') ∈ w.lgo n → w.LRch (c + d) n'
theorem lrch_same {w : Wr} : ∀ (k : Nat) (m : List Nat), m.length = k → Msg w m → w.LRch (2 * m.length) (.same (w.gone 0 m).2)
  | 0, m, hk, _ => by
    have : m = [] := List.length_eq_zero_iff.mp hk
    subst this
    exact .z
  | k + 1, m, hk, hm => by
    rcases List.eq_nil_or_concat m with rfl | ⟨m1, c, rfl⟩
    · simp at hk
    · rw [List.concat_eq_append] at hk hm ⊢
      have ih := lrch_same k m1 (by simpa using hk) fun x hx => hm x (List.mem_append_left _ hx)
      have hc : c < w.signs := hm c (by simp)
      rw [gone_snoc]
      have e : 2 * (m1 ++ [c]).length = 2 * m1.length + 2 := by simp; omega
      rw [e]
      refine .s ih ?_
      rw [lgo_same]
      exact List.mem_append_left _ (List.mem_map.mpr ⟨c, List.mem_range.mpr hc, rfl⟩)
theorem ov_of_app {x y u v : T} (h : x ++ u = y ++ v) : ∃ p q, ov x y = some (p, q) ∧ p ++ u = q ++ v ∧ (p = [] ∨ q = []) := by
  cases e : ov x y with
  | none =>
    obtain ⟨h1, h2⟩ := ov_none.mp e
    rcases app_eq h with z | z
    · exact absurd z h1
    · exact absurd z h2
  | some r =>
    obtain ⟨p, q⟩ := r
    obtain ⟨h1, c, e1, e2, _⟩ := ov_some e
    refine ⟨p, q, rfl, ?_, h1⟩
    rw [e1, e2, List.append_assoc, List.append_assoc] at h
    exact List.append_cancel_left h
theorem lrch_pr {w : Wr} : ∀ (k c : Nat) (a b : ON) (x y : T) (u v : List Nat), u.length + v.length + left a + left b ≤ k → w.LRch c (.pr a b x y) → Msg w u → Msg w v → (a = none → u = []) → (b = none → v = []) → (x = [] ∨ y = []) → x ++ w.rt a u = y ++ w.rt b v → w.LRch (c + u.length + v.length) lgoal := by
  intro k
  induction k with
  | zero =>
    intro c a b x y u v hk h hu hv ha hb hxy ht
    cases a with
    | some st => simp [left] at hk
    | none =>
      cases b with
      | some st => simp [left] at hk
      | none =>
        have e : x = y := by
          have : x ++ [] = y ++ [] := ht
          simpa using this
        have hx : x = [] := by
          rcases hxy with z | z
          · exact z
          · rw [e]; exact z
        rw [ha rfl, hb rfl]
        rw [← e, hx] at h
        exact h
  | succ k ih =>
    intro c a b x y u v hk h hu hv ha hb hxy ht
    by_cases hc : y ≠ [] ∨ (x = [] ∧ a ≠ none)
    · cases a with
      | none =>
        have hy : y ≠ [] := by
          rcases hc with z | z
          · exact z
          · exact absurd rfl z.2
        have hx : x = [] := hxy.resolve_right hy
        have e : x ++ [] = y ++ w.rt b v := ht
        rw [hx] at e
        exact absurd (List.append_eq_nil_iff.mp e.symm).1 hy
      | some st =>
        obtain ⟨mv, u', m1, m2, m3, m4, m5, m6⟩ := next_move (st := st) hu
        have hu' : Msg w u' := fun z hz => hu z (by rw [m3]; exact List.mem_append_right _ hz)
        have ul : u.length = mv.g.length + u'.length := by rw [m3, List.length_append]
        rw [m2, ← List.append_assoc] at ht
        obtain ⟨p, q, e1, e2, e3⟩ := ov_of_app ht
        have st' : w.LRch (c + mv.g.length) (.pr mv.o b p q) := by
          refine .s h ?_
          rw [lgo_pr]
          rw [if_pos hc]
          exact List.mem_filterMap.mpr ⟨mv, m1, by unfold lgoa; rw [e1]; rfl⟩
        have hk' : u.length + v.length + 1 + left b ≤ k + 1 := hk
        have := ih (c + mv.g.length) mv.o b p q u' v (by omega) st' hu' hv m4 hb e3 e2
        have e4 : c + mv.g.length + u'.length + v.length = c + u.length + v.length := by rw [ul]; omega
        rw [e4] at this
        exact this
    · have hy : y = [] := Decidable.not_not.mp fun z => hc (.inl z)
      have hx : x ≠ [] ∨ a = none := by
        by_cases z : x = []
        · by_cases z2 : a = none
          · exact .inr z2
          · exact absurd (.inr ⟨z, z2⟩) hc
        · exact .inl z
      cases b with
      | none =>
        have e : x ++ w.rt a u = y ++ [] := ht
        rw [hy] at e
        have e2 := List.append_eq_nil_iff.mp e
        have a0 := hx.resolve_left (fun z => z e2.1)
        subst a0
        rw [ha rfl, hb rfl]
        rw [hy, e2.1] at h
        exact h
      | some st =>
        obtain ⟨mv, v', m1, m2, m3, m4, m5, m6⟩ := next_move (st := st) hv
        have hv' : Msg w v' := fun z hz => hv z (by rw [m3]; exact List.mem_append_right _ hz)
        have vl : v.length = mv.g.length + v'.length := by rw [m3, List.length_append]
        rw [m2, ← List.append_assoc] at ht
        obtain ⟨p, q, e1, e2, e3⟩ := ov_of_app ht
        have st' : w.LRch (c + mv.g.length) (.pr a mv.o p q) := by
          refine .s h ?_
          rw [lgo_pr]
          rw [if_neg hc]
          exact List.mem_filterMap.mpr ⟨mv, m1, by unfold lgob; rw [e1]; rfl⟩
        have hk' : u.length + v.length + left a + 1 ≤ k + 1 := hk
        have := ih (c + mv.g.length) a mv.o p q u v' (by omega) st' hu hv' ha m4 e3 e2
        have e4 : c + mv.g.length + u.length + v'.length = c + u.length + v.length := by rw [vl]; omega
        rw [e4] at this
        exact this
theorem lrch_pair {w : Wr} {c : List Nat} (hc : Msg w c) {one other : Mv} {u v : List Nat} (hp : (one, other) ∈ pairsOf (w.moves (w.gone 0 c).2)) (hu : Msg w u) (hv : Msg w v) (h1 : one.o = none → u = []) (h2 : other.o = none → v = []) (ht : one.t ++ w.rt one.o u = other.t ++ w.rt other.o v) :
    w.LRch (2 * c.length + (one.g.length + other.g.length) + u.length + v.length) lgoal := by
  have h := lrch_same _ c rfl hc
  obtain ⟨p, q, e1, e2, e3⟩ := ov_of_app ht
  have st : w.LRch (2 * c.length + (one.g.length + other.g.length)) (.pr one.o other.o p q) := by
    refine .s h ?_
    rw [lgo_same]
    exact List.mem_append_right _ (List.mem_filterMap.mpr ⟨(one, other), hp, by unfold lpair; rw [e1]; rfl⟩)
  exact lrch_pr _ _ one.o other.o p q u v (Nat.le_refl _) st hu hv h1 h2 e3 e2
theorem lrch_alike {w : Wr} {m n : List Nat} (hm : Msg w m) (hn : Msg w n) (hne : m ≠ n) (ht : w.text m = w.text n) : w.LRch (m.length + n.length) lgoal := by
  obtain ⟨c, ⟨x, y, u, v, h1, h2, h3⟩ | ⟨y, v, h2, h3⟩ | ⟨x, u, h2, h3⟩⟩ := common m n hne
  · have hc : Msg w c := fun z hz => hm z (by rw [h2]; exact List.mem_append_left _ hz)
    have hx : x < w.signs := hm x (by rw [h2]; simp)
    have hy : y < w.signs := hn y (by rw [h3]; simp)
    have hu : Msg w u := fun z hz => hm z (by rw [h2]; simp [hz])
    have hv : Msg w v := fun z hz => hn z (by rw [h3]; simp [hz])
    rw [h2, h3, text_app, text_app] at ht
    have ht' := List.append_cancel_left ht
    have e1 : ∀ (x : Nat) (u : List Nat), w.rt (some (w.gone 0 c).2) (x :: u) = (w.at (w.gone 0 c).2 x).1 ++ w.rt (some (w.at (w.gone 0 c).2 x).2) u := fun x u => by simp [Wr.rt, Wr.gone]
    rw [e1, e1] at ht'
    rcases Nat.lt_or_gt_of_ne h1 with z | z
    · have hp : ((⟨[x], (w.at (w.gone 0 c).2 x).1, some (w.at (w.gone 0 c).2 x).2⟩ : Mv), (⟨[y], (w.at (w.gone 0 c).2 y).1, some (w.at (w.gone 0 c).2 y).2⟩ : Mv)) ∈ pairsOf (w.moves (w.gone 0 c).2) := pairs_mem'.mpr ⟨x + 1, y + 1, by omega, move_at_c hx, move_at_c hy⟩
      have := lrch_pair hc hp hu hv (fun h => by simp at h) (fun h => by simp at h) ht'
      have e : 2 * c.length + (([x] : List Nat).length + ([y] : List Nat).length) + u.length + v.length = m.length + n.length := by rw [h2, h3]; simp; omega
      rw [e] at this
      exact this
    · have hp : ((⟨[y], (w.at (w.gone 0 c).2 y).1, some (w.at (w.gone 0 c).2 y).2⟩ : Mv), (⟨[x], (w.at (w.gone 0 c).2 x).1, some (w.at (w.gone 0 c).2 x).2⟩ : Mv)) ∈ pairsOf (w.moves (w.gone 0 c).2) := pairs_mem'.mpr ⟨y + 1, x + 1, by omega, move_at_c hy, move_at_c hx⟩
      have := lrch_pair hc hp hv hu (fun h => by simp at h) (fun h => by simp at h) ht'.symm
      have e : 2 * c.length + (([y] : List Nat).length + ([x] : List Nat).length) + v.length + u.length = m.length + n.length := by rw [h2, h3]; simp; omega
      rw [e] at this
      exact this
  · have hc : Msg w c := by rw [← h2]; exact hm
    have hy : y < w.signs := hn y (by rw [h3]; simp)
    have hv : Msg w v := fun z hz => hn z (by rw [h3]; simp [hz])
    have hm' : w.text m = w.text (c ++ []) := by rw [h2, List.append_nil]
    rw [hm', h3, text_app, text_app] at ht
    have ht' := List.append_cancel_left ht
    have e0 : w.rt (some (w.gone 0 c).2) [] = w.fin (w.gone 0 c).2 ++ w.rt none [] := by simp [Wr.rt, Wr.gone]
    have e1 : w.rt (some (w.gone 0 c).2) (y :: v) = (w.at (w.gone 0 c).2 y).1 ++ w.rt (some (w.at (w.gone 0 c).2 y).2) v := by simp [Wr.rt, Wr.gone]
    rw [e0, e1] at ht'
    have hp : ((⟨[], w.fin (w.gone 0 c).2, none⟩ : Mv), (⟨[y], (w.at (w.gone 0 c).2 y).1, some (w.at (w.gone 0 c).2 y).2⟩ : Mv)) ∈ pairsOf (w.moves (w.gone 0 c).2) := pairs_mem'.mpr ⟨0, y + 1, by omega, rfl, move_at_c hy⟩
    have := lrch_pair (u := []) hc hp (fun z hz => by simp at hz) hv (fun _ => rfl) (fun h => by simp at h) ht'
    have e : 2 * c.length + (([] : List Nat).length + ([y] : List Nat).length) + ([] : List Nat).length + v.length = m.length + n.length := by rw [h2, h3]; simp; omega
    rw [e] at this
    exact this
  · have hc : Msg w c := by rw [← h3]; exact hn
    have hx : x < w.signs := hm x (by rw [h2]; simp)
    have hu : Msg w u := fun z hz => hm z (by rw [h2]; simp [hz])
    have hn' : w.text n = w.text (c ++ []) := by rw [h3, List.append_nil]
    rw [hn', h2, text_app, text_app] at ht
    have ht' := List.append_cancel_left ht
    have e0 : w.rt (some (w.gone 0 c).2) [] = w.fin (w.gone 0 c).2 ++ w.rt none [] := by simp [Wr.rt, Wr.gone]
    have e1 : w.rt (some (w.gone 0 c).2) (x :: u) = (w.at (w.gone 0 c).2 x).1 ++ w.rt (some (w.at (w.gone 0 c).2 x).2) u := by simp [Wr.rt, Wr.gone]
    rw [e0, e1] at ht'
    have hp : ((⟨[], w.fin (w.gone 0 c).2, none⟩ : Mv), (⟨[x], (w.at (w.gone 0 c).2 x).1, some (w.at (w.gone 0 c).2 x).2⟩ : Mv)) ∈ pairsOf (w.moves (w.gone 0 c).2) := pairs_mem'.mpr ⟨0, x + 1, by omega, rfl, move_at_c hx⟩
    have := lrch_pair (u := []) hc hp (fun z hz => by simp at hz) hu (fun _ => rfl) (fun h => by simp at h) ht'.symm
    have e : 2 * c.length + (([] : List Nat).length + ([x] : List Nat).length) + ([] : List Nat).length + u.length = m.length + n.length := by rw [h2, h3]; simp; omega
    rw [e] at this
    exact this
/-! ### how much there is -/
def Wr.lF (w : Wr) : List LS := (List.range w.rows.length).map .same ++ w.aO.flatMap fun a => w.aO.flatMap fun b => (w.aU.map fun r => .pr a b r []) ++ w.aU.map fun r => .pr a b [] r
theorem lF_same {w : Wr} {st : Nat} : LS.same st ∈ w.lF ↔ st < w.rows.length := by
  unfold Wr.lF
  simp
theorem lF_pr {w : Wr} {a b : ON} {x y : T} : LS.pr a b x y ∈ w.lF ↔ a ∈ w.aO ∧ b ∈ w.aO ∧ ((x ∈ w.aU ∧ y = []) ∨ (x = [] ∧ y ∈ w.aU)) := by
  unfold Wr.lF
  simp only [List.mem_append, List.mem_map, List.mem_flatMap]
  constructor
  · rintro (⟨st, _, h⟩ | ⟨a', h1, b', h2, ⟨r', h3, h4⟩ | ⟨r', h3, h4⟩⟩)
    · cases h
    · cases h4
      exact ⟨h1, h2, .inl ⟨h3, rfl⟩⟩
    · cases h4
      exact ⟨h1, h2, .inr ⟨rfl, h3⟩⟩
  · rintro ⟨h1, h2, ⟨h3, rfl⟩ | ⟨rfl, h3⟩⟩
    · exact .inr ⟨a, h1, b, h2, .inl ⟨x, h3, rfl⟩⟩
    · exact .inr ⟨a, h1, b, h2, .inr ⟨y, h3, rfl⟩⟩
theorem lF_len {w : Wr} (o : w.Ok) : w.lF.length ≤ 26700 := by
  have r6 := o.r6; have el := o.el; have s4 := o.s4
  have h1 : w.allT.length ≤ 30 := by
    unfold Wr.allT
    rw [List.length_append]
    have := flat_len (f := fun r : List (T × Nat) => r.map (·.1)) (k := 4) (l := w.rows) fun r hr => by rw [List.length_map, o.rl r hr]; exact s4
    omega
  have h2 : w.aU.length ≤ 271 := by
    unfold Wr.aU
    rw [List.length_cons]
    have := flat_len (f := fun t : T => (List.range (t.length + 1)).map fun k => t.drop k) (k := 9) (l := w.allT) fun t ht => by
      rw [List.length_map, List.length_range]
      have := (allT_wd o t ht).1
      omega
    omega
  have h3 : w.aO.length ≤ 7 := by unfold Wr.aO; simp; omega
  have h4 : ∀ a : ON, (w.aO.flatMap fun b => (w.aU.map fun r => LS.pr a b r []) ++ w.aU.map fun r => LS.pr a b [] r).length ≤ 7 * 542 := fun a => by
    have := flat_len (f := fun b : ON => (w.aU.map fun r => LS.pr a b r []) ++ w.aU.map fun r => LS.pr a b [] r) (k := 542) (l := w.aO) fun b _ => by rw [List.length_append, List.length_map, List.length_map]; omega
    have := Nat.mul_le_mul_right 542 h3
    omega
  have h5 := flat_len (f := fun a : ON => w.aO.flatMap fun b => (w.aU.map fun r => LS.pr a b r []) ++ w.aU.map fun r => LS.pr a b [] r) (k := 7 * 542) (l := w.aO) fun a _ => h4 a
  have h6 := Nat.mul_le_mul_right (7 * 542) h3
  unfold Wr.lF
  rw [List.length_append, List.length_map, List.length_range]
  omega
theorem suf_in {w : Wr} {t p u : T} (h : t ∈ w.aU) (e : t = p ++ u) : u ∈ w.aU := by
  have : u = t.drop p.length := by rw [e]; simp
  rw [this]
  exact aU_drop h _
theorem word_aU {w : Wr} {t : T} (h : t ∈ w.allT) : t ∈ w.aU := by
  have := aU_of h 0
  rwa [List.drop_zero] at this
theorem ov_in {w : Wr} {x y u v : T} (hx : x ∈ w.aU) (hy : y ∈ w.aU) (h : ov x y = some (u, v)) : (u ∈ w.aU ∧ v = []) ∨ (u = [] ∧ v ∈ w.aU) := by
  obtain ⟨h1, p, e1, e2, _⟩ := ov_some h
  rcases h1 with z | z
  · exact .inr ⟨z, suf_in hy e2⟩
  · exact .inl ⟨suf_in hx e1, z⟩
theorem lgo_in {w : Wr} (o : w.Ok) {s : LS} (h : s ∈ w.lF) : ∀ z ∈ w.lgo s, z.1 ≤ 2 ∧ z.2 ∈ w.lF := by
  cases s with
  | same st =>
    have hs := lF_same.mp h
    intro z hz
    rw [lgo_same] at hz
    rcases List.mem_append.mp hz with hz | hz
    · obtain ⟨c, hc, rfl⟩ := List.mem_map.mp hz
      obtain ⟨_, _, _, _, h4⟩ := o.at_ok hs (List.mem_range.mp hc)
      exact ⟨Nat.le_refl _, lF_same.mpr h4⟩
    · obtain ⟨p, hp, hb⟩ := List.mem_filterMap.mp hz
      obtain ⟨i1, i2⟩ := pair_in hp
      obtain ⟨a1, a2, a3⟩ := move_in o hs i1
      obtain ⟨b1, b2, b3⟩ := move_in o hs i2
      unfold lpair at hb
      cases q : ov p.1.t p.2.t with
      | none => rw [q] at hb; cases hb
      | some r =>
        obtain ⟨u, v⟩ := r
        rw [q] at hb
        cases hb
        exact ⟨by simp only; omega, lF_pr.mpr ⟨a2, b2, ov_in (word_aU a1) (word_aU b1) q⟩⟩
  | pr a b x y =>
    obtain ⟨h1, h2, h3⟩ := lF_pr.mp h
    intro z hz
    rw [lgo_pr] at hz
    split at hz
    · rename_i hc
      cases a with
      | none => simp [Wr.ofO] at hz
      | some st =>
        obtain ⟨mv, hmv, hb⟩ := List.mem_filterMap.mp hz
        obtain ⟨a1, a2, a3⟩ := move_in o (aO_mem.mp h1 st rfl) hmv
        have hx : x = [] ∧ y ∈ w.aU := by
          rcases h3 with ⟨z1, z2⟩ | z
          · rcases hc with z | z
            · exact absurd z2 z
            · exact ⟨z.1, by rw [z2]; exact aU_nil⟩
          · exact z
        unfold lgoa at hb
        rw [hx.1, List.nil_append] at hb
        cases q : ov mv.t y with
        | none => rw [q] at hb; cases hb
        | some r =>
          obtain ⟨u, v⟩ := r
          rw [q] at hb
          cases hb
          exact ⟨by simp only; omega, lF_pr.mpr ⟨a2, h2, ov_in (word_aU a1) hx.2 q⟩⟩
    · rename_i hc
      cases b with
      | none => simp [Wr.ofO] at hz
      | some st =>
        obtain ⟨mv, hmv, hb⟩ := List.mem_filterMap.mp hz
        obtain ⟨a1, a2, a3⟩ := move_in o (aO_mem.mp h2 st rfl) hmv
        have hy : y = [] := Decidable.not_not.mp fun z => hc (.inl z)
        have hx : x ∈ w.aU := by
          rcases h3 with z | z
          · exact z.1
          · rw [z.1]; exact aU_nil
        unfold lgob at hb
        rw [hy, List.nil_append] at hb
        cases q : ov x mv.t with
        | none => rw [q] at hb; cases hb
        | some r =>
          obtain ⟨u, v⟩ := r
          rw [q] at hb
          cases hb
          exact ⟨by simp only; omega, lF_pr.mpr ⟨h1, a2, ov_in hx (word_aU a1) q⟩⟩
theorem ofO_len {w : Wr} (o : w.Ok) (a : ON) : (w.ofO a).length ≤ 5 := by
  cases a with
  | none => simp [Wr.ofO]
  | some st => exact moves_len o st
theorem lgo_len {w : Wr} (o : w.Ok) (s : LS) : (w.lgo s).length ≤ 15 := by
  have s4 := o.s4
  cases s with
  | same st =>
    rw [lgo_same]
    rw [List.length_append, List.length_map, List.length_range]
    have h1 := List.length_filterMap_le lpair (pairsOf (w.moves st))
    have h2 := pairs_len (moves_len o st)
    omega
  | pr a b x y =>
    rw [lgo_pr]
    split
    · have h1 := List.length_filterMap_le (lgoa b x y) (w.ofO a)
      have h2 := ofO_len o a
      omega
    · have h1 := List.length_filterMap_le (lgob a x y) (w.ofO b)
      have h2 := ofO_len o b
      omega
end Wk

namespace Wk
open PySem PySem.Spec PyProof.Rows L2 TL DL
/-! ### a search by layers -/
section
variable {N : Type} [DecidableEq N]
def ins (S : List N) (n : N) : List N := if n ∈ S then S else S ++ [n]
def insAll (S : List N) (ns : List N) : List N := ns.foldl ins S
theorem ins_mem {S : List N} {n x : N} : x ∈ ins S n ↔ x ∈ S ∨ x = n := by
  unfold ins
  split
  · rename_i h
    constructor
    · exact .inl
    · rintro (z | z)
      · exact z
      · rw [z]; exact h
  · simp
theorem ins_nodup {S : List N} {n : N} (h : S.Nodup) : (ins S n).Nodup := by
  unfold ins
  split
  · exact h
  · rename_i hn
    rw [List.nodup_append]
    exact ⟨h, by simp, fun a ha b hb => by
      rw [List.mem_singleton.mp hb]
      exact fun z => hn (z ▸ ha)⟩
theorem ins_len {S : List N} {n : N} : S.length ≤ (ins S n).length ∧ (ins S n).length ≤ S.length + 1 := by
  unfold ins
  split <;> simp
theorem insAll_mem {x : N} : ∀ {ns S : List N}, x ∈ insAll S ns ↔ x ∈ S ∨ x ∈ ns
  | [], S => by simp [insAll]
  | n :: ns, S => by
    have ih := insAll_mem (x := x) (ns := ns) (S := ins S n)
    have e : insAll S (n :: ns) = insAll (ins S n) ns := rfl
    rw [e, ih, ins_mem, List.mem_cons, or_assoc]
theorem insAll_nodup : ∀ {ns S : List N}, S.Nodup → (insAll S ns).Nodup
  | [], S, h => h
  | n :: ns, S, h => insAll_nodup (ns := ns) (ins_nodup h)
theorem insAll_len : ∀ {ns S : List N}, S.length ≤ (insAll S ns).length ∧ (insAll S ns).length ≤ S.length + ns.length
  | [], S => by simp [insAll]
  | n :: ns, S => by
    have ih := insAll_len (ns := ns) (S := ins S n)
    have l := ins_len (S := S) (n := n)
    have e : insAll S (n :: ns) = insAll (ins S n) ns := rfl
    rw [e]
    simp only [List.length_cons]
    omega
theorem insAll_append (S a b : List N) : insAll S (a ++ b) = insAll (insAll S a) b := by simp [insAll, List.foldl_append]
theorem nodup_len : ∀ (l D : List N), l.Nodup → (∀ x ∈ l, x ∈ D) → l.length ≤ D.length
  | [], _, _, _ => Nat.zero_le _
  | x :: l, D, hn, hs => by
    obtain ⟨h1, h2⟩ := List.nodup_cons.mp hn
    have hx : x ∈ D := hs x List.mem_cons_self
    have := nodup_len l (D.erase x) h2 fun y hy => (List.mem_erase_of_ne (fun (e : y = x) => h1 (e ▸ hy))).2 (hs y (List.mem_cons_of_mem _ hy))
    have e := List.length_erase_of_mem hx
    have hp : 0 < D.length := List.length_pos_of_mem hx
    simp only [List.length_cons]
    omega
theorem insAll_grow {S ns : List N} (h : ∀ x ∈ ns, x ∉ S) (hn : ns ≠ []) : S.length < (insAll S ns).length := by
  match ns, hn with
  | n :: ns, _ =>
    have e : insAll S (n :: ns) = insAll (ins S n) ns := rfl
    have l := (insAll_len (ns := ns) (S := ins S n)).1
    have : (ins S n).length = S.length + 1 := by
      unfold ins
      rw [if_neg (h n List.mem_cons_self)]
      simp
    rw [e]
    omega
variable (g : Gr N)
/-- all that follows the nodes L -/
def Gr.after (L : List N) : List N := L.flatMap fun n => (List.range g.s).map (g.d n)
def outs (M ns : List N) : List N := ns.filter fun n => !decide (n ∈ M)
theorem outs_in {M ns : List N} {n : N} (h : n ∈ M) : outs M (n :: ns) = outs M ns := by
  unfold outs
  rw [List.filter_cons, if_neg (by simp [h])]
theorem outs_not {M ns : List N} {n : N} (h : n ∉ M) : outs M (n :: ns) = n :: outs M ns := by
  unfold outs
  rw [List.filter_cons, if_pos (by simp [h])]
theorem outs_nodup {M ns : List N} (h : ns.Nodup) : (outs M ns).Nodup := List.Pairwise.filter _ h
def Gr.next (L M : List N) : List N := outs (insAll M L) (insAll [] (g.after L))
structure Gr.LI (F : List N) (len : Nat) (L M : List N) : Prop where
  ndL : L.Nodup
  ndM : M.Nodup
  apart : ∀ n ∈ L, n ∉ M
  FL : ∀ n ∈ L, n ∈ F
  FM : ∀ n ∈ M, n ∈ F
  a : ∀ n ∈ L, ∃ ms, g.Val ms ∧ ms.length = len ∧ g.run ms = n
  b : ∀ ms, g.Val ms → ms.length < len → g.run ms ∈ M
  c : g.n0 ∈ M ∨ g.n0 ∈ L
  d : ∀ n ∈ M, ∀ c, c < g.s → g.d n c ∈ M ∨ g.d n c ∈ L
  no : ∀ n ∈ M, g.acc n = false
  lm : len ≤ M.length
variable {g}
theorem after_mem {L : List N} {x : N} : x ∈ g.after L ↔ ∃ n ∈ L, ∃ c, c < g.s ∧ g.d n c = x := by
  unfold Gr.after
  simp only [List.mem_flatMap, List.mem_map, List.mem_range]
theorem next_mem {L M : List N} {x : N} : x ∈ g.next L M ↔ x ∈ g.after L ∧ x ∉ M ∧ x ∉ L := by
  unfold Gr.next outs
  rw [List.mem_filter, insAll_mem]
  simp [insAll_mem]
theorem li_start {F : List N} (h : g.n0 ∈ F) : g.LI F 0 [g.n0] [] where
  ndL := by simp
  ndM := by simp
  apart := fun n _ z => by simp at z
  FL := fun n hn => by rw [List.mem_singleton.mp hn]; exact h
  FM := fun n hn => by simp at hn
  a := fun n hn => ⟨[], fun c hc => by simp at hc, rfl, by rw [List.mem_singleton.mp hn]; rfl⟩
  b := fun ms _ h => by omega
  c := .inr (by simp)
  d := fun n hn => by simp at hn
  no := fun n hn => by simp at hn
  lm := Nat.le_refl _
theorem li_near {F : List N} {len : Nat} {L M : List N} (I : g.LI F len L M) {ms : List Nat} (v : g.Val ms) (h : ms.length ≤ len) : g.run ms ∈ M ∨ g.run ms ∈ L := by
  rcases Nat.lt_or_ge ms.length len with z | z
  · exact .inl (I.b ms v z)
  · rcases List.eq_nil_or_concat ms with rfl | ⟨m1, c, rfl⟩
    · exact I.c
    · rw [List.concat_eq_append] at v h z ⊢
      simp only [List.length_append, List.length_singleton] at h z
      obtain ⟨v1, v2⟩ := val_init v
      rw [run_snoc]
      exact I.d _ (I.b m1 v1 (by omega)) c v2
theorem li_next {F : List N} {len : Nat} {L M : List N} (I : g.LI F len L M) (hF : ∀ n ∈ F, g.acc n = false → ∀ c, c < g.s → g.d n c ∈ F) (hno : ∀ n ∈ L, g.acc n = false) (hL : L ≠ []) : g.LI F (len + 1) (g.next L M) (insAll M L) where
  ndL := outs_nodup (insAll_nodup (by simp))
  ndM := insAll_nodup I.ndM
  apart := fun n hn z => by
    obtain ⟨_, h1, h2⟩ := next_mem.mp hn
    rcases insAll_mem.mp z with z | z
    · exact h1 z
    · exact h2 z
  FL := fun n hn => by
    obtain ⟨x, hx, c, hc, rfl⟩ := after_mem.mp (next_mem.mp hn).1
    exact hF x (I.FL x hx) (hno x hx) c hc
  FM := fun n hn => by
    rcases insAll_mem.mp hn with z | z
    · exact I.FM n z
    · exact I.FL n z
  a := fun n hn => by
    obtain ⟨x, hx, c, hc, rfl⟩ := after_mem.mp (next_mem.mp hn).1
    obtain ⟨ms, v, l, r⟩ := I.a x hx
    exact ⟨ms ++ [c], val_snoc v hc, by simp [l], by rw [run_snoc, r]⟩
  b := fun ms v h => insAll_mem.mpr (li_near I v (by omega))
  c := .inl (insAll_mem.mpr I.c)
  d := fun n hn c hc => by
    have key : g.d n c ∈ g.after L → g.d n c ∈ insAll M L ∨ g.d n c ∈ g.next L M := fun h => by
      by_cases z : g.d n c ∈ insAll M L
      · exact .inl z
      · exact .inr (next_mem.mpr ⟨h, fun q => z (insAll_mem.mpr (.inl q)), fun q => z (insAll_mem.mpr (.inr q))⟩)
    rcases insAll_mem.mp hn with z | z
    · rcases I.d n z c hc with q | q
      · exact .inl (insAll_mem.mpr (.inl q))
      · exact .inl (insAll_mem.mpr (.inr q))
    · exact key (after_mem.mpr ⟨n, z, c, hc, rfl⟩)
  no := fun n hn => by
    rcases insAll_mem.mp hn with z | z
    · exact I.no n z
    · exact hno n z
  lm := by
    have := insAll_grow (S := M) (ns := L) I.apart hL
    have := I.lm
    omega
theorem li_size {F : List N} {len : Nat} {L M : List N} (I : g.LI F len L M) : M.length + L.length ≤ F.length := by
  have := nodup_len (M ++ L) F (by
    rw [List.nodup_append]
    exact ⟨I.ndM, I.ndL, fun a ha b hb z => I.apart b hb (z ▸ ha)⟩) fun x hx => by
    rcases List.mem_append.mp hx with h | h
    · exact I.FM x h
    · exact I.FL x h
  simpa using this
theorem li_none {F : List N} {len : Nat} {M : List N} (I : g.LI F len [] M) : ∀ (k : Nat) (ms : List Nat), ms.length = k → g.Val ms → g.run ms ∈ M
  | 0, ms, hk, _ => by
    have : ms = [] := List.length_eq_zero_iff.mp hk
    subst this
    rcases I.c with h | h
    · exact h
    · simp at h
  | k + 1, ms, hk, v => by
    rcases List.eq_nil_or_concat ms with rfl | ⟨m1, c, rfl⟩
    · simp at hk
    · rw [List.concat_eq_append] at hk v ⊢
      obtain ⟨v1, v2⟩ := val_init v
      rw [run_snoc]
      rcases I.d _ (li_none I k m1 (by simpa using hk) v1) c v2 with h | h
      · exact h
      · simp at h
/-- the while loop of a search by layers -/
theorem while_layers {F : List N} (hF : ∀ n ∈ F, g.acc n = false → ∀ c, c < g.s → g.d n c ∈ F) {t : DEnv → M Bool} {body : DStm} (P : Nat → List N → List N → DEnv → Prop)
    (h1 : ∀ len L M e, P len L M e → t e = .ok (decide (0 < L.length))) (h2 : ∀ len L M e, P len L M e → g.LI F len L M → (∃ n ∈ L, g.acc n = true) → body e = .rt (.int (len : Int)))
    (h3 : ∀ len L M e, P len L M e → g.LI F len L M → (∀ n ∈ L, g.acc n = false) → ∃ e', body e = .nx e' ∧ P (len + 1) (g.next L M) (insAll M L) e') :
    ∀ (k fu len : Nat) (L M : List N) (e : DEnv), F.length + 1 - M.length ≤ k → k < fu → P len L M e → g.LI F len L M →
      (∃ due : Nat, dWhile t body fu e = .rt (.int (due : Int)) ∧ due ≤ F.length ∧ (∃ ms, g.Val ms ∧ ms.length = due ∧ g.acc (g.run ms) = true) ∧ ∀ ms, g.Val ms → g.acc (g.run ms) = true → due ≤ ms.length) ∨
      (∃ e', dWhile t body fu e = .nx e' ∧ ∀ ms, g.Val ms → g.acc (g.run ms) = false)
  | k, 0, _, _, _, _, _, hk, _, _ => by omega
  | k, fu + 1, len, L, M, e, hk2, hk, hP, I => by
    have ht := h1 len L M e hP
    have sz := li_size I
    by_cases hL : L = []
    · subst hL
      rw [decide_eq_false (by simp)] at ht
      refine .inr ⟨e, ?_, fun ms v => I.no _ (li_none I _ ms rfl v)⟩
      unfold dWhile
      rw [ht]
    · have hpos : 0 < L.length := List.length_pos_iff.mpr hL
      rw [decide_eq_true hpos] at ht
      by_cases ha : ∃ n ∈ L, g.acc n = true
      · refine .inl ⟨len, ?_, by have := I.lm; omega, ?_, fun ms v h => ?_⟩
        · unfold dWhile
          rw [ht]
          simp only [h2 len L M e hP I ha]
        · obtain ⟨n, hn, q⟩ := ha
          obtain ⟨ms, v, l, r⟩ := I.a n hn
          exact ⟨ms, v, l, by rw [r]; exact q⟩
        · rcases Nat.lt_or_ge ms.length len with z | z
          · have := I.no _ (I.b ms v z)
            rw [h] at this
            cases this
          · exact z
      · have hno : ∀ n ∈ L, g.acc n = false := fun n hn => by
          cases q : g.acc n with
          | false => rfl
          | true => exact absurd ⟨n, hn, q⟩ ha
        obtain ⟨e', hb, hP'⟩ := h3 len L M e hP I hno
        have I' := li_next I hF hno hL
        have gr := insAll_grow (S := M) (ns := L) I.apart hL
        have sz' := li_size I'
        match k, hk2 with
        | 0, hk2 => omega
        | k + 1, hk2 =>
          have ih := while_layers hF P h1 h2 h3 k fu (len + 1) _ _ e' (by omega) (by omega) hP' I'
          have e0 : dWhile t body (fu + 1) e = dWhile t body fu e' := by
            conv => lhs; unfold dWhile
            rw [ht]
            simp only [hb]
          rw [e0]
          exact ih
/-! ### sets as dicts -/
def setD (nD : N → D) (S : List N) : List (D × D) := S.map fun n => (nD n, D.bl true)
variable {nD : N → D}
theorem set_met (Q : List (N × List Nat)) : metD nD Q = setD nD (Q.map (·.1)) := by
  unfold metD setD
  rw [List.map_map]
  rfl
theorem dAt_set (inj : ∀ a b, nD a = nD b → a = b) (n : N) (S : List N) : dAt (setD nD S) (nD n) = if n ∈ S then some (D.bl true) else none := by
  have h := dAt_met inj n (S.map fun x => (x, ([] : List Nat)))
  have e1 : metD nD (S.map fun x => (x, ([] : List Nat))) = setD nD S := by
    unfold metD setD
    rw [List.map_map]
    rfl
  have e2 : (S.map fun x => (x, ([] : List Nat))).map (·.1) = S := by
    rw [List.map_map]
    exact List.map_id _
  rw [e1, e2] at h
  exact h
theorem nin_set (inj : ∀ a b, nD a = nD b → a = b) {n : N} {k : NestedKey} (hk : keyOk (nD n) = some k) (S : List N) : ninX (setD nD S) (nD n) = some (.bl (!decide (n ∈ S))) := by
  unfold ninX
  rw [hk, dAt_set inj]
  by_cases h : n ∈ S
  · rw [if_pos h, decide_eq_true h]; rfl
  · rw [if_neg h, decide_eq_false h]; rfl
theorem nin_set_in (inj : ∀ a b, nD a = nD b → a = b) {n : N} {k : NestedKey} (hk : keyOk (nD n) = some k) {S : List N} (h : n ∈ S) : ninX (setD nD S) (nD n) = some (.bl false) := by
  rw [nin_set inj hk, decide_eq_true h]; rfl
theorem nin_set_not (inj : ∀ a b, nD a = nD b → a = b) {n : N} {k : NestedKey} (hk : keyOk (nD n) = some k) {S : List N} (h : n ∉ S) : ninX (setD nD S) (nD n) = some (.bl true) := by
  rw [nin_set inj hk, decide_eq_false h]; rfl
theorem put_set (inj : ∀ a b, nD a = nD b → a = b) {n : N} {k : NestedKey} (hk : keyOk (nD n) = some k) {S : List N} (hl : S.length ≤ 50000) : putX (setD nD S) (nD n) (.bl true) = some (setD nD (ins S n)) := by
  unfold putX
  rw [hk]
  have : (setD nD S).length < sizeLine := by
    unfold setD
    rw [List.length_map]
    exact small_lt (by omega)
  simp only [Option.bind_some]
  rw [if_pos this]
  unfold dPut
  rw [dAt_set inj]
  unfold ins
  by_cases h : n ∈ S
  · rw [if_pos h, if_pos h]
    simp only [Option.isSome_some, if_true, Option.some.injEq]
    unfold setD
    rw [List.map_map]
    refine List.map_congr_left fun x _ => ?_
    simp only [Function.comp_apply]
    split <;> rfl
  · rw [if_neg h, if_neg h]
    simp [setD]
theorem keys_set (S : List N) : (setD nD S).map (·.1) = S.map nD := by
  unfold setD
  rw [List.map_map]
  rfl
theorem iKeys_ok {i : Nat} {env : DEnv} {L : List N} (h : env[i]? = some (.fdc (setD nD L))) : iKeysX i env = .ok (L.map nD) := by
  simp only [iKeysX, celF, h, M.bind, keys_set]
end
theorem insAll_self {N : Type} [DecidableEq N] : ∀ (ns S : List N), (S ++ ns).Nodup → insAll S ns = S ++ ns
  | [], S, _ => by simp [insAll]
  | n :: ns, S, h => by
    have e : insAll S (n :: ns) = insAll (ins S n) ns := rfl
    have hn : n ∉ S := fun z => by
      rw [List.nodup_append] at h
      exact h.2.2 n z n List.mem_cons_self rfl
    have i : ins S n = S ++ [n] := if_neg hn
    rw [e, i, insAll_self ns (S ++ [n]) (by rw [List.append_assoc]; exact h), List.append_assoc]
    rfl
theorem after_len {N : Type} [DecidableEq N] {g : Gr N} : ∀ L : List N, (g.after L).length = L.length * g.s
  | [] => by simp [Gr.after]
  | x :: L => by
    have ih := after_len (g := g) L
    unfold Gr.after at ih ⊢
    rw [List.flatMap_cons, List.length_append, ih, List.length_map, List.length_range, List.length_cons, Nat.succ_mul]
    omega
end Wk

namespace Wk
open PySem PySem.Spec PyProof.Rows L2 TL DL
/-! ### layers by cost -/
abbrev Lay := List (List LS)
def putL (lay : Lay) (c : Nat) (s : LS) : Lay := (padW lay c).set c (ins (row (padW lay c) c) s)
theorem len_putL (lay : Lay) (c : Nat) (s : LS) : (putL lay c s).length = max lay.length (c + 1) := by
  unfold putL
  rw [List.length_set, len_pad]
theorem row_putL (lay : Lay) (c i : Nat) (s : LS) : row (putL lay c s) i = if i = c then ins (row lay c) s else row lay i := by
  by_cases h : i = c
  · subst h
    rw [if_pos rfl]
    have hl : i < (padW lay i).length := by rw [len_pad]; omega
    show (putL lay i s).getD i [] = _
    unfold putL
    rw [List.getD_eq_getElem?_getD, List.getElem?_set_self hl, row_pad]
    rfl
  · rw [if_neg h, ← row_pad lay c i]
    show (putL lay c s).getD i [] = (padW lay c).getD i []
    unfold putL
    rw [List.getD_eq_getElem?_getD, List.getElem?_set_ne (Ne.symm h), List.getD_eq_getElem?_getD]
def putsL (lay : Lay) (c : Nat) (zs : List (Nat × LS)) : Lay := zs.foldl (fun l z => putL l (c + z.1) z.2) lay
theorem putsL_cons (lay : Lay) (c : Nat) (z : Nat × LS) (zs : List (Nat × LS)) : putsL lay c (z :: zs) = putsL (putL lay (c + z.1) z.2) c zs := rfl
theorem putsL_mem (c i : Nat) (s : LS) : ∀ (zs : List (Nat × LS)) (lay : Lay), s ∈ row (putsL lay c zs) i ↔ s ∈ row lay i ∨ ∃ z ∈ zs, c + z.1 = i ∧ z.2 = s
  | [], lay => by simp [putsL]
  | z :: zs, lay => by
    rw [putsL_cons, putsL_mem c i s zs, row_putL]
    by_cases h : i = c + z.1
    · rw [if_pos h, ins_mem, ← h]
      constructor
      · rintro ((h1 | h1) | ⟨y, h1, h2⟩)
        · exact .inl h1
        · exact .inr ⟨z, List.mem_cons_self, h.symm, h1.symm⟩
        · exact .inr ⟨y, List.mem_cons_of_mem _ h1, h2⟩
      · rintro (h1 | ⟨y, h1, h2, h3⟩)
        · exact .inl (.inl h1)
        · rcases List.mem_cons.mp h1 with rfl | h1
          · exact .inl (.inr h3.symm)
          · exact .inr ⟨y, h1, h2, h3⟩
    · rw [if_neg h]
      constructor
      · rintro (h1 | ⟨y, h1, h2⟩)
        · exact .inl h1
        · exact .inr ⟨y, List.mem_cons_of_mem _ h1, h2⟩
      · rintro (h1 | ⟨y, h1, h2, h3⟩)
        · exact .inl h1
        · rcases List.mem_cons.mp h1 with rfl | h1
          · exact absurd h2.symm h
          · exact .inr ⟨y, h1, h2, h3⟩
theorem putsL_nodup (c i : Nat) : ∀ (zs : List (Nat × LS)) (lay : Lay), (∀ i, (row lay i).Nodup) → (row (putsL lay c zs) i).Nodup
  | [], lay, h => h i
  | z :: zs, lay, h => putsL_nodup c i zs _ fun j => by
    rw [row_putL]
    split
    · exact ins_nodup (h _)
    · exact h j
theorem putsL_len {c : Nat} : ∀ (zs : List (Nat × LS)) (lay : Lay), (∀ z ∈ zs, z.1 ≤ 2) → lay.length ≤ (putsL lay c zs).length ∧ (putsL lay c zs).length ≤ max lay.length (c + 3)
  | [], lay, _ => by simp only [putsL, List.foldl_nil]; omega
  | z :: zs, lay, h => by
    have hz := h z List.mem_cons_self
    have ih := putsL_len (c := c) zs (putL lay (c + z.1) z.2) fun y hy => h y (List.mem_cons_of_mem _ hy)
    rw [len_putL] at ih
    rw [putsL_cons]
    omega
def zer (zs : List (Nat × LS)) : List LS := (zs.filter fun z => decide (z.1 = 0)).map (·.2)
theorem zer_len (zs : List (Nat × LS)) : (zer zs).length ≤ zs.length := by
  unfold zer
  rw [List.length_map]
  exact List.length_filter_le _ _
theorem zer_mem {zs : List (Nat × LS)} {s : LS} : s ∈ zer zs ↔ (0, s) ∈ zs := by
  unfold zer
  simp only [List.mem_map, List.mem_filter, decide_eq_true_eq]
  constructor
  · rintro ⟨⟨d, t⟩, ⟨h1, h2⟩, h3⟩
    simp only at h2 h3
    subst h2 h3
    exact h1
  · intro h
    exact ⟨(0, s), ⟨h, rfl⟩, rfl⟩
structure SL (w : Wr) (lay : Lay) (met : List (LS × Nat)) (todo : List LS) (c : Nat) : Prop where
  nd : (met.map (·.1)).Nodup
  inF : ∀ i, ∀ s ∈ row lay i, s ∈ w.lF
  rnd : ∀ i, (row lay i).Nodup
  metF : ∀ x ∈ met, x.1 ∈ w.lF
  snd : ∀ i, ∀ s ∈ row lay i, w.LSound i s
  tdo : ∀ s ∈ todo, s ∈ row lay c
  exp : ∀ x ∈ met, x.2 ≤ c ∧ x.1 ≠ lgoal ∧ ∀ y ∈ w.lgo x.1, y.2 ∈ row lay (x.2 + y.1)
  done : ∀ j, j < c → ∀ s ∈ row lay j, ∃ d, d ≤ j ∧ (s, d) ∈ met
  now : ∀ s ∈ row lay c, (∃ d, d ≤ c ∧ (s, d) ∈ met) ∨ s ∈ todo
  start : LS.same 0 ∈ row lay 0
  len : lay.length ≤ 1 + 2 * met.length
theorem sl_start {w : Wr} (o : w.Ok) : SL w [[.same 0]] [] (row [[.same 0]] 0) 0 where
  nd := by simp
  inF := fun i s hs => by
    cases i with
    | zero =>
      have : s = .same 0 := by simpa [row] using hs
      subst this
      exact lF_same.mpr (by have := o.r1; omega)
    | succ i => simp [row] at hs
  rnd := fun i => by
    cases i with
    | zero => simp [row]
    | succ i => simp [row]
  metF := fun x hx => by simp at hx
  snd := fun i s hs => by
    cases i with
    | zero =>
      have : s = .same 0 := by simpa [row] using hs
      subst this
      exact ⟨[], fun x hx => by simp at hx, rfl, rfl⟩
    | succ i => simp [row] at hs
  tdo := fun s hs => hs
  exp := fun x hx => by simp at hx
  done := fun j h => by omega
  now := fun s hs => .inr hs
  start := by simp [row]
  len := by simp
section
variable {w : Wr} {lay : Lay} {met : List (LS × Nat)} {todo : List LS} {c : Nat}
theorem sl_met (I : SL w lay met todo c) : met.length ≤ w.lF.length := by
  have := nodup_len (met.map (·.1)) w.lF I.nd fun x hx => by
    obtain ⟨y, hy, rfl⟩ := List.mem_map.mp hx
    exact I.metF y hy
  simpa using this
theorem sl_row (I : SL w lay met todo c) (i : Nat) : (row lay i).length ≤ w.lF.length := nodup_len _ _ (I.rnd i) (I.inF i)
theorem sl_next (I : SL w lay met [] c) : SL w lay met (row lay (c + 1)) (c + 1) :=
  { I with
    tdo := fun s hs => hs
    exp := fun x hx => by
      obtain ⟨h1, h2⟩ := I.exp x hx
      exact ⟨by omega, h2⟩
    done := fun j hj s hs => by
      by_cases z : j = c
      · subst z
        rcases I.now s hs with h | h
        · exact h
        · simp at h
      · exact I.done j (by omega) s hs
    now := fun s hs => .inr hs }
theorem sl_skip {s : LS} (I : SL w lay met (todo ++ [s]) c) (hm : s ∈ met.map (·.1)) : SL w lay met todo c :=
  { I with
    tdo := fun t ht => I.tdo t (List.mem_append_left _ ht)
    now := fun t ht => by
      rcases I.now t ht with h | h
      · exact .inl h
      · rcases List.mem_append.mp h with h | h
        · exact .inr h
        · rw [List.mem_singleton.mp h]
          obtain ⟨x, hx, hk⟩ := List.mem_map.mp hm
          exact .inl ⟨x.2, (I.exp x hx).1, by rw [← hk]; exact hx⟩ }
theorem sl_new (o : w.Ok) {s : LS} (I : SL w lay met (todo ++ [s]) c) (hm : s ∉ met.map (·.1)) (hg : s ≠ lgoal) :
    SL w (putsL lay c (w.lgo s)) (met ++ [(s, c)]) (todo ++ zer (w.lgo s)) c := by
  have hin := I.tdo s (by simp)
  have hF := I.inF c s hin
  have hS := I.snd c s hin
  have sx := lgo_in o hF
  have hcl : c < lay.length := by
    rcases Nat.lt_or_ge c lay.length with z | z
    · exact z
    · rw [row_beyond z] at hin
      simp at hin
  have old : ∀ j t, t ∈ row lay j → t ∈ row (putsL lay c (w.lgo s)) j := fun j t h => (putsL_mem c j t _ lay).mpr (.inl h)
  exact {
    nd := by
      rw [List.map_append, List.nodup_append]
      refine ⟨I.nd, by simp, fun a ha b hb => ?_⟩
      simp only [List.map_cons, List.map_nil, List.mem_singleton] at hb
      subst hb
      exact fun z => hm (z ▸ ha)
    inF := fun j t h => by
      rcases (putsL_mem c j t _ lay).mp h with h | ⟨z, hz, _, rfl⟩
      · exact I.inF j t h
      · exact (sx z hz).2
    rnd := fun j => putsL_nodup c j _ lay I.rnd
    metF := fun x hx => by
      rcases List.mem_append.mp hx with hx | hx
      · exact I.metF x hx
      · rw [List.mem_singleton.mp hx]; exact hF
    snd := fun j t h => by
      rcases (putsL_mem c j t _ lay).mp h with h | ⟨z, hz, rfl, rfl⟩
      · exact I.snd j t h
      · exact lsound_go hS z hz
    tdo := fun t ht => by
      rcases List.mem_append.mp ht with h | h
      · exact old c t (I.tdo t (List.mem_append_left _ h))
      · exact (putsL_mem c c t _ lay).mpr (.inr ⟨(0, t), zer_mem.mp h, by simp, rfl⟩)
    exp := fun x hx => by
      rcases List.mem_append.mp hx with hx | hx
      · obtain ⟨h1, h2, h3⟩ := I.exp x hx
        exact ⟨h1, h2, fun y hy => old _ _ (h3 y hy)⟩
      · rw [List.mem_singleton.mp hx]
        exact ⟨Nat.le_refl _, hg, fun y hy => (putsL_mem c _ _ _ lay).mpr (.inr ⟨y, hy, rfl, rfl⟩)⟩
    done := fun j hj t h => by
      rcases (putsL_mem c j t _ lay).mp h with h | ⟨z, hz, h1, _⟩
      · obtain ⟨d, h3, h4⟩ := I.done j hj t h
        exact ⟨d, h3, List.mem_append_left _ h4⟩
      · omega
    now := fun t h => by
      rcases (putsL_mem c c t _ lay).mp h with h | ⟨z, hz, h1, rfl⟩
      · rcases I.now t h with ⟨d, h3, h4⟩ | h3
        · exact .inl ⟨d, h3, List.mem_append_left _ h4⟩
        · rcases List.mem_append.mp h3 with h3 | h3
          · exact .inr (List.mem_append_left _ h3)
          · rw [List.mem_singleton.mp h3]
            exact .inl ⟨c, Nat.le_refl _, List.mem_append_right _ (by simp)⟩
      · refine .inr (List.mem_append_right _ (zer_mem.mpr ?_))
        have e : z.1 = 0 := by omega
        obtain ⟨d, t⟩ := z
        simp only at e
        subst e
        exact hz
    start := old 0 _ I.start
    len := by
      have := (putsL_len (c := c) (w.lgo s) lay fun z hz => (sx z hz).1).2
      have := I.len
      rw [List.length_append, List.length_singleton]
      omega }
theorem sl_reach (I : SL w lay met todo c) {C : Nat} (hC : ∀ j, j < C → ∀ s ∈ row lay j, ∃ d, d ≤ j ∧ (s, d) ∈ met) {k : Nat} {n : LS} (h : w.LRch k n) : k < C → ∃ d, d ≤ k ∧ (n, d) ∈ met := by
  induction h with
  | z =>
    intro hk
    exact hC 0 hk _ I.start
  | @s k n d n' _ hs ih =>
    intro hk
    obtain ⟨d', h1, h2⟩ := ih (by omega)
    have := (I.exp _ h2).2.2 _ hs
    simp only at this
    obtain ⟨d2, h3, h4⟩ := hC (d' + d) (by omega) _ this
    exact ⟨d2, by omega, h4⟩
/-- the least count of signs of two messages that are written alike -/
def Least (w : Wr) (c : Nat) : Prop := (∃ m n, Msg w m ∧ Msg w n ∧ m ≠ n ∧ w.text m = w.text n ∧ c = m.length + n.length) ∧ ∀ m n, Msg w m → Msg w n → m ≠ n → w.text m = w.text n → c ≤ m.length + n.length
theorem sl_found (I : SL w lay met (todo ++ [lgoal]) c) : Least w c := by
  refine ⟨lsound_goal (I.snd c _ (I.tdo _ (by simp))), fun m n a b d e => ?_⟩
  have r := lrch_alike a b d e
  rcases Nat.lt_or_ge (m.length + n.length) c with z | z
  · obtain ⟨d, _, hd⟩ := sl_reach I I.done r z
    exact absurd rfl (I.exp _ hd).2.1
  · exact z
theorem sl_none (I : SL w lay met todo c) (h : lay.length ≤ c) : ∀ m n, Msg w m → Msg w n → m ≠ n → w.text m ≠ w.text n := fun m n a b d e => by
  have r := lrch_alike a b d e
  obtain ⟨d, _, hd⟩ := sl_reach I (C := m.length + n.length + 1) (fun j hj s hs => by
    by_cases z : j < c
    · exact I.done j z s hs
    · rw [row_beyond (by omega)] at hs
      simp at hs) r (by omega)
  exact absurd rfl (I.exp _ hd).2.1
end
end Wk

namespace Wk
open PySem PySem.Spec PyProof.Rows L2 TL DL
/-! ### as data -/
def oND : ON → D
  | none => .non
  | some n => .int (n : Int)
def mvD (v : Mv) : D := .tup [mD v.g, tD v.t, oND v.o]
def sptD (a b : ON) (r : T) : D := .tup [oND a, oND b, tD r]
def anD : AN → D
  | .com st => .int (st : Int)
  | .spt a b r => sptD a b r
def aeD : AE → D
  | .com st m => .tup [.int (st : Int), mD m]
  | .spt a b r m n => .tup [sptD a b r, mD m, mD n]
def restD : Option (Bool × T) → D
  | none => .non
  | some x => .tup [.bl x.1, tD x.2]
@[simp] theorem mv0 (v : Mv) : ixAD (mvD v) (.int 0) = some (mD v.g) := rfl
@[simp] theorem mv1 (v : Mv) : ixAD (mvD v) (.int 1) = some (tD v.t) := rfl
@[simp] theorem mv2 (v : Mv) : ixAD (mvD v) (.int 2) = some (oND v.o) := rfl
@[simp] theorem sp0 (a b : ON) (r : T) : ixAD (sptD a b r) (.int 0) = some (oND a) := rfl
@[simp] theorem sp1 (a b : ON) (r : T) : ixAD (sptD a b r) (.int 1) = some (oND b) := rfl
@[simp] theorem sp2 (a b : ON) (r : T) : ixAD (sptD a b r) (.int 2) = some (tD r) := rfl
@[simp] theorem rs0 (x : Bool × T) : ixAD (restD (some x)) (.int 0) = some (.bl x.1) := rfl
@[simp] theorem rs1 (x : Bool × T) : ixAD (restD (some x)) (.int 1) = some (tD x.2) := rfl
theorem oND_inj {a b : ON} (h : oND a = oND b) : a = b := by
  cases a <;> cases b <;> simp [oND] at h ⊢
  omega
theorem anD_inj (a b : AN) (h : anD a = anD b) : a = b := by
  cases a with
  | com x => cases b with
    | com y =>
      simp only [anD, D.int.injEq] at h
      have : x = y := by omega
      rw [this]
    | spt a b r => simp [anD, sptD] at h
  | spt a1 b1 r1 => cases b with
    | com y => simp [anD, sptD] at h
    | spt a' b' r' =>
      simp only [anD, sptD, D.tup.injEq, List.cons.injEq, tD_inj, and_true] at h
      rw [oND_inj h.1, oND_inj h.2.1, h.2.2]
theorem anD_key (n : AN) : ∃ k, keyOk (anD n) = some k := by
  cases n with
  | com st => exact ⟨_, rfl⟩
  | spt a b r =>
    cases a <;> cases b <;> exact ⟨_, by simp [anD, sptD, oND, keyOk, keyDs, keyD, tD, NestedKey.depth, NestedKey.depthAll]; rfl⟩
theorem isN_o (o : ON) : isND (oND o) .non = some (.bl (decide (o = none))) := by cases o <;> rfl
theorem isNN_o (o : ON) : isNND (oND o) .non = some (.bl (!decide (o = none))) := by cases o <;> rfl
theorem isN_rest (x : Option (Bool × T)) : isND (restD x) .non = some (.bl (decide (x = none))) := by cases x <;> rfl
theorem isNN_rest (x : Option (Bool × T)) : isNND (restD x) .non = some (.bl (!decide (x = none))) := by cases x <;> rfl
theorem add_mm {m n : List Nat} (h : m.length + n.length ≤ 100000) : addD (mD m) (mD n) = some (mD (m ++ n)) := by
  have : (m.map fun (m : Nat) => D.int (m : Int)).length + (n.map fun (m : Nat) => D.int (m : Int)).length ≤ sizeLine := small_line (by simp; omega)
  show (if (m.map fun (m : Nat) => D.int (m : Int)).length + (n.map fun (m : Nat) => D.int (m : Int)).length ≤ sizeLine then some (D.lst ((m.map fun (m : Nat) => D.int (m : Int)) ++ (n.map fun (m : Nat) => D.int (m : Int)))) else none) = _
  rw [if_pos this]
  simp [mD]
theorem lenmD (m : List Nat) : lenD [mD m] = some (.int m.length) := by simp [mD, lenD]
theorem eq_nilT (t : T) : eqD (tD t) (.str "") = some (.bl (decide (t = []))) := by
  rw [nil_tD]
  have : eqD (tD t) (tD []) = some (.bl (decide (tD t = tD []))) := eqD_eq (by simp [tD, scalD])
  rw [this]
  simp only [tD_inj]
/-! ### rest_of, moves_of, starts_of, after_move -/
theorem rest_of_eq {x y : T} (hx : x.length ≤ 1000) (hy : y.length ≤ 1000) : f_rest_of [tD x, tD y] = .ok (restD (restOf x y)) := by
  have e : f_rest_of [tD x, tD y] = fnRes (r_rest_of [.dat (tD x), .dat (tD y)]) := rfl
  rw [e]
  have hr : r_rest_of [.dat (tD x), .dat (tD y)] = .rt (restD (restOf x y)) := by
    have c1 := cut_tD (show x.length ≤ 100000 by omega) none (some (y.length : Int))
    have c2 := cut_tD (show y.length ≤ 100000 by omega) none (some (x.length : Int))
    have c3 := cut_tD (show x.length ≤ 100000 by omega) (some (y.length : Int)) none
    have c4 := cut_tD (show y.length ≤ 100000 by omega) (some (x.length : Int)) none
    rw [cutL_take] at c1 c2
    rw [cutL_drop] at c3 c4
    have l1 := len_tD (show x.length ≤ 100000 by omega)
    have l2 := len_tD (show y.length ≤ 100000 by omega)
    unfold restOf
    by_cases h1 : x.take y.length = y
    · rw [if_pos h1]
      simp [r_rest_of, l1, l2, c1, c3, h1, small_line, restD]
    · rw [if_neg h1]
      by_cases h2 : y.take x.length = x
      · rw [if_pos h2]
        simp [r_rest_of, l1, l2, c1, c2, c4, h1, h2, small_line, restD]
      · rw [if_neg h2]
        simp [r_rest_of, l1, l2, c1, c2, h1, h2, restD]
  rw [hr]
  rfl
theorem moves_loop {w : Wr} (o : w.Ok) {st : Nat} (hs : st < w.rows.length) : ∀ (cs : List Nat) (acc : List Mv) (c3 c4 c5 : Cel), (∀ c ∈ cs, c < w.signs) → acc.length + cs.length ≤ 1000 →
    ∃ c3' c4' c5', dLoop (gN 3) r_moves_of_b1 (cs.map fun (c : Nat) => D.int (c : Int)) [.dat (wrD w), .dat (.int st), .own (acc.map mvD), c3, c4, c5] =
      .nx [.dat (wrD w), .dat (.int st), .own ((acc ++ cs.map fun c => (⟨[c], (w.at st c).1, some (w.at st c).2⟩ : Mv)).map mvD), c3', c4', c5']
  | [], acc, c3, c4, c5, _, _ => ⟨c3, c4, c5, by simp⟩
  | c :: cs, acc, c3, c4, c5, h, hl => by
    simp only [List.length_cons] at hl
    have hc := h c List.mem_cons_self
    obtain ⟨r, h1, h2, h3, h4⟩ := o.at_ok hs hc
    obtain ⟨x3, x4, x5, e⟩ := moves_loop o hs cs (acc ++ [⟨[c], (w.at st c).1, some (w.at st c).2⟩]) (.dat (.int c)) (.dat (tD (w.at st c).1)) (.dat (.int (w.at st c).2)) (fun x hx => h x (List.mem_cons_of_mem _ hx)) (by simp; omega)
    have big : acc.length < sizeLine := small_lt (by omega)
    refine ⟨x3, x4, x5, dLoop_step (e1 := [.dat (wrD w), .dat (.int st), .own (acc.map mvD), .dat (.int c), c4, c5]) rfl ?_ (e.trans (by simp))⟩
    simp [r_moves_of_b1, ix_rows h1, ix_row h2, pairD, small_line, big]
    rfl
theorem moves_eq {w : Wr} (o : w.Ok) {st : Nat} (hs : st < w.rows.length) : f_moves_of [wrD w, .int st] = .ok (.lst ((w.moves st).map mvD)) := by
  have e : f_moves_of [wrD w, .int st] = fnRes (r_moves_of [.dat (wrD w), .dat (.int st), .un, .un, .un, .un]) := rfl
  rw [e]
  have s4 := o.s4
  obtain ⟨f1, f2⟩ := o.fin_ok hs
  obtain ⟨x3, x4, x5, l⟩ := moves_loop o hs (List.range w.signs) [⟨[], w.fin st, none⟩] .un .un .un (fun c hc => List.mem_range.mp hc) (by simp; omega)
  have hr : r_moves_of [.dat (wrD w), .dat (.int st), .un, .un, .un, .un] = .rt (.lst ((w.moves st).map mvD)) := by
    unfold r_moves_of
    refine sSeq_nx (e1 := [.dat (wrD w), .dat (.int st), .own [mvD ⟨[], w.fin st, none⟩], .un, .un, .un]) (by
      have q : D.tup [.lst [], tD (w.fin st), .non] = mvD ⟨[], w.fin st, none⟩ := rfl
      simp [ix_ends f1, small_line, q]) ?_
    refine sSeq_nx (sFor_ok (iRng_ok (ds := [.int (w.signs : Int)]) (by simp) (rng1_nat (by omega))) l) ?_
    simp [Wr.moves]
  rw [hr]
  rfl
def tkB {α : Type} (l : List α) (k : Nat) : List (α × α) := match l[k]? with
  | some b => (l.take k).map fun a => (a, b)
  | none => []
theorem tkB_eq {α : Type} {l : List α} {k : Nat} {b : α} (h : l[k]? = some b) : tkB l k = (l.take k).map fun a => (a, b) := by
  unfold tkB
  rw [h]
theorem pairs_eq {α : Type} (l : List α) : pairsOf l = (List.range l.length).flatMap (tkB l) := by
  cases l with
  | nil => rfl
  | cons a l => rfl
def pD (p : Mv × Mv) : D := .tup [mvD p.1, mvD p.2]
def mv00 : Mv := ⟨[], [], none⟩
theorem starts_in {l : List Mv} {b : Mv} {k : Nat} (hb : l[k]? = some b) (c0 c1 : Cel) : ∀ (js : List Nat) (acc : List (Mv × Mv)) (c5 : Cel), (∀ j ∈ js, j < l.length) → acc.length + js.length ≤ 10000 →
    ∃ c5', dLoop (gN 5) r_starts_of_b1 (js.map fun (j : Nat) => D.int (j : Int)) [c0, c1, .dat (.lst (l.map mvD)), .own (acc.map pD), .dat (.int k), c5] =
      .nx [c0, c1, .dat (.lst (l.map mvD)), .own ((acc ++ js.map fun j => (l.getD j mv00, b)).map pD), .dat (.int k), c5']
  | [], acc, c5, _, _ => ⟨c5, by simp⟩
  | j :: js, acc, c5, h, hl => by
    simp only [List.length_cons] at hl
    have hj := h j List.mem_cons_self
    obtain ⟨x5, e⟩ := starts_in hb c0 c1 js (acc ++ [(l.getD j mv00, b)]) (.dat (.int j)) (fun x hx => h x (List.mem_cons_of_mem _ hx)) (by simp; omega)
    have big : acc.length < sizeLine := small_lt (by omega)
    have ij : ixAD (.lst (l.map mvD)) (.int (j : Int)) = some (mvD (l.getD j mv00)) := by
      show atI (l.map mvD) (j : Int) = _
      rw [atI_nat', List.getElem?_map, List.getD_eq_getElem?_getD, List.getElem?_eq_getElem hj]
      rfl
    have ik : ixAD (.lst (l.map mvD)) (.int (k : Int)) = some (mvD b) := by
      show atI (l.map mvD) (k : Int) = _
      rw [atI_nat', List.getElem?_map, hb]
      rfl
    refine ⟨x5, dLoop_step (e1 := [c0, c1, .dat (.lst (l.map mvD)), .own (acc.map pD), .dat (.int k), .dat (.int j)]) rfl ?_ (e.trans (by simp))⟩
    have q : D.tup [mvD (l.getD j mv00), mvD b] = pD (l.getD j mv00, b) := rfl
    generalize l.getD j mv00 = a at ij q ⊢
    simp [r_starts_of_b1, ij, ik, small_line, big, q]
theorem starts_out {l : List Mv} (hl4 : l.length ≤ 5) (c0 c1 : Cel) : ∀ (ks : List Nat) (acc : List (Mv × Mv)) (c4 c5 : Cel), (∀ k ∈ ks, k < l.length) → acc.length + 5 * ks.length ≤ 10000 →
    ∃ c4' c5', dLoop (gN 4) r_starts_of_b2 (ks.map fun (k : Nat) => D.int (k : Int)) [c0, c1, .dat (.lst (l.map mvD)), .own (acc.map pD), c4, c5] =
      .nx [c0, c1, .dat (.lst (l.map mvD)), .own ((acc ++ ks.flatMap (tkB l)).map pD), c4', c5']
  | [], acc, c4, c5, _, _ => ⟨c4, c5, by simp⟩
  | k :: ks, acc, c4, c5, h, hl => by
    simp only [List.length_cons] at hl
    have hk := h k List.mem_cons_self
    have hb : l[k]? = some l[k] := List.getElem?_eq_getElem hk
    obtain ⟨x5, e1⟩ := starts_in hb c0 c1 (List.range k) acc c5 (fun j hj => by have := List.mem_range.mp hj; omega) (by simp; omega)
    have tk : (List.range k).map (fun j => (l.getD j mv00, l[k])) = (l.take k).map fun a => (a, l[k]) := by
      refine List.ext_getElem (by simp; omega) fun i h1 h2 => ?_
      simp only [List.length_map, List.length_range] at h1
      simp only [List.getElem_map, List.getElem_range, List.getElem_take, List.getD_eq_getElem?_getD]
      rw [List.getElem?_eq_getElem (by omega)]
      rfl
    rw [tk] at e1
    obtain ⟨y4, y5, e⟩ := starts_out hl4 c0 c1 ks (acc ++ (l.take k).map fun a => (a, l[k])) (.dat (.int k)) x5 (fun x hx => h x (List.mem_cons_of_mem _ hx)) (by simp; omega)
    refine ⟨y4, y5, dLoop_step (e1 := [c0, c1, .dat (.lst (l.map mvD)), .own (acc.map pD), .dat (.int k), c5]) rfl ?_ (e.trans ?_)⟩
    · unfold r_starts_of_b2
      exact sFor_ok (iRng_ok (ds := [.int (k : Int)]) (by simp) (rng1_nat (by omega))) e1
    · rw [List.flatMap_cons, tkB_eq hb, List.append_assoc]
theorem starts_eq {w : Wr} (o : w.Ok) {st : Nat} (hs : st < w.rows.length) : f_starts_of [wrD w, .int st] = .ok (.lst ((pairsOf (w.moves st)).map pD)) := by
  have e : f_starts_of [wrD w, .int st] = fnRes (r_starts_of [.dat (wrD w), .dat (.int st), .un, .un, .un, .un]) := rfl
  rw [e]
  have ml := moves_len o st
  have mv := moves_eq o hs
  obtain ⟨x4, x5, l⟩ := starts_out ml (.dat (wrD w)) (.dat (.int st)) (List.range (w.moves st).length) [] .un .un (fun k hk => List.mem_range.mp hk) (by simp; omega)
  have hr : r_starts_of [.dat (wrD w), .dat (.int st), .un, .un, .un, .un] = .rt (.lst ((pairsOf (w.moves st)).map pD)) := by
    unfold r_starts_of
    refine sSeq_nx (sSet_ok (d := .lst ((w.moves st).map mvD)) (by simp [mv]) rfl) ?_
    have ln : lenD [.lst ((w.moves st).map mvD)] = some (.int ((w.moves st).length : Int)) := by simp [lenD]
    rw [List.nil_append, ← pairs_eq] at l
    generalize w.moves st = ms at l ln ml ⊢
    simp only [List.set]
    refine sSeq_nx (e1 := [.dat (wrD w), .dat (.int st), .dat (.lst (ms.map mvD)), .own [], .un, .un]) (by simp [small_line]) ?_
    refine sSeq_nx (sFor_ok (iRng_ok (ds := [.int (ms.length : Int)]) (by simp [ln]) (rng1_nat (by omega))) l) ?_
    simp
  rw [hr]
  rfl
def afterD : Option ((ON × ON × T) × Bool) → D
  | none => .non
  | some x => .tup [sptD x.1.1 x.1.2.1 x.1.2.2, .bl x.2]
theorem after_eq {a b : ON} {r : T} {v : Mv} (hr : r.length ≤ 1000) (hv : v.t.length ≤ 1000) : f_after_move [sptD a b r, mvD v] = .ok (afterD (afterM b r v)) := by
  have e : f_after_move [sptD a b r, mvD v] = fnRes (r_after_move [.dat (sptD a b r), .dat (mvD v), .un]) := rfl
  rw [e]
  have rs := rest_of_eq hr hv
  have hr : r_after_move [.dat (sptD a b r), .dat (mvD v), .un] = .rt (afterD (afterM b r v)) := by
    unfold r_after_move
    refine sSeq_nx (sSet_ok (d := restD (restOf r v.t)) (by simp [rs]) rfl) ?_
    simp only [List.set]
    unfold afterM
    cases q : restOf r v.t with
    | none =>
      have i1 := isN_rest none
      simp [i1, afterD]
    | some x =>
      obtain ⟨f, r'⟩ := x
      have i1 := isN_rest (some (f, r'))
      refine sSeq_nx (e1 := [.dat (sptD a b r), .dat (mvD v), .dat (restD (some (f, r')))]) (by simp [i1]) ?_
      cases f with
      | true =>
        show _ = DOut.rt (afterD (if r' = [] ∧ v.o = none then some ((b, none, []), true) else some ((v.o, b, r'), false)))
        by_cases z : r' = []
        · by_cases y : v.o = none
          · rw [if_pos ⟨z, y⟩]
            simp [eq_nilT, z, isN_o, y, small_line, nil_tD, afterD]
            rfl
          · rw [if_neg (fun h => y h.2)]
            simp [eq_nilT, z, isN_o, y, small_line, afterD]
            rfl
        · rw [if_neg (fun h => z h.1)]
          simp [eq_nilT, z, isN_o, small_line, afterD]
          rfl
      | false =>
        simp [small_line, afterD]
        rfl
  rw [hr]
  rfl
/-! ### put -/
theorem big_lt {n : Nat} (h : n ≤ 900000) : n < sizeLine := Nat.lt_of_lt_of_le (by omega) line_big
theorem put_pad {c : Nat} {d : D} (p : Addr) : ∀ (k fu : Nat) (wt : WtL), k < fu → c + 1 - wt.length ≤ k → c + 1 ≤ 500000 →
    dWhile2 (tE2 (xOp2 leD (xLen0) (fun _ => xVar 1))) r_put_b1 fu wt [.exc p, .dat (.int c), .dat d] = .nx (padW wt c) [.exc p, .dat (.int c), .dat d]
  | k, 0, wt, h, _, _ => by omega
  | k, fu + 1, wt, h, hk, hc => by
    have test : (tE2 (xOp2 leD (xLen0) (fun _ => xVar 1))) wt [.exc p, .dat (.int c), .dat d] = .ok (decide (wt.length ≤ c)) := by
      simp
    unfold dWhile2
    rw [test]
    by_cases hl : wt.length ≤ c
    · rw [decide_eq_true hl]
      have big : wt.length < sizeLine := big_lt (by omega)
      have hb : r_put_b1 wt [.exc p, .dat (.int c), .dat d] = .nx (wt ++ [[]]) [.exc p, .dat (.int c), .dat d] := by
        show (if wt.length < sizeLine then DOut2.nx (wt ++ [[]]) _ else .no) = _
        rw [if_pos big]
      simp only [hb]
      match k, hk with
      | 0, hk => omega
      | k + 1, hk =>
        rw [put_pad p k fu (wt ++ [[]]) (by omega) (by simp; omega) hc]
        have : padW (wt ++ [[]]) c = padW wt c := by
          unfold padW
          rw [List.length_append, List.length_singleton]
          have e : c + 1 - wt.length = (c + 1 - (wt.length + 1)) + 1 := by omega
          rw [e, List.replicate_succ, List.append_assoc]
          rfl
        rw [this]
    · rw [decide_eq_false hl]
      have : padW wt c = wt := by
        unfold padW
        have e : c + 1 - wt.length = 0 := by omega
        rw [e]
        simp
      rw [this]
theorem put_eq {c : Nat} {d : D} {wt : WtL} (hc : c ≤ 90000) (hr : (row wt c).length ≤ 900000) : f_put [.int c, d] wt = .ok (putW wt c d) := by
  refine fnN_eq fun p => ⟨[.exc p, .dat (.int c), .dat d], ?_⟩
  show r_put wt [.exc p, .dat (.int c), .dat d] = _
  have pp := put_pad (c := c) (d := d) p (c + 1) fuel wt (Nat.lt_trans (show c + 1 < 100000 by omega) fuel_big) (by omega) (by omega)
  unfold r_put
  simp only [sSeq2, pp, DOut2.then]
  have hl : c < (padW wt c).length := by rw [len_pad]; omega
  have ap : appRow (padW wt c) (.int c) d = some (putW wt c d) := by
    have e1 : ixN (padW wt c).length (c : Int) = some c := by
      unfold ixN
      rw [if_pos (by omega), if_pos (by omega)]
      simp
    have e2 : (padW wt c)[c]? = some (row (padW wt c) c) := by
      unfold row
      rw [List.getD_eq_getElem?_getD, List.getElem?_eq_getElem hl]
      rfl
    unfold appRow
    simp only [e1, Option.bind_some, e2]
    rw [row_pad, if_pos (big_lt hr)]
    unfold putW
    rw [row_pad]
  simp [ap]
end Wk

namespace Wk
open PySem PySem.Spec PyProof.Rows L2 TL DL
/-! ### as data -/
def lsD : LS → D
  | .same st => .tup [.str "same", .int (st : Int)]
  | .pr a b x y => .tup [.tup [oND a, oND b], .tup [tD x, tD y]]
def goD (z : Nat × LS) : D := .tup [.int (z.1 : Int), lsD z.2]
def mvL (v : Mv) : D := .tup [.int (v.g.length : Int), tD v.t, oND v.o]
theorem same_tD : (D.str "same") = tD [115, 97, 109, 101] := by
  unfold tD; congr 1
theorem lsD_inj (a b : LS) (h : lsD a = lsD b) : a = b := by
  cases a with
  | same x => cases b with
    | same y =>
      simp only [lsD, D.tup.injEq, List.cons.injEq, D.int.injEq, and_true, true_and] at h
      have : x = y := by omega
      rw [this]
    | pr a b x y => simp [lsD] at h
  | pr a1 b1 x1 y1 => cases b with
    | same y => simp [lsD] at h
    | pr a' b' x' y' =>
      simp only [lsD, D.tup.injEq, List.cons.injEq, tD_inj, and_true] at h
      rw [oND_inj h.1.1, oND_inj h.1.2, h.2.1, h.2.2]
theorem lsD_key (n : LS) : ∃ k, keyOk (lsD n) = some k := by
  cases n with
  | same st => exact ⟨_, by simp [lsD, keyOk, keyDs, keyD, NestedKey.depth, NestedKey.depthAll]; rfl⟩
  | pr a b x y =>
    cases a <;> cases b <;> exact ⟨_, by simp [lsD, oND, keyOk, keyDs, keyD, tD, NestedKey.depth, NestedKey.depthAll]; rfl⟩
theorem lover_eq {x y : T} (hx : x.length ≤ 1000) (hy : y.length ≤ 1000) : f__law_over [tD x, tD y] = .ok (ovD (ov x y)) := by
  have e : f__law_over [tD x, tD y] = fnRes (r__law_over [.dat (tD x), .dat (tD y)]) := rfl
  rw [e]
  have hr : r__law_over [.dat (tD x), .dat (tD y)] = .rt (ovD (ov x y)) := by
    have c1 := cut_tD (show x.length ≤ 100000 by omega) none (some (y.length : Int))
    have c2 := cut_tD (show y.length ≤ 100000 by omega) none (some (x.length : Int))
    have c3 := cut_tD (show x.length ≤ 100000 by omega) (some (y.length : Int)) none
    have c4 := cut_tD (show y.length ≤ 100000 by omega) (some (x.length : Int)) none
    rw [cutL_take] at c1 c2
    rw [cutL_drop] at c3 c4
    have l1 := len_tD (show x.length ≤ 100000 by omega)
    have l2 := len_tD (show y.length ≤ 100000 by omega)
    unfold ov
    by_cases h1 : x.take y.length = y
    · rw [if_pos h1]
      simp [r__law_over, l1, l2, c1, c3, h1, small_line, nil_tD, ovD]
    · rw [if_neg h1]
      by_cases h2 : y.take x.length = x
      · rw [if_pos h2]
        simp [r__law_over, l1, l2, c1, c2, c4, h1, h2, small_line, nil_tD, ovD]
      · rw [if_neg h2]
        simp [r__law_over, l1, l2, c1, c2, h1, h2, ovD]
  rw [hr]
  rfl
theorem row_at {w : Wr} (o : w.Ok) {st : Nat} {r : List (T × Nat)} (h : w.rows[st]? = some r) : r = (List.range w.signs).map (w.at st) := by
  have hs : st < w.rows.length := (List.getElem?_eq_some_iff.mp h).1
  have hl := o.rl r (List.mem_of_getElem? h)
  refine List.ext_getElem (by simp [hl]) fun i h1 h2 => ?_
  have hi : i < w.signs := by omega
  obtain ⟨r', a1, a2, _⟩ := o.at_ok hs hi
  rw [h] at a1
  cases a1
  rw [List.getElem?_eq_getElem h1] at a2
  simpa using Option.some.inj a2
/-! ### _law_moves -/
theorem lmoves_loop (a b : Cel) : ∀ (r : List (T × Nat)) (acc : List D) (c3 c4 : Cel), acc.length + r.length ≤ 1000 →
    ∃ c3' c4', dLoop (gT (gsCons (gN 3) (gsCons (gN 4) (gsNil)))) r__law_moves_b1 (r.map pairD) [a, b, .own acc, c3, c4] = .nx [a, b, .own (acc ++ r.map fun p => D.tup [.int 1, tD p.1, .int (p.2 : Int)]), c3', c4']
  | [], acc, c3, c4, _ => ⟨c3, c4, by simp⟩
  | p :: r, acc, c3, c4, hl => by
    simp only [List.length_cons] at hl
    obtain ⟨x3, x4, e⟩ := lmoves_loop a b r (acc ++ [.tup [.int 1, tD p.1, .int (p.2 : Int)]]) (.dat (tD p.1)) (.dat (.int p.2)) (by simp; omega)
    have big : acc.length < sizeLine := small_lt (by omega)
    refine ⟨x3, x4, dLoop_step (e1 := [a, b, .own acc, .dat (tD p.1), .dat (.int p.2)]) rfl ?_ (e.trans (by simp))⟩
    simp [r__law_moves_b1, small_line, big]
theorem lmoves_eq {w : Wr} (o : w.Ok) {st : Nat} (hs : st < w.rows.length) : f__law_moves [wrD w, .int st] = .ok (.lst ((w.moves st).map mvL)) := by
  have e : f__law_moves [wrD w, .int st] = fnRes (r__law_moves [.dat (wrD w), .dat (.int st), .un, .un, .un]) := rfl
  rw [e]
  have s4 := o.s4
  obtain ⟨f1, f2⟩ := o.fin_ok hs
  obtain ⟨r, h1, h2⟩ := o.row_ok hs
  have ra := row_at o h1
  have rl := o.rl r (List.mem_of_getElem? h1)
  obtain ⟨x3, x4, l⟩ := lmoves_loop (.dat (wrD w)) (.dat (.int st)) r [mvL ⟨[], w.fin st, none⟩] .un .un (by simp; omega)
  have em : [mvL ⟨[], w.fin st, none⟩] ++ r.map (fun p => D.tup [.int 1, tD p.1, .int (p.2 : Int)]) = (w.moves st).map mvL := by
    rw [ra, List.map_map]
    unfold Wr.moves
    rw [List.map_cons, List.map_map]
    rfl
  rw [em] at l
  have hr : r__law_moves [.dat (wrD w), .dat (.int st), .un, .un, .un] = .rt (.lst ((w.moves st).map mvL)) := by
    unfold r__law_moves
    refine sSeq_nx (e1 := [.dat (wrD w), .dat (.int st), .own [mvL ⟨[], w.fin st, none⟩], .un, .un]) (by
      have q : D.tup [.int 0, tD (w.fin st), .non] = mvL ⟨[], w.fin st, none⟩ := rfl
      simp [ix_ends f1, small_line, q]) ?_
    generalize (w.moves st).map mvL = ms at l
    refine sSeq_nx (sFor_ok (ds := r.map pairD) (by simp [ix_rows h1]) l) ?_
    simp
  rw [hr]
  rfl
/-! ### _law_goes -/
theorem goes_same (a b d e6 e7 e8 e9 e10 e11 e12 : Cel) : ∀ (r : List (T × Nat)) (acc : List D) (c4 c5 : Cel), acc.length + r.length ≤ 1000 →
    ∃ c4' c5', dLoop (gT (gsCons (gN 4) (gsCons (gN 5) (gsNil)))) r__law_goes_b1 (r.map pairD) [a, b, .own acc, d, c4, c5, e6, e7, e8, e9, e10, e11, e12] = .nx [a, b, .own (acc ++ r.map fun p => goD (2, .same p.2)), d, c4', c5', e6, e7, e8, e9, e10, e11, e12]
  | [], acc, c4, c5, _ => ⟨c4, c5, by simp⟩
  | p :: r, acc, c4, c5, hl => by
    simp only [List.length_cons] at hl
    obtain ⟨x4, x5, e⟩ := goes_same a b d e6 e7 e8 e9 e10 e11 e12 r (acc ++ [goD (2, .same p.2)]) (.dat (tD p.1)) (.dat (.int p.2)) (by simp; omega)
    have big : acc.length < sizeLine := small_lt (by omega)
    refine ⟨x4, x5, dLoop_step (e1 := [a, b, .own acc, d, .dat (tD p.1), .dat (.int p.2), e6, e7, e8, e9, e10, e11, e12]) rfl ?_ (e.trans (by simp))⟩
    have q : D.tup [.int 2, .tup [.str "same", .int (p.2 : Int)]] = goD (2, .same p.2) := rfl
    simp [r__law_goes_b1, small_line, big, q]
@[simp] theorem ml0 (v : Mv) : ixAD (mvL v) (.int 0) = some (.int v.g.length) := rfl
@[simp] theorem ml1 (v : Mv) : ixAD (mvL v) (.int 1) = some (tD v.t) := rfl
@[simp] theorem ml2 (v : Mv) : ixAD (mvL v) (.int 2) = some (oND v.o) := rfl
theorem isNN_ov (x : Option (T × T)) : isNND (ovD x) .non = some (.bl x.isSome) := by cases x <;> rfl
theorem fm_toList {α β : Type} (f : α → Option β) (a : α) (l : List α) : (a :: l).filterMap f = (f a).toList ++ l.filterMap f := by
  rw [List.filterMap_cons]
  cases f a <;> rfl
theorem goes_in {l : List Mv} (hl : ∀ v ∈ l, v.t.length ≤ 1000) {b : Mv} {k : Nat} (hb : l[k]? = some b) (c0 c1 c4 c5 c9 c10 c11 c12 : Cel) : ∀ (js : List Nat) (acc : List D) (c7 c8 : Cel), (∀ j ∈ js, j < l.length) → acc.length + js.length ≤ 10000 →
    ∃ c7' c8', dLoop (gN 7) r__law_goes_b2 (js.map fun (j : Nat) => D.int (j : Int)) [c0, c1, .own acc, .dat (.lst (l.map mvL)), c4, c5, .dat (.int k), c7, c8, c9, c10, c11, c12] =
      .nx [c0, c1, .own (acc ++ ((js.map fun j => (l.getD j mv00, b)).filterMap lpair).map goD), .dat (.lst (l.map mvL)), c4, c5, .dat (.int k), c7', c8', c9, c10, c11, c12]
  | [], acc, c7, c8, _, _ => ⟨c7, c8, by simp⟩
  | j :: js, acc, c7, c8, h, hn => by
    simp only [List.length_cons] at hn
    have hj := h j List.mem_cons_self
    have big : acc.length < sizeLine := small_lt (by omega)
    have ij : ixAD (.lst (l.map mvL)) (.int (j : Int)) = some (mvL (l.getD j mv00)) := by
      show atI (l.map mvL) (j : Int) = _
      rw [atI_nat', List.getElem?_map, List.getD_eq_getElem?_getD, List.getElem?_eq_getElem hj]
      rfl
    have ik : ixAD (.lst (l.map mvL)) (.int (k : Int)) = some (mvL b) := by
      show atI (l.map mvL) (k : Int) = _
      rw [atI_nat', List.getElem?_map, hb]
      rfl
    have ma : l.getD j mv00 ∈ l := by
      rw [List.getD_eq_getElem?_getD, List.getElem?_eq_getElem hj]
      exact List.getElem_mem hj
    have la := hl _ ma
    have lb := hl b (List.mem_of_getElem? hb)
    rw [List.map_cons, List.map_cons, fm_toList, List.map_append]
    generalize l.getD j mv00 = a at ij la ⊢
    have ov' := lover_eq la lb
    have nn := isNN_ov (ov a.t b.t)
    obtain ⟨x7, x8, e⟩ := goes_in hl hb c0 c1 c4 c5 c9 c10 c11 c12 js (acc ++ ((lpair (a, b)).toList).map goD) (.dat (.int j)) (.dat (ovD (ov a.t b.t))) (fun x hx => h x (List.mem_cons_of_mem _ hx)) (by
      have : (lpair (a, b)).toList.length ≤ 1 := by cases lpair (a, b) <;> simp
      simp only [List.length_append, List.length_map]
      omega)
    refine ⟨x7, x8, dLoop_step (e1 := [c0, c1, .own acc, .dat (.lst (l.map mvL)), c4, c5, .dat (.int k), .dat (.int j), c8, c9, c10, c11, c12]) rfl ?_ (e.trans (by rw [List.append_assoc]))⟩
    unfold r__law_goes_b2
    refine sSeq_nx (sSet_ok (d := ovD (ov a.t b.t)) (by simp [ij, ik, ov']) rfl) ?_
    simp only [List.set]
    unfold lpair
    simp only
    cases q : ov a.t b.t with
    | none =>
      rw [q] at nn
      simp [nn]
    | some r =>
      rw [q] at nn
      have qd : D.tup [.int ((a.g.length : Int) + (b.g.length : Int)), .tup [.tup [oND a.o, oND b.o], ovD (some r)]] = goD (a.g.length + b.g.length, .pr a.o b.o r.1 r.2) := rfl
      simp [nn, ij, ik, small_line, big, qd]
theorem goes_out {l : List Mv} (hl : ∀ v ∈ l, v.t.length ≤ 1000) (hl5 : l.length ≤ 5) (c0 c1 c4 c5 c9 c10 c11 c12 : Cel) : ∀ (ks : List Nat) (acc : List D) (c6 c7 c8 : Cel), (∀ k ∈ ks, k < l.length) → acc.length + 5 * ks.length ≤ 9000 →
    ∃ c6' c7' c8', dLoop (gN 6) r__law_goes_b3 (ks.map fun (k : Nat) => D.int (k : Int)) [c0, c1, .own acc, .dat (.lst (l.map mvL)), c4, c5, c6, c7, c8, c9, c10, c11, c12] =
      .nx [c0, c1, .own (acc ++ ((ks.flatMap (tkB l)).filterMap lpair).map goD), .dat (.lst (l.map mvL)), c4, c5, c6', c7', c8', c9, c10, c11, c12]
  | [], acc, c6, c7, c8, _, _ => ⟨c6, c7, c8, by simp⟩
  | k :: ks, acc, c6, c7, c8, h, hn => by
    simp only [List.length_cons] at hn
    have hk := h k List.mem_cons_self
    have hb : l[k]? = some l[k] := List.getElem?_eq_getElem hk
    obtain ⟨x7, x8, e1⟩ := goes_in hl hb c0 c1 c4 c5 c9 c10 c11 c12 (List.range k) acc c7 c8 (fun j hj => by have := List.mem_range.mp hj; omega) (by simp; omega)
    have tk : (List.range k).map (fun j => (l.getD j mv00, l[k])) = tkB l k := by
      rw [tkB_eq hb]
      refine List.ext_getElem (by simp; omega) fun i h1 h2 => ?_
      simp only [List.length_map, List.length_range] at h1
      simp only [List.getElem_map, List.getElem_range, List.getElem_take, List.getD_eq_getElem?_getD]
      rw [List.getElem?_eq_getElem (by omega)]
      rfl
    rw [tk] at e1
    obtain ⟨y6, y7, y8, e⟩ := goes_out hl hl5 c0 c1 c4 c5 c9 c10 c11 c12 ks (acc ++ ((tkB l k).filterMap lpair).map goD) (.dat (.int k)) x7 x8 (fun x hx => h x (List.mem_cons_of_mem _ hx)) (by
      have h1 := List.length_filterMap_le lpair (tkB l k)
      have h2 : (tkB l k).length ≤ 5 := by rw [tkB_eq hb]; simp; omega
      simp only [List.length_append, List.length_map]
      omega)
    refine ⟨y6, y7, y8, dLoop_step (e1 := [c0, c1, .own acc, .dat (.lst (l.map mvL)), c4, c5, .dat (.int k), c7, c8, c9, c10, c11, c12]) rfl ?_ (e.trans ?_)⟩
    · unfold r__law_goes_b3
      exact sFor_ok (iRng_ok (ds := [.int (k : Int)]) (by simp) (rng1_nat (by omega))) e1
    · rw [List.flatMap_cons, List.filterMap_append, List.map_append, List.append_assoc]
end Wk

namespace Wk
open PySem PySem.Spec PyProof.Rows L2 TL DL
def rawA (b : ON) (x y : T) (mv : Mv) : D := .tup [.int (mv.g.length : Int), .tup [.tup [oND mv.o, oND b], ovD (ov (x ++ mv.t) y)]]
def rawB (a : ON) (x y : T) (mv : Mv) : D := .tup [.int (mv.g.length : Int), .tup [.tup [oND a, oND mv.o], ovD (ov x (y ++ mv.t))]]
def restZ (x y : T) : D := .tup [tD x, tD y]
@[simp] theorem rz0 (x y : T) : ixAD (restZ x y) (.int 0) = some (tD x) := rfl
@[simp] theorem rz1 (x y : T) : ixAD (restZ x y) (.int 1) = some (tD y) := rfl
theorem goes_A {a b : ON} {x y : T} (hx : x.length ≤ 400) (hy : y.length ≤ 400) (c0 c1 c3 c6 c7 c9 c12 : Cel) : ∀ (l : List Mv) (acc : List D) (c4 c5 c11 : Cel), (∀ v ∈ l, v.t.length ≤ 400) → acc.length + l.length ≤ 1000 →
    ∃ c4' c5' c11', dLoop (gT (gsCons (gN 11) (gsCons (gN 4) (gsCons (gN 5) (gsNil))))) r__law_goes_b4 (l.map mvL) [c0, c1, .own acc, c3, c4, c5, c6, c7, .dat (restZ x y), c9, .dat (oND b), c11, c12] =
      .nx [c0, c1, .own (acc ++ l.map (rawA b x y)), c3, c4', c5', c6, c7, .dat (restZ x y), c9, .dat (oND b), c11', c12]
  | [], acc, c4, c5, c11, _, _ => ⟨c4, c5, c11, by simp⟩
  | v :: l, acc, c4, c5, c11, h, hn => by
    simp only [List.length_cons] at hn
    have hv := h v List.mem_cons_self
    have big : acc.length < sizeLine := small_lt (by omega)
    have ad : addD (tD x) (tD v.t) = some (tD (x ++ v.t)) := add_tD (by omega)
    have ov' := lover_eq (x := x ++ v.t) (y := y) (by rw [List.length_append]; omega) (by omega)
    obtain ⟨x4, x5, x11, e⟩ := goes_A (a := a) (b := b) hx hy c0 c1 c3 c6 c7 c9 c12 l (acc ++ [rawA b x y v]) (.dat (tD v.t)) (.dat (oND v.o)) (.dat (.int v.g.length)) (fun z hz => h z (List.mem_cons_of_mem _ hz)) (by simp; omega)
    refine ⟨x4, x5, x11, dLoop_step (e1 := [c0, c1, .own acc, c3, .dat (tD v.t), .dat (oND v.o), c6, c7, .dat (restZ x y), c9, .dat (oND b), .dat (.int v.g.length), c12]) rfl ?_ (e.trans (by simp))⟩
    have q : D.tup [.int (v.g.length : Int), .tup [.tup [oND v.o, oND b], ovD (ov (x ++ v.t) y)]] = rawA b x y v := rfl
    generalize x ++ v.t = z at ad ov' q
    simp [r__law_goes_b4, ad, ov', small_line, big, q]
theorem goes_B {a b : ON} {x y : T} (hx : x.length ≤ 400) (hy : y.length ≤ 400) (c0 c1 c3 c6 c7 c10 c12 : Cel) : ∀ (l : List Mv) (acc : List D) (c4 c5 c11 : Cel), (∀ v ∈ l, v.t.length ≤ 400) → acc.length + l.length ≤ 1000 →
    ∃ c4' c5' c11', dLoop (gT (gsCons (gN 11) (gsCons (gN 4) (gsCons (gN 5) (gsNil))))) r__law_goes_b5 (l.map mvL) [c0, c1, .own acc, c3, c4, c5, c6, c7, .dat (restZ x y), .dat (oND a), c10, c11, c12] =
      .nx [c0, c1, .own (acc ++ l.map (rawB a x y)), c3, c4', c5', c6, c7, .dat (restZ x y), .dat (oND a), c10, c11', c12]
  | [], acc, c4, c5, c11, _, _ => ⟨c4, c5, c11, by simp⟩
  | v :: l, acc, c4, c5, c11, h, hn => by
    simp only [List.length_cons] at hn
    have hv := h v List.mem_cons_self
    have big : acc.length < sizeLine := small_lt (by omega)
    have ad : addD (tD y) (tD v.t) = some (tD (y ++ v.t)) := add_tD (by omega)
    have ov' := lover_eq (x := x) (y := y ++ v.t) (by omega) (by rw [List.length_append]; omega)
    obtain ⟨x4, x5, x11, e⟩ := goes_B (a := a) (b := b) hx hy c0 c1 c3 c6 c7 c10 c12 l (acc ++ [rawB a x y v]) (.dat (tD v.t)) (.dat (oND v.o)) (.dat (.int v.g.length)) (fun z hz => h z (List.mem_cons_of_mem _ hz)) (by simp; omega)
    refine ⟨x4, x5, x11, dLoop_step (e1 := [c0, c1, .own acc, c3, .dat (tD v.t), .dat (oND v.o), c6, c7, .dat (restZ x y), .dat (oND a), c10, .dat (.int v.g.length), c12]) rfl ?_ (e.trans (by simp))⟩
    have q : D.tup [.int (v.g.length : Int), .tup [.tup [oND a, oND v.o], ovD (ov x (y ++ v.t))]] = rawB a x y v := rfl
    generalize y ++ v.t = z at ad ov' q
    simp [r__law_goes_b5, ad, ov', small_line, big, q]
theorem filt_A (b : ON) (x y : T) : ∀ l : List Mv, (l.filter fun mv => (ov (x ++ mv.t) y).isSome).map (rawA b x y) = (l.filterMap (lgoa b x y)).map goD
  | [] => rfl
  | mv :: l => by
    have ih := filt_A b x y l
    rw [List.filter_cons, List.filterMap_cons]
    cases q : ov (x ++ mv.t) y with
    | none =>
      have e : lgoa b x y mv = none := by unfold lgoa; rw [q]; rfl
      rw [e]
      simp [ih]
    | some r =>
      have e : lgoa b x y mv = some (mv.g.length, .pr mv.o b r.1 r.2) := by unfold lgoa; rw [q]; rfl
      rw [e]
      simp only [Option.isSome_some, if_true, List.map_cons, ih]
      congr 1
      unfold rawA
      rw [q]
      rfl
theorem filt_B (a : ON) (x y : T) : ∀ l : List Mv, (l.filter fun mv => (ov x (y ++ mv.t)).isSome).map (rawB a x y) = (l.filterMap (lgob a x y)).map goD
  | [] => rfl
  | mv :: l => by
    have ih := filt_B a x y l
    rw [List.filter_cons, List.filterMap_cons]
    cases q : ov x (y ++ mv.t) with
    | none =>
      have e : lgob a x y mv = none := by unfold lgob; rw [q]; rfl
      rw [e]
      simp [ih]
    | some r =>
      have e : lgob a x y mv = some (mv.g.length, .pr a mv.o r.1 r.2) := by unfold lgob; rw [q]; rfl
      rw [e]
      simp only [Option.isSome_some, if_true, List.map_cons, ih]
      congr 1
      unfold rawB
      rw [q]
      rfl
/-- the end of _law_goes -/
theorem goes_end {l : List Mv} (hl : l.length ≤ 1000) (raw : Mv → D) (o : Mv → Option (T × T)) (h2 : ∀ mv, ∃ d, ixAD (raw mv) (.int 1) = some d ∧ ixAD d (.int 1) = some (ovD (o mv))) (c0 c1 c3 c4 c5 c6 c7 c8 c9 c10 c11 : Cel) :
    (sFrz 2 (sRet (xL (lComp [12] (iAny (xVar 2)) (gN 12) (tE (xOp isNND (xOp ixAD (xOp ixAD (xVar 12) (xC (.int 1))) (xC (.int 1))) (xC .non))) (xVar 12))))) [c0, c1, .own (l.map raw), c3, c4, c5, c6, c7, c8, c9, c10, c11, .un] = .rt (.lst ((l.filter fun mv => (o mv).isSome).map raw)) := by
  have cl : lComp [12] (iAny (xVar 2)) (gN 12) (tE (xOp isNND (xOp ixAD (xOp ixAD (xVar 12) (xC (.int 1))) (xC (.int 1))) (xC .non))) (xVar 12) [c0, c1, .dat (.lst (l.map raw)), c3, c4, c5, c6, c7, c8, c9, c10, c11, .un] = .ok ((l.filter fun mv => (o mv).isSome).map raw) := by
    refine lComp_ok (ds := l.map raw) (by simp) (by simp; omega) (by simp [Cel.isOwned]) ?_
    refine cLoop_filter raw (fun mv => (o mv).isSome) raw l fun mv _ => ?_
    obtain ⟨d, i1, i2⟩ := h2 mv
    have nn := isNN_ov (o mv)
    refine ⟨_, rfl, ?_, fun _ => ?_⟩
    · simp [wipeE, i1, i2, nn]
    · simp [wipeE]
  have fz : frz 2 [c0, c1, .own (l.map raw), c3, c4, c5, c6, c7, c8, c9, c10, c11, .un] = [c0, c1, .dat (.lst (l.map raw)), c3, c4, c5, c6, c7, c8, c9, c10, c11, .un] := by simp
  simp only [sFrz, fz, sRet, xL, cl, M.bind, M.to]
theorem sSeq_rt {a b : DStm} {env : DEnv} {d : D} (h : a env = .rt d) : sSeq a b env = .rt d := by simp only [sSeq, h, DOut.then]
theorem goes_eq {w : Wr} (o : w.Ok) {s : LS} (hs : s ∈ w.lF) : f__law_goes [wrD w, lsD s] = .ok (.lst ((w.lgo s).map goD)) := by
  have e : f__law_goes [wrD w, lsD s] = fnRes (r__law_goes [.dat (wrD w), .dat (lsD s), .un, .un, .un, .un, .un, .un, .un, .un, .un, .un, .un]) := rfl
  rw [e]
  have mvt : ∀ st, st < w.rows.length → ∀ v ∈ w.moves st, v.t.length ≤ 400 := fun st h v hv => by
    have := (allT_wd o _ (move_in o h hv).1).1
    omega
  have hr : r__law_goes [.dat (wrD w), .dat (lsD s), .un, .un, .un, .un, .un, .un, .un, .un, .un, .un, .un] = .rt (.lst ((w.lgo s).map goD)) := by
    cases s with
    | same st =>
      have h := lF_same.mp hs
      have s4 := o.s4
      obtain ⟨r, h1, h2⟩ := o.row_ok h
      have ra := row_at o h1
      have rl := o.rl r (List.mem_of_getElem? h1)
      have ml := moves_len o st
      have mv := lmoves_eq o h
      have i0 : ixAD (lsD (.same st)) (.int 0) = some (tD [115, 97, 109, 101]) := by rw [← same_tD]; rfl
      have i1 : ixAD (lsD (.same st)) (.int 1) = some (.int (st : Int)) := rfl
      have sx : (D.str "same") = tD [115, 97, 109, 101] := same_tD
      obtain ⟨x4, x5, l1⟩ := goes_same (.dat (wrD w)) (.dat (lsD (.same st))) (.dat (.lst ((w.moves st).map mvL))) .un .un .un .un .un .un .un r [] .un .un (by simp; omega)
      rw [List.nil_append] at l1
      obtain ⟨y6, y7, y8, l2⟩ := goes_out (l := w.moves st) (fun v hv => by have := mvt st h v hv; omega) ml (.dat (wrD w)) (.dat (lsD (.same st))) x4 x5 .un .un .un .un (List.range (w.moves st).length) (r.map fun p => goD (2, .same p.2)) .un .un .un (fun k hk => List.mem_range.mp hk) (by simp; omega)
      rw [← pairs_eq] at l2
      have em : (r.map fun p => goD (2, .same p.2)) ++ ((pairsOf (w.moves st)).filterMap lpair).map goD = (w.lgo (.same st)).map goD := by
        rw [lgo_same, List.map_append, List.map_map, ra, List.map_map]
        rfl
      rw [em] at l2
      have ln : lenD [.lst ((w.moves st).map mvL)] = some (.int ((w.moves st).length : Int)) := by simp [lenD]
      unfold r__law_goes
      refine sSeq_nx (e1 := [.dat (wrD w), .dat (lsD (.same st)), .own [], .un, .un, .un, .un, .un, .un, .un, .un, .un, .un]) (by simp [small_line]) ?_
      have g0 : (tE (xOp eqD (xOp ixAD (xVar 1) (xC (.int 0))) (xC (.str "same")))) [.dat (wrD w), .dat (lsD (.same st)), .own [], .un, .un, .un, .un, .un, .un, .un, .un, .un, .un] = .ok true := by simp [i0, sx]
      refine sSeq_rt ?_
      simp only [sIf, g0, M.to, if_true]
      refine sSeq_nx (sSet_ok (d := .lst ((w.moves st).map mvL)) (by simp [i1, mv]) rfl) ?_
      simp only [List.set]
      refine sSeq_nx (sFor_ok (ds := r.map pairD) (by simp [i1, ix_rows h1]) l1) ?_
      generalize hn : (w.moves st).length = n at l2 ln
      generalize (w.moves st).map mvL = MS at l2 ln
      generalize (w.lgo (.same st)).map goD = GS at l2
      refine sSeq_nx (sFor_ok (iRng_ok (ds := [.int (n : Int)]) (by simp [ln]) (rng1_nat (by omega))) l2) ?_
      simp
    | pr a b x y =>
      obtain ⟨ha, hb, hxy⟩ := lF_pr.mp hs
      have wx : Wd x ∧ Wd y := by
        rcases hxy with ⟨z1, z2⟩ | ⟨z1, z2⟩
        · exact ⟨aU_wd o z1, by rw [z2]; exact ⟨by simp, fun c hc => by simp at hc⟩⟩
        · exact ⟨by rw [z1]; exact ⟨by simp, fun c hc => by simp at hc⟩, aU_wd o z2⟩
      have lx := wx.1.1
      have ly := wx.2.1
      have i0 : ixAD (lsD (.pr a b x y)) (.int 0) = some (.tup [oND a, oND b]) := rfl
      have i1 : ixAD (lsD (.pr a b x y)) (.int 1) = some (restZ x y) := rfl
      have e0 : eqD (.tup [oND a, oND b]) (.str "same") = some (.bl false) := by
        have k1 : eqOk 60 (.tup [oND a, oND b]) = true := by cases a <;> cases b <;> simp [oND, eqOk, eqOks]
        have k2 : eqOk 60 (.str "same") = true := by
          rw [same_tD]
          exact eqOk_tD (by decide)
        rw [eqD_eq (by rw [k1, k2]; simp)]
        simp
      have ny : ∀ t : T, neD (tD t) (.str "") = some (.bl (!decide (t = []))) := fun t => by rw [nil_tD, neD_tD]
      have ex := eq_nilT
      have na := isNN_o a
      have nb := isNN_o b
      unfold r__law_goes
      refine sSeq_nx (e1 := [.dat (wrD w), .dat (lsD (.pr a b x y)), .own [], .un, .un, .un, .un, .un, .un, .un, .un, .un, .un]) (by simp [small_line]) ?_
      refine sSeq_nx (e1 := [.dat (wrD w), .dat (lsD (.pr a b x y)), .own [], .un, .un, .un, .un, .un, .un, .un, .un, .un, .un]) (by simp [i0, e0]) ?_
      refine sSeq_nx (e1 := [.dat (wrD w), .dat (lsD (.pr a b x y)), .own [], .un, .un, .un, .un, .un, .un, .dat (oND a), .dat (oND b), .un, .un]) (by simp [i0]) ?_
      refine sSeq_nx (sSet_ok (d := restZ x y) (by simp [i1]) rfl) ?_
      simp only [List.set]
      have rA : ∀ mv, ∃ d, ixAD (rawA b x y mv) (.int 1) = some d ∧ ixAD d (.int 1) = some (ovD (ov (x ++ mv.t) y)) := fun mv => ⟨_, rfl, rfl⟩
      have rB : ∀ mv, ∃ d, ixAD (rawB a x y mv) (.int 1) = some d ∧ ixAD d (.int 1) = some (ovD (ov x (y ++ mv.t))) := fun mv => ⟨_, rfl, rfl⟩
      have test : (tEither (tE (xOp neD (xOp ixAD (xVar 8) (xC (.int 1))) (xC (.str "")))) (tBoth (tE (xOp eqD (xOp ixAD (xVar 8) (xC (.int 0))) (xC (.str "")))) (tE (xOp isNND (xVar 9) (xC .non))))) [.dat (wrD w), .dat (lsD (.pr a b x y)), .own [], .un, .un, .un, .un, .un, .dat (restZ x y), .dat (oND a), .dat (oND b), .un, .un] = .ok (decide (y ≠ [] ∨ (x = [] ∧ a ≠ none))) := by
        by_cases z1 : y = []
        · by_cases z2 : x = []
          · by_cases z3 : a = none <;> simp [ny, ex, isNN_o, z1, z2, z3]
          · simp [ny, ex, z1, z2]
        · simp [ny, z1]
      rw [lgo_pr]
      by_cases hc : y ≠ [] ∨ (x = [] ∧ a ≠ none)
      · rw [decide_eq_true hc] at test
        rw [if_pos hc, ← filt_A]
        have step : ∃ c4 c5 c11, (sIf (tEither (tE (xOp neD (xOp ixAD (xVar 8) (xC (.int 1))) (xC (.str "")))) (tBoth (tE (xOp eqD (xOp ixAD (xVar 8) (xC (.int 0))) (xC (.str "")))) (tE (xOp isNND (xVar 9) (xC .non))))) (sIf (tE (xOp isNND (xVar 9) (xC .non))) (sFor (iAny (xCall 2 f__law_moves (aCons (xVar 0) (aCons (xVar 9) (aNil))))) (gT (gsCons (gN 11) (gsCons (gN 4) (gsCons (gN 5) (gsNil))))) r__law_goes_b4) (sNext)) (sIf (tE (xOp isNND (xVar 10) (xC .non))) (sFor (iAny (xCall 2 f__law_moves (aCons (xVar 0) (aCons (xVar 10) (aNil))))) (gT (gsCons (gN 11) (gsCons (gN 4) (gsCons (gN 5) (gsNil))))) r__law_goes_b5) (sNext))) [.dat (wrD w), .dat (lsD (.pr a b x y)), .own [], .un, .un, .un, .un, .un, .dat (restZ x y), .dat (oND a), .dat (oND b), .un, .un] =
            .nx [.dat (wrD w), .dat (lsD (.pr a b x y)), .own ((w.ofO a).map (rawA b x y)), .un, c4, c5, .un, .un, .dat (restZ x y), .dat (oND a), .dat (oND b), c11, .un] := by
          cases a with
          | none => exact ⟨.un, .un, .un, by simp only [sIf, test, M.to, if_true]; simp [na, Wr.ofO]⟩
          | some st =>
            have h := aO_mem.mp ha st rfl
            have mv := lmoves_eq o h
            obtain ⟨x4, x5, x11, l⟩ := goes_A (a := some st) (b := b) (x := x) (y := y) (by omega) (by omega) (.dat (wrD w)) (.dat (lsD (.pr (some st) b x y))) .un .un .un (.dat (oND (some st))) .un (w.moves st) [] .un .un .un (mvt st h) (by have := moves_len o st; simp; omega)
            refine ⟨x4, x5, x11, ?_⟩
            simp only [sIf, test, M.to, if_true]
            have g1 : (tE (xOp isNND (xVar 9) (xC .non))) [.dat (wrD w), .dat (lsD (.pr (some st) b x y)), .own [], .un, .un, .un, .un, .un, .dat (restZ x y), .dat (oND (some st)), .dat (oND b), .un, .un] = .ok true := by simp [na]
            simp only [g1, M.to, if_true]
            exact sFor_ok (ds := (w.moves st).map mvL) (by simp [oND, mv]) l
        obtain ⟨c4, c5, c11, st'⟩ := step
        refine sSeq_nx st' ?_
        exact goes_end (by have := ofO_len o a; omega) (rawA b x y) (fun mv => ov (x ++ mv.t) y) rA _ _ _ _ _ _ _ _ _ _ _
      · rw [decide_eq_false hc] at test
        rw [if_neg hc, ← filt_B]
        have step : ∃ c4 c5 c11, (sIf (tEither (tE (xOp neD (xOp ixAD (xVar 8) (xC (.int 1))) (xC (.str "")))) (tBoth (tE (xOp eqD (xOp ixAD (xVar 8) (xC (.int 0))) (xC (.str "")))) (tE (xOp isNND (xVar 9) (xC .non))))) (sIf (tE (xOp isNND (xVar 9) (xC .non))) (sFor (iAny (xCall 2 f__law_moves (aCons (xVar 0) (aCons (xVar 9) (aNil))))) (gT (gsCons (gN 11) (gsCons (gN 4) (gsCons (gN 5) (gsNil))))) r__law_goes_b4) (sNext)) (sIf (tE (xOp isNND (xVar 10) (xC .non))) (sFor (iAny (xCall 2 f__law_moves (aCons (xVar 0) (aCons (xVar 10) (aNil))))) (gT (gsCons (gN 11) (gsCons (gN 4) (gsCons (gN 5) (gsNil))))) r__law_goes_b5) (sNext))) [.dat (wrD w), .dat (lsD (.pr a b x y)), .own [], .un, .un, .un, .un, .un, .dat (restZ x y), .dat (oND a), .dat (oND b), .un, .un] =
            .nx [.dat (wrD w), .dat (lsD (.pr a b x y)), .own ((w.ofO b).map (rawB a x y)), .un, c4, c5, .un, .un, .dat (restZ x y), .dat (oND a), .dat (oND b), c11, .un] := by
          cases b with
          | none => exact ⟨.un, .un, .un, by simp only [sIf, test, M.to, Bool.false_eq_true, if_false]; simp [nb, Wr.ofO]⟩
          | some st =>
            have h := aO_mem.mp hb st rfl
            have mv := lmoves_eq o h
            obtain ⟨x4, x5, x11, l⟩ := goes_B (a := a) (b := some st) (x := x) (y := y) (by omega) (by omega) (.dat (wrD w)) (.dat (lsD (.pr a (some st) x y))) .un .un .un (.dat (oND (some st))) .un (w.moves st) [] .un .un .un (mvt st h) (by have := moves_len o st; simp; omega)
            refine ⟨x4, x5, x11, ?_⟩
            simp only [sIf, test, M.to, Bool.false_eq_true, if_false]
            have g1 : (tE (xOp isNND (xVar 10) (xC .non))) [.dat (wrD w), .dat (lsD (.pr a (some st) x y)), .own [], .un, .un, .un, .un, .un, .dat (restZ x y), .dat (oND a), .dat (oND (some st)), .un, .un] = .ok true := by simp [nb]
            simp only [g1, M.to, if_true]
            exact sFor_ok (ds := (w.moves st).map mvL) (by simp [oND, mv]) l
        obtain ⟨c4, c5, c11, st'⟩ := step
        refine sSeq_nx st' ?_
        exact goes_end (by have := ofO_len o b; omega) (rawB a x y) (fun mv => ov x (y ++ mv.t)) rB _ _ _ _ _ _ _ _ _ _ _
  rw [hr]
  rfl
end Wk

namespace Wk
open PySem PySem.Spec PyProof.Rows L2 TL DL
/-! ### the layers as data -/
def layD (lay : Lay) : WtM := lay.map (setD lsD)
theorem row_layD (lay : Lay) (i : Nat) : row (layD lay) i = setD lsD (row lay i) := by
  unfold row layD
  rw [List.getD_eq_getElem?_getD, List.getD_eq_getElem?_getD, List.getElem?_map]
  cases lay[i]? <;> rfl
theorem len_layD (lay : Lay) : (layD lay).length = lay.length := by simp [layD]
theorem pad_layD (lay : Lay) (c : Nat) : padW (layD lay) c = layD (padW lay c) := by
  unfold padW layD
  simp [setD]
theorem seq3_lift {g : DStm} {u : DStm3} {wt : WtM} {env e1 : DEnv} {r : DOut3} (h : g env = .nx e1) (hp : e1[1]? = env[1]?) (hu : u wt e1 = r) : sSeq3 (sLiftM 1 g) u wt env = r := by
  simp only [sSeq3, sLiftM, h, hp, if_true, DOut3.then, hu]
theorem seq3_rt {g : DStm} {u : DStm3} {wt : WtM} {env : DEnv} {d : D} (h : g env = .rt d) : sSeq3 (sLiftM 1 g) u wt env = .rt d wt := by
  simp only [sSeq3, sLiftM, h, DOut3.then]
theorem lift3_nx {g : DStm} {wt : WtM} {env e1 : DEnv} (h : g env = .nx e1) (hp : e1[1]? = env[1]?) : sLiftM 1 g wt env = .nx wt e1 := by
  simp only [sLiftM, h, hp, if_true]
theorem lift3_rt {g : DStm} {wt : WtM} {env : DEnv} {d : D} (h : g env = .rt d) : sLiftM 1 g wt env = .rt d wt := by
  simp only [sLiftM, h]
theorem seq3_nx {a b : DStm3} {wt w1 : WtM} {env e1 : DEnv} {r : DOut3} (h : a wt env = .nx w1 e1) (hu : b w1 e1 = r) : sSeq3 a b wt env = r := by
  simp only [sSeq3, h, DOut3.then, hu]
theorem dLoop3_step {t : DTgt} {b : DStm3} {d : D} {ds : List D} {wt w1 : WtM} {e e1 e2 : DEnv} {r : DOut3} (h1 : t d e = some e1) (h2 : b wt e1 = .nx w1 e2) (h3 : dLoop3 t b ds w1 e2 = r) : dLoop3 t b (d :: ds) wt e = r := by
  unfold dLoop3
  simp only [h1, h2, h3]
theorem if3_t {t : WtM → DEnv → M Bool} {a b : DStm3} {wt : WtM} {env : DEnv} {r : DOut3} (h : t wt env = .ok true) (ha : a wt env = r) : sIf3 t a b wt env = r := by
  simp only [sIf3, h, M.to3, if_true, ha]
theorem if3_f {t : WtM → DEnv → M Bool} {a b : DStm3} {wt : WtM} {env : DEnv} {r : DOut3} (h : t wt env = .ok false) (hb : b wt env = r) : sIf3 t a b wt env = r := by
  simp only [sIf3, h, M.to3, Bool.false_eq_true, if_false, hb]
theorem for3_ok {it : DEnv → M (List D)} {t : DTgt} {b : DStm3} {wt : WtM} {env : DEnv} {ds : List D} {r : DOut3} (h : it env = .ok ds) (hl : dLoop3 t b ds wt env = r) : sFor3 it t b wt env = r := by
  simp only [sFor3, h, M.to3, hl]
theorem fuel_big3 : 3000000 < fuel := by unfold fuel; decide
/-! ### one more spot -/
theorem fw_pad {c d : Nat} {c0 c1 c2 c4 c5 c7 : Cel} : ∀ (k fu : Nat) (wt : WtM), k < fu → c + d + 1 - wt.length ≤ k → c + d + 1 ≤ 500000 →
    dWhile3 (tE3 (xOp3 leD (xLen0M) (fun _ => xOp addD (xVar 3) (xVar 6)))) r__law_fewest_b1 fu wt [c0, c1, c2, .dat (.int c), c4, c5, .dat (.int d), c7] = .nx (padW wt (c + d)) [c0, c1, c2, .dat (.int c), c4, c5, .dat (.int d), c7]
  | k, 0, wt, h, _, _ => by omega
  | k, fu + 1, wt, h, hk, hc => by
    have test : (tE3 (xOp3 leD (xLen0M) (fun _ => xOp addD (xVar 3) (xVar 6)))) wt [c0, c1, c2, .dat (.int c), c4, c5, .dat (.int d), c7] = .ok (decide (wt.length ≤ c + d)) := by
      simp
      omega
    unfold dWhile3
    rw [test]
    by_cases hl : wt.length ≤ c + d
    · rw [decide_eq_true hl]
      have big : wt.length < sizeLine := Nat.lt_of_lt_of_le (show wt.length < 1000000 by omega) line_big
      have hb : r__law_fewest_b1 wt [c0, c1, c2, .dat (.int c), c4, c5, .dat (.int d), c7] = .nx (wt ++ [[]]) [c0, c1, c2, .dat (.int c), c4, c5, .dat (.int d), c7] := by
        show (if wt.length < sizeLine then DOut3.nx (wt ++ [[]]) _ else .no) = _
        rw [if_pos big]
      simp only [hb]
      match k, hk with
      | 0, hk => omega
      | k + 1, hk =>
        rw [fw_pad k fu (wt ++ [[]]) (by omega) (by simp; omega) hc]
        have : padW (wt ++ [[]]) (c + d) = padW wt (c + d) := by
          unfold padW
          rw [List.length_append, List.length_singleton]
          have e : c + d + 1 - wt.length = (c + d + 1 - (wt.length + 1)) + 1 := by omega
          rw [e, List.replicate_succ, List.append_assoc]
          rfl
        rw [this]
    · rw [decide_eq_false hl]
      have : padW wt (c + d) = wt := by
        unfold padW
        have e : c + d + 1 - wt.length = 0 := by omega
        rw [e]
        simp
      rw [this]
def lads (todo : List LS) (z : Nat × LS) : List LS := todo ++ if z.1 = 0 then [z.2] else []
theorem fw_body {lay : Lay} {c : Nat} {todo : List LS} {z : Nat × LS} (c0 c1 c2 c5 : Cel) (hc : c + z.1 ≤ 90000) (ht : todo.length ≤ 800000) (hr : ∀ i, (row lay i).length ≤ 50000) :
    r__law_fewest_b2 (layD lay) [c0, c1, c2, .dat (.int c), .own (todo.map lsD), c5, .dat (.int z.1), .dat (lsD z.2)] =
      .nx (layD (putL lay (c + z.1) z.2)) [c0, c1, c2, .dat (.int c), .own ((lads todo z).map lsD), c5, .dat (.int z.1), .dat (lsD z.2)] := by
  obtain ⟨d, s⟩ := z
  simp only at hc ⊢
  have big : todo.length < sizeLine := Nat.lt_of_lt_of_le (show todo.length < 1000000 by omega) line_big
  unfold r__law_fewest_b2
  refine seq3_nx (fw_pad (c + d + 1) fuel (layD lay) (Nat.lt_trans (by omega) fuel_big3) (by omega) (by omega)) ?_
  rw [pad_layD]
  refine seq3_lift (e1 := [c0, c1, c2, .dat (.int c), .own ((lads todo (d, s)).map lsD), c5, .dat (.int d), .dat (lsD s)]) ?_ rfl ?_
  · unfold lads
    by_cases hd : d = 0
    · subst hd
      simp [big]
    · simp [hd]
  · obtain ⟨kk, hk⟩ := lsD_key s
    have hl : c + d < (padW lay (c + d)).length := by rw [len_pad]; omega
    have pr : putRow (layD (padW lay (c + d))) (.int ((c + d : Nat) : Int)) (lsD s) (.bl true) = some (layD (putL lay (c + d) s)) := by
      have e1 : ixN (layD (padW lay (c + d))).length ((c + d : Nat) : Int) = some (c + d) := by
        unfold ixN
        rw [len_layD, if_pos (by omega), if_pos (by omega)]
        simp
        omega
      have e2 : (layD (padW lay (c + d)))[c + d]? = some (setD lsD (row (padW lay (c + d)) (c + d))) := by
        unfold layD row
        rw [List.getElem?_map, List.getD_eq_getElem?_getD, List.getElem?_eq_getElem hl]
        rfl
      have e3 := put_set lsD_inj hk (S := row (padW lay (c + d)) (c + d)) (by rw [row_pad]; exact hr _)
      unfold putRow
      simp only [e1, Option.bind_some, e2, e3, Option.map_some]
      unfold putL layD
      rw [List.map_set]
    have ec : ((c + d : Nat) : Int) = (c : Int) + (d : Int) := by omega
    rw [ec] at pr
    simp [pr]
theorem fw_loop {c : Nat} (c0 c1 c2 c5 : Cel) (hc : c ≤ 80000) : ∀ (zs : List (Nat × LS)) (lay : Lay) (todo : List LS) (c6 c7 : Cel), (∀ z ∈ zs, z.1 ≤ 2) → todo.length + zs.length ≤ 800000 → (∀ i, (row lay i).length + zs.length ≤ 50000) →
    ∃ c6' c7', dLoop3 (gT (gsCons (gN 6) (gsCons (gN 7) (gsNil)))) r__law_fewest_b2 (zs.map goD) (layD lay) [c0, c1, c2, .dat (.int c), .own (todo.map lsD), c5, c6, c7] =
      .nx (layD (putsL lay c zs)) [c0, c1, c2, .dat (.int c), .own ((todo ++ zer zs).map lsD), c5, c6', c7']
  | [], lay, todo, c6, c7, _, _, _ => ⟨c6, c7, by simp [zer, putsL, dLoop3]⟩
  | z :: zs, lay, todo, c6, c7, h, ht, hr => by
    simp only [List.length_cons] at ht hr
    have hz := h z List.mem_cons_self
    have b := fw_body (lay := lay) (c := c) (todo := todo) (z := z) c0 c1 c2 c5 (by omega) (by omega) (fun i => by have := hr i; omega)
    obtain ⟨x6, x7, e⟩ := fw_loop c0 c1 c2 c5 hc zs (putL lay (c + z.1) z.2) (lads todo z) (.dat (.int z.1)) (.dat (lsD z.2)) (fun y hy => h y (List.mem_cons_of_mem _ hy)) (by
      unfold lads
      rw [List.length_append]
      split
      · simp; omega
      · simp; omega) (fun i => by
      rw [row_putL]
      split
      · have := (ins_len (S := row lay (c + z.1)) (n := z.2)).2
        have := hr (c + z.1)
        omega
      · have := hr i
        omega)
    refine ⟨x6, x7, dLoop3_step (e1 := [c0, c1, c2, .dat (.int c), .own (todo.map lsD), c5, .dat (.int z.1), .dat (lsD z.2)]) rfl b (e.trans ?_)⟩
    have e2 : lads todo z ++ zer zs = todo ++ zer (z :: zs) := by
      unfold lads zer
      rw [List.filter_cons]
      by_cases h0 : z.1 = 0
      · rw [if_pos h0, if_pos (decide_eq_true h0), List.map_cons, List.append_assoc]
        rfl
      · rw [if_neg h0, if_neg (by rw [decide_eq_false h0]; decide), List.append_nil]
    rw [e2, putsL_cons]
/-! ### the stack of one layer -/
def keysL (met : List (LS × Nat)) : List (D × D) := setD lsD (met.map (·.1))
theorem eqOk_ls {w : Wr} (o : w.Ok) {s : LS} (h : s ∈ w.lF) : eqOk 60 (lsD s) = true := by
  cases s with
  | same st =>
    have : eqOk 59 (.str "same") = true := by
      rw [same_tD]
      exact eqOk_tD (by decide)
    simp [eqOk] at this
    simp [lsD, eqOk, eqOks, this]
  | pr a b x y =>
    obtain ⟨_, _, hxy⟩ := lF_pr.mp h
    have nil : Wd ([] : T) := ⟨by simp, fun c hc => by simp at hc⟩
    have wx : Wd x ∧ Wd y := by
      rcases hxy with ⟨z1, z2⟩ | ⟨z1, z2⟩
      · exact ⟨aU_wd o z1, by rw [z2]; exact nil⟩
      · exact ⟨by rw [z1]; exact nil, aU_wd o z2⟩
    have k1 := eqOk_tD (n := 58) wx.1.uni
    have k2 := eqOk_tD (n := 58) wx.2.uni
    cases a <;> cases b <;> simp [lsD, oND, eqOk, eqOks, k1, k2]
theorem goal_D : (.tup [.tup [.non, .non], .tup [.str "", .str ""]] : D) = lsD lgoal := by
  simp [lsD, lgoal, oND, nil_tD]
theorem pop_map (todo : List LS) (s : LS) : popL ((todo ++ [s]).map lsD) = some (todo.map lsD, lsD s) := by
  unfold popL
  simp
structure Bl (w : Wr) (lay : Lay) (met : List (LS × Nat)) : Prop where
  m : met.length ≤ 26700
  l : lay.length ≤ 53401
  r : ∀ i, (row lay i).length ≤ 26700
theorem sl_bd {w : Wr} (o : w.Ok) {lay : Lay} {met : List (LS × Nat)} {todo : List LS} {c : Nat} (I : SL w lay met todo c) : Bl w lay met where
  m := Nat.le_trans (sl_met I) (lF_len o)
  l := by have := I.len; have := sl_met I; have := lF_len o; omega
  r := fun i => Nat.le_trans (sl_row I i) (lF_len o)
theorem st_body {w : Wr} (o : w.Ok) {lay : Lay} {met : List (LS × Nat)} {todo : List LS} {c : Nat} {s : LS} (I : SL w lay met (todo ++ [s]) c) (hc : c ≤ 60000) (ht : todo.length ≤ 700000) (P : Addr) (c5 c6 c7 : Cel) :
    (s ∈ met.map (·.1) → r__law_fewest_b3 (layD lay) [.dat (wrD w), .exc P, .dic (keysL met), .dat (.int c), .own ((todo ++ [s]).map lsD), c5, c6, c7] = .nx (layD lay) [.dat (wrD w), .exc P, .dic (keysL met), .dat (.int c), .own (todo.map lsD), .dat (lsD s), c6, c7]) ∧
    (s ∉ met.map (·.1) → s = lgoal → r__law_fewest_b3 (layD lay) [.dat (wrD w), .exc P, .dic (keysL met), .dat (.int c), .own ((todo ++ [s]).map lsD), c5, c6, c7] = .rt (.int c) (layD lay)) ∧
    (s ∉ met.map (·.1) → s ≠ lgoal → ∃ c6' c7', r__law_fewest_b3 (layD lay) [.dat (wrD w), .exc P, .dic (keysL met), .dat (.int c), .own ((todo ++ [s]).map lsD), c5, c6, c7] = .nx (layD (putsL lay c (w.lgo s))) [.dat (wrD w), .exc P, .dic (keysL (met ++ [(s, c)])), .dat (.int c), .own ((todo ++ zer (w.lgo s)).map lsD), .dat (lsD s), c6', c7']) := by
  have B := sl_bd o I
  have B1 := B.m; have B2 := B.l; have B3 := B.r
  have hin := I.tdo s (by simp)
  have hF := I.inF c s hin
  obtain ⟨kk, hk⟩ := lsD_key s
  have nin := nin_set lsD_inj hk (met.map (·.1))
  have put := put_set lsD_inj hk (S := met.map (·.1)) (by simp; omega)
  have pop := pop_map todo s
  have eqg : eqD (lsD s) (.tup [.tup [.non, .non], .tup [.str "", .str ""]]) = some (.bl (decide (s = lgoal))) := by
    rw [goal_D]
    have gF : eqOk 60 (lsD lgoal) = true := by
      have := eqOk_tD (n := 58) (l := []) (by simp)
      simp [lsD, lgoal, oND, eqOk, eqOks, this]
    rw [eqD_eq (by rw [eqOk_ls o hF, gF]; simp)]
    congr 2
    by_cases z : s = lgoal
    · rw [z]; simp
    · rw [decide_eq_false z, decide_eq_false fun y => z (lsD_inj _ _ y)]
  have g1 : ∀ (u : DStm3) (r : DOut3), u (layD lay) [.dat (wrD w), .exc P, .dic (keysL met), .dat (.int c), .own (todo.map lsD), .dat (lsD s), c6, c7] = r →
      sSeq3 (sLiftM 1 (sPopL 5 4)) u (layD lay) [.dat (wrD w), .exc P, .dic (keysL met), .dat (.int c), .own ((todo ++ [s]).map lsD), c5, c6, c7] = r := fun u r h => by
    generalize (todo ++ [s]).map lsD = TS at pop
    exact seq3_lift (e1 := [.dat (wrD w), .exc P, .dic (keysL met), .dat (.int c), .own (todo.map lsD), .dat (lsD s), c6, c7]) (by simp [pop]) rfl h
  have g2 : s ∉ met.map (·.1) → ∀ (u : DStm3) (r : DOut3), u (layD lay) [.dat (wrD w), .exc P, .dic (keysL (met ++ [(s, c)])), .dat (.int c), .own (todo.map lsD), .dat (lsD s), c6, c7] = r →
      sIf3 (fun _ => tE (xNinX 2 (xVar 5))) (sSeq3 (sLiftM 1 (sPutX 2 (xVar 5) (xC (.bl true)))) u) (sNext3) (layD lay) [.dat (wrD w), .exc P, .dic (keysL met), .dat (.int c), .own (todo.map lsD), .dat (lsD s), c6, c7] = r := fun hn u r h => by
    rw [decide_eq_false hn] at nin
    refine if3_t (by simp [keysL, nin]) ?_
    refine seq3_lift (e1 := [.dat (wrD w), .exc P, .dic (keysL (met ++ [(s, c)])), .dat (.int c), .own (todo.map lsD), .dat (lsD s), c6, c7]) ?_ rfl h
    have e2 : ins (met.map (·.1)) s = (met ++ [(s, c)]).map (·.1) := by
      unfold ins
      rw [if_neg hn]
      simp
    rw [e2] at put
    simp [keysL] at put ⊢
    simp [put]
  refine ⟨fun hy => ?_, fun hn hgo => ?_, fun hn hgo => ?_⟩
  · unfold r__law_fewest_b3
    refine g1 _ _ ?_
    rw [decide_eq_true hy] at nin
    exact if3_f (by simp [keysL, nin]) rfl
  · unfold r__law_fewest_b3
    refine g1 _ _ (g2 hn _ _ ?_)
    rw [decide_eq_true hgo] at eqg
    exact seq3_rt (by simp [small_line, eqg])
  · rw [decide_eq_false hgo] at eqg
    have sx := lgo_in o hF
    have ll := lgo_len o s
    obtain ⟨x6, x7, l⟩ := fw_loop (.dat (wrD w)) (.exc P) (.dic (keysL (met ++ [(s, c)]))) (.dat (lsD s)) (show c ≤ 80000 by omega) (w.lgo s) lay todo c6 c7 (fun z hz => (sx z hz).1) (by omega) (fun i => by have := B3 i; omega)
    refine ⟨x6, x7, ?_⟩
    unfold r__law_fewest_b3
    refine g1 _ _ (g2 hn _ _ ?_)
    refine seq3_lift (e1 := [.dat (wrD w), .exc P, .dic (keysL (met ++ [(s, c)])), .dat (.int c), .own (todo.map lsD), .dat (lsD s), c6, c7]) (by simp [small_line, eqg]) rfl ?_
    have go := goes_eq o hF
    generalize (w.lgo s).map goD = GS at l go
    exact for3_ok (ds := GS) (by simp [go, itemsD]) l
theorem st_inner {w : Wr} (o : w.Ok) {c : Nat} (hc : c ≤ 60000) : ∀ (k fu : Nat) (todo : List LS) (lay : Lay) (met : List (LS × Nat)), todo.length + 20 * (26701 - met.length) ≤ k → k ≤ 600000 → k < fu → SL w lay met todo c →
    (Least w c ∧ ∀ (P : Addr) (c5 c6 c7 : Cel), ∃ w', dWhile3 (fun _ => tE (xOp gtD (xLenO 4) (xC (.int 0)))) r__law_fewest_b3 fu (layD lay) [.dat (wrD w), .exc P, .dic (keysL met), .dat (.int c), .own (todo.map lsD), c5, c6, c7] = .rt (.int c) w') ∨
    (∃ lay' met', SL w lay' met' [] c ∧ ∀ (P : Addr) (c5 c6 c7 : Cel), ∃ c4' c5' c6' c7', dWhile3 (fun _ => tE (xOp gtD (xLenO 4) (xC (.int 0)))) r__law_fewest_b3 fu (layD lay) [.dat (wrD w), .exc P, .dic (keysL met), .dat (.int c), .own (todo.map lsD), c5, c6, c7] = .nx (layD lay') [.dat (wrD w), .exc P, .dic (keysL met'), .dat (.int c), c4', c5', c6', c7'])
  | k, 0, todo, lay, met, _, _, hk, _ => by omega
  | k, fu + 1, todo, lay, met, hk2, hk3, hk, I => by
    have B := sl_bd o I
    have B1 := B.m
    have test : ∀ (P : Addr) (c5 c6 c7 : Cel), tE (xOp gtD (xLenO 4) (xC (.int 0))) [.dat (wrD w), .exc P, .dic (keysL met), .dat (.int c), .own (todo.map lsD), c5, c6, c7] = .ok (decide (0 < todo.length)) := fun P c5 c6 c7 => by
      simp [gtD]
    rcases List.eq_nil_or_concat todo with rfl | ⟨t0, s, rfl⟩
    · refine .inr ⟨lay, met, I, fun P c5 c6 c7 => ⟨.own [], c5, c6, c7, ?_⟩⟩
      unfold dWhile3
      rw [test, decide_eq_false (by simp)]
      rfl
    · rw [List.concat_eq_append] at I hk2 test ⊢
      rw [List.length_append, List.length_singleton] at hk2
      have hpos : 0 < (t0 ++ [s]).length := by simp
      have hb := st_body o I hc (show t0.length ≤ 700000 by omega)
      match k, hk2 with
      | 0, hk2 => omega
      | k + 1, hk2 =>
        by_cases h1 : s ∈ met.map (·.1)
        · have I' := sl_skip I h1
          have step : ∀ (P : Addr) (c5 c6 c7 : Cel), dWhile3 (fun _ => tE (xOp gtD (xLenO 4) (xC (.int 0)))) r__law_fewest_b3 (fu + 1) (layD lay) [.dat (wrD w), .exc P, .dic (keysL met), .dat (.int c), .own ((t0 ++ [s]).map lsD), c5, c6, c7] =
              dWhile3 (fun _ => tE (xOp gtD (xLenO 4) (xC (.int 0)))) r__law_fewest_b3 fu (layD lay) [.dat (wrD w), .exc P, .dic (keysL met), .dat (.int c), .own (t0.map lsD), .dat (lsD s), c6, c7] := fun P c5 c6 c7 => by
            conv => lhs; unfold dWhile3
            rw [test, decide_eq_true hpos]
            simp only [(hb P c5 c6 c7).1 h1]
          rcases st_inner o hc k fu t0 lay met (by omega) (by omega) (by omega) I' with ⟨f1, f2⟩ | ⟨lay', met', f1, f2⟩
          · exact .inl ⟨f1, fun P c5 c6 c7 => by
              rw [step]
              exact f2 P _ _ _⟩
          · exact .inr ⟨lay', met', f1, fun P c5 c6 c7 => by
              rw [step]
              exact f2 P _ _ _⟩
        · by_cases h2 : s = lgoal
          · refine .inl ⟨sl_found (h2 ▸ I), fun P c5 c6 c7 => ⟨layD lay, ?_⟩⟩
            unfold dWhile3
            rw [test, decide_eq_true hpos]
            simp only [(hb P c5 c6 c7).2.1 h1 h2]
          · have I' := sl_new o I h1 h2
            have B' := (sl_bd o I').m
            rw [List.length_append, List.length_singleton] at B'
            have step : ∀ (P : Addr) (c5 c6 c7 : Cel), ∃ c6' c7', dWhile3 (fun _ => tE (xOp gtD (xLenO 4) (xC (.int 0)))) r__law_fewest_b3 (fu + 1) (layD lay) [.dat (wrD w), .exc P, .dic (keysL met), .dat (.int c), .own ((t0 ++ [s]).map lsD), c5, c6, c7] =
                dWhile3 (fun _ => tE (xOp gtD (xLenO 4) (xC (.int 0)))) r__law_fewest_b3 fu (layD (putsL lay c (w.lgo s))) [.dat (wrD w), .exc P, .dic (keysL (met ++ [(s, c)])), .dat (.int c), .own ((t0 ++ zer (w.lgo s)).map lsD), .dat (lsD s), c6', c7'] := fun P c5 c6 c7 => by
              obtain ⟨x6, x7, h⟩ := (hb P c5 c6 c7).2.2 h1 h2
              refine ⟨x6, x7, ?_⟩
              conv => lhs; unfold dWhile3
              rw [test, decide_eq_true hpos]
              simp only [h]
            have zl := zer_len (w.lgo s)
            have ll := lgo_len o s
            rcases st_inner o hc k fu _ _ _ (by simp only [List.length_append, List.length_singleton]; omega) (by omega) (by omega) I' with ⟨f1, f2⟩ | ⟨lay', met', f1, f2⟩
            · exact .inl ⟨f1, fun P c5 c6 c7 => by
                obtain ⟨x6, x7, st⟩ := step P c5 c6 c7
                rw [st]
                exact f2 P _ _ _⟩
            · exact .inr ⟨lay', met', f1, fun P c5 c6 c7 => by
                obtain ⟨x6, x7, st⟩ := step P c5 c6 c7
                rw [st]
                exact f2 P _ _ _⟩
theorem st_outer {w : Wr} (o : w.Ok) : ∀ (k fu c : Nat) (lay : Lay) (met : List (LS × Nat)), 53402 - c ≤ k → k < fu → SL w lay met (row lay c) c →
    (∃ c', Least w c' ∧ ∀ (P : Addr) (c4 c5 c6 c7 : Cel), ∃ w', dWhile3 (tE3 (xOp3 ltD (fun _ => xVar 3) (xLen0M))) r__law_fewest_b4 fu (layD lay) [.dat (wrD w), .exc P, .dic (keysL met), .dat (.int c), c4, c5, c6, c7] = .rt (.int (c' : Nat)) w') ∨
    ((∀ m n, Msg w m → Msg w n → m ≠ n → w.text m ≠ w.text n) ∧ ∀ (P : Addr) (c4 c5 c6 c7 : Cel), ∃ w' e', dWhile3 (tE3 (xOp3 ltD (fun _ => xVar 3) (xLen0M))) r__law_fewest_b4 fu (layD lay) [.dat (wrD w), .exc P, .dic (keysL met), .dat (.int c), c4, c5, c6, c7] = .nx w' e')
  | k, 0, c, lay, met, _, hk, _ => by omega
  | k, fu + 1, c, lay, met, hk2, hk, I => by
    have B := sl_bd o I
    have test : ∀ (P : Addr) (c4 c5 c6 c7 : Cel), (tE3 (xOp3 ltD (fun _ => xVar 3) (xLen0M))) (layD lay) [.dat (wrD w), .exc P, .dic (keysL met), .dat (.int c), c4, c5, c6, c7] = .ok (decide (c < lay.length)) := fun P c4 c5 c6 c7 => by
      simp [len_layD]
    have BL := B.l
    have BR := B.r c
    have BM := B.m
    by_cases hl : c < lay.length
    · have list : ∀ (P : Addr) (c4 c5 c6 c7 : Cel), sListM 4 (xVar 3) (layD lay) [.dat (wrD w), .exc P, .dic (keysL met), .dat (.int c), c4, c5, c6, c7] = .nx (layD lay) [.dat (wrD w), .exc P, .dic (keysL met), .dat (.int c), .own ((row lay c).map lsD), c5, c6, c7] := fun P c4 c5 c6 c7 => by
        have ra : rowAtM (layD lay) (.int (c : Int)) = some (setD lsD (row lay c)) := by
          show atI (layD lay) (c : Int) = _
          rw [atI_nat', layD, List.getElem?_map, List.getElem?_eq_getElem hl]
          unfold row
          rw [List.getD_eq_getElem?_getD, List.getElem?_eq_getElem hl]
          rfl
        have ks := keys_set (nD := lsD) (row lay c)
        simp only [sListM, xVar, celD, List.getElem?_cons_succ, List.getElem?_cons_zero, M.to3, ra, M.of, ks, List.set]
      match k, hk2 with
      | 0, hk2 => omega
      | k + 1, hk2 =>
        rcases st_inner o (c := c) (by omega) 600000 fuel (row lay c) lay met (by omega) (Nat.le_refl _) (Nat.lt_trans (by omega) fuel_big3) I with ⟨f1, f2⟩ | ⟨lay', met', f1, f2⟩
        · refine .inl ⟨c, f1, fun P c4 c5 c6 c7 => ?_⟩
          obtain ⟨w', h⟩ := f2 P c5 c6 c7
          have hb : r__law_fewest_b4 (layD lay) [.dat (wrD w), .exc P, .dic (keysL met), .dat (.int c), c4, c5, c6, c7] = .rt (.int c) w' := by
            unfold r__law_fewest_b4
            refine seq3_nx (list P c4 c5 c6 c7) ?_
            simp only [sSeq3, h, DOut3.then]
          refine ⟨w', ?_⟩
          unfold dWhile3
          rw [test, decide_eq_true hl]
          simp only [hb]
        · have step : ∀ (P : Addr) (c4 c5 c6 c7 : Cel), ∃ c4' c5' c6' c7', dWhile3 (tE3 (xOp3 ltD (fun _ => xVar 3) (xLen0M))) r__law_fewest_b4 (fu + 1) (layD lay) [.dat (wrD w), .exc P, .dic (keysL met), .dat (.int c), c4, c5, c6, c7] =
              dWhile3 (tE3 (xOp3 ltD (fun _ => xVar 3) (xLen0M))) r__law_fewest_b4 fu (layD lay') [.dat (wrD w), .exc P, .dic (keysL met'), .dat (.int (c + 1 : Nat)), c4', c5', c6', c7'] := fun P c4 c5 c6 c7 => by
            obtain ⟨x4, x5, x6, x7, h⟩ := f2 P c5 c6 c7
            refine ⟨x4, x5, x6, x7, ?_⟩
            have hb : r__law_fewest_b4 (layD lay) [.dat (wrD w), .exc P, .dic (keysL met), .dat (.int c), c4, c5, c6, c7] = .nx (layD lay') [.dat (wrD w), .exc P, .dic (keysL met'), .dat (.int (c + 1 : Nat)), x4, x5, x6, x7] := by
              unfold r__law_fewest_b4
              refine seq3_nx (list P c4 c5 c6 c7) ?_
              refine seq3_nx h ?_
              exact lift3_nx (by simp) rfl
            conv => lhs; unfold dWhile3
            rw [test, decide_eq_true hl]
            simp only [hb]
          rcases st_outer o k fu (c + 1) lay' met' (by omega) (by omega) (sl_next f1) with ⟨c', g1, g2⟩ | ⟨g1, g2⟩
          · exact .inl ⟨c', g1, fun P c4 c5 c6 c7 => by
              obtain ⟨x4, x5, x6, x7, s⟩ := step P c4 c5 c6 c7
              rw [s]
              exact g2 P _ _ _ _⟩
          · exact .inr ⟨g1, fun P c4 c5 c6 c7 => by
              obtain ⟨x4, x5, x6, x7, s⟩ := step P c4 c5 c6 c7
              rw [s]
              exact g2 P _ _ _ _⟩
    · refine .inr ⟨sl_none I (by omega), fun P c4 c5 c6 c7 => ⟨layD lay, [.dat (wrD w), .exc P, .dic (keysL met), .dat (.int c), c4, c5, c6, c7], ?_⟩⟩
      unfold dWhile3
      rw [test, decide_eq_false hl]
theorem fewest_eq {w : Wr} (o : w.Ok) :
    (∃ c : Nat, f__law_fewest [wrD w] = .ok (.int c) ∧ Least w c) ∨
    (f__law_fewest [wrD w] = .ok .non ∧ ∀ m n, Msg w m → Msg w n → m ≠ n → w.text m ≠ w.text n) := by
  have e : f__law_fewest [wrD w] = fnRes (r__law_fewest [.dat (wrD w), .un, .un, .un, .un, .un, .un, .un]) := rfl
  have en : ∀ d, (∀ P : Addr, ∃ w', r__law_fewest_n5 (layD [[.same 0]]) [.dat (wrD w), .exc P, .un, .un, .un, .un, .un, .un] = .rt d w') → f__law_fewest [wrD w] = .ok d := fun d h => by
    rw [e]
    have hr : r__law_fewest [.dat (wrD w), .un, .un, .un, .un, .un, .un, .un] = .rt d := by
      unfold r__law_fewest sEnterM
      obtain ⟨kk, hk⟩ := lsD_key (.same 0)
      have nx : newX (lsD (.same 0)) (.bl true) = some (setD lsD [.same 0]) := by
        have hk' : keyOk (.tup [.str "same", .int ((0 : Nat) : Int)]) = some kk := hk
        unfold newX lsD
        simp only [hk', Option.map_some]
        rfl
      have l1 : (xTup (aCons (xC (.str "same")) (aCons (xC (.int 0)) (aNil)))) [.dat (wrD w), .un, .un, .un, .un, .un, .un, .un] = .ok (lsD (.same 0)) := by
        simp [small_line]
        rfl
      have l2 : (xC (.bl true)) [.dat (wrD w), .un, .un, .un, .un, .un, .un, .un] = .ok (.bl true) := rfl
      rw [if_pos (by simp), l1]
      simp only [M.to, l2, nx, M.of]
      exact enterM_eq h
    rw [hr]
    rfl
  have pre : ∀ (P : Addr) (u : DStm3) (r : DOut3), u (layD [[.same 0]]) [.dat (wrD w), .exc P, .dic (keysL []), .dat (.int (0 : Nat)), .un, .un, .un, .un] = r →
      sSeq3 (sLiftM 1 (sDic0 2)) (sSeq3 (sLiftM 1 (sSet 3 (xC (.int 0)))) u) (layD [[.same 0]]) [.dat (wrD w), .exc P, .un, .un, .un, .un, .un, .un] = r := fun P u r h => by
    refine seq3_lift (e1 := [.dat (wrD w), .exc P, .dic (keysL []), .un, .un, .un, .un, .un]) (by simp [keysL, setD]) rfl ?_
    exact seq3_lift (e1 := [.dat (wrD w), .exc P, .dic (keysL []), .dat (.int (0 : Nat)), .un, .un, .un, .un]) (by simp) rfl h
  rcases st_outer o 53402 fuel 0 [[.same 0]] [] (by omega) (Nat.lt_trans (by omega) fuel_big3) (sl_start o) with ⟨c', f1, f2⟩ | ⟨f1, f2⟩
  · refine .inl ⟨c', en _ fun P => ?_, f1⟩
    obtain ⟨w', h⟩ := f2 P .un .un .un .un
    refine ⟨w', ?_⟩
    unfold r__law_fewest_n5
    refine pre P _ _ ?_
    simp only [sSeq3, h, DOut3.then]
  · refine .inr ⟨en _ fun P => ?_, f1⟩
    obtain ⟨w', e', h⟩ := f2 P .un .un .un .un
    refine ⟨w', ?_⟩
    unfold r__law_fewest_n5
    refine pre P _ _ ?_
    refine seq3_nx h ?_
    exact lift3_rt rfl
end Wk

namespace Wk
open PySem PySem.Spec PyProof.Rows L2 TL DL
/-! ### the lists as data -/
def wtD (wt : Wt) : WtL := wt.map fun r => r.map aeD
theorem row_wtD (wt : Wt) (i : Nat) : row (wtD wt) i = (row wt i).map aeD := by
  unfold row wtD
  rw [List.getD_eq_getElem?_getD, List.getD_eq_getElem?_getD, List.getElem?_map]
  cases wt[i]? <;> rfl
theorem len_wtD (wt : Wt) : (wtD wt).length = wt.length := by simp [wtD]
theorem put_wtD (wt : Wt) (c : Nat) (e : AE) : putW (wtD wt) c (aeD e) = wtD (putW wt c e) := by
  have hp : padW (wtD wt) c = wtD (padW wt c) := by
    unfold padW wtD
    simp
  unfold putW
  rw [hp, row_wtD]
  unfold wtD
  rw [List.map_set]
  simp
theorem seq2_lift {g : DStm} {u : DStm2} {wt : WtL} {env e1 : DEnv} {r : DOut2} (h : g env = .nx e1) (hp : e1[1]? = env[1]?) (hu : u wt e1 = r) : sSeq2 (sLift 1 g) u wt env = r := by
  simp only [sSeq2, sLift, h, hp, if_true, DOut2.then, hu]
theorem seq2_nx {a b : DStm2} {wt w1 : WtL} {env e1 : DEnv} {r : DOut2} (h : a wt env = .nx w1 e1) (hu : b w1 e1 = r) : sSeq2 a b wt env = r := by
  simp only [sSeq2, h, DOut2.then, hu]
theorem dLoop2_step {t : DTgt} {b : DStm2} {d : D} {ds : List D} {wt w1 : WtL} {e e1 e2 : DEnv} {r : DOut2} (h1 : t d e = some e1) (h2 : b wt e1 = .nx w1 e2) (h3 : dLoop2 t b ds w1 e2 = r) : dLoop2 t b (d :: ds) wt e = r := by
  unfold dLoop2
  simp only [h1, h2, h3]
theorem if2_t {t : WtL → DEnv → M Bool} {a b : DStm2} {wt : WtL} {env : DEnv} {r : DOut2} (h : t wt env = .ok true) (ha : a wt env = r) : sIf2 t a b wt env = r := by
  simp only [sIf2, h, M.to2, if_true, ha]
theorem if2_f {t : WtL → DEnv → M Bool} {a b : DStm2} {wt : WtL} {env : DEnv} {r : DOut2} (h : t wt env = .ok false) (hb : b wt env = r) : sIf2 t a b wt env = r := by
  simp only [sIf2, h, M.to2, Bool.false_eq_true, if_false, hb]
theorem for2_ok {it : DEnv → M (List D)} {t : DTgt} {b : DStm2} {wt : WtL} {env : DEnv} {ds : List D} {r : DOut2} (h : it env = .ok ds) (hl : dLoop2 t b ds wt env = r) : sFor2 it t b wt env = r := by
  simp only [sFor2, h, M.to2, hl]
theorem call_put {ga : DEnv → M (List D)} {env : DEnv} {wt : Wt} {c : Nat} {e : AE} (hg : ga env = .ok [.int (c : Int), aeD e]) (hc : c ≤ 90000) (hr : (row wt c).length ≤ 900000) : sCallN 2 f_put ga (wtD wt) env = .nx (wtD (putW wt c e)) env := by
  have p := put_eq (c := c) (d := aeD e) (wt := wtD wt) hc (by rw [row_wtD, List.length_map]; exact hr)
  rw [put_wtD] at p
  simp only [sCallN, hg, M.to2, List.length_cons, List.length_nil, if_true, p]
/-! ### gone_on -/
theorem goneon_body {w : Wr} {P : Addr} {c st : Nat} {b : ON} {r : T} {m n : List Nat} {mv : Mv} {wt : Wt} (c3 c8 c9 : Cel) (hr : r.length ≤ 1000) (ht : mv.t.length ≤ 1000) (hg : mv.g.length ≤ 1) (hm : m.length ≤ 50000) (hn : n.length ≤ 50000) (hc : c ≤ 80000) (hw : ∀ i, (row wt i).length ≤ 900000) :
    ∃ c8' c9', r_gone_on_b1 (wtD wt) [.dat (wrD w), .exc P, .dat (.int c), c3, .dat (sptD (some st) b r), .dat (mD m), .dat (mD n), .dat (mvD mv), c8, c9] =
      .nx (wtD (puts wt c (goE b r m n mv).toList)) [.dat (wrD w), .exc P, .dat (.int c), c3, .dat (sptD (some st) b r), .dat (mD m), .dat (mD n), .dat (mvD mv), c8', c9'] := by
  have af := after_eq (a := some st) (b := b) hr ht
  unfold r_gone_on_b1 goE
  cases q : afterM b r mv with
  | none =>
    rw [q] at af
    refine ⟨.dat .non, c9, ?_⟩
    refine seq2_lift (e1 := [.dat (wrD w), .exc P, .dat (.int c), c3, .dat (sptD (some st) b r), .dat (mD m), .dat (mD n), .dat (mvD mv), .dat .non, c9]) (by simp [af, afterD]) rfl ?_
    exact if2_f (by simp [isNND]) rfl
  | some x =>
    rw [q] at af
    obtain ⟨⟨a', b', r'⟩, f⟩ := x
    have ad : addD (mD m) (mD mv.g) = some (mD (m ++ mv.g)) := add_mm (by omega)
    have ln := lenmD mv.g
    refine ⟨.dat (afterD (some ((a', b', r'), f))), .dat (mD (m ++ mv.g)), ?_⟩
    refine seq2_lift (e1 := [.dat (wrD w), .exc P, .dat (.int c), c3, .dat (sptD (some st) b r), .dat (mD m), .dat (mD n), .dat (mvD mv), .dat (afterD (some ((a', b', r'), f))), c9]) (by simp [af]) rfl ?_
    refine if2_t (by simp [afterD, isNND]) ?_
    refine seq2_lift (e1 := [.dat (wrD w), .exc P, .dat (.int c), c3, .dat (sptD (some st) b r), .dat (mD m), .dat (mD n), .dat (mvD mv), .dat (afterD (some ((a', b', r'), f))), .dat (mD (m ++ mv.g))]) (by simp [ad]) rfl ?_
    have a0 : ixAD (afterD (some ((a', b', r'), f))) (.int 0) = some (sptD a' b' r') := rfl
    have a1 : ixAD (afterD (some ((a', b', r'), f))) (.int 1) = some (.bl f) := rfl
    have sm : (c : Int) + (mv.g.length : Int) = ((c + mv.g.length : Nat) : Int) := by omega
    have bnd : c + mv.g.length ≤ 90000 := by omega
    cases f with
    | true =>
      refine if2_t (by simp [a1]) ?_
      refine call_put (e := .spt a' b' r' n (m ++ mv.g)) ?_ bnd (hw _)
      simp [a0, ln, small_line]
      rfl
    | false =>
      refine if2_f (by simp [a1]) ?_
      refine call_put (e := .spt a' b' r' (m ++ mv.g) n) ?_ bnd (hw _)
      simp [a0, ln, small_line]
      rfl
theorem opt_fm {α β : Type} (f : α → Option β) (a : α) (l : List α) : (a :: l).filterMap f = (f a).toList ++ l.filterMap f := by
  rw [List.filterMap_cons]
  cases f a <;> rfl
theorem opt_len {β : Type} (x : Option β) : x.toList.length ≤ 1 := by cases x <;> simp
theorem goneon_loop {w : Wr} {P : Addr} {c st : Nat} {b : ON} {r : T} {m n : List Nat} (c3 : Cel) (hr : r.length ≤ 1000) (hm : m.length ≤ 50000) (hn : n.length ≤ 50000) (hc : c ≤ 80000) : ∀ (l : List Mv) (wt : Wt) (c7 c8 c9 : Cel), (∀ mv ∈ l, mv.t.length ≤ 1000 ∧ mv.g.length ≤ 1) → (∀ i, (row wt i).length + l.length ≤ 900000) →
    ∃ c7' c8' c9', dLoop2 (gN 7) r_gone_on_b1 (l.map mvD) (wtD wt) [.dat (wrD w), .exc P, .dat (.int c), c3, .dat (sptD (some st) b r), .dat (mD m), .dat (mD n), c7, c8, c9] =
      .nx (wtD (puts wt c (l.filterMap (goE b r m n)))) [.dat (wrD w), .exc P, .dat (.int c), c3, .dat (sptD (some st) b r), .dat (mD m), .dat (mD n), c7', c8', c9']
  | [], wt, c7, c8, c9, _, _ => ⟨c7, c8, c9, rfl⟩
  | mv :: l, wt, c7, c8, c9, h, hw => by
    obtain ⟨h1, h2⟩ := h mv List.mem_cons_self
    obtain ⟨y8, y9, e1⟩ := goneon_body (w := w) (P := P) (c := c) (st := st) (b := b) (r := r) (m := m) (n := n) (mv := mv) (wt := wt) c3 c8 c9 hr h1 h2 hm hn hc (fun i => by have := hw i; omega)
    obtain ⟨x7, x8, x9, e2⟩ := goneon_loop (P := P) (w := w) (st := st) c3 hr hm hn hc l (puts wt c (goE b r m n mv).toList) (.dat (mvD mv)) y8 y9 (fun x hx => h x (List.mem_cons_of_mem _ hx)) (fun i => by
      have a1 := rowlen_puts c i (goE b r m n mv).toList wt
      have a2 := opt_len (goE b r m n mv)
      have a3 := hw i
      rw [List.length_cons] at a3
      omega)
    refine ⟨x7, x8, x9, dLoop2_step rfl e1 (e2.trans ?_)⟩
    rw [opt_fm, puts_app]
theorem gone_on_eq {w : Wr} (o : w.Ok) {c st : Nat} {b : ON} {r : T} {m n : List Nat} {wt : Wt} (hs : st < w.rows.length) (hr : r.length ≤ 1000) (hm : m.length ≤ 50000) (hn : n.length ≤ 50000) (hc : c ≤ 80000) (hw : ∀ i, (row wt i).length ≤ 800000) :
    f_gone_on [wrD w, .int c, aeD (.spt (some st) b r m n)] (wtD wt) = .ok (wtD (puts wt c (w.exps (.spt (some st) b r m n)))) := by
  refine fnN_eq fun P => ?_
  have ml := moves_len o st
  obtain ⟨x7, x8, x9, l⟩ := goneon_loop (w := w) (P := P) (c := c) (st := st) (b := b) (.dat (aeD (.spt (some st) b r m n))) hr hm hn hc (w.moves st) wt .un .un .un (fun mv hmv => by
    obtain ⟨a1, _, a3⟩ := move_in o hs hmv
    have := (allT_wd o _ a1).1
    exact ⟨by omega, a3⟩) (fun i => by have := hw i; omega)
  refine ⟨[.dat (wrD w), .exc P, .dat (.int c), .dat (aeD (.spt (some st) b r m n)), .dat (sptD (some st) b r), .dat (mD m), .dat (mD n), x7, x8, x9], ?_⟩
  show r_gone_on (wtD wt) [.dat (wrD w), .exc P, .dat (.int c), .dat (aeD (.spt (some st) b r m n)), .un, .un, .un, .un, .un, .un] = _
  unfold r_gone_on
  refine seq2_lift (e1 := [.dat (wrD w), .exc P, .dat (.int c), .dat (aeD (.spt (some st) b r m n)), .dat (sptD (some st) b r), .dat (mD m), .dat (mD n), .un, .un, .un]) (by simp [aeD]) rfl ?_
  have mv := moves_eq o hs
  exact for2_ok (ds := (w.moves st).map mvD) (by simp [oND, mv, itemsD]) l
/-! ### begun -/
theorem begun_body {w : Wr} {P : Addr} {c st : Nat} {m : List Nat} {p : Mv × Mv} {wt : Wt} (c3 c7 c8 c9 c10 c11 : Cel) (h1 : p.1.t.length ≤ 1000) (h2 : p.2.t.length ≤ 1000) (g1 : p.1.g.length ≤ 1) (g2 : p.2.g.length ≤ 1) (hm : m.length ≤ 50000) (hc : c ≤ 80000) (hw : ∀ i, (row wt i).length ≤ 900000) :
    ∃ c7' c8' c9' c10' c11', r_begun_b1 (wtD wt) [.dat (wrD w), .exc P, .dat (.int c), c3, .dat (mD m), .dat (mvD p.1), .dat (mvD p.2), c7, c8, c9, c10, c11] =
      .nx (wtD (puts wt c (beE m p).toList)) [.dat (wrD w), .exc P, .dat (.int c), c3, .dat (mD m), .dat (mvD p.1), .dat (mvD p.2), c7', c8', c9', c10', c11'] := by
  obtain ⟨one, other⟩ := p
  have rs := rest_of_eq (x := other.t) (y := one.t) h2 h1
  unfold r_begun_b1 beE begM
  simp only at g1 g2 ⊢
  cases q : restOf other.t one.t with
  | none =>
    rw [q] at rs
    refine ⟨.dat .non, c8, c9, c10, c11, ?_⟩
    refine seq2_lift (e1 := [.dat (wrD w), .exc P, .dat (.int c), c3, .dat (mD m), .dat (mvD one), .dat (mvD other), .dat .non, c8, c9, c10, c11]) (by simp [rs, restD]) rfl ?_
    exact if2_f (by simp [isNND]) rfl
  | some x =>
    rw [q] at rs
    obtain ⟨f, r⟩ := x
    have ad1 : addD (mD m) (mD one.g) = some (mD (m ++ one.g)) := add_mm (by omega)
    have ad2 : addD (mD m) (mD other.g) = some (mD (m ++ other.g)) := add_mm (by omega)
    have ln1 := lenmD one.g
    have ln2 := lenmD other.g
    have inn := isNN_rest (some (f, r))
    have sm : (c : Int) + (one.g.length : Int) + (other.g.length : Int) = ((c + (one.g.length + other.g.length) : Nat) : Int) := by omega
    have bnd : c + (one.g.length + other.g.length) ≤ 90000 := by omega
    have fin : ∀ (sp : ON × ON × T) (x y : List Nat), ∃ c7' c8' c9' c10' c11', sCallN 2 f_put (aCons (xVar 10) (aCons (xTup (aCons (xVar 11) (aCons (xVar 8) (aCons (xVar 9) (aNil))))) (aNil))) (wtD wt) [.dat (wrD w), .exc P, .dat (.int c), c3, .dat (mD m), .dat (mvD one), .dat (mvD other), .dat (restD (some (f, r))), .dat (mD x), .dat (mD y), .dat (.int ((c + (one.g.length + other.g.length) : Nat) : Int)), .dat (sptD sp.1 sp.2.1 sp.2.2)] =
        .nx (wtD (putW wt (c + (one.g.length + other.g.length)) (.spt sp.1 sp.2.1 sp.2.2 x y))) [.dat (wrD w), .exc P, .dat (.int c), c3, .dat (mD m), .dat (mvD one), .dat (mvD other), c7', c8', c9', c10', c11'] := fun sp x y => by
      refine ⟨_, _, _, _, _, call_put (e := .spt sp.1 sp.2.1 sp.2.2 x y) ?_ bnd (hw _)⟩
      simp [small_line]
      rfl
    refine Exists.imp (fun _ => Exists.imp fun _ => Exists.imp fun _ => Exists.imp fun _ => Exists.imp fun _ h => ?_) (fin (if f = true then (if one.o = none ∧ r = [] then (other.o, none, []) else (one.o, other.o, r)) else (if other.o = none ∧ r = [] then (one.o, none, []) else (other.o, one.o, r)))
      (if f = true then (if one.o = none ∧ r = [] then m ++ other.g else m ++ one.g) else (if other.o = none ∧ r = [] then m ++ one.g else m ++ other.g)) (if f = true then (if one.o = none ∧ r = [] then m ++ one.g else m ++ other.g) else (if other.o = none ∧ r = [] then m ++ other.g else m ++ one.g)))
    refine seq2_lift (e1 := [.dat (wrD w), .exc P, .dat (.int c), c3, .dat (mD m), .dat (mvD one), .dat (mvD other), .dat (restD (some (f, r))), c8, c9, c10, c11]) (by simp [rs]) rfl ?_
    refine if2_t (by simp [inn]) ?_
    refine seq2_lift (e1 := [.dat (wrD w), .exc P, .dat (.int c), c3, .dat (mD m), .dat (mvD one), .dat (mvD other), .dat (restD (some (f, r))), .dat (mD (m ++ one.g)), c9, c10, c11]) (by simp [ad1]) rfl ?_
    refine seq2_lift (e1 := [.dat (wrD w), .exc P, .dat (.int c), c3, .dat (mD m), .dat (mvD one), .dat (mvD other), .dat (restD (some (f, r))), .dat (mD (m ++ one.g)), .dat (mD (m ++ other.g)), c10, c11]) (by simp [ad2]) rfl ?_
    refine seq2_lift (e1 := [.dat (wrD w), .exc P, .dat (.int c), c3, .dat (mD m), .dat (mvD one), .dat (mvD other), .dat (restD (some (f, r))), .dat (mD (m ++ one.g)), .dat (mD (m ++ other.g)), .dat (.int ((c + (one.g.length + other.g.length) : Nat) : Int)), c11]) (by simp [ln1, ln2]; omega) rfl ?_
    have nt : tD [] = .str "" := nil_tD.symm
    cases f with
    | true =>
      refine seq2_lift (e1 := [.dat (wrD w), .exc P, .dat (.int c), c3, .dat (mD m), .dat (mvD one), .dat (mvD other), .dat (restD (some (true, r))), .dat (mD (m ++ one.g)), .dat (mD (m ++ other.g)), .dat (.int ((c + (one.g.length + other.g.length) : Nat) : Int)), .dat (sptD one.o other.o r)]) (by simp [small_line]; rfl) rfl ?_
      by_cases z : one.o = none ∧ r = []
      · simp only [if_pos z, if_true] at h ⊢
        refine seq2_lift (e1 := [.dat (wrD w), .exc P, .dat (.int c), c3, .dat (mD m), .dat (mvD one), .dat (mvD other), .dat (restD (some (true, r))), .dat (mD (m ++ other.g)), .dat (mD (m ++ one.g)), .dat (.int ((c + (one.g.length + other.g.length) : Nat) : Int)), .dat (sptD other.o none [])]) (by
          simp [isN_o, z.1, z.2, eq_nilT, small_line]
          simp [sptD, oND, nt]) rfl ?_
        exact h
      · simp only [if_neg z, if_true] at h ⊢
        refine seq2_lift (e1 := [.dat (wrD w), .exc P, .dat (.int c), c3, .dat (mD m), .dat (mvD one), .dat (mvD other), .dat (restD (some (true, r))), .dat (mD (m ++ one.g)), .dat (mD (m ++ other.g)), .dat (.int ((c + (one.g.length + other.g.length) : Nat) : Int)), .dat (sptD one.o other.o r)]) (by
          by_cases y : one.o = none
          · have y2 : r ≠ [] := fun k => z ⟨y, k⟩
            simp [isN_o, y, y2, eq_nilT]
          · simp [isN_o, y]) rfl ?_
        exact h
    | false =>
      refine seq2_lift (e1 := [.dat (wrD w), .exc P, .dat (.int c), c3, .dat (mD m), .dat (mvD one), .dat (mvD other), .dat (restD (some (false, r))), .dat (mD (m ++ other.g)), .dat (mD (m ++ one.g)), .dat (.int ((c + (one.g.length + other.g.length) : Nat) : Int)), .dat (sptD other.o one.o r)]) (by simp [small_line]; rfl) rfl ?_
      by_cases z : other.o = none ∧ r = []
      · simp only [if_pos z, Bool.false_eq_true, if_false] at h ⊢
        refine seq2_lift (e1 := [.dat (wrD w), .exc P, .dat (.int c), c3, .dat (mD m), .dat (mvD one), .dat (mvD other), .dat (restD (some (false, r))), .dat (mD (m ++ one.g)), .dat (mD (m ++ other.g)), .dat (.int ((c + (one.g.length + other.g.length) : Nat) : Int)), .dat (sptD one.o none [])]) (by
          simp [isN_o, z.1, z.2, eq_nilT, small_line]
          simp [sptD, oND, nt]) rfl ?_
        exact h
      · simp only [if_neg z, Bool.false_eq_true, if_false] at h ⊢
        refine seq2_lift (e1 := [.dat (wrD w), .exc P, .dat (.int c), c3, .dat (mD m), .dat (mvD one), .dat (mvD other), .dat (restD (some (false, r))), .dat (mD (m ++ other.g)), .dat (mD (m ++ one.g)), .dat (.int ((c + (one.g.length + other.g.length) : Nat) : Int)), .dat (sptD other.o one.o r)]) (by
          by_cases y : other.o = none
          · have y2 : r ≠ [] := fun k => z ⟨y, k⟩
            simp [isN_o, y, y2, eq_nilT]
          · simp [isN_o, y]) rfl ?_
        exact h
theorem begun_loop {w : Wr} {P : Addr} {c : Nat} {m : List Nat} (c3 : Cel) (hm : m.length ≤ 50000) (hc : c ≤ 80000) : ∀ (l : List (Mv × Mv)) (wt : Wt) (c5 c6 c7 c8 c9 c10 c11 : Cel), (∀ p ∈ l, (p.1.t.length ≤ 1000 ∧ p.1.g.length ≤ 1) ∧ p.2.t.length ≤ 1000 ∧ p.2.g.length ≤ 1) → (∀ i, (row wt i).length + l.length ≤ 900000) →
    ∃ c5' c6' c7' c8' c9' c10' c11', dLoop2 (gT (gsCons (gN 5) (gsCons (gN 6) (gsNil)))) r_begun_b1 (l.map pD) (wtD wt) [.dat (wrD w), .exc P, .dat (.int c), c3, .dat (mD m), c5, c6, c7, c8, c9, c10, c11] =
      .nx (wtD (puts wt c (l.filterMap (beE m)))) [.dat (wrD w), .exc P, .dat (.int c), c3, .dat (mD m), c5', c6', c7', c8', c9', c10', c11']
  | [], wt, c5, c6, c7, c8, c9, c10, c11, _, _ => ⟨c5, c6, c7, c8, c9, c10, c11, rfl⟩
  | p :: l, wt, c5, c6, c7, c8, c9, c10, c11, h, hw => by
    obtain ⟨⟨h1, h2⟩, h3, h4⟩ := h p List.mem_cons_self
    obtain ⟨y7, y8, y9, y10, y11, e1⟩ := begun_body (w := w) (P := P) (c := c) (st := 0) (m := m) (p := p) (wt := wt) c3 c7 c8 c9 c10 c11 h1 h3 h2 h4 hm hc (fun i => by have := hw i; omega)
    obtain ⟨x5, x6, x7, x8, x9, x10, x11, e2⟩ := begun_loop (P := P) (w := w) c3 hm hc l (puts wt c (beE m p).toList) (.dat (mvD p.1)) (.dat (mvD p.2)) y7 y8 y9 y10 y11 (fun x hx => h x (List.mem_cons_of_mem _ hx)) (fun i => by
      have a1 := rowlen_puts c i (beE m p).toList wt
      have a2 := opt_len (beE m p)
      have a3 := hw i
      rw [List.length_cons] at a3
      omega)
    refine ⟨x5, x6, x7, x8, x9, x10, x11, dLoop2_step rfl e1 (e2.trans ?_)⟩
    rw [opt_fm, puts_app]
theorem begun_eq {w : Wr} (o : w.Ok) {c st : Nat} {m : List Nat} {wt : Wt} (hs : st < w.rows.length) (hm : m.length ≤ 50000) (hc : c ≤ 80000) (hw : ∀ i, (row wt i).length ≤ 800000) :
    f_begun [wrD w, .int c, .int st, mD m] (wtD wt) = .ok (wtD (puts wt c ((pairsOf (w.moves st)).filterMap (beE m)))) := by
  refine fnN_eq fun P => ?_
  have ml := pairs_len (moves_len o st)
  have mo : ∀ mv ∈ w.moves st, mv.t.length ≤ 1000 ∧ mv.g.length ≤ 1 := fun mv hmv => by
    obtain ⟨a1, _, a3⟩ := move_in o hs hmv
    have := (allT_wd o _ a1).1
    exact ⟨by omega, a3⟩
  obtain ⟨x5, x6, x7, x8, x9, x10, x11, l⟩ := begun_loop (w := w) (P := P) (c := c) (m := m) (.dat (.int st)) hm hc (pairsOf (w.moves st)) wt .un .un .un .un .un .un .un (fun p hp => by
    obtain ⟨i1, i2⟩ := pair_in hp
    exact ⟨mo _ i1, mo _ i2⟩) (fun i => by have := hw i; omega)
  refine ⟨[.dat (wrD w), .exc P, .dat (.int c), .dat (.int st), .dat (mD m), x5, x6, x7, x8, x9, x10, x11], ?_⟩
  show r_begun (wtD wt) [.dat (wrD w), .exc P, .dat (.int c), .dat (.int st), .dat (mD m), .un, .un, .un, .un, .un, .un, .un] = _
  unfold r_begun
  have st2 := starts_eq o hs
  exact for2_ok (ds := (pairsOf (w.moves st)).map pD) (by simp [st2, itemsD]) l
end Wk

namespace Wk
open PySem PySem.Spec PyProof.Rows L2 TL DL
theorem in_set {N : Type} [DecidableEq N] {nD : N → D} (inj : ∀ a b, nD a = nD b → a = b) {n : N} {k : NestedKey} (hk : keyOk (nD n) = some k) (S : List N) : inX (setD nD S) (nD n) = some (.bl (decide (n ∈ S))) := by
  unfold inX
  rw [hk, dAt_set inj]
  by_cases h : n ∈ S
  · rw [if_pos h, decide_eq_true h]; rfl
  · rw [if_neg h, decide_eq_false h]; rfl
theorem fuel_big' : 3000000 < fuel := by unfold fuel; decide
theorem seq2_ct {g : DStm} {u : DStm2} {wt : WtL} {env e1 : DEnv} (h : g env = .ct e1) (hp : e1[1]? = env[1]?) : sSeq2 (sLift 1 g) u wt env = .ct wt e1 := by
  simp only [sSeq2, sLift, h, hp, if_true, DOut2.then]
theorem lift_rt {g : DStm} {wt : WtL} {env : DEnv} {d : D} (h : g env = .rt d) : sLift 1 g wt env = .rt d wt := by
  simp only [sLift, h]
/-! ### alike -/
theorem eqOk_spt (a b : ON) {r : T} (h : Wd r) : eqOk 60 (sptD a b r) = true := by
  have := eqOk_tD (n := 59) h.uni
  cases a <;> cases b <;> simp [sptD, oND, eqOk, eqOks, this]
theorem ae_key0 (e : AE) : ixAD (aeD e) (.int 0) = some (anD e.key) := by cases e <;> rfl
theorem al_signs {w : Wr} (o : w.Ok) {P : Addr} {c st : Nat} {m : List Nat} (c2 c4 : Cel) (hs : st < w.rows.length) (hm : m.length ≤ 50000) (hc : c ≤ 80000) : ∀ (cs : List Nat) (wt : Wt) (c6 : Cel), (∀ k ∈ cs, k < w.signs) → (∀ i, (row wt i).length + cs.length ≤ 900000) →
    ∃ c6', dLoop2 (gN 6) r_alike_b1 (cs.map fun (k : Nat) => D.int (k : Int)) (wtD wt) [.dat (wrD w), .exc P, c2, .dat (.int c), c4, .dat (aeD (.com st m)), c6] =
      .nx (wtD (puts wt c (cs.map fun k => (2, .com (w.at st k).2 (m ++ [k]))))) [.dat (wrD w), .exc P, c2, .dat (.int c), c4, .dat (aeD (.com st m)), c6']
  | [], wt, c6, _, _ => ⟨c6, rfl⟩
  | k :: cs, wt, c6, h, hw => by
    have hk := h k List.mem_cons_self
    obtain ⟨r, h1, h2, h3, h4⟩ := o.at_ok hs hk
    obtain ⟨x6, e2⟩ := al_signs o (P := P) c2 c4 hs hm hc cs (puts wt c [(2, .com (w.at st k).2 (m ++ [k]))]) (.dat (.int k)) (fun x hx => h x (List.mem_cons_of_mem _ hx)) (fun i => by
      have a1 := rowlen_puts c i [(2, (AE.com (w.at st k).2 (m ++ [k])))] wt
      have a3 := hw i
      simp only [List.length_cons, List.length_nil] at a1 a3
      omega)
    refine ⟨x6, dLoop2_step (e1 := [.dat (wrD w), .exc P, c2, .dat (.int c), c4, .dat (aeD (.com st m)), .dat (.int k)]) rfl ?_ e2⟩
    have ad : addD (mD m) (.lst [.int (k : Int)]) = some (mD (m ++ [k])) := add_mm (n := [k]) (by simp; omega)
    have i0 : ixAD (aeD (.com st m)) (.int 0) = some (.int (st : Int)) := rfl
    have i1 : ixAD (aeD (.com st m)) (.int 1) = some (mD m) := rfl
    have sm : (c : Int) + 2 = ((c + 2 : Nat) : Int) := by omega
    unfold r_alike_b1
    refine call_put (c := c + 2) (e := .com (w.at st k).2 (m ++ [k])) ?_ (by omega) (by have := hw (c + 2); omega)
    have q1 := ix_rows h1
    have q2 := ix_row h2
    simp [i0, i1, q1, q2, pairD, ad, small_line]
    rfl
structure Bd (w : Wr) (wt : Wt) (met : List (AN × Nat)) (c : Nat) : Prop where
  m : met.length ≤ 13300
  l : wt.length ≤ 26601
  r : ∀ i, (row wt i).length ≤ 199501
theorem si_bd {w : Wr} (o : w.Ok) {wt : Wt} {met : List (AN × Nat)} {c i0 : Nat} (I : SI w wt met c i0) : Bd w wt met c where
  m := Nat.le_trans (si_met I) (aF_len o)
  l := by have := I.len; have := si_met I; have := aF_len o; omega
  r := fun i => by have := I.rows i; have := si_met I; have := aF_len o; omega
def keysD (met : List (AN × Nat)) : List (D × D) := setD anD (met.map (·.1))
theorem al_body {w : Wr} (o : w.Ok) {wt : Wt} {met : List (AN × Nat)} {c i0 : Nat} {e : AE} (I : SI w wt met c i0) (he : (row wt c)[i0]? = some e) (hc : c < wt.length) (P : Addr) (c5 c6 : Cel) :
    (e.key ∈ met.map (·.1) → r_alike_b2 (wtD wt) [.dat (wrD w), .exc P, .dic (keysD met), .dat (.int c), .dat (.int i0), c5, c6] = .ct (wtD wt) [.dat (wrD w), .exc P, .dic (keysD met), .dat (.int c), .dat (.int (i0 + 1 : Nat)), .dat (aeD e), c6]) ∧
    (e.key ∉ met.map (·.1) → ∀ m n, e = .spt none none [] m n → r_alike_b2 (wtD wt) [.dat (wrD w), .exc P, .dic (keysD met), .dat (.int c), .dat (.int i0), c5, c6] = .rt (.tup [mD m, mD n]) (wtD wt)) ∧
    (e.key ∉ met.map (·.1) → e.key ≠ goalN → ∃ c6', r_alike_b2 (wtD wt) [.dat (wrD w), .exc P, .dic (keysD met), .dat (.int c), .dat (.int i0), c5, c6] = .nx (wtD (puts wt c (w.exps e))) [.dat (wrD w), .exc P, .dic (keysD (met ++ [(e.key, c)])), .dat (.int c), .dat (.int (i0 + 1 : Nat)), .dat (aeD e), c6']) := by
  have B := si_bd o I
  have B1 := B.m; have B2 := B.l; have B3 := B.r
  have hin := List.mem_of_getElem? he
  have hF := I.inF c e hin
  have hS := I.snd c e hin
  obtain ⟨kk, hk⟩ := anD_key e.key
  have inn := in_set anD_inj hk (met.map (·.1))
  have put := put_set anD_inj hk (S := met.map (·.1)) (by simp; omega)
  have k0 := ae_key0 e
  have hi0 : i0 < (row wt c).length := (List.getElem?_eq_some_iff.mp he).1
  have ra : rowAt (wtD wt) (.int (c : Int)) = some ((row wt c).map aeD) := by
    show atI (wtD wt) (c : Int) = _
    rw [atI_nat', wtD, List.getElem?_map, List.getElem?_eq_getElem hc]
    unfold row
    rw [List.getD_eq_getElem?_getD, List.getElem?_eq_getElem hc]
    rfl
  have rb : ixD ((row wt c).map aeD) (.int (i0 : Int)) = some (aeD e) := by
    show atI ((row wt c).map aeD) (i0 : Int) = _
    rw [atI_nat', List.getElem?_map, he]
    rfl
  have g1 : ∀ (u : DStm2) (r : DOut2), u (wtD wt) [.dat (wrD w), .exc P, .dic (keysD met), .dat (.int c), .dat (.int (i0 + 1 : Nat)), .dat (aeD e), c6] = r →
      sSeq2 (sSet2 5 (xAt2 (xVar 3) (xVar 4))) (sSeq2 (sLift 1 (sSet 4 (xOp addD (xVar 4) (xC (.int 1))))) u) (wtD wt) [.dat (wrD w), .exc P, .dic (keysD met), .dat (.int c), .dat (.int i0), c5, c6] = r := fun u r h => by
    refine seq2_nx (w1 := wtD wt) (e1 := [.dat (wrD w), .exc P, .dic (keysD met), .dat (.int c), .dat (.int i0), .dat (aeD e), c6]) (by simp [ra, rb]) ?_
    exact seq2_lift (e1 := [.dat (wrD w), .exc P, .dic (keysD met), .dat (.int c), .dat (.int (i0 + 1 : Nat)), .dat (aeD e), c6]) (by simp) rfl h
  have g2 : e.key ∉ met.map (·.1) → ∀ (u : DStm2) (r : DOut2), u (wtD wt) [.dat (wrD w), .exc P, .dic (keysD (met ++ [(e.key, c)])), .dat (.int c), .dat (.int (i0 + 1 : Nat)), .dat (aeD e), c6] = r →
      sSeq2 (sLift 1 (sIf (tE (xInX 2 (xOp ixAD (xVar 5) (xC (.int 0))))) (sCont) (sNext))) (sSeq2 (sLift 1 (sPutX 2 (xOp ixAD (xVar 5) (xC (.int 0))) (xC (.bl true)))) u) (wtD wt) [.dat (wrD w), .exc P, .dic (keysD met), .dat (.int c), .dat (.int (i0 + 1 : Nat)), .dat (aeD e), c6] = r := fun hn u r h => by
    rw [decide_eq_false hn] at inn
    refine seq2_lift (e1 := [.dat (wrD w), .exc P, .dic (keysD met), .dat (.int c), .dat (.int (i0 + 1 : Nat)), .dat (aeD e), c6]) (by simp [keysD, k0, inn]) rfl ?_
    refine seq2_lift (e1 := [.dat (wrD w), .exc P, .dic (keysD (met ++ [(e.key, c)])), .dat (.int c), .dat (.int (i0 + 1 : Nat)), .dat (aeD e), c6]) ?_ rfl h
    have e2 : ins (met.map (·.1)) e.key = (met ++ [(e.key, c)]).map (·.1) := by
      unfold ins
      rw [if_neg hn]
      simp
    rw [e2] at put
    simp [keysD, k0] at put ⊢
    simp [put]
  refine ⟨fun hy => ?_, fun hn m n hgo => ?_, fun hn hgo => ?_⟩
  · unfold r_alike_b2
    refine g1 _ _ ?_
    rw [decide_eq_true hy] at inn
    exact seq2_ct (by simp [keysD, k0, inn]) rfl
  · unfold r_alike_b2
    refine g1 _ _ (g2 hn _ _ ?_)
    subst hgo
    have ln : lenD [aeD (.spt none none [] m n)] = some (.int 3) := rfl
    have eq1 : eqD (.int 3) (.int 2) = some (.bl false) := by simp
    have a0 : ixAD (aeD (.spt none none [] m n)) (.int 0) = some (.tup [.non, .non, .str ""]) := by
      show some (sptD none none []) = _
      simp [sptD, oND, nil_tD]
    have a1 : ixAD (aeD (.spt none none [] m n)) (.int 1) = some (mD m) := rfl
    have a2 : ixAD (aeD (.spt none none [] m n)) (.int 2) = some (mD n) := rfl
    have eq2 : eqD (.tup [.non, .non, .str ""]) (.tup [.non, .non, .str ""]) = some (.bl true) := by
      have := eqOk_spt none none (r := []) ⟨by simp, fun c hc => by simp at hc⟩
      have e1 : (.tup [.non, .non, .str ""] : D) = sptD none none [] := by simp [sptD, oND, nil_tD]
      rw [e1, eqD_eq (by rw [this]; simp)]
      simp
    refine if2_f (by simp [ln]) ?_
    refine if2_t (by simp [a0, small_line, eq2]) ?_
    exact lift_rt (by simp [a1, a2, small_line])
  · unfold r_alike_b2
    cases e with
    | com st m =>
      obtain ⟨s1, s2, s3⟩ := hS
      have hs := aF_com.mp hF
      have bg := begun_eq o (c := c) (st := st) (m := m) (wt := wt) hs (by omega) (by omega) (fun i => by have := B3 i; omega)
      obtain ⟨x6, l⟩ := al_signs o (P := P) (c := c) (st := st) (m := m) (.dic (keysD (met ++ [((AE.com st m).key, c)]))) (.dat (.int (i0 + 1 : Nat))) hs (by omega) (by omega) (List.range w.signs) (puts wt c ((pairsOf (w.moves st)).filterMap (beE m))) c6 (fun k hk => List.mem_range.mp hk) (fun i => by
        have a1 := rowlen_puts c i ((pairsOf (w.moves st)).filterMap (beE m)) wt
        have a2 := List.length_filterMap_le (beE m) (pairsOf (w.moves st))
        have a3 := pairs_len (moves_len o st)
        have a4 := B3 i
        have a5 := o.s4
        rw [List.length_range]
        omega)
      refine ⟨x6, g1 _ _ (g2 hn _ _ ?_)⟩
      have ln : lenD [aeD (.com st m)] = some (.int 2) := rfl
      have a0 : ixAD (aeD (.com st m)) (.int 0) = some (.int st) := rfl
      have a1 : ixAD (aeD (.com st m)) (.int 1) = some (mD m) := rfl
      refine if2_t (by simp [ln]) ?_
      refine seq2_nx (w1 := wtD (puts wt c ((pairsOf (w.moves st)).filterMap (beE m)))) (e1 := [.dat (wrD w), .exc P, .dic (keysD (met ++ [((AE.com st m).key, c)])), .dat (.int c), .dat (.int (i0 + 1 : Nat)), .dat (aeD (.com st m)), c6]) (by simp [a0, a1, bg]) ?_
      refine (for2_ok (iRng_ok (ds := [.int (w.signs : Int)]) (by simp) (rng1_nat (by have := o.s4; omega))) l).trans ?_
      rw [← puts_app]
      rfl
    | spt a b r m n =>
      obtain ⟨f1, f2, f3⟩ := aF_spt.mp hF
      have rw_ := aU_wd o f3
      obtain ⟨s1, s2, s3, s4, s5, s6, s7⟩ := hS
      have ln : lenD [aeD (.spt a b r m n)] = some (.int 3) := rfl
      have a0 : ixAD (aeD (.spt a b r m n)) (.int 0) = some (sptD a b r) := rfl
      have eq2 : eqD (sptD a b r) (.tup [.non, .non, .str ""]) = some (.bl false) := by
        have e1 : (.tup [.non, .non, .str ""] : D) = anD goalN := by simp [anD, goalN, sptD, oND, nil_tD]
        rw [e1]
        have : eqD (sptD a b r) (anD goalN) = some (.bl (decide (sptD a b r = anD goalN))) := eqD_eq (by rw [eqOk_spt a b rw_, show eqOk 60 (anD goalN) = true from eqOk_spt none none ⟨by simp, fun c hc => by simp at hc⟩]; simp)
        rw [this]
        have : ¬ sptD a b r = anD goalN := fun z => hgo (anD_inj (.spt a b r) goalN z)
        simp [this]
      have a2 : ixAD (sptD a b r) (.int 0) = some (oND a) := rfl
      cases a with
      | none =>
        refine ⟨c6, g1 _ _ (g2 hn _ _ ?_)⟩
        refine if2_f (by simp [ln]) ?_
        refine if2_f (by simp [a0, small_line, eq2]) ?_
        exact if2_f (by simp [a0, oND, isNND]) rfl
      | some st =>
        have hs := aO_mem.mp f1 st rfl
        have go := gone_on_eq o (c := c) (st := st) (b := b) (r := r) (m := m) (n := n) (wt := wt) hs (by have := rw_.1; omega) (by omega) (by omega) (by omega) (fun i => by have := B3 i; omega)
        refine ⟨c6, g1 _ _ (g2 hn _ _ ?_)⟩
        refine if2_f (by simp [ln]) ?_
        refine if2_f (by simp [a0, small_line, eq2]) ?_
        refine if2_t (by simp [a0, oND, isNND]) ?_
        simp [go]
theorem al_inner {w : Wr} (o : w.Ok) {c : Nat} : ∀ (k fu i0 : Nat) (wt : Wt) (met : List (AN × Nat)), 199501 - i0 ≤ k → k < fu → SI w wt met c i0 → c < wt.length → i0 ≤ 199501 →
    (∃ m n, Found w m n ∧ m.length + n.length = c ∧ ∀ (P : Addr) (c5 c6 : Cel), ∃ w', dWhile2 (tE2 (xOp2 ltD (fun _ => xVar 4) (xLen1 (xVar 3)))) r_alike_b2 fu (wtD wt) [.dat (wrD w), .exc P, .dic (keysD met), .dat (.int c), .dat (.int i0), c5, c6] = .rt (.tup [mD m, mD n]) w') ∨
    (∃ wt' met', SI w wt' met' (c + 1) 0 ∧ ∀ (P : Addr) (c5 c6 : Cel), ∃ c4' c5' c6', dWhile2 (tE2 (xOp2 ltD (fun _ => xVar 4) (xLen1 (xVar 3)))) r_alike_b2 fu (wtD wt) [.dat (wrD w), .exc P, .dic (keysD met), .dat (.int c), .dat (.int i0), c5, c6] = .nx (wtD wt') [.dat (wrD w), .exc P, .dic (keysD met'), .dat (.int c), c4', c5', c6'])
  | k, 0, i0, wt, met, _, hk, _, _, _ => by omega
  | k, fu + 1, i0, wt, met, hk2, hk, I, hc, hi => by
    have B := si_bd o I
    have test : ∀ (P : Addr) (c5 c6 : Cel), (tE2 (xOp2 ltD (fun _ => xVar 4) (xLen1 (xVar 3)))) (wtD wt) [.dat (wrD w), .exc P, .dic (keysD met), .dat (.int c), .dat (.int i0), c5, c6] = .ok (decide (i0 < (row wt c).length)) := fun P c5 c6 => by
      have ra : rowAt (wtD wt) (.int (c : Int)) = some ((row wt c).map aeD) := by
        show atI (wtD wt) (c : Int) = _
        rw [atI_nat', wtD, List.getElem?_map, List.getElem?_eq_getElem hc]
        unfold row
        rw [List.getD_eq_getElem?_getD, List.getElem?_eq_getElem hc]
        rfl
      simp [ra]
    by_cases hl : i0 < (row wt c).length
    · have he : (row wt c)[i0]? = some (row wt c)[i0] := List.getElem?_eq_getElem hl
      generalize (row wt c)[i0] = e at he
      have hb := al_body o I he hc
      have hr := B.r c
      match k, hk2 with
      | 0, hk2 => omega
      | k + 1, hk2 =>
        by_cases h1 : e.key ∈ met.map (·.1)
        · have I' := si_skip I he h1
          have step : ∀ (P : Addr) (c5 c6 : Cel), dWhile2 (tE2 (xOp2 ltD (fun _ => xVar 4) (xLen1 (xVar 3)))) r_alike_b2 (fu + 1) (wtD wt) [.dat (wrD w), .exc P, .dic (keysD met), .dat (.int c), .dat (.int i0), c5, c6] =
              dWhile2 (tE2 (xOp2 ltD (fun _ => xVar 4) (xLen1 (xVar 3)))) r_alike_b2 fu (wtD wt) [.dat (wrD w), .exc P, .dic (keysD met), .dat (.int c), .dat (.int (i0 + 1 : Nat)), .dat (aeD e), c6] := fun P c5 c6 => by
            conv => lhs; unfold dWhile2
            rw [test, decide_eq_true hl]
            simp only [(hb P c5 c6).1 h1]
          rcases al_inner o k fu (i0 + 1) wt met (by omega) (by omega) I' hc (by omega) with ⟨m, n, f1, f2, f3⟩ | ⟨wt', met', f1, f2⟩
          · exact .inl ⟨m, n, f1, f2, fun P c5 c6 => by
              rw [step]
              exact f3 P _ _⟩
          · exact .inr ⟨wt', met', f1, fun P c5 c6 => by
              rw [step]
              exact f2 P _ _⟩
        · by_cases h2 : e.key = goalN
          · obtain ⟨m, n, hg⟩ : ∃ m n, e = .spt none none [] m n := by
              cases e with
              | com st m => simp [AE.key, goalN] at h2
              | spt a b r m n =>
                simp only [AE.key, goalN, AN.spt.injEq] at h2
                obtain ⟨q1, q2, q3⟩ := h2
                subst q1 q2 q3
                exact ⟨m, n, rfl⟩
            rw [hg] at he
            obtain ⟨f1, f2⟩ := si_found I he
            refine .inl ⟨m, n, f1, f2, fun P c5 c6 => ⟨wtD wt, ?_⟩⟩
            unfold dWhile2
            rw [test, decide_eq_true hl]
            simp only [(hb P c5 c6).2.1 h1 m n hg]
          · have I' := si_new o I he h1 h2
            have hlen : wt.length ≤ (puts wt c (w.exps e)).length := by
              refine (len_puts (c := c) (k := 2) (w.exps e) wt fun x hx => ?_).1
              have : (x.1, x.2.key) ∈ w.succs e.key := by
                rw [← exps_key]
                exact List.mem_map.mpr ⟨x, hx, rfl⟩
              exact (succs_in o (I.inF c e (List.mem_of_getElem? he)) _ this).1
            have step : ∀ (P : Addr) (c5 c6 : Cel), ∃ c6', dWhile2 (tE2 (xOp2 ltD (fun _ => xVar 4) (xLen1 (xVar 3)))) r_alike_b2 (fu + 1) (wtD wt) [.dat (wrD w), .exc P, .dic (keysD met), .dat (.int c), .dat (.int i0), c5, c6] =
                dWhile2 (tE2 (xOp2 ltD (fun _ => xVar 4) (xLen1 (xVar 3)))) r_alike_b2 fu (wtD (puts wt c (w.exps e))) [.dat (wrD w), .exc P, .dic (keysD (met ++ [(e.key, c)])), .dat (.int c), .dat (.int (i0 + 1 : Nat)), .dat (aeD e), c6'] := fun P c5 c6 => by
              obtain ⟨x6, h⟩ := (hb P c5 c6).2.2 h1 h2
              refine ⟨x6, ?_⟩
              conv => lhs; unfold dWhile2
              rw [test, decide_eq_true hl]
              simp only [h]
            rcases al_inner o k fu (i0 + 1) _ _ (by omega) (by omega) I' (by omega) (by omega) with ⟨m, n, f1, f2, f3⟩ | ⟨wt', met', f1, f2⟩
            · exact .inl ⟨m, n, f1, f2, fun P c5 c6 => by
                obtain ⟨x6, s⟩ := step P c5 c6
                rw [s]
                exact f3 P _ _⟩
            · exact .inr ⟨wt', met', f1, fun P c5 c6 => by
                obtain ⟨x6, s⟩ := step P c5 c6
                rw [s]
                exact f2 P _ _⟩
    · refine .inr ⟨wt, met, si_row I (by omega), fun P c5 c6 => ⟨.dat (.int i0), c5, c6, ?_⟩⟩
      unfold dWhile2
      rw [test, decide_eq_false hl]
theorem al_outer {w : Wr} (o : w.Ok) : ∀ (k fu c : Nat) (wt : Wt) (met : List (AN × Nat)), 26602 - c ≤ k → k < fu → SI w wt met c 0 →
    (∃ m n, Found w m n ∧ m.length + n.length ≤ 26600 ∧ ∀ (P : Addr) (c4 c5 c6 : Cel), ∃ w', dWhile2 (tE2 (xOp2 ltD (fun _ => xVar 3) (xLen0))) r_alike_b3 fu (wtD wt) [.dat (wrD w), .exc P, .dic (keysD met), .dat (.int c), c4, c5, c6] = .rt (.tup [mD m, mD n]) w') ∨
    ((∀ m n, Msg w m → Msg w n → m ≠ n → w.text m ≠ w.text n) ∧ ∀ (P : Addr) (c4 c5 c6 : Cel), ∃ w' e', dWhile2 (tE2 (xOp2 ltD (fun _ => xVar 3) (xLen0))) r_alike_b3 fu (wtD wt) [.dat (wrD w), .exc P, .dic (keysD met), .dat (.int c), c4, c5, c6] = .nx w' e')
  | k, 0, c, wt, met, _, hk, _ => by omega
  | k, fu + 1, c, wt, met, hk2, hk, I => by
    have B := si_bd o I
    have test : ∀ (P : Addr) (c4 c5 c6 : Cel), (tE2 (xOp2 ltD (fun _ => xVar 3) (xLen0))) (wtD wt) [.dat (wrD w), .exc P, .dic (keysD met), .dat (.int c), c4, c5, c6] = .ok (decide (c < wt.length)) := fun P c4 c5 c6 => by
      simp [len_wtD]
    have BL := B.l
    by_cases hl : c < wt.length
    · match k, hk2 with
      | 0, hk2 => omega
      | k + 1, hk2 =>
        rcases al_inner o 199501 fuel 0 wt met (by omega) (Nat.lt_trans (by omega) fuel_big') I hl (by omega) with ⟨m, n, f1, f2, f3⟩ | ⟨wt', met', f1, f2⟩
        · refine .inl ⟨m, n, f1, by omega, fun P c4 c5 c6 => ?_⟩
          obtain ⟨w', h⟩ := f3 P c5 c6
          have hb : r_alike_b3 (wtD wt) [.dat (wrD w), .exc P, .dic (keysD met), .dat (.int c), c4, c5, c6] = .rt (.tup [mD m, mD n]) w' := by
            unfold r_alike_b3
            refine seq2_lift (e1 := [.dat (wrD w), .exc P, .dic (keysD met), .dat (.int c), .dat (.int (0 : Nat)), c5, c6]) (by simp) rfl ?_
            simp only [sSeq2, h, DOut2.then]
          refine ⟨w', ?_⟩
          unfold dWhile2
          rw [test, decide_eq_true hl]
          simp only [hb]
        · have step : ∀ (P : Addr) (c4 c5 c6 : Cel), ∃ c4' c5' c6', dWhile2 (tE2 (xOp2 ltD (fun _ => xVar 3) (xLen0))) r_alike_b3 (fu + 1) (wtD wt) [.dat (wrD w), .exc P, .dic (keysD met), .dat (.int c), c4, c5, c6] =
              dWhile2 (tE2 (xOp2 ltD (fun _ => xVar 3) (xLen0))) r_alike_b3 fu (wtD wt') [.dat (wrD w), .exc P, .dic (keysD met'), .dat (.int (c + 1 : Nat)), c4', c5', c6'] := fun P c4 c5 c6 => by
            obtain ⟨x4, x5, x6, h⟩ := f2 P c5 c6
            refine ⟨x4, x5, x6, ?_⟩
            have hb : r_alike_b3 (wtD wt) [.dat (wrD w), .exc P, .dic (keysD met), .dat (.int c), c4, c5, c6] = .nx (wtD wt') [.dat (wrD w), .exc P, .dic (keysD met'), .dat (.int (c + 1 : Nat)), x4, x5, x6] := by
              unfold r_alike_b3
              refine seq2_lift (e1 := [.dat (wrD w), .exc P, .dic (keysD met), .dat (.int c), .dat (.int (0 : Nat)), c5, c6]) (by simp) rfl ?_
              refine seq2_nx h ?_
              simp
            conv => lhs; unfold dWhile2
            rw [test, decide_eq_true hl]
            simp only [hb]
          rcases al_outer o k fu (c + 1) wt' met' (by omega) (by omega) f1 with ⟨m, n, g1, g2, g3⟩ | ⟨g1, g2⟩
          · exact .inl ⟨m, n, g1, g2, fun P c4 c5 c6 => by
              obtain ⟨x4, x5, x6, s⟩ := step P c4 c5 c6
              rw [s]
              exact g3 P _ _ _⟩
          · exact .inr ⟨g1, fun P c4 c5 c6 => by
              obtain ⟨x4, x5, x6, s⟩ := step P c4 c5 c6
              rw [s]
              exact g2 P _ _ _⟩
    · refine .inr ⟨si_none I (by omega), fun P c4 c5 c6 => ⟨wtD wt, [.dat (wrD w), .exc P, .dic (keysD met), .dat (.int c), c4, c5, c6], ?_⟩⟩
      unfold dWhile2
      rw [test, decide_eq_false hl]
theorem alike_eq {w : Wr} (o : w.Ok) :
    (∃ m n, f_alike [wrD w] = .ok (.tup [mD m, mD n]) ∧ Found w m n ∧ m.length + n.length ≤ 26600) ∨
    (f_alike [wrD w] = .ok .non ∧ ∀ m n, Msg w m → Msg w n → m ≠ n → w.text m ≠ w.text n) := by
  have e : f_alike [wrD w] = fnRes (r_alike [.dat (wrD w), .un, .un, .un, .un, .un, .un]) := rfl
  have aw := asked_writer_ok o
  have en : ∀ d, (∀ P : Addr, ∃ w', r_alike_n4 (wtD [[.com 0 []]]) [.dat (wrD w), .exc P, .un, .un, .un, .un, .un] = .rt d w') → f_alike [wrD w] = .ok d := fun d h => by
    rw [e]
    have hr : r_alike [.dat (wrD w), .un, .un, .un, .un, .un, .un] = .rt d := by
      unfold r_alike
      refine sSeq_nx (e1 := [.dat (wrD w), .un, .un, .un, .un, .un, .un]) (by simp [aw]) ?_
      unfold sEnter
      have l1 : (lLst (aCons (xTup (aCons (xC (.int 0)) (aCons (xL (lLst (aNil))) (aNil)))) (aNil))) [.dat (wrD w), .un, .un, .un, .un, .un, .un] = .ok [.tup [.int 0, .lst []]] := by simp [small_line]
      rw [l1]
      exact enterR_eq h
    rw [hr]
    rfl
  have pre : ∀ (P : Addr) (u : DStm2) (r : DOut2), u (wtD [[.com 0 []]]) [.dat (wrD w), .exc P, .dic (keysD []), .dat (.int (0 : Nat)), .un, .un, .un] = r →
      sSeq2 (sLift 1 (sDic0 2)) (sSeq2 (sLift 1 (sSet 3 (xC (.int 0)))) u) (wtD [[.com 0 []]]) [.dat (wrD w), .exc P, .un, .un, .un, .un, .un] = r := fun P u r h => by
    refine seq2_lift (e1 := [.dat (wrD w), .exc P, .dic (keysD []), .un, .un, .un, .un]) (by simp [keysD, setD]) rfl ?_
    exact seq2_lift (e1 := [.dat (wrD w), .exc P, .dic (keysD []), .dat (.int (0 : Nat)), .un, .un, .un]) (by simp) rfl h
  rcases al_outer o 26602 fuel 0 [[.com 0 []]] [] (by omega) (Nat.lt_trans (by omega) fuel_big') (si_start o) with ⟨m, n, f1, f2, f3⟩ | ⟨f1, f2⟩
  · refine .inl ⟨m, n, en _ fun P => ?_, f1, f2⟩
    obtain ⟨w', h⟩ := f3 P .un .un .un
    refine ⟨w', ?_⟩
    unfold r_alike_n4
    refine pre P _ _ ?_
    simp only [sSeq2, h, DOut2.then]
  · refine .inr ⟨en _ fun P => ?_, f1⟩
    obtain ⟨w', e', h⟩ := f2 P .un .un .un
    refine ⟨w', ?_⟩
    unfold r_alike_n4
    refine pre P _ _ ?_
    refine seq2_nx h ?_
    exact lift_rt rfl
end Wk

namespace Wk
open PySem PySem.Spec PyProof.Rows L2 TL DL
/-! ### _law_is_message -/
theorem ismsg_loop {s : Nat} (a : Cel) : ∀ (ms : List Nat) (c2 : Cel), (∀ m ∈ ms, m < s) → ∃ c2', dLoop (gN 2) r__law_is_message_b1 (ms.map fun (m : Nat) => D.int (m : Int)) [a, .dat (.int (s : Int)), c2] = .nx [a, .dat (.int (s : Int)), c2']
  | [], c2, _ => ⟨c2, rfl⟩
  | m :: ms, c2, h => by
    have hm := h m List.mem_cons_self
    obtain ⟨c2', e⟩ := ismsg_loop a ms (.dat (.int m)) fun x hx => h x (List.mem_cons_of_mem _ hx)
    have i1 : isiD "int" (.int m) = some (.bl true) := rfl
    have i2 : isiD "bool" (.int m) = some (.bl false) := rfl
    have n1 : ¬ ((m : Int) < 0) := by omega
    have n2 : ¬ ((s : Int) ≤ (m : Int)) := by omega
    exact ⟨c2', dLoop_step rfl (by simp [r__law_is_message_b1, i1, i2, n1, n2]) e⟩
theorem ismsg_eq {s : Nat} {ms : List Nat} (h : ∀ m ∈ ms, m < s) : f__law_is_message [mD ms, .int s] = .ok (.bl true) := by
  have e : f__law_is_message [mD ms, .int s] = fnRes (r__law_is_message [.dat (mD ms), .dat (.int s), .un]) := rfl
  rw [e]
  obtain ⟨c2', l⟩ := ismsg_loop (.dat (mD ms)) ms .un h
  have i1 : isiD "list" (mD ms) = some (.bl true) := rfl
  have hr : r__law_is_message [.dat (mD ms), .dat (.int s), .un] = .rt (.bl true) := by
    unfold r__law_is_message
    refine sSeq_nx (e1 := [.dat (mD ms), .dat (.int s), .un]) (by simp [i1]) ?_
    refine sSeq_nx (sFor_ok (ds := ms.map fun (m : Nat) => D.int (m : Int)) (by simp [mD]) l) ?_
    simp
  rw [hr]
  rfl
end Wk

namespace Wk
open PySem PySem.Spec PyProof.Rows L2 TL DL
theorem add_big {a b : T} (h : a.length + b.length ≤ 900000) : addD (tD a) (tD b) = some (tD (a ++ b)) := by
  unfold tD addD
  have := line_big
  simp only [sv_len, sv_app]
  rw [if_pos (by omega)]
theorem lwritten_loop {w : Wr} (o : w.Ok) (x : Cel) : ∀ (ms : List Nat) (st : Nat) (acc : T) (c4 : Cel), st < w.rows.length → Msg w ms → acc.length + 8 * ms.length ≤ 800000 →
    ∃ c4', dLoop (gN 4) r__law_written_b1 (ms.map fun (m : Nat) => D.int (m : Int)) [.dat (wrD w), x, .dat (tD acc), .dat (.int (st : Int)), c4] =
      .nx [.dat (wrD w), x, .dat (tD (acc ++ (w.gone st ms).1)), .dat (.int ((w.gone st ms).2 : Int)), c4']
  | [], st, acc, c4, _, _, _ => ⟨c4, by simp [Wr.gone]⟩
  | m :: ms, st, acc, c4, h, hm, hl => by
    obtain ⟨r, h1, h2, h3, h4⟩ := o.at_ok h (hm m List.mem_cons_self)
    have h3l := h3.1
    simp only [List.length_cons] at hl
    obtain ⟨a, e⟩ := lwritten_loop o x ms (w.at st m).2 (acc ++ (w.at st m).1) (.dat (.int m)) h4 (fun x hx => hm x (List.mem_cons_of_mem _ hx)) (by simp; omega)
    have ha : addD (tD acc) (tD (w.at st m).1) = some (tD (acc ++ (w.at st m).1)) := add_big (by omega)
    exact ⟨a, dLoop_step rfl (by simp [r__law_written_b1, ix_rows h1, ix_row h2, ha]) (e.trans (by simp [Wr.gone]))⟩
theorem lwritten_big {w : Wr} (o : w.Ok) {ms : List Nat} (hm : Msg w ms) (hl : ms.length ≤ 90000) : f__law_written [wrD w, mD ms] = .ok (tD (w.text ms)) := by
  have e : f__law_written [wrD w, mD ms] = fnRes (r__law_written [.dat (wrD w), .dat (mD ms), .un, .un, .un]) := rfl
  rw [e]
  have r1 := o.r1
  obtain ⟨h1, h2⟩ := o.gone_ok ms 0 (by omega) hm
  obtain ⟨h3, h4⟩ := o.fin_ok h1
  have h4l := h4.1
  obtain ⟨c4, e1⟩ := lwritten_loop o (.dat (mD ms)) ms 0 [] .un (by omega) hm (by simp; omega)
  simp only [Int.natCast_zero] at e1
  have ha : addD (tD (w.gone 0 ms).1) (tD (w.fin (w.gone 0 ms).2)) = some (tD (w.text ms)) := add_big (by omega)
  simp only [mD] at e1 ⊢
  simp [r__law_written, nil_tD, e1, ix_ends h3, ha]
theorem right_ok {w : Wr} (o : w.Ok) {m n : List Nat} (F : Found w m n) (hl : m.length + n.length ≤ 26600) : f__law_right [wrD w, .tup [mD m, mD n], .int ((m.length + n.length : Nat) : Int)] = .ok (.bl true) := by
  have e : f__law_right [wrD w, .tup [mD m, mD n], .int ((m.length + n.length : Nat) : Int)] = fnRes (r__law_right [.dat (wrD w), .dat (.tup [mD m, mD n]), .dat (.int ((m.length + n.length : Nat) : Int))]) := rfl
  rw [e]
  have i1 := ismsg_eq (s := w.signs) F.m1
  have i2 := ismsg_eq (s := w.signs) F.m2
  have w1 := lwritten_big o F.m1 (by omega)
  have w2 := lwritten_big o F.m2 (by omega)
  rw [F.al] at w1
  have t1 : isiD "tuple" (.tup [mD m, mD n]) = some (.bl true) := rfl
  have l1 : lenD [.tup [mD m, mD n]] = some (.int 2) := rfl
  have a0 : ixAD (.tup [mD m, mD n]) (.int 0) = some (mD m) := rfl
  have a1 : ixAD (.tup [mD m, mD n]) (.int 1) = some (mD n) := rfl
  have q : eqD (mD m) (mD n) = some (.bl false) := by rw [eq_mD, decide_eq_false F.ne]
  have ln1 := lenmD m
  have ln2 := lenmD n
  have hr : r__law_right [.dat (wrD w), .dat (.tup [mD m, mD n]), .dat (.int ((m.length + n.length : Nat) : Int))] = .rt (.bl true) := by
    simp [r__law_right, t1, l1, a0, a1, i1, i2, q, ln1, ln2, w1, w2]
  rw [hr]
  rfl
theorem noL1 {w : Wr} : noLsts [wrD w] = true := by
  have r : ∀ rs : List (List (T × Nat)), noLsts (rs.map rowD) = true := fun rs => by
    induction rs with
    | nil => rfl
    | cons r rs ih =>
      have q : ∀ r : List (T × Nat), noLsts (r.map pairD) = true := fun r => by
        induction r with
        | nil => rfl
        | cons x r ih => simp [noLsts, pairD, noLst, tD, ih]
      simp [noLsts, rowD, noLst, q, ih]
  have q : ∀ es : List T, noLsts (es.map tD) = true := fun es => by
    induction es with
    | nil => rfl
    | cons x r ih => simp [noLsts, noLst, tD, ih]
  simp [noLsts, wrD, noLst, rowsD, endsD, r, q, tD]
theorem law_true (ns : List Int) (hn : ns.length ≤ 63) : f_law [.scr ns] = .ok (.bl true) := by
  have e : f_law [.scr ns] = fnRes (r_law [.dat (.scr ns), .un, .un, .un]) := rfl
  rw [e]
  have c2 := cell_eq (cells0 ns) 2
  simp only [Int.cast_ofNat_Int] at c2
  have f1 := modD_p (a := cellAt ns 2) (b := 8) (by decide)
  obtain ⟨b, c, hb, hc, hix⟩ : ∃ b c : Nat, (1 ≤ b ∧ b ≤ 6) ∧ c ≤ 8 ∧ ixAD (.lst [.tup [.int 4, .int 4, .int 3], .tup [.int 4, .int 6, .int 8]]) (.int (if cellAt ns 2 % 8 = 1 then 1 else 0)) = some (.tup [.int 4, .int b, .int c]) := by
    split
    · exact ⟨6, 8, by omega, by omega, rfl⟩
    · exact ⟨4, 3, by omega, by omega, rfl⟩
  have hint : intAD [.bl (decide (cellAt ns 2 % 8 = 1))] = some (.int (if cellAt ns 2 % 8 = 1 then 1 else 0)) := by
    by_cases h : cellAt ns 2 % 8 = 1
    · rw [decide_eq_true h, if_pos h]; rfl
    · rw [decide_eq_false h, if_neg h]; rfl
  obtain ⟨w, o, _, _, _, _, _, hw⟩ := writer_eq (cells0 ns) 0 (a := 4) (b := b) (c := c) (by omega) hb hc
  simp only [Int.natCast_zero, Int.cast_ofNat_Int] at hw
  have nl := noL1 (w := w)
  have hr : r_law [.dat (.scr ns), .un, .un, .un] = .rt (.bl true) := by
    unfold r_law
    refine sSeq_nx (sSet_ok (d := wrD w) (by simp [c2, f1, hint, hix, hw, small_line]) rfl) ?_
    rcases fewest_eq o with ⟨k, hk, L⟩ | ⟨hk, hno⟩
    · refine sSeq_nx (sSet_ok (d := .int k) (by simp [hk]) rfl) ?_
      simp only [List.set]
      rcases alike_eq o with ⟨m, n, ha, F, hl⟩ | ⟨ha, hno⟩
      · have ek : k = m.length + n.length := by
          obtain ⟨⟨m', n', a1, a2, a3, a4, a5⟩, h2⟩ := L
          have h3 := F.few m' n' a1 a2 a3 a4
          have h4 := h2 m n F.m1 F.m2 F.ne F.al
          omega
        subst ek
        have ro := right_ok o F hl
        have isn : isND (.int ((m.length + n.length : Nat) : Int)) .non = some (.bl false) := rfl
        have big : (m.map fun (x : Nat) => D.int (x : Int)).length < sizeLine := small_lt (by simp; omega)
        generalize ((m.length + n.length : Nat) : Int) = due at ro isn
        have st : ((still [.dat (.scr ns), .dat (wrD w), .dat (.int due), .un]).set 3 (.dat (.tup [mD m, mD n]))) = [.dat (.scr ns), .dat (wrD w), .dat (.int due), .dat (.tup [mD m, mD n])] := rfl
        unfold sLose
        have ga : (aCons (xVar 1) (aNil)) [.dat (.scr ns), .dat (wrD w), .dat (.int due), .un] = .ok [wrD w] := by simp
        rw [if_pos (by simp), ga]
        simp only
        rw [if_pos ⟨rfl, nl⟩, ha]
        simp only [st]
        have t1 : (tE (xOp isND (xVar 2) (xC .non))) [.dat (.scr ns), .dat (wrD w), .dat (.int due), .dat (.tup [mD m, mD n])] = .ok false := by simp [isn]
        have t2 : (tNo (tE (xCall 3 f__law_right (aCons (xVar 1) (aCons (xVar 3) (aCons (xVar 2) (aNil))))))) [.dat (.scr ns), .dat (wrD w), .dat (.int due), .dat (.tup [mD m, mD n])] = .ok false := by simp [ro]
        rw [t1, t2]
        show (if (m.map fun (x : Nat) => D.int (x : Int)).length < sizeLine then _ else DOut.no) = _
        rw [if_pos big]
        simp [ha, ro]
      · obtain ⟨⟨m', n', a1, a2, a3, a4, a5⟩, h2⟩ := L
        exact absurd a4 (hno m' n' a1 a2 a3)
    · refine sSeq_nx (sSet_ok (d := .non) (by simp [hk]) rfl) ?_
      simp only [List.set]
      rcases alike_eq o with ⟨m, n, ha, F, hl⟩ | ⟨ha, hno'⟩
      · exact absurd F.al (hno m n F.m1 F.m2 F.ne)
      · have isn : isND .non .non = some (.bl true) := rfl
        have st : ((still [.dat (.scr ns), .dat (wrD w), .dat .non, .un]).set 3 (.dat .non)) = [.dat (.scr ns), .dat (wrD w), .dat .non, .dat .non] := rfl
        unfold sLose
        have ga : (aCons (xVar 1) (aNil)) [.dat (.scr ns), .dat (wrD w), .dat .non, .un] = .ok [wrD w] := by simp
        rw [if_pos (by simp), ga]
        simp only
        rw [if_pos ⟨rfl, nl⟩, ha]
        simp only [st]
        have t1 : (tE (xOp isND (xVar 2) (xC .non))) [.dat (.scr ns), .dat (wrD w), .dat .non, .dat .non] = .ok true := by simp [isn]
        have t2 : (xOp isND (xVar 3) (xC .non)) [.dat (.scr ns), .dat (wrD w), .dat .non, .dat .non] = .ok (.bl true) := by simp [isn]
        rw [t1, t2]
        rfl
  rw [hr]
  rfl
end Wk

open PySem PySem.W PyProof.Rows
set_option maxHeartbeats 0 in
theorem PySem.Challenge.cw_alikewritten_k04_whole_plain_or_two_mess_holds : PySem.Challenge.rw_alikewritten_k04_whole_plain_or_two_mess.Holds := by
  w_on; o_law; k_head; (case hw => w_witness2)
  k_fill
  refine L2.walk_of (l := PySem.Challenge.rw_alikewritten_k04_whole_plain_or_two_mess) (n := 63) (k := 5) (x := "script") (CX := fun w => L2.CX PySem.Challenge.rw_alikewritten_k04_whole_plain_or_two_mess.prog w) (sp := fun w => DL.spEnd _) rfl (by decide) rfl ⟨rfl, by decide, by decide⟩ (fun w h Y => PySem.W.kIn_of Y) ?F (fun _ _ a ns hl _ hS => ⟨a, ns, rfl, hS, hl, fun _ => rfl⟩) (fun _ _ _ _ _ h => DL.cx_no h)
  case F =>
    intro w mg fa h KX G hmg
    refine' Wk.all_mk KX G hmg Wk.law_true ?a0 ?l0 ?c0 ?k0 ?a1 ?l1 ?c1 ?k1 ?a2 ?l2 ?c2 ?k2 ?a3 ?l3 ?c3 ?k3 ?a4 ?l4 ?c4 ?k4 ?a5 ?l5 ?c5 ?k5 ?a6 ?l6 ?c6 ?k6 ?a7 ?l7 ?c7 ?k7 ?a8 ?l8 ?c8 ?k8 ?a9 ?l9 ?c9 ?k9 ?a10 ?l10 ?c10 ?k10 ?a11 ?l11 ?c11 ?k11 ?a12 ?l12 ?c12 ?k12 ?a13 ?l13 ?c13 ?k13 ?a14 ?l14 ?c14 ?k14 ?a15 ?l15 ?c15 ?k15 ?a16 ?l16 ?c16 ?k16 ?a17 ?l17 ?c17 ?k17 ?a18 ?l18 ?c18 ?k18 ?a19 ?l19 ?c19 ?k19 ?a20 ?l20 ?c20 ?k20 ?a21 ?l21 ?c21 ?k21 ?z_bool ?z_int ?z_isinstance ?z_len ?z_list ?z_min ?z_range ?z_tuple ?g_LETTERS ?g_LONGEST ?g_SIGNS ?g_STATES ?ea_NoWriter ?ex_NoWriter ?ek_NoWriter ?eb_NoWriter ?et_NoWriter
    (case a0 => k_is); (case l0 => k_is); (case c0 => k_is); (case k0 => k_is); (case a1 => k_is); (case l1 => k_is); (case c1 => k_is); (case k1 => k_is); (case a2 => k_is); (case l2 => k_is); (case c2 => k_is); (case k2 => k_is); (case a3 => k_is); (case l3 => k_is); (case c3 => k_is); (case k3 => k_is); (case a4 => k_is); (case l4 => k_is); (case c4 => k_is); (case k4 => k_is); (case a5 => k_is); (case l5 => k_is); (case c5 => k_is); (case k5 => k_is); (case a6 => k_is); (case l6 => k_is); (case c6 => k_is); (case k6 => k_is); (case a7 => k_is); (case l7 => k_is); (case c7 => k_is); (case k7 => k_is); (case a8 => k_is); (case l8 => k_is); (case c8 => k_is); (case k8 => k_is); (case a9 => k_is); (case l9 => k_is); (case c9 => k_is); (case k9 => k_is); (case a10 => k_is); (case l10 => k_is); (case c10 => k_is); (case k10 => k_is); (case a11 => k_is); (case l11 => k_is); (case c11 => k_is); (case k11 => k_is); (case a12 => k_is); (case l12 => k_is); (case c12 => k_is); (case k12 => k_is); (case a13 => k_is); (case l13 => k_is); (case c13 => k_is); (case k13 => k_is); (case a14 => k_is); (case l14 => k_is); (case c14 => k_is); (case k14 => k_is); (case a15 => k_is); (case l15 => k_is); (case c15 => k_is); (case k15 => k_is); (case a16 => k_is); (case l16 => k_is); (case c16 => k_is); (case k16 => k_is); (case a17 => k_is); (case l17 => k_is); (case c17 => k_is); (case k17 => k_is); (case a18 => k_is); (case l18 => k_is); (case c18 => k_is); (case k18 => k_is); (case a19 => k_is); (case l19 => k_is); (case c19 => k_is); (case k19 => k_is); (case a20 => k_is); (case l20 => k_is); (case c20 => k_is); (case k20 => k_is); (case a21 => k_is); (case l21 => k_is); (case c21 => k_is); (case k21 => k_is); (case z_bool => k_is); (case z_int => k_is); (case z_isinstance => k_is); (case z_len => k_is); (case z_list => k_is); (case z_min => k_is); (case z_range => k_is); (case z_tuple => k_is); (case g_LETTERS => k_is); (case g_LONGEST => k_is); (case g_SIGNS => k_is); (case g_STATES => k_is); (case ea_NoWriter => k_is); (case ex_NoWriter => k_exc); (case ek_NoWriter => k_is); (case eb_NoWriter => k_is); (case et_NoWriter => k_is)
