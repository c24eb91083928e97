import PyProof.Rows.All
import Wide.All
import OpenK.AllK
import Wide.FinOn
import PySem.Challenge.RW_no0339_01
set_option Elab.async false
set_option maxRecDepth 100000
set_option maxHeartbeats 8000000
set_option linter.unusedVariables false
set_option linter.unusedSectionVars false
-- part T0
namespace Mine
open PySem PySem.W PyProof.Rows
open_top hd for PySem.Challenge.rw_no0339_01
end Mine
-- part M1
namespace Mine
open PySem PySem.W PySem.Calls PyProof.Rows

/-- abstract values -/
inductive V where
  | none
  | bool (b : Bool)
  | int (i : Int)
  | str (x : Str)
  | tup (vs : List V)
  | lst (vs : List V)
  | ref (a : Addr)
  | inst (C n : Addr)
  | rng (lo hi : Int)

/-- mutable objects; t is a ghost tag -/
inductive AO where
  | list (t : Nat) (vs : List V)
  | idict (t : Nat) (es : List (Int × V))
  | sdict (t : Nat) (es : List (Str × V))
  | ns (t : Nat) (fs : List (Str × V))
  | iter (vs : List V)
  | giter (l i : Nat)
  | enum (it l i : Nat) (vs : List V)
  | acc (vs : List V)

def AO.tag : AO → Nat
  | .list t _ => t
  | .idict t _ => t
  | .sdict t _ => t
  | .ns t _ => t
  | .iter _ => 0
  | .giter _ _ => 0
  | .enum _ _ _ _ => 0
  | .acc _ => 0

def AO.it : AO → Bool
  | .iter _ => true
  | .giter _ _ => true
  | .acc _ => true
  | _ => false

abbrev Sg := Addr → Option AO
/-- a ghost that a value may name -/
def Ob (σ : Sg) (a : Addr) : Prop := ∃ o, σ a = some o ∧ o.it = false
theorem Ob.ne {σ : Sg} {a : Addr} (h : Ob σ a) : σ a ≠ none := by obtain ⟨o, e, _⟩ := h; rw [e]; exact fun z => nomatch z
theorem Ob.of {σ : Sg} {a : Addr} {o : AO} (e : σ a = some o) (h : o.it = false := by rfl) : Ob σ a := ⟨o, e, h⟩
abbrev Rho := List (Str × V)

def big : Nat := 2 ^ 20

mutual
inductive VIn (σ : Sg) (h : Heap) : V → Value → Prop
  | none : VIn σ h V.none Value.none
  | bool (b : Bool) : VIn σ h (V.bool b) (Value.bool b)
  | int (i : Int) (t : Tok) : VIn σ h (V.int i) (Value.int i t)
  | str (x : Str) (t : Tok) : VIn σ h (V.str x) (Value.str x t)
  | tup {a : Addr} {vs : List V} {xs : List Value} : IsTup h a xs.toArray → σ a = Option.none → xs.length ≤ big → VAll σ h vs xs → VIn σ h (V.tup vs) (Value.ref a)
  | lst {a : Addr} {vs : List V} {xs : List Value} : h.PlainList a xs.toArray → σ a = Option.none → xs.length ≤ big → VAll σ h vs xs → VIn σ h (V.lst vs) (Value.ref a)
  | ref {a : Addr} : Ob σ a → VIn σ h (V.ref a) (Value.ref a)
  | inst {a C n : Addr} : h.get? a = some (instObj C n) → σ a = Option.none → Ob σ n → VIn σ h (V.inst C n) (Value.ref a)
  | rng {a : Addr} {lo hi : Int} {t u v : Tok} : IsRange h a lo hi 1 t u v → σ a = Option.none → VIn σ h (V.rng lo hi) (Value.ref a)
inductive VAll (σ : Sg) (h : Heap) : List V → List Value → Prop
  | nil : VAll σ h [] []
  | cons {v : V} {vs : List V} {x : Value} {xs : List Value} : VIn σ h v x → VAll σ h vs xs → VAll σ h (v :: vs) (x :: xs)
end

/-- the entries of an object's own dict -/
inductive NsE (σ : Sg) (h : Heap) : List (Str × V) → List DictEntry → Prop
  | nil : NsE σ h [] []
  | cons {x : Str} {v : V} {t : Tok} {hs : Int} {y : Value} {fs : List (Str × V)} {es : List DictEntry} : VIn σ h v y → NsE σ h fs es → NsE σ h ((x, v) :: fs) (⟨hs, .str x t, y⟩ :: es)

section
variable {σ : Sg} {h : Heap} {vs ws : List V} {xs ys : List Value} {v : V} {x : Value}
theorem VAll.length (H : VAll σ h vs xs) : vs.length = xs.length := by
  induction xs generalizing vs with
  | nil => cases H; rfl
  | cons x xs ih => cases H with | cons _ r => simp [ih r]
theorem VAll.append (H : VAll σ h vs xs) (K : VAll σ h ws ys) : VAll σ h (vs ++ ws) (xs ++ ys) := by
  induction xs generalizing vs with
  | nil => cases H; exact K
  | cons x xs ih => cases H with | cons a r => exact .cons a (ih r)
theorem VAll.one (H : VIn σ h v x) : VAll σ h [v] [x] := .cons H .nil
theorem VAll.get (H : VAll σ h vs xs) {k : Nat} {v : V} (e : vs[k]? = some v) : ∃ x, xs[k]? = some x ∧ VIn σ h v x := by
  induction xs generalizing vs k with
  | nil => cases H; simp at e
  | cons x xs ih =>
    cases H with
    | cons a r =>
      cases k with
      | zero => simp at e; subst e; exact ⟨x, rfl, a⟩
      | succ k => simp at e; obtain ⟨y, p, q⟩ := ih r e; exact ⟨y, by simpa using p, q⟩
theorem VAll.drop (H : VAll σ h vs xs) (k : Nat) : VAll σ h (vs.drop k) (xs.drop k) := by
  induction xs generalizing vs k with
  | nil => cases H; simp; exact .nil
  | cons x xs ih =>
    cases H with
    | cons a r =>
      cases k with
      | zero => exact .cons a r
      | succ k => simpa using ih r k
theorem VAll.take (H : VAll σ h vs xs) (k : Nat) : VAll σ h (vs.take k) (xs.take k) := by
  induction xs generalizing vs k with
  | nil => cases H; simp; exact .nil
  | cons x xs ih =>
    cases H with
    | cons a r =>
      cases k with
      | zero => exact .nil
      | succ k => simpa using VAll.cons a (ih r k)
theorem VAll.set (H : VAll σ h vs xs) {k : Nat} (q : VIn σ h v x) : VAll σ h (vs.set k v) (xs.set k x) := by
  induction xs generalizing vs k with
  | nil => cases H; simp; exact .nil
  | cons y xs ih =>
    cases H with
    | cons a r =>
      cases k with
      | zero => exact .cons q r
      | succ k => simpa using VAll.cons a (ih r)
theorem VAll.mem (H : VAll σ h vs xs) {v : V} (e : v ∈ vs) : ∃ x ∈ xs, VIn σ h v x := by
  induction xs generalizing vs with
  | nil => cases H; simp at e
  | cons x xs ih =>
    cases H with
    | cons a r =>
      rcases List.mem_cons.mp e with rfl | e
      · exact ⟨x, .head _, a⟩
      · obtain ⟨y, p, q⟩ := ih r e; exact ⟨y, .tail _ p, q⟩
theorem VAll.mem' (H : VAll σ h vs xs) {x : Value} (e : x ∈ xs) : ∃ v ∈ vs, VIn σ h v x := by
  induction xs generalizing vs with
  | nil => simp at e
  | cons y xs ih =>
    cases H with
    | cons a r =>
      rcases List.mem_cons.mp e with rfl | e
      · exact ⟨_, .head _, a⟩
      · obtain ⟨y, p, q⟩ := ih r e; exact ⟨y, .tail _ p, q⟩
end


def OIn (prog : Program) (w : World) (σ : Sg) (h : Heap) (a : Addr) : AO → Prop
  | .list _ vs => ∃ xs : List Value, h.PlainList a xs.toArray ∧ xs.length ≤ big ∧ VAll σ h vs xs
  | .idict _ es => ∃ kvs, h.DictOf (intKind prog w) a kvs ∧ kvs.length ≤ big ∧ kvs.map (·.1) = es.map (·.1) ∧ VAll σ h (es.map (·.2)) (kvs.map (·.2)) ∧ (a == sysModules) = false
  | .sdict _ es => ∃ kvs, h.DictOf (PySem.strKind prog w) a kvs ∧ kvs.length ≤ big ∧ kvs.map (·.1) = es.map (·.1) ∧ VAll σ h (es.map (·.2)) (kvs.map (·.2)) ∧ (a == sysModules) = false
  | .ns _ fs => ∃ (es : List DictEntry) (n : Nat), h.get? a = some (dictOf es n) ∧ fs.length ≤ 900 ∧ NsE σ h fs es
  | .iter vs => (∃ (l : Addr) (i : Nat) (xs : List Value), h.IsListIter a l i ∧ h.IsList l xs.toArray ∧ σ l = none ∧ VAll σ h vs (xs.drop i)) ∨
      (∃ (l : Addr) (i : Nat) (xs : List Value), h.IsTupleIter a l i ∧ h.IsTuple l xs.toArray ∧ σ l = none ∧ VAll σ h vs (xs.drop i)) ∨
      (∃ (x : Int) (left : Nat), IsRangeIter h a x (left : Nat) 1 ∧ vs = (List.range left).map fun (k : Nat) => V.int (x + k))
  | .giter l i => h.IsListIter a l i
  | .enum it l i vs => ∃ (old : Value) (xs : List Value), IsEnum h a it i old ∧ h.IsList l xs.toArray ∧ σ l = none ∧ VAll σ h vs (xs.drop i)
  | .acc vs => ∃ xs : List Value, h.PlainList a xs.toArray ∧ xs.length ≤ big ∧ VAll σ h vs xs

structure Good (prog : Program) (w : World) (h₀ : Heap) (σ : Sg) (h : Heap) : Prop where
  base : ∀ a o, h₀.get? a = some o → h.get? a = some o
  off : ∀ a, σ a ≠ none → h₀.get? a = none
  objs : ∀ a o, σ a = some o → OIn prog w σ h a o

/-- everything but the ghost objects (and P) stays -/
structure Step (P : Addr → Prop) (σ : Sg) (s : Shared) (σ' : Sg) (s' : Shared) : Prop where
  keep : ∀ a o, s.heap.get? a = some o → σ a = none → ¬ P a → s'.heap.get? a = some o
  dom : ∀ a, Ob σ a → ¬ P a → Ob σ' a
  fresh : ∀ a, σ' a ≠ none → σ a ≠ none ∨ s.heap.get? a = none ∨ P a
  rest : s'.gens = s.gens ∧ s'.drawn = s.drawn ∧ s'.os = s.os

abbrev No : Addr → Prop := fun _ => False

theorem Step.refl {P : Addr → Prop} (σ : Sg) (s : Shared) : Step P σ s σ s :=
  ⟨fun _ _ e _ _ => e, fun _ e _ => e, fun _ e => .inl e, rfl, rfl, rfl⟩
theorem Step.toks {P : Addr → Prop} (σ : Sg) (s : Shared) (t : Nat) : Step P σ s σ { s with toks := t } :=
  ⟨fun _ _ e _ _ => e, fun _ e _ => e, fun _ e => .inl e, rfl, rfl, rfl⟩
theorem Step.off {P : Addr → Prop} {σ σ' : Sg} {s s' : Shared} (a : Step P σ s σ' s') {x : Addr} {o : Obj} (e : s.heap.get? x = some o) (n : σ x = Option.none) (p : ¬ P x) : σ' x = Option.none := by
  cases q : σ' x with
  | none => rfl
  | some o' =>
    rcases a.fresh x (by rw [q]; exact fun z => nomatch z) with z | z | z
    · exact absurd n z
    · rw [e] at z; cases z
    · exact absurd z p
theorem Step.trans {P : Addr → Prop} {σ σ₁ σ₂ : Sg} {s s₁ s₂ : Shared} (a : Step P σ s σ₁ s₁) (b : Step P σ₁ s₁ σ₂ s₂) : Step P σ s σ₂ s₂ := by
  refine ⟨fun x o e n p => b.keep x o (a.keep x o e n p) (a.off e n p) p, fun x e p => b.dom x (a.dom x e p) p, fun x e => ?_,
    b.rest.1.trans a.rest.1, b.rest.2.1.trans a.rest.2.1, b.rest.2.2.trans a.rest.2.2⟩
  rcases b.fresh x e with z | z | z
  · exact a.fresh x z
  · by_cases p : P x
    · exact .inr (.inr p)
    · cases q : s.heap.get? x with
      | none => exact .inr (.inl rfl)
      | some o =>
        cases q' : σ x with
        | some _ => exact .inl fun z => nomatch z
        | none => rw [a.keep x o q q' p] at z; cases z
  · exact .inr (.inr z)
theorem Step.mono {P P' : Addr → Prop} {σ σ' : Sg} {s s' : Shared} (a : Step P σ s σ' s') (h : ∀ x, P x → P' x) : Step P' σ s σ' s' :=
  ⟨fun x o e n p => a.keep x o e n fun q => p (h x q), fun x e p => a.dom x e fun q => p (h x q), fun x e => (a.fresh x e).imp id (.imp id (h x)), a.rest⟩
/-- what is new need not be told -/
theorem Step.tighten {P P' : Addr → Prop} {σ σ' : Sg} {s s' : Shared} (a : Step P' σ s σ' s') (h : ∀ x, P' x → P x ∨ (s.heap.get? x = none ∧ σ x = none)) : Step P σ s σ' s' := by
  refine ⟨fun x o e n p => a.keep x o e n fun q => ?_, fun x e p => a.dom x e fun q => ?_, fun x e => ?_, a.rest⟩
  · rcases h x q with z | z
    · exact p z
    · rw [z.1] at e; cases e
  · rcases h x q with z | z
    · exact p z
    · exact e.ne z.2
  · rcases a.fresh x e with z | z | z
    · exact .inl z
    · exact .inr (.inl z)
    · rcases h x z with z | z
      · exact .inr (.inr z)
      · exact .inr (.inl z.1)

section
variable {P : Addr → Prop} {σ σ' : Sg} {s s' : Shared}
/-- P holds no address that a value of the abstract kind may name -/
def Apart (P : Addr → Prop) (σ : Sg) (h : Heap) : Prop := ∀ a, P a → σ a = none ∧ ∀ o, h.get? a = some o → (o.data ≠ Data.plain ∧ ∀ (xs : Array Value) (n : Nat), o.data ≠ Data.seq xs n) ∧ ∀ vs, o.data ≠ Data.fields vs
theorem Apart.seq (hp : Apart P σ s.heap) {a : Addr} {o : Obj} {xs : Array Value} {n : Nat} (e : s.heap.get? a = some o) (d : o.data = .seq xs n) : ¬ P a := fun p => ((hp a p).2 o e).1.2 _ _ d
theorem Apart.ghost (hp : Apart P σ s.heap) {a : Addr} (e : σ a ≠ none) : ¬ P a := fun p => e (hp a p).1

mutual
theorem VIn.step (S : Step P σ s σ' s') (hp : Apart P σ s.heap) : ∀ {v : V} {x : Value}, VIn σ s.heap v x → VIn σ' s'.heap v x
  | _, _, .none => .none
  | _, _, .bool b => .bool b
  | _, _, .int i t => .int i t
  | _, _, .str x t => .str x t
  | _, _, .tup ht n l r => by
    obtain ⟨o, ho, hc, k, hd⟩ := ht
    exact .tup ⟨o, S.keep _ _ ho n (hp.seq ho hd), hc, k, hd⟩ (S.off ho n (hp.seq ho hd)) l (VAll.step S hp r)
  | _, _, .lst ht n l r => by
    obtain ⟨k, ho⟩ := ht
    exact .lst ⟨k, S.keep _ _ ho n (hp.seq ho rfl)⟩ (S.off ho n (hp.seq ho rfl)) l (VAll.step S hp r)
  | _, _, .ref n => .ref (S.dom _ n (hp.ghost n.ne))
  | _, _, .inst ho n m => .inst (S.keep _ _ ho n fun p => ((hp _ p).2 _ ho).1.1 rfl) (S.off ho n fun p => ((hp _ p).2 _ ho).1.1 rfl) (S.dom _ m (hp.ghost m.ne))
  | _, _, .rng ho n => .rng (S.keep _ _ ho n fun p => ((hp _ p).2 _ ho).2 _ rfl) (S.off ho n fun p => ((hp _ p).2 _ ho).2 _ rfl)
theorem VAll.step (S : Step P σ s σ' s') (hp : Apart P σ s.heap) : ∀ {vs : List V} {xs : List Value}, VAll σ s.heap vs xs → VAll σ' s'.heap vs xs
  | _, _, .nil => .nil
  | _, _, .cons a r => .cons (VIn.step S hp a) (VAll.step S hp r)
end
theorem NsE.step (S : Step P σ s σ' s') (hp : Apart P σ s.heap) : ∀ {fs : List (Str × V)} {es : List DictEntry}, NsE σ s.heap fs es → NsE σ' s'.heap fs es
  | _, _, .nil => .nil
  | _, _, .cons a r => .cons (a.step S hp) (NsE.step S hp r)
theorem apart_no {σ : Sg} {h : Heap} : Apart No σ h := fun _ p => False.elim p
end

theorem Step.list {P : Addr → Prop} {σ σ' : Sg} {s s' : Shared} (S : Step P σ s σ' s') (hp : Apart P σ s.heap) {l : Addr} {xs : Array Value} (H : s.heap.IsList l xs) (n : σ l = none) : s'.heap.IsList l xs ∧ σ' l = none := by
  obtain ⟨o, ho, hc, k, hd⟩ := H
  exact ⟨⟨o, S.keep _ _ ho n (hp.seq ho hd), hc, k, hd⟩, S.off ho n (hp.seq ho hd)⟩
theorem Step.tuple {P : Addr → Prop} {σ σ' : Sg} {s s' : Shared} (S : Step P σ s σ' s') (hp : Apart P σ s.heap) {l : Addr} {xs : Array Value} (H : s.heap.IsTuple l xs) (n : σ l = none) : s'.heap.IsTuple l xs ∧ σ' l = none := by
  obtain ⟨o, ho, hc, k, hd⟩ := H
  exact ⟨⟨o, S.keep _ _ ho n (hp.seq ho hd), hc, k, hd⟩, S.off ho n (hp.seq ho hd)⟩

/-- the world of one proof -/
structure Cx where
  prog : Program
  w : World
  h₀ : Heap
  K : Frag
  mg : Str → Option Value
  mb : Str → Option Value
  X : K.In h₀
  nolim : h₀.NoLimit
  g : h₀.Ns mainGlobals mg
  b : h₀.Ns builtinsNs mb
  mgK : ∀ x v, nsIn K mainGlobals x = some (some v) → mg x = some v
  mgN : ∀ x, nsIn K mainGlobals x = some none → mg x = none
  mbB : ∀ x v, bootBuiltins x = some v → x ≠ ("__name__" : Str) → mb x = some v

abbrev Cx.M (c : Cx) : Model := model c.prog c.w
abbrev Cx.Good (c : Cx) : Sg → Heap → Prop := Mine.Good c.prog c.w c.h₀
abbrev Ef : Value → Shared → Prop := fun _ _ => False

def Room (n : Nat) (A : Around) : Prop := A.handled = none ∧ A.depth + 4 * n ≤ 900 ∧ A.units + 16 * n ≤ 9000

theorem Room.less {n m : Nat} {A : Around} (h : Room n A) (k : m ≤ n) : Room m A := ⟨h.1, by have := h.2.1; omega, by have := h.2.2; omega⟩
theorem Room.deeper {n : Nat} {A : Around} {env : Env} (h : Room (n + 1) A) : Room n (A.deeper env) :=
  ⟨h.1, by have := h.2.1; show A.depth + 1 + 4 * n ≤ 900; omega, by have := h.2.2; show A.units + 3 + 16 * n ≤ 9000; omega⟩
theorem Room.rec {n : Nat} {A : Around} (h : Room n A) : A.depth < recursionLimit := by
  have := h.2.1; show A.depth < 1000; omega
theorem Room.units {n : Nat} {A : Around} (h : Room n A) : A.units + 800 < cLine := by
  have := h.2.2; show A.units + 800 < 9900; omega

def Post (c : Cx) (σ : Sg) (s : Shared) (Q : V → Sg → Prop) (x : Value) (s' : Shared) : Prop :=
  ∃ σ' v, Step No σ s σ' s' ∧ c.Good σ' s'.heap ∧ VIn σ' s'.heap v x ∧ Q v σ'

theorem Post.trans {c : Cx} {σ σ₁ : Sg} {s s₁ s' : Shared} {Q : V → Sg → Prop} {x : Value} (S : Step No σ s σ₁ s₁) (H : Post c σ₁ s₁ Q x s') : Post c σ s Q x s' :=
  let ⟨σ', v, S', G, I, q⟩ := H; ⟨σ', v, S.trans S', G, I, q⟩
theorem Post.here {c : Cx} {σ : Sg} {s : Shared} {Q : V → Sg → Prop} {v : V} {x : Value} (G : c.Good σ s.heap) (I : VIn σ s.heap v x) (q : Q v σ) (t : Nat) : Post c σ s Q x { s with toks := t } :=
  ⟨σ, v, Step.toks _ _ _, G, I, q⟩

def cellish (sc : Scope) (x : Str) : Prop := sc.names.lookup x = some .cell ∨ sc.names.lookup x = some .free
def FrP (sc : Scope) (env : Env) (a : Addr) : Prop := a = env.locals ∨ ∃ x, cellish sc x ∧ env.cells.lookup x = some a

structure Loc (c : Cx) (sc : Scope) (ρ : Rho) (σ : Sg) (env : Env) (h : Heap) : Prop where
  scope : env.scope = sc
  glob : env.globals = mainGlobals
  blt : env.builtins = builtinsNs
  lns : ∃ m, h.Ns env.locals m ∧ ∀ x v, ρ.lookup x = some v → sc.names.lookup x = some .local → ∃ y, m x = some y ∧ VIn σ h v y
  lσ : σ env.locals = none
  lup : c.h₀.get? env.locals = none
  cel : ∀ x, cellish sc x → ∃ a, env.cells.lookup x = some a ∧ σ a = none ∧ c.h₀.get? a = none ∧ ∃ y, h.IsCell a y ∧ ∀ v, ρ.lookup x = some v → ∃ z, y = some z ∧ VIn σ h v z
  apart : ∀ x y a, cellish sc x → cellish sc y → env.cells.lookup x = some a → env.cells.lookup y = some a → x = y

theorem Loc.frp {c : Cx} {sc : Scope} {ρ : Rho} {σ : Sg} {env : Env} {h : Heap} (L : Loc c sc ρ σ env h) : Apart (FrP sc env) σ h := by
  intro a p
  rcases p with rfl | ⟨x, hx, ha⟩
  · obtain ⟨m, ⟨o', es, ep, ho', hd, _⟩, _⟩ := L.lns
    refine ⟨L.lσ, fun o ho => ?_⟩
    rw [ho] at ho'; cases ho'
    rw [hd]; exact ⟨⟨fun e => (nomatch e), fun _ _ e => (nomatch e)⟩, fun _ e => (nomatch e)⟩
  · obtain ⟨a', ha', e2, _, y, ⟨o', ho', hd⟩, _⟩ := L.cel x hx
    rw [ha] at ha'; cases ha'
    refine ⟨e2, fun o ho => ?_⟩
    rw [ho] at ho'; cases ho'
    rw [hd]; exact ⟨⟨fun e => (nomatch e), fun _ _ e => (nomatch e)⟩, fun _ e => (nomatch e)⟩

theorem Loc.step {c : Cx} {sc : Scope} {ρ : Rho} {σ σ' : Sg} {env : Env} {s s' : Shared} (L : Loc c sc ρ σ env s.heap) (S : Step No σ s σ' s') : Loc c sc ρ σ' env s'.heap := by
  obtain ⟨m, ⟨o, es, ep, ho, r⟩, hv⟩ := L.lns
  refine ⟨L.scope, L.glob, L.blt, ⟨m, ⟨o, es, ep, S.keep _ _ ho L.lσ id, r⟩, fun x v e k => let ⟨y, a, b⟩ := hv x v e k; ⟨y, a, b.step S apart_no⟩⟩, S.off ho L.lσ id, L.lup, fun x hx => ?_, L.apart⟩
  obtain ⟨a, e1, e2, e3, y, ⟨o, ho, hd⟩, hv⟩ := L.cel x hx
  exact ⟨a, e1, S.off ho e2 id, e3, y, ⟨o, S.keep _ _ ho e2 id, hd⟩, fun v e => let ⟨z, p, q⟩ := hv v e; ⟨z, p, q.step S apart_no⟩⟩

structure Co (c : Cx) (n : Nat) (sc : Scope) (ρ : Rho) (σ : Sg) (A : Around) (env : Env) (s : Shared) : Prop where
  room : Room n A
  loc : Loc c sc ρ σ env s.heap
  good : c.Good σ s.heap
theorem Co.step {c : Cx} {n : Nat} {sc : Scope} {ρ : Rho} {σ σ' : Sg} {A : Around} {env : Env} {s s' : Shared} (C : Co c n sc ρ σ A env s) (S : Step No σ s σ' s') (G : c.Good σ' s'.heap) : Co c n sc ρ σ' A env s' :=
  ⟨C.room, C.loc.step S, G⟩

/-- expressions -/
def EvE (c : Cx) (n : Nat) (sc : Scope) (ρ : Rho) (σ : Sg) (e : Expr) (Q : V → Sg → Prop) : Prop :=
  ∀ A env s, Co c n sc ρ σ A env s → wpAny c.M A (eval e env) (Post c σ s Q) Ef s
def PostB (c : Cx) (σ : Sg) (s : Shared) (Q : Bool → Sg → Prop) (b : Bool) (s' : Shared) : Prop :=
  ∃ σ', Step No σ s σ' s' ∧ c.Good σ' s'.heap ∧ Q b σ'
def EvT (c : Cx) (n : Nat) (sc : Scope) (ρ : Rho) (σ : Sg) (e : Expr) (Q : Bool → Sg → Prop) : Prop :=
  ∀ A env s, Co c n sc ρ σ A env s → wpAny c.M A (isTrue e env (eval e env)) (PostB c σ s Q) Ef s
def PostL (c : Cx) (σ : Sg) (s : Shared) (Q : List V → Sg → Prop) (xs : List Value) (s' : Shared) : Prop :=
  ∃ σ' vs, Step No σ s σ' s' ∧ c.Good σ' s'.heap ∧ VAll σ' s'.heap vs xs ∧ Q vs σ'
def EvL (c : Cx) (n : Nat) (sc : Scope) (ρ : Rho) (σ : Sg) (es : List Expr) (Q : List V → Sg → Prop) : Prop :=
  ∀ A env s pos, Co c n sc ρ σ A env s → wpAny c.M A (spliced (backTo pos (starEach es env))) (PostL c σ s Q) Ef s
/-- a tree over one or two values -/
def Op1 (c : Cx) (n : Nat) (t : Value → Sem Value) (a : V) (σ : Sg) (Q : V → Sg → Prop) : Prop :=
  ∀ A s x, Room n A → c.Good σ s.heap → VIn σ s.heap a x → wpAny c.M A (t x) (Post c σ s Q) Ef s
def Op2 (c : Cx) (n : Nat) (t : Value → Value → Sem Value) (a b : V) (σ : Sg) (Q : V → Sg → Prop) : Prop :=
  ∀ A s x y, Room n A → c.Good σ s.heap → VIn σ s.heap a x → VIn σ s.heap b y → wpAny c.M A (t x y) (Post c σ s Q) Ef s
def TruV (c : Cx) (n : Nat) (a : V) (σ : Sg) (Q : Bool → Sg → Prop) : Prop :=
  ∀ A s x, Room n A → c.Good σ s.heap → VIn σ s.heap a x → wpAny c.M A (truthy x) (PostB c σ s Q) Ef s
def CallV (c : Cx) (n : Nat) (f : Value) (vs : List V) (σ : Sg) (Q : V → Sg → Prop) : Prop :=
  ∀ A s xs, Room n A → c.Good σ s.heap → VAll σ s.heap vs xs → wpAny c.M A (call f xs) (Post c σ s Q) Ef s

theorem PostB.trans {c : Cx} {σ σ₁ : Sg} {s s₁ s' : Shared} {Q : Bool → Sg → Prop} {x : Bool} (S : Step No σ s σ₁ s₁) (H : PostB c σ₁ s₁ Q x s') : PostB c σ s Q x s' :=
  let ⟨σ', S', G, q⟩ := H; ⟨σ', S.trans S', G, q⟩
theorem PostL.trans {c : Cx} {σ σ₁ : Sg} {s s₁ s' : Shared} {Q : List V → Sg → Prop} {x : List Value} (S : Step No σ s σ₁ s₁) (H : PostL c σ₁ s₁ Q x s') : PostL c σ s Q x s' :=
  let ⟨σ', v, S', G, I, q⟩ := H; ⟨σ', v, S.trans S', G, I, q⟩
theorem wmono {α : Type} {M : Model} {A : Around} {t : Sem α} {Q Q' : α → Shared → Prop} {s : Shared} (h : wpAny M A t Q Ef s) (k : ∀ a s', Q a s' → Q' a s') : wpAny M A t Q' Ef s :=
  wpAny_mono h k fun _ _ e => e
end Mine
-- part M2
namespace Mine
open PySem PySem.W PySem.Calls PyProof.Rows

section
variable {c : Cx} {n : Nat} {sc : Scope} {ρ : Rho} {σ : Sg} {Q : V → Sg → Prop} {QB : Bool → Sg → Prop} {QL : List V → Sg → Prop}

def nameOk (sc : Scope) (x : Str) : Bool :=
  (match sc.names.lookup x with
    | some .local | some .cell | some .free => true
    | _ => false) && sc.kind == .function && !(x == ("__debug__" : Str)) && !(x == ("__classdict__" : Str))

theorem load_name {A : Around} {env : Env} {s : Shared} {x : Str} {v : V} {Q : Value → Shared → Prop} (C : Co c n sc ρ σ A env s) (hk : nameOk sc x = true) (hv : ρ.lookup x = some v)
    (h : ∀ y, VIn σ s.heap v y → Q y s) : wpAny c.M A (loadName env x) Q Ef s := by
  unfold nameOk at hk
  simp only [Bool.and_eq_true, beq_iff_eq, Bool.not_eq_true'] at hk
  obtain ⟨⟨⟨h1, h2⟩, h3⟩, h4⟩ := hk
  have hsc := C.loc.scope
  split at h1
  · rename_i e
    obtain ⟨m, hn, hm⟩ := C.loc.lns
    obtain ⟨y, e1, e2⟩ := hm x v hv e
    exact wpAny_loadName_local (by rw [hsc]; exact h2) (by show env.scope.names.lookup x = _; rw [hsc]; exact e) hn e1 (h y e2)
  · rename_i e
    obtain ⟨a, q1, _, _, w, hc, q2⟩ := C.loc.cel x (.inl e)
    obtain ⟨z, rfl, q3⟩ := q2 v hv
    exact wpAny_loadName_cell (by rw [hsc]; exact h2) (by show env.scope.names.lookup x = _; rw [hsc]; exact e) q1 hc (h z q3)
  · rename_i e
    obtain ⟨a, q1, _, _, w, hc, q2⟩ := C.loc.cel x (.inr e)
    obtain ⟨z, rfl, q3⟩ := q2 v hv
    exact wpAny_loadName_free (by rw [hsc]; exact h2) (by show env.scope.names.lookup x = _; rw [hsc]; exact e) q1 hc (h z q3) h4
  · cases h1

theorem ev_name {x : Str} {pos : Pos} {v : V} (hk : nameOk sc x = true) (hv : ρ.lookup x = some v) (h : Q v σ) : EvE c n sc ρ σ (.Name x pos) Q := by
  intro A env s C
  have hd : (x == ("__debug__" : Str)) = false := by
    unfold nameOk at hk
    simp only [Bool.and_eq_true, Bool.not_eq_true'] at hk
    exact hk.1.2
  exact wpAny_Name (load_name C hk hv fun y hy => ⟨σ, v, Step.refl _ _, C.good, hy, h⟩) hd

theorem ev_int {i : Int} {k : Nat} {pos : Pos} (h : Q (.int i) σ) : EvE c n sc ρ σ (.Constant (.int i) k pos) Q := by
  intro A env s C
  exact wpAny_Constant_int (Post.here C.good (.int _ _) h _)
theorem ev_str {x : Str} {k : Nat} {pos : Pos} (h : Q (.str x) σ) : EvE c n sc ρ σ (.Constant (.str x) k pos) Q := by
  intro A env s C
  exact wpAny_Constant_str (Post.here C.good (.str _ _) h _)
theorem ev_bool {b : Bool} {k : Nat} {pos : Pos} (h : Q (.bool b) σ) : EvE c n sc ρ σ (.Constant (.bool b) k pos) Q := by
  intro A env s C
  exact wpAny_Constant_bool (Post.here C.good (.bool _) h _)
theorem ev_none {k : Nat} {pos : Pos} (h : Q .none σ) : EvE c n sc ρ σ (.Constant .none k pos) Q := by
  intro A env s C
  exact wpAny_Constant_none (Post.here C.good .none h _)

theorem ev_mono {e : Expr} {Q' : V → Sg → Prop} (h : EvE c n sc ρ σ e Q) (k : ∀ v σ', Q v σ' → Q' v σ') : EvE c n sc ρ σ e Q' := by
  intro A env s C
  exact wmono (h A env s C) fun x s' ⟨σ', v, S, G, I, q⟩ => ⟨σ', v, S, G, I, k _ _ q⟩

theorem ev_unary {op : UnaryOp} {x : Expr} {pos : Pos} (h : EvE c n sc ρ σ x fun a σ₁ => Op1 c n (unaryOp op) a σ₁ Q) : EvE c n sc ρ σ (.UnaryOp op x pos) Q := by
  intro A env s C
  refine wpAny_UnaryOp (wmono (h A env s C) fun x s₁ ⟨σ₁, a, S, G, I, q⟩ => ?_)
  exact wmono (q A s₁ x C.room G I) fun _ _ => Post.trans S

theorem ev_binop {op : Operator} {l r : Expr} {pos : Pos} (h : EvE c n sc ρ σ l fun a σ₁ => EvE c n sc ρ σ₁ r fun b σ₂ => Op2 c n (binaryOp op) a b σ₂ Q) : EvE c n sc ρ σ (.BinOp l op r pos) Q := by
  intro A env s C
  refine wpAny_BinOp (wmono (h A env s C) fun x s₁ ⟨σ₁, a, S, G, I, q⟩ => ?_)
  refine wmono (q A env s₁ (C.step S G)) fun y s₂ ⟨σ₂, b, S₂, G₂, I₂, q₂⟩ => ?_
  exact wmono (q₂ A s₂ x y C.room G₂ (I.step S₂ apart_no) I₂) fun _ _ => Post.trans (S.trans S₂)

theorem ev_compare {op : CmpOp} {l r : Expr} {pos : Pos} (hm : behindInMarks op r = false) (h : EvE c n sc ρ σ l fun a σ₁ => EvE c n sc ρ σ₁ r fun b σ₂ => Op2 c n (compareOp op) a b σ₂ Q) :
    EvE c n sc ρ σ (.Compare l [op] [r] pos) Q := by
  intro A env s C
  refine wpAny_Compare1 (wmono (h A env s C) fun x s₁ ⟨σ₁, a, S, G, I, q⟩ => ?_) hm
  refine wmono (q A env s₁ (C.step S G)) fun y s₂ ⟨σ₂, b, S₂, G₂, I₂, q₂⟩ => ?_
  exact wmono (q₂ A s₂ x y C.room G₂ (I.step S₂ apart_no) I₂) fun _ _ => Post.trans (S.trans S₂)

theorem ev_ifexp {t b o : Expr} {pos : Pos} (h : EvT c n sc ρ σ t fun r σ₁ => (r = true → EvE c n sc ρ σ₁ b Q) ∧ (r = false → EvE c n sc ρ σ₁ o Q)) : EvE c n sc ρ σ (.IfExp t b o pos) Q := by
  intro A env s C
  refine wpAny_IfExp (wmono (h A env s C) fun r s₁ ⟨σ₁, S, G, q⟩ => ?_)
  cases r with
  | true => exact wmono (q.1 rfl A env s₁ (C.step S G)) fun _ _ => Post.trans S
  | false => exact wmono (q.2 rfl A env s₁ (C.step S G)) fun _ _ => Post.trans S

theorem tru_bool {b : Bool} (h : QB b σ) : TruV c n (.bool b) σ QB := by
  intro A s x R G I
  cases I
  exact wpAny_truthy_bool ⟨σ, Step.refl _ _, G, h⟩

theorem ev_and {x y : Expr} {r : List Expr} {pos : Pos} (h : EvE c n sc ρ σ x fun v σ₁ => TruV c n v σ₁ fun b σ₂ => (b = true → EvE c n sc ρ σ₂ (.BoolOp .And (y :: r) pos) Q) ∧ (b = false → Q v σ₂)) :
    EvE c n sc ρ σ (.BoolOp .And (x :: y :: r) pos) Q := by
  intro A env s C
  show wpAny c.M A (do
    let v ← eval x env
    standAt pos
    let t ← holding [v] (truthy v)
    match BoolOp.And, t with
    | .And, false | .Or, true => pure v
    | _, _ => boolOp pos .And (evalEach (y :: r) env)) _ _ s
  refine wpAny_bind (wmono (h A env s C) fun v s₁ ⟨σ₁, a, S, G, I, q⟩ => wpAny_bind (wpAny_standAt (wpAny_bind (wpAny_holding (wmono (q A s₁ v C.room G I) fun t s₂ ⟨σ₂, S₂, G₂, q₂⟩ => ?_)))))
  cases t with
  | false => exact wpAny_pure ⟨σ₂, a, S.trans S₂, G₂, I.step S₂ apart_no, q₂.2 rfl⟩
  | true => exact wmono (q₂.1 rfl A env s₂ ((C.step S G).step S₂ G₂)) fun _ _ => Post.trans (S.trans S₂)
theorem ev_or {x y : Expr} {r : List Expr} {pos : Pos} (h : EvE c n sc ρ σ x fun v σ₁ => TruV c n v σ₁ fun b σ₂ => (b = true → Q v σ₂) ∧ (b = false → EvE c n sc ρ σ₂ (.BoolOp .Or (y :: r) pos) Q)) :
    EvE c n sc ρ σ (.BoolOp .Or (x :: y :: r) pos) Q := by
  intro A env s C
  show wpAny c.M A (do
    let v ← eval x env
    standAt pos
    let t ← holding [v] (truthy v)
    match BoolOp.Or, t with
    | .And, false | .Or, true => pure v
    | _, _ => boolOp pos .Or (evalEach (y :: r) env)) _ _ s
  refine wpAny_bind (wmono (h A env s C) fun v s₁ ⟨σ₁, a, S, G, I, q⟩ => wpAny_bind (wpAny_standAt (wpAny_bind (wpAny_holding (wmono (q A s₁ v C.room G I) fun t s₂ ⟨σ₂, S₂, G₂, q₂⟩ => ?_)))))
  cases t with
  | true => exact wpAny_pure ⟨σ₂, a, S.trans S₂, G₂, I.step S₂ apart_no, q₂.1 rfl⟩
  | false => exact wmono (q₂.2 rfl A env s₂ ((C.step S G).step S₂ G₂)) fun _ _ => Post.trans (S.trans S₂)
theorem ev_last {op : BoolOp} {x : Expr} {pos : Pos} (h : EvE c n sc ρ σ x Q) : EvE c n sc ρ σ (.BoolOp op [x] pos) Q := fun A env s C => h A env s C

/-- tests -/
theorem t_not {x : Expr} {pos : Pos} (h : EvT c n sc ρ σ x fun b σ₁ => QB (!b) σ₁) : EvT c n sc ρ σ (.UnaryOp .Not x pos) QB := by
  intro A env s C
  exact wpAny_isTrue_Not (wmono (h A env s C) fun b s₁ ⟨σ₁, S, G, q⟩ => ⟨σ₁, S, G, q⟩)
theorem t_compare {op : CmpOp} {l r : Expr} {pos : Pos} (hm : behindInMarks op r = false) (h : EvE c n sc ρ σ l fun a σ₁ => EvE c n sc ρ σ₁ r fun b σ₂ => Op2 c n (compareOp op) a b σ₂ fun v σ₃ => TruV c n v σ₃ QB) :
    EvT c n sc ρ σ (.Compare l [op] [r] pos) QB := by
  intro A env s C
  refine wpAny_isTrue_Compare1 (wmono (h A env s C) fun x s₁ ⟨σ₁, a, S, G, I, q⟩ => ?_) hm
  refine wmono (q A env s₁ (C.step S G)) fun y s₂ ⟨σ₂, b, S₂, G₂, I₂, q₂⟩ => ?_
  refine wmono (q₂ A s₂ x y C.room G₂ (I.step S₂ apart_no) I₂) fun v s₃ ⟨σ₃, d, S₃, G₃, I₃, q₃⟩ => ?_
  exact wmono (q₃ A s₃ v C.room G₃ I₃) fun _ _ => PostB.trans ((S.trans S₂).trans S₃)
theorem t_value {e : Expr} (h : EvE c n sc ρ σ e fun v σ₁ => TruV c n v σ₁ QB) (he : ∀ env whole, isTrue e env whole = (do let v ← whole; standAt e.pos; holding [v] (truthy v))) : EvT c n sc ρ σ e QB := by
  intro A env s C
  refine wpAny_isTrue_value (wmono (h A env s C) fun x s₁ ⟨σ₁, a, S, G, I, q⟩ => ?_) (he _ _)
  exact wmono (q A s₁ x C.room G I) fun _ _ => PostB.trans S

def EvTs (c : Cx) (n : Nat) (sc : Scope) (ρ : Rho) (σ : Sg) (op : BoolOp) (es : List Expr) (Q : Bool → Sg → Prop) : Prop :=
  ∀ A env s, Co c n sc ρ σ A env s → wpAny c.M A (allTrue op es env) (PostB c σ s Q) Ef s
theorem t_boolop {op : BoolOp} {es : List Expr} {pos : Pos} (h : EvTs c n sc ρ σ op es QB) : EvT c n sc ρ σ (.BoolOp op es pos) QB :=
  fun A env s C => wpAny_isTrue_BoolOp (h A env s C)
theorem ts_and_nil (h : QB true σ) : EvTs c n sc ρ σ .And [] QB := fun _ _ _ C => wpAny_allTrue_And_nil ⟨σ, Step.refl _ _, C.good, h⟩
theorem ts_or_nil (h : QB false σ) : EvTs c n sc ρ σ .Or [] QB := fun _ _ _ C => wpAny_allTrue_Or_nil ⟨σ, Step.refl _ _, C.good, h⟩
theorem ts_and {x : Expr} {r : List Expr} (h : EvT c n sc ρ σ x fun b σ₁ => (b = true → EvTs c n sc ρ σ₁ .And r QB) ∧ (b = false → QB false σ₁)) : EvTs c n sc ρ σ .And (x :: r) QB := by
  intro A env s C
  refine wpAny_allTrue_And_cons (wmono (h A env s C) fun b s₁ ⟨σ₁, S, G, q⟩ => ?_)
  cases b with
  | true => exact wmono (q.1 rfl A env s₁ (C.step S G)) fun _ _ => PostB.trans S
  | false => exact ⟨σ₁, S, G, q.2 rfl⟩
theorem ts_or {x : Expr} {r : List Expr} (h : EvT c n sc ρ σ x fun b σ₁ => (b = true → QB true σ₁) ∧ (b = false → EvTs c n sc ρ σ₁ .Or r QB)) : EvTs c n sc ρ σ .Or (x :: r) QB := by
  intro A env s C
  refine wpAny_allTrue_Or_cons (wmono (h A env s C) fun b s₁ ⟨σ₁, S, G, q⟩ => ?_)
  cases b with
  | true => exact ⟨σ₁, S, G, q.1 rfl⟩
  | false => exact wmono (q.2 rfl A env s₁ (C.step S G)) fun _ _ => PostB.trans S

/-- lists of expressions -/
theorem el_nil (h : QL [] σ) : EvL c n sc ρ σ [] QL := fun _ _ _ _ C => wpAny_items_nil ⟨σ, [], Step.refl _ _, C.good, .nil, h⟩
theorem el_cons {e : Expr} {r : List Expr} (h : EvE c n sc ρ σ e fun v σ₁ => EvL c n sc ρ σ₁ r fun vs σ₂ => QL (v :: vs) σ₂) (he : ∀ env, starEach (e :: r) env = (false, eval e env) :: starEach r env) : EvL c n sc ρ σ (e :: r) QL := by
  intro A env s pos C
  refine wpAny_items_cons (wmono (h A env s C) fun x s₁ ⟨σ₁, a, S, G, I, q⟩ => ?_) (he env)
  refine wmono (q A env s₁ pos (C.step S G)) fun xs s₂ ⟨σ₂, vs, S₂, G₂, I₂, q₂⟩ => ?_
  exact ⟨σ₂, a :: vs, S.trans S₂, G₂, .cons (I.step S₂ apart_no) I₂, q₂⟩
end

section
variable {c : Cx} {σ : Sg} {s : Shared}

/-- allocation of a thing that stays as it is -/
theorem push_step (o : Obj) : Step No σ s σ { s with heap := s.heap.push o } :=
  ⟨fun _ _ e _ _ => Heap.get?_push_of_some o e, fun _ e _ => e, fun _ e => .inl e, rfl, rfl, rfl⟩

theorem OIn.step {P : Addr → Prop} {σ σ' : Sg} {s s' : Shared} (S : Step P σ s σ' s') (hp : Apart P σ s.heap) {a : Addr} {o : AO} (hs : ∀ ob, s.heap.get? a = some ob → s'.heap.get? a = some ob) :
    OIn c.prog c.w σ s.heap a o → OIn c.prog c.w σ' s'.heap a o := by
  cases o with
  | list t vs => exact fun ⟨xs, ⟨k, ho⟩, l, h⟩ => ⟨xs, ⟨k, hs _ ho⟩, l, h.step S hp⟩
  | idict t es => exact fun ⟨kvs, ⟨ob, es', ep, ho, r⟩, l, k, h, q⟩ => ⟨kvs, ⟨ob, es', ep, hs _ ho, r⟩, l, k, h.step S hp, q⟩
  | sdict t es => exact fun ⟨kvs, ⟨ob, es', ep, ho, r⟩, l, k, h, q⟩ => ⟨kvs, ⟨ob, es', ep, hs _ ho, r⟩, l, k, h.step S hp, q⟩
  | ns t fs => exact fun ⟨es, k, ho, l, h⟩ => ⟨es, k, hs _ ho, l, h.step S hp⟩
  | iter vs =>
    rintro (⟨l, i, xs, ⟨ob, ho, r⟩, hl, hn, hv⟩ | ⟨l, i, xs, ⟨ob, ho, r⟩, hl, hn, hv⟩ | ⟨x, left, ho, hv⟩)
    · exact .inl ⟨l, i, xs, ⟨ob, hs _ ho, r⟩, (S.list hp hl hn).1, (S.list hp hl hn).2, hv.step S hp⟩
    · exact .inr (.inl ⟨l, i, xs, ⟨ob, hs _ ho, r⟩, (S.tuple hp hl hn).1, (S.tuple hp hl hn).2, hv.step S hp⟩)
    · exact .inr (.inr ⟨x, left, hs _ ho, hv⟩)
  | giter l i => exact fun ⟨ob, ho, r⟩ => ⟨ob, hs _ ho, r⟩
  | enum it l i vs => exact fun ⟨old, xs, ho, hl, hn, hv⟩ => ⟨old, xs, hs _ ho, (S.list hp hl hn).1, (S.list hp hl hn).2, hv.step S hp⟩
  | acc vs => exact fun ⟨xs, ⟨k, ho⟩, l, h⟩ => ⟨xs, ⟨k, hs _ ho⟩, l, h.step S hp⟩

/-- nothing of the ghosts is turned -/
theorem Good.out (G : c.Good σ s.heap) {a : Addr} {o : Obj} (e : c.h₀.get? a = some o) : σ a = Option.none := by
  cases q : σ a with
  | none => rfl
  | some z => have := G.off a (by rw [q]; exact fun z => nomatch z); rw [e] at this; cases this
theorem Good.same {σ : Sg} {s s' : Shared} (G : c.Good σ s.heap) (S : Step No σ s σ s') (hs : ∀ a ob, σ a ≠ Option.none → s.heap.get? a = some ob → s'.heap.get? a = some ob) : c.Good σ s'.heap :=
  ⟨fun a o e => S.keep _ _ (G.base a o e) (G.out e) id, G.off, fun a o e => OIn.step S apart_no (fun ob => hs a ob (by rw [e]; exact fun z => nomatch z)) (G.objs a o e)⟩

theorem Good.push (G : c.Good σ s.heap) (o : Obj) : c.Good σ (s.heap.push o) := Good.same (s' := { s with heap := s.heap.push o }) G (push_step o) fun _ _ _ e => Heap.get?_push_of_some o e

theorem OIn.alive {prog : Program} {w : World} {σ : Sg} {h : Heap} {a : Addr} {o : AO} (H : OIn prog w σ h a o) : ∃ ob, h.get? a = some ob := by
  cases o with
  | list t vs => obtain ⟨xs, ⟨k, ho⟩, _⟩ := H; exact ⟨_, ho⟩
  | idict t es => obtain ⟨xs, ⟨ob, _, _, ho, r⟩, _⟩ := H; exact ⟨ob, ho⟩
  | sdict t es => obtain ⟨xs, ⟨ob, _, _, ho, r⟩, _⟩ := H; exact ⟨ob, ho⟩
  | ns t fs => obtain ⟨es, k, ho, _⟩ := H; exact ⟨_, ho⟩
  | iter vs =>
    rcases H with (⟨l, i, xs, ⟨ob, ho, r⟩, hl, hn, hv⟩ | ⟨l, i, xs, ⟨ob, ho, r⟩, hl, hn, hv⟩ | ⟨x, left, ho, hv⟩)
    · exact ⟨ob, ho⟩
    · exact ⟨ob, ho⟩
    · exact ⟨_, ho⟩
  | giter l i => obtain ⟨ob, ho, r⟩ := H; exact ⟨ob, ho⟩
  | enum it l i vs => obtain ⟨old, xs, ho, _⟩ := H; exact ⟨_, ho⟩
  | acc vs => obtain ⟨xs, ⟨k, ho⟩, _⟩ := H; exact ⟨_, ho⟩
theorem Good.alive (G : c.Good σ s.heap) {a : Addr} (h : σ a ≠ none) : ∃ ob, s.heap.get? a = some ob := by
  cases q : σ a with
  | none => exact absurd q h
  | some z => exact (G.objs a z q).alive
theorem Good.lt (G : c.Good σ s.heap) {a : Addr} (h : σ a ≠ none) : a < s.heap.objs.size := let ⟨_, e⟩ := G.alive h; Heap.lt_size e
theorem Good.nofresh (G : c.Good σ s.heap) {a : Addr} (h : s.heap.objs.size ≤ a) : σ a = none := by
  cases q : σ a with
  | none => rfl
  | some z => exact absurd (G.lt (a := a) (by rw [q]; exact fun z => nomatch z)) (Nat.not_lt.mpr h)

def upd (σ : Sg) (a : Addr) (o : AO) : Sg := fun x => if x = a then some o else σ x
theorem upd_same {a : Addr} {o : AO} : upd σ a o a = some o := if_pos rfl
theorem upd_ne {a b : Addr} {o : AO} {r : Option AO} (h : b ≠ a) (e : σ b = r) : upd σ a o b = r := (if_neg h).trans e
theorem upd_upd {a : Addr} {o o' : AO} : upd (upd σ a o) a o' = upd σ a o' := by
  funext x; unfold upd; split <;> rfl
theorem upd_ob {a b : Addr} {o : AO} (h : Ob σ b) (k : Ob σ a → o.it = false) : Ob (upd σ a o) b := by
  by_cases q : b = a
  · subst q; exact ⟨o, upd_same, k h⟩
  · obtain ⟨o', e, i⟩ := h; exact ⟨o', upd_ne q e, i⟩

theorem upd_step {h' : Heap} {a : Addr} {o : AO} (ha : σ a ≠ none) (hk : Ob σ a → o.it = false) (hs : Heap.SameBut a s.heap h') (t : Nat) : Step No σ s (upd σ a o) { s with heap := h', toks := t } := by
  refine ⟨fun b ob e n _ => ?_, fun b e _ => upd_ob e hk, fun b e => ?_, rfl, rfl, rfl⟩
  · exact (hs.2 b fun q => ha (q ▸ n)).trans e
  · by_cases q : b = a
    · exact .inl (q ▸ ha)
    · exact .inl fun z => e (upd_ne q z)
theorem Good.upd (G : c.Good σ s.heap) {h' : Heap} {a : Addr} {o : AO} (ha : σ a ≠ Option.none) (hk : Ob σ a → o.it = false) (hs : Heap.SameBut a s.heap h') (ho : OIn c.prog c.w (Mine.upd σ a o) h' a o) : c.Good (Mine.upd σ a o) h' := by
  have S := upd_step (o := o) ha hk hs s.toks
  refine ⟨fun b ob e => (hs.2 b ?_).trans (G.base b ob e), fun b e => ?_, fun b ob e => ?_⟩
  · rintro rfl; exact ha (G.out e)
  · by_cases q : b = a
    · exact G.off b (q ▸ ha)
    · exact G.off b fun z => e (upd_ne q z)
  · by_cases q : b = a
    · subst q; rw [upd_same] at e; cases e; exact ho
    · unfold Mine.upd at e; rw [if_neg q] at e
      exact OIn.step S apart_no (fun ob' e' => (hs.2 b q).trans e') (G.objs b ob e)

theorem new_step (G : c.Good σ s.heap) (ob : Obj) {o : AO} : Step No σ s (upd σ s.heap.objs.size o) { s with heap := s.heap.push ob } := by
  refine ⟨fun b x e _ _ => Heap.get?_push_of_some ob e, fun b e _ => upd_ob e fun z => absurd (G.nofresh (Nat.le_refl _)) z.ne, fun b e => ?_, rfl, rfl, rfl⟩
  by_cases q : b = s.heap.objs.size
  · exact .inr (.inl (Heap.get?_none_of_le (Nat.le_of_eq q.symm)))
  · exact .inl fun z => e (upd_ne q z)
theorem Good.h0 (G : c.Good σ s.heap) {a : Addr} (h : s.heap.objs.size ≤ a) : c.h₀.get? a = Option.none := by
  cases q : c.h₀.get? a with
  | none => rfl
  | some o => exact absurd (Heap.lt_size (G.base a o q)) (Nat.not_lt.mpr h)
theorem Good.new (G : c.Good σ s.heap) (ob : Obj) {o : AO} (ho : OIn c.prog c.w (Mine.upd σ s.heap.objs.size o) (s.heap.push ob) s.heap.objs.size o) : c.Good (Mine.upd σ s.heap.objs.size o) (s.heap.push ob) := by
  have S := new_step (o := o) G ob
  refine ⟨fun b x e => Heap.get?_push_of_some ob (G.base b x e), fun b e => ?_, fun b x e => ?_⟩
  · by_cases q : b = s.heap.objs.size
    · exact G.h0 (Nat.le_of_eq q.symm)
    · exact G.off b fun z => e (upd_ne q z)
  · by_cases q : b = s.heap.objs.size
    · subst q; rw [upd_same] at e; cases e; exact ho
    · unfold Mine.upd at e; rw [if_neg q] at e
      exact OIn.step S apart_no (fun ob' e' => Heap.get?_push_of_some ob e') (G.objs b x e)
end

section
variable {c : Cx} {n : Nat} {sc : Scope} {ρ : Rho} {σ : Sg} {Q : V → Sg → Prop}

theorem post_tup {s : Shared} {vs : List V} {xs : List Value} (G : c.Good σ s.heap) (I : VAll σ s.heap vs xs) (hl : vs.length ≤ big) (h : Q (.tup vs) σ) (t : Nat) :
    Post c σ s Q (.ref s.heap.objs.size) { s with heap := s.heap.push { cls := .type "tuple", data := .seq xs.toArray }, toks := t } := by
  have S : Step No σ s σ { s with heap := s.heap.push { cls := .type "tuple", data := .seq xs.toArray } } := push_step _
  exact ⟨σ, .tup vs, S.trans (Step.toks _ _ _), G.push _, .tup (IsTup.new _ _) (G.nofresh (Nat.le_refl _)) (by rw [← I.length]; exact hl) (I.step S apart_no), h⟩
theorem isList_new (h : Heap) (xs : Array Value) : (h.push { cls := .type "list", data := .seq xs }).PlainList h.objs.size xs := ⟨_, Heap.get?_push_size _ rfl⟩
theorem post_lst {s : Shared} {vs : List V} {xs : List Value} (G : c.Good σ s.heap) (I : VAll σ s.heap vs xs) (hl : vs.length ≤ big) (h : Q (.lst vs) σ) (t : Nat) :
    Post c σ s Q (.ref s.heap.objs.size) { s with heap := s.heap.push { cls := .type "list", data := .seq xs.toArray }, toks := t } := by
  have S : Step No σ s σ { s with heap := s.heap.push { cls := .type "list", data := .seq xs.toArray } } := push_step _
  exact ⟨σ, .lst vs, S.trans (Step.toks _ _ _), G.push _, .lst (isList_new _ _) (G.nofresh (Nat.le_refl _)) (by rw [← I.length]; exact hl) (I.step S apart_no), h⟩
theorem post_mlst {s : Shared} {vs : List V} {xs : List Value} {tg : Nat} (G : c.Good σ s.heap) (I : VAll σ s.heap vs xs) (hl : vs.length ≤ big) (h : ∀ a, σ a = none → Q (.ref a) (upd σ a (.list tg vs))) (t : Nat) :
    Post c σ s Q (.ref s.heap.objs.size) { s with heap := s.heap.push { cls := .type "list", data := .seq xs.toArray }, toks := t } := by
  have S := new_step (o := AO.list tg vs) G { cls := .type "list", data := .seq xs.toArray }
  refine ⟨upd σ s.heap.objs.size (.list tg vs), .ref _, S.trans (Step.toks _ _ _), G.new _ ⟨xs, isList_new _ _, by rw [← I.length]; exact hl, I.step S apart_no⟩, .ref ⟨_, upd_same, rfl⟩, h _ (G.nofresh (Nat.le_refl _))⟩
theorem big_size {k : Nat} (h : k ≤ big) : k ≤ sizeLine := Nat.le_trans h (by decide)

theorem ev_tuple {es : List Expr} {k : Nat} {pos : Pos} (h : EvL c n sc ρ σ es fun vs σ₁ => vs.length ≤ big ∧ Q (.tup vs) σ₁) : EvE c n sc ρ σ (.Tuple es k pos) Q := by
  intro A env s C
  refine wpAny_Tuple (wmono (h A env s pos C) fun xs s₁ ⟨σ₁, vs, S, G, I, hl, q⟩ => ⟨big_size (I.length ▸ hl), ?_⟩)
  exact Post.trans S (post_tup G I hl q s₁.toks)
theorem ev_list {es : List Expr} {pos : Pos} (h : EvL c n sc ρ σ es fun vs σ₁ => vs.length ≤ big ∧ Q (.lst vs) σ₁) : EvE c n sc ρ σ (.List es pos) Q := by
  intro A env s C
  refine wpAny_List (wmono (h A env s pos C) fun xs s₁ ⟨σ₁, vs, S, G, I, hl, q⟩ => ⟨big_size (I.length ▸ hl), ?_⟩)
  exact Post.trans S (post_lst G I hl q s₁.toks)
theorem ev_mlist {es : List Expr} {pos : Pos} (tg : Nat) (h : EvL c n sc ρ σ es fun vs σ₁ => vs.length ≤ big ∧ ∀ a, σ₁ a = none → Q (.ref a) (upd σ₁ a (.list tg vs))) : EvE c n sc ρ σ (.List es pos) Q := by
  intro A env s C
  refine wpAny_List (wmono (h A env s pos C) fun xs s₁ ⟨σ₁, vs, S, G, I, hl, q⟩ => ⟨big_size (I.length ▸ hl), ?_⟩)
  exact Post.trans S (post_mlst G I hl q s₁.toks)
end
end Mine
-- part M3
namespace Mine
open PySem PySem.W PySem.Calls PyProof.Rows

section
variable {c : Cx} {n : Nat} {sc : Scope} {ρ : Rho} {σ : Sg} {Q : V → Sg → Prop} {QB : Bool → Sg → Prop} {QL : List V → Sg → Prop}

theorem Good.In {c : Cx} {σ : Sg} {h : Heap} (G : c.Good σ h) : c.K.In h := fun a o e => G.base a o (c.X a o e)

theorem nse_get {h : Heap} : ∀ {fs : List (Str × V)} {es : List DictEntry} (x : Str), NsE σ h fs es →
    (∀ v, fs.lookup x = some v → ∃ y, getL x es = some (some y) ∧ VIn σ h v y) ∧ (fs.lookup x = none → getL x es = some none)
  | _, _, x, .nil => ⟨fun v e => by simp at e, fun _ => rfl⟩
  | (z, u) :: fs, _, x, .cons (t := t) (hs := hsh) (y := y) (es := es) a r => by
    obtain ⟨p, q⟩ := nse_get x r
    have key : getL x (⟨hsh, .str z t, y⟩ :: es) = if z == x then some (some y) else getL x es := by
      unfold getL
      simp only [List.find?_cons, Value.isStr]
      cases h : (z == x) with
      | true => rfl
      | false => simp [DictEntry.refKey]
    rw [key, List.lookup_cons]
    cases h : (x == z) with
    | true =>
      rw [beq_iff_eq] at h; subst h
      simp only [beq_self_eq_true, if_true]
      exact ⟨fun v e => by cases e; exact ⟨y, rfl, a⟩, fun e => by cases e⟩
    | false =>
      have : (z == x) = false := by
        cases q : (z == x) with
        | false => rfl
        | true => rw [beq_iff_eq] at q; subst q; simp at h
      rw [this]
      exact ⟨p, q⟩

def fieldOk (K : Frag) (C : Addr) (name : Str) : Bool :=
  (clsIn K C).any (·.hasDict) && (findIn K (.ref C) name == some none) && (findIn K (.ref C) "__getattribute__" == some (some (.builtin "object.__getattribute__")))
def storeOk (K : Frag) (C : Addr) (name : Str) : Bool :=
  (findIn K (.ref C) "__setattr__" == some (some (.builtin "object.__setattr__"))) && plainOver K C && (takerIn K C name == some none) && (clsIn K C).any (·.hasDict)
def methOk (K : Frag) (C : Addr) (name : Str) (f : Addr) : Bool :=
  (findIn K (.ref C) "__getattribute__" == some (some (.builtin "object.__getattribute__"))) && (findIn K (.ref C) "__getattr__" == some none) &&
  (findIn K (.ref C) name == some (some (.ref f))) && (typeIn K (.ref f) == some (.type "function")) && keepIn K (.ref f)
def makeOk (K : Frag) (C f : Addr) : Bool :=
  makesIn K C && (findIn K (.ref C) "__init__" == some (some (.ref f))) && (typeIn K (.ref f) == some (.type "function")) && keepIn K (.ref C)

theorem VIn.handed {h : Heap} {v : V} {x : Value} (I : VIn σ h v x) : handedIn x = true := by cases I <;> rfl

theorem inst_at {s : Shared} {C l x : Addr} {t : Nat} {fs : List (Str × V)} (G : c.Good σ s.heap) (hx : s.heap.get? x = some (instObj C l)) (hl : σ l = some (.ns t fs)) :
    ∃ es k, s.heap.get? l = some (dictOf es k) ∧ fs.length ≤ 900 ∧ NsE σ s.heap fs es ∧ InstAt s.heap x (instObj C l) C (some (dictOf es k)) := by
  obtain ⟨es, k, ho, hb, hm⟩ := G.objs l _ hl
  exact ⟨es, k, ho, hb, hm, hx, rfl, rfl, ho⟩

theorem getattr_field {C l : Addr} {t : Nat} {fs : List (Str × V)} {name : Str} {u : V} {expr : Bool} (hl : σ l = some (.ns t fs)) (hu : fs.lookup name = some u) (hk : fieldOk c.K C name = true) (h : Q u σ) :
    Op1 c n (fun x => getAttr x name expr) (.inst C l) σ Q := by
  intro A s x R G I
  cases I with
  | inst hx hn hln =>
    obtain ⟨es, k, ho, hb, hm, IA⟩ := inst_at G hx hl
    obtain ⟨y, e1, e2⟩ := (nse_get name hm).1 u hu
    unfold fieldOk at hk
    simp only [Bool.and_eq_true, beq_iff_eq] at hk
    obtain ⟨⟨h1, h2⟩, h3⟩ := hk
    obtain ⟨cd, hcd, hd⟩ := any_some h1
    refine get_value G.In IA h3 ?_ e2.handed (Post.here G e2 h _) (v := y)
    unfold findObj
    rw [hcd, Option.bind_some, h2]
    simp only [Option.bind_some]
    unfold PySem.W.ownOf
    rw [hd, if_pos rfl]
    show (lookIn name (dictOf es k)).bind _ = _
    rw [lookIn_dict, e1]; rfl

theorem ev_attr {e : Expr} {name : Str} {pos : Pos} (hb : ∀ env, attributeBase e name env (eval e env) = eval e env) (h : EvE c n sc ρ σ e fun v σ₁ => Op1 c n (fun x => getAttr x name true) v σ₁ Q) : EvE c n sc ρ σ (.Attribute e name pos) Q := by
  intro A env s C
  refine wpAny_bind (?_ : wpAny c.M A (attributeBase e name env (eval e env)) (fun o s₁ => wpAny c.M A (do
      standAt pos.atName
      let r ← holding [o] (getAttr o name true)
      letTemporaryGo e o r
      pure r) _ _ s₁) _ s)
  rw [hb]
  refine wmono (h A env s C) fun x s₁ ⟨σ₁, a, S, G, I, q⟩ => wpAny_bind (wpAny_standAt (wpAny_bind (wpAny_holding ?_)))
  exact wmono (q A s₁ x C.room G I) fun y s₂ P => wpAny_bind (wpAny_letTemporaryGo (wpAny_pure (Post.trans S P)))

theorem evalArgs_nilS {M : Model} {A : Around} {E : Value → Shared → Prop} {s : Shared} {f : Value} {Q : Args → Shared → Prop} (h : wpAny M A (spliced []) (fun vs s' => Q ⟨vs, []⟩ s') E s) : wpAny M A (evalArgs f true [] []) Q E s := by
  unfold evalArgs
  show wpAny M A (spliced [] >>= _) Q E s
  refine wpAny_bind (wpAny_mono h (fun vs s' h' => ?_) fun _ _ x => x)
  refine wpAny_holding ?_
  exact wpAny_bind (wpAny_pure (wpAny_bind (wpAny_pure (wpAny_pure h'))))

/-- the receiver of a method call -/
def MethV (c : Cx) (n : Nat) (name : Str) (a : V) (σ : Sg) (f : Value) : Prop :=
  ∀ A s x pl (Q : Value × List Value → Shared → Prop), Room n A → c.Good σ s.heap → VIn σ s.heap a x → Q (f, [x]) s → wpAny c.M A (getMethod x name pl) Q Ef s

theorem meth_inst {C l : Addr} {t : Nat} {fs : List (Str × V)} {name : Str} {f : Addr} (hl : σ l = some (.ns t fs)) (hu : fs.lookup name = none) (hk : methOk c.K C name f = true) : MethV c n name (.inst C l) σ (.ref f) := by
  intro A s x pl Q R G I q
  cases I with
  | inst hx hn hln =>
    obtain ⟨es, k, ho, hb, hm, IA⟩ := inst_at G hx hl
    unfold methOk at hk
    simp only [Bool.and_eq_true, beq_iff_eq] at hk
    obtain ⟨⟨⟨⟨h1, h2⟩, h3⟩, h4⟩, h5⟩ := hk
    refine method_fn G.In IA h1 h2 h3 h4 ?_ q
    show (lookIn name (dictOf es k)).map _ = _
    rw [lookIn_dict, (nse_get name hm).2 hu]; rfl

theorem ev_call_attr {o : Expr} {name : Str} {apos pos : Pos} {args : List Expr} {f : Value} (hb : ∀ env, attributeBase o name env (eval o env) = eval o env) (hline : (apos.endLine == pos.line) = true)
    (hform : ∀ env, methodCallForm (args.length + ([] : List Keyword).length) (backTo pos (starEach args env)) (backToKw pos (keywordEach [] env)) = true)
    (hplain : ∀ env, (backTo pos (starEach args env)).any (·.1) = false) (hargs : ∀ env, args = [] ∨ ∃ x r, starEach args env = (false, x) :: r)
    (hk : ∀ h : Heap, c.K.In h → ∃ k, (k = Keeper.frame ∨ k = Keeper.machine ∨ k = Keeper.boundFrame) ∧ Looks c.M h (keeperOf f) k)
    (h : EvE c n sc ρ σ o fun v σ₁ => MethV c n name v σ₁ f ∧ EvL c n sc ρ σ₁ args fun vs σ₂ => CallV c n f (v :: vs) σ₂ Q) : EvE c n sc ρ σ (.Call (.Attribute o name apos) args [] pos) Q := by
  intro A env s C
  rw [arm_eval_Call, hb]
  refine wpAny_bind (wmono (h A env s C) fun x s₁ ⟨σ₁, a, S, G, I, hm, q⟩ => wpAny_bind (wpAny_standAt ?_))
  have hpos : methodCallPos true o env apos pos = pure pos := by unfold methodCallPos; simp [hline]
  unfold methodCall
  rw [hform]
  refine wpAny_bind (wpAny_holding (hm A s₁ x _ _ C.room G I (wpAny_bind (wpAny_of_eq hpos ?_))))
  have fin : wpAny c.M A (spliced (backTo pos (starEach args env))) (fun vs s₂ => c.K.In s₂.heap ∧ wpAny c.M A (call f ([x] ++ vs)) (Post c σ s Q) Ef s₂) Ef s₁ := by
    refine wmono (q A env s₁ pos (C.step S G)) fun xs s₂ ⟨σ₂, vs, S₂, G₂, I₂, q₂⟩ => ⟨G₂.In, ?_⟩
    exact wmono (q₂ A s₂ (x :: xs) C.room G₂ (.cons (I.step S₂ apart_no) I₂)) fun _ _ => Post.trans (S.trans S₂)
  refine callWith_of (P := c.K.In) ?_ hk ?_
  · rw [hplain]; rfl
  · rcases hargs env with rfl | ⟨y, r, e⟩
    · exact evalArgs_nilS fin
    · rw [e] at fin ⊢
      exact evalArgs_plain fin

theorem keeps_builtin (id : String) (h : Heap) (_X : c.K.In h) : ∃ k, (k = Keeper.frame ∨ k = Keeper.machine ∨ k = Keeper.boundFrame) ∧ Looks c.M h (keeperOf (.builtin id)) k :=
  ⟨.machine, .inr (.inl rfl), Looks.of_pure rfl⟩
theorem keeps_type (id : String) (h : Heap) (_X : c.K.In h) : ∃ k, (k = Keeper.frame ∨ k = Keeper.machine ∨ k = Keeper.boundFrame) ∧ Looks c.M h (keeperOf (.type id)) k :=
  ⟨.machine, .inr (.inl rfl), Looks.of_pure rfl⟩

/-- a global name -/
def GlobV (c : Cx) (x : Str) (v : Value) : Prop :=
  ∀ (A : Around) (env : Env) (s : Shared) (Q : Value → Shared → Prop), (∀ a o, c.h₀.get? a = some o → s.heap.get? a = some o) → env.globals = mainGlobals → env.builtins = builtinsNs → Q v s → wpAny c.M A (loadGlobal env x) Q Ef s
theorem glob_own {x : Str} {v : Value} (h : nsIn c.K mainGlobals x = some (some v)) : GlobV c x v := by
  intro A env s Q k hg hb q
  exact loadGlobal_global (mg := c.mg) (hg ▸ c.g.keeps k) (c.mgK x v h) q
theorem glob_builtin {x : Str} {v : Value} (h : nsIn c.K mainGlobals x = some none) (hv : bootBuiltins x = some v) (hn : x ≠ ("__name__" : Str)) : GlobV c x v := by
  intro A env s Q k hg hb q
  exact loadGlobal_builtin (mg := c.mg) (mb := c.mb) (hg ▸ c.g.keeps k) (c.mgN x h) (hb ▸ c.b.keeps k) (c.mbB x v hv hn) q

def globOk (sc : Scope) (x : Str) : Bool := sc.names.lookup x == some .globalImplicit && sc.kind == .function && !(x == ("__debug__" : Str))

theorem ev_call {x : Str} {p pos : Pos} {args : List Expr} {f : Value} (hg : GlobV c x f) (hx : globOk sc x = true)
    (hplain : ∀ env, (backTo pos (starEach args env)).any (·.1) = false) (hargs : ∀ env, args = [] ∨ ∃ x r, starEach args env = (false, x) :: r)
    (hk : ∀ h : Heap, c.K.In h → ∃ k, (k = Keeper.frame ∨ k = Keeper.machine ∨ k = Keeper.boundFrame) ∧ Looks c.M h (keeperOf f) k)
    (h : EvL c n sc ρ σ args fun vs σ₁ => CallV c n f vs σ₁ Q) : EvE c n sc ρ σ (.Call (.Name x p) args [] pos) Q := by
  intro A env s C
  unfold globOk at hx
  simp only [Bool.and_eq_true, beq_iff_eq, Bool.not_eq_true'] at hx
  obtain ⟨⟨h1, h2⟩, h3⟩ := hx
  have hsc := C.loc.scope
  refine wpAny_Call_NameR (Name_function_global (by rw [hsc]; exact h2) (by show env.scope.names.lookup x = _; rw [hsc]; exact h1) (hg A env s _ C.good.base C.loc.glob C.loc.blt ?_) h3)
  have fin : wpAny c.M A (spliced (backTo pos (starEach args env))) (fun vs s₂ => c.K.In s₂.heap ∧ wpAny c.M A (call f ([] ++ vs)) (Post c σ s Q) Ef s₂) Ef s := by
    refine wmono (h A env s pos C) fun xs s₂ ⟨σ₂, vs, S₂, G₂, I₂, q₂⟩ => ⟨G₂.In, ?_⟩
    exact wmono (q₂ A s₂ xs C.room G₂ I₂) fun _ _ => Post.trans S₂
  refine callWith_of (P := c.K.In) ?_ hk ?_
  · rw [hplain]; rfl
  · rcases hargs env with rfl | ⟨y, r, e⟩
    · exact evalArgs_nilS fin
    · rw [e] at fin ⊢
      exact evalArgs_plain fin

/-- statements -/
def PostS (c : Cx) (sc : Scope) (σ : Sg) (env : Env) (s : Shared) (N : Rho → Sg → Prop) (R : V → Sg → Prop) (f : Flow) (s' : Shared) : Prop :=
  ∃ σ' ρ', Step (FrP sc env) σ s σ' s' ∧ c.Good σ' s'.heap ∧ Loc c sc ρ' σ' env s'.heap ∧ match f with
    | .next => N ρ' σ'
    | .ret x => ∃ v, VIn σ' s'.heap v x ∧ R v σ'
    | _ => False
def ExS (c : Cx) (n : Nat) (sc : Scope) (ρ : Rho) (σ : Sg) (st : List Stmt) (N : Rho → Sg → Prop) (R : V → Sg → Prop) : Prop :=
  ∀ A env s, Co c n sc ρ σ A env s → wpAny c.M A (execs st env) (PostS c sc σ env s N R) Ef s
def Ex1 (c : Cx) (n : Nat) (sc : Scope) (ρ : Rho) (σ : Sg) (st : Stmt) (N : Rho → Sg → Prop) (R : V → Sg → Prop) : Prop :=
  ∀ A env s, Co c n sc ρ σ A env s → wpAny c.M A (exec st env) (PostS c sc σ env s N R) Ef s

theorem PostS.trans {sc : Scope} {σ σ₁ : Sg} {env : Env} {s s₁ s' : Shared} {N : Rho → Sg → Prop} {R : V → Sg → Prop} {f : Flow} (S : Step (FrP sc env) σ s σ₁ s₁) (H : PostS c sc σ₁ env s₁ N R f s') : PostS c sc σ env s N R f s' :=
  let ⟨σ', ρ', S', G, L, q⟩ := H; ⟨σ', ρ', S.trans S', G, L, q⟩

theorem xs_nil {N : Rho → Sg → Prop} {R : V → Sg → Prop} (h : N ρ σ) : ExS c n sc ρ σ [] N R := fun _ _ _ C => wpAny_pure ⟨σ, ρ, Step.refl _ _, C.good, C.loc, h⟩
theorem xs_cons {st : Stmt} {r : List Stmt} {N : Rho → Sg → Prop} {R : V → Sg → Prop} (h : Ex1 c n sc ρ σ st (fun ρ₁ σ₁ => ExS c n sc ρ₁ σ₁ r N R) R) : ExS c n sc ρ σ (st :: r) N R := by
  intro A env s C
  show wpAny c.M A (do match ← exec st env with | .next => execs r env | f => pure f) _ _ s
  refine wpAny_bind (wmono (h A env s C) fun f s₁ ⟨σ₁, ρ₁, S, G, L, q⟩ => ?_)
  cases f with
  | next => exact wmono (q A env s₁ ⟨C.room, L, G⟩) fun _ _ => PostS.trans S
  | ret x => exact wpAny_pure ⟨σ₁, ρ₁, S, G, L, q⟩
  | brk => exact q.elim
  | cont => exact q.elim
theorem xs_mono {st : List Stmt} {N N' : Rho → Sg → Prop} {R R' : V → Sg → Prop} (h : ExS c n sc ρ σ st N R) (hN : ∀ ρ σ, N ρ σ → N' ρ σ) (hR : ∀ v σ, R v σ → R' v σ) : ExS c n sc ρ σ st N' R' := by
  intro A env s C
  refine wmono (h A env s C) fun f s₁ ⟨σ₁, ρ₁, S, G, L, q⟩ => ⟨σ₁, ρ₁, S, G, L, ?_⟩
  cases f with
  | next => exact hN _ _ q
  | ret x => obtain ⟨v, I, q⟩ := q; exact ⟨v, I, hR _ _ q⟩
  | brk => exact q.elim
  | cont => exact q.elim

theorem x_return {e : Expr} {pos : Pos} {N : Rho → Sg → Prop} {R : V → Sg → Prop} (h : EvE c n sc ρ σ e R) : Ex1 c n sc ρ σ (.Return (some e) pos) N R := by
  intro A env s C
  rw [arm_exec_Return]
  refine wpAny_bind (wpAny_standAt (wpAny_bind (wmono (h A env s C) fun x s₁ ⟨σ₁, a, S, G, I, q⟩ => wpAny_pure ?_)))
  exact ⟨σ₁, ρ, S.mono fun _ => False.elim, G, C.loc.step S, a, I, q⟩
theorem x_return_none {pos : Pos} {N : Rho → Sg → Prop} {R : V → Sg → Prop} (h : R .none σ) : Ex1 c n sc ρ σ (.Return none pos) N R := by
  intro A env s C
  rw [arm_exec_Return]
  refine wpAny_bind (wpAny_standAt (wpAny_pure ?_))
  exact ⟨σ, ρ, Step.refl _ _, C.good, C.loc, .none, .none, h⟩
theorem x_if {t : Expr} {b o : List Stmt} {pos : Pos} {N : Rho → Sg → Prop} {R : V → Sg → Prop} (h : EvT c n sc ρ σ t fun r σ₁ => (r = true → ExS c n sc ρ σ₁ b N R) ∧ (r = false → ExS c n sc ρ σ₁ o N R)) : Ex1 c n sc ρ σ (.If t b o pos) N R := by
  intro A env s C
  rw [arm_exec_If]
  refine wpAny_bind (wpAny_standAt (wpAny_bind (wmono (h A env s C) fun r s₁ ⟨σ₁, S, G, q⟩ => ?_)))
  cases r with
  | true => exact wmono (q.1 rfl A env s₁ (C.step S G)) fun _ _ => PostS.trans (S.mono fun _ => False.elim)
  | false => exact wmono (q.2 rfl A env s₁ (C.step S G)) fun _ _ => PostS.trans (S.mono fun _ => False.elim)
end
end Mine
-- part M4
namespace Mine
open PySem PySem.W PySem.Calls PyProof.Rows

def rset : Rho → Str → V → Rho
  | [], x, v => [(x, v)]
  | (y, u) :: r, x, v => if x == y then (y, v) :: r else (y, u) :: rset r x v
theorem rset_lookup : ∀ (ρ : Rho) (x : Str) (v : V) (y : Str), (rset ρ x v).lookup y = if y == x then some v else ρ.lookup y
  | [], x, v, y => by simp only [rset, List.lookup_cons, List.lookup_nil]; cases (y == x) <;> rfl
  | (z, u) :: r, x, v, y => by
    unfold rset
    by_cases h : (x == z) = true
    · rw [if_pos h]
      rw [beq_iff_eq] at h; subst h
      rw [List.lookup_cons, List.lookup_cons]
      cases h : (y == x) <;> simp
    · rw [if_neg h, List.lookup_cons, List.lookup_cons, rset_lookup r x v y]
      cases h1 : (y == z) with
      | true =>
        rw [beq_iff_eq] at h1; subst h1
        have : (y == x) = false := by
          cases q : (y == x) with
          | false => rfl
          | true => rw [beq_iff_eq] at q; subst q; simp at h
        simp [this]
      | false => cases h2 : (y == x) <;> simp

def del (σ : Sg) (a : Addr) : Sg := fun x => if x = a then none else σ x
theorem del_upd {σ : Sg} {a : Addr} {o : AO} (h : σ a = none) : del (upd σ a o) a = σ := by
  funext x; unfold del upd; by_cases q : x = a
  · subst q; rw [if_pos rfl, h]
  · rw [if_neg q, if_neg q]
theorem del_ne {σ : Sg} {a b : Addr} {r : Option AO} (h : b ≠ a) (e : σ b = r) : del σ a b = r := (if_neg h).trans e

section
variable {c : Cx} {n : Nat} {sc : Scope} {ρ : Rho} {σ : Sg} {Q : V → Sg → Prop}

def storeNOk (sc : Scope) (x : Str) : Bool :=
  (match sc.names.lookup x with
    | some .local | some .cell => true
    | _ => false) && sc.kind == .function

def PostA (c : Cx) (sc : Scope) (σ : Sg) (env : Env) (s : Shared) (K : Rho → Sg → Prop) (_ : Unit) (s' : Shared) : Prop :=
  ∃ σ' ρ', Step (FrP sc env) σ s σ' s' ∧ c.Good σ' s'.heap ∧ Loc c sc ρ' σ' env s'.heap ∧ K ρ' σ'

theorem PostA.trans {σ₁ : Sg} {env : Env} {s s₁ s' : Shared} {K : Rho → Sg → Prop} {u : Unit} (S : Step (FrP sc env) σ s σ₁ s₁) (H : PostA c sc σ₁ env s₁ K u s') : PostA c sc σ env s K u s' :=
  let ⟨σ', ρ', S', G, L, q⟩ := H; ⟨σ', ρ', S.trans S', G, L, q⟩

/-- a part of the frame turned, no ghost -/
theorem fr_step {env : Env} {s : Shared} {h' : Heap} {a : Addr} (C : Loc c sc ρ σ env s.heap) (G : c.Good σ s.heap) (ha : FrP sc env a) (hs : Heap.SameBut a s.heap h') (t : Nat) :
    Step (FrP sc env) σ s σ { s with heap := h', toks := t } ∧ c.Good σ h' := by
  have S : Step (FrP sc env) σ s σ { s with heap := h', toks := t } :=
    ⟨fun b o e _ p => (hs.2 b fun q => p (q ▸ ha)).trans e, fun _ e _ => e, fun _ e => .inl e, rfl, rfl, rfl⟩
  have hnone : σ a = none := (C.frp a ha).1
  have h0 : c.h₀.get? a = none := by
    rcases ha with rfl | ⟨x, hx, e⟩
    · exact C.lup
    · obtain ⟨a', e1, _, e3, _⟩ := C.cel x hx
      rw [e] at e1; cases e1; exact e3
  refine ⟨S, fun b o e => (hs.2 b ?_).trans (G.base b o e), G.off, fun b o e => ?_⟩
  · rintro rfl; rw [h0] at e; cases e
  · exact OIn.step (s' := { s with heap := h', toks := t }) S C.frp (fun ob eb => (hs.2 b fun q => by rw [q, hnone] at e; cases e).trans eb) (G.objs b o e)

theorem store_name {A : Around} {env : Env} {s : Shared} {x : Str} {v : V} {y : Value} {K : Rho → Sg → Prop} (C : Co c n sc ρ σ A env s) (hk : storeNOk sc x = true) (I : VIn σ s.heap v y)
    (h : K (rset ρ x v) σ) : wpAny c.M A (storeName env x y) (PostA c sc σ env s K) Ef s := by
  unfold storeNOk at hk
  simp only [Bool.and_eq_true, beq_iff_eq] at hk
  obtain ⟨h1, h2⟩ := hk
  have hsc := C.loc.scope
  have F := C.loc.frp
  split at h1
  · rename_i e
    obtain ⟨m, hn, hm⟩ := C.loc.lns
    refine wpAny_storeName_local (by show env.scope.names.lookup x = _; rw [hsc]; exact e) hn (fun h' hn' hs => ?_) (by rw [hsc, h2]; rfl)
    obtain ⟨S, G'⟩ := fr_step C.loc C.good (.inl rfl) hs (s.toks + 1)
    refine ⟨σ, rset ρ x v, S, G', ⟨hsc, C.loc.glob, C.loc.blt, ⟨_, hn', fun z u ez ek => ?_⟩, C.loc.lσ, C.loc.lup, fun z hz => ?_, C.loc.apart⟩, h⟩
    · rw [rset_lookup] at ez
      by_cases q : z = x
      · subst q
        rw [if_pos (by simp)] at ez; cases ez
        exact ⟨y, by simp, I.step S F⟩
      · rw [if_neg (by simpa using q)] at ez
        obtain ⟨w, e1, e2⟩ := hm z u ez ek
        exact ⟨w, by simp [q, e1], e2.step S F⟩
    · obtain ⟨a, e1, e2, e3, w, ⟨o, ho, hd⟩, e4⟩ := C.loc.cel z hz
      have hne : a ≠ env.locals := by
        rintro rfl
        obtain ⟨o', es, ep, ho', hd', _⟩ := hn
        rw [ho] at ho'; cases ho'; rw [hd] at hd'; cases hd'
      refine ⟨a, e1, e2, e3, w, ⟨o, (hs.2 a hne).trans ho, hd⟩, fun u eu => ?_⟩
      rw [rset_lookup] at eu
      have q : z ≠ x := by
        rintro rfl
        rcases hz with q | q <;> (rw [e] at q; cases q)
      rw [if_neg (by simpa using q)] at eu
      obtain ⟨z', p, p2⟩ := e4 u eu
      exact ⟨z', p, p2.step S F⟩
  · rename_i e
    obtain ⟨a, e1, e2, e3, w, hc, e4⟩ := C.loc.cel x (.inl e)
    refine wpAny_storeName_cell (by rw [hsc]; exact h2) (by show env.scope.names.lookup x = _; rw [hsc]; exact e) e1 hc (fun h' hc' hs => ?_)
    obtain ⟨S, G'⟩ := fr_step C.loc C.good (.inr ⟨x, .inl e, e1⟩) hs s.toks
    obtain ⟨m, hn, hm⟩ := C.loc.lns
    have hne : env.locals ≠ a := by
      rintro rfl
      obtain ⟨o', es, ep, ho', hd', _⟩ := hn
      obtain ⟨o, ho, hd⟩ := hc
      rw [ho] at ho'; cases ho'; rw [hd] at hd'; cases hd'
    refine ⟨σ, rset ρ x v, S, G', ⟨hsc, C.loc.glob, C.loc.blt, ⟨m, hn.sameBut hs hne, fun z u ez ek => ?_⟩, C.loc.lσ, C.loc.lup, fun z hz => ?_, C.loc.apart⟩, h⟩
    · rw [rset_lookup] at ez
      have q : z ≠ x := by rintro rfl; rw [e] at ek; cases ek
      rw [if_neg (by simpa using q)] at ez
      obtain ⟨w, e1, e2⟩ := hm z u ez ek
      exact ⟨w, e1, e2.step S F⟩
    · by_cases q : z = x
      · subst q
        refine ⟨a, e1, e2, e3, _, hc', fun u eu => ⟨y, rfl, ?_⟩⟩
        rw [rset_lookup, if_pos (by simp)] at eu; cases eu
        exact I.step S F
      · obtain ⟨a', f1, f2, f3, w', hc2, f4⟩ := C.loc.cel z hz
        have hne' : a' ≠ a := by
          rintro rfl
          exact q (C.loc.apart z x a' hz (.inl e) f1 e1)
        refine ⟨a', f1, f2, f3, w', hc2.sameBut hs hne', fun u eu => ?_⟩
        rw [rset_lookup, if_neg (by simpa using q)] at eu
        obtain ⟨z', p, p2⟩ := f4 u eu
        exact ⟨z', p, p2.step S F⟩
  · cases h1

/-- targets -/
def AsT (c : Cx) (n : Nat) (sc : Scope) (ρ : Rho) (σ : Sg) (t : Expr) (v : V) (K : Rho → Sg → Prop) : Prop :=
  ∀ A env s x, Co c n sc ρ σ A env s → VIn σ s.heap v x → wpAny c.M A (assign t env x) (PostA c sc σ env s K) Ef s
theorem as_name {x : Str} {pos : Pos} {v : V} {K : Rho → Sg → Prop} (hk : storeNOk sc x = true) (h : K (rset ρ x v) σ) : AsT c n sc ρ σ (.Name x pos) v K := by
  intro A env s y C I
  exact assign_Name (store_name C hk I h)

def AsL (c : Cx) (n : Nat) (sc : Scope) (ρ : Rho) (σ : Sg) (ts : List Expr) (vs : List V) (K : Rho → Sg → Prop) : Prop :=
  ∀ A env s xs, Co c n sc ρ σ A env s → VAll σ s.heap vs xs → wpAny c.M A (assignInOrder ((assignEach ts env).map (·.2)) xs) (PostA c sc σ env s K) Ef s
theorem al_nil {K : Rho → Sg → Prop} (h : K ρ σ) : AsL c n sc ρ σ [] [] K := by
  intro A env s xs C I
  cases I
  exact wpAny_pure ⟨σ, ρ, Step.refl _ _, C.good, C.loc, h⟩
theorem al_cons {t : Expr} {ts : List Expr} {v : V} {vs : List V} {K : Rho → Sg → Prop} (h : AsT c n sc ρ σ t v fun ρ₁ σ₁ => AsL c n sc ρ₁ σ₁ ts vs K)
    (he : ∀ env, (assignEach (t :: ts) env).map (·.2) = assign t env :: (assignEach ts env).map (·.2)) : AsL c n sc ρ σ (t :: ts) (v :: vs) K := by
  intro A env s xs C I
  cases I with
  | cons I J =>
    rename_i x xs
    rw [he]
    show wpAny c.M A (do holding xs (assign t env x); assignInOrder ((assignEach ts env).map (·.2)) xs) _ _ s
    refine wpAny_bind (wpAny_holding (wmono (h A env s x C I) fun _ s₁ ⟨σ₁, ρ₁, S, G, L, q⟩ => ?_))
    exact wmono (q A env s₁ xs ⟨C.room, L, G⟩ (J.step S C.loc.frp)) fun _ _ => PostA.trans S

/-- only new things -/
theorem ext_step {P : Addr → Prop} {s : Shared} {h' : Heap} (C : c.Good σ s.heap) (hs : Heap.ExtBut s.heap.objs.size s.heap h') (t : Nat) : Step P σ s σ { s with heap := h', toks := t } ∧ c.Good σ h' := by
  have k : ∀ a o, s.heap.get? a = some o → h'.get? a = some o := fun a o e => hs a o (Nat.ne_of_lt (Heap.lt_size e)) e
  have S : Step P σ s σ { s with heap := h', toks := t } := ⟨fun a o e _ _ => k a o e, fun _ e _ => e, fun _ e => .inl e, rfl, rfl, rfl⟩
  have S' : Step No σ s σ { s with heap := h', toks := t } := ⟨fun a o e _ _ => k a o e, fun _ e _ => e, fun _ e => .inl e, rfl, rfl, rfl⟩
  exact ⟨S, Good.same (s' := { s with heap := h', toks := t }) C S' fun a o _ e => k a o e⟩

theorem as_tuple {ts : List Expr} {k : Nat} {pos : Pos} {vs : List V} {K : Rho → Sg → Prop} (hlen : ts.length = vs.length) (hl : ∀ env, (assignEach ts env).length = ts.length) (hst : ∀ env, (assignEach ts env).findIdx? (·.1) = none)
    (h : AsL c n sc ρ σ ts vs K) : AsT c n sc ρ σ (.Tuple ts k pos) (.tup vs) K := by
  intro A env s x C I
  cases I with
  | tup ht hn hb hv =>
    rename_i a xs
    refine wpAny_assign_Tuple C.room.1 (t := a) (items := xs.toArray) ht ?_ (hst env) fun h' hs => ?_
    · rw [hl, hlen, hv.length]; simp
    · obtain ⟨S, G⟩ := ext_step (P := No) C.good hs s.toks
      exact wmono (h A env { s with heap := h' } xs ⟨C.room, C.loc.step S, G⟩ (hv.step S apart_no)) fun _ _ => PostA.trans (S.mono fun _ => False.elim)

theorem x_assign {t value : Expr} {pos : Pos} {N : Rho → Sg → Prop} {R : V → Sg → Prop} (h : EvE c n sc ρ σ value fun v σ₁ => AsT c n sc ρ σ₁ t v N)
    (hs : ∀ env, swapsWithSole [t] value pos.line env = pure false) (hw : ∀ env, env.scope = sc → swappedStores [t] value env = pure none)
    (he : ∀ env, (assignEach [t] env).map (·.2) = [assign t env]) : Ex1 c n sc ρ σ (.Assign [t] value pos) N R := by
  intro A env s C
  refine wpAny_Assign_stores (wmono (h A env s C) fun x s₁ ⟨σ₁, a, S, G, I, q⟩ => ?_) (hs env) (hw env C.loc.scope)
  rw [he]
  show wpAny c.M A (assign t env x) _ _ s₁
  exact wmono (q A env s₁ x (C.step S G) I) fun _ s₂ ⟨σ₂, ρ₂, S₂, G₂, L₂, q₂⟩ => ⟨σ₂, ρ₂, (S.mono fun _ => False.elim).trans S₂, G₂, L₂, q₂⟩

theorem x_expr {e : Expr} {pos : Pos} {N : Rho → Sg → Prop} {R : V → Sg → Prop} (h : EvE c n sc ρ σ e fun _ σ₁ => N ρ σ₁) (hi : (sc.kind == .module) = false)
    (hs : ∀ env, swapsWith e none pos.line env = pure false) : Ex1 c n sc ρ σ (.Expr e pos) N R := by
  intro A env s C
  refine wpAny_Expr_any (wmono (h A env s C) fun x s₁ ⟨σ₁, a, S, G, I, q⟩ => ⟨σ₁, ρ, S.mono fun _ => False.elim, G, C.loc.step S, q⟩) ?_ (hs env)
  unfold interactive; rw [C.loc.scope, hi]; rfl

theorem x_while {t : Expr} {body : List Stmt} {pos : Pos} {N : Rho → Sg → Prop} {R : V → Sg → Prop} (J : Nat → Rho → Sg → Prop) (k : Nat) (h0 : J k ρ σ)
    (step : ∀ m ρ σ, J m ρ σ → EvT c n sc ρ σ t fun b σ₁ => (b = true → ExS c n sc ρ σ₁ body (fun ρ₂ σ₂ => ∃ m', m' < m ∧ J m' ρ₂ σ₂) R) ∧ (b = false → N ρ σ₁)) : Ex1 c n sc ρ σ (.While t body [] pos) N R := by
  intro A env s C
  refine wpAny_While (codeAny_whileLoop (fun m s' => ∃ σ' ρ', Step (FrP sc env) σ s σ' s' ∧ c.Good σ' s'.heap ∧ Loc c sc ρ' σ' env s'.heap ∧ J m ρ' σ') ?_ k ⟨σ, ρ, Step.refl _ _, C.good, C.loc, h0⟩)
  rintro m s₁ ⟨σ₁, ρ₁, S₁, G₁, L₁, j⟩
  refine wpAny_mono (step m ρ₁ σ₁ j A env s₁ ⟨C.room, L₁, G₁⟩) (fun b s₂ ⟨σ₂, S₂, G₂, q⟩ => ?_) fun _ _ e => e.elim
  cases b with
  | false => exact wpAny_execs_nil ⟨σ₂, ρ₁, S₁.trans (S₂.mono fun _ => False.elim), G₂, L₁.step S₂, q.2 rfl⟩
  | true =>
    refine wpAny_mono (q.1 rfl A env s₂ ⟨C.room, L₁.step S₂, G₂⟩) (fun f s₃ ⟨σ₃, ρ₃, S₃, G₃, L₃, r⟩ => ?_) fun _ _ e => e.elim
    have T := (S₁.trans (S₂.mono fun _ => False.elim)).trans S₃
    cases f with
    | next => obtain ⟨m', l, j'⟩ := r; exact ⟨m', l, σ₃, ρ₃, T, G₃, L₃, j'⟩
    | ret x => exact ⟨σ₃, ρ₃, T, G₃, L₃, r⟩
    | brk => exact r.elim
    | cont => exact r.elim
end
end Mine
-- part M5
namespace Mine
open PySem PySem.W PySem.Calls PyProof.Rows

section
variable {c : Cx} {n : Nat} {sc : Scope} {ρ : Rho} {σ : Sg} {Q : V → Sg → Prop}

/-- iterators -/
theorem iter_next {A : Around} {s : Shared} {a : Addr} {v : V} {vs : List V} (G : c.Good σ s.heap) (ha : σ a = some (.iter (v :: vs))) :
    wpAny c.M A (pyNext (.ref a)) (fun r s' => ∃ x, r = some x ∧ Step No σ s (upd σ a (.iter vs)) s' ∧ c.Good (upd σ a (.iter vs)) s'.heap ∧ VIn (upd σ a (.iter vs)) s'.heap v x) Ef s := by
  have hne : σ a ≠ none := by rw [ha]; exact fun z => nomatch z
  have hk : ∀ {b : Bool}, Ob σ a → b = false := fun ⟨o, e, i⟩ => by rw [ha] at e; cases e; cases i
  rcases G.objs a _ ha with (⟨l, i, xs, hit, hl, hn, hv⟩ | ⟨l, i, xs, hit, hl, hn, hv⟩ | ⟨x, left, hit, hv⟩)
  · have e : ∃ y ys, xs.drop i = y :: ys := by
      cases q : xs.drop i with
      | nil => rw [q] at hv; cases hv
      | cons y ys => exact ⟨y, ys, rfl⟩
    obtain ⟨y, ys, e⟩ := e
    rw [e] at hv
    have hx : xs[i]? = some y := by
      have := congrArg List.head? e; simpa [List.head?_drop] using this
    have hd : xs.drop (i + 1) = ys := by
      rw [← List.drop_drop, e]; rfl
    cases hv with
    | cons hv hvs =>
      refine wpAny_pyNext_list_item hit hl (x := y) (by simpa using hx) fun h' hit' hs => ?_
      have S : Step No σ s (upd σ a (.iter vs)) { s with heap := h' } := upd_step hne hk hs s.toks
      obtain ⟨L1, L2⟩ := S.list apart_no hl hn
      exact ⟨y, rfl, S, G.upd hne hk hs (.inl ⟨l, i + 1, xs, hit', L1, L2, hd ▸ hvs.step S apart_no⟩), hv.step S apart_no⟩
  · have e : ∃ y ys, xs.drop i = y :: ys := by
      cases q : xs.drop i with
      | nil => rw [q] at hv; cases hv
      | cons y ys => exact ⟨y, ys, rfl⟩
    obtain ⟨y, ys, e⟩ := e
    rw [e] at hv
    have hx : xs[i]? = some y := by
      have := congrArg List.head? e; simpa [List.head?_drop] using this
    have hd : xs.drop (i + 1) = ys := by
      rw [← List.drop_drop, e]; rfl
    cases hv with
    | cons hv hvs =>
      refine wpAny_pyNext_tuple_item hit hl (x := y) (by simpa using hx) fun h' hit' hs => ?_
      have S : Step No σ s (upd σ a (.iter vs)) { s with heap := h' } := upd_step hne hk hs s.toks
      obtain ⟨L1, L2⟩ := S.tuple apart_no hl hn
      exact ⟨y, rfl, S, G.upd hne hk hs (.inr (.inl ⟨l, i + 1, xs, hit', L1, L2, hd ▸ hvs.step S apart_no⟩)), hv.step S apart_no⟩
  · cases left with
    | zero => simp at hv
    | succ k =>
      rw [List.range_succ_eq_map] at hv
      simp only [List.map_cons, List.map_map, List.cons.injEq] at hv
      obtain ⟨rfl, rfl⟩ := hv
      refine wpAny_pyNext_range_item hit (by omega) fun h' hit' hs => ?_
      have S : Step No σ s (upd σ a (.iter ((List.range k).map ((fun (j : Nat) => V.int (x + j)) ∘ Nat.succ)))) { s with heap := h', toks := s.toks + 1 } := upd_step hne hk hs (s.toks + 1)
      refine ⟨_, rfl, S, G.upd hne hk hs (.inr (.inr ⟨x + 1, k, ?_, ?_⟩)), by simpa using VIn.int x s.toks⟩
      · have : ((k + 1 : Nat) : Int) - 1 = (k : Int) := by omega
        rw [this] at hit'; exact hit'
      · refine List.map_congr_left fun j _ => ?_
        show V.int _ = V.int _
        congr 1
        push_cast
        omega

theorem del_step (a : Addr) (hk : ¬ Ob σ a) {s : Shared} {h' : Heap} (hs : Heap.ExtBut a s.heap h') (hne : σ a ≠ none) (t : Nat) : Step No σ s (del σ a) { s with heap := h', toks := t } := by
  refine ⟨fun b o e n _ => hs b o (fun q => hne (q ▸ n)) e, fun b e _ => ?_, fun b e => ?_, rfl, rfl, rfl⟩
  · obtain ⟨o, e, i⟩ := e
    exact ⟨o, del_ne (fun q => hk (q ▸ ⟨o, e, i⟩)) e, i⟩
  · by_cases q : b = a
    · subst q; simp [Mine.del] at e
    · rw [del_ne q rfl] at e; exact .inl e
theorem Good.del {s : Shared} {h' : Heap} {a : Addr} (G : c.Good σ s.heap) (hk : ¬ Ob σ a) (hne : σ a ≠ none) (hs : Heap.ExtBut a s.heap h') : c.Good (del σ a) h' := by
  have S := del_step a hk hs hne s.toks
  refine ⟨fun b o e => S.keep b o (G.base b o e) (G.out e) id, fun b e => ?_, fun b o e => ?_⟩
  · by_cases q : b = a
    · subst q; simp [Mine.del] at e
    · rw [del_ne q rfl] at e; exact G.off b e
  · by_cases q : b = a
    · subst q; simp [Mine.del] at e
    · rw [del_ne q rfl] at e
      exact OIn.step S apart_no (fun ob e' => hs b ob q e') (G.objs b o e)

theorem iter_end {A : Around} {s : Shared} {a : Addr} (hh : A.handled = none) (G : c.Good σ s.heap) (ha : σ a = some (.iter [])) :
    wpAny c.M A (pyNext (.ref a)) (fun r s' => r = none ∧ Step No σ s (del σ a) s' ∧ c.Good (del σ a) s'.heap) Ef s := by
  have hne : σ a ≠ none := by rw [ha]; exact fun z => nomatch z
  have hk : ¬ Ob σ a := fun ⟨o, e, i⟩ => by rw [ha] at e; cases e; cases i
  rcases G.objs a _ ha with (⟨l, i, xs, hit, hl, hn, hv⟩ | ⟨l, i, xs, hit, hl, hn, hv⟩ | ⟨x, left, hit, hv⟩)
  · have e : xs.drop i = [] := by cases q : xs.drop i with | nil => rfl | cons y ys => rw [q] at hv; cases hv
    refine wpAny_pyNext_list_end hh hit hl (by simpa using List.drop_eq_nil_iff.mp e) fun h' hs => ⟨rfl, del_step a hk hs hne s.toks, G.del hk hne hs⟩
  · have e : xs.drop i = [] := by cases q : xs.drop i with | nil => rfl | cons y ys => rw [q] at hv; cases hv
    refine wpAny_pyNext_tuple_end hh hit hl (by simpa using List.drop_eq_nil_iff.mp e) fun h' hs => ⟨rfl, del_step a hk hs hne s.toks, G.del hk hne hs⟩
  · have e : left = 0 := by cases left with | zero => rfl | succ k => rw [List.range_succ_eq_map] at hv; simp at hv
    subst e
    refine wpAny_pyNext_range_end hh hit (by simp) fun h' hs => ⟨rfl, del_step a hk hs hne s.toks, G.del hk hne hs⟩

/-- the iterators do not keep their pairs -/
theorem owned_iter {A : Around} {s : Shared} {a : Addr} {vs : List V} {t : Expr} {x : Value} {Q : Unit → Shared → Prop} (G : c.Good σ s.heap) (ha : σ a = some (.iter vs)) (h : Q () s) : wpAny c.M A (letOwnedTupleGo t (.ref a) x) Q Ef s := by
  have key : ∀ (o : Obj) (cls : String), s.heap.get? a = some o → o.cls = .type cls → (["enumerate", "zip", "dict_itemiterator", "dict_reverseitemiterator", "odict_iterator", "itertools.zip_longest", "itertools.pairwise"].contains cls) = false → wpAny c.M A (letOwnedTupleGo t (.ref a) x) Q Ef s := by
    intro o cls ho hc hn
    unfold letOwnedTupleGo
    split
    · cases x with
      | ref b =>
        refine wpAny_bind (wpAny_load ho ?_)
        rw [hc]
        split
        · rename_i n vs' q1 q2
          cases q1
          rw [hn]
          exact wpAny_pure h
        · exact wpAny_pure h
      | _ => exact wpAny_pure h
    · cases x with
      | ref b =>
        refine wpAny_bind (wpAny_load ho ?_)
        rw [hc]
        split
        · rename_i n vs' q1 q2
          cases q1
          rw [hn]
          exact wpAny_pure h
        · exact wpAny_pure h
      | _ => exact wpAny_pure h
    · exact wpAny_pure h
  rcases G.objs a _ ha with (⟨l, i, xs, ⟨o, ho, hc, _⟩, _⟩ | ⟨l, i, xs, ⟨o, ho, hc, _⟩, _⟩ | ⟨y, left, ho, _⟩)
  · exact key o _ ho hc (by decide)
  · exact key o _ ho hc (by decide)
  · exact key _ "range_iterator" ho rfl (by decide)

/-- the iterator of an expression's value -/
def PostI (c : Cx) (σ : Sg) (s : Shared) (Q : Addr → Sg → Prop) (x : Value) (s' : Shared) : Prop :=
  ∃ σ' a, x = .ref a ∧ Step No σ s σ' s' ∧ c.Good σ' s'.heap ∧ Q a σ'
def ItV (c : Cx) (n : Nat) (a : V) (σ : Sg) (Q : Addr → Sg → Prop) : Prop :=
  ∀ A s x, Room n A → c.Good σ s.heap → VIn σ s.heap a x → wpAny c.M A (pyIter x) (PostI c σ s Q) Ef s
theorem PostI.trans {σ₁ : Sg} {s s₁ s' : Shared} {Q : Addr → Sg → Prop} {x : Value} (S : Step No σ s σ₁ s₁) (H : PostI c σ₁ s₁ Q x s') : PostI c σ s Q x s' :=
  let ⟨σ', a, e, S', G, q⟩ := H; ⟨σ', a, e, S.trans S', G, q⟩

theorem it_tup {vs : List V} {Q : Addr → Sg → Prop} (h : ∀ a, σ a = none → Q a (upd σ a (.iter vs))) : ItV c n (.tup vs) σ Q := by
  intro A s x R G I
  cases I with
  | tup ht hn hb hv =>
    rename_i a xs
    refine wpAny_pyIter_tuple ht ?_
    have S := new_step (o := AO.iter vs) G { cls := .type "tuple_iterator", data := .fields #[.ref a, .int 0 0] }
    obtain ⟨L1, L2⟩ := S.tuple apart_no ht hn
    exact ⟨_, _, rfl, S, G.new _ (.inr (.inl ⟨a, 0, xs, ⟨_, Heap.get?_push_size _ rfl, rfl, rfl⟩, L1, L2, by simpa using hv.step S apart_no⟩)), h _ (G.nofresh (Nat.le_refl _))⟩
theorem it_lst {vs : List V} {Q : Addr → Sg → Prop} (h : ∀ a, σ a = none → Q a (upd σ a (.iter vs))) : ItV c n (.lst vs) σ Q := by
  intro A s x R G I
  cases I with
  | lst ht hn hb hv =>
    rename_i a xs
    refine wpAny_pyIter_list ht.isList ?_
    have S := new_step (o := AO.iter vs) G { cls := .type "list_iterator", data := .fields #[.ref a, .int 0 0] }
    obtain ⟨L1, L2⟩ := S.list apart_no ht.isList hn
    exact ⟨_, _, rfl, S, G.new _ (.inl ⟨a, 0, xs, ⟨_, Heap.get?_push_size _ rfl, rfl, rfl⟩, L1, L2, by simpa using hv.step S apart_no⟩), h _ (G.nofresh (Nat.le_refl _))⟩

theorem x_for {t iter : Expr} {body : List Stmt} {pos : Pos} {N : Rho → Sg → Prop} {R : V → Sg → Prop} (J : Addr → List V → Rho → Sg → Prop)
    (hs : ∀ env x, foldedSetIterable iter env x = pure x)
    (h0 : EvE c n sc ρ σ iter fun v σ₁ => ItV c n v σ₁ fun a σ₂ => ∃ vs, σ₂ a = some (.iter vs) ∧ J a vs ρ σ₂)
    (step : ∀ a v vs ρ σ, σ a = some (.iter (v :: vs)) → J a (v :: vs) ρ σ → AsT c n sc ρ (upd σ a (.iter vs)) t v fun ρ₁ σ₁ => ExS c n sc ρ₁ σ₁ body (fun ρ₂ σ₂ => σ₂ a = some (.iter vs) ∧ J a vs ρ₂ σ₂) R)
    (done : ∀ a ρ σ, σ a = some (.iter []) → J a [] ρ σ → N ρ (del σ a)) : Ex1 c n sc ρ σ (.For t iter body [] pos) N R := by
  intro A env s C
  refine wpAny_For (wmono (h0 A env s C) fun x s₁ ⟨σ₁, v, S₁, G₁, I₁, q⟩ => wmono (q A s₁ x C.room G₁ I₁) fun it s₂ ⟨σ₂, a, e, S₂, G₂, vs, ha, j⟩ => ?_) (hs env)
  subst e
  have T₂ : Step (FrP sc env) σ s σ₂ s₂ := (S₁.trans S₂).mono fun _ => False.elim
  refine codeAny_forLoop_any (fun m s' => ∃ σ' ρ' vs, Step (FrP sc env) σ s σ' s' ∧ c.Good σ' s'.heap ∧ Loc c sc ρ' σ' env s'.heap ∧ σ' a = some (.iter vs) ∧ J a vs ρ' σ' ∧ m = vs.length) ?_ vs.length
    ⟨σ₂, ρ, vs, T₂, G₂, (C.loc.step S₁).step S₂, ha, j, rfl⟩
  rintro m s₃ ⟨σ₃, ρ₃, vs, S₃, G₃, L₃, ha, j, rfl⟩
  cases vs with
  | nil =>
    refine wpAny_mono (iter_end C.room.1 G₃ ha) (fun r s₄ ⟨e, S₄, G₄⟩ => ?_) fun _ _ e => e.elim
    subst e
    exact wpAny_execs_nil ⟨_, ρ₃, S₃.trans (S₄.mono fun _ => False.elim), G₄, L₃.step S₄, done a ρ₃ σ₃ ha j⟩
  | cons v vs =>
    refine wpAny_mono (iter_next G₃ ha) (fun r s₄ ⟨x, e, S₄, G₄, I₄⟩ => ?_) fun _ _ e => e.elim
    subst e
    refine wpAny_mono (owned_iter (Q := fun _ s => s = s₄) G₄ upd_same rfl) (fun _ s₄' e => ?_) fun _ _ e => e.elim
    subst e
    refine wpAny_mono (step a v vs ρ₃ σ₃ ha j A env _ x ⟨C.room, L₃.step S₄, G₄⟩ I₄) (fun _ s₅ ⟨σ₅, ρ₅, S₅, G₅, L₅, q₅⟩ => ?_) fun _ _ e => e.elim
    refine wpAny_mono (q₅ A env s₅ ⟨C.room, L₅, G₅⟩) (fun f s₆ ⟨σ₆, ρ₆, S₆, G₆, L₆, r⟩ => ?_) fun _ _ e => e.elim
    have T := ((S₃.trans (S₄.mono fun _ => False.elim)).trans S₅).trans S₆
    cases f with
    | next => exact ⟨vs.length, by simp, σ₆, ρ₆, vs, T, G₆, L₆, r.1, r.2, rfl⟩
    | ret x => exact ⟨σ₆, ρ₆, T, G₆, L₆, r⟩
    | brk => exact r.elim
    | cont => exact r.elim
end
end Mine
-- part M6
namespace Mine
open PySem PySem.W PySem.Calls PyProof.Rows

theorem zip_lookup {σ : Sg} {h : Heap} : ∀ {names : List Str} {vs : List V} {xs : List Value} {x : Str} {v : V}, VAll σ h vs xs → (names.zip vs).lookup x = some v → ∃ y, (names.zip xs).lookup x = some y ∧ VIn σ h v y
  | [], _, _, _, _, _, e => by simp at e
  | _ :: _, [], _, _, _, _, e => by simp at e
  | nm :: names, v' :: vs, xs, x, v, I, e => by
    cases I with
    | cons i r =>
      rename_i y ys
      simp only [List.zip_cons_cons, List.lookup_cons] at e ⊢
      cases q : (x == nm) with
      | true => rw [q] at e; cases e; exact ⟨_, rfl, i⟩
      | false => rw [q] at e; exact zip_lookup r e

theorem bindL_skip {kindOf : Str → Option NameKind} : ∀ {binds : List (Str × Value)} {m : Str → Option Value} {x : Str}, (∀ p ∈ binds, p.1 ≠ x) → bindL kindOf binds m x = m x
  | [], _, _, _ => rfl
  | (y, w) :: r, m, x, h => by
    unfold bindL
    rw [bindL_skip fun p hp => h p (.tail _ hp)]
    split
    · exact if_neg (Ne.symm (h (y, w) (.head _)))
    · rfl
theorem bindC_skip {kindOf : Str → Option NameKind} : ∀ {binds : List (Str × Value)} {m : Str → Option Value} {x : Str}, (∀ p ∈ binds, p.1 ≠ x) → bindC kindOf binds m x = m x
  | [], _, _, _ => rfl
  | (y, w) :: r, m, x, h => by
    unfold bindC
    rw [bindC_skip fun p hp => h p (.tail _ hp)]
    split
    · rfl
    · exact if_neg (Ne.symm (h (y, w) (.head _)))
theorem mem_zip {names : List Str} {xs : List Value} {p : Str × Value} (h : p ∈ names.zip xs) : p.1 ∈ names := (List.of_mem_zip (a := p.1) (b := p.2) h).1
theorem mem_zip' {names : List Str} {xs : List Value} {p : Str × Value} {x : Str} (h : p ∈ names.zip xs) (e : p.1 = x) : x ∈ names := e ▸ mem_zip h
theorem bindL_zip {kindOf : Str → Option NameKind} : ∀ {names : List Str} {xs : List Value} {m : Str → Option Value} {x : Str} {y : Value}, names.Nodup → (names.zip xs).lookup x = some y → kindOf x = some .local → bindL kindOf (names.zip xs) m x = some y
  | [], _, _, _, _, _, e, _ => by simp at e
  | _ :: _, [], _, _, _, _, e, _ => by simp at e
  | nm :: names, w :: xs, m, x, y, hn, e, k => by
    obtain ⟨h1, h2⟩ := List.nodup_cons.mp hn
    simp only [List.zip_cons_cons, List.lookup_cons] at e ⊢
    unfold bindL
    cases q : (x == nm) with
    | true =>
      rw [q] at e; cases e
      rw [beq_iff_eq] at q; subst q
      rw [bindL_skip fun p hp z => h1 (mem_zip' hp z), if_pos k, if_pos rfl]
    | false => rw [q] at e; exact bindL_zip h2 e k
theorem bindC_zip {kindOf : Str → Option NameKind} : ∀ {names : List Str} {xs : List Value} {m : Str → Option Value} {x : Str} {y : Value}, names.Nodup → (names.zip xs).lookup x = some y → kindOf x ≠ some .local → bindC kindOf (names.zip xs) m x = some y
  | [], _, _, _, _, _, e, _ => by simp at e
  | _ :: _, [], _, _, _, _, e, _ => by simp at e
  | nm :: names, w :: xs, m, x, y, hn, e, k => by
    obtain ⟨h1, h2⟩ := List.nodup_cons.mp hn
    simp only [List.zip_cons_cons, List.lookup_cons] at e ⊢
    unfold bindC
    cases q : (x == nm) with
    | true =>
      rw [q] at e; cases e
      rw [beq_iff_eq] at q; subst q
      rw [bindC_skip fun p hp z => h1 (mem_zip' hp z), if_neg k, if_pos rfl]
    | false => rw [q] at e; exact bindC_zip h2 e k

section
variable {c : Cx} {n : Nat} {sc : Scope} {ρ : Rho} {σ : Sg} {Q : V → Sg → Prop}

/-- what is asked of a def -/
structure Def (c : Cx) (a : Addr) (names : List Str) (sc : Scope) (body : List Stmt) : Prop where
  fd : ∃ fd oc od osl, c.K.lookup a = some ⟨oc, od, .func fd, osl⟩ ∧ codeIn c.K fd.code fd.qualname = true ∧ fd.body = .stmts body ∧ fd.closure = [] ∧ fd.globals = mainGlobals ∧ fd.builtins = builtinsNs ∧
    fd.scope = sc ∧ ∀ xs : List Value, xs.length = names.length → bindArgs fd ⟨xs, []⟩ = pure (names.zip xs)
  kinds : (names.all fun y => sc.names.lookup y == some .local || sc.names.lookup y == some .cell) = true
  nocell : ((cellsFrom 0 sc.names []).map (·.1)).Nodup
  nodup : names.Nodup
  nofree : (sc.names.all fun x => x.2 != .free) = true
  plain : sc.isCoroutine = false ∧ sc.isGenerator = false ∧ sc.kind = .function

theorem lookup_mem {α : Type} : ∀ {l : List (Str × α)} {x : Str} {v : α}, l.lookup x = some v → (x, v) ∈ l
  | (k, w) :: r, x, v, h => by
    rw [List.lookup_cons] at h
    cases q : (x == k) with
    | true => rw [q] at h; cases h; rw [beq_iff_eq.mp q]; exact .head _
    | false => rw [q] at h; exact .tail _ (lookup_mem h)

theorem codeAny_fn {a : Addr} {names : List Str} {body : List Stmt} {vs : List V} {A : Around} {s : Shared} {xs : List Value} {R : Result → Shared → Prop} (D : Def c a names sc body) (hl : vs.length = names.length)
    (h : ExS c n sc (names.zip vs) σ body (fun _ σ' => Q .none σ') Q) (hroom : Room (n + 1) A) (G : c.Good σ s.heap) (I : VAll σ s.heap vs xs)
    (k : ∀ x s', Post c σ s Q x s' → R (.ok (.ret x)) s') : codeAny c.M A (.call (.ref a) ⟨xs, []⟩) R s := by
  obtain ⟨fd, oc, od, osl, ho, hcd, hbody, hclo, hgl, hbl, hsc, hb⟩ := D.fd
  subst hsc
  have hxl : xs.length = names.length := I.length ▸ hl
  have hkind : ∀ x ∈ names.zip xs, fd.scope.names.lookup x.1 = some .local ∨ (fd.scope.names.lookup x.1 = some .cell ∧ ((cellsFrom (s.heap.objs.size + 1) fd.scope.names []).lookup x.1).isSome = true) := fun x hx => by
    have := List.all_eq_true.mp D.kinds x.1 (List.of_mem_zip hx).1
    rcases Bool.or_eq_true_iff.mp this with q | q
    · exact .inl (by simpa using q)
    · have q' : fd.scope.names.lookup x.1 = some .cell := by simpa using q
      exact .inr ⟨q', cellsFrom_some _ _ _ (.inl q')⟩
  refine codeAny_call_cells hroom.rec (G.base _ _ (c.X a _ ho)) rfl (c.nolim.keeps G.base) (codeRec_of G.In hcd) hbody (hb xs hxl) hclo hkind (fun s₁ x => ?_) D.plain.1 D.plain.2.1 D.plain.2.2
  obtain ⟨h₁, tk, rfl, hkeep⟩ := x.done
  have hL : (callEnvC fd s.heap.objs.size a).locals = s.heap.objs.size := rfl
  have hcells : (callEnvC fd s.heap.objs.size a).cells = cellsFrom (s.heap.objs.size + 1) fd.scope.names [] := rfl
  have S₁ : Step No σ s σ { s with heap := h₁, toks := tk } := ⟨fun b o e _ _ => hkeep b o e, fun _ e _ => e, fun _ e => .inl e, rfl, rfl, rfl⟩
  have G₁ : c.Good σ h₁ := Good.same (s' := { s with heap := h₁, toks := tk }) G S₁ fun b o _ e => hkeep b o e
  have I₁ : VAll σ h₁ vs xs := I.step (s' := { s with heap := h₁, toks := tk }) S₁ apart_no
  have hcell : ∀ y, cellish fd.scope y → fd.scope.names.lookup y = some .cell := fun y hy => hy.elim id fun q => by
    have := List.all_eq_true.mp D.nofree _ (lookup_mem q)
    simp at this
  have habove : ∀ y b, (callEnvC fd s.heap.objs.size a).cells.lookup y = some b → s.heap.objs.size ≤ b := fun y b e => Nat.le_of_lt (x.above y b (mem_of_lookup e))
  have L₁ : Loc c fd.scope (names.zip vs) σ (callEnvC fd s.heap.objs.size a) h₁ := by
    refine ⟨rfl, hgl, hbl, ⟨_, x.toInCall.ns, fun y v e kl => ?_⟩, G.nofresh (Nat.le_refl _), G.h0 (Nat.le_refl _), fun y hy => ?_, fun y z b hy hz e1 e2 => name_of_addr x.apart (mem_of_lookup e1) (mem_of_lookup e2)⟩
    · obtain ⟨w, e1, e2⟩ := zip_lookup I₁ e
      exact ⟨w, bindL_zip D.nodup e1 kl, e2⟩
    · obtain ⟨b, eb⟩ := Option.isSome_iff_exists.mp (cellsFrom_some fd.scope.names (s.heap.objs.size + 1) [] (.inl (hcell y hy)))
      refine ⟨b, eb, G.nofresh (habove y b eb), G.h0 (habove y b eb), _, x.cell y b eb, fun v e => ?_⟩
      obtain ⟨w, e1, e2⟩ := zip_lookup I₁ e
      exact ⟨w, bindC_zip D.nodup e1 (by show fd.scope.names.lookup y ≠ _; rw [hcell y hy]; exact fun z => nomatch z), e2⟩
  refine wpAny_mono (h (A.deeper (callEnvC fd s.heap.objs.size a)) _ _ ⟨hroom.deeper, L₁, G₁⟩) (fun f s' ⟨σ', ρ', S', G', L', q⟩ => ?_) fun _ _ e => e.elim
  have T : Step No σ s σ' s' := by
    refine Step.tighten (P' := FrP fd.scope (callEnvC fd s.heap.objs.size a)) ((S₁.mono fun _ => False.elim).trans S') fun y hy => .inr ?_
    rcases hy with rfl | ⟨z, hz, e⟩
    · exact ⟨Heap.get?_none_of_le (Nat.le_refl _), G.nofresh (Nat.le_refl _)⟩
    · exact ⟨Heap.get?_none_of_le (habove z y e), G.nofresh (habove z y e)⟩
  cases f with
  | next => exact k _ _ ⟨σ', .none, T, G', .none, q⟩
  | ret x => obtain ⟨v, Iv, q⟩ := q; exact k _ _ ⟨σ', v, T, G', Iv, q⟩
  | brk => exact q.elim
  | cont => exact q.elim

theorem call_fn {a : Addr} {names : List Str} {body : List Stmt} {vs : List V} (D : Def c a names sc body) (hl : vs.length = names.length)
    (h : ExS c n sc (names.zip vs) σ body (fun _ σ' => Q .none σ') Q) : CallV c (n + 1) (.ref a) vs σ Q :=
  fun _ _ _ R G I => wpAny_call (codeAny_fn D hl h R G I fun _ _ z => z)

theorem CallV.less {m : Nat} {f : Value} {vs : List V} (h : CallV c n f vs σ Q) (k : n ≤ m) : CallV c m f vs σ Q := fun A s xs R => h A s xs (R.less k)
theorem CallV.mono {f : Value} {vs : List V} {Q' : V → Sg → Prop} (h : CallV c n f vs σ Q) (k : ∀ v σ', Q v σ' → Q' v σ') : CallV c n f vs σ Q' :=
  fun A s xs R G I => wmono (h A s xs R G I) fun _ _ ⟨σ', v, S, G, I, q⟩ => ⟨σ', v, S, G, I, k _ _ q⟩

theorem keeps_in {f : Value} (hk : keepIn c.K f = true) (h : Heap) (X : c.K.In h) : ∃ k, (k = Keeper.frame ∨ k = Keeper.machine ∨ k = Keeper.boundFrame) ∧ Looks c.M h (keeperOf f) k := keeps_K hk h X

/-- a class called -/
theorem call_cls {C f : Addr} {names : List Str} {body : List Stmt} {vs : List V} (tg : Nat) (D : Def c f names sc body) (hm : makeOk c.K C f = true) (hl : vs.length + 1 = names.length)
    (h : ∀ l, σ l = none → ExS c n sc (names.zip (V.inst C l :: vs)) (upd σ l (.ns tg [])) body (fun _ σ' => Q (.inst C l) σ') (fun v σ' => v = .none ∧ Q (.inst C l) σ')) : CallV c (n + 2) (.ref C) vs σ Q := by
  intro A s xs R G I
  unfold makeOk at hm
  simp only [Bool.and_eq_true, beq_iff_eq] at hm
  obtain ⟨⟨⟨h1, h2⟩, h3⟩, h4⟩ := hm
  obtain ⟨hh, g, d, t, os⟩ := s
  dsimp only at G I
  refine wpAny_call (make_core (makes_of G.In h1) (looks_findIn G.In h2) (fun self => bind_fn G.In self h3) (.inl rfl) ?_)
  have S₁ := new_step (s := ⟨hh, g, d, t, os⟩) (o := AO.ns tg []) G emptyDict
  have G₁ : c.Good (upd σ hh.objs.size (.ns tg [])) (hh.push emptyDict) := Good.new (s := ⟨hh, g, d, t, os⟩) G emptyDict
    ⟨[], 0, Heap.get?_push_size _ rfl, Nat.zero_le _, .nil⟩
  have S₂ : Step No (upd σ hh.objs.size (.ns tg [])) ⟨hh.push emptyDict, g, d, t, os⟩ (upd σ hh.objs.size (.ns tg [])) ⟨(hh.push emptyDict).push (instObj C hh.objs.size), g, d, t, os⟩ := push_step _
  have G₂ : c.Good (upd σ hh.objs.size (.ns tg [])) ((hh.push emptyDict).push (instObj C hh.objs.size)) := Good.push (s := ⟨hh.push emptyDict, g, d, t, os⟩) G₁ _
  have hx : ((hh.push emptyDict).push (instObj C hh.objs.size)).get? (hh.objs.size + 1) = some (instObj C hh.objs.size) := by
    have := Heap.get?_push_size (hh.push emptyDict) (o := instObj C hh.objs.size) rfl
    rwa [Heap.size_push] at this
  have Ix : VIn (upd σ hh.objs.size (.ns tg [])) ((hh.push emptyDict).push (instObj C hh.objs.size)) (.inst C hh.objs.size) (.ref (hh.objs.size + 1)) :=
    .inst hx (Good.nofresh (s := ⟨hh.push emptyDict, g, d, t, os⟩) G₁ (by show (hh.push emptyDict).objs.size ≤ _; rw [Heap.size_push]; exact Nat.le_refl _)) ⟨_, upd_same, rfl⟩
  have S := S₁.trans S₂
  have Rm : Room (n + 1) (A.under (.builtin "type.__call__" ⟨.ref C :: xs, []⟩)) := by
    refine ⟨R.1, ?_, ?_⟩
    · have := R.2.1
      show A.depth + (Code.builtin "type.__call__" ⟨.ref C :: xs, []⟩).weight + 4 * (n + 1) ≤ 900
      have w : (Code.builtin "type.__call__" ⟨.ref C :: xs, []⟩).weight ≤ 4 := by
        unfold Code.weight
        have : (Code.builtin "type.__call__" ⟨.ref C :: xs, []⟩).frames = 0 := rfl
        rw [this]
        split <;> split <;> split <;> simp_all [Code.isGuard, Code.isCaller, guardIds]
      omega
    · have := R.2.2
      show A.units + (Code.builtin "type.__call__" ⟨.ref C :: xs, []⟩).cUnits + 16 * (n + 1) ≤ 9000
      have w : (Code.builtin "type.__call__" ⟨.ref C :: xs, []⟩).cUnits ≤ 16 := by
        have : (Code.builtin "type.__call__" ⟨.ref C :: xs, []⟩).frames = 0 := rfl
        simp [Code.cUnits, this]
      omega
  refine codeAny_fn (vs := V.inst C hh.objs.size :: vs) (Q := fun v σ' => v = .none ∧ Q (.inst C hh.objs.size) σ') D (by simpa using hl) (xs_mono (h hh.objs.size (Good.nofresh (s := ⟨hh, g, d, t, os⟩) G (Nat.le_refl _))) (fun _ _ z => ⟨rfl, z⟩) (fun _ _ z => z)) Rm G₂ (.cons Ix (I.step S apart_no)) ?_
  rintro x s' ⟨σ', v, S', G', I', rfl, q⟩
  cases I'
  exact ⟨rfl, σ', .inst C hh.objs.size, S.trans S', G', Ix.step S' apart_no, q⟩
end
end Mine
-- part MD
namespace Mine
open PySem PySem.W PySem.Calls PyProof.Rows

theorem runs_det {M : Model} {Γ : Ctx} {p : Pos} {t : Sem PySem.Fin} {fs : List Frame} {s : Shared} {e : End} {s' : Shared} (h : Runs M Γ p t fs s e s') : ∀ {e₂ : End} {s₂ : Shared}, Runs M Γ p t fs s e₂ s₂ → e = e₂ ∧ s' = s₂ := by
  induction h with
  | done => intro _ _ h; cases h; exact ⟨rfl, rfl⟩
  | raise => intro _ _ h; cases h; exact ⟨rfl, rfl⟩
  | again _ _ ih => intro _ _ h; cases h with | again _ h => exact ih h
  | rule _ ih => intro _ _ h; cases h with | rule h => exact ih h
  | «at» _ ih => intro _ _ h; cases h with | «at» h => exact ih h
  | load e _ ih => intro _ _ h; cases h with | load e' h => rw [e] at e'; cases e'; exact ih h
  | update _ _ ih => intro _ _ h; cases h with | update _ h => exact ih h
  | loadIfAlive _ ih => intro _ _ h; cases h with | loadIfAlive h => exact ih h
  | point _ ih => intro _ _ h; cases h with | point h => exact ih h
  | alloc _ ih => intro _ _ h; cases h with | alloc h => exact ih h
  | fresh _ ih => intro _ _ h; cases h with | fresh h => exact ih h
  | ask _ ih => intro _ _ h; cases h with | ask h => exact ih h
  | choose _ _ ih => intro _ _ h; cases h with | choose _ h => exact ih h
  | os _ ih => intro _ _ h; cases h with | os h => exact ih h
  | handled _ ih => intro _ _ h; cases h with | handled h => exact ih h
  | genState e _ ih => intro _ _ h; cases h with | genState e' h => rw [e] at e'; cases e'; exact ih h
  | stack _ ih => intro _ _ h; cases h with | stack h => exact ih h
  | thread _ ih => intro _ _ h; cases h with | thread h => exact ih h
  | newGen _ ih => intro _ _ h; cases h with | newGen h => exact ih h
  | call _ _ ih₁ ih₂ =>
    intro _ _ h
    cases h with
    | call a b => obtain ⟨q, rfl⟩ := ih₁ a; cases q; exact ih₂ b
    | callSusp a => obtain ⟨q, _⟩ := ih₁ a; cases q
  | callSusp _ ih₁ =>
    intro _ _ h
    cases h with
    | call a b => obtain ⟨q, _⟩ := ih₁ a; cases q
    | callSusp a => obtain ⟨q, rfl⟩ := ih₁ a; cases q; exact ⟨rfl, rfl⟩
  | yield => intro _ _ h; cases h; exact ⟨rfl, rfl⟩
  | resumeFresh e _ _ _ ih₁ ih₂ =>
    intro _ _ h
    cases h with
    | resumeFresh e' a _ b => rw [e] at e'; cases e'; obtain ⟨rfl, rfl⟩ := ih₁ a; exact ih₂ b
    | resumeSuspended e' _ _ _ => rw [e] at e'; cases e'
    | resumeJustStarted e' n _ => exact absurd rfl n
    | resumeRunning e' _ => rw [e] at e'; cases e'
    | resumeFinished e' _ => rw [e] at e'; cases e'
  | resumeSuspended e _ _ _ ih₁ ih₂ =>
    intro _ _ h
    cases h with
    | resumeFresh e' _ _ _ => rw [e] at e'; cases e'
    | resumeSuspended e' a _ b => rw [e] at e'; cases e'; obtain ⟨rfl, rfl⟩ := ih₁ a; exact ih₂ b
    | resumeJustStarted e' _ _ => rw [e] at e'; cases e'
    | resumeThrowFresh e' _ => rw [e] at e'; cases e'
    | resumeRunning e' _ => rw [e] at e'; cases e'
    | resumeFinished e' _ => rw [e] at e'; cases e'
  | resumeJustStarted e n _ ih =>
    intro _ _ h
    cases h with
    | resumeFresh e' _ _ _ => exact absurd rfl n
    | resumeSuspended e' _ _ _ => rw [e] at e'; cases e'
    | resumeJustStarted e' _ a => exact ih a
    | resumeRunning e' _ => rw [e] at e'; cases e'
    | resumeFinished e' _ => rw [e] at e'; cases e'
  | resumeThrowFresh e _ ih =>
    intro _ _ h
    cases h with
    | resumeSuspended e' _ _ _ => rw [e] at e'; cases e'
    | resumeThrowFresh e' a => exact ih a
    | resumeRunning e' _ => rw [e] at e'; cases e'
    | resumeFinished e' _ => rw [e] at e'; cases e'
  | resumeRunning e _ ih =>
    intro _ _ h
    cases h with
    | resumeFresh e' _ _ _ => rw [e] at e'; cases e'
    | resumeSuspended e' _ _ _ => rw [e] at e'; cases e'
    | resumeJustStarted e' _ _ => rw [e] at e'; cases e'
    | resumeThrowFresh e' _ => rw [e] at e'; cases e'
    | resumeRunning e' a => exact ih a
    | resumeFinished e' _ => rw [e] at e'; cases e'
  | resumeFinished e _ ih =>
    intro _ _ h
    cases h with
    | resumeFresh e' _ _ _ => rw [e] at e'; cases e'
    | resumeSuspended e' _ _ _ => rw [e] at e'; cases e'
    | resumeJustStarted e' _ _ => rw [e] at e'; cases e'
    | resumeThrowFresh e' _ => rw [e] at e'; cases e'
    | resumeRunning e' _ => rw [e] at e'; cases e'
    | resumeFinished e' a => exact ih a
  | segRet _ _ ih₁ ih₂ =>
    intro _ _ h
    cases h with
    | segRet a b => obtain ⟨q, rfl⟩ := ih₁ a; cases q; exact ih₂ b
    | segSuspOut _ a => obtain ⟨q, _⟩ := ih₁ a; cases q
    | segSuspGen _ a _ _ => obtain ⟨q, _⟩ := ih₁ a; cases q
  | segGen _ _ ih₁ ih₂ =>
    intro _ _ h
    cases h with
    | segGen a b => obtain ⟨q, rfl⟩ := ih₁ a; cases q; exact ih₂ b
    | segSuspOut _ a => obtain ⟨q, _⟩ := ih₁ a; cases q
    | segSuspGen _ a _ _ => obtain ⟨q, _⟩ := ih₁ a; cases q
  | segSuspOut e _ ih₁ =>
    intro _ _ h
    cases h with
    | segRet a b => obtain ⟨q, _⟩ := ih₁ a; cases q
    | segGen a b => obtain ⟨q, _⟩ := ih₁ a; cases q
    | segSuspOut _ a => obtain ⟨q, rfl⟩ := ih₁ a; cases q; exact ⟨rfl, rfl⟩
    | segSuspGen e' a _ _ => rw [e] at e'; cases e'
  | segSuspGen e _ _ _ ih₁ ih₂ =>
    intro _ _ h
    cases h with
    | segRet a b => obtain ⟨q, _⟩ := ih₁ a; cases q
    | segGen a b => obtain ⟨q, _⟩ := ih₁ a; cases q
    | segSuspOut e' a => rw [e] at e'; cases e'
    | segSuspGen e' a _ b => rw [e] at e'; cases e'; obtain ⟨q, rfl⟩ := ih₁ a; cases q; exact ih₂ b

theorem wakes_det {M : Model} {Γ : Ctx} {p : Pos} {g : Nat} {r : Resume} {s : Shared} {x y : GenResult} {s₁ s₂ : Shared} (a : Wakes M Γ p g r s x s₁) (b : Wakes M Γ p g r s y s₂) : x = y ∧ s₁ = s₂ := by
  unfold Wakes at a b
  cases hg : s.gens[g]? with
  | none => rw [hg] at a; exact a.elim
  | some st =>
    rw [hg] at a b
    cases st with
    | fresh c =>
      cases r with
      | send v =>
        cases v with
        | none =>
          obtain ⟨e₁, t₁, r₁, _, rfl, rfl⟩ := a
          obtain ⟨e₂, t₂, r₂, _, rfl, rfl⟩ := b
          obtain ⟨rfl, rfl⟩ := runs_det r₁ r₂
          exact ⟨rfl, rfl⟩
        | _ => obtain ⟨rfl, rfl⟩ := a; obtain ⟨rfl, rfl⟩ := b; exact ⟨rfl, rfl⟩
      | throw x => obtain ⟨rfl, rfl⟩ := a; obtain ⟨rfl, rfl⟩ := b; exact ⟨rfl, rfl⟩
    | suspended k₀ l₀ c₀ p₀ fs cl =>
      obtain ⟨e₁, t₁, r₁, _, rfl, rfl⟩ := a
      obtain ⟨e₂, t₂, r₂, _, rfl, rfl⟩ := b
      obtain ⟨rfl, rfl⟩ := runs_det r₁ r₂
      exact ⟨rfl, rfl⟩
    | running => obtain ⟨rfl, rfl⟩ := a; obtain ⟨rfl, rfl⟩ := b; exact ⟨rfl, rfl⟩
    | finished => obtain ⟨rfl, rfl⟩ := a; obtain ⟨rfl, rfl⟩ := b; exact ⟨rfl, rfl⟩

theorem wp_and {α : Type} {M : Model} {Γ : Ctx} {Q₁ Q₂ : α → Pos → Shared → Prop} {E₁ E₂ : Value → Pos → Shared → Prop} (t : Sem α) : ∀ {p : Pos} {s : Shared}, Sem.wp M Γ t Q₁ E₁ p s → Sem.wp M Γ t Q₂ E₂ p s →
    Sem.wp M Γ t (fun a p s => Q₁ a p s ∧ Q₂ a p s) (fun a p s => E₁ a p s ∧ E₂ a p s) p s := by
  induction t with
  | pure a => exact fun a b => ⟨a, b⟩
  | raise e => exact fun a b => ⟨a, b⟩
  | unsupported | finish | yield | fork | await | register => exact fun a _ => a
  | rule _ k ih | «at» _ k ih | alloc _ k ih | loadIfAlive _ k ih | point _ k ih | fresh k ih | ask k ih | os _ _ k ih | handled _ k ih | newGen _ k ih | stack k ih | thread k ih => exact fun a b => ih _ a b
  | load a _ k ih =>
    rintro p s ⟨o, e, a⟩ ⟨o', e', b⟩
    rw [e] at e'; cases e'
    exact ⟨o, e, ih _ a b⟩
  | genState g k ih =>
    rintro p s ⟨o, e, a⟩ ⟨o', e', b⟩
    rw [e] at e'; cases e'
    exact ⟨o, e, ih _ a b⟩
  | update a _ f k ih => exact fun ⟨x, a⟩ ⟨_, b⟩ => ⟨x, ih _ a b⟩
  | choose _ _ k ih => exact fun ⟨x, a⟩ ⟨_, b⟩ => ⟨x, ih _ a b⟩
  | call c h g l k ih =>
    rintro p s ⟨r, s₁, x, a⟩ ⟨r', s₁', y, b⟩
    obtain ⟨q, rfl⟩ := runs_det x y
    cases q
    exact ⟨r, s₁, x, ih _ a b⟩
  | resume g r l k ih =>
    rintro p s ⟨r, s₁, x, a⟩ ⟨r', s₁', y, b⟩
    obtain ⟨rfl, rfl⟩ := wakes_det x y
    exact ⟨r, s₁, x, ih _ a b⟩

theorem wpAny_and {α : Type} {M : Model} {A : Around} {Q₁ Q₂ : α → Shared → Prop} {t : Sem α} {s : Shared} (a : wpAny M A t Q₁ Ef s) (b : wpAny M A t Q₂ Ef s) : wpAny M A t (fun x s => Q₁ x s ∧ Q₂ x s) Ef s :=
  fun Γ p hΓ => Sem.wp_mono M Γ t (fun _ _ _ z => z) (fun _ _ _ z => z.1) p s (wp_and t (a Γ p hΓ) (b Γ p hΓ))

/-- every live thing but one -/
def allBut (L : Addr) (h : Heap) : List (Addr × Obj) := (List.range h.objs.size).filterMap fun a => if a = L then none else (h.get? a).map fun o => (a, o)
theorem mem_allBut {L : Addr} {h : Heap} {a : Addr} {o : Obj} : (a, o) ∈ allBut L h ↔ a ≠ L ∧ h.get? a = some o := by
  unfold allBut
  rw [List.mem_filterMap]
  constructor
  · rintro ⟨b, _, e⟩
    split at e
    · cases e
    · rename_i n
      cases q : h.get? b with
      | none => rw [q] at e; cases e
      | some o' => rw [q] at e; cases e; exact ⟨n, q⟩
  · rintro ⟨n, e⟩
    exact ⟨a, List.mem_range.mpr (Heap.lt_size e), by rw [if_neg n, e]; rfl⟩
def nil : Heap := {}
theorem nil_get (a : Addr) : nil.get? a = none := rfl
theorem fr_any {h : Heap} {L : Addr} {m : Str → Option Value} (hn : h.Ns L m) : Fr nil L h m := ⟨hn, fun b o e => (by rw [nil_get] at e; cases e), Nat.zero_le _⟩
theorem news_any {h : Heap} {L : Addr} : News nil L h (allBut L h) := fun p hp => ⟨(mem_allBut.mp hp).2, (mem_allBut.mp hp).1, nil_get _⟩

/-- a rule that speaks of a frame, where there is none: the two tables of the top stand for it -/
theorem no_frame {c : Cx} {σ : Sg} {A : Around} {s : Shared} {t : Sem Value} {R : Value → Shared → Prop} (G : c.Good σ s.heap)
    (H : ∀ L m, s.heap.Ns L m → wpAny c.M A t (fun x s' => (∀ p ∈ allBut L s.heap, s'.heap.get? p.1 = some p.2) ∧ R x s') Ef s) :
    wpAny c.M A t (fun x s' => (∀ a o, s.heap.get? a = some o → s'.heap.get? a = some o) ∧ R x s') Ef s := by
  have h1 := H mainGlobals c.mg (c.g.keeps G.base)
  have h2 := H builtinsNs c.mb (c.b.keeps G.base)
  refine wmono (wpAny_and h1 h2) fun x s' ⟨⟨k1, r⟩, k2, _⟩ => ⟨fun a o e => ?_, r⟩
  by_cases q : a = mainGlobals
  · exact k2 (a, o) (mem_allBut.mpr ⟨by rw [q]; decide, e⟩)
  · exact k1 (a, o) (mem_allBut.mpr ⟨q, e⟩)

theorem keep_step {c : Cx} {σ : Sg} {s s' : Shared} (G : c.Good σ s.heap) (k : ∀ a o, s.heap.get? a = some o → s'.heap.get? a = some o) (r : s'.gens = s.gens ∧ s'.drawn = s.drawn ∧ s'.os = s.os) :
    Step No σ s σ s' ∧ c.Good σ s'.heap := by
  have S : Step No σ s σ s' := ⟨fun a o e _ _ => k a o e, fun _ e _ => e, fun _ e => .inl e, r⟩
  exact ⟨S, Good.same G S fun a o _ e => k a o e⟩
end Mine
-- part M7
namespace Mine
open PySem PySem.W PySem.Calls PyProof.Rows

section
variable {c : Cx} {n : Nat} {sc : Scope} {ρ : Rho} {σ : Sg} {Q : V → Sg → Prop} {QB : Bool → Sg → Prop}

/-- a turned ghost -/
def PostU (c : Cx) (σ : Sg) (s : Shared) (K : Sg → Prop) (_ : Unit) (s' : Shared) : Prop := ∃ σ', Step No σ s σ' s' ∧ c.Good σ' s'.heap ∧ K σ'

theorem nse_put {h : Heap} {x : Str} {v : V} {y : Value} {hsh : Int} {t : Tok} : ∀ {fs : List (Str × V)} {es : List DictEntry}, NsE σ h fs es → VIn σ h v y → NsE σ h (rset fs x v) (putL x hsh (.str x t) y es)
  | _, _, .nil, a => .cons a .nil
  | (z, u) :: fs, _, .cons (t := t') (hs := hsh') (y := y') (es := es) b r, a => by
    unfold rset putL
    have e : (Value.str z t').isStr x = (x == z) := by
      show (z == x) = (x == z)
      exact Bool.beq_comm
    rw [e]
    cases h : (x == z) with
    | true => exact .cons a r
    | false => exact .cons b (nse_put r a)
theorem NsE.length {h : Heap} {fs : List (Str × V)} {es : List DictEntry} (N : NsE σ h fs es) : es.length = fs.length := by
  induction N with
  | nil => rfl
  | cons _ _ ih => simp [ih]
theorem rset_len : ∀ (fs : Rho) (x : Str) (v : V), (rset fs x v).length ≤ fs.length + 1
  | [], _, _ => Nat.le_refl _
  | (z, u) :: fs, x, v => by
    unfold rset
    split
    · simp
    · have := rset_len fs x v; simp only [List.length_cons]; omega

theorem setattr_inst {C l : Addr} {t : Nat} {fs : List (Str × V)} {name : Str} {v : V} {A : Around} {s : Shared} {x y : Value} {K : Sg → Prop} (hl : σ l = some (.ns t fs)) (hk : storeOk c.K C name = true) (hlen : fs.length ≤ 800)
    (G : c.Good σ s.heap) (I : VIn σ s.heap (.inst C l) x) (J : VIn σ s.heap v y) (h : K (upd σ l (.ns t (rset fs name v)))) :
    wpAny c.M A (setAttr x name y) (PostU c σ s K) Ef s := by
  cases I with
  | inst hx hn hln =>
    rename_i xa
    unfold storeOk at hk
    simp only [Bool.and_eq_true, beq_iff_eq] at hk
    obtain ⟨⟨⟨h1, h2⟩, h3⟩, h4⟩ := hk
    obtain ⟨cd, hcd, hd⟩ := any_some h4
    obtain ⟨es, k, ho, hb, hm, IA⟩ := inst_at G hx hl
    refine set_plain G.In IA h1 (osa_open (s := { s with toks := s.toks + 1 }) G.In IA h2 h3 fun b => ?_)
    refine wpAny_bind (wpAny_pure (wpAny_bind (wpAny_bind (wpAny_loadPart hx (wpAny_bind (looks_clsIn (M := c.M) G.In hcd A.in1 _ _ { s with toks := s.toks + 1 } (fun _ _ e => e) ?_))))))
    rw [hd]
    refine wpAny_pure (a := some l) (wpAny_bind (wpAny_pure (wpAny_bind ?_)))
    unfold nsSet
    refine wpAny_bind (wpAny_bind (wpAny_askSetting (wpAny_pure (wpAny_bind (wpAny_mkText (wpAny_bind (wpAny_loadPart (s := { s with toks := s.toks + 1 + 1 }) ho ?_)))))))
    have hlook : (getL name es).isSome = true := by
      cases q : fs.lookup name with
      | none => rw [(nse_get name hm).2 q]; rfl
      | some u => obtain ⟨w, e, _⟩ := (nse_get name hm).1 u q; rw [e]; rfl
    have cc : (!es.any (·.key.isStr name) && es.any (·.refKey)) = false := by
      unfold getL at hlook
      split at hlook
      · rename_i en he
        rw [List.any_eq_true.mpr ⟨en, List.mem_of_find?_eq_some he, List.find?_some he⟩]; rfl
      · split at hlook
        · cases hlook
        · rename_i z; rw [Bool.not_eq_true] at z; rw [z, Bool.and_false]
    dsimp only
    rw [aRefKeyMayBeTheName_at, ← Array.any_toList, ← Array.any_toList, cc]
    have hs := Heap.SameBut.update s.heap l (Obj.putName name (PyData.keyHash c.w.params name) (.str name (s.toks + 1)) y)
    have hput := putName_dict name (PyData.keyHash c.w.params name) (.str name (s.toks + 1)) y es k
    have hg := Heap.get?_update_self (Obj.putName name (PyData.keyHash c.w.params name) (.str name (s.toks + 1)) y) ho (by rw [hput]; rfl)
    rw [hput] at hg
    have S : Step No σ s (upd σ l (.ns t (rset fs name v))) { s with heap := s.heap.update l (Obj.putName name (PyData.keyHash c.w.params name) (.str name (s.toks + 1)) y), toks := s.toks + 1 + 1 } :=
      upd_step (s := s) (o := .ns t (rset fs name v)) hln.ne (fun _ => rfl) hs (s.toks + 1 + 1)
    have N := nse_put (x := name) (hsh := PyData.keyHash c.w.params name) (t := s.toks + 1) (hm.step S apart_no) (J.step S apart_no)
    have hl1 := rset_len fs name v
    have hl2 := N.length
    refine wpAny_updatePart (s := { s with toks := s.toks + 1 + 1 }) ho ?_
    refine wpAny_bind (wpAny_lookBehind hg (pastItsLine_dict (by rw [List.size_toArray, sizeLine_eq, hl2]; omega)) ?_)
    exact wpAny_pure (show PostU c σ s K () _ from ⟨_, S, G.upd hln.ne (fun _ => rfl) hs ⟨_, _, hg, by omega, N⟩, h⟩)

theorem as_attr {o : Expr} {name : Str} {pos : Pos} {v : V} {K : Rho → Sg → Prop}
    (h : EvE c n sc ρ σ o fun r σ₁ => ∃ C l t fs, r = .inst C l ∧ σ₁ l = some (.ns t fs) ∧ storeOk c.K C name = true ∧ fs.length ≤ 800 ∧ K ρ (upd σ₁ l (.ns t (rset fs name v)))) : AsT c n sc ρ σ (.Attribute o name pos) v K := by
  intro A env s x C I
  rw [assign_Attribute]
  refine wpAny_bind (wpAny_holding (wmono (h A env s C) fun y s₁ ⟨σ₁, r, S, G, J, Cl, l, t, fs, e, hl, hk, hlen, q⟩ => wpAny_bind (wpAny_standAt (wpAny_bind (wpAny_holding ?_)))))
  subst e
  refine wmono (setattr_inst (K := K ρ) hl hk hlen G J (I.step S apart_no) q) fun _ s₂ ⟨σ₂, S₂, G₂, q₂⟩ => ?_
  exact wpAny_release ⟨σ₂, ρ, (S.trans S₂).mono fun _ => False.elim, G₂, (C.loc.step S).step S₂, q₂⟩

theorem as_item {o i : Expr} {pos : Pos} {v : V} {K : Rho → Sg → Prop} (he : ∀ env x, assign (.Subscript o i pos) env x = (do
      let ov ← holding [x] (eval o env)
      let iv ← holding [x, ov] (eval i env)
      standAt pos
      holding [x, ov, iv] (setItem ov iv x)
      release [x, ov, iv] []))
    (h : EvE c n sc ρ σ o fun r σ₁ => EvE c n sc ρ σ₁ i fun k σ₂ => ∀ A s x y z, Room n A → c.Good σ₂ s.heap → VIn σ₂ s.heap r x → VIn σ₂ s.heap k y → VIn σ₂ s.heap v z → wpAny c.M A (setItem x y z) (PostU c σ₂ s (K ρ)) Ef s) :
    AsT c n sc ρ σ (.Subscript o i pos) v K := by
  intro A env s x C I
  rw [he]
  refine wpAny_bind (wpAny_holding (wmono (h A env s C) fun y s₁ ⟨σ₁, r, S, G, J, q⟩ => wpAny_bind (wpAny_holding (wmono (q A env s₁ (C.step S G)) fun z s₂ ⟨σ₂, k, S₂, G₂, J₂, q₂⟩ => ?_))))
  refine wpAny_bind (wpAny_standAt (wpAny_bind (wpAny_holding ?_)))
  refine wmono (q₂ A s₂ y z x C.room G₂ (J.step S₂ apart_no) J₂ ((I.step S apart_no).step S₂ apart_no)) fun _ s₃ ⟨σ₃, S₃, G₃, q₃⟩ => ?_
  exact wpAny_release ⟨σ₃, ρ, ((S.trans S₂).trans S₃).mono fun _ => False.elim, G₃, ((C.loc.step S).step S₂).step S₃, q₃⟩

theorem set_list {l : Addr} {t : Nat} {vs : List V} {k : Int} {v : V} {K : Sg → Prop} {A : Around} {s : Shared} {x y z : Value} (hl : σ l = some (.list t vs)) (h0 : 0 ≤ k) (hk : k < vs.length)
    (h : K (upd σ l (.list t (vs.set k.toNat v)))) (G : c.Good σ s.heap) (I : VIn σ s.heap (.ref l) x) (J : VIn σ s.heap (.int k) y) (J₂ : VIn σ s.heap v z) : wpAny c.M A (setItem x y z) (PostU c σ s K) Ef s := by
  cases I with
  | ref hob =>
    cases J
    obtain ⟨xs, ⟨e, ho⟩, hb, hv⟩ := G.objs l _ hl
    have hlen := hv.length
    have hbig : (big : Int) < 2 ^ 63 := by decide
    have hs := Heap.SameBut.update s.heap l (Obj.mapSeq (·.setIfInBounds k.toNat z))
    have hg := Heap.get?_update_self (Obj.mapSeq (·.setIfInBounds k.toNat z)) ho rfl
    have S : Step No σ s (upd σ l (.list t (vs.set k.toNat v))) { s with heap := s.heap.update l (Obj.mapSeq (·.setIfInBounds k.toNat z)) } := upd_step hob.ne (fun _ => rfl) hs _
    refine ki_setAt ho h0 (by omega) (by simpa [← hlen] using hk) ⟨_, S, G.upd hob.ne (fun _ => rfl) hs ⟨xs.set k.toNat z, ⟨e, ?_⟩, by simpa using hb, (hv.step S apart_no).set (J₂.step S apart_no)⟩, h⟩
    rw [hg]
    simp [Obj.mapSeq]

def putI {K' : Type} [DecidableEq K'] (es : List (K' × V)) (k : K') (v : V) : List (K' × V) :=
  if es.any (fun kv => kv.1 = k) then es.map (fun kv => if kv.1 = k then (kv.1, v) else kv) else es ++ [(k, v)]

theorem put_vals {K' : Type} [DecidableEq K'] {h : Heap} {k : K'} {v : V} {y : Value} : ∀ {es : List (K' × V)} {kvs : List (K' × Value)}, kvs.map (·.1) = es.map (·.1) → VAll σ h (es.map (·.2)) (kvs.map (·.2)) → VIn σ h v y →
    (stored kvs k y).map (·.1) = (putI es k v).map (·.1) ∧ VAll σ h ((putI es k v).map (·.2)) ((stored kvs k y).map (·.2)) := by
  intro es kvs e I J
  have hany : es.any (fun kv => decide (kv.1 = k)) = kvs.any (fun kv => decide (kv.1 = k)) := by
    have h1 : es.any (fun kv => decide (kv.1 = k)) = (es.map (·.1)).any (fun x => decide (x = k)) := by rw [List.any_map]; rfl
    have h2 : kvs.any (fun kv => decide (kv.1 = k)) = (kvs.map (·.1)).any (fun x => decide (x = k)) := by rw [List.any_map]; rfl
    rw [h1, h2, e]
  unfold stored putI
  rw [hany]
  by_cases hc : (kvs.any fun kv => decide (kv.1 = k)) = true
  · rw [if_pos hc, if_pos hc]
    clear hany hc
    induction es generalizing kvs with
    | nil => cases kvs with | nil => exact ⟨rfl, .nil⟩ | cons _ _ => simp at e
    | cons a es ih =>
      cases kvs with
      | nil => simp at e
      | cons b kvs =>
        simp only [List.map_cons, List.cons.injEq] at e
        cases I with
        | cons i r =>
          obtain ⟨p, q⟩ := ih e.2 r
          simp only [List.map_cons, List.cons.injEq]
          rw [e.1]
          by_cases z : a.1 = k
          · simp only [z, if_true]; exact ⟨⟨trivial, p⟩, .cons J q⟩
          · simp only [z, if_false]; exact ⟨⟨e.1, p⟩, .cons i q⟩
  · rw [if_neg hc, if_neg hc]
    simp only [List.map_append, e, List.map_cons, List.map_nil]
    exact ⟨trivial, I.append (.one J)⟩
end
end Mine
-- part M8
namespace Mine
open PySem PySem.W PySem.Calls PyProof.Rows

section
variable {c : Cx} {n : Nat} {sc : Scope} {ρ : Rho} {σ : Sg} {Q : V → Sg → Prop} {QB : Bool → Sg → Prop}

theorem big63 {k : Nat} (h : k ≤ big) : (k : Int) < 2 ^ 63 := by
  have : (big : Int) < 2 ^ 63 := by decide
  omega

/-- ints -/
theorem op_add {a b : Int} (h : Q (.int (a + b)) σ) : Op2 c n (binaryOp .Add) (.int a) (.int b) σ Q := by
  intro A s x y R G I J; cases I; cases J; exact add_int (Post.here G (.int _ _) h _)
theorem op_sub {a b : Int} (h : Q (.int (a - b)) σ) : Op2 c n (binaryOp .Sub) (.int a) (.int b) σ Q := by
  intro A s x y R G I J; cases I; cases J; exact sub_int (Post.here G (.int _ _) h _)
theorem op_mul {a b : Int} (ha : a.natAbs < 2 ^ 20) (hb : b.natAbs < 2 ^ 20) (h : Q (.int (a * b)) σ) : Op2 c n (binaryOp .Mult) (.int a) (.int b) σ Q := by
  intro A s x y R G I J; cases I; cases J
  exact mul_int (Post.here G (.int _ _) h _) (IntMulOk.of_left (intBits_le_64 (by omega) (by omega)))
theorem op_mod {a b : Int} (hb : b ≠ 0) (h : Q (.int (a.fmod b)) σ) : Op2 c n (binaryOp .Mod) (.int a) (.int b) σ Q := by
  intro A s x y R G I J; cases I; cases J; exact mod_int' hb (Post.here G (.int _ _) h _)
theorem op_fdiv {a b : Int} (hb : b ≠ 0) (hs : Builtin.divisionGoesByPylong a b = false) (h : Q (.int (a.fdiv b)) σ) : Op2 c n (binaryOp .FloorDiv) (.int a) (.int b) σ Q := by
  intro A s x y R G I J; cases I; cases J; exact floordiv_int hb (Post.here G (.int _ _) h _) (.inl hs)
theorem op_neg {a : Int} (h : Q (.int (-a)) σ) : Op1 c n (unaryOp .USub) (.int a) σ Q := by
  intro A s x R G I; cases I; exact neg_int (Post.here G (.int _ _) h _)
theorem op_not {v : V} (h : TruV c n v σ fun b σ₁ => Q (.bool (!b)) σ₁) : Op1 c n (unaryOp .Not) v σ Q := by
  intro A s x R G I
  exact not_value (wmono (h A s x R G I) fun b s' ⟨σ', S, G', q⟩ => ⟨σ', _, S, G', .bool _, q⟩)
theorem cm_lt {a b : Int} (h : Q (.bool (decide (a < b))) σ) : Op2 c n (compareOp .Lt) (.int a) (.int b) σ Q := by
  intro A s x y R G I J; cases I; cases J; exact lt_int (Post.here G (.bool _) h _)
theorem cm_le {a b : Int} (h : Q (.bool (decide (a ≤ b))) σ) : Op2 c n (compareOp .LtE) (.int a) (.int b) σ Q := by
  intro A s x y R G I J; cases I; cases J; exact le_int (Post.here G (.bool _) h _)
theorem cm_gt {a b : Int} (h : Q (.bool (decide (b < a))) σ) : Op2 c n (compareOp .Gt) (.int a) (.int b) σ Q := by
  intro A s x y R G I J; cases I; cases J; exact gt_int (Post.here G (.bool _) h _)
theorem cm_ge {a b : Int} (h : Q (.bool (decide (b ≤ a))) σ) : Op2 c n (compareOp .GtE) (.int a) (.int b) σ Q := by
  intro A s x y R G I J; cases I; cases J; exact ge_int (Post.here G (.bool _) h _)
theorem cm_eq {a b : Int} (h : Q (.bool (a == b)) σ) : Op2 c n (compareOp .Eq) (.int a) (.int b) σ Q := by
  intro A s x y R G I J; cases I; cases J; exact eq_int (Post.here G (.bool _) h _)
theorem cm_ne {a b : Int} (h : Q (.bool (a != b)) σ) : Op2 c n (compareOp .NotEq) (.int a) (.int b) σ Q := by
  intro A s x y R G I J; cases I; cases J; exact ne_int (Post.here G (.bool _) h _)
theorem cm_eqs {a b : Str} (h : Q (.bool (a == b)) σ) : Op2 c n (compareOp .Eq) (.str a) (.str b) σ Q := by
  intro A s x y R G I J; cases I; cases J; exact eq_str (Post.here G (.bool _) h _)
theorem cm_eqb {a b : Bool} (h : Q (.bool (a == b)) σ) : Op2 c n (compareOp .Eq) (.bool a) (.bool b) σ Q := by
  intro A s x y R G I J; cases I; cases J; exact eq_bool (Post.here G (.bool _) h _)

def isNone : V → Bool
  | .none => true
  | _ => false
theorem isNone_is {h : Heap} {v : V} {x : Value} (I : VIn σ h v x) : (x == Value.none) = isNone v := by cases I <;> rfl
theorem cm_is {v : V} (h : Q (.bool (isNone v)) σ) : Op2 c n (compareOp .Is) v .none σ Q := by
  intro A s x y R G I J; cases J; exact is_none (by rw [isNone_is I]; exact Post.here G (.bool _) h _)
theorem cm_isnot {v : V} (h : Q (.bool (!isNone v)) σ) : Op2 c n (compareOp .IsNot) v .none σ Q := by
  intro A s x y R G I J; cases J; exact isNot_none (by rw [isNone_is I]; exact Post.here G (.bool _) h _)


mutual
def toPy : V → PyData
  | .none => .none
  | .bool b => .bool b
  | .int i => .int i
  | .str x => .str x
  | .tup vs => .tuple (toPys vs)
  | .lst vs => .list (toPys vs)
  | _ => .none
def toPys : List V → List PyData
  | [] => []
  | v :: vs => toPy v :: toPys vs
end
def okV : Nat → V → Bool
  | _, .none => true
  | _, .int _ => true
  | _, .str x => PyData.strOk x
  | n + 1, .tup vs => vs.all (okV n)
  | n + 1, .lst vs => vs.all (okV n)
  | _, _ => false

mutual
theorem reads_v {h : Heap} : ∀ {v : V} {x : Value} (n : Nat), VIn σ h v x → okV n v = true → ∃ as, Reads h x (toPy v) as
  | _, _, _, .none, _ => ⟨_, Reads.none⟩
  | _, _, _, .bool b, hk => by rename_i n; cases n <;> simp [okV] at hk
  | _, _, _, .int i t, _ => ⟨_, Reads.int i t⟩
  | _, _, _, .str x t, _ => ⟨_, Reads.str x t⟩
  | _, _, 0, .tup _ _ _ _, hk => by simp [okV] at hk
  | _, _, 0, .lst _ _ _ _, hk => by simp [okV] at hk
  | _, _, n + 1, .tup ht _ _ r, hk => by
    obtain ⟨as, q⟩ := reads_vs n r (by simpa [okV] using hk)
    obtain ⟨o, ho, hc, k, hd⟩ := ht
    rw [toPy]
    exact ⟨as, .tuple ho hc hd (by simpa using q)⟩
  | _, _, n + 1, .lst ht _ _ r, hk => by
    obtain ⟨as, q⟩ := reads_vs n r (by simpa [okV] using hk)
    obtain ⟨k, ho⟩ := ht
    rw [toPy]
    exact ⟨_, .list ho rfl rfl (by simpa using q)⟩
  | _, _, n, .ref _, hk => by cases n <;> simp [okV] at hk
  | _, _, n, .inst _ _ _, hk => by cases n <;> simp [okV] at hk
  | _, _, n, .rng _ _, hk => by cases n <;> simp [okV] at hk
theorem reads_vs {h : Heap} : ∀ {vs : List V} {xs : List Value} (n : Nat), VAll σ h vs xs → (∀ v ∈ vs, okV n v = true) → ∃ as, ReadsAll h xs (toPys vs) as
  | _, _, _, .nil, _ => ⟨_, ReadsAll.nil⟩
  | _, _, n, .cons a r, hk => by
    obtain ⟨as, q⟩ := reads_v n a (hk _ (.head _))
    obtain ⟨bs, p⟩ := reads_vs n r fun d hm => hk d (.tail _ hm)
    rw [toPys]
    exact ⟨_, ReadsAll.cons q p⟩
end
theorem lay_v : ∀ (n : Nat) (v : V), okV n v = true → (toPy v).canLay0 = true ∧ (toPy v).depth ≤ n := by
  have all : ∀ (n : Nat), (∀ v, okV n v = true → (toPy v).canLay0 = true ∧ (toPy v).depth ≤ n) → ∀ vs : List V, (∀ v ∈ vs, okV n v = true) → PyData.canLayAll0 (toPys vs) = true ∧ PyData.depthAll (toPys vs) ≤ n := by
    intro n ih vs
    induction vs with
    | nil => intro _; simp [toPys, PyData.canLayAll0, PyData.depthAll]
    | cons d ds hi =>
      intro h
      have h1 := ih d (h d (.head _))
      have h2 := hi fun e he => h e (.tail _ he)
      simp only [toPys, PyData.canLayAll0, PyData.depthAll, h1.1, h2.1, Bool.and_self, true_and]
      have a1 := h1.2
      have a2 := h2.2
      omega
  intro n
  induction n with
  | zero => intro d h; cases d <;> simp_all [okV, toPy, PyData.canLay0, PyData.depth]
  | succ n ih =>
    intro d h
    cases d with
    | tup vs =>
      have q := all n ih vs (by simpa [okV] using h)
      have q2 := q.2
      simp only [toPy, PyData.canLay0, PyData.depth, q.1, true_and]
      omega
    | lst vs =>
      have q := all n ih vs (by simpa [okV] using h)
      have q2 := q.2
      simp only [toPy, PyData.canLay0, PyData.depth, q.1, true_and]
      omega
    | _ => simp_all [okV, toPy, PyData.canLay0, PyData.depth]
theorem eqv_v : ∀ (n : Nat) (a b : V) (k : Nat), okV n a = true → okV k b = true → (PyData.eqv (toPy a) (toPy b) = true ↔ a = b) := by
  have all : ∀ (n : Nat), (∀ a b k, okV n a = true → okV k b = true → (PyData.eqv (toPy a) (toPy b) = true ↔ a = b)) → ∀ (k : Nat) (as bs : List V), (∀ d ∈ as, okV n d = true) → (∀ d ∈ bs, okV k d = true) →
      (PyData.eqvAll (toPys as) (toPys bs) = true ↔ as = bs) := by
    intro n ih k as
    induction as with
    | nil => intro bs _ _; cases bs <;> simp [toPys, PyData.eqvAll]
    | cons d ds hi =>
      intro bs h1 h2
      cases bs with
      | nil => simp [toPys, PyData.eqvAll]
      | cons e es =>
        have q1 := ih d e k (h1 d (.head _)) (h2 e (.head _))
        have q2 := hi es (fun x hx => h1 x (.tail _ hx)) fun x hx => h2 x (.tail _ hx)
        simp only [toPys, PyData.eqvAll, Bool.and_eq_true, q1, q2, List.cons.injEq]
  intro n
  induction n with
  | zero => intro a b k h1 h2; cases a <;> cases b <;> cases k <;> simp_all [okV, toPy, PyData.eqv]
  | succ n ih =>
    intro a b k h1 h2
    cases a with
    | tup vs =>
      cases b with
      | tup ws =>
        cases k with
        | zero => simp [okV] at h2
        | succ k =>
          simp only [toPy, PyData.eqv, V.tup.injEq]
          exact all n ih k vs ws (by simpa [okV] using h1) (by simpa [okV] using h2)
      | _ => cases k <;> simp_all [okV, toPy, PyData.eqv]
    | lst vs =>
      cases b with
      | lst ws =>
        cases k with
        | zero => simp [okV] at h2
        | succ k =>
          simp only [toPy, PyData.eqv, V.lst.injEq]
          exact all n ih k vs ws (by simpa [okV] using h1) (by simpa [okV] using h2)
      | _ => cases k <;> simp_all [okV, toPy, PyData.eqv]
    | _ => cases b <;> cases k <;> simp_all [okV, toPy, PyData.eqv]

/-- what a value reads as: a datum, or a list of data that is a ghost -/
def Rd (σ : Sg) (v d : V) : Prop := okV 8 d = true ∧ (v = d ∨ ∃ a t vs, v = .ref a ∧ σ a = some (.list t vs) ∧ d = .lst vs)
theorem rd_data {v : V} (h : okV 8 v = true) : Rd σ v v := ⟨h, .inl rfl⟩
theorem rd_ref {a : Addr} {t : Nat} {vs : List V} (ha : σ a = some (.list t vs)) (h : okV 8 (.lst vs) = true) : Rd σ (.ref a) (.lst vs) := ⟨h, .inr ⟨a, t, vs, rfl, ha, rfl⟩⟩
theorem Rd.reads {v d : V} {s : Shared} {x : Value} (H : Rd σ v d) (G : c.Good σ s.heap) (I : VIn σ s.heap v x) : ∃ as, Reads s.heap x (toPy d) as := by
  obtain ⟨h, rfl | ⟨a, t, vs, rfl, ha, rfl⟩⟩ := H
  · exact reads_v 8 I h
  · cases I
    obtain ⟨xs, ⟨k, ho⟩, _, hv⟩ := G.objs a _ ha
    obtain ⟨as, q⟩ := reads_vs 7 hv (by simpa [okV] using h)
    rw [toPy]
    exact ⟨_, .list ho rfl rfl (by simpa using q)⟩
open Classical in
theorem rd_eqv {d e : V} (h : okV 8 d = true) (k : okV 8 e = true) : PyData.eqv (toPy d) (toPy e) = decide (d = e) := by
  have q := eqv_v 8 d e 8 h k
  by_cases hq : d = e
  · rw [decide_eq_true hq]; exact q.mpr hq
  · rw [decide_eq_false hq]; exact Bool.eq_false_iff.mpr fun x => hq (q.mp x)
theorem shaped_v {d : V} (h : okV 8 d = true) : SeqAt.shaped (toPy d) = true := by
  have l := lay_v 8 d h
  unfold SeqAt.shaped; rw [l.1, Bool.true_and]; exact decide_eq_true (Nat.le_trans l.2 (by decide))
open Classical in
theorem cm_eqd {a b d e : V} (ha : Rd σ a d) (hb : Rd σ b e) (h : Q (.bool (decide (d = e))) σ) : Op2 c n (compareOp .Eq) a b σ Q := by
  intro A s x y R G I J
  obtain ⟨as, r₁⟩ := ha.reads G I
  obtain ⟨bs, r₂⟩ := hb.reads G J
  exact eq_dataH r₁ r₂ (shaped_v ha.1) (shaped_v hb.1) (by have := R.units; omega) (by rw [rd_eqv ha.1 hb.1]; exact Post.here G (.bool _) h _)
open Classical in
theorem cm_ned {a b d e : V} (ha : Rd σ a d) (hb : Rd σ b e) (h : Q (.bool (!decide (d = e))) σ) : Op2 c n (compareOp .NotEq) a b σ Q := by
  intro A s x y R G I J
  obtain ⟨as, r₁⟩ := ha.reads G I
  obtain ⟨bs, r₂⟩ := hb.reads G J
  exact ne_dataH r₁ r₂ (shaped_v ha.1) (shaped_v hb.1) (by have := R.units; omega) (by rw [rd_eqv ha.1 hb.1]; exact Post.here G (.bool _) h _)
open Classical in
theorem cm_in {a b d : V} {es : List V} (ha : Rd σ a d) (hb : Rd σ b (.lst es)) (h : Q (.bool (decide (d ∈ es))) σ) : Op2 c n (compareOp .In) a b σ Q := by
  intro A s x y R G I J
  obtain ⟨as, r₁⟩ := ha.reads G I
  obtain ⟨bs, r₂⟩ := hb.reads G J
  rw [toPy] at r₂
  have hes : ∀ e ∈ es, okV 7 e = true := by have := hb.1; simpa [okV] using this
  have l := lay_v 8 _ hb.1
  rw [toPy] at l
  simp only [PyData.canLay0, PyData.depth] at l
  have ld := lay_v 8 _ ha.1
  have key : ∀ es : List V, (∀ e ∈ es, okV 7 e = true) → ((toPys es).any (fun y => PyData.eqv y (toPy d)) = true ↔ d ∈ es) := by
    intro es
    induction es with
    | nil => intro _; simp [toPys]
    | cons e es ih =>
      intro h
      have q := ih fun x hx => h x (.tail _ hx)
      have q1 := eqv_v 7 e d 8 (h e (.head _)) ha.1
      simp only [toPys, List.any_cons, Bool.or_eq_true, q, q1, List.mem_cons]
      constructor
      · rintro (x | x)
        · exact .inl x.symm
        · exact .inr x
      · rintro (x | x)
        · exact .inl x.symm
        · exact .inr x
  have e : ((toPys es).any fun y => PyData.eqv y (toPy d)) = decide (d ∈ es) := by
    by_cases hq : d ∈ es
    · rw [decide_eq_true hq]; exact (key es hes).mpr hq
    · rw [decide_eq_false hq]; exact Bool.eq_false_iff.mpr fun z => hq ((key es hes).mp z)
  refine SeqAt.in_list_reads r₂ r₁ l.1 ld.1 ?_ (by rw [e]; exact Post.here G (.bool _) h _)
  have := R.units
  have := Nat.min_le_right (PyData.depthAll (toPys es)) (toPy d).depth
  omega
end
end Mine
-- part M9
namespace Mine
open PySem PySem.W PySem.Calls PyProof.Rows

def closeL (cells : List (Str × Addr)) : List (Str × NameKind) → List (Str × Addr) → List (Str × Addr)
  | [], acc => acc
  | (x, k) :: r, acc => if k == .free then closeL cells r (match cells.lookup x with | some a => (x, a) :: acc | none => acc) else closeL cells r acc

theorem closeL_sound {cells : List (Str × Addr)} : ∀ (names : List (Str × NameKind)) (acc : List (Str × Addr)), (∀ x a, acc.lookup x = some a → cells.lookup x = some a) → ∀ x a, (closeL cells names acc).lookup x = some a → cells.lookup x = some a
  | [], acc, h, x, a, e => h x a e
  | (y, k) :: r, acc, h, x, a, e => by
    unfold closeL at e
    split at e
    · refine closeL_sound r _ (fun z b q => ?_) x a e
      split at q
      · rename_i a' ha
        rw [List.lookup_cons] at q
        cases w : (z == y) with
        | true => rw [w] at q; cases q; rw [beq_iff_eq.mp w]; exact ha
        | false => rw [w] at q; exact h z b q
      · exact h z b q
    · exact closeL_sound r acc h x a e
theorem closeL_grow {cells : List (Str × Addr)} : ∀ (names : List (Str × NameKind)) (acc : List (Str × Addr)) (x : Str), (acc.lookup x).isSome = true → ((closeL cells names acc).lookup x).isSome = true
  | [], acc, x, h => h
  | (y, k) :: r, acc, x, h => by
    unfold closeL
    split
    · refine closeL_grow r _ x ?_
      split
      · rw [List.lookup_cons]; cases (x == y) with
        | true => rfl
        | false => exact h
      · exact h
    · exact closeL_grow r acc x h
theorem closeL_has {cells : List (Str × Addr)} : ∀ (names : List (Str × NameKind)) (acc : List (Str × Addr)) (x : Str), (x, NameKind.free) ∈ names → (cells.lookup x).isSome = true → ((closeL cells names acc).lookup x).isSome = true
  | (y, k) :: r, acc, x, h, hc => by
    unfold closeL
    rcases List.mem_cons.mp h with e | h
    · cases e
      rw [if_pos (show (NameKind.free == NameKind.free) = true from rfl)]
      refine closeL_grow r _ _ ?_
      obtain ⟨a, ha⟩ := Option.isSome_iff_exists.mp hc
      rw [ha]
      simp [List.lookup_cons_self]
    · split
      · exact closeL_has r _ x h hc
      · exact closeL_has r acc x h hc

theorem closure_is {scope : Scope} {env : Env} (h : ∀ x, (x, NameKind.free) ∈ scope.names → (env.cells.lookup x).isSome = true) : closureFor scope env = pure (closeL env.cells scope.names []) := by
  unfold closureFor
  have key : ∀ (names : List (Str × NameKind)) (acc : List (Str × Addr)), (∀ x, (x, NameKind.free) ∈ names → (env.cells.lookup x).isSome = true) →
      (forIn names acc fun (p : Str × NameKind) (cs : List (Str × Addr)) => (if p.2 == .free then (do let a ← cellOf env p.1; pure (ForInStep.yield ((p.1, a) :: cs))) else pure (ForInStep.yield cs) : Sem (ForInStep (List (Str × Addr))))) = pure (closeL env.cells names acc) := by
    intro names
    induction names with
    | nil => intro acc _; rfl
    | cons p r ih =>
      intro acc h
      obtain ⟨x, k⟩ := p
      rw [List.forIn_cons]
      unfold closeL
      by_cases q : (k == NameKind.free) = true
      · have q' : k = .free := by cases k <;> simp_all
        subst q'
        obtain ⟨a, ha⟩ := Option.isSome_iff_exists.mp (h x (.head _))
        have hc : cellOf env x = pure a := by unfold cellOf; rw [ha]
        simp only [q, if_true, hc, ha]
        exact ih _ fun y hy => h y (.tail _ hy)
      · simp only [q]
        exact ih _ fun y hy => h y (.tail _ hy)
  have := key scope.names [] h
  first
  | exact (bind_congr (fun _ => rfl)).trans (by rw [this]; rfl)
  | (rw [show (forIn scope.names ([] : List (Str × Addr)) _ : Sem (List (Str × Addr))) = _ from this]; rfl)

section
variable {c : Cx} {n : Nat} {sc : Scope} {ρ : Rho} {σ : Sg} {Q : V → Sg → Prop}

/-- one draw of an iterator -/
def NextR (c : Cx) (t : Expr) (a : Addr) (σ : Sg) (r : Option V) (σ' : Sg) : Prop :=
  ∀ A s, A.handled = none → c.Good σ s.heap → wpAny c.M A (pyNext (.ref a)) (fun o s' => match r with
    | none => o = none ∧ Step No σ s σ' s' ∧ c.Good σ' s'.heap
    | some v => ∃ x, o = some x ∧ wpAny c.M A (letOwnedTupleGo t (.ref a) x) (fun _ s'' => Step No σ s σ' s'' ∧ c.Good σ' s''.heap ∧ VIn σ' s''.heap v x) Ef s') Ef s
theorem next_some {t : Expr} {a : Addr} {v : V} {vs : List V} (ha : σ a = some (.iter (v :: vs))) : NextR c t a σ (some v) (upd σ a (.iter vs)) := by
  intro A s _ G
  refine wmono (iter_next G ha) fun r s' ⟨x, e, S, G', I⟩ => ⟨x, e, owned_iter G' upd_same ⟨S, G', I⟩⟩
theorem next_none {t : Expr} {a : Addr} (ha : σ a = some (.iter [])) : NextR c t a σ none (del σ a) := by
  intro A s hh G
  exact wmono (iter_end hh G ha) fun r s' ⟨e, S, G'⟩ => ⟨e, S, G'⟩

theorem owned_li {A : Around} {s : Shared} {a l : Addr} {i : Nat} (h : s.heap.IsListIter a l i) {t : Expr} {x : Value} {Q : Unit → Shared → Prop} (q : Q () s) : wpAny c.M A (letOwnedTupleGo t (.ref a) x) Q Ef s := by
  obtain ⟨o, ho, hc, _⟩ := h
  have key : wpAny c.M A (do
      let o ← load a
      match o.cls, o.data with
      | .type n, .fields vs => if ["enumerate", "zip", "dict_itemiterator", "dict_reverseitemiterator", "odict_iterator", "itertools.zip_longest", "itertools.pairwise"].contains n && vs[0]? == some (match x with | .ref b => rawInt b | _ => .none) then (do rule "for.unpacks-the-owned-tuple"; updateField a 0 .none) else pure ()
      | _, _ => pure ()) Q Ef s := by
    refine wpAny_bind (wpAny_load ho ?_)
    rw [hc]
    split
    · rename_i n vs' q1 q2
      cases q1
      rw [show (["enumerate", "zip", "dict_itemiterator", "dict_reverseitemiterator", "odict_iterator", "itertools.zip_longest", "itertools.pairwise"].contains "list_iterator") = false from by decide]
      exact wpAny_pure q
    · exact wpAny_pure q
  unfold letOwnedTupleGo
  split
  · cases x with
    | ref b => exact key
    | _ => exact wpAny_pure q
  · cases x with
    | ref b => exact key
    | _ => exact wpAny_pure q
  · exact wpAny_pure q

theorem gnext_some {tg : Expr} {a l : Addr} {i t : Nat} {v : V} {vs : List V} (ha : σ a = some (.giter l i)) (hl : σ l = some (.list t vs)) (hv : vs[i]? = some v) : NextR c tg a σ (some v) (upd σ a (.giter l (i + 1))) := by
  intro A s _ G
  have hne : σ a ≠ none := by rw [ha]; exact fun z => nomatch z
  have hk : ∀ {b : Bool}, Ob σ a → b = false := fun ⟨o, e, i⟩ => by rw [ha] at e; cases e; cases i
  have hit := G.objs a _ ha
  obtain ⟨xs, hp, _, hvs⟩ := G.objs l _ hl
  obtain ⟨x, hx, I⟩ := hvs.get hv
  refine wpAny_pyNext_list_item hit hp.isList (x := x) (by simpa using hx) fun h' hit' hs => ?_
  have S : Step No σ s (upd σ a (.giter l (i + 1))) { s with heap := h' } := upd_step hne hk hs s.toks
  exact ⟨x, rfl, owned_li (s := { s with heap := h' }) hit' ⟨S, G.upd hne hk hs hit', I.step S apart_no⟩⟩
theorem gnext_none {tg : Expr} {a l : Addr} {i t : Nat} {vs : List V} (ha : σ a = some (.giter l i)) (hl : σ l = some (.list t vs)) (hv : vs[i]? = none) : NextR c tg a σ none (del σ a) := by
  intro A s hh G
  have hne : σ a ≠ none := by rw [ha]; exact fun z => nomatch z
  have hk : ¬ Ob σ a := fun ⟨o, e, i⟩ => by rw [ha] at e; cases e; cases i
  have hit := G.objs a _ ha
  obtain ⟨xs, hp, _, hvs⟩ := G.objs l _ hl
  refine wpAny_pyNext_list_end hh hit hp.isList ?_ fun h' hs => ⟨rfl, del_step a hk hs hne s.toks, G.del hk hne hs⟩
  have := hvs.length
  simp only [List.getElem?_eq_none_iff] at hv
  simp; omega

theorem it_ref {l : Addr} {t : Nat} {vs : List V} {Q : Addr → Sg → Prop} (hl : σ l = some (.list t vs)) (h : ∀ a, σ a = none → Q a (upd σ a (.giter l 0))) : ItV c n (.ref l) σ Q := by
  intro A s x R G I
  cases I
  obtain ⟨xs, hp, _, hvs⟩ := G.objs l _ hl
  refine wpAny_pyIter_list hp.isList ?_
  have S := new_step (o := AO.giter l 0) G { cls := .type "list_iterator", data := .fields #[.ref l, .int 0 0] }
  exact ⟨_, _, rfl, S, G.new _ ⟨_, Heap.get?_push_size _ rfl, rfl, rfl⟩, h _ (G.nofresh (Nat.le_refl _))⟩

def isIter : AO → Bool
  | .iter _ => true
  | .giter _ _ => true
  | .enum _ _ _ _ => true
  | _ => false
theorem iter_self {A : Around} {s : Shared} {a : Addr} {o : AO} {Q : Value → Shared → Prop} (hh : A.handled = none) (G : c.Good σ s.heap) (ha : σ a = some o) (hi : isIter o = true) (h : Q (.ref a) s) : wpAny c.M A (pyIter (.ref a)) Q Ef s := by
  cases o with
  | iter vs =>
    rcases G.objs a _ ha with (⟨l, i, xs, hit, _⟩ | ⟨l, i, xs, hit, ht, _⟩ | ⟨y, left, hit, _⟩)
    · exact wpAny_pyIter_listiter hit h
    · exact wpAny_pyIter_tupleiter hit h
    · exact wpAny_pyIter_rangeiter hit h
  | giter l i => exact wpAny_pyIter_listiter (G.objs a _ ha) h
  | enum it l i vs =>
    obtain ⟨old, xs, ho, _⟩ := G.objs a _ ha
    exact wpAny_pyIter_enum ho h
  | _ => cases hi

def relS (scope sc : Scope) : Scope :=
  { scope with names := scope.names.map fun (n, k) => if (k == .free && sc.kind == .function && sc.names.lookup n == some .cell) then (n, .cell) else (n, k) }

/-- what a comprehension's block asks -/
def compOk (scope sc : Scope) : Bool :=
  (scope.names.all fun p => p.2 != .cell) && scope.kind == .function && (scope.names.all fun p => p.2 != .local || scope.names.lookup p.1 == some .local) &&
  (scope.names.all fun p => p.2 != .free || sc.names.lookup p.1 == some .cell || sc.names.lookup p.1 == some .free)

/-- the captured names -/
def Capt (scope sc : Scope) (ρ ρc : Rho) : Prop := ∀ x v, ρc.lookup x = some v → ρ.lookup x = some v ∧ (relS scope sc).names.lookup x ≠ some .local

theorem Loc.weaken {ρ' : Rho} {env : Env} {h : Heap} (L : Loc c sc ρ σ env h) (k : ∀ x v, ρ'.lookup x = some v → ρ.lookup x = some v) : Loc c sc ρ' σ env h := by
  obtain ⟨m, hn, hm⟩ := L.lns
  refine ⟨L.scope, L.glob, L.blt, ⟨m, hn, fun x v e => hm x v (k x v e)⟩, L.lσ, L.lup, fun x hx => ?_, L.apart⟩
  obtain ⟨a, e1, e2, e3, y, e4, e5⟩ := L.cel x hx
  exact ⟨a, e1, e2, e3, y, e4, fun v e => e5 v (k x v e)⟩

def EvIfs (c : Cx) (n : Nat) (sc : Scope) (ρ : Rho) (σ : Sg) (ifs : List Expr) (Q : Bool → Sg → Prop) : Prop :=
  match ifs with
  | [] => Q true σ
  | [t] => EvT c n sc ρ σ t Q
  | _ => False

theorem relS_cellish {scope sc : Scope} (hc : compOk scope sc = true) {x : Str} (h : cellish (relS scope sc) x) : (x, NameKind.free) ∈ scope.names ∧ cellish sc x := by
  unfold compOk at hc
  simp only [Bool.and_eq_true] at hc
  obtain ⟨⟨⟨h1, h2⟩, h3⟩, h4⟩ := hc
  have key : ∀ k, (relS scope sc).names.lookup x = some k → (k = .cell ∨ k = .free) → (x, NameKind.free) ∈ scope.names := by
    intro k e hk
    have m := lookup_mem e
    unfold relS at m
    obtain ⟨⟨y, k'⟩, my, e'⟩ := List.mem_map.mp m
    have hy := List.all_eq_true.mp h1 _ my
    dsimp only at e' hy
    split at e'
    · rename_i q
      cases e'
      simp only [Bool.and_eq_true, beq_iff_eq] at q
      rw [← q.1.1]; exact my
    · cases e'
      rcases hk with rfl | rfl
      · simp at hy
      · exact my
  have m : (x, NameKind.free) ∈ scope.names := h.elim (fun e => key _ e (.inl rfl)) fun e => key _ e (.inr rfl)
  refine ⟨m, ?_⟩
  have := List.all_eq_true.mp h4 _ m
  simp only [bne_self_eq_false, Bool.false_or, Bool.or_eq_true, beq_iff_eq] at this
  exact this
end
end Mine
-- part MA
namespace Mine
open PySem PySem.W PySem.Calls PyProof.Rows

section
variable {c : Cx} {n : Nat} {sc : Scope} {ρ : Rho} {σ : Sg} {Q : V → Sg → Prop}

theorem append_step {A : Around} {s : Shared} {D : Addr} {acc : List V} {v : V} {x : Value} {ob : List V → AO} (G : c.Good σ s.heap) (hD : σ D = some (ob acc)) (I : VIn σ s.heap v x) (hb : acc.length < big)
    (hob : ∀ σ h a vs, OIn c.prog c.w σ h a (ob vs) ↔ ∃ xs : List Value, h.PlainList a xs.toArray ∧ xs.length ≤ big ∧ VAll σ h vs xs) (hit : ∀ vs ws, (ob vs).it = (ob ws).it) :
    wpAny c.M A (call (.builtin "list.append") [.ref D, x]) (fun r s' => r = .none ∧ Step No σ s (upd σ D (ob (acc ++ [v]))) s' ∧ c.Good (upd σ D (ob (acc ++ [v]))) s'.heap) Ef s := by
  have hne : σ D ≠ none := by rw [hD]; exact fun z => nomatch z
  have hk : Ob σ D → (ob (acc ++ [v])).it = false := fun ⟨o, e, i⟩ => by rw [hD] at e; cases e; rw [hit _ acc]; exact i
  obtain ⟨xs, hp, hl, hv⟩ := (hob _ _ _ _).mp (G.objs D _ hD)
  have hlen := hv.length
  refine wpAny_list_append_plain (hsz := by simp; exact big_size hl) hp fun h' hp' hs => ?_
  have S : Step No σ s (upd σ D (ob (acc ++ [v]))) { s with heap := h' } := upd_step hne hk hs s.toks
  refine ⟨rfl, S, G.upd hne hk hs ((hob _ _ _ _).mpr ⟨xs ++ [x], by simpa using hp', by simp; omega, (hv.step S apart_no).append (.one (I.step S apart_no))⟩)⟩

/-- targets of a block's clause: local names alone -/
def PostT (c : Cx) (sc : Scope) (σ : Sg) (env : Env) (s : Shared) (K : Rho → Sg → Prop) (_ : Unit) (s' : Shared) : Prop :=
  ∃ σ' ρ', Step (fun a => a = env.locals) σ s σ' s' ∧ c.Good σ' s'.heap ∧ Loc c sc ρ' σ' env s'.heap ∧ K ρ' σ'
theorem PostT.trans {σ₁ : Sg} {env : Env} {s s₁ s' : Shared} {K : Rho → Sg → Prop} {u : Unit} (S : Step (fun a => a = env.locals) σ s σ₁ s₁) (H : PostT c sc σ₁ env s₁ K u s') : PostT c sc σ env s K u s' :=
  let ⟨σ', ρ', S', G, L, q⟩ := H; ⟨σ', ρ', S.trans S', G, L, q⟩
def CT (c : Cx) (n : Nat) (sc : Scope) (ρ : Rho) (σ : Sg) (t : Expr) (v : V) (K : Rho → Sg → Prop) : Prop :=
  ∀ A env s x, Co c n sc ρ σ A env s → VIn σ s.heap v x → wpAny c.M A (assign t env x) (PostT c sc σ env s K) Ef s
theorem store_local {A : Around} {env : Env} {s : Shared} {x : Str} {v : V} {y : Value} {K : Rho → Sg → Prop} (C : Co c n sc ρ σ A env s) (e : sc.names.lookup x = some .local) (h2 : sc.kind = .function) (I : VIn σ s.heap v y)
    (h : K (rset ρ x v) σ) : wpAny c.M A (storeName env x y) (PostT c sc σ env s K) Ef s := by
  have hsc := C.loc.scope
  have F := C.loc.frp
  have F' : Apart (fun a => a = env.locals) σ s.heap := fun a p => F a (.inl p)
  obtain ⟨m, hn, hm⟩ := C.loc.lns
  refine wpAny_storeName_local (by show env.scope.names.lookup x = _; rw [hsc]; exact e) hn (fun h' hn' hs => ?_) (by rw [hsc, h2]; rfl)
  obtain ⟨_, G'⟩ := fr_step C.loc C.good (.inl rfl) hs (s.toks + 1)
  have S : Step (fun a => a = env.locals) σ s σ { s with heap := h', toks := s.toks + 1 } :=
    ⟨fun b o e _ p => (hs.2 b p).trans e, fun _ e _ => e, fun _ e => .inl e, rfl, rfl, rfl⟩
  refine ⟨σ, rset ρ x v, S, G', ⟨hsc, C.loc.glob, C.loc.blt, ⟨_, hn', fun z u ez ek => ?_⟩, C.loc.lσ, C.loc.lup, fun z hz => ?_, C.loc.apart⟩, h⟩
  · rw [rset_lookup] at ez
    by_cases q : z = x
    · subst q
      rw [if_pos (by simp)] at ez; cases ez
      exact ⟨y, by simp, I.step S F'⟩
    · rw [if_neg (by simpa using q)] at ez
      obtain ⟨w, e1, e2⟩ := hm z u ez ek
      exact ⟨w, by simp [q, e1], e2.step S F'⟩
  · obtain ⟨a, e1, e2, e3, w, ⟨o, ho, hd⟩, e4⟩ := C.loc.cel z hz
    have hne : a ≠ env.locals := by
      rintro rfl
      obtain ⟨o', es, ep, ho', hd', _⟩ := hn
      rw [ho] at ho'; cases ho'; rw [hd] at hd'; cases hd'
    refine ⟨a, e1, e2, e3, w, ⟨o, (hs.2 a hne).trans ho, hd⟩, fun u eu => ?_⟩
    rw [rset_lookup] at eu
    have q : z ≠ x := by
      rintro rfl
      rcases hz with q | q <;> (rw [e] at q; cases q)
    rw [if_neg (by simpa using q)] at eu
    obtain ⟨z', p, p2⟩ := e4 u eu
    exact ⟨z', p, p2.step S F'⟩
theorem ct_name {x : Str} {pos : Pos} {v : V} {K : Rho → Sg → Prop} (hk : (sc.names.lookup x == some .local && sc.kind == .function) = true) (h : K (rset ρ x v) σ) : CT c n sc ρ σ (.Name x pos) v K := by
  intro A env s y C I
  simp only [Bool.and_eq_true, beq_iff_eq] at hk
  exact assign_Name (store_local C hk.1 hk.2 I h)
theorem ct_pair {x₁ x₂ : Str} {p₁ p₂ pos : Pos} {k : Nat} {u v : V} {K : Rho → Sg → Prop} (hk : (sc.names.lookup x₁ == some .local && sc.names.lookup x₂ == some .local && sc.kind == .function) = true) (h : K (rset (rset ρ x₁ u) x₂ v) σ) :
    CT c n sc ρ σ (.Tuple [.Name x₁ p₁, .Name x₂ p₂] k pos) (.tup [u, v]) K := by
  intro A env s x C I
  simp only [Bool.and_eq_true, beq_iff_eq] at hk
  cases I with
  | tup ht hn hb hv =>
    rename_i a xs
    have hl := hv.length
    refine wpAny_assign_Tuple C.room.1 (t := a) (items := xs.toArray) ht ?_ rfl fun h' hs => ?_
    · simp [assignEach]; simp at hl; omega
    · obtain ⟨S, G⟩ := ext_step (P := No) C.good hs s.toks
      have hv' := hv.step S apart_no
      cases hv' with
      | cons i r =>
        rename_i y ys
        cases r with
        | cons i' r =>
          cases r
          rename_i y'
          refine wpAny_bind (wpAny_holding ?_)
          have C₁ : Co c n sc ρ σ A env { s with heap := h' } := ⟨C.room, C.loc.step S, G⟩
          refine wmono (assign_Name (store_local (K := fun ρ₁ σ₁ => ρ₁ = rset ρ x₁ u ∧ σ₁ = σ) C₁ hk.1.1 hk.2 i ⟨rfl, rfl⟩)) fun _ s₁ ⟨σ₁, ρ₁, S₁, G₁, L₁, e₁, e₂⟩ => ?_
          subst e₁; subst e₂
          refine wpAny_bind (wpAny_holding ?_)
          have F' : Apart (fun a => a = env.locals) _ h' := fun a p => C₁.loc.frp a (.inl p)
          refine wmono (assign_Name (store_local (K := K) ⟨C.room, L₁, G₁⟩ hk.1.2 hk.2 (i'.step S₁ F') h)) fun _ s₂ Z => ?_
          exact wpAny_pure (PostT.trans ((S.mono fun _ => False.elim).trans S₁) Z)

theorem comp_core {elt target iter : Expr} {ifs : List Expr} {scope : Scope} {pos : Pos} {env : Env} {A : Around} {s₂ : Shared} {a : Addr} {m : Nat} {σ₂ : Sg} (ρc : Rho) (J : Addr → Nat → List V → Sg → Prop) (Fn : Addr → List V → Sg → Prop)
    (RR : Value → Addr → Result → Shared → Prop)
    (hok : compOk scope sc = true) (hcap : Capt scope sc ρ ρc) (L₂ : Loc c sc ρ σ₂ env s₂.heap) (G₂ : c.Good σ₂ s₂.heap) (Rm : Room n A) (ha : ∃ o, σ₂ a = some o ∧ isIter o = true) (j : ∀ D, σ₂ D = none → J D m [] (upd σ₂ D (.acc [])))
    (step : ∀ D m acc σ, J D m acc σ → σ D = some (.acc acc) → ∃ r σ', NextR c target a σ r σ' ∧ σ' D = some (.acc acc) ∧ match r with
      | none => Fn D acc σ'
      | some v => CT c n (relS scope sc) ρc σ' target v fun ρ₁ σ₁ => (∀ x v, ρc.lookup x = some v → ρ₁.lookup x = some v) ∧ EvIfs c n (relS scope sc) ρ₁ σ₁ ifs fun b σ₂ =>
          (b = true → EvE c n (relS scope sc) ρ₁ σ₂ elt fun u σ₃ => σ₃ D = some (.acc acc) ∧ acc.length < big ∧ ∃ m', m' < m ∧ J D m' (acc ++ [u]) (upd σ₃ D (.acc (acc ++ [u])))) ∧
          (b = false → σ₂ D = some (.acc acc) ∧ ∃ m', m' < m ∧ J D m' acc σ₂))
    (hRR : ∀ D C σ' s' acc m, σ₂ D = none → s₂.heap.get? D = none → σ₂ C = none → s₂.heap.get? C = none → c.h₀.get? C = none → Step No σ₂ s₂ σ' s' → c.Good σ' s'.heap → σ' D = some (.acc acc) → σ' C = none → s'.heap.Ns C m → Fn D acc σ' → RR (.ref D) C (.ok .next) s') :
    wpAny c.M A (newList []) (fun acc s₃ => wpAny c.M A (newFunctionEnv scope env.globals (closeL env.cells scope.names []) [] env.qual none .none (some env)) (fun cenv s₄ =>
      codeAny c.M A (.compStart (.ListComp elt [⟨target, iter, ifs, 0⟩] scope pos) 0 (.ref a) acc { cenv with scope := relabel scope env }) (RR acc cenv.locals) s₄) Ef s₃) Ef s₂ := by
  have hsc := L₂.scope
  have hok' := hok
  unfold compOk at hok'
  simp only [Bool.and_eq_true] at hok'
  obtain ⟨⟨⟨k1, k2⟩, k3⟩, k4⟩ := hok'
  have hkind : scope.kind = .function := by simpa using k2
  have hcell : ∀ y ∈ scope.names, y.2 ≠ .cell := fun y hy => by simpa using List.all_eq_true.mp k1 y hy
  refine wpAny_newObj_type (wpAny_newFunctionEnv hcell (by intro y hy; simp at hy) (fun h₁ hns₁ hsb₁ => ?_) hkind)
  dsimp only at hns₁ hsb₁ ⊢
  have S₃ := new_step (o := AO.acc []) G₂ { cls := .type "list", data := .seq #[] }
  have G₃ : c.Good (upd σ₂ s₂.heap.objs.size (.acc [])) (s₂.heap.push { cls := .type "list", data := .seq #[] }) := G₂.new _ ⟨[], isList_new _ _, Nat.zero_le _, .nil⟩
  have hD0 : σ₂ s₂.heap.objs.size = none := G₂.nofresh (Nat.le_refl _)
  have hD1 : s₂.heap.get? s₂.heap.objs.size = none := Heap.get?_none_of_le (Nat.le_refl _)
  generalize hH : s₂.heap.push { cls := .type "list", data := .seq #[] } = H at S₃ G₃
  have hHC : (s₂.heap.push { cls := .type "list", dict := none, data := .seq ([] : List Value).toArray }) = H := hH
  rw [hHC] at hns₁ hsb₁
  try rw [hHC]
  have kp : ∀ b ob, H.get? b = some ob → h₁.get? b = some ob := fun b ob e => hsb₁.extBut b ob (Nat.ne_of_lt (Heap.lt_size e)) (Heap.get?_push_of_some _ e)
  obtain ⟨S₄, G₄⟩ := keep_step (s := { s₂ with heap := H }) (s' := { s₂ with heap := h₁, toks := s₂.toks + ([] : List (Str × Value)).length }) G₃ kp ⟨rfl, rfl, rfl⟩
  have S₂₄ := S₃.trans S₄
  have hCn : H.get? H.objs.size = none := Heap.get?_none_of_le (Nat.le_refl _)
  have hCs : (upd σ₂ s₂.heap.objs.size (.acc [])) H.objs.size = none := Good.nofresh (s := { s₂ with heap := H }) G₃ (Nat.le_refl _)
  have hC0 : c.h₀.get? H.objs.size = none := Good.h0 (s := { s₂ with heap := H }) G₃ (Nat.le_refl _)
  have hCn₂ : s₂.heap.get? H.objs.size = none := by
    cases q : s₂.heap.get? H.objs.size with
    | none => rfl
    | some ob => have := Heap.get?_push_of_some { cls := .type "list", data := .seq #[] } q; rw [hH] at this; rw [this] at hCn; cases hCn
  have hCs₂ : σ₂ H.objs.size = none := by
    cases q : σ₂ H.objs.size with
    | none => rfl
    | some ob =>
      exfalso
      have : H.objs.size < s₂.heap.objs.size := G₂.lt (by rw [q]; exact fun z => nomatch z)
      have h2 : H.objs.size = s₂.heap.objs.size + 1 := by rw [← hH, Heap.size_push]
      omega
  -- the block's frame
  have LC : Loc c (relS scope sc) ρc (upd σ₂ s₂.heap.objs.size (.acc [])) (compEnvC scope (closeL env.cells scope.names []) H.objs.size env) h₁ := by
    refine ⟨?_, L₂.glob, L₂.blt, ⟨_, hns₁, fun x v e k => absurd k (hcap x v e).2⟩, hCs, hC0, fun x hx => ?_, fun x y b hx hy e1 e2 => ?_⟩
    · show relabel scope env = relS scope sc
      simp only [relabel, relS, Env.kindOf, hsc]
    · obtain ⟨hm, hcl⟩ := relS_cellish hok hx
      obtain ⟨b, e1, e2, e3, y, e4, e5⟩ := L₂.cel x hcl
      obtain ⟨b', eb⟩ := Option.isSome_iff_exists.mp (closeL_has (cells := env.cells) scope.names [] x hm (by rw [e1]; rfl))
      have := closeL_sound scope.names [] (fun _ _ q => by simp at q) x b' eb
      rw [e1] at this; cases this
      obtain ⟨ob, ho, hd⟩ := e4
      have hbn : b ≠ s₂.heap.objs.size := Nat.ne_of_lt (Heap.lt_size ho)
      refine ⟨b, eb, upd_ne hbn e2, e3, y, ⟨ob, S₂₄.keep b ob ho e2 id, hd⟩, fun v e => ?_⟩
      obtain ⟨z, p, q⟩ := e5 v (hcap x v e).1
      exact ⟨z, p, q.step S₂₄ apart_no⟩
    · have h1 := closeL_sound scope.names [] (fun _ _ q => by simp at q) x b e1
      have h2 := closeL_sound scope.names [] (fun _ _ q => by simp at q) y b e2
      exact L₂.apart x y b (relS_cellish hok hx).2 (relS_cellish hok hy).2 h1 h2
  have jD := j _ hD0
  generalize hDd : s₂.heap.objs.size = D at *
  change codeAny c.M A (.compStart (.ListComp elt [⟨target, iter, ifs, 0⟩] scope pos) 0 (.ref a) (.ref D) (compEnvC scope (closeL env.cells scope.names []) H.objs.size env)) _ _
  have hcl : (compEnvC scope (closeL env.cells scope.names []) H.objs.size env).locals = H.objs.size := rfl
  generalize hce : compEnvC scope (closeL env.cells scope.names []) H.objs.size env = ce at LC hcl
  have haD : a ≠ D := by
    rintro rfl
    obtain ⟨o, e, _⟩ := ha
    rw [hD0] at e; cases e
  have ha₄ : ∃ o, (upd σ₂ D (.acc [])) a = some o ∧ isIter o = true := let ⟨o, e, i⟩ := ha; ⟨o, upd_ne haD e, i⟩
  have loop : ∀ s₄ : Shared, s₄ = { s₂ with heap := h₁, toks := s₂.toks + ([] : List (Str × Value)).length } →
      codeAny c.M A (.compLoop (.ListComp elt [⟨target, iter, ifs, 0⟩] scope pos) 0 (.ref a) (.ref D) ce) (RR (.ref D) H.objs.size) s₄ := by
    rintro s₄ rfl
    refine codeAny_loop rfl (fun m s' => ∃ σ' acc, Step (fun a => a = ce.locals) (upd σ₂ D (.acc [])) { s₂ with heap := h₁, toks := s₂.toks + ([] : List (Str × Value)).length } σ' s' ∧ c.Good σ' s'.heap ∧ Loc c (relS scope sc) ρc σ' ce s'.heap ∧ σ' D = some (.acc acc) ∧ J D m acc σ') ?_ m
      ⟨_, [], Step.refl _ _, G₄, LC, upd_same, jD⟩
    rintro k s₅ ⟨σ₅, acc, S₅, G₅, L₅, e₅, j₅⟩
    show wpAny _ A ((compTurn (.ListComp elt [⟨target, iter, ifs, 0⟩] scope pos) 0 (.ref a) (.ref D) ce).onRaise (fun x => do noteFrame x ce; theTreesLotGoes x)) _ _ s₅
    refine wpAny_noted ?_
    rw [compTurn_list]
    obtain ⟨r, σ₆, N₆, e₆, q₆⟩ := step D k acc σ₅ j₅ e₅
    refine wpAny_bind (wpAny_standAt (wpAny_bind (wpAny_mono (N₆ A s₅ Rm.1 G₅) (fun r' s₆ z₆ => ?_) fun _ _ f => f.elim)))
    cases r with
    | none =>
      obtain ⟨z₆, S₆, G₆⟩ := z₆
      have T₆ := S₅.trans (S₆.mono fun _ => False.elim)
      subst z₆
      refine wpAny_pure ?_
      have T := (S₂₄.mono (P' := fun a => a = ce.locals) fun _ => False.elim).trans T₆
      have L₆ := L₅.step S₆
      obtain ⟨m', hns, _⟩ := L₆.lns
      refine hRR D H.objs.size σ₆ s₆ acc m' hD0 hD1 hCs₂ hCn₂ hC0 (T.tighten fun x hx => .inr ?_) G₆ e₆ (hcl ▸ L₆.lσ) (hcl ▸ hns) q₆
      rw [hx, hcl]; exact ⟨hCn₂, hCs₂⟩
    | some v =>
      obtain ⟨x, rfl, ow⟩ := z₆
      refine wpAny_bind (wpAny_mono ow (fun _ s₆' ⟨S₆, G₆, I₆⟩ => ?_) fun _ _ f => f.elim)
      have T₆ := S₅.trans (S₆.mono fun _ => False.elim)
      refine wpAny_bind (wpAny_mono (q₆ A ce _ x ⟨Rm, L₅.step S₆, G₆⟩ I₆) (fun _ s₇ ⟨σ₇, ρ₇, S₇, G₇, L₇, wk, q₇⟩ => ?_) fun _ _ f => f.elim)
      have T₇ := T₆.trans S₇
      have tests : wpAny c.M A (forIn ifs true fun c r => if r = true then do let ok ← isTrue c ce (eval c ce); pure (ForInStep.yield ok) else pure (ForInStep.yield r)) (fun ok s₈ => ∃ σ₈, Step No σ₇ s₇ σ₈ s₈ ∧ c.Good σ₈ s₈.heap ∧
          ((ok = true → EvE c n (relS scope sc) ρ₇ σ₈ elt fun u σ₃ => σ₃ D = some (.acc acc) ∧ acc.length < big ∧ ∃ m', m' < k ∧ J D m' (acc ++ [u]) (upd σ₃ D (.acc (acc ++ [u])))) ∧
          (ok = false → σ₈ D = some (.acc acc) ∧ ∃ m', m' < k ∧ J D m' acc σ₈))) Ef s₇ := by
        match ifs, q₇ with
        | [], q₇ => exact wpAny_tests_nil ⟨σ₇, Step.refl _ _, G₇, q₇⟩
        | [t], q₇ => exact wpAny_tests_one (wmono (q₇ A ce s₇ ⟨Rm, L₇, G₇⟩) fun b s₈ ⟨σ₈, S₈, G₈, q₈⟩ => ⟨σ₈, S₈, G₈, q₈⟩)
      refine wpAny_bind (wpAny_mono tests (fun ok s₈ ⟨σ₈, S₈, G₈, q₈⟩ => ?_) fun _ _ f => f.elim)
      have T₈ := T₇.trans (S₈.mono fun _ => False.elim)
      have L₈ := L₇.step S₈
      cases ok with
      | false =>
        obtain ⟨e₈, m', lt, j₈⟩ := q₈.2 rfl
        exact wpAny_pure ⟨rfl, m', lt, σ₈, acc, T₈, G₈, L₈.weaken wk, e₈, j₈⟩
      | true =>
        refine wpAny_bind (wpAny_bind (wpAny_mono (q₈.1 rfl A ce s₈ ⟨Rm, L₈, G₈⟩) (fun y s₉ ⟨σ₉, u, S₉, G₉, I₉, e₉, hb, m', lt, j₉⟩ => ?_) fun _ _ f => f.elim))
        refine wpAny_bind (wpAny_mono (append_step (ob := AO.acc) G₉ e₉ I₉ hb (fun _ _ _ _ => Iff.rfl) fun _ _ => rfl) (fun _ sA ⟨_, SA, GA⟩ => ?_) fun _ _ f => f.elim)
        refine wpAny_pure (wpAny_pure ⟨rfl, m', lt, _, acc ++ [u], (T₈.trans (S₉.mono fun _ => False.elim)).trans (SA.mono fun _ => False.elim), GA, ((L₈.step S₉).step SA).weaken wk, upd_same, j₉⟩)
  exact codeAny_compStart_list (loop _ rfl) (wpAny_mono (iter_self (Q := fun it' s' => codeAny c.M A (.compLoop (.ListComp elt [⟨target, iter, ifs, 0⟩] scope pos) 0 it' (.ref D) ce) (RR (.ref D) H.objs.size) s') Rm.1 G₄ ha₄.choose_spec.1 ha₄.choose_spec.2 (loop _ rfl)) (fun _ _ q => q) fun _ _ f => f.elim)

/-- a ghost let go, the heap as it is -/
theorem Good.forget {s : Shared} {a : Addr} (G : c.Good σ s.heap) (hk : ¬ Ob σ a) (hne : σ a ≠ none) : Step No σ s (Mine.del σ a) s ∧ c.Good (Mine.del σ a) s.heap :=
  ⟨del_step a hk (h' := s.heap) (fun _ _ _ e => e) hne s.toks, G.del hk hne (h' := s.heap) fun _ _ _ e => e⟩

/-- the end of a block: the list stays as it is -/
theorem fin_lst {s₂ s' : Shared} {σ₂ σ' : Sg} {D C : Addr} {acc : List V} {m : Str → Option Value} (S : Step No σ₂ s₂ σ' s') (G : c.Good σ' s'.heap) (e : σ' D = some (.acc acc)) (hC : σ' C = none) (hCn : s₂.heap.get? C = none) (hC2 : σ₂ C = none) (hC0 : c.h₀.get? C = none) (hns : s'.heap.Ns C m) (h' : Heap) (sb : Heap.SameBut C s'.heap h') :
    Step No σ₂ s₂ (del σ' D) { s' with heap := h' } ∧ c.Good (del σ' D) h' ∧ VIn (del σ' D) h' (.lst acc) (.ref D) := by
  have hk : ¬ Ob σ' D := fun ⟨o, e', i⟩ => by rw [e] at e'; cases e'; cases i
  have hne : σ' D ≠ none := by rw [e]; exact fun z => nomatch z
  obtain ⟨S₁, G₁⟩ := Good.forget (s := s') G hk hne
  obtain ⟨xs, hp, hb, hv⟩ := G.objs D _ e
  have hDC : D ≠ C := by rintro rfl; rw [hC] at e; cases e
  have hC' : del σ' D C = none := del_ne (Ne.symm hDC) hC
  have S₂ : Step (fun a => a = C) (del σ' D) s' (del σ' D) { s' with heap := h' } := ⟨fun b o e _ p => (sb.2 b p).trans e, fun _ e _ => e, fun _ e => .inl e, rfl, rfl, rfl⟩
  have F : Apart (fun a => a = C) (del σ' D) s'.heap := by
    rintro a rfl
    refine ⟨hC', fun o ho => ?_⟩
    obtain ⟨o', es, ep, ho', hd, _⟩ := hns
    rw [ho] at ho'; cases ho'
    rw [hd]; exact ⟨⟨fun e => (nomatch e), fun _ _ e => (nomatch e)⟩, fun _ e => (nomatch e)⟩
  refine ⟨(((S.trans S₁).mono fun _ => False.elim).trans S₂).tighten fun x (hx : x = C) => .inr (hx ▸ ⟨hCn, hC2⟩), ⟨fun b o e => (sb.2 b ?_).trans (G₁.base b o e), G₁.off, fun b o e => ?_⟩, ?_⟩
  · rintro rfl; rw [hC0] at e; cases e
  · exact OIn.step (s' := { s' with heap := h' }) S₂ F (fun ob eb => (sb.2 b fun q => by rw [q, hC'] at e; cases e).trans eb) (G₁.objs b o e)
  · obtain ⟨k, ho⟩ := hp
    refine .lst ⟨k, (sb.2 D hDC).trans ho⟩ ?_ hb ((hv.step S₁ apart_no).step S₂ F)
    simp [Mine.del]

theorem comp_pre {scope : Scope} {env : Env} {σ : Sg} {h : Heap} (hok : compOk scope sc = true) (L : Loc c sc ρ σ env h) :
    closureFor scope env = pure (closeL env.cells scope.names []) ∧ scope.kind = .function ∧ ∀ x ∈ scope.names, x.2 = .local → scope.names.lookup x.1 = some .local := by
  unfold compOk at hok
  simp only [Bool.and_eq_true] at hok
  obtain ⟨⟨⟨k1, k2⟩, k3⟩, k4⟩ := hok
  refine ⟨closure_is fun x hx => ?_, by simpa using k2, fun y hy e => ?_⟩
  · have : cellish sc x := by
      have := List.all_eq_true.mp k4 _ hx
      simp only [bne_self_eq_false, Bool.false_or, Bool.or_eq_true, beq_iff_eq] at this
      exact this
    obtain ⟨a, e, _⟩ := L.cel x this
    rw [e]; rfl
  · have := List.all_eq_true.mp k3 y hy
    rw [e] at this
    simpa using this

def CompStep (c : Cx) (n : Nat) (sc : Scope) (ρc : Rho) (scope : Scope) (target : Expr) (ifs : List Expr) (elt : Expr) (J : Addr → Addr → Nat → List V → Sg → Prop) (Fn : Addr → List V → Sg → Prop) : Prop :=
  ∀ a D m acc σ, J a D m acc σ → σ D = some (.acc acc) → ∃ r σ', NextR c target a σ r σ' ∧ σ' D = some (.acc acc) ∧ match r with
      | none => Fn D acc σ'
      | some v => CT c n (relS scope sc) ρc σ' target v fun ρ₁ σ₁ => (∀ x v, ρc.lookup x = some v → ρ₁.lookup x = some v) ∧ EvIfs c n (relS scope sc) ρ₁ σ₁ ifs fun b σ₂ =>
          (b = true → EvE c n (relS scope sc) ρ₁ σ₂ elt fun u σ₃ => σ₃ D = some (.acc acc) ∧ acc.length < big ∧ ∃ m', m' < m ∧ J a D m' (acc ++ [u]) (upd σ₃ D (.acc (acc ++ [u])))) ∧
          (b = false → σ₂ D = some (.acc acc) ∧ ∃ m', m' < m ∧ J a D m' acc σ₂)

theorem ev_comp {elt target iter : Expr} {ifs : List Expr} {scope : Scope} {pos : Pos} (ρc : Rho) (J : Addr → Addr → Nat → List V → Sg → Prop) (hok : compOk scope sc = true) (hcap : Capt scope sc ρ ρc)
    (hs : ∀ env x, foldedSetIterable iter env x = pure x)
    (h0 : EvE c n sc ρ σ iter fun v σ₁ => ItV c n v σ₁ fun a σ₂ => (∃ o, σ₂ a = some o ∧ isIter o = true) ∧ ∃ m, ∀ D, σ₂ D = none → J a D m [] (upd σ₂ D (.acc [])))
    (step : CompStep c n sc ρc scope target ifs elt J fun D acc σ' => Q (.lst acc) (del σ' D)) :
    EvE c n sc ρ σ (.ListComp elt [⟨target, iter, ifs, 0⟩] scope pos) Q := by
  intro A env s C
  obtain ⟨hclos, hkind, hnames⟩ := comp_pre hok C.loc
  rw [eval_ListComp]
  refine wpAny_comprehension_free (use := none) rfl (hs env) hclos hkind hnames (wmono (h0 A env s C) fun x s₁ ⟨σ₁, v, S₁, G₁, I₁, q⟩ => wmono (q A s₁ x C.room G₁ I₁) fun it s₂ ⟨σ₂, a, e, S₂, G₂, hi, m, j⟩ => ?_)
  subst e
  refine comp_core (m := m) ρc (J a) (fun D acc σ' => Q (.lst acc) (del σ' D)) _ hok hcap ((C.loc.step S₁).step S₂) G₂ C.room hi j (step a) ?_
  intro D Cc σ' s' acc m' hD hDn hC hCn hC0 S G eD eC hns q
  refine ⟨m', hns, fun h' sb => ?_⟩
  obtain ⟨S', G', I'⟩ := fin_lst S G eD eC hCn hC hC0 hns h' sb
  exact ⟨_, _, (S₁.trans S₂).trans S', G', I', q⟩

theorem Loc.stepP {P : Addr → Prop} {σ' : Sg} {env : Env} {s s' : Shared} (L : Loc c sc ρ σ env s.heap) (S : Step P σ s σ' s') (hp : Apart P σ s.heap) (hl : ∀ a, FrP sc env a → ¬ P a) : Loc c sc ρ σ' env s'.heap := by
  obtain ⟨m, ⟨o, es, ep, ho, r⟩, hv⟩ := L.lns
  refine ⟨L.scope, L.glob, L.blt, ⟨m, ⟨o, es, ep, S.keep _ _ ho L.lσ (hl _ (.inl rfl)), r⟩, fun x v e k => let ⟨y, a, b⟩ := hv x v e k; ⟨y, a, b.step S hp⟩⟩, S.off ho L.lσ (hl _ (.inl rfl)), L.lup, fun x hx => ?_, L.apart⟩
  obtain ⟨a, e1, e2, e3, y, ⟨o, ho, hd⟩, hv⟩ := L.cel x hx
  have na := hl a (.inr ⟨x, hx, e1⟩)
  exact ⟨a, e1, S.off ho e2 na, e3, y, ⟨o, S.keep _ _ ho e2 na, hd⟩, fun v e => let ⟨z, p, q⟩ := hv v e; ⟨z, p, q.step S hp⟩⟩
theorem Loc.alive {env : Env} {h : Heap} (L : Loc c sc ρ σ env h) {a : Addr} (p : FrP sc env a) : ∃ o, h.get? a = some o := by
  rcases p with rfl | ⟨x, hx, ha⟩
  · obtain ⟨m, ⟨o, es, ep, ho, r⟩, hv⟩ := L.lns; exact ⟨o, ho⟩
  · obtain ⟨a', e1, _, _, y, ⟨o, ho, hd⟩, hv⟩ := L.cel x hx
    rw [ha] at e1; cases e1; exact ⟨o, ho⟩

/-- the block's list bound on its own line -/
theorem x_assign_comp {x : Str} {px spos : Pos} {elt target iter : Expr} {ifs : List Expr} {scope : Scope} {pos : Pos} {N : Rho → Sg → Prop} {R : V → Sg → Prop} (ρc : Rho) (J : Addr → Addr → Nat → List V → Sg → Prop) (hok : compOk scope sc = true) (hcap : Capt scope sc ρ ρc)
    (hx : storeNOk sc x = true)
    (hsw : ∀ env, env.scope = sc → swapsWith (.ListComp elt [⟨target, iter, ifs, 0⟩] scope pos) (some (.Name x px)) spos.line env = pure true)
    (hs : ∀ env x, foldedSetIterable iter env x = pure x)
    (h0 : EvE c n sc ρ σ iter fun v σ₁ => ItV c n v σ₁ fun a σ₂ => (∃ o, σ₂ a = some o ∧ isIter o = true) ∧ ∃ m, ∀ D, σ₂ D = none → J a D m [] (upd σ₂ D (.acc [])))
    (step : CompStep c n sc ρc scope target ifs elt J fun D acc σ' => N (rset ρ x (.lst acc)) (del σ' D)) :
    Ex1 c n sc ρ σ (.Assign [.Name x px] (.ListComp elt [⟨target, iter, ifs, 0⟩] scope pos) spos) N R := by
  intro A env s C
  obtain ⟨hclos, hkind, hnames⟩ := comp_pre hok C.loc
  rw [exec_Assign_Name_used _ _ _ _ (hsw env C.loc.scope)]
  refine wpAny_bind (wpAny_standAt (wpAny_bind ?_))
  show wpAny c.M A (do let _ ← comprehension (.ListComp elt [⟨target, iter, ifs, 0⟩] scope pos) scope env _ (newList []) false (eval iter env) (some (assign (.Name x px) env))) _ _ s
  refine wpAny_bind (wmono (wpAny_comprehension_free (use := some (assign (.Name x px) env)) (Q := fun _ s' => PostS c sc σ env s N R .next s') rfl (hs env) hclos hkind hnames (wmono (h0 A env s C) fun xv s₁ ⟨σ₁, v, S₁, G₁, I₁, q⟩ => wmono (q A s₁ xv C.room G₁ I₁) fun it s₂ ⟨σ₂, a, e, S₂, G₂, hi, m, j⟩ => ?_)) fun _ s' q => wpAny_pure (wpAny_pure q))
  subst e
  have L₂ := (C.loc.step S₁).step S₂
  refine comp_core (m := m) ρc (J a) (fun D acc σ' => N (rset ρ x (.lst acc)) (del σ' D)) _ hok hcap L₂ G₂ C.room hi j (step a) ?_
  intro D Cc σ' s' acc m' hD hDn hC hCn hC0 S G eD eC hns q
  have hk : ¬ Ob σ' D := fun ⟨o, e', i⟩ => by rw [eD] at e'; cases e'; cases i
  have hne : σ' D ≠ none := by rw [eD]; exact fun z => nomatch z
  obtain ⟨S₃, G₃⟩ := Good.forget (s := s') G hk hne
  obtain ⟨xs, hp, hb, hv⟩ := G.objs D _ eD
  have L₃ := (L₂.step S).step S₃
  have I₃ : VIn (del σ' D) s'.heap (.lst acc) (.ref D) := .lst hp (by simp [Mine.del]) hb (hv.step S₃ apart_no)
  show wpAny c.M A (assign (.Name x px) env (.ref D)) _ _ s'
  have fC : ∀ a, FrP sc env a → a ≠ Cc := fun a p e => by
    obtain ⟨o, ho⟩ := L₂.alive p
    rw [e, hCn] at ho; cases ho
  have hCD : Cc ≠ D := by rintro rfl; rw [eD] at eC; cases eC
  have hC3 : del σ' D Cc = none := del_ne hCD eC
  refine wmono (assign_Name (store_name (K := fun ρ' σ'' => N ρ' σ'') ⟨C.room, L₃, G₃⟩ hx I₃ q)) fun _ s₄ ⟨σ₄, ρ₄, S₄, G₄, L₄, q₄⟩ => ?_
  have hns₄ : s₄.heap.Ns Cc m' := by
    obtain ⟨o, es, ep, ho, r⟩ := hns
    exact ⟨o, es, ep, S₄.keep _ _ ho hC3 fun p => fC _ p rfl, r⟩
  refine ⟨m', hns₄, fun h' sb => ?_⟩
  have hC4 : σ₄ Cc = none := by
    obtain ⟨o, es, ep, ho, r⟩ := hns
    exact S₄.off ho hC3 fun p => fC _ p rfl
  have S₅ : Step (fun a => a = Cc) σ₄ s₄ σ₄ { s₄ with heap := h' } := ⟨fun b o e _ p => (sb.2 b p).trans e, fun _ e _ => e, fun _ e => .inl e, rfl, rfl, rfl⟩
  have F : Apart (fun a => a = Cc) σ₄ s₄.heap := by
    rintro a rfl
    refine ⟨hC4, fun o ho => ?_⟩
    obtain ⟨o', es, ep, ho', hd, _⟩ := hns₄
    rw [ho] at ho'; cases ho'
    rw [hd]; exact ⟨⟨fun e => (nomatch e), fun _ _ e => (nomatch e)⟩, fun _ e => (nomatch e)⟩
  have T : Step (fun a => FrP sc env a ∨ a = Cc) σ₂ s₂ σ₄ { s₄ with heap := h' } := (((S.trans S₃).mono fun _ => False.elim).trans (S₄.mono fun _ => .inl)).trans (S₅.mono fun _ => .inr)
  refine ⟨σ₄, ρ₄, ((S₁.trans S₂).mono fun _ => False.elim).trans (T.tighten fun y hy => hy.imp id fun (e : y = Cc) => e ▸ ⟨hCn, hC⟩), ⟨fun b o e => (sb.2 b ?_).trans (G₄.base b o e), G₄.off, fun b o e => ?_⟩, L₄.stepP S₅ F fun a p e => fC a p e, q₄⟩
  · rintro rfl; rw [hC0] at e; cases e
  · exact OIn.step (s' := { s₄ with heap := h' }) S₅ F (fun ob eb => (sb.2 b fun q => by rw [q, hC4] at e; cases e).trans eb) (G₄.objs b o e)
end
end Mine
-- part MB
namespace Mine
open PySem PySem.W PySem.Calls PyProof.Rows

def rl (lo hi : Int) : List V := (List.range (hi - lo).toNat).map fun (k : Nat) => V.int (lo + k)
def numV (ns : List Int) : List V := ns.map V.int

section
variable {c : Cx} {n : Nat} {sc : Scope} {ρ : Rho} {σ : Sg} {Q : V → Sg → Prop} {QB : Bool → Sg → Prop}

theorem post_keep {s s' : Shared} {v : V} {x : Value} (G : c.Good σ s.heap) (k : ∀ a o, s.heap.get? a = some o → s'.heap.get? a = some o) (r : s'.gens = s.gens ∧ s'.drawn = s.drawn ∧ s'.os = s.os) (I : VIn σ s'.heap v x) (q : Q v σ) : Post c σ s Q x s' :=
  let ⟨S, G'⟩ := keep_step G k r; ⟨σ, v, S, G', I, q⟩
theorem kept_step (G : c.Good σ h.heap) {h' : Heap} (k : ∀ a o, h.heap.get? a = some o → h'.get? a = some o) : Step No σ h σ { h with heap := h' } := (keep_step (s := h) (s' := { h with heap := h' }) G k ⟨rfl, rfl, rfl⟩).1

/-- len -/
theorem c_len_tup {vs : List V} (h : Q (.int vs.length) σ) : CallV c n (.builtin "len") [.tup vs] σ Q := by
  intro A s xs R G I
  cases I with
  | cons I J =>
    cases J
    cases I with
    | tup ht hn hb hv =>
      have hl := hv.length
      exact len_tuple ht (by simpa using big63 hb) (post_keep G (fun _ _ e => e) ⟨rfl, rfl, rfl⟩ (by simpa [hl] using VIn.int _ _) h)
theorem c_len_lst {vs : List V} (h : Q (.int vs.length) σ) : CallV c n (.builtin "len") [.lst vs] σ Q := by
  intro A s xs R G I
  cases I with
  | cons I J =>
    cases J
    cases I with
    | lst ht hn hb hv =>
      have hl := hv.length
      exact call_len_list ht.isList (by simpa using big63 hb) (post_keep G (fun _ _ e => e) ⟨rfl, rfl, rfl⟩ (by simpa [hl] using VIn.int _ _) h)
theorem c_len_ref {a : Addr} {t : Nat} {vs : List V} (ha : σ a = some (.list t vs)) (h : Q (.int vs.length) σ) : CallV c n (.builtin "len") [.ref a] σ Q := by
  intro A s xs R G I
  cases I with
  | cons I J =>
    cases J
    cases I
    obtain ⟨xs, ht, hb, hv⟩ := G.objs a _ ha
    have hl := hv.length
    exact call_len_list ht.isList (by simpa using big63 hb) (post_keep G (fun _ _ e => e) ⟨rfl, rfl, rfl⟩ (by simpa [hl] using VIn.int _ _) h)
/-- range -/
theorem c_range1 {k : Int} (h : Q (.rng 0 k) σ) : CallV c n (.type "range") [.int k] σ Q := by
  intro A s xs R G I
  cases I with
  | cons I J =>
    cases J
    cases I
    exact call_range_1 (post_keep G (fun _ _ e => Heap.get?_push_of_some _ e) ⟨rfl, rfl, rfl⟩ (.rng (IsRange.new ..) (G.nofresh (Nat.le_refl _))) h)
theorem c_range2 {a b : Int} (h : Q (.rng a b) σ) : CallV c n (.type "range") [.int a, .int b] σ Q := by
  intro A s xs R G I
  cases I with
  | cons I J =>
    cases J with
    | cons J K =>
      cases K
      cases I; cases J
      exact call_range_2 (post_keep G (fun _ _ e => Heap.get?_push_of_some _ e) ⟨rfl, rfl, rfl⟩ (.rng (IsRange.new ..) (G.nofresh (Nat.le_refl _))) h)
theorem rsize {lo hi : Int} : Builtin.Range.rangeSize lo hi 1 = ((hi - lo).toNat : Nat) := by
  rw [rangeSize_one]; split <;> omega
def rfit (lo hi : Int) : Prop := -(2 ^ 18) ≤ lo ∧ lo < 2 ^ 18 ∧ -(2 ^ 18) ≤ hi ∧ hi < 2 ^ 18
theorem it_rng {lo hi : Int} {Q : Addr → Sg → Prop} (hf : rfit lo hi) (h : ∀ a, σ a = none → Q a (upd σ a (.iter (rl lo hi)))) : ItV c n (.rng lo hi) σ Q := by
  intro A s x R G I
  obtain ⟨f1, f2, f3, f4⟩ := hf
  cases I with
  | rng hr hn =>
    refine wpAny_pyIter_range hr (small_one (by omega) (by omega) (by omega) (by omega)) ?_
    rw [rsize]
    have S := new_step (o := AO.iter (rl lo hi)) G { cls := .type "range_iterator", data := .fields #[rawInt lo, rawInt ((hi - lo).toNat : Nat), rawInt 1] }
    exact ⟨_, _, rfl, S, G.new _ (.inr (.inr ⟨lo, (hi - lo).toNat, Heap.get?_push_size _ rfl, rfl⟩)), h _ (G.nofresh (Nat.le_refl _))⟩

/-- tuple, list -/
theorem c_tuple_tup {vs : List V} (h : Q (.tup vs) σ) : CallV c n (.type "tuple") [.tup vs] σ Q := by
  intro A s xs R G I
  cases I with
  | cons I J =>
    cases J
    cases I with
    | tup ht hn hb hv => exact call_tuple_same ht (post_keep G (fun _ _ e => e) ⟨rfl, rfl, rfl⟩ (.tup ht hn hb hv) h)
theorem tup_of_list {A : Around} {s : Shared} {a : Addr} {vs : List V} {xs : List Value} (G : c.Good σ s.heap) (ht : s.heap.PlainList a xs.toArray) (hb : xs.length ≤ big) (hv : VAll σ s.heap vs xs) (h : Q (.tup vs) σ) :
    wpAny c.M A (call (.type "tuple") [.ref a]) (Post c σ s Q) Ef s := by
  refine call_tuple_list (hsz := by simpa using big_size hb) ht.isList fun h' k => ?_
  have hn : σ h'.objs.size = none := by
    cases q : σ h'.objs.size with
    | none => rfl
    | some z =>
      obtain ⟨ob, e⟩ := G.alive (a := h'.objs.size) (by rw [q]; exact fun z => nomatch z)
      exact absurd (Heap.lt_size (k _ _ e)) (Nat.lt_irrefl _)
  have k' : ∀ b o, s.heap.get? b = some o → (h'.push { cls := .type "tuple", data := .seq xs.toArray }).get? b = some o := fun b o e => Heap.get?_push_of_some _ (k b o e)
  refine post_keep G k' ⟨rfl, rfl, rfl⟩ (.tup (IsTup.new _ _) hn hb ?_) h
  exact hv.step (kept_step G k') apart_no
theorem c_tuple_lst {vs : List V} (h : Q (.tup vs) σ) : CallV c n (.type "tuple") [.lst vs] σ Q := by
  intro A s xs R G I
  cases I with
  | cons I J =>
    cases J
    cases I with
    | lst ht hn hb hv => exact tup_of_list G ht hb hv h
theorem c_tuple_ref {a : Addr} {t : Nat} {vs : List V} (ha : σ a = some (.list t vs)) (h : Q (.tup vs) σ) : CallV c n (.type "tuple") [.ref a] σ Q := by
  intro A s xs R G I
  cases I with
  | cons I J =>
    cases J
    cases I
    obtain ⟨xs, ht, hb, hv⟩ := G.objs a _ ha
    exact tup_of_list G ht hb hv h

theorem keep_new {s : Shared} {h' : Heap} {a : Addr} {o : AO} (G : c.Good σ s.heap) (k : ∀ a o, s.heap.get? a = some o → h'.get? a = some o) (hn : s.heap.get? a = none) (ho : OIn c.prog c.w (upd σ a o) h' a o) (tk : Nat) :
    Step No σ s (upd σ a o) { s with heap := h', toks := tk } ∧ c.Good (upd σ a o) h' ∧ σ a = none := by
  have h0 : σ a = none := by
    cases q : σ a with
    | none => rfl
    | some z =>
      obtain ⟨ob, e⟩ := G.alive (a := a) (by rw [q]; exact fun z => nomatch z)
      rw [hn] at e; cases e
  have S : Step No σ s (upd σ a o) { s with heap := h', toks := tk } := by
    refine ⟨fun b x e _ _ => k b x e, fun b e _ => upd_ob e fun z => absurd h0 z.ne, fun b e => ?_, rfl, rfl, rfl⟩
    by_cases q : b = a
    · exact .inr (.inl (q ▸ hn))
    · exact .inl fun z => e (upd_ne q z)
  refine ⟨S, ⟨fun b x e => k b x (G.base b x e), fun b e => ?_, fun b x e => ?_⟩, h0⟩
  · by_cases q : b = a
    · cases z : c.h₀.get? b with
      | none => rfl
      | some o => have := G.base b o z; rw [q, hn] at this; cases this
    · exact G.off b fun z => e (upd_ne q z)
  · by_cases q : b = a
    · subst q; rw [upd_same] at e; cases e; exact ho
    · unfold Mine.upd at e; rw [if_neg q] at e
      exact OIn.step S apart_no (fun ob' e' => k b ob' e') (G.objs b x e)

/-- list(list), a new one that is turned later -/
theorem c_list_ref {a : Addr} {t : Nat} {vs : List V} (tg : Nat) (ha : σ a = some (.list t vs)) (h : ∀ b, σ b = none → Q (.ref b) (upd σ b (.list tg vs))) : CallV c n (.type "list") [.ref a] σ Q := by
  intro A s xs R G I
  cases I with
  | cons I J =>
    cases J
    cases I
    obtain ⟨xs, ⟨e, ht⟩, hb, hv⟩ := G.objs a _ ha
    refine call_list_seq (hsz := by simpa using big_size hb) _ (.inl rfl) ht rfl rfl fun h' c' k hn => ?_
    obtain ⟨S, G', h0⟩ := keep_new (o := .list tg vs) G k (Heap.get?_none_of_le (Nat.le_refl _)) ⟨xs, ⟨_, hn⟩, hb, hv.step (σ' := upd σ s.heap.objs.size (.list tg vs)) (s' := { s with heap := h' }) ⟨fun b x e _ _ => k b x e, fun b e _ => upd_ob e fun z => absurd (G.nofresh (Nat.le_refl _)) z.ne, fun b e => (by
      by_cases q : b = s.heap.objs.size
      · exact .inr (.inl (q ▸ Heap.get?_none_of_le (Nat.le_refl _)))
      · exact .inl fun z => e (upd_ne q z)), rfl, rfl, rfl⟩ apart_no⟩ s.toks
    exact ⟨_, .ref s.heap.objs.size, S, G', .ref ⟨_, upd_same, rfl⟩, h _ h0⟩
theorem c_list_rng {lo hi : Int} (hf : rfit lo hi) (h : Q (.lst (rl lo hi)) σ) : CallV c n (.type "list") [.rng lo hi] σ Q := by
  intro A s xs R G I
  obtain ⟨f1, f2, f3, f4⟩ := hf
  cases I with
  | cons I J =>
    cases J
    cases I with
    | rng hr hn =>
      refine call_list_range R.1 hr (small_one (by omega) (by omega) (by omega) (by omega)) rsize (by omega) fun h' tk acc c' k hn hi => ?_
      have hb : acc.toList.length ≤ big := by
        have := hi.1
        simp only [Array.length_toList, this]
        have : (big : Int) = 2 ^ 20 := by decide
        omega
      refine post_keep G k ⟨rfl, rfl, rfl⟩ (.lst (xs := acc.toList) ⟨_, by simpa using hn⟩ (G.nofresh (Nat.le_refl _)) hb ?_) h
      obtain ⟨hs, hi⟩ := hi
      have key : ∀ (xs : List Value) (k : Nat), (∀ j v, xs[j]? = some v → ∃ t, v = Value.int (lo + ((k + j : Nat) : Int)) t) → VAll σ h' ((List.range' k xs.length).map fun (k : Nat) => V.int (lo + k)) xs := by
        intro xs
        induction xs with
        | nil => intro k _; exact .nil
        | cons x xs ih =>
          intro k hx
          obtain ⟨t, rfl⟩ := hx 0 x rfl
          simp only [List.length_cons, List.range'_succ, List.map_cons]
          refine .cons (.int _ _) (ih (k + 1) fun j v e => ?_)
          obtain ⟨t, q⟩ := hx (j + 1) v (by simpa using e)
          exact ⟨t, by rw [q]; congr 2; omega⟩
      have := key acc.toList 0 fun j v e => by
        obtain ⟨t, q⟩ := hi j v (by simpa using e)
        exact ⟨t, by simpa using q⟩
      rw [← List.range_eq_range'] at this
      unfold rl
      simpa [hs] using this

/-- ints -/
theorem c_abs {a : Int} (h : Q (.int (if a < 0 then -a else a)) σ) : CallV c n (.builtin "abs") [.int a] σ Q := by
  intro A s xs R G I
  cases I with
  | cons I J =>
    cases J
    cases I
    exact call_abs_int fun u tk => post_keep G (fun _ _ e => e) ⟨rfl, rfl, rfl⟩ (.int _ _) h
theorem c_max {a b : Int} (h : Q (.int (max a b)) σ) : CallV c n (.builtin "max") [.int a, .int b] σ Q := by
  intro A s xs R G I
  cases I with
  | cons I J =>
    cases J with
    | cons J K =>
      cases K
      cases I; cases J
      refine max_two_ints R.1 fun h' tk k => ?_
      by_cases q : b > a
      · rw [if_pos q]; rw [Int.max_eq_right (by omega)] at h; exact post_keep G k ⟨rfl, rfl, rfl⟩ (.int _ _) h
      · rw [if_neg q]; rw [Int.max_eq_left (by omega)] at h; exact post_keep G k ⟨rfl, rfl, rfl⟩ (.int _ _) h
theorem c_min {a b : Int} (h : Q (.int (min a b)) σ) : CallV c n (.builtin "min") [.int a, .int b] σ Q := by
  intro A s xs R G I
  cases I with
  | cons I J =>
    cases J with
    | cons J K =>
      cases K
      cases I; cases J
      refine min_two_ints R.1 fun h' tk k => ?_
      by_cases q : b < a
      · rw [if_pos q]; rw [Int.min_eq_right (by omega)] at h; exact post_keep G k ⟨rfl, rfl, rfl⟩ (.int _ _) h
      · rw [if_neg q]; rw [Int.min_eq_left (by omega)] at h; exact post_keep G k ⟨rfl, rfl, rfl⟩ (.int _ _) h
theorem ints_are {h : Heap} : ∀ {ns : List Int} {xs : List Value}, VAll σ h (numV ns) xs → IntsAre xs ns
  | [], _, .nil => .nil
  | k :: ns, _, .cons I J => by cases I; exact .cons _ _ (ints_are J)
theorem are_ints {h : Heap} : ∀ {xs : List Value} {ns : List Int}, IntsAre xs ns → VAll σ h (numV ns) xs
  | _, _, .nil => .nil
  | _, _, .cons n t r => .cons (.int n t) (are_ints r)
theorem c_sum {ns : List Int} (h : Q (.int ns.sum) σ) : CallV c n (.builtin "sum") [.lst (numV ns)] σ Q := by
  intro A s xs R G I
  cases I with
  | cons I J =>
    cases J
    cases I with
    | lst ht hn hb hv =>
      have hi := ints_are hv
      obtain ⟨ys, e⟩ := hi.allInts.items
      have hl := ht.isList
      rw [e] at hl
      refine sum_intListG R.1 hl fun h' tk t' k => ?_
      have e2 : preSum (numAt ys) ys.size = ns.sum := by
        rw [preSum_eq, List.take_of_length_le (by simp), ← nums_intItems, ← e]
        simp [hi.numsOf]
      rw [e2]
      exact post_keep G k ⟨rfl, rfl, rfl⟩ (.int _ _) h
theorem c_sorted {ns : List Int} (h64 : ns.length < 64) (h : ∀ ns' : List Int, ns'.Perm ns → ns'.Pairwise (· ≤ ·) → Q (.lst (numV ns')) σ) {v : V} (hv : v = .lst (numV ns) ∨ ∃ a t, v = .ref a ∧ σ a = some (.list t (numV ns))) : CallV c n (.builtin "sorted") [v] σ Q := by
  intro A s xs R G I
  have fin : ∀ (a : Addr) (xs : List Value), s.heap.PlainList a xs.toArray → VAll σ s.heap (numV ns) xs → wpAny c.M A (call (.builtin "sorted") [.ref a]) (Post c σ s Q) Ef s := by
    intro a xs ht hv
    have hlen := hv.length
    refine sorted_ints ht.isList (ints_are hv) (by rw [← hlen]; simpa [numV] using h64) fun out ns' a1 a2 a3 => ?_
    obtain ⟨e, he⟩ := sortedAll_at s.heap xs out
    refine post_keep G (fun _ _ => sortedAll_old) ⟨rfl, rfl, rfl⟩ (.lst (xs := out.toList) ⟨_, by simpa using he⟩ (G.nofresh (Nat.le_succ _)) ?_ (are_ints a1)) (h ns' a2 a3)
    have h1 := (are_ints (σ := σ) (h := s.heap) a1).length
    have h2 := a2.length_eq
    have : 64 ≤ big := by decide
    simp only [numV, List.length_map] at h1
    omega
  cases I with
  | cons I J =>
    cases J
    rcases hv with rfl | ⟨a, t, rfl, ha⟩
    · cases I with
      | lst ht hn hb hv => exact fin _ _ ht hv
    · cases I
      obtain ⟨xs, ht, hb, hv⟩ := G.objs a _ ha
      exact fin a xs ht hv
end
end Mine
-- part MC
namespace Mine
open PySem PySem.W PySem.Calls PyProof.Rows

/-- a place of a sequence -/
def idx (vs : List V) (k : Int) : Option V := if 0 ≤ k then vs[k.toNat]? else if -(vs.length : Int) ≤ k then vs[(k + vs.length).toNat]? else none

theorem idx_at {σ : Sg} {h : Heap} {vs : List V} {xs : List Value} {k : Int} {v : V} (hv : VAll σ h vs xs) (e : idx vs k = some v) : ∃ j x, seqIndex? k xs.length = some j ∧ xs[j]? = some x ∧ VIn σ h v x := by
  have hl := hv.length
  unfold idx at e
  split at e
  · rename_i h0
    obtain ⟨x, hx, I⟩ := hv.get e
    have : k.toNat < xs.length := by
      rcases Nat.lt_or_ge k.toNat xs.length with q | q
      · exact q
      · rw [List.getElem?_eq_none q] at hx; cases hx
    exact ⟨_, x, seqIndex_of h0 (by omega), hx, I⟩
  · split at e
    · rename_i h0 h1
      obtain ⟨x, hx, I⟩ := hv.get e
      exact ⟨_, x, seqIndex_neg (by omega) (by omega), by rw [← hl]; exact hx, I⟩
    · cases e

section
variable {c : Cx} {n : Nat} {sc : Scope} {ρ : Rho} {σ : Sg} {Q : V → Sg → Prop} {QB : Bool → Sg → Prop}

def SubV (c : Cx) (n : Nat) (value slice : Expr) (a b : V) (σ : Sg) (Q : V → Sg → Prop) : Prop :=
  ∀ A s x y, Room n A → c.Good σ s.heap → VIn σ s.heap a x → VIn σ s.heap b y → wpAny c.M A (subscriptTail value slice x y) (Post c σ s Q) Ef s

theorem ev_sub {o i : Expr} {pos : Pos} (h : EvE c n sc ρ σ o fun a σ₁ => EvE c n sc ρ σ₁ i fun b σ₂ => SubV c n o i a b σ₂ Q) : EvE c n sc ρ σ (.Subscript o i pos) Q := by
  intro A env s C
  refine Subscript_ (wmono (h A env s C) fun x s₁ ⟨σ₁, a, S, G, I, q⟩ => ?_)
  refine wmono (q A env s₁ (C.step S G)) fun y s₂ ⟨σ₂, b, S₂, G₂, I₂, q₂⟩ => ?_
  exact wmono (q₂ A s₂ x y C.room G₂ (I.step S₂ apart_no) I₂) fun _ _ => Post.trans (S.trans S₂)

theorem sub_tup {value slice : Expr} {vs : List V} {k : Int} {v : V} (hv : idx vs k = some v) (hk : k.natAbs < 2 ^ 20) (h : Q v σ) (hs : ∀ x y, subscripted slice false x y = operate [x, y] (getItem x y)) : SubV c n value slice (.tup vs) (.int k) σ Q := by
  intro A s x y R G I J
  cases J
  cases I with
  | tup ht hn hb hvs =>
    obtain ⟨j, z, e1, e2, I⟩ := idx_at hvs hv
    exact tail_any ht.typeIs slot_tuple_getitem.lookup (getItem_tuple ht (by omega) (by omega) (by simpa using e1) (by simpa using e2) (post_keep G (fun _ _ e => e) ⟨rfl, rfl, rfl⟩ I h)) (hs _ _)
theorem sub_list_at {value slice : Expr} {A : Around} {s : Shared} {a : Addr} {vs : List V} {xs : List Value} {k : Int} {t : Tok} {v : V} (G : c.Good σ s.heap) (ht : s.heap.PlainList a xs.toArray) (hvs : VAll σ s.heap vs xs) (hv : idx vs k = some v) (hk : k.natAbs < 2 ^ 20) (h : Q v σ)
    (hs : ∀ x y, subscripted slice false x y = operate [x, y] (getItem x y)) : wpAny c.M A (subscriptTail value slice (.ref a) (.int k t)) (Post c σ s Q) Ef s := by
  have hl := hvs.length
  unfold idx at hv
  split at hv
  · rename_i h0
    obtain ⟨x, hx, I⟩ := hvs.get hv
    exact tail_any ht.isList.typeIs slot_list_getitem.lookup (wpAny_getItem_list ht.isList h0 (by omega) (x := x) (by simpa using hx) (post_keep G (fun _ _ e => e) ⟨rfl, rfl, rfl⟩ I h)) (hs _ _)
  · split at hv
    · rename_i h0 h1
      obtain ⟨x, hx, I⟩ := hvs.get hv
      exact tail_any ht.isList.typeIs slot_list_getitem.lookup (wpAny_getItem_list_neg ht.isList (by omega) (by simp; omega) (by omega) (x := x) (by simpa [← hl] using hx) (post_keep G (fun _ _ e => e) ⟨rfl, rfl, rfl⟩ I h)) (hs _ _)
    · cases hv
theorem sub_lst {value slice : Expr} {vs : List V} {k : Int} {v : V} (hv : idx vs k = some v) (hk : k.natAbs < 2 ^ 20) (h : Q v σ) (hs : ∀ x y, subscripted slice false x y = operate [x, y] (getItem x y)) : SubV c n value slice (.lst vs) (.int k) σ Q := by
  intro A s x y R G I J
  cases J
  cases I with
  | lst ht hn hb hvs => exact sub_list_at G ht hvs hv hk h hs
theorem sub_ref {value slice : Expr} {a : Addr} {t : Nat} {vs : List V} {k : Int} {v : V} (ha : σ a = some (.list t vs)) (hv : idx vs k = some v) (hk : k.natAbs < 2 ^ 20) (h : Q v σ) (hs : ∀ x y, subscripted slice false x y = operate [x, y] (getItem x y)) : SubV c n value slice (.ref a) (.int k) σ Q := by
  intro A s x y R G I J
  cases J
  cases I
  obtain ⟨xs, ht, hb, hvs⟩ := G.objs a _ ha
  exact sub_list_at G ht hvs hv hk h hs

theorem val_at {K' : Type} [DecidableEq K'] {h : Heap} : ∀ {es : List (K' × V)} {kvs : List (K' × Value)} {k : K'}, kvs.map (·.1) = es.map (·.1) → VAll σ h (es.map (·.2)) (kvs.map (·.2)) →
    (∀ v, (es.find? fun kv => kv.1 = k).map (·.2) = some v → ∃ x, valueAt kvs k = some x ∧ VIn σ h v x) ∧ ((es.find? fun kv => kv.1 = k) = none → valueAt kvs k = none)
  | [], [], k, _, _ => ⟨fun v e => by simp at e, fun _ => rfl⟩
  | [], _ :: _, _, e, _ => by simp at e
  | _ :: _, [], _, e, _ => by simp at e
  | a :: es, b :: kvs, k, e, I => by
    simp only [List.map_cons, List.cons.injEq] at e
    cases I with
    | cons i r =>
      obtain ⟨p, q⟩ := val_at (k := k) e.2 r
      unfold valueAt
      by_cases z : a.1 = k
      · have z' : b.1 = k := e.1.trans z
        simp only [List.find?_cons, z, z', decide_true, Option.map_some]
        exact ⟨fun v e => by cases e; exact ⟨_, rfl, i⟩, fun e => by cases e⟩
      · have z' : ¬ b.1 = k := fun w => z (e.1.symm.trans w)
        simp only [List.find?_cons, z, z', decide_false]
        exact ⟨p, q⟩
theorem sub_sdict {value slice : Expr} {a : Addr} {t : Nat} {es : List (Str × V)} {k : Str} {v : V} (ha : σ a = some (.sdict t es)) (hv : (es.find? fun kv => kv.1 = k).map (·.2) = some v) (h : Q v σ) (hs : ∀ x y, subscripted slice false x y = operate [x, y] (getItem x y)) : SubV c n value slice (.ref a) (.str k) σ Q := by
  intro A s x y R G I J
  cases J
  cases I
  rename_i tk _
  obtain ⟨kvs, hd, hb, hk, hvs, hsys⟩ := G.objs a _ ha
  obtain ⟨x, e, I⟩ := (val_at (k := k) hk hvs).1 v hv
  exact tail_any hd.mapOf.typeIs slot_dict_getitem.lookup (wpAny_getItem_of (knd := PySem.strKind c.prog c.w) (k := k) (strKind_is _ _ _ _) hd.mapOf e (post_keep G (fun _ _ e => e) ⟨rfl, rfl, rfl⟩ I h)) (hs _ _)

/-- slices -/
def EvP (c : Cx) (n : Nat) (sc : Scope) (ρ : Rho) (σ : Sg) (e : Option Expr) (Q : Option Int → Sg → Prop) : Prop :=
  ∀ A env s, Co c n sc ρ σ A env s → wpAny c.M A (evalPart e env) (fun x s' => ∃ σ' k, Step No σ s σ' s' ∧ c.Good σ' s'.heap ∧ IsPart x k ∧ Q k σ') Ef s
theorem ep_none {Q : Option Int → Sg → Prop} (h : Q none σ) : EvP c n sc ρ σ none Q := by
  intro A env s C
  rw [evalPart_none]
  exact wpAny_pure ⟨σ, none, Step.refl _ _, C.good, .none, h⟩
theorem ep_some {e : Expr} {Q : Option Int → Sg → Prop} (h : EvE c n sc ρ σ e fun v σ' => ∃ k, v = .int k ∧ Q (some k) σ') : EvP c n sc ρ σ (some e) Q := by
  intro A env s C
  rw [evalPart_some]
  refine wmono (h A env s C) fun x s' ⟨σ', v, S, G, I, k, e, q⟩ => ?_
  subst e
  cases I
  exact ⟨σ', some k, S, G, .int _ _, q⟩

/-- the bounds of the slices that are cut here: none of them counts from behind -/
def cut (vs : List V) (lo hi : Option Int) : Option (List V) :=
  match lo, hi with
  | none, some b => if 0 ≤ b then some (vs.take b.toNat) else none
  | some a, none => if 0 ≤ a then some (vs.drop a.toNat) else none
  | _, _ => none
theorem cut_is {h : Heap} {vs ws : List V} {xs : List Value} {lo hi : Option Int} (hv : VAll σ h vs xs) (e : cut vs lo hi = some ws) : VAll σ h ws (slicePick xs.toArray lo hi none).toList ∧ ws.length ≤ vs.length := by
  unfold cut at e
  split at e
  · rename_i b
    split at e
    · cases e
      rename_i h0
      have e1 : slicePick xs.toArray none (some b) none = slicePick xs.toArray (some ((0 : Nat) : Int)) (some ((min b.toNat xs.length : Nat) : Int)) none := by
        unfold slicePick
        have : sliceBounds none (some b) none xs.toArray.size = sliceBounds (some ((0 : Nat) : Int)) (some ((min b.toNat xs.length : Nat) : Int)) none xs.toArray.size := by
          simp only [sliceBounds, Option.getD_none, List.size_toArray]
          have h1 : ¬ (b < 0) := by omega
          have h2 : ¬ (((min b.toNat xs.length : Nat) : Int) < 0) := by omega
          have h3 : ¬ (((0 : Nat) : Int) < 0) := by omega
          simp only [h1, h2, h3, if_false, show (1 : Int) > 0 by decide, if_true]
          simp only [Prod.mk.injEq]
          exact ⟨by omega, by omega, trivial⟩
        rw [this]
      rw [e1, slicePick_run _ _ _ (by simp; omega) (Nat.zero_le _)]
      have := hv.take b.toNat
      refine ⟨?_, by simp; omega⟩
      have e2 : xs.take (min b.toNat xs.length) = xs.take b.toNat := List.take_eq_take_iff.mpr (by omega)
      simpa [e2] using this
    · cases e
  · rename_i a
    split at e
    · cases e
      rename_i h0
      have e1 : slicePick xs.toArray (some a) none none = slicePick xs.toArray (some ((min a.toNat xs.length : Nat) : Int)) (some ((xs.length : Nat) : Int)) none := by
        unfold slicePick
        have : sliceBounds (some a) none none xs.toArray.size = sliceBounds (some ((min a.toNat xs.length : Nat) : Int)) (some ((xs.length : Nat) : Int)) none xs.toArray.size := by
          simp only [sliceBounds, Option.getD_none, List.size_toArray]
          have h1 : ¬ (a < 0) := by omega
          have h2 : ¬ (((min a.toNat xs.length : Nat) : Int) < 0) := by omega
          have h3 : ¬ (((xs.length : Nat) : Int) < 0) := by omega
          simp only [h1, h2, h3, if_false, show (1 : Int) > 0 by decide, if_true]
          simp only [Prod.mk.injEq]
          exact ⟨by omega, by omega, trivial⟩
        rw [this]
      rw [e1, slicePick_run _ _ _ (by simp) (by omega)]
      have := hv.drop a.toNat
      refine ⟨?_, by simp⟩
      have e2 : (xs.drop (min a.toNat xs.length)).take (xs.length - min a.toNat xs.length) = xs.drop a.toNat := by
        rw [List.take_of_length_le (by simp)]
        rcases Nat.le_total a.toNat xs.length with q | q
        · rw [Nat.min_eq_left q]
        · rw [Nat.min_eq_right q, List.drop_eq_nil_of_le q, List.drop_eq_nil_of_le (Nat.le_refl _)]
      simpa [e2] using this
    · cases e
  · cases e

/-- the list under a value -/
def seqOf (σ : Sg) (v : V) (vs : List V) : Prop := v = .lst vs ∨ ∃ a t, v = .ref a ∧ σ a = some (.list t vs)
theorem seqOf.at {v : V} {vs : List V} {s : Shared} {x : Value} (H : seqOf σ v vs) (G : c.Good σ s.heap) (I : VIn σ s.heap v x) : ∃ a xs, x = .ref a ∧ s.heap.PlainList a xs.toArray ∧ xs.length ≤ big ∧ VAll σ s.heap vs xs := by
  rcases H with rfl | ⟨a, t, rfl, ha⟩
  · cases I with
    | lst ht hn hb hv => exact ⟨_, _, rfl, ht, hb, hv⟩
  · cases I
    obtain ⟨xs, ht, hb, hv⟩ := G.objs a _ ha
    exact ⟨a, xs, rfl, ht, hb, hv⟩

theorem ev_slice_core {value : Expr} {lower upper : Option Expr} {p pos : Pos} (K : V → List V → Sg → Prop)
    (hK : ∀ A s v vs σ (k : Tok), c.Good σ s.heap → ∀ xs, VAll σ s.heap vs xs → xs.length ≤ big → K v vs σ → Room n A → Post c σ s Q (.ref s.heap.objs.size) { s with heap := s.heap.push { cls := .type "list", data := .seq xs.toArray } })
    (h : EvE c n sc ρ σ value fun a σ₁ => EvP c n sc ρ σ₁ lower fun lo σ₂ => EvP c n sc ρ σ₂ upper fun hi σ₃ => ∃ vs ws, seqOf σ₃ a vs ∧ cut vs lo hi = some ws ∧ K a ws σ₃) :
    EvE c n sc ρ σ (.Subscript value (.Slice lower upper none p) pos) Q := by
  intro A env s C
  refine Subscript_ (wmono (h A env s C) fun x s₁ ⟨σ₁, a, S, G, I, q⟩ => ?_)
  refine wpAny_Slice (wmono (q A env s₁ (C.step S G)) fun vl s₂ ⟨σ₂, lo, S₂, G₂, pl, q₂⟩ => wmono (q₂ A env s₂ ((C.step S G).step S₂ G₂)) fun vu s₃ ⟨σ₃, hi, S₃, G₃, pu, vs, ws, hs, hc, hk⟩ => ?_)
  rw [evalPart_none]
  refine wpAny_pure ?_
  obtain ⟨l, xs, rfl, ht, hb, hv⟩ := hs.at G₃ ((I.step S₂ apart_no).step S₃ apart_no)
  have hl := ht.isList
  refine tail_any (Heap.IsList.typeIs (s := { s₃ with heap := s₃.heap.push { cls := .type "slice", data := .fields #[vl, vu, .none] } }) (hl.push _)) list_getitem_lookup (ops := [.ref s₃.heap.objs.size, .ref l])
    (wpAny_getItem_list_slice (hl.push _) (Heap.IsSliceOf.new ..) pl pu .none (by simp) ?_ (by simpa using big_size hb)) rfl
  have T : Step No σ₃ s₃ σ₃ { s₃ with heap := s₃.heap.push { cls := .type "slice", data := .fields #[vl, vu, .none] } } := push_step _
  have G₄ := G₃.push { cls := .type "slice", data := .fields #[vl, vu, .none] }
  obtain ⟨hw, hwl⟩ := cut_is (hv.step T apart_no) hc
  have hlen := hw.length
  have hlen2 := hv.length
  have := hK A { s₃ with heap := s₃.heap.push { cls := .type "slice", data := .fields #[vl, vu, .none] } } a ws σ₃ 0 G₄ _ hw (by rw [← hlen]; omega) hk C.room
  exact Post.trans (((S.trans S₂).trans S₃).trans T) this
theorem ev_slice {value : Expr} {lower upper : Option Expr} {p pos : Pos}
    (h : EvE c n sc ρ σ value fun a σ₁ => EvP c n sc ρ σ₁ lower fun lo σ₂ => EvP c n sc ρ σ₂ upper fun hi σ₃ => ∃ vs ws, seqOf σ₃ a vs ∧ cut vs lo hi = some ws ∧ Q (.lst ws) σ₃) :
    EvE c n sc ρ σ (.Subscript value (.Slice lower upper none p) pos) Q :=
  ev_slice_core (fun _ ws σ => Q (.lst ws) σ) (fun A s v vs σ k G xs I hl q R => post_lst G I (I.length ▸ hl) q s.toks) h
theorem ev_mslice {value : Expr} {lower upper : Option Expr} {p pos : Pos} (tg : Nat)
    (h : EvE c n sc ρ σ value fun a σ₁ => EvP c n sc ρ σ₁ lower fun lo σ₂ => EvP c n sc ρ σ₂ upper fun hi σ₃ => ∃ vs ws, seqOf σ₃ a vs ∧ cut vs lo hi = some ws ∧ ∀ b, σ₃ b = none → Q (.ref b) (upd σ₃ b (.list tg ws))) :
    EvE c n sc ρ σ (.Subscript value (.Slice lower upper none p) pos) Q :=
  ev_slice_core (fun _ ws σ => ∀ b, σ b = none → Q (.ref b) (upd σ b (.list tg ws))) (fun A s v vs σ k G xs I hl q R => post_mlst G I (I.length ▸ hl) q s.toks) h
end
end Mine
-- part ME
namespace Mine
open PySem PySem.W PySem.Calls PyProof.Rows

section
variable {c : Cx} {n : Nat} {sc : Scope} {ρ : Rho} {σ : Sg} {Q : V → Sg → Prop} {QB : Bool → Sg → Prop}

/-- methods of lists and dicts -/
theorem meth_list {a : Addr} {t : Nat} {vs : List V} {name : Str} {id : String} (ha : σ a = some (.list t vs)) (slot : Slot "list" name id) (ty : typeOf (.builtin id) = pure (.type "method_descriptor")) : MethV c n name (.ref a) σ (.builtin id) := by
  intro A s x pl Q R G I q
  cases I
  obtain ⟨xs, ⟨e, ht⟩, hb, hv⟩ := G.objs a _ ha
  exact getMethod_builtin (T := "list") ⟨_, ht, rfl⟩ PySem.F.plainAttrs_list slot ty (fun b e => by cases e; exact ⟨_, ht, rfl⟩) q
theorem meth_append {a : Addr} {t : Nat} {vs : List V} (ha : σ a = some (.list t vs)) : MethV c n "append" (.ref a) σ (.builtin "list.append") := meth_list ha slot_list_append PySem.F.type_list_append
theorem meth_pop {a : Addr} {t : Nat} {vs : List V} (ha : σ a = some (.list t vs)) : MethV c n "pop" (.ref a) σ (.builtin "list.pop") := meth_list ha PySem.F.slot_list_pop PySem.F.type_list_pop
theorem meth_extend {a : Addr} {t : Nat} {vs : List V} (ha : σ a = some (.list t vs)) : MethV c n "extend" (.ref a) σ (.builtin "list.extend") := meth_list ha PySem.F.slot_list_extend PySem.F.type_list_extend
theorem meth_idict {a : Addr} {t : Nat} {es : List (Int × V)} {name : Str} {id : String} (ha : σ a = some (.idict t es)) (slot : Slot "dict" name id) (ty : typeOf (.builtin id) = pure (.type "method_descriptor")) : MethV c n name (.ref a) σ (.builtin id) := by
  intro A s x pl Q R G I q
  cases I
  obtain ⟨kvs, ⟨o, es', ep, ho, hx, r⟩, hb, hk, hv, hsys⟩ := G.objs a _ ha
  exact getMethod_builtin (T := "dict") ⟨_, ho, hx.1⟩ PySem.F.plainAttrs_dict slot ty (fun b e => by cases e; exact ⟨_, ho, hx.2.1⟩) q
theorem meth_get {a : Addr} {t : Nat} {es : List (Int × V)} (ha : σ a = some (.idict t es)) : MethV c n "get" (.ref a) σ (.builtin "dict.get") := meth_idict ha PySem.F.slot_dict_get PySem.F.type_dict_get
theorem meth_setdefault {a : Addr} {t : Nat} {es : List (Int × V)} (ha : σ a = some (.idict t es)) : MethV c n "setdefault" (.ref a) σ (.builtin "dict.setdefault") := meth_idict ha PySem.F.slot_dict_setdefault PySem.F.type_dict_setdefault

theorem c_append {a : Addr} {t : Nat} {vs : List V} {v : V} (ha : σ a = some (.list t vs)) (hb : vs.length < big) (h : Q .none (upd σ a (.list t (vs ++ [v])))) : CallV c n (.builtin "list.append") [.ref a, v] σ Q := by
  intro A s xs R G I
  cases I with
  | cons I J =>
    cases J with
    | cons J K =>
      cases K
      cases I
      refine wmono (append_step (ob := AO.list t) G ha J hb (fun _ _ _ _ => Iff.rfl) fun _ _ => rfl) fun r s' ⟨e, S, G'⟩ => ?_
      subst e
      exact ⟨_, .none, S, G', .none, h⟩

theorem c_pop {a : Addr} {t : Nat} {vs : List V} {v : V} (ha : σ a = some (.list t (vs ++ [v]))) (h : Q v (upd σ a (.list t vs))) : CallV c n (.builtin "list.pop") [.ref a] σ Q := by
  intro A s xs R G I
  cases I with
  | cons I J =>
    cases J
    cases I
    rename_i hob
    obtain ⟨xs, ⟨e, ht⟩, hb, hv⟩ := G.objs a _ ha
    have hlen := hv.length
    simp only [List.length_append, List.length_cons, List.length_nil] at hlen
    obtain ⟨y, hy, I⟩ := hv.get (k := vs.length) (v := v) (by simp)
    refine call_meets PySem.F.slot_list_pop ⟨_, ht, rfl⟩ PySem.F.entry_list_pop (PySem.F.args_list_pop_1 _) (PySem.MeetsSeq.list_pop_last a xs.toArray e y (by simpa [← hlen] using hy) (by simpa using big_size hb)) ⟨ht, ?_⟩
    have hs := Heap.SameBut.update s.heap a (Obj.mapSeq fun ys => ys.eraseIdxIfInBounds (xs.toArray.size - 1))
    have hg := Heap.get?_update_self (Obj.mapSeq fun ys => ys.eraseIdxIfInBounds (xs.toArray.size - 1)) ht rfl
    have S : Step No σ s (upd σ a (.list t vs)) { s with heap := s.heap.update a (Obj.mapSeq fun ys => ys.eraseIdxIfInBounds (xs.toArray.size - 1)) } := upd_step hob.ne (fun _ => rfl) hs _
    have hlt : vs.length < xs.length := by omega
    have key : xs.toArray.eraseIdxIfInBounds (xs.toArray.size - 1) = (xs.take vs.length).toArray := by
      rw [List.eraseIdxIfInBounds_toArray]
      congr 1
      rw [List.size_toArray, ← hlen, List.eraseIdx_eq_take_drop_succ]
      rw [List.drop_eq_nil_of_le (by omega)]
      simp
    obtain ⟨k, hk⟩ : ∃ k, Obj.mapSeq (fun ys => ys.eraseIdxIfInBounds (xs.toArray.size - 1)) { cls := .type "list", data := .seq xs.toArray e } = { cls := .type "list", data := .seq (xs.take vs.length).toArray k } := by
      unfold Obj.mapSeq
      dsimp only
      rw [key]
      exact ⟨_, rfl⟩
    have hv' : VAll σ s.heap vs (xs.take vs.length) := by simpa using hv.take vs.length
    exact ⟨_, v, S, G.upd hob.ne (fun _ => rfl) hs ⟨xs.take vs.length, ⟨k, by rw [← hk]; exact hg⟩, by simp; omega, hv'.step S apart_no⟩, I.step S apart_no, h⟩

/-- extend by a range -/
theorem ext_loop {prog : Program} {w : World} {A : Around} {R : Result → Shared → Prop} (hh : A.handled = none) (S I : Addr) (res : Value) (hSI : S ≠ I) : ∀ (left : Nat) (x : Int) (s : Shared) (xs : List Value), s.heap.PlainList S xs.toArray → IsRangeIter s.heap I x (left : Nat) 1 → xs.length + left ≤ big →
    (∀ h' tk ys, (∀ b o, b ≠ S → b ≠ I → s.heap.get? b = some o → h'.get? b = some o) → h'.PlainList S (xs ++ ys).toArray → IntsAre ys ((List.range left).map fun (k : Nat) => x + k) → R (.ok (.ret res)) { s with heap := h', toks := tk }) →
    codeAny (model prog w) A (.builtin "list.extend.loop" ⟨[.ref S, .ref I, res], []⟩) R s := by
  intro left
  induction left with
  | zero =>
    intro x s xs hS hI hb hR
    refine codeAny_builtin PySem.F.entry_extend_loop ?_
    rw [Around.under_plainId PySem.F.plain_extend_loop _]
    show wpAny _ A.in1 (pyNext (.ref I) >>= _) _ _ s
    refine wpAny_bind (wpAny_pyNext_range_end hh hI (by simp) fun h' hs => wpAny_pure ?_)
    obtain ⟨k, ho⟩ := hS
    exact hR h' s.toks [] (fun b o _ hb e => hs b o hb e) ⟨k, hs _ _ hSI (by simpa using ho)⟩ .nil
  | succ left ih =>
    intro x s xs hS hI hb hR
    refine codeAny_builtin PySem.F.entry_extend_loop ?_
    rw [Around.under_plainId PySem.F.plain_extend_loop _]
    show wpAny _ A.in1 (pyNext (.ref I) >>= _) _ _ s
    refine wpAny_bind (wpAny_pyNext_range_item hI (by omega) fun h' hit' hs => ?_)
    obtain ⟨k, ho⟩ := hS
    have ho' : h'.get? S = some { cls := .type "list", data := .seq xs.toArray k } := (hs.2 S hSI).trans ho
    show wpAny _ A.in1 (updateSeq S (·.push (.int x s.toks)) >>= _) _ _ _
    refine wpAny_bind (wpAny_updateSeq ho' rfl (wpAny_pure ⟨plainId_quiet PySem.F.plain_extend_loop _, ih (x + 1) _ (xs ++ [.int x s.toks]) ?_ ?_ (by simp; omega) fun h'' tk ys hk hS'' hi => ?_⟩) (by have := big_size (k := xs.length) (by omega); simpa using this) (by have := big_size (k := xs.length + 1) (by omega); simp; omega))
    · have hg := Heap.get?_update_self (Obj.mapSeq (·.push (Value.int x s.toks))) ho' rfl
      obtain ⟨k', hk'⟩ : ∃ k', Obj.mapSeq (·.push (Value.int x s.toks)) { cls := .type "list", data := .seq xs.toArray k } = { cls := .type "list", data := .seq (xs ++ [Value.int x s.toks]).toArray k' } := by
        unfold Obj.mapSeq
        dsimp only
        rw [List.push_toArray]
        exact ⟨_, rfl⟩
      exact ⟨k', by rw [← hk']; exact hg⟩
    · have : ((left + 1 : Nat) : Int) - 1 = (left : Int) := by omega
      rw [this] at hit'
      exact (Heap.get?_update_other _ _ hSI).trans hit'
    · refine hR h'' tk (.int x s.toks :: ys) (fun b o hb1 hb2 e => hk b o hb1 hb2 ((Heap.get?_update_other _ _ (Ne.symm hb1)).trans ((hs.2 b hb2).trans e))) (by simpa using hS'') ?_
      rw [List.range_succ_eq_map]
      simp only [List.map_cons, List.map_map]
      have e : (List.map ((fun (k : Nat) => x + (k : Int)) ∘ Nat.succ) (List.range left)) = (List.range left).map fun (k : Nat) => x + 1 + (k : Int) := by
        refine List.map_congr_left fun j _ => ?_
        show x + ((j + 1 : Nat) : Int) = _
        omega
      rw [e]
      have : IntsAre (Value.int x s.toks :: ys) (x :: (List.range left).map fun (k : Nat) => x + 1 + (k : Int)) := .cons _ _ hi
      simpa using this

theorem extend_step {A : Around} {s : Shared} {l r : Addr} {t : Nat} {vs : List V} {lo hi : Int} {tt tu tv : Tok} (hh : A.handled = none) (hf : rfit lo hi) (G : c.Good σ s.heap) (hl : σ l = some (.list t vs)) (hb : vs.length + (hi - lo).toNat ≤ big) (hr : IsRange s.heap r lo hi 1 tt tu tv) (hn : σ r = none) :
    wpAny c.M A (call (.builtin "list.extend") [.ref l, .ref r]) (fun x s' => x = .none ∧ Step No σ s (upd σ l (.list t (vs ++ rl lo hi))) s' ∧ c.Good (upd σ l (.list t (vs ++ rl lo hi))) s'.heap) Ef s := by
  obtain ⟨xs, hp, hbx, hv⟩ := G.objs l _ hl
  obtain ⟨f1, f2, f3, f4⟩ := hf
  have hlen := hv.length
  have hS : ∃ k, s.heap.get? l = some { cls := .type "list", data := .seq xs.toArray k } := hp
  obtain ⟨k₀, hS⟩ := hS
  have hSr : l ≠ r := by rintro rfl; rw [hl] at hn; cases hn
  have hSI : l ≠ s.heap.objs.size := Nat.ne_of_lt (Heap.lt_size hS)
  have hne : σ l ≠ none := by rw [hl]; exact fun z => nomatch z
  have hT : s.TypeIs (.ref l) "list" := ⟨_, hS, rfl⟩
  have W := new_step (o := AO.giter 0 0) G { cls := .type "range_iterator", data := .fields #[rawInt lo, rawInt ((hi - lo).toNat : Nat), rawInt 1] }
  have key : ∀ (h₁ : Heap) (tk₁ : Nat), (∀ b o, b ≠ l → b ≠ s.heap.objs.size → s.heap.get? b = some o → h₁.get? b = some o) → h₁.PlainList l xs.toArray → IsRangeIter h₁ s.heap.objs.size lo (((hi - lo).toNat : Nat) : Int) 1 →
      codeAny c.M A (.builtin "list.extend.loop" ⟨[.ref l, .ref s.heap.objs.size, .none], []⟩) (fun r s' => ∃ x, r = .ok (.ret x) ∧ x = .none ∧ Step No σ s (upd σ l (.list t (vs ++ rl lo hi))) s' ∧ c.Good (upd σ l (.list t (vs ++ rl lo hi))) s'.heap) { s with heap := h₁, toks := tk₁ } := by
    intro h₁ tk₁ hk hp₁ hit
    refine ext_loop hh l s.heap.objs.size .none hSI (hi - lo).toNat lo _ xs hp₁ hit (by omega) fun h' tk ys hk' hp' hi' => ⟨.none, rfl, rfl, ?_⟩
    have k : ∀ b o, b ≠ l → s.heap.get? b = some o → h'.get? b = some o := fun b o hb e => hk' b o hb (Nat.ne_of_lt (Heap.lt_size e)) (hk b o hb (Nat.ne_of_lt (Heap.lt_size e)) e)
    have S : Step No σ s (upd σ l (.list t (vs ++ rl lo hi))) { s with heap := h', toks := tk } := by
      refine ⟨fun b o e nn _ => k b o (fun q => hne (q ▸ nn)) e, fun b e _ => upd_ob e fun _ => rfl, fun b e => ?_, rfl, rfl, rfl⟩
      by_cases q : b = l
      · exact .inl (q ▸ hne)
      · exact .inl fun z => e (upd_ne q z)
    refine ⟨S, ⟨fun b o e => k b o (fun q => ?_) (G.base b o e), fun b e => ?_, fun b o e => ?_⟩⟩
    · subst q; exact hne (G.out e)
    · by_cases q : b = l
      · exact G.off b (q ▸ hne)
      · exact G.off b fun z => e (upd_ne q z)
    · by_cases q : b = l
      · subst q; rw [upd_same] at e; cases e
        have hl2 := hi'.length
        refine ⟨xs ++ ys, hp', ?_, (hv.step S apart_no).append ?_⟩
        · simp at hl2 ⊢; omega
        · have := are_ints (σ := upd σ b (.list t (vs ++ rl lo hi))) (h := h') hi'
          unfold numV at this
          rw [List.map_map] at this
          exact this
      · unfold Mine.upd at e; rw [if_neg q] at e
        exact OIn.step S apart_no (fun ob' e' => k b ob' q e') (G.objs b o e)
  refine wpAny_call (codeAny_call_builtin PySem.F.slot_list_extend.plain PySem.F.entry_list_extend (PySem.F.slot_list_extend.check _ _ _ _ _ _ _ _ hT (PySem.F.args_list_extend_2 _ _) ?_))
  show wpAny c.M A.in1 (Builtin.List.listExtendWith (.ref l) (.ref r) .none) _ _ s
  unfold Builtin.List.listExtendWith
  refine wpAny_bind (wpAny_typeOf (T := "range") ⟨_, hr, rfl⟩ ?_)
  have h1 : Builtin.List.listSameRef (.ref l) (.ref r) = false := by simp [Builtin.List.listSameRef, hSr]
  have h2 : (Value.type "range" == Value.type "list") = false := by decide
  have h3 : (Value.type "range" == Value.type "tuple") = false := by decide
  simp only [h1, h2, h3, Bool.or_false, Bool.false_eq_true, if_false]
  refine wpAny_bind (wpAny_pyIter_range hr (small_one (by omega) (by omega) (by omega) (by omega)) ?_)
  refine wpAny_bind (wpAny_holding (wpAny_hint_range (n := (hi - lo).toNat) (Heap.get?_push_of_some _ hr) rsize (by omega) ?_))
  rw [rsize]
  have hit₁ := Heap.get?_push_size s.heap (o := { cls := .type "range_iterator", data := .fields #[rawInt lo, rawInt ((hi - lo).toNat : Nat), rawInt 1] }) rfl
  have hS₁ := Heap.get?_push_of_some { cls := .type "range_iterator", data := .fields #[rawInt lo, rawInt ((hi - lo).toNat : Nat), rawInt 1] } hS
  refine wpAny_ite_split (fun _ => ?_) (fun _ => wpAny_pure ⟨plainId_quiet PySem.F.plain_extend_loop _, codeAny_mono (key _ _ (fun b o _ _ e => Heap.get?_push_of_some _ e) ⟨_, hS₁⟩ hit₁) fun r s' ⟨x, e, z⟩ => ?_⟩)
  · refine wpAny_bind (wpAny_rule ?_)
    refine wpAny_bind ?_
    show wpAny _ _ (updateSeq l (·.push .none) >>= fun _ => updateSeq l (·.pop)) _ _ _
    refine wpAny_bind (wpAny_updateSeq hS₁ rfl ?_ (by have := big_size hbx; simpa using this) (by have := big_size hbx; simp; omega))
    have hS₂ := Heap.get?_update_self (Obj.mapSeq (·.push Value.none)) hS₁ rfl
    obtain ⟨k₁, e₁⟩ : ∃ k', Obj.mapSeq (·.push Value.none) { cls := .type "list", data := .seq xs.toArray k₀ } = { cls := .type "list", data := .seq (xs.toArray.push Value.none) k' } := by
      unfold Obj.mapSeq
      exact ⟨_, rfl⟩
    rw [e₁] at hS₂
    refine wpAny_updateSeq hS₂ rfl ?_ (by have := big_size (k := xs.length) hbx; have h4 : big + 1 ≤ sizeLine := by decide
                                          simp; omega) (by have := big_size hbx; simp; omega)
    have hS₃ := Heap.get?_update_self (Obj.mapSeq (·.pop)) hS₂ rfl
    obtain ⟨k₂, e₂⟩ : ∃ k', Obj.mapSeq (·.pop) { cls := .type "list", data := .seq (xs.toArray.push Value.none) k₁ } = { cls := .type "list", data := .seq xs.toArray k' } := by
      unfold Obj.mapSeq
      dsimp only
      rw [Array.pop_push]
      exact ⟨_, rfl⟩
    rw [e₂] at hS₃
    have oth : ∀ b o, b ≠ l → (s.heap.push { cls := .type "range_iterator", data := .fields #[rawInt lo, rawInt ((hi - lo).toNat : Nat), rawInt 1] }).get? b = some o → (((s.heap.push { cls := .type "range_iterator", data := .fields #[rawInt lo, rawInt ((hi - lo).toNat : Nat), rawInt 1] }).update l (Obj.mapSeq (·.push Value.none))).update l (Obj.mapSeq (·.pop))).get? b = some o :=
      fun b o hb e => (Heap.get?_update_other _ _ (Ne.symm hb)).trans ((Heap.get?_update_other _ _ (Ne.symm hb)).trans e)
    refine wpAny_pure ⟨plainId_quiet PySem.F.plain_extend_loop _, codeAny_mono (key _ _ (fun b o hb _ e => oth b o hb (Heap.get?_push_of_some _ e)) ⟨k₂, hS₃⟩ (oth _ _ (Ne.symm hSI) hit₁)) fun r s' ⟨x, e, z⟩ => ?_⟩
    subst e; exact z
  · subst e; exact z
theorem c_extend {l : Addr} {t : Nat} {vs : List V} {lo hi : Int} (hl : σ l = some (.list t vs)) (hf : rfit lo hi) (hb : vs.length + (hi - lo).toNat ≤ big) (h : Q .none (upd σ l (.list t (vs ++ rl lo hi)))) : CallV c n (.builtin "list.extend") [.ref l, .rng lo hi] σ Q := by
  intro A s xs R G I
  cases I with
  | cons I J =>
    cases J with
    | cons J K =>
      cases K
      cases I
      cases J with
      | rng hr hn =>
        exact wmono (extend_step R.1 hf G hl hb hr hn) fun x s' ⟨e, S, G'⟩ => e ▸ ⟨_, .none, S, G', .none, h⟩
end
end Mine
-- part MF
namespace Mine
open PySem PySem.W PySem.Calls PyProof.Rows

section
variable {c : Cx} {n : Nat} {sc : Scope} {ρ : Rho} {σ : Sg} {Q : V → Sg → Prop} {QB : Bool → Sg → Prop}

/-- two ghosts turned or made at once -/
theorem pair_step {s : Shared} {h' : Heap} {a b : Addr} {o₁ o₂ : AO} (G : c.Good σ s.heap) (hab : a ≠ b) (k : ∀ x o, x ≠ a → x ≠ b → s.heap.get? x = some o → h'.get? x = some o)
    (hob : Ob σ a ∨ Ob σ b → (Ob σ a → o₂.it = false) ∧ (Ob σ b → o₁.it = false)) (ha : σ a ≠ none ∨ s.heap.get? a = none) (hb : σ b ≠ none ∨ s.heap.get? b = none)
    (h₁ : Step No σ s (upd (upd σ b o₁) a o₂) { s with heap := h' } → OIn c.prog c.w (upd (upd σ b o₁) a o₂) h' b o₁) (h₂ : Step No σ s (upd (upd σ b o₁) a o₂) { s with heap := h' } → OIn c.prog c.w (upd (upd σ b o₁) a o₂) h' a o₂) (tk : Nat) :
    Step No σ s (upd (upd σ b o₁) a o₂) { s with heap := h', toks := tk } ∧ c.Good (upd (upd σ b o₁) a o₂) h' := by
  have S : Step No σ s (upd (upd σ b o₁) a o₂) { s with heap := h' } := by
    refine ⟨fun x o e n _ => k x o ?_ ?_ e, fun x e _ => ?_, fun x e => ?_, rfl, rfl, rfl⟩
    · rintro rfl; rcases ha with z | z
      · exact z n
      · rw [z] at e; cases e
    · rintro rfl; rcases hb with z | z
      · exact z n
      · rw [z] at e; cases e
    · by_cases q : x = a
      · subst q; exact ⟨o₂, upd_same, (hob (.inl e)).1 e⟩
      · by_cases q' : x = b
        · subst q'; exact ⟨o₁, upd_ne q upd_same, (hob (.inr e)).2 e⟩
        · obtain ⟨o, e1, e2⟩ := e; exact ⟨o, upd_ne q (upd_ne q' e1), e2⟩
    · by_cases q : x = a
      · subst q; exact ha.imp id .inl
      · by_cases q' : x = b
        · subst q'; exact hb.imp id .inl
        · exact .inl fun z => e (upd_ne q (upd_ne q' z))
  refine ⟨S.trans (Step.toks _ _ _), ⟨fun x o e => S.keep _ _ (G.base x o e) (G.out e) id, fun x e => ?_, fun x o e => ?_⟩⟩
  · have none₀ : ∀ y, (σ y ≠ none ∨ s.heap.get? y = none) → c.h₀.get? y = none := fun y hy => by
      rcases hy with z | z
      · exact G.off y z
      · cases w : c.h₀.get? y with
        | none => rfl
        | some o => rw [G.base y o w] at z; cases z
    by_cases q : x = a
    · exact none₀ _ (q ▸ ha)
    · by_cases q' : x = b
      · exact none₀ _ (q' ▸ hb)
      · exact G.off x fun z => e (upd_ne q (upd_ne q' z))
  · by_cases q : x = a
    · subst q; rw [upd_same] at e; cases e; exact h₂ S
    · by_cases q' : x = b
      · subst q'; rw [upd_ne q upd_same] at e; cases e; exact h₁ S
      · have e' : σ x = some o := by
          unfold Mine.upd at e; rw [if_neg q, if_neg q'] at e; exact e
        exact OIn.step S apart_no (fun ob eb => k x ob q q' eb) (G.objs x o e')

/-- enumerate -/
theorem c_enum {vs : List V} (h : ∀ a it l, σ a = none → σ it = none → a ≠ it → Q (.ref a) (upd (upd σ it (.giter l 0)) a (.enum it l 0 vs))) : CallV c n (.type "enumerate") [.lst vs] σ Q := by
  intro A s xs R G I
  cases I with
  | cons I J =>
    cases J
    cases I with
    | lst ht hn hb hv =>
      rename_i l xs
      obtain ⟨k, ht⟩ := ht
      refine call_enumerate_1 ht fun h' he hit hsz hk => ?_
      have h0 : σ s.heap.objs.size = none := G.nofresh (Nat.le_refl _)
      have h1 : σ (s.heap.objs.size + 1) = none := G.nofresh (Nat.le_succ _)
      obtain ⟨S, G'⟩ := pair_step (s := s) (h' := h') (o₁ := .giter l 0) (o₂ := .enum s.heap.objs.size l 0 vs) (a := s.heap.objs.size + 1) (b := s.heap.objs.size) G (Nat.ne_of_gt (Nat.lt_succ_self _))
        (fun x o _ _ e => hk x o e) (fun x => x.elim (fun z => absurd h1 z.ne) fun z => absurd h0 z.ne) (.inr (Heap.get?_none_of_le (Nat.le_succ _))) (.inr (Heap.get?_none_of_le (Nat.le_refl _)))
        (fun S => hit) (fun S => ⟨.none, xs, he, ⟨_, hk _ _ ht, rfl, k, rfl⟩, upd_ne (Nat.ne_of_lt (Nat.lt_succ_of_lt (Heap.lt_size ht))) (upd_ne (Nat.ne_of_lt (Heap.lt_size ht)) hn), by simpa using hv.step S apart_no⟩) s.toks
      exact ⟨_, .ref _, S, G', .ref ⟨_, upd_same, rfl⟩, h _ _ l h1 h0 (Nat.ne_of_gt (Nat.lt_succ_self _))⟩
theorem it_enum {a it l i : Nat} {vs : List V} {Q : Addr → Sg → Prop} (ha : σ a = some (.enum it l i vs)) (h : Q a σ) : ItV c n (.ref a) σ Q := by
  intro A s x R G I
  cases I
  obtain ⟨old, xs, ho, _⟩ := G.objs a _ ha
  exact wpAny_pyIter_enum ho ⟨_, _, rfl, Step.refl _ _, G, h⟩
theorem enext_some {elts : List Expr} {k : Nat} {pos : Pos} {a it l i : Nat} {v : V} {vs : List V} (ha : σ a = some (.enum it l i (v :: vs))) (hi : σ it = some (.giter l i)) : NextR c (.Tuple elts k pos) a σ (some (.tup [.int i, v])) (upd (upd σ it (.giter l (i + 1))) a (.enum it l (i + 1) vs)) := by
  intro A s _ G
  obtain ⟨old, xs, ho, hl, hn, hv⟩ := G.objs a _ ha
  have hit := G.objs it _ hi
  have hai : a ≠ it := by rintro rfl; rw [ha] at hi; cases hi
  have hla : l ≠ a := by rintro rfl; rw [ha] at hn; cases hn
  have hli : l ≠ it := by rintro rfl; rw [hi] at hn; cases hn
  have e : ∃ y ys, xs.drop i = y :: ys := by
    cases q : xs.drop i with
    | nil => rw [q] at hv; cases hv
    | cons y ys => exact ⟨y, ys, rfl⟩
  obtain ⟨y, ys, e⟩ := e
  rw [e] at hv
  have hx : xs[i]? = some y := by
    have := congrArg List.head? e; simpa [List.head?_drop] using this
  have hd : xs.drop (i + 1) = ys := by
    rw [← List.drop_drop, e]; rfl
  cases hv with
  | cons hv hvs =>
    refine wpAny_pyNext_enum_item ho hit hl (x := y) (by simpa using hx) hai fun h' he' hit' ht' hsz hk => ⟨_, rfl, ?_⟩
    refine wpAny_letOwnedTupleGo_enum he' fun h₂ he₂ hs₂ => ?_
    have hal : a < s.heap.objs.size := Heap.lt_size ho
    have hT : h₂.get? s.heap.objs.size = some { cls := .type "tuple", data := .seq #[.int i s.toks, y] } := (hs₂.2 _ (Nat.ne_of_gt hal)).trans ht'
    have k : ∀ x o, x ≠ a → x ≠ it → s.heap.get? x = some o → h₂.get? x = some o := fun x o q q' ex => (hs₂.2 x q).trans (hk x o q q' ex)
    have hb : Ob σ it → False := fun ⟨o, e1, e2⟩ => by rw [hi] at e1; cases e1; cases e2
    have hit₂ : h₂.IsListIter it l (i + 1) := by
      obtain ⟨o, q1, q2⟩ := hit'; exact ⟨o, (hs₂.2 it (Ne.symm hai)).trans q1, q2⟩
    have hl₂ : h₂.IsList l xs.toArray := by
      obtain ⟨o, q1, q2⟩ := hl; exact ⟨o, k l o hla hli q1, q2⟩
    obtain ⟨S, G'⟩ := pair_step (s := s) (h' := h₂) (o₁ := .giter l (i + 1)) (o₂ := .enum it l (i + 1) vs) (a := a) (b := it) G hai k
      (fun _ => ⟨fun _ => rfl, fun z => (hb z).elim⟩) (.inl (by rw [ha]; exact fun z => nomatch z)) (.inl (by rw [hi]; exact fun z => nomatch z))
      (fun S => hit₂) (fun S => ⟨_, xs, by simpa using he₂, hl₂, upd_ne hla (upd_ne hli hn), hd ▸ hvs.step S apart_no⟩) (s.toks + 1)
    refine ⟨S, G', .tup (xs := [.int i s.toks, y]) ⟨_, hT, rfl, 0, rfl⟩ ?_ (by show 2 ≤ big; decide) (.cons (.int _ _) (.one (hv.step S apart_no)))⟩
    have h0 : σ s.heap.objs.size = none := G.nofresh (Nat.le_refl _)
    have hil : it < s.heap.objs.size := G.lt (by rw [hi]; exact fun z => nomatch z)
    exact upd_ne (Nat.ne_of_gt hal) (upd_ne (Nat.ne_of_gt hil) h0)
theorem enext_none {tg : Expr} {a it l i : Nat} (ha : σ a = some (.enum it l i [])) (hi : σ it = some (.giter l i)) : NextR c tg a σ none (del σ it) := by
  intro A s hh G
  obtain ⟨old, xs, ho, hl, hn, hv⟩ := G.objs a _ ha
  have hit := G.objs it _ hi
  have hne : σ it ≠ none := by rw [hi]; exact fun z => nomatch z
  have hk : ¬ Ob σ it := fun ⟨o, e, i⟩ => by rw [hi] at e; cases e; cases i
  have e : xs.drop i = [] := by cases q : xs.drop i with | nil => rfl | cons y ys => rw [q] at hv; cases hv
  refine wpAny_pyNext_enum_end hh ho hit hl (by simpa using List.drop_eq_nil_iff.mp e) fun h' hs => ⟨rfl, del_step it hk hs hne s.toks, G.del hk hne hs⟩

/-- dicts -/
theorem Good.nosys {s : Shared} (G : c.Good σ s.heap) : (s.heap.objs.size == sysModules) = false := by
  obtain ⟨mc, hn, _⟩ := c.nolim
  have := (hn.keeps G.base).lt
  exact beq_eq_false_iff_ne.mpr (Nat.ne_of_gt (Nat.lt_trans (show sysModules < cStatics by decide) this))
theorem ev_idict0 {pos : Pos} (tg : Nat) (h : ∀ a, σ a = none → Q (.ref a) (upd σ a (.idict tg []))) : EvE c n sc ρ σ (.Dict [] [] pos) Q := by
  intro A env s C
  refine wpAny_Dict_empty ?_
  have S := new_step (o := AO.idict tg []) C.good { cls := .type "dict", data := .dict #[] }
  exact ⟨_, .ref _, S, C.good.new _ ⟨[], Heap.DictOf.new _, Nat.zero_le _, rfl, .nil, C.good.nosys⟩, .ref ⟨_, upd_same, rfl⟩, h _ (C.good.nofresh (Nat.le_refl _))⟩
theorem set_idict {l : Addr} {t : Nat} {es : List (Int × V)} {k : Int} {v : V} {K : Sg → Prop} {A : Around} {s : Shared} {x y z : Value} (hl : σ l = some (.idict t es)) (hb : es.length < big)
    (h : K (upd σ l (.idict t (putI es k v)))) (G : c.Good σ s.heap) (I : VIn σ s.heap (.ref l) x) (J : VIn σ s.heap (.int k) y) (J₂ : VIn σ s.heap v z) : wpAny c.M A (setItem x y z) (PostU c σ s K) Ef s := by
  cases I with
  | ref hob =>
    cases J
    obtain ⟨kvs, hd, hbk, hk, hv, hsys⟩ := G.objs l _ hl
    refine wpAny_setItem_pairs (hsz := big_size hbk) (intKind_is _ _ _ _) hd fun h' hd' hs => ?_
    have S : Step No σ s (upd σ l (.idict t (putI es k v))) { s with heap := h', toks := s.toks + 1 } := upd_step hob.ne (fun _ => rfl) hs _
    obtain ⟨p, q⟩ := put_vals (k := k) hk (hv.step S apart_no) (J₂.step S apart_no)
    refine ⟨_, S, G.upd hob.ne (fun _ => rfl) hs ⟨_, hd', ?_, p, q, hsys⟩, h⟩
    have h1 : kvs.length = es.length := by simpa using congrArg List.length hk
    unfold stored
    split
    · simpa using hbk
    · simp; omega
theorem set_sdict {l : Addr} {t : Nat} {es : List (Str × V)} {k : Str} {v : V} {K : Sg → Prop} {A : Around} {s : Shared} {x y z : Value} (hl : σ l = some (.sdict t es)) (hb : es.length < big)
    (h : K (upd σ l (.sdict t (putI es k v)))) (G : c.Good σ s.heap) (I : VIn σ s.heap (.ref l) x) (J : VIn σ s.heap (.str k) y) (J₂ : VIn σ s.heap v z) : wpAny c.M A (setItem x y z) (PostU c σ s K) Ef s := by
  cases I with
  | ref hob =>
    cases J
    obtain ⟨kvs, hd, hbk, hk, hv, hsys⟩ := G.objs l _ hl
    refine wpAny_setItem_pairs (hsz := big_size hbk) (strKind_is _ _ _ _) hd fun h' hd' hs => ?_
    have S : Step No σ s (upd σ l (.sdict t (putI es k v))) { s with heap := h', toks := s.toks + 1 } := upd_step hob.ne (fun _ => rfl) hs _
    obtain ⟨p, q⟩ := put_vals (k := k) hk (hv.step S apart_no) (J₂.step S apart_no)
    refine ⟨_, S, G.upd hob.ne (fun _ => rfl) hs ⟨_, hd', ?_, p, q, hsys⟩, h⟩
    have h1 : kvs.length = es.length := by simpa using congrArg List.length hk
    unfold stored
    split
    · simpa using hbk
    · simp; omega
def look {K' : Type} [DecidableEq K'] (es : List (K' × V)) (k : K') : Option V := (es.find? fun kv => kv.1 = k).map (·.2)
theorem look_none {K' : Type} [DecidableEq K'] {es : List (K' × V)} {k : K'} (h : look es k = none) : (es.find? fun kv => kv.1 = k) = none := by
  unfold look at h
  cases q : es.find? fun kv => kv.1 = k with
  | none => rfl
  | some z => rw [q] at h; cases h
theorem c_dget {a : Addr} {t : Nat} {es : List (Int × V)} {k : Int} {d : V} (ha : σ a = some (.idict t es)) (h : Q ((look es k).getD d) σ) : CallV c n (.builtin "dict.get") [.ref a, .int k, d] σ Q := by
  intro A s xs R G I
  cases I with
  | cons I J =>
    cases J with
    | cons J K =>
      cases K with
      | cons K L =>
        cases L
        cases I; cases J
        obtain ⟨kvs, hd, hbk, hk, hv, hsys⟩ := G.objs a _ ha
        obtain ⟨p, q⟩ := val_at (k := k) hk hv
        refine call_meetsIn PySem.F.slot_dict_get hd.typeIs PySem.F.entry_dict_get (PySem.F.args_dict_get_3 _ _ _) (meets_dict_get_default (intKind c.prog c.w) a (intKind_is _ _ k _) hsys _) ⟨_, hd.mapOf, ?_⟩
        cases e : look es k with
        | none =>
          rw [q (look_none e)]
          rw [e] at h
          exact post_keep G (fun _ _ e => e) ⟨rfl, rfl, rfl⟩ K h
        | some v =>
          obtain ⟨x, e1, e2⟩ := p v e
          rw [e1]
          rw [e] at h
          exact post_keep G (fun _ _ e => e) ⟨rfl, rfl, rfl⟩ e2 h
theorem c_setdefault {a : Addr} {t : Nat} {es : List (Int × V)} {k : Int} {d v : V} (ha : σ a = some (.idict t es)) (hv : look es k = some v) (h : Q v σ) : CallV c n (.builtin "dict.setdefault") [.ref a, .int k, d] σ Q := by
  intro A s xs R G I
  cases I with
  | cons I J =>
    cases J with
    | cons J K =>
      cases K with
      | cons K L =>
        cases L
        cases I; cases J
        obtain ⟨kvs, hd, hbk, hk, hvs, hsys⟩ := G.objs a _ ha
        obtain ⟨x, e1, e2⟩ := (val_at (k := k) hk hvs).1 v hv
        refine call_meetsIn PySem.F.slot_dict_setdefault hd.typeIs PySem.F.entry_dict_setdefault (PySem.F.args_dict_setdefault_3 _ _ _) (kt_meets_setdefault (intKind c.prog c.w) a (intKind_is _ _ k _) hsys _) ⟨kvs, hd, big_size hbk, fun u hu => ?_, fun hu => ?_⟩
        · rw [e1] at hu; cases hu
          exact post_keep G (fun _ _ e => e) ⟨rfl, rfl, rfl⟩ e2 h
        · rw [e1] at hu; cases hu
theorem c_len_idict {a : Addr} {t : Nat} {es : List (Int × V)} (ha : σ a = some (.idict t es)) (h : Q (.int es.length) σ) : CallV c n (.builtin "len") [.ref a] σ Q := by
  intro A s xs R G I
  cases I with
  | cons I J =>
    cases J
    cases I
    obtain ⟨kvs, hd, hbk, hk, hvs, hsys⟩ := G.objs a _ ha
    have h1 : kvs.length = es.length := by simpa using congrArg List.length hk
    exact call_len_dict hsys hd (big63 hbk) (post_keep G (fun _ _ e => e) ⟨rfl, rfl, rfl⟩ (by rw [h1]; exact .int _ _) h)

/-- sums of sequences -/
theorem op_addt {vs ws : List V} (hb : vs.length + ws.length ≤ big) (h : Q (.tup (vs ++ ws)) σ) : Op2 c n (binaryOp .Add) (.tup vs) (.tup ws) σ Q := by
  intro A s x y R G I J
  cases I with
  | tup ht hn hbv hv =>
    cases J with
    | tup ht' hn' hbw hw =>
      rename_i a xs b ys
      have l1 := hv.length
      have l2 := hw.length
      have hsz : xs.length + ys.length ≤ sizeLine := big_size (by omega)
      have key := no_frame (t := binaryOp .Add (.ref a) (.ref b)) (A := A) (R := fun x s' => (s'.gens = s.gens ∧ s'.drawn = s.drawn ∧ s'.os = s.os) ∧ ∃ r, x = .ref r ∧ IsTup s'.heap r (xs ++ ys).toArray ∧ σ r = none) G fun L m hm => by
        refine add_tuples (hsz := hsz) (fr_any hm) news_any ht ht' (fun e => ?_) (fun e1 e => ?_) fun e1 e2 h' F N => ?_
        · subst e
          exact ⟨fun p hp => (mem_allBut.mp hp).2, ⟨rfl, rfl, rfl⟩, _, rfl, ht', hn'⟩
        · subst e
          exact ⟨fun p hp => (mem_allBut.mp hp).2, ⟨rfl, rfl, rfl⟩, _, rfl, by simpa using ht, hn⟩
        · exact ⟨fun p hp => (N p (.tail _ hp)).1, ⟨rfl, rfl, rfl⟩, _, rfl, ⟨_, (N _ (.head _)).1, rfl, 0, rfl⟩, G.nofresh (Nat.le_refl _)⟩
      refine wmono key fun x s' ⟨k, r, z, e, ht₂, hz⟩ => ?_
      subst e
      have T := (keep_step G k r).1
      exact post_keep G k r (.tup ht₂ hz (by simp; omega) ((hv.step T apart_no).append (hw.step T apart_no))) h
theorem add_lists_at {A : Around} {s : Shared} {a b : Addr} {vs ws : List V} {xs ys : List Value} (G : c.Good σ s.heap) (ht : s.heap.PlainList a xs.toArray) (ht' : s.heap.PlainList b ys.toArray) (hv : VAll σ s.heap vs xs) (hw : VAll σ s.heap ws ys) (hb : vs.length + ws.length ≤ big)
    (h : Q (.lst (vs ++ ws)) σ) : wpAny c.M A (binaryOp .Add (.ref a) (.ref b)) (Post c σ s Q) Ef s := by
  have l1 := hv.length
  have l2 := hw.length
  have hsz : xs.length + ys.length ≤ sizeLine := big_size (by omega)
  have key := no_frame (t := binaryOp .Add (.ref a) (.ref b)) (A := A) (R := fun x s' => (s'.gens = s.gens ∧ s'.drawn = s.drawn ∧ s'.os = s.os) ∧ ∃ r, x = .ref r ∧ s'.heap.PlainList r (xs ++ ys).toArray ∧ σ r = none) G fun L m hm => by
    refine add_lists (hsz := hsz) (fr_any hm) news_any ht.isList ht'.isList fun h' F N => ?_
    exact ⟨fun p hp => (N p (.tail _ hp)).1, ⟨rfl, rfl, rfl⟩, _, rfl, ⟨_, (N _ (.head _)).1⟩, G.nofresh (Nat.le_refl _)⟩
  refine wmono key fun x s' ⟨k, r, z, e, ht₂, hz⟩ => ?_
  subst e
  have T := (keep_step G k r).1
  exact post_keep G k r (.lst ht₂ hz (by simp; omega) ((hv.step T apart_no).append (hw.step T apart_no))) h
theorem op_addl {u v : V} {vs ws : List V} (hu : seqOf σ u vs) (hv : seqOf σ v ws) (hb : vs.length + ws.length ≤ big) (h : Q (.lst (vs ++ ws)) σ) : Op2 c n (binaryOp .Add) u v σ Q := by
  intro A s x y R G I J
  obtain ⟨a, xs, rfl, ht, _, h1⟩ := hu.at G I
  obtain ⟨b, ys, rfl, ht', _, h2⟩ := hv.at G J
  exact add_lists_at G ht ht' h1 h2 hb h

theorem keys_ints {prog : Program} {w : World} : ∀ {kvs : List (Int × Value)} {vs : List Value}, vs.length = kvs.length → (∀ (j : Nat) (v : Value), vs[j]? = some v → ∃ k x, kvs[j]? = some (k, x) ∧ (intKind prog w).is k v = true) → IntsAre vs (kvs.map (·.1))
  | [], [], _, _ => .nil
  | [], _ :: _, h, _ => by simp at h
  | _ :: _, [], h, _ => by simp at h
  | (k, x) :: kvs, v :: vs, h, H => by
    obtain ⟨k', x', e1, e2⟩ := H 0 v rfl
    simp at e1
    obtain ⟨rfl, rfl⟩ := e1
    have r := keys_ints (kvs := kvs) (vs := vs) (by simpa using h) fun j u e => by
      obtain ⟨a, b, c, d⟩ := H (j + 1) u (by simpa using e)
      exact ⟨a, b, by simpa using c, d⟩
    cases v <;> simp [intKind, Value.isInt] at e2
    subst e2
    exact .cons _ _ r

/-- the keys of a dict, in order -/
theorem c_sorted_idict {a : Addr} {t : Nat} {es : List (Int × V)} (ha : σ a = some (.idict t es)) (h64 : es.length < 64) (h : ∀ ns' : List Int, ns'.Perm (es.map (·.1)) → ns'.Pairwise (· ≤ ·) → Q (.lst (numV ns')) σ) : CallV c n (.builtin "sorted") [.ref a] σ Q := by
  intro A s xs R G I
  cases I with
  | cons I J =>
    cases J
    cases I
    obtain ⟨kvs, hd, hbk, hk, hvs, hsys⟩ := G.objs a _ ha
    have h1 : kvs.length = es.length := by simpa using congrArg List.length hk
    obtain ⟨ep, hat⟩ := hd.dictAt
    have key := no_frame (t := call (.builtin "sorted") [.ref a]) (A := A) (R := fun x s' => (s'.gens = s.gens ∧ s'.drawn = s.drawn ∧ s'.os = s.os) ∧ ∃ r ys ns', x = .ref r ∧ s'.heap.PlainList r (List.toArray ys) ∧ σ r = none ∧ IntsAre ys ns' ∧ ns'.Perm (es.map (·.1)) ∧ ns'.Pairwise (· ≤ ·)) G fun L m hm => by
      refine kdu_sorted (kdl_dict (knd := intKind c.prog c.w) (kvs := kvs) (ep := ep) hsys) R.1 (fr_any hm) news_any hat (big_size hbk) fun D h' tk vs F N _ hlen hP => ?_
      have hI : IntsAre vs (es.map (·.1)) := by
        rw [← hk]
        exact keys_ints hlen hP
      have hD : h'.get? D = some (seqObj "list" vs.toArray 0) := (N _ (.head _)).1
      refine wpAny_call_entry slot_list_sort ⟨_, hD, rfl⟩ entry_list_sort (list_sort_tree hD hI (by omega) fun out ns' a1 a2 a3 => ⟨_, rfl, ?_⟩) (args_list_sort _)
      obtain ⟨e, he⟩ := sortedHeap_at (out := out) hD
      have hlt : ∀ p ∈ allBut L s.heap, p.1 < D := by assumption
      have hDn : s.heap.get? D = none := by
        cases q : s.heap.get? D with
        | none => rfl
        | some o => exact absurd (hlt (D, o) (mem_allBut.mpr ⟨(N _ (.head _)).2.1, q⟩)) (Nat.lt_irrefl _)
      refine ⟨fun p hp => ?_, ⟨rfl, rfl, rfl⟩, D, out.toList, ns', rfl, ⟨e, by simpa using he⟩, ?_, a1, a2, a3⟩
      · have := (N p (.tail _ hp)).1
        exact (sortedHeap_old (Nat.ne_of_lt (hlt p hp)) (Heap.lt_size this)).trans this
      · cases q : σ D with
        | none => rfl
        | some z =>
          obtain ⟨o, e⟩ := G.alive (a := D) (by rw [q]; exact fun z => nomatch z)
          rw [hDn] at e; cases e
    refine wmono key fun x s' ⟨k, r, z, ys, ns', e, hp, hz, a1, a2, a3⟩ => ?_
    subst e
    refine post_keep G k r (.lst hp hz ?_ (are_ints a1)) (h ns' a2 a3)
    have e1 := (are_ints (σ := σ) (h := s'.heap) a1).length
    have e2 := a2.length_eq
    have : 64 ≤ big := by decide
    simp [numV] at e1 e2
    omega
end
end Mine
-- part MG
namespace Mine
open PySem PySem.W PySem.Calls PyProof.Rows

section
variable {c : Cx} {n : Nat} {sc : Scope} {ρ : Rho} {σ : Sg} {Q : V → Sg → Prop} {QB : Bool → Sg → Prop}

/-- a display of two pairs, the keys texts -/
theorem ev_dict2 {k₁ k₂ : Str} {j₁ j₂ : Nat} {p₁ p₂ pos : Pos} {e₁ e₂ : Expr} (tg : Nat) (hk : k₁ ≠ k₂)
    (h : EvE c n sc ρ σ e₁ fun v σ₁ => EvE c n sc ρ σ₁ e₂ fun u σ₂ => ∀ a, σ₂ a = none → Q (.ref a) (upd σ₂ a (.sdict tg [(k₁, v), (k₂, u)]))) :
    EvE c n sc ρ σ (.Dict [some (.Constant (.str k₁) j₁ p₁), some (.Constant (.str k₂) j₂ p₂)] [e₁, e₂] pos) Q := by
  intro A env s C
  refine wpAny_Dict_walk (knd := PySem.strKind c.prog c.w) rfl rfl (fun z => nomatch z) (by simp) ?_
  have S₀ : Step No σ s σ { s with heap := s.heap.push { cls := .type "dict", data := .dict #[] } } := push_step _
  have G₀ := C.good.push { cls := .type "dict", data := .dict #[] }
  have hD0 : σ s.heap.objs.size = none := C.good.nofresh (Nat.le_refl _)
  have hDh : c.h₀.get? s.heap.objs.size = none := C.good.h0 (Nat.le_refl _)
  have hDn : s.heap.get? s.heap.objs.size = none := Heap.get?_none_of_le (Nat.le_refl _)
  have hds : (s.heap.push { cls := .type "dict", data := .dict #[] }).DictOf (PySem.strKind c.prog c.w) s.heap.objs.size [] := Heap.DictOf.new _
  have hsys := C.good.nosys
  generalize hD : s.heap.objs.size = D at *
  have C₀ : Co c n sc ρ σ A env { s with heap := s.heap.push { cls := .type "dict", data := .dict #[] } } := C.step S₀ G₀
  show wpAny _ _ (evalPairs [(eval (.Constant (.str k₁) j₁ p₁) env, do let x ← eval e₁ env; standAt pos; pure x), (eval (.Constant (.str k₂) j₂ p₂) env, do let x ← eval e₂ env; standAt pos; pure x)]) _ _ _
  refine evalPairs_cons (wpAny_Constant_str ?_)
  have St := Step.toks (P := No) σ { s with heap := s.heap.push { cls := .type "dict", data := .dict #[] } } (s.toks + 1)
  refine wpAny_bind (wmono (h A env _ (C₀.step St G₀)) fun x s₁ ⟨σ₁, v, S₁, G₁, I₁, q⟩ => wpAny_bind (wpAny_standAt (wpAny_pure ?_)))
  refine evalPairs_cons (wpAny_Constant_str ?_)
  have C₁ : Co c n sc ρ σ₁ A env s₁ := (C₀.step St G₀).step S₁ G₁
  have St₁ := Step.toks (P := No) σ₁ s₁ (s₁.toks + 1)
  refine wpAny_bind (wmono (q A env _ (C₁.step St₁ G₁)) fun y s₂ ⟨σ₂, u, S₂, G₂, I₂, q₂⟩ => wpAny_bind (wpAny_standAt (wpAny_pure ?_)))
  refine evalPairs_nil ?_
  have T := (St.trans S₁).trans (St₁.trans S₂)
  obtain ⟨o, es, ep, ho, r⟩ := hds
  have hσ₂ : σ₂ D = none := T.off ho hD0 id
  refine ⟨[(k₁, x), (k₂, y)], ⟨strKind_is _ _ _ _, rfl, strKind_is _ _ _ _, rfl, trivial⟩, ⟨o, es, ep, T.keep _ _ ho hD0 id, r⟩, fun h' hd' hs => ?_⟩
  have S₃ : Step (fun a => a = D) σ₂ s₂ (upd σ₂ D (.sdict tg [(k₁, v), (k₂, u)])) { s₂ with heap := h', toks := s₂.toks + 2 } := by
    refine ⟨fun b o e _ p => (hs.2 b p).trans e, fun b e _ => upd_ob e fun z => absurd hσ₂ z.ne, fun b e => ?_, rfl, rfl, rfl⟩
    by_cases q : b = D
    · exact .inr (.inr q)
    · exact .inl fun z => e (upd_ne q z)
  have F : Apart (fun a => a = D) σ₂ s₂.heap := by
    rintro a rfl
    refine ⟨hσ₂, fun o' ho' => ?_⟩
    rw [T.keep _ _ ho hD0 id] at ho'; cases ho'
    rw [r.2.1]; exact ⟨⟨fun e => (nomatch e), fun _ _ e => (nomatch e)⟩, fun _ e => (nomatch e)⟩
  have e : merged [] [(k₁, x), (k₂, y)] = [(k₁, x), (k₂, y)] := by
    simp [merged, stored, hk]
  rw [e] at hd'
  refine ⟨_, .ref _, (((S₀.trans T).mono fun _ => False.elim).trans S₃).tighten fun z (hz : z = D) => .inr (hz ▸ ⟨hDn, hD0⟩), ⟨fun b o e => (hs.2 b ?_).trans (G₂.base b o e), fun b e => ?_, fun b o e => ?_⟩, .ref ⟨_, upd_same, rfl⟩, q₂ _ hσ₂⟩
  · rintro rfl; rw [hDh] at e; cases e
  · by_cases q : b = D
    · rw [q]; exact hDh
    · exact G₂.off b fun z => e (upd_ne q z)
  · by_cases q : b = D
    · subst q; rw [upd_same] at e; cases e
      exact ⟨_, hd', by show 2 ≤ big; decide, rfl, .cons ((I₁.step (St₁.trans S₂) apart_no).step S₃ F) (.one (I₂.step S₃ F)), hsys⟩
    · unfold Mine.upd at e; rw [if_neg q] at e
      exact OIn.step S₃ F (fun ob' e' => (hs.2 b q).trans e') (G₂.objs b o e)

/-- a block whose list is turned later -/
theorem ev_mcomp {elt target iter : Expr} {ifs : List Expr} {scope : Scope} {pos : Pos} (tg : Nat) (ρc : Rho) (J : Addr → Addr → Nat → List V → Sg → Prop) (hok : compOk scope sc = true) (hcap : Capt scope sc ρ ρc)
    (hs : ∀ env x, foldedSetIterable iter env x = pure x)
    (h0 : EvE c n sc ρ σ iter fun v σ₁ => ItV c n v σ₁ fun a σ₂ => (∃ o, σ₂ a = some o ∧ isIter o = true) ∧ ∃ m, ∀ D, σ₂ D = none → J a D m [] (upd σ₂ D (.acc [])))
    (step : CompStep c n sc ρc scope target ifs elt J fun D acc σ' => Q (.ref D) (upd σ' D (.list tg acc))) :
    EvE c n sc ρ σ (.ListComp elt [⟨target, iter, ifs, 0⟩] scope pos) Q := by
  intro A env s C
  obtain ⟨hclos, hkind, hnames⟩ := comp_pre hok C.loc
  rw [eval_ListComp]
  refine wpAny_comprehension_free (use := none) rfl (hs env) hclos hkind hnames (wmono (h0 A env s C) fun x s₁ ⟨σ₁, v, S₁, G₁, I₁, q⟩ => wmono (q A s₁ x C.room G₁ I₁) fun it s₂ ⟨σ₂, a, e, S₂, G₂, hi, m, j⟩ => ?_)
  subst e
  refine comp_core (m := m) ρc (J a) (fun D acc σ' => Q (.ref D) (upd σ' D (.list tg acc))) _ hok hcap ((C.loc.step S₁).step S₂) G₂ C.room hi j (step a) ?_
  intro D Cc σ' s' acc m' hD hDn hC hCn hC0 S G eD eC hns q
  refine ⟨m', hns, fun h' sb => ?_⟩
  have hne : σ' D ≠ none := by rw [eD]; exact fun z => nomatch z
  have hDC : D ≠ Cc := by rintro rfl; rw [eC] at eD; cases eD
  obtain ⟨xs, hp, hb, hv⟩ := G.objs D _ eD
  have S₃ : Step (fun a => a = Cc) σ' s' (upd σ' D (.list tg acc)) { s' with heap := h' } := by
    refine ⟨fun b o e _ p => (sb.2 b p).trans e, fun b e _ => upd_ob e fun _ => rfl, fun b e => ?_, rfl, rfl, rfl⟩
    by_cases q : b = D
    · exact .inl (q ▸ hne)
    · exact .inl fun z => e (upd_ne q z)
  have F : Apart (fun a => a = Cc) σ' s'.heap := by
    rintro a rfl
    refine ⟨eC, fun o ho => ?_⟩
    obtain ⟨o', es, ep, ho', hd, _⟩ := hns
    rw [ho] at ho'; cases ho'
    rw [hd]; exact ⟨⟨fun e => (nomatch e), fun _ _ e => (nomatch e)⟩, fun _ e => (nomatch e)⟩
  refine ⟨_, .ref D, (S₁.trans S₂).trans (((S.mono fun _ => False.elim).trans S₃).tighten fun y (hy : y = Cc) => .inr (hy ▸ ⟨hCn, hC⟩)), ⟨fun b o e => (sb.2 b ?_).trans (G.base b o e), fun b e => ?_, fun b o e => ?_⟩, .ref ⟨_, upd_same, rfl⟩, q⟩
  · rintro rfl; rw [hC0] at e; cases e
  · by_cases q : b = D
    · exact G.off b (q ▸ hne)
    · exact G.off b fun z => e (upd_ne q z)
  · by_cases q : b = D
    · subst q; rw [upd_same] at e; cases e
      obtain ⟨k, ho⟩ := hp
      exact ⟨xs, ⟨k, (sb.2 _ hDC).trans ho⟩, hb, hv.step S₃ F⟩
    · unfold Mine.upd at e; rw [if_neg q] at e
      exact OIn.step S₃ F (fun ob' e' => (sb.2 b fun q => by rw [q, eC] at e; cases e).trans e') (G.objs b o e)
end
end Mine
-- part MH
namespace Mine
open PySem PySem.W PySem.Calls PyProof.Rows

section
variable {prog : Program} {w : World} {A : Around} {E : Value → Shared → Prop} {s : Shared}
/-- Python's order of two rows of ints -/
def ilt : List Int → List Int → Bool
  | [], [] => false
  | [], _ :: _ => true
  | _ :: _, [] => false
  | a :: as, b :: bs => if a = b then ilt as bs else decide (a < b)

theorem tuple_lt2 {a b : Addr} {x1 x2 y1 y2 : Int} {t1 t2 u1 u2 : Tok} {P : PySem.Fin → Shared → Prop} (ha : IsTup s.heap a #[.int x1 t1, .int x2 t2]) (hb : IsTup s.heap b #[.int y1 u1, .int y2 u2])
    (h : P (.done (.ret (.bool (ilt [x1, x2] [y1, y2])))) s) : wpAny (model prog w) A (Builtin.«tuple.__lt__» ⟨[.ref a, .ref b], []⟩) P E s := by
  have hTb := hb.typeIs
  obtain ⟨oa, hoa, _, na, hda⟩ := ha
  obtain ⟨ob, hob, _, nb, hdb⟩ := hb
  show wpAny _ _ (isInstance (.ref b) (.type "tuple") >>= _) _ _ s
  refine wpAny_bind (wpAny_isInstance hTb isSubtype_tuple_tuple ?_)
  simp only [Bool.not_true, Bool.false_eq_true, if_false]
  refine wpAny_bind (wpAny_tupleItemsOf hoa hda ?_)
  refine wpAny_bind (wpAny_tupleItemsOf hob hdb ?_)
  refine wpAny_bind ?_
  show wpAny _ _ (forIn [((Value.int x1 t1), (Value.int y1 u1)), ((Value.int x2 t2), (Value.int y2 u2))] _ _) _ _ s
  rw [List.forIn_cons]
  refine wpAny_bind (wpAny_bind (wpAny_eqBool_int ?_))
  unfold ilt at h
  by_cases q : x1 = y1
  · rw [if_pos q] at h
    subst q
    simp only [beq_self_eq_true, Bool.not_true, Bool.false_eq_true, if_false]
    refine wpAny_pure ?_
    dsimp only
    rw [List.forIn_cons]
    refine wpAny_bind (wpAny_bind (wpAny_eqBool_int ?_))
    unfold ilt at h
    by_cases q : x2 = y2
    · rw [if_pos q] at h
      subst q
      simp only [beq_self_eq_true, Bool.not_true, Bool.false_eq_true, if_false]
      refine wpAny_pure ?_
      dsimp only
      rw [List.forIn_nil]
      refine wpAny_pure (wpAny_pure ?_)
      exact h
    · rw [if_neg q] at h
      have : (x2 == y2) = false := by simpa using q
      simp only [this, Bool.not_false, if_true]
      refine wpAny_bind (wpAny_rule (wpAny_bind ?_))
      exact wpAny_lt_int (wpAny_bind (wpAny_pure (wpAny_pure (wpAny_pure (wpAny_pure h)))))
  · rw [if_neg q] at h
    have : (x1 == y1) = false := by simpa using q
    simp only [this, Bool.not_false, if_true]
    refine wpAny_bind (wpAny_rule (wpAny_bind ?_))
    exact wpAny_lt_int (wpAny_bind (wpAny_pure (wpAny_pure (wpAny_pure (wpAny_pure h)))))
end
section
variable {c : Cx} {n : Nat} {sc : Scope} {ρ : Rho} {σ : Sg} {Q : V → Sg → Prop} {QB : Bool → Sg → Prop}
theorem cm_lt2 {a b x y : Int} (h : Q (.bool (ilt [a, b] [x, y])) σ) : Op2 c n (compareOp .Lt) (.tup [.int a, .int b]) (.tup [.int x, .int y]) σ Q := by
  intro A s u v R G I J
  cases I with
  | tup ht hn hb hv =>
    cases J with
    | tup ht' hn' hb' hv' =>
      cases hv with
      | cons i r =>
        cases r with
        | cons i' r =>
          cases r; cases i; cases i'
          cases hv' with
          | cons j r =>
            cases r with
            | cons j' r =>
              cases r; cases j; cases j'
              show wpAny c.M A (richCompare .Lt _ _) _ _ s
              exact wpAny_richCompare_same_room (op := .Lt) ht.typeIs ht'.typeIs PySem.F.slot_tuple_lt
                (wpAny_call_entry PySem.F.slot_tuple_lt ht.typeIs PySem.F.entry_tuple_lt (tuple_lt2 ht ht' ⟨_, rfl, (fun e => nomatch e), post_keep G (fun _ _ e => e) ⟨rfl, rfl, rfl⟩ (.bool _) h⟩) (PySem.F.args_tuple_lt_2 _ _)) (by have := R.units; omega)
end
end Mine
-- part MI
namespace Mine
open PySem PySem.W PySem.Calls PyProof.Rows
open PySem.AutoSeq1 (wpAny_loadPart')
open PySem.MeetsSeq PySem.MeetsSeq2 PySem.MeetsSeq3

theorem ints_at : ∀ {xs : List Value} {ns : List Int} {i : Nat}, IntsAre xs ns → (ns.drop i = [] → xs[i]? = none) ∧ ∀ a r, ns.drop i = a :: r → ns.drop (i + 1) = r ∧ ∃ t, xs[i]? = some (.int a t)
  | _, _, 0, .nil => ⟨fun _ => rfl, fun a r e => by simp at e⟩
  | _, _, 0, .cons n t h => ⟨fun e => by simp at e, fun a r e => by simp at e; obtain ⟨rfl, rfl⟩ := e; exact ⟨rfl, t, rfl⟩⟩
  | _, _, i + 1, .nil => ⟨fun _ => rfl, fun a r e => by simp at e⟩
  | _, _, i + 1, .cons n t h => by
    obtain ⟨p, q⟩ := ints_at (i := i) h
    exact ⟨fun e => by simpa using p (by simpa using e), fun a r e => by
      obtain ⟨x, y⟩ := q a r (by simpa using e)
      exact ⟨by simpa using x, by simpa using y⟩⟩

theorem lt_loop (l b : Addr) (xs ys : List Value) (n n2 : Nat) (ns ms : List Int) (hx : IntsAre xs ns) (hy : IntsAre ys ms) (k : Nat) :
    ∀ i : Nat, ns.length + 1 - i = k → i ≤ ns.length → i ≤ ms.length → Meets (Builtin.«list.__eq__.loop» ⟨[.ref l, .ref b, rawInt i, rawInt 0], []⟩)
      (fun A R s => s.heap.get? l = some { cls := .type "list", dict := none, data := .seq xs.toArray n, slots := #[] } ∧ s.heap.get? b = some { cls := .type "list", dict := none, data := .seq ys.toArray n2, slots := #[] } ∧
        R (.ok (.ret (.bool (ilt (ns.drop i) (ms.drop i))))) s) := by
  have l1 := hx.length
  have l2 := hy.length
  induction k with
  | zero =>
    intro i hk h1 h2
    omega
  | succ k ih =>
    intro i hk h1 h2 prog w A R s h
    obtain ⟨hp, g, d, tk, os⟩ := s; obtain ⟨hl, hb, h⟩ := h
    cases q1 : ns.drop i with
    | nil =>
      have hi1 : xs.toArray[((i : Nat) : Int).toNat]? = none := by simpa using (ints_at (i := i) hx).1 q1
      wp_walk using wpAny_loadPart' hl, wpAny_loadPart' hb
      rw [hi1]
      wp_walk using wpAny_loadPart' hl, wpAny_loadPart' hb
      have e1 : ns.length ≤ i := by
        rcases Nat.lt_or_ge i ns.length with z | z
        · rw [List.drop_eq_getElem_cons z] at q1; cases q1
        · exact z
      show R (.ok (.ret (.bool (decide (xs.toArray.size < ys.toArray.size))))) _
      rw [q1] at h
      cases q2 : ms.drop i with
      | nil =>
        have e2 : ms.length ≤ i := by
          rcases Nat.lt_or_ge i ms.length with z | z
          · rw [List.drop_eq_getElem_cons z] at q2; cases q2
          · exact z
        rw [q2] at h
        have : decide (xs.toArray.size < ys.toArray.size) = false := by simp; omega
        rw [this]; exact h
      | cons b' r' =>
        have e2 : i < ms.length := by
          rcases Nat.lt_or_ge i ms.length with z | z
          · exact z
          · rw [List.drop_eq_nil_of_le z] at q2; cases q2
        rw [q2] at h
        have : decide (xs.toArray.size < ys.toArray.size) = true := by simp; omega
        rw [this]; exact h
    | cons a r =>
      obtain ⟨r1, t1, hi1⟩ := (ints_at (i := i) hx).2 a r q1
      cases q2 : ms.drop i with
      | nil =>
        have hi2 : ys.toArray[((i : Nat) : Int).toNat]? = none := by simpa using (ints_at (i := i) hy).1 q2
        wp_walk using wpAny_loadPart' hl, wpAny_loadPart' hb
        have hi1' : xs.toArray[((i : Nat) : Int).toNat]? = some (.int a t1) := by simpa using hi1
        rw [hi1', hi2]
        wp_walk using wpAny_loadPart' hl, wpAny_loadPart' hb
        have e1 : i < ns.length := by
          rcases Nat.lt_or_ge i ns.length with z | z
          · exact z
          · rw [List.drop_eq_nil_of_le z] at q1; cases q1
        have e2 : ms.length ≤ i := by
          rcases Nat.lt_or_ge i ms.length with z | z
          · rw [List.drop_eq_getElem_cons z] at q2; cases q2
          · exact z
        show R (.ok (.ret (.bool (decide (xs.toArray.size < ys.toArray.size))))) _
        rw [q1, q2] at h
        have : decide (xs.toArray.size < ys.toArray.size) = false := by simp; omega
        rw [this]; exact h
      | cons b' r' =>
        obtain ⟨r2, t2, hi2⟩ := (ints_at (i := i) hy).2 b' r' q2
        have hi1' : xs.toArray[((i : Nat) : Int).toNat]? = some (.int a t1) := by simpa using hi1
        have hi2' : ys.toArray[((i : Nat) : Int).toNat]? = some (.int b' t2) := by simpa using hi2
        wp_walk using wpAny_loadPart' hl, wpAny_loadPart' hb
        rw [hi1', hi2']
        rw [q1, q2] at h
        unfold ilt at h
        refine wpAny_bind (wpAny_eqBool_int ?_)
        by_cases q : a = b'
        · rw [if_pos q] at h
          subst q
          rw [beq_self_eq_true]
          wp_walk
          have hc : ((i : Int) + 1) = ((i + 1 : Nat) : Int) := by push_cast; rfl
          rw [hc]
          exact ⟨plainId_quiet plain_eq_loop _, codeAny_builtin entry_eq_loop (by
            rw [Around.under_plainId plain_eq_loop _]
            exact ih (i + 1) (by omega) (by
              rcases Nat.lt_or_ge i ns.length with z | z
              · exact z
              · rw [List.drop_eq_nil_of_le z] at q1; cases q1) (by
              rcases Nat.lt_or_ge i ms.length with z | z
              · exact z
              · rw [List.drop_eq_nil_of_le z] at q2; cases q2) prog w A R _ ⟨hl, hb, by rw [r1, r2]; exact h⟩)⟩
        · rw [if_neg q] at h
          have : (a == b') = false := by simpa using q
          rw [this]
          wp_walk using wpAny_loadPart' hl, wpAny_loadPart' hb
          rw [hi1', hi2']
          show wpAny _ _ (do
            let v ← richCompare CmpOp.Lt (Value.int a t1) (Value.int b' t2)
            ret v) _ _ _
          refine wpAny_bind ?_
          exact wpAny_lt_int (wpAny_pure h)

theorem list_lt_ints (l b : Addr) (xs ys : List Value) (n n2 : Nat) (ns ms : List Int) (hx : IntsAre xs ns) (hy : IntsAre ys ms) :
    Meets (Builtin.«list.__lt__» ⟨[.ref l, .ref b], []⟩)
      (fun A R s => s.heap.get? l = some { cls := .type "list", dict := none, data := .seq xs.toArray n, slots := #[] } ∧ s.heap.get? b = some { cls := .type "list", dict := none, data := .seq ys.toArray n2, slots := #[] } ∧
        R (.ok (.ret (.bool (ilt ns ms)))) s) := by
  intro prog w A R s h
  obtain ⟨hp, g, d, tk, os⟩ := s; obtain ⟨hl, hb, h⟩ := h
  have f3 := PySem.AutoSeq1.sub_list_list
  wp_walk using wpAny_loadPart' hl, wpAny_loadPart' hb
  exact ⟨plainId_quiet plain_eq_loop _, codeAny_builtin entry_eq_loop (by
    rw [Around.under_plainId plain_eq_loop _]
    exact lt_loop l b xs ys n n2 ns ms hx hy _ 0 rfl (Nat.zero_le _) (Nat.zero_le _) prog w A R _ ⟨hl, hb, by simpa using h⟩)⟩

section
variable {prog : Program} {w : World} {A : Around} {E : Value → Shared → Prop} {s : Shared}
theorem oneLt_ints {l b : Addr} {xs ys : List Value} {ns ms : List Int} {Q : Bool → Shared → Prop} (hu : A.units < cLine) (hl : s.heap.PlainList l xs.toArray) (hb : s.heap.PlainList b ys.toArray) (hx : IntsAre xs ns) (hy : IntsAre ys ms) (h : Q (ilt ns ms) s) :
    wpAny (model prog w) A (oneLt' true (.ref l) (.ref b)) Q E s := by
  obtain ⟨n, ho⟩ := hl
  obtain ⟨n2, ho2⟩ := hb
  rw [oneLt'_eq]
  simp only [if_true]
  refine wpAny_bind (wpAny_cRoomFor hu ?_)
  refine wpAny_bind (wpAny_callSpecialIfBound?_slot ⟨_, ho, rfl⟩ PySem.F.slot_list_lt (call_meets PySem.F.slot_list_lt ⟨_, ho, rfl⟩ PySem.F.entry_list_lt (PySem.F.args_list_lt_2 _ _) (list_lt_ints l b xs ys n n2 ns ms hx hy) ⟨ho, ho2, ?_⟩))
  exact wpAny_truthy_bool h
end
end Mine
-- part MJ
namespace Mine
open PySem PySem.W PySem.Calls PyProof.Rows

/-- a rule that speaks of a frame; what holds of the two tables -/
theorem no_frame2 {c : Cx} {σ : Sg} {A : Around} {s : Shared} {t : Sem Value} {R : Value → Shared → Prop} (G : c.Good σ s.heap)
    (H : ∀ L m, s.heap.Ns L m → σ L = none → wpAny c.M A t (fun x s' => (∀ p ∈ allBut L s.heap, s'.heap.get? p.1 = some p.2) ∧ R x s') Ef s) :
    wpAny c.M A t (fun x s' => (∀ a o, s.heap.get? a = some o → s'.heap.get? a = some o) ∧ R x s') Ef s := by
  obtain ⟨o₁, _, _, e₁, _⟩ := id c.g
  obtain ⟨o₂, _, _, e₂, _⟩ := id c.b
  have h1 := H mainGlobals c.mg (c.g.keeps G.base) (G.out e₁)
  have h2 := H builtinsNs c.mb (c.b.keeps G.base) (G.out e₂)
  refine wmono (wpAny_and h1 h2) fun x s' ⟨⟨k1, r⟩, k2, _⟩ => ⟨fun a o e => ?_, r⟩
  by_cases q : a = mainGlobals
  · exact k2 (a, o) (mem_allBut.mpr ⟨by rw [q]; decide, e⟩)
  · exact k1 (a, o) (mem_allBut.mpr ⟨q, e⟩)

def keyV (k : List Int × Int) : V := .tup [.lst (numV k.1), .int k.2]
def klt (x y : List Int × Int) : Bool := if x.1 = y.1 then decide (x.2 < y.2) else ilt x.1 y.1

/-- the answers of a sort's questions -/
def runT {α : Type} : KasT α → (Nat → Nat → Bool) → α
  | .ret a, _ => a
  | .ask i j k, lt => runT (k (lt i j)) lt
def bndT {α : Type} (n : Nat) : KasT α → Bool
  | .ret _ => true
  | .ask i j k => decide (i < n) && decide (j < n) && decide (i ≠ j) && bndT n (k true) && bndT n (k false)
theorem runT_wp {α : Type} {cmp : Nat → Nat → (Bool → Shared → Prop) → Shared → Prop} {lt : Nat → Nat → Bool} {n : Nat} {s : Shared} (h : ∀ i j C, i < n → j < n → i ≠ j → C (lt i j) s → cmp i j C s) {Q : α → Shared → Prop} : ∀ (t : KasT α), bndT n t = true → Q (runT t lt) s → t.kasWp cmp Q s
  | .ret a, _, q => q
  | .ask i j k, hb, q => by
    unfold bndT at hb
    simp only [Bool.and_eq_true, decide_eq_true_eq] at hb
    obtain ⟨⟨⟨⟨h1, h2⟩, h3⟩, h4⟩, h5⟩ := hb
    refine h i j _ h1 h2 h3 ?_
    unfold runT at q
    cases e : lt i j with
    | true => rw [e] at q; exact runT_wp h (k true) h4 q
    | false => rw [e] at q; exact runT_wp h (k false) h5 q
theorem runT_ext {α : Type} {lt lt' : Nat → Nat → Bool} {n : Nat} (h : ∀ i j, i < n → j < n → i ≠ j → lt i j = lt' i j) : ∀ (t : KasT α), bndT n t = true → runT t lt = runT t lt'
  | .ret a, _ => rfl
  | .ask i j k, hb => by
    unfold bndT at hb
    simp only [Bool.and_eq_true, decide_eq_true_eq] at hb
    obtain ⟨⟨⟨⟨h1, h2⟩, h3⟩, h4⟩, h5⟩ := hb
    unfold runT
    rw [h i j h1 h2 h3]
    cases e : lt' i j with
    | true => exact runT_ext h (k true) h4
    | false => exact runT_ext h (k false) h5

def lt3 (a b c d e f : Bool) (i j : Nat) : Bool :=
  match i, j with
  | 0, 1 => a | 1, 0 => b | 0, 2 => c | 2, 0 => d | 1, 2 => e | 2, 1 => f
  | _, _ => false
theorem sort2_bnd : bndT 2 (kas_sort 2) = true := by kernel_rfl
theorem sort3_bnd : bndT 3 (kas_sort 3) = true := by kernel_rfl
def headOk (n : Nat) (lt : Nat → Nat → Bool) (p : List Nat) : Bool :=
  (p.length == n) && p.all (fun i => decide (i < n)) && match p with
  | [] => true
  | h :: _ => (List.range n).all fun i => !lt i h
def all6 (P : Bool → Bool → Bool → Bool → Bool → Bool → Bool) : Bool :=
  [true, false].all fun a => [true, false].all fun b => [true, false].all fun c => [true, false].all fun d => [true, false].all fun e => [true, false].all fun f => P a b c d e f
theorem all6_at {P : Bool → Bool → Bool → Bool → Bool → Bool → Bool} (h : all6 P = true) (a b c d e f : Bool) : P a b c d e f = true := by
  unfold all6 at h
  simp only [List.all_cons, List.all_nil, Bool.and_true, Bool.and_eq_true] at h
  cases a <;> cases b <;> cases c <;> cases d <;> cases e <;> cases f <;> simp [h]
theorem sort2_ok : all6 (fun a b _ _ _ _ => !(a != b) || headOk 2 (lt3 a b false false false false) (runT (kas_sort 2) (lt3 a b false false false false)).toList) = true := by kernel_rfl
theorem sort3_ok : all6 (fun a b c d e f => !((a != b) && (c != d) && (e != f) && (!(a && e) || c) && (!(c && f) || a) && (!(b && c) || e) && (!(d && a) || f) && (!(e && d) || b) && (!(f && b) || d)) || headOk 3 (lt3 a b c d e f) (runT (kas_sort 3) (lt3 a b c d e f)).toList) = true := by kernel_rfl
end Mine
-- part MK
namespace Mine
open PySem PySem.W PySem.Calls PyProof.Rows

theorem ilt_tot : ∀ {x y : List Int}, x ≠ y → (ilt x y != ilt y x) = true
  | [], [], h => absurd rfl h
  | [], _ :: _, _ => rfl
  | _ :: _, [], _ => rfl
  | a :: x, b :: y, h => by
    unfold ilt
    by_cases q : a = b
    · subst q
      rw [if_pos rfl, if_pos rfl]
      exact ilt_tot fun z => h (by rw [z])
    · rw [if_neg q, if_neg (Ne.symm q)]
      by_cases z : a < b
      · have : ¬ b < a := by omega
        simp [z, this]
      · have : b < a := by omega
        simp [z, this]
theorem ilt_trans : ∀ {x y z : List Int}, ilt x y = true → ilt y z = true → ilt x z = true
  | [], [], _, h, _ => by simp [ilt] at h
  | [], _ :: _, [], _, h => by simp [ilt] at h
  | [], _ :: _, _ :: _, _, _ => rfl
  | _ :: _, [], _, h, _ => by simp [ilt] at h
  | a :: x, b :: y, [], _, h => by simp [ilt] at h
  | a :: x, b :: y, c :: z, h, k => by
    unfold ilt at h k ⊢
    by_cases q : a = b
    · subst q
      rw [if_pos rfl] at h
      by_cases r : a = c
      · subst r
        rw [if_pos rfl] at k ⊢
        exact ilt_trans h k
      · rw [if_neg r] at k ⊢
        exact k
    · rw [if_neg q] at h
      simp only [decide_eq_true_eq] at h
      by_cases r : b = c
      · subst r
        rw [if_neg q]
        simpa using h
      · rw [if_neg r] at k
        simp only [decide_eq_true_eq] at k
        rw [if_neg (by omega)]
        simp only [decide_eq_true_eq]
        omega
theorem klt_tot {x y : List Int × Int} (h : x.2 ≠ y.2) : (klt x y != klt y x) = true := by
  unfold klt
  by_cases q : x.1 = y.1
  · rw [if_pos q, if_pos q.symm]
    by_cases z : x.2 < y.2
    · have : ¬ y.2 < x.2 := by omega
      simp [z, this]
    · have : y.2 < x.2 := by omega
      simp [z, this]
  · rw [if_neg q, if_neg (Ne.symm q)]
    exact ilt_tot q
theorem klt_trans {x y z : List Int × Int} (h : klt x y = true) (k : klt y z = true) : klt x z = true := by
  unfold klt at h k ⊢
  by_cases q : x.1 = y.1
  · rw [if_pos q] at h
    by_cases r : y.1 = z.1
    · rw [if_pos r] at k
      rw [if_pos (q.trans r)]
      simp only [decide_eq_true_eq] at h k ⊢
      omega
    · rw [if_neg r] at k
      rw [if_neg (by rw [q]; exact r), q]
      exact k
  · rw [if_neg q] at h
    by_cases r : y.1 = z.1
    · rw [if_pos r] at k
      rw [if_neg (by rw [← r]; exact q), ← r]
      exact h
    · rw [if_neg r] at k
      have := ilt_trans h k
      by_cases t : x.1 = z.1
      · exfalso
        have z1 := ilt_tot q
        rw [t] at h z1
        rw [h, k] at z1
        simp at z1
      · rw [if_neg t]; exact this
theorem klt_irr (x : List Int × Int) : klt x x = false := by simp [klt]

theorem numV_inj : ∀ {x y : List Int}, numV x = numV y → x = y
  | [], [], _ => rfl
  | [], _ :: _, h => by simp [numV] at h
  | _ :: _, [], h => by simp [numV] at h
  | a :: x, b :: y, h => by
    simp only [numV, List.map_cons, List.cons.injEq, V.int.injEq] at h
    rw [h.1, numV_inj (x := x) (y := y) (by simpa [numV] using h.2)]

section
variable {c : Cx} {n : Nat} {σ : Sg} {Q : V → Sg → Prop}

theorem key_at {h : Heap} {k : List Int × Int} {x : Value} (I : VIn σ h (keyV k) x) : ∃ (a l : Addr) (e : Nat) (o : Obj) (ys : List Value) (t : Tok), x = .ref a ∧ h.get? a = some o ∧ o.cls = .type "tuple" ∧ o.data = .seq #[.ref l, .int k.2 t] e ∧ h.PlainList l ys.toArray ∧ IntsAre ys k.1 ∧ VIn σ h (.lst (numV k.1)) (.ref l) := by
  unfold keyV at I
  cases I with
  | tup ht hn hb hv =>
    cases hv with
    | cons i r =>
      cases r with
      | cons i' r =>
        cases r
        cases i'
        cases i with
        | lst hl hln hlb hlv =>
          obtain ⟨o, ho, hc, e, hd⟩ := ht
          exact ⟨_, _, e, o, _, _, rfl, ho, hc, hd, hl, ints_are hlv, .lst hl hln hlb hlv⟩
open Classical in
theorem ask_keys {A : Around} {s : Shared} {ks : List (List Int × Int)} {vs : List Value} (hu : A.units + 64 < cLine) (hl : ∀ k ∈ ks, k.1.length ≤ 100) (H : VAll σ s.heap (ks.map keyV) vs) {i j : Nat} (hi : i < ks.length) (hj : j < ks.length) (hne : ks[i].2 ≠ ks[j].2) {C : Bool → Shared → Prop}
    (h : C (klt ks[i] ks[j]) s) : kas_ask c.prog c.w A (tuples' true) vs i j C s := by
  unfold kas_ask
  obtain ⟨x, ex, Ix⟩ := H.get (k := i) (v := keyV ks[i]) (by simp [hi])
  obtain ⟨y, ey, Iy⟩ := H.get (k := j) (v := keyV ks[j]) (by simp [hj])
  have e1 : vs.getD i Value.none = x := by simp [List.getD, ex]
  have e2 : vs.getD j Value.none = y := by simp [List.getD, ey]
  rw [e1, e2]
  obtain ⟨a, l, e, o, xs, t, rfl, ho, hc, hd, hp, hI, hV⟩ := key_at Ix
  obtain ⟨a', l', e', o', ys, t', rfl, ho', hc', hd', hp', hI', hV'⟩ := key_at Iy
  refine kat_lt ho hd ho' hd' ?_
  show KatLex c.prog c.w A true _ C [(Value.ref l, Value.ref l'), (Value.int ks[i].2 t, Value.int ks[j].2 t')] 0 s
  have okk : ∀ k ∈ ks, okV 8 (.lst (numV k.1)) = true := fun k hk => by simp [okV, numV]
  have d1 := okk _ (List.getElem_mem hi)
  have d2 := okk _ (List.getElem_mem hj)
  obtain ⟨as, r1⟩ := reads_v 8 hV d1
  obtain ⟨bs, r2⟩ := reads_v 8 hV' d2
  have l1 := lay_v 8 _ d1
  have l2 := lay_v 8 _ d2
  refine kat_cons (SeqAt.eqAt_reads _ _ A s _ _ as bs r1 r2 l1.1 l2.1 (by have := Nat.min_le_left (toPy (V.lst (numV ks[i].1))).depth (toPy (V.lst (numV ks[j].1))).depth; omega) c.prog c.w _ _ ?_)
  rw [rd_eqv d1 d2]
  unfold klt at h
  by_cases q : ks[i].1 = ks[j].1
  · rw [if_pos q] at h
    rw [decide_eq_true (p := V.lst (numV ks[i].1) = V.lst (numV ks[j].1)) (by rw [q])]
    refine kat_yes (kat_cons (wpAny_eqBool_int ?_))
    have : (ks[i].2 == ks[j].2) = false := by simpa using hne
    rw [this]
    refine kat_no ?_
    show wpAny _ _ (oneLt' false _ _) _ _ _
    exact kat_one _ _ (wpAny_lt_int h)
  · rw [if_neg q] at h
    rw [decide_eq_false (p := V.lst (numV ks[i].1) = V.lst (numV ks[j].1)) (fun z => q (numV_inj (by injection z)))]
    refine kat_no ?_
    exact oneLt_ints (by omega) hp hp' hI hI' h

theorem tups_at {h : Heap} : ∀ {ks : List (List Int × Int)} {vs : List Value}, VAll σ h (ks.map keyV) vs → ∃ fs, KatTups h vs fs ∧ fs.length = ks.length ∧ ∀ f ∈ fs, ∃ l o, f = .ref l ∧ h.get? l = some o ∧ o.cls = .type "list"
  | [], _, .nil => ⟨[], trivial, rfl, fun f hf => by simp at hf⟩
  | k :: ks, _, .cons I J => by
    obtain ⟨fs, t, hl, hf⟩ := tups_at J
    obtain ⟨a, l, e, o, ys, tk, rfl, ho, hc, hd, ⟨e2, hp⟩, hI, hV⟩ := key_at I
    refine ⟨.ref l :: fs, .cons ho hc hd (by simp) t, by simp [hl], fun f hm => ?_⟩
    rcases List.mem_cons.mp hm with rfl | hm
    · exact ⟨l, _, rfl, hp, rfl⟩
    · exact hf f hm

/-- what a sort of two or three keys leaves -/
theorem sorted_fact {ks : List (List Int × Int)} (h2 : 2 ≤ ks.length) (h3 : ks.length ≤ 3) (hd : ∀ i j (hi : i < ks.length) (hj : j < ks.length), i ≠ j → ks[i].2 ≠ ks[j].2) :
    ∃ lt : Nat → Nat → Bool, (∀ i j (hi : i < ks.length) (hj : j < ks.length), i ≠ j → lt i j = klt ks[i] ks[j]) ∧ bndT ks.length (kas_sort ks.length) = true ∧ headOk ks.length lt (runT (kas_sort ks.length) lt).toList = true := by
  match ks, h2, h3 with
  | [x, y], _, _ =>
    have hxy := hd 0 1 (by simp) (by simp) (by simp)
    refine ⟨lt3 (klt x y) (klt y x) false false false false, fun i j hi hj hne => ?_, sort2_bnd, ?_⟩
    · simp only [List.length_cons, List.length_nil] at hi hj
      match i, j, hne with
      | 0, 1, _ => rfl
      | 1, 0, _ => rfl
      | 0, 0, h => exact absurd rfl h
      | 1, 1, h => exact absurd rfl h
      | n + 2, _, _ => omega
      | 0, n + 2, _ => omega
      | 1, n + 2, _ => omega
    · have := all6_at sort2_ok (klt x y) (klt y x) false false false false
      have t : (klt x y != klt y x) = true := klt_tot hxy
      rw [t] at this
      simpa using this
  | [x, y, z], _, _ =>
    have hxy : (klt x y != klt y x) = true := klt_tot (hd 0 1 (by simp) (by simp) (by simp))
    have hxz : (klt x z != klt z x) = true := klt_tot (hd 0 2 (by simp) (by simp) (by simp))
    have hyz : (klt y z != klt z y) = true := klt_tot (hd 1 2 (by simp) (by simp) (by simp))
    refine ⟨lt3 (klt x y) (klt y x) (klt x z) (klt z x) (klt y z) (klt z y), fun i j hi hj hne => ?_, sort3_bnd, ?_⟩
    · simp only [List.length_cons, List.length_nil] at hi hj
      match i, j, hne with
      | 0, 1, _ => rfl
      | 1, 0, _ => rfl
      | 0, 2, _ => rfl
      | 2, 0, _ => rfl
      | 1, 2, _ => rfl
      | 2, 1, _ => rfl
      | 0, 0, h => exact absurd rfl h
      | 1, 1, h => exact absurd rfl h
      | 2, 2, h => exact absurd rfl h
      | n + 3, _, _ => omega
      | 0, n + 3, _ => omega
      | 1, n + 3, _ => omega
      | 2, n + 3, _ => omega
    · have := all6_at sort3_ok (klt x y) (klt y x) (klt x z) (klt z x) (klt y z) (klt z y)
      have tr : ∀ {a b c : List Int × Int}, (!(klt a b && klt b c) || klt a c) = true := by
        intro a b c
        cases h1 : klt a b with
        | false => rfl
        | true => cases h2 : klt b c with
          | false => rfl
          | true => rw [klt_trans h1 h2]; rfl
      have t1 := @tr x y z
      have t2 := @tr x z y
      have t3 := @tr y x z
      have t4 := @tr z x y
      have t5 := @tr y z x
      have t6 := @tr z y x
      rw [hxy, hxz, hyz, t1, t2, t3, t4, t5, t6] at this
      simpa using this
end
end Mine
-- part ML
namespace Mine
open PySem PySem.W PySem.Calls PyProof.Rows

section
variable {prog : Program} {w : World} {A : Around} {E : Value → Shared → Prop} {s : Shared}
theorem sort_short {a : Addr} {vs : List Value} {n : Nat} {P : PySem.Fin → Shared → Prop} (ho : s.heap.get? a = some (seqObj "list" vs.toArray n)) (h1 : vs.length < 2)
    (h : P (.done (.ret .none)) { s with heap := sortedHeap s.heap a vs vs.toArray }) :
    wpAny (model prog w) A (Builtin.«list.sort» ⟨[.ref a], []⟩) P E s := by
  rw [list_sort_plain]
  have ha : a < s.heap.objs.size := Heap.lt_size ho
  refine wpAny_bind (listItems_at ho rfl ?_)
  refine wpAny_bind (listUpdate_at ho rfl ?_)
  obtain ⟨e1, ho1⟩ : ∃ e1, (s.heap.update a (Obj.mapSeq fun _ => #[])).get? a = some (seqObj "list" #[] e1) := ⟨_, get?_update_seq ho (fun _ => #[])⟩
  refine wpAny_bind (seqEpoch_at ho1 rfl ?_)
  refine wpAny_bind (wpAny_newTuple ?_)
  refine wpAny_bind (wpAny_newList ?_)
  refine wpAny_holding ?_
  have ho6 : (((s.heap.update a (Obj.mapSeq fun _ => #[])).push (seqObj "tuple" vs.toArray 0)).push (seqObj "list" #[] 0)).get? a = some (seqObj "list" #[] e1) := by
    rw [Heap.get?_push_ne _ _ _ (by rw [size_push', Heap.size_update]; exact Nat.ne_of_lt (Nat.lt_succ_of_lt ha)), Heap.get?_push_ne _ _ _ (by rw [Heap.size_update]; exact Nat.ne_of_lt ha)]
    exact ho1
  show wpAny (model prog w) A _ P E { s with heap := ((s.heap.update a (Obj.mapSeq fun _ => #[])).push (seqObj "tuple" vs.toArray 0)).push (seqObj "list" #[] 0) }
  dsimp only
  have h2 : vs.toArray.size < 2 := by simpa using h1
  rw [if_pos h2, if_pos h2]
  refine wpAny_bind (wpAny_pure ?_)
  rw [StateT.run_pure]
  refine wpAny_bind (wpAny_pure ?_)
  dsimp only
  refine wpAny_bind (seqEpoch_at ho6 rfl ?_)
  have ho7 := ho6
  refine wpAny_bind (listUpdate_at ho6 rfl ?_ (hsz2 := by rw [Array.size_map]; show (pairsOf vs).size ≤ _; rw [pairsOf_size, sizeLine_eq]; omega))
  simp only [bne_self_eq_false, Bool.false_eq_true, if_false]
  refine wpAny_pure ?_
  have e : (arrOf (SortSt.mk' general' (vs.toArray.zip vs.toArray) #[] 7 none)).map (·.2) = vs.toArray := by
    show (vs.toArray.zip vs.toArray).map (·.2) = _
    match vs, h1 with
    | [], _ => simp
    | [x], _ => simp
    | _ :: _ :: _, h => simp at h; omega
  rw [e]
  exact h
theorem sorted_short {l : Addr} {vs : List Value} {Q : Value → Shared → Prop} (hl : s.heap.IsList l vs.toArray) (h1 : vs.length < 2)
    (h : Q (.ref (s.heap.objs.size + 1)) { s with heap := sortedAll s.heap vs vs.toArray }) :
    wpAny (model prog w) A (call (.builtin "sorted") [.ref l]) Q E s := by
  refine Calls.call_function_entry kind_sorted plain_sorted entry_sorted (args_sorted1 _) ?_
  unfold Builtin.«sorted»
  refine wpAny_bind (m := checkCount "sorted" 1 1 _) (wpAny_pure ?_)
  refine wpAny_bind (collect_list hl ?_)
  refine wpAny_bind (wpAny_newList ?_)
  have hsz : ((s.heap.push (seqObj "list" #[] 0)).update s.heap.objs.size (Obj.mapSeq (· ++ vs.toArray))).objs.size = s.heap.objs.size + 1 := by
    rw [Heap.size_update, size_push']
  have hoL : (((s.heap.push (seqObj "list" #[] 0)).update s.heap.objs.size (Obj.mapSeq (· ++ vs.toArray))).push (seqObj "list" vs.toArray 0)).get? (s.heap.objs.size + 1) = some (seqObj "list" vs.toArray 0) := by
    rw [← hsz]; exact Heap.get?_push_size _ rfl
  show wpAny _ _ _ _ _ { s with heap := ((s.heap.push (seqObj "list" #[] 0)).update s.heap.objs.size (Obj.mapSeq (· ++ vs.toArray))).push (seqObj "list" vs.toArray 0) }
  rw [hsz]
  refine wpAny_bind (wpAny_holding (wpAny_call_entry slot_list_sort ⟨_, hoL, rfl⟩ entry_list_sort (sort_short hoL h1 ⟨_, rfl, ?_⟩) (args_list_sort _)))
  exact wpAny_pure ⟨_, rfl, h⟩
end

section
variable {c : Cx} {n : Nat} {σ : Sg} {Q : V → Sg → Prop}
theorem VAll.pick {h : Heap} {vs : List V} {xs : List Value} (H : VAll σ h vs xs) : ∀ (p : List Nat), (∀ i ∈ p, i < vs.length) → VAll σ h (p.map fun i => vs.getD i V.none) (p.map fun i => xs.getD i Value.none)
  | [], _ => .nil
  | i :: p, hp => by
    have hi := hp i (.head _)
    obtain ⟨x, e, I⟩ := H.get (k := i) (v := vs[i]) (by simp [hi])
    refine .cons ?_ (VAll.pick H p fun j hj => hp j (.tail _ hj))
    have e1 : vs.getD i V.none = vs[i] := by simp [List.getD, hi]
    have e2 : xs.getD i Value.none = x := by simp [List.getD, e]
    show VIn σ h (vs.getD i V.none) (xs.getD i Value.none)
    rw [e1, e2]; exact I

theorem c_sorted_keys {ks : List (List Int × Int)} (h3 : ks.length ≤ 3) (hl : ∀ k ∈ ks, k.1.length ≤ 100) (hd : ∀ i j (hi : i < ks.length) (hj : j < ks.length), i ≠ j → ks[i].2 ≠ ks[j].2)
    (h : ∀ ks' : List (List Int × Int), ks'.length = ks.length → (∀ k r, ks' = k :: r → k ∈ ks ∧ ∀ e ∈ ks, klt e k = false) → Q (.lst (ks'.map keyV)) σ) : CallV c n (.builtin "sorted") [.lst (ks.map keyV)] σ Q := by
  intro A s xs R G I
  cases I with
  | cons I J =>
    cases J
    cases I with
    | lst ht hn hb hv =>
      rename_i a vs
      have hlen := hv.length
      simp only [List.length_map] at hlen
      by_cases h2 : ks.length < 2
      · refine sorted_short ht.isList (by omega) ?_
        obtain ⟨e, he⟩ := sortedAll_at s.heap vs vs.toArray
        have k : ∀ b o, s.heap.get? b = some o → (sortedAll s.heap vs vs.toArray).get? b = some o := fun _ _ => sortedAll_old
        have T := (keep_step (s' := { s with heap := sortedAll s.heap vs vs.toArray }) G k ⟨rfl, rfl, rfl⟩).1
        refine post_keep G k ⟨rfl, rfl, rfl⟩ (.lst ⟨_, he⟩ (G.nofresh (Nat.le_succ _)) hb (hv.step T apart_no)) (h ks rfl ?_)
        rintro k r rfl
        cases r with
        | nil => exact ⟨.head _, fun e he => by simp at he; rw [he]; exact klt_irr _⟩
        | cons _ _ => simp at h2; omega
      · obtain ⟨lt, hlt, hbnd, hok⟩ := sorted_fact (by omega) h3 hd
        have key := no_frame2 (t := call (.builtin "sorted") [.ref a]) (A := A) (R := fun x s' => (s'.gens = s.gens ∧ s'.drawn = s.drawn ∧ s'.os = s.os) ∧ ∃ r, x = .ref r ∧ s'.heap.PlainList r (List.toArray ((runT (kas_sort ks.length) lt).toList.map fun i => vs.getD i Value.none)) ∧ σ r = none) G fun L m hm hL => by
          refine kat_sorted (fr_any hm) news_any ht.isList (by omega) (by omega) fun D e1 h' F N hD => ?_
          have kp : ∀ b o, b ≠ L → s.heap.get? b = some o → h'.get? b = some o := fun b o hb e => (N (b, o) (.tail _ (mem_allBut.mpr ⟨hb, e⟩))).1
          have T : Step (fun x => x = L) σ s σ { s with heap := h' } := ⟨fun b o e _ p => kp b o p e, fun _ e _ => e, fun _ e => .inl e, rfl, rfl, rfl⟩
          have Fp : Apart (fun x => x = L) σ s.heap := by
            rintro x rfl
            refine ⟨hL, fun o ho => ?_⟩
            obtain ⟨o', es, ep, ho', hd, _⟩ := hm
            rw [ho] at ho'; cases ho'
            rw [hd]; exact ⟨⟨fun e => (nomatch e), fun _ _ e => (nomatch e)⟩, fun _ e => (nomatch e)⟩
          have hv' : VAll σ h' (ks.map keyV) vs := hv.step T Fp
          obtain ⟨fs, ft, fl, ff⟩ := tups_at hv'
          refine kat_kind (T := .type "list") ft (by omega) (fun f hf => ?_) (by rfl) ?_
          · obtain ⟨l, o, rfl, ho, hc⟩ := ff f hf
            have : Looks (model c.prog c.w) h' (typeOf (.ref l)) o.cls := (Looks.ld ho).andThen .now
            rw [hc] at this; exact this
          · show (kas_sort vs.length).kasWp (kas_ask c.prog c.w A.in1.in1 (tuples' true) vs) _ _
            rw [← hlen]
            refine runT_wp (n := ks.length) (lt := lt) (fun i j C hi hj hne hC => ?_) _ hbnd ?_
            · refine ask_keys (ks := ks) ?_ hl hv' hi hj (hd i j hi hj hne) (by rw [← hlt i j hi hj hne]; exact hC)
              have := R.units
              show A.units + 1 + 1 + 64 < cLine
              omega
            · refine KasFin.intro F N (.head fun p hp => Nat.ne_of_lt (hD p hp)) fun h'' c' F' N' => ?_
              have hDn : s.heap.get? D = none := by
                cases q : s.heap.get? D with
                | none => rfl
                | some o => exact absurd (hD (D, o) (mem_allBut.mpr ⟨(N' _ (.head _)).2.1, q⟩)) (Nat.lt_irrefl _)
              refine ⟨fun p hp => (N' p (.tail _ hp)).1, ⟨rfl, rfl, rfl⟩, D, rfl, ⟨c', (N' _ (.head _)).1⟩, ?_⟩
              cases q : σ D with
              | none => rfl
              | some z =>
                obtain ⟨o, e⟩ := G.alive (a := D) (by rw [q]; exact fun z => nomatch z)
                rw [hDn] at e; cases e
        refine wmono key fun x s' ⟨k, r, z, e, hp, hz⟩ => ?_
        subst e
        have T := (keep_step G k r).1
        generalize hpp : (runT (kas_sort ks.length) lt).toList = p at *
        unfold headOk at hok
        simp only [Bool.and_eq_true, beq_iff_eq] at hok
        obtain ⟨⟨pl, pc⟩, ph⟩ := hok
        have pin : ∀ i ∈ p, i < ks.length := by
          intro i hi; simpa using List.all_eq_true.mp pc i hi
        have hv2 := (hv.step T apart_no).pick p (by simpa using pin)
        have e1 : (p.map fun i => (ks.map keyV).getD i V.none) = (p.map fun i => ks.getD i ([], 0)).map keyV := by
          rw [List.map_map]
          refine List.map_congr_left fun i hi => ?_
          have := pin i hi
          simp [List.getD, this]
        rw [e1] at hv2
        refine post_keep G k r (.lst hp hz (by simp only [List.length_map, pl]; exact Nat.le_trans h3 (by decide)) hv2) (h _ (by simp [pl]) ?_)
        intro k0 r0 he
        cases p with
        | nil => simp at he
        | cons i p =>
          simp only [List.map_cons, List.cons.injEq] at he
          have hi := pin i (.head _)
          have e2 : k0 = ks[i] := by rw [← he.1]; simp [List.getD, hi]
          refine ⟨e2 ▸ List.getElem_mem hi, fun e hm => ?_⟩
          obtain ⟨j, hj, rfl⟩ := List.mem_iff_getElem.mp hm
          rw [e2]
          by_cases q : j = i
          · subst q; exact klt_irr _
          · rw [← hlt j i hj hi q]
            have := List.all_eq_true.mp ph j (List.mem_range.mpr hj)
            simpa using this
end
end Mine
-- part MM
namespace Mine
open PySem PySem.W PySem.Calls PyProof.Rows

def rsets : Rho → List Str → List V → Rho
  | ρ, x :: xs, v :: vs => rsets (rset ρ x v) xs vs
  | ρ, _, _ => ρ

section
variable {c : Cx} {n : Nat} {sc : Scope} {ρ : Rho} {σ : Sg} {Q : V → Sg → Prop}

theorem VAll.reverse {h : Heap} : ∀ {vs : List V} {xs : List Value}, VAll σ h vs xs → VAll σ h vs.reverse xs.reverse
  | [], _, .nil => .nil
  | v :: vs, _, .cons I J => by
    rw [List.reverse_cons, List.reverse_cons]
    exact (VAll.reverse J).append (.one I)

theorem bind_names {A : Around} {env : Env} {K : Rho → Sg → Prop} {names : List Str} : ∀ {vs : List V} {xs : List Value} {ρ : Rho} {s : Shared}, (names.all fun x => storeNOk sc x) = true → Co c n sc ρ σ A env s → VAll σ s.heap vs xs → names.length = vs.length → K (rsets ρ names vs) σ →
    wpAny c.M A (assignInOrder (names.map fun x => bindName env x) xs) (PostA c sc σ env s K) Ef s := by
  induction names with
  | nil =>
    intro vs xs ρ s _ C I hl h
    cases vs with
    | nil => cases I; exact wpAny_pure ⟨σ, ρ, Step.refl _ _, C.good, C.loc, h⟩
    | cons _ _ => simp at hl
  | cons x names ih =>
    intro vs xs ρ s hk C I hl h
    cases I with
    | nil => simp at hl
    | cons I J =>
      rename_i v vs y xs
      simp only [List.all_cons, Bool.and_eq_true] at hk
      show wpAny c.M A (do holding xs (bindName env x y); assignInOrder (names.map fun x => bindName env x) xs) _ _ s
      refine wpAny_bind (wpAny_holding (wpAny_bindName (wmono (store_name (K := fun ρ' σ' => ρ' = rset ρ x v ∧ σ' = σ) C hk.1 I ⟨rfl, rfl⟩) fun _ s₁ ⟨σ₁, ρ₁, S, G, L, e1, e2⟩ => ?_)))
      subst e1; subst e2
      exact wmono (ih hk.2 ⟨C.room, L, G⟩ (J.step S C.loc.frp) (by simpa using hl) h) fun _ _ => PostA.trans S

theorem x_swap {elts : List Expr} {k : Nat} {tpos pos : Pos} {value : Expr} {names : List Str} {N : Rho → Sg → Prop} {R : V → Sg → Prop}
    (hs : ∀ env, swapsWithSole [.Tuple elts k tpos] value pos.line env = pure false) (hw : ∀ env, env.scope = sc → swappedStores [.Tuple elts k tpos] value env = pure (some names)) (hk : (names.reverse.all fun x => storeNOk sc x) = true)
    (h : EvE c n sc ρ σ value fun v σ₁ => ∃ vs, v = .tup vs ∧ vs.length = names.length ∧ N (rsets ρ names.reverse vs.reverse) σ₁) : Ex1 c n sc ρ σ (.Assign [.Tuple elts k tpos] value pos) N R := by
  intro A env s C
  refine Assign_Tuple_swapped (names := names) (wmono (h A env s C) fun x s₁ ⟨σ₁, v, S, G, I, vs, e, hl, q⟩ => ?_) (hs env) (hw env C.loc.scope)
  subst e
  cases I with
  | @tup a _ xs ht hn hb hv =>
    have hlen := hv.length
    have e : names.length = xs.toArray.size := by simp; omega
    rw [e]
    refine unpackItems_tuple C.room.1 ht fun h' he => ?_
    obtain ⟨S', G'⟩ := ext_step (P := No) G he s₁.toks
    have C' : Co c n sc ρ σ₁ A env { s₁ with heap := h' } := ⟨C.room, (C.loc.step S).step S', G'⟩
    have R' := hv.reverse.step S' apart_no
    refine wmono (bind_names (K := fun ρ' σ' => N ρ' σ') (vs := vs.reverse) hk C' R' (by simp [hl]) q) fun _ s₂ ⟨σ₂, ρ₂, S₂, G₂, L₂, q₂⟩ => ?_
    exact ⟨σ₂, ρ₂, ((S.trans S').mono fun _ => False.elim).trans S₂, G₂, L₂, q₂⟩
end

/-! what is no longer named need not be told -/
mutual
inductive RefsV (σ : Sg) : V → Prop
  | none : RefsV σ .none
  | bool (b : Bool) : RefsV σ (.bool b)
  | int (i : Int) : RefsV σ (.int i)
  | str (x : Str) : RefsV σ (.str x)
  | tup {vs : List V} : RefsL σ vs → RefsV σ (.tup vs)
  | lst {vs : List V} : RefsL σ vs → RefsV σ (.lst vs)
  | ref {a : Addr} : Ob σ a → RefsV σ (.ref a)
  | inst {C l : Addr} : Ob σ l → RefsV σ (.inst C l)
  | rng (lo hi : Int) : RefsV σ (.rng lo hi)
inductive RefsL (σ : Sg) : List V → Prop
  | nil : RefsL σ []
  | cons {v : V} {vs : List V} : RefsV σ v → RefsL σ vs → RefsL σ (v :: vs)
end
mutual
theorem VIn.refs {σ : Sg} {h : Heap} : ∀ {v : V} {x : Value}, VIn σ h v x → RefsV σ v
  | _, _, .none => .none
  | _, _, .bool b => .bool b
  | _, _, .int i _ => .int i
  | _, _, .str x _ => .str x
  | _, _, .tup _ _ _ r => .tup (VAll.refs r)
  | _, _, .lst _ _ _ r => .lst (VAll.refs r)
  | _, _, .ref h => .ref h
  | _, _, .inst _ _ h => .inst h
  | _, _, .rng _ _ => .rng _ _
theorem VAll.refs {σ : Sg} {h : Heap} : ∀ {vs : List V} {xs : List Value}, VAll σ h vs xs → RefsL σ vs
  | _, _, .nil => .nil
  | _, _, .cons a r => .cons (VIn.refs a) (VAll.refs r)
end
/-- the one knows less -/
def Sub (σ'' σ' : Sg) : Prop := ∀ a, σ'' a = σ' a ∨ σ'' a = none
mutual
theorem VIn.sub {σ σ'' : Sg} {h : Heap} (S : Sub σ'' σ) : ∀ {v : V} {x : Value}, VIn σ h v x → RefsV σ'' v → VIn σ'' h v x
  | _, _, .none, _ => .none
  | _, _, .bool b, _ => .bool b
  | _, _, .int i t, _ => .int i t
  | _, _, .str x t, _ => .str x t
  | _, _, .tup ht hn hb r, .tup k => .tup ht ((S _).elim (fun e => e.trans hn) id) hb (VAll.sub S r k)
  | _, _, .lst ht hn hb r, .lst k => .lst ht ((S _).elim (fun e => e.trans hn) id) hb (VAll.sub S r k)
  | _, _, .ref _, .ref k => .ref k
  | _, _, .inst ho hn _, .inst k => .inst ho ((S _).elim (fun e => e.trans hn) id) k
  | _, _, .rng hr hn, _ => .rng hr ((S _).elim (fun e => e.trans hn) id)
theorem VAll.sub {σ σ'' : Sg} {h : Heap} (S : Sub σ'' σ) : ∀ {vs : List V} {xs : List Value}, VAll σ h vs xs → RefsL σ'' vs → VAll σ'' h vs xs
  | _, _, .nil, _ => .nil
  | _, _, .cons a r, .cons k l => .cons (VIn.sub S a k) (VAll.sub S r l)
end
def RefsO (σ : Sg) : AO → Prop
  | .list _ vs => RefsL σ vs
  | .idict _ es => RefsL σ (es.map (·.2))
  | .sdict _ es => RefsL σ (es.map (·.2))
  | .ns _ fs => RefsL σ (fs.map (·.2))
  | .iter vs => RefsL σ vs
  | .giter _ _ => True
  | .enum _ _ _ vs => RefsL σ vs
  | .acc vs => RefsL σ vs
theorem NsE.refs {σ : Sg} {h : Heap} : ∀ {fs : List (Str × V)} {es : List DictEntry}, NsE σ h fs es → RefsL σ (fs.map (·.2))
  | _, _, .nil => .nil
  | _, _, .cons a r => .cons a.refs (NsE.refs r)
theorem NsE.sub {σ σ'' : Sg} {h : Heap} (S : Sub σ'' σ) : ∀ {fs : List (Str × V)} {es : List DictEntry}, NsE σ h fs es → RefsL σ'' (fs.map (·.2)) → NsE σ'' h fs es
  | _, _, .nil, _ => .nil
  | _, _, .cons a r, .cons k l => .cons (a.sub S k) (NsE.sub S r l)
theorem refs_range {σ : Sg} : ∀ (l : List Nat) (f : Nat → Int), RefsL σ (l.map fun k => V.int (f k))
  | [], _ => .nil
  | _ :: l, f => .cons (.int _) (refs_range l f)
theorem OIn.refs {prog : Program} {w : World} {σ : Sg} {h : Heap} {a : Addr} {o : AO} (H : OIn prog w σ h a o) : RefsO σ o := by
  cases o with
  | list t vs => obtain ⟨xs, _, _, hv⟩ := H; exact hv.refs
  | idict t es => obtain ⟨xs, _, _, _, hv, _⟩ := H; exact hv.refs
  | sdict t es => obtain ⟨xs, _, _, _, hv, _⟩ := H; exact hv.refs
  | ns t fs => obtain ⟨es, k, _, _, hv⟩ := H; exact hv.refs
  | iter vs =>
    rcases H with (⟨l, i, xs, _, _, _, hv⟩ | ⟨l, i, xs, _, _, _, hv⟩ | ⟨x, left, _, rfl⟩)
    · exact hv.refs
    · exact hv.refs
    · exact refs_range _ fun k => x + k
  | giter l i => trivial
  | enum it l i vs => obtain ⟨old, xs, _, _, _, hv⟩ := H; exact hv.refs
  | acc vs => obtain ⟨xs, _, _, hv⟩ := H; exact hv.refs
theorem OIn.sub {prog : Program} {w : World} {σ σ'' : Sg} {h : Heap} {a : Addr} {o : AO} (S : Sub σ'' σ) (H : OIn prog w σ h a o) (k : RefsO σ'' o) : OIn prog w σ'' h a o := by
  have hn : ∀ {l}, σ l = none → σ'' l = none := fun {l} e => (S l).elim (fun q => q.trans e) id
  cases o with
  | list t vs => obtain ⟨xs, h1, h2, hv⟩ := H; exact ⟨xs, h1, h2, hv.sub S k⟩
  | idict t es => obtain ⟨xs, h1, h2, h3, hv, h4⟩ := H; exact ⟨xs, h1, h2, h3, hv.sub S k, h4⟩
  | sdict t es => obtain ⟨xs, h1, h2, h3, hv, h4⟩ := H; exact ⟨xs, h1, h2, h3, hv.sub S k, h4⟩
  | ns t fs => obtain ⟨es, n, h1, h2, hv⟩ := H; exact ⟨es, n, h1, h2, hv.sub S k⟩
  | iter vs =>
    rcases H with (⟨l, i, xs, h1, h2, h3, hv⟩ | ⟨l, i, xs, h1, h2, h3, hv⟩ | ⟨x, left, h1, h2⟩)
    · exact .inl ⟨l, i, xs, h1, h2, hn h3, hv.sub S k⟩
    · exact .inr (.inl ⟨l, i, xs, h1, h2, hn h3, hv.sub S k⟩)
    · exact .inr (.inr ⟨x, left, h1, h2⟩)
  | giter l i => exact H
  | enum it l i vs => obtain ⟨old, xs, h1, h2, h3, hv⟩ := H; exact ⟨old, xs, h1, h2, hn h3, hv.sub S k⟩
  | acc vs => obtain ⟨xs, h1, h2, hv⟩ := H; exact ⟨xs, h1, h2, hv.sub S k⟩

section
variable {c : Cx} {n : Nat} {σ : Sg} {Q : V → Sg → Prop}
theorem drop_ghosts {s s' : Shared} {σ' σ'' : Sg} (S : Step No σ s σ' s') (G' : c.Good σ' s'.heap) (hs : Sub σ'' σ') (hd : ∀ a, Ob σ a → Ob σ'' a) (hr : ∀ a o, σ'' a = some o → RefsO σ'' o) : Step No σ s σ'' s' ∧ c.Good σ'' s'.heap := by
  refine ⟨⟨S.keep, fun a h _ => hd a h, fun a h => S.fresh a ?_, S.rest⟩, G'.base, fun a h => G'.off a ?_, fun a o e => ?_⟩
  · rcases hs a with q | q
    · rw [← q]; exact h
    · exact absurd q h
  · rcases hs a with q | q
    · rw [← q]; exact h
    · exact absurd q h
  · rcases hs a with q | q
    · exact (G'.objs a o (q.symm.trans e)).sub hs (hr a o e)
    · rw [q] at e; cases e
/-- a call that leaves all ghosts as they were -/
theorem CallV.pure {f : Value} {vs : List V} (h : CallV c n f vs σ fun v σ' => (∀ a, σ a ≠ none → σ' a = σ a) ∧ RefsV σ v ∧ Q v σ) : CallV c n f vs σ Q := by
  intro A s xs R G I
  refine wmono (h A s xs R G I) fun x s' ⟨σ', v, S, G', I', hp, hr, q⟩ => ?_
  have hs : Sub σ σ' := fun a => by
    cases e : σ a with
    | none => exact .inr rfl
    | some o => exact .inl (by rw [hp a (by rw [e]; exact fun z => nomatch z), e])
  obtain ⟨S₂, G₂⟩ := drop_ghosts S G' hs (fun _ h => h) fun a o e => (G.objs a o e).refs
  exact ⟨σ, v, S₂, G₂, I'.sub hs hr, q⟩
end
end Mine
-- part MN
namespace Mine
open PySem PySem.W PySem.Calls PyProof.Rows

theorem upd_comm {σ : Sg} {a b : Addr} {o p : AO} (h : a ≠ b) : upd (upd σ a o) b p = upd (upd σ b p) a o := by
  funext x; unfold upd
  by_cases q : x = a
  · subst q; simp [h]
  · by_cases q' : x = b <;> simp [q, q', Ne.symm h]
theorem del_del {σ : Sg} {a b : Addr} {o p : AO} (ha : σ a = none) (hb : σ b = none) : del (del (upd (upd σ a o) b p) a) b = σ := by
  funext x; unfold del upd; by_cases q : x = b
  · rw [if_pos q, q, hb]
  · rw [if_neg q]; by_cases q' : x = a
    · rw [if_pos q', q', ha]
    · rw [if_neg q', if_neg q, if_neg q']

theorem capt_nil {scope sc : Scope} {ρ : Rho} : Capt scope sc ρ [] := fun x v e => by simp at e
theorem capt_cons {scope sc : Scope} {ρ ρc : Rho} {x : Str} {v : V} (h1 : ρ.lookup x = some v) (h2 : ((relS scope sc).names.lookup x != some .local) = true) (h : Capt scope sc ρ ρc) : Capt scope sc ρ ((x, v) :: ρc) := by
  intro y u e
  rw [List.lookup_cons] at e
  cases q : (y == x) with
  | true =>
    rw [q] at e; cases e
    rw [beq_iff_eq] at q; subst q
    exact ⟨h1, by simpa using h2⟩
  | false => rw [q] at e; exact h y u e
theorem wk_refl {ρ : Rho} : ∀ x v, ρ.lookup x = some v → ρ.lookup x = some v := fun _ _ e => e
theorem wk_set {ρc ρ : Rho} {y : Str} {u : V} (hy : ρc.lookup y = none) (h : ∀ x v, ρc.lookup x = some v → ρ.lookup x = some v) : ∀ x v, ρc.lookup x = some v → (rset ρ y u).lookup x = some v := by
  intro x v e
  rw [rset_lookup]
  have : (x == y) = false := by
    cases q : (x == y) with
    | false => rfl
    | true => rw [beq_iff_eq] at q; subst q; rw [hy] at e; cases e
  rw [this]
  exact h x v e
section
variable {c : Cx} {n : Nat} {sc : Scope} {ρ : Rho} {σ : Sg} {Q : V → Sg → Prop}

theorem CT.mono {t : Expr} {v : V} {K K' : Rho → Sg → Prop} (h : CT c n sc ρ σ t v K) (k : ∀ ρ σ, K ρ σ → K' ρ σ) : CT c n sc ρ σ t v K' :=
  fun A env s x C I => wmono (h A env s x C I) fun _ _ ⟨σ', ρ', S, G, L, q⟩ => ⟨σ', ρ', S, G, L, k _ _ q⟩
theorem EvIfs.mono {ifs : List Expr} {Q Q' : Bool → Sg → Prop} (h : EvIfs c n sc ρ σ ifs Q) (k : ∀ b σ, Q b σ → Q' b σ) : EvIfs c n sc ρ σ ifs Q' := by
  match ifs, h with
  | [], h => exact k _ _ h
  | [t], h => exact fun A env s C => wmono (h A env s C) fun b s' ⟨σ', S, G, q⟩ => ⟨σ', S, G, k _ _ q⟩

/-- a block that turns nothing -/
theorem pure_step {elt target : Expr} {ifs : List Expr} {scope : Scope} (ρc : Rho) (vs : List V) (f : V → Option V) (hb : vs.length ≤ big) {Fn : Addr → List V → Sg → Prop}
    (step : ∀ σ', (∀ x, σ x ≠ none → σ' x = σ x) → ∀ v ∈ vs, CT c n (relS scope sc) ρc σ' target v fun ρ₁ σ₁ => σ₁ = σ' ∧ (∀ x v, ρc.lookup x = some v → ρ₁.lookup x = some v) ∧ EvIfs c n (relS scope sc) ρ₁ σ' ifs fun b σ₂ => σ₂ = σ' ∧
      (b = true → EvE c n (relS scope sc) ρ₁ σ' elt fun u σ₃ => σ₃ = σ' ∧ f v = some u) ∧ (b = false → f v = none))
    (fin : ∀ a D σ', σ a = none → σ D = none → a ≠ D → σ' = upd σ D (.acc (vs.filterMap f)) → Fn D (vs.filterMap f) σ') :
    CompStep c n sc ρc scope target ifs elt (fun a D m acc σ' => ∃ done rest, vs = done ++ rest ∧ m = rest.length ∧ acc = done.filterMap f ∧ σ a = none ∧ σ D = none ∧ a ≠ D ∧ σ' = upd (upd σ a (.iter rest)) D (.acc acc)) Fn := by
  rintro a D m acc σ' ⟨done, rest, hv, rfl, rfl, ha, hD, hne, rfl⟩ hacc
  have hat : ∀ {rest acc}, (upd (upd σ a (.iter rest)) D (.acc acc)) a = some (.iter rest) := upd_ne hne upd_same
  cases rest with
  | nil =>
    rw [List.append_nil] at hv
    subst hv
    have e : del (upd (upd σ a (.iter [])) D (.acc (List.filterMap f vs))) a = upd σ D (.acc (List.filterMap f vs)) := by
      rw [upd_comm hne, del_upd (upd_ne hne ha)]
    refine ⟨none, _, next_none hat, ?_, fin a D _ ha hD hne e⟩
    rw [e]; exact upd_same
  | cons v rest =>
    have e : upd (upd (upd σ a (.iter (v :: rest))) D (.acc (done.filterMap f))) a (.iter rest) = upd (upd σ a (.iter rest)) D (.acc (done.filterMap f)) := by
      rw [upd_comm hne, upd_upd, upd_comm (Ne.symm hne)]
    refine ⟨some v, _, next_some hat, ?_, ?_⟩
    · rw [e]; exact upd_same
    · rw [e]
      have hlen : (done.filterMap f).length < big := by
        have h1 := List.length_filterMap_le f done
        have h2 := congrArg List.length hv
        simp only [List.length_append, List.length_cons] at h2
        omega
      have hv' : vs = (done ++ [v]) ++ rest := by rw [hv]; simp
      refine (step _ (fun x hx => ?_) v (by rw [hv]; simp)).mono fun ρ₁ σ₁ ⟨e1, wk, hi⟩ => ?_
      · have h1 : x ≠ a := by rintro rfl; exact hx ha
        have h2 : x ≠ D := by rintro rfl; exact hx hD
        exact upd_ne h2 (upd_ne h1 rfl)
      · subst e1
        refine ⟨wk, hi.mono fun b σ₂ ⟨e2, h1, h2⟩ => ?_⟩
        subst e2
        refine ⟨fun hb => ev_mono (h1 hb) fun u σ₃ ⟨e3, hu⟩ => ?_, fun hb => ⟨upd_same, rest.length, by simp, done ++ [v], rest, hv', rfl, ?_, ha, hD, hne, ?_⟩⟩
        · subst e3
          refine ⟨upd_same, hlen, rest.length, by simp, done ++ [v], rest, hv', rfl, ?_, ha, hD, hne, ?_⟩
          · rw [List.filterMap_append]; simp [hu]
          · rw [upd_upd]
        · rw [List.filterMap_append]; simp [h2 hb]
        · rfl

theorem ev_comp_pure {elt target iter : Expr} {ifs : List Expr} {scope : Scope} {pos : Pos} (ρc : Rho) (vs : List V) (f : V → Option V) (hb : vs.length ≤ big) (hok : compOk scope sc = true) (hcap : Capt scope sc ρ ρc)
    (hs : ∀ env x, foldedSetIterable iter env x = pure x)
    (h0 : EvE c n sc ρ σ iter fun v σ₁ => ItV c n v σ₁ fun a σ₂ => σ a = none ∧ σ₂ = upd σ a (.iter vs))
    (step : ∀ σ', (∀ x, σ x ≠ none → σ' x = σ x) → ∀ v ∈ vs, CT c n (relS scope sc) ρc σ' target v fun ρ₁ σ₁ => σ₁ = σ' ∧ (∀ x v, ρc.lookup x = some v → ρ₁.lookup x = some v) ∧ EvIfs c n (relS scope sc) ρ₁ σ' ifs fun b σ₂ => σ₂ = σ' ∧
      (b = true → EvE c n (relS scope sc) ρ₁ σ' elt fun u σ₃ => σ₃ = σ' ∧ f v = some u) ∧ (b = false → f v = none))
    (h : Q (.lst (vs.filterMap f)) σ) : EvE c n sc ρ σ (.ListComp elt [⟨target, iter, ifs, 0⟩] scope pos) Q := by
  refine ev_comp ρc (fun a D m acc σ' => ∃ done rest, vs = done ++ rest ∧ m = rest.length ∧ acc = done.filterMap f ∧ σ a = none ∧ σ D = none ∧ a ≠ D ∧ σ' = upd (upd σ a (.iter rest)) D (.acc acc)) hok hcap hs
    (ev_mono h0 fun v σ₁ hi A s x R G I => wmono (hi A s x R G I) fun x s' ⟨σ', a, e, S, G', ha, e2⟩ => ⟨σ', a, e, S, G', ?_⟩)
    (pure_step ρc vs f hb step fun a D σ' ha hD hne e => by rw [e, del_upd hD]; exact h)
  subst e2
  refine ⟨⟨_, upd_same, rfl⟩, vs.length, fun D hD => ⟨[], vs, rfl, rfl, rfl, ha, ?_, ?_, rfl⟩⟩
  · by_cases q : D = a
    · rw [q]; exact ha
    · unfold upd at hD; rw [if_neg q] at hD; exact hD
  · rintro rfl; rw [upd_same] at hD; cases hD
end

/-- fewer names told -/
def Wk (ρ' ρ : Rho) : Prop := ∀ x v, ρ'.lookup x = some v → ρ.lookup x = some v
theorem Wk.refl {ρ : Rho} : Wk ρ ρ := fun _ _ e => e
theorem Wk.nil {ρ : Rho} : Wk [] ρ := fun x v e => by simp at e
theorem Wk.cons {ρ' ρ : Rho} {x : Str} {v : V} (h : ρ.lookup x = some v) (k : Wk ρ' ρ) : Wk ((x, v) :: ρ') ρ := by
  intro y u e
  rw [List.lookup_cons] at e
  cases q : (y == x) with
  | true =>
    rw [q] at e; cases e
    rw [beq_iff_eq] at q; subst q
    exact h
  | false => rw [q] at e; exact k y u e
theorem Wk.trans {ρ₁ ρ₂ ρ₃ : Rho} (h : Wk ρ₁ ρ₂) (k : Wk ρ₂ ρ₃) : Wk ρ₁ ρ₃ := fun x v e => k x v (h x v e)
section
variable {c : Cx} {n : Nat} {sc : Scope} {ρ : Rho} {σ : Sg} {Q : V → Sg → Prop}
theorem Co.weak {ρ' : Rho} {A : Around} {env : Env} {s : Shared} (C : Co c n sc ρ σ A env s) (k : Wk ρ' ρ) : Co c n sc ρ' σ A env s := ⟨C.room, C.loc.weaken k, C.good⟩
theorem xs_weak {ρ' : Rho} {st : List Stmt} {N : Rho → Sg → Prop} {R : V → Sg → Prop} (k : Wk ρ' ρ) (h : ExS c n sc ρ' σ st N R) : ExS c n sc ρ σ st N R := fun A env s C => h A env s (C.weak k)
theorem x_weak {ρ' : Rho} {st : Stmt} {N : Rho → Sg → Prop} {R : V → Sg → Prop} (k : Wk ρ' ρ) (h : Ex1 c n sc ρ' σ st N R) : Ex1 c n sc ρ σ st N R := fun A env s C => h A env s (C.weak k)
theorem t_weak {ρ' : Rho} {e : Expr} {Q : Bool → Sg → Prop} (k : Wk ρ' ρ) (h : EvT c n sc ρ' σ e Q) : EvT c n sc ρ σ e Q := fun A env s C => h A env s (C.weak k)
theorem as_weak {ρ' : Rho} {t : Expr} {v : V} {K : Rho → Sg → Prop} (k : Wk ρ' ρ) (h : AsT c n sc ρ' σ t v K) : AsT c n sc ρ σ t v K := fun A env s x C => h A env s x (C.weak k)
theorem t_mono {e : Expr} {Q Q' : Bool → Sg → Prop} (h : EvT c n sc ρ σ e Q) (k : ∀ b σ, Q b σ → Q' b σ) : EvT c n sc ρ σ e Q' := fun A env s C => wmono (h A env s C) fun b s' ⟨σ', S, G, q⟩ => ⟨σ', S, G, k _ _ q⟩
theorem as_mono {t : Expr} {v : V} {K K' : Rho → Sg → Prop} (h : AsT c n sc ρ σ t v K) (k : ∀ ρ σ, K ρ σ → K' ρ σ) : AsT c n sc ρ σ t v K' := fun A env s x C I => wmono (h A env s x C I) fun _ _ ⟨σ', ρ', S, G, L, q⟩ => ⟨σ', ρ', S, G, L, k _ _ q⟩
theorem x_whileW {t : Expr} {body : List Stmt} {pos : Pos} {N : Rho → Sg → Prop} {R : V → Sg → Prop} (J : Nat → Rho → Sg → Prop) (k : Nat) (ρ₀ : Rho) (hw : Wk ρ₀ ρ) (h0 : J k ρ₀ σ)
    (step : ∀ m ρ σ, J m ρ σ → EvT c n sc ρ σ t fun b σ₁ => (b = true → ExS c n sc ρ σ₁ body (fun ρ₂ σ₂ => ∃ m' ρ', m' < m ∧ Wk ρ' ρ₂ ∧ J m' ρ' σ₂) R) ∧ (b = false → N ρ σ₁)) : Ex1 c n sc ρ σ (.While t body [] pos) N R := by
  intro A env s C
  refine wpAny_While (codeAny_whileLoop (fun m s' => ∃ σ' ρ', Step (FrP sc env) σ s σ' s' ∧ c.Good σ' s'.heap ∧ Loc c sc ρ' σ' env s'.heap ∧ J m ρ' σ') ?_ k ⟨σ, ρ₀, Step.refl _ _, C.good, C.loc.weaken hw, h0⟩)
  rintro m s₁ ⟨σ₁, ρ₁, S₁, G₁, L₁, j⟩
  refine wpAny_mono (step m ρ₁ σ₁ j A env s₁ ⟨C.room, L₁, G₁⟩) (fun b s₂ ⟨σ₂, S₂, G₂, q⟩ => ?_) fun _ _ e => e.elim
  cases b with
  | false => exact wpAny_execs_nil ⟨σ₂, ρ₁, S₁.trans (S₂.mono fun _ => False.elim), G₂, L₁.step S₂, q.2 rfl⟩
  | true =>
    refine wpAny_mono (q.1 rfl A env s₂ ⟨C.room, L₁.step S₂, G₂⟩) (fun f s₃ ⟨σ₃, ρ₃, S₃, G₃, L₃, r⟩ => ?_) fun _ _ e => e.elim
    have T := (S₁.trans (S₂.mono fun _ => False.elim)).trans S₃
    cases f with
    | next => obtain ⟨m', ρ', l, w, j'⟩ := r; exact ⟨m', l, σ₃, ρ', T, G₃, L₃.weaken w, j'⟩
    | ret x => exact ⟨σ₃, ρ₃, T, G₃, L₃, r⟩
    | brk => exact r.elim
    | cont => exact r.elim

/-- a loop over what is drawn; J tells of what is still to come -/
theorem x_forW {t iter : Expr} {body : List Stmt} {pos : Pos} {N : Rho → Sg → Prop} {R : V → Sg → Prop} (J : List V → Rho → Sg → Prop)
    (hs : ∀ env x, foldedSetIterable iter env x = pure x)
    (h0 : EvE c n sc ρ σ iter fun v σ₁ => ItV c n v σ₁ fun a σ₂ => ∃ σ₀ vs ρ₀, σ₀ a = none ∧ σ₂ = upd σ₀ a (.iter vs) ∧ Wk ρ₀ ρ ∧ J vs ρ₀ σ₀)
    (step : ∀ v vs ρ σ a, J (v :: vs) ρ σ → σ a = none → AsT c n sc ρ (upd σ a (.iter vs)) t v fun ρ₁ σ₁ => ExS c n sc ρ₁ σ₁ body (fun ρ₂ σ₂ => ∃ ρ' σ', σ₂ = upd σ' a (.iter vs) ∧ σ' a = none ∧ Wk ρ' ρ₂ ∧ J vs ρ' σ') R)
    (done : ∀ ρ σ, J [] ρ σ → N ρ σ) : Ex1 c n sc ρ σ (.For t iter body [] pos) N R := by
  intro A env s C
  refine wpAny_For (wmono (h0 A env s C) fun x s₁ ⟨σ₁, v, S₁, G₁, I₁, q⟩ => wmono (q A s₁ x C.room G₁ I₁) fun it s₂ ⟨σ₂, a, e, S₂, G₂, σ₀, vs, ρ₀, ha, e2, hw, j⟩ => ?_) (hs env)
  subst e; subst e2
  have T₂ : Step (FrP sc env) σ s _ s₂ := (S₁.trans S₂).mono fun _ => False.elim
  refine codeAny_forLoop_any (fun m s' => ∃ σ' ρ' vs, Step (FrP sc env) σ s (upd σ' a (.iter vs)) s' ∧ c.Good (upd σ' a (.iter vs)) s'.heap ∧ Loc c sc ρ' (upd σ' a (.iter vs)) env s'.heap ∧ σ' a = none ∧ J vs ρ' σ' ∧ m = vs.length) ?_ vs.length
    ⟨σ₀, ρ₀, vs, T₂, G₂, ((C.loc.step S₁).step S₂).weaken hw, ha, j, rfl⟩
  rintro m s₃ ⟨σ₃, ρ₃, vs, S₃, G₃, L₃, ha, j, rfl⟩
  cases vs with
  | nil =>
    refine wpAny_mono (iter_end C.room.1 G₃ upd_same) (fun r s₄ ⟨e, S₄, G₄⟩ => ?_) fun _ _ e => e.elim
    subst e
    rw [del_upd ha] at S₄ G₄
    exact wpAny_execs_nil ⟨_, ρ₃, S₃.trans (S₄.mono fun _ => False.elim), G₄, L₃.step S₄, done ρ₃ σ₃ j⟩
  | cons v vs =>
    refine wpAny_mono (iter_next G₃ upd_same) (fun r s₄ ⟨x, e, S₄, G₄, I₄⟩ => ?_) fun _ _ e => e.elim
    subst e
    rw [upd_upd] at S₄ G₄ I₄
    refine wpAny_mono (owned_iter (Q := fun _ s => s = s₄) G₄ upd_same rfl) (fun _ s₄' e => ?_) fun _ _ e => e.elim
    subst e
    refine wpAny_mono (step v vs ρ₃ σ₃ a j ha A env _ x ⟨C.room, L₃.step S₄, G₄⟩ I₄) (fun _ s₅ ⟨σ₅, ρ₅, S₅, G₅, L₅, q₅⟩ => ?_) fun _ _ e => e.elim
    refine wpAny_mono (q₅ A env s₅ ⟨C.room, L₅, G₅⟩) (fun f s₆ ⟨σ₆, ρ₆, S₆, G₆, L₆, r⟩ => ?_) fun _ _ e => e.elim
    have T := ((S₃.trans (S₄.mono fun _ => False.elim)).trans S₅).trans S₆
    cases f with
    | next =>
      obtain ⟨ρ', σ', e, ha', w, j'⟩ := r
      subst e
      exact ⟨vs.length, by simp, σ', ρ', vs, T, G₆, L₆.weaken w, ha', j', rfl⟩
    | ret x => exact ⟨σ₆, ρ₆, T, G₆, L₆, r⟩
    | brk => exact r.elim
    | cont => exact r.elim

def tgtNames : List Expr → List Str
  | .Name x _ :: r => x :: tgtNames r
  | _ => []
theorem x_swapN {elts : List Expr} {k : Nat} {tpos pos : Pos} {value : Expr} {N : Rho → Sg → Prop} {R : V → Sg → Prop}
    (hs : ∀ env, swapsWithSole [.Tuple elts k tpos] value pos.line env = pure false) (hw : ∀ env, env.scope = sc → swappedStores [.Tuple elts k tpos] value env = pure (some (tgtNames elts))) (hk : ((tgtNames elts).reverse.all fun x => storeNOk sc x) = true)
    (h : EvE c n sc ρ σ value fun v σ₁ => ∃ vs, v = .tup vs ∧ vs.length = (tgtNames elts).length ∧ N (rsets ρ (tgtNames elts).reverse vs.reverse) σ₁) : Ex1 c n sc ρ σ (.Assign [.Tuple elts k tpos] value pos) N R := x_swap hs hw hk h

theorem s_return {e : Expr} {pos : Pos} {r : List Stmt} {N : Rho → Sg → Prop} {R : V → Sg → Prop} (h : EvE c n sc ρ σ e R) : ExS c n sc ρ σ (.Return (some e) pos :: r) N R := xs_cons (x_return h)
theorem s_return_none {pos : Pos} {r : List Stmt} {N : Rho → Sg → Prop} {R : V → Sg → Prop} (h : R .none σ) : ExS c n sc ρ σ (.Return none pos :: r) N R := xs_cons (x_return_none h)
theorem s_if {t : Expr} {b o r : List Stmt} {pos : Pos} {N : Rho → Sg → Prop} {R : V → Sg → Prop} (h : EvT c n sc ρ σ t fun q σ₁ => (q = true → ExS c n sc ρ σ₁ b (fun ρ₂ σ₂ => ExS c n sc ρ₂ σ₂ r N R) R) ∧ (q = false → ExS c n sc ρ σ₁ o (fun ρ₂ σ₂ => ExS c n sc ρ₂ σ₂ r N R) R)) : ExS c n sc ρ σ (.If t b o pos :: r) N R := xs_cons (x_if h)
theorem s_expr {e : Expr} {pos : Pos} {r : List Stmt} {N : Rho → Sg → Prop} {R : V → Sg → Prop} (h : EvE c n sc ρ σ e fun _ σ₁ => ExS c n sc ρ σ₁ r N R) (hi : (sc.kind == .module) = false) (hs : ∀ env, swapsWith e none pos.line env = pure false) : ExS c n sc ρ σ (.Expr e pos :: r) N R := xs_cons (x_expr h hi hs)
theorem s_assign {t value : Expr} {pos : Pos} {r : List Stmt} {N : Rho → Sg → Prop} {R : V → Sg → Prop} (h : EvE c n sc ρ σ value fun v σ₁ => AsT c n sc ρ σ₁ t v fun ρ₂ σ₂ => ExS c n sc ρ₂ σ₂ r N R)
    (hs : ∀ env, swapsWithSole [t] value pos.line env = pure false) (hw : ∀ env, env.scope = sc → swappedStores [t] value env = pure none) (he : ∀ env, (assignEach [t] env).map (·.2) = [assign t env]) : ExS c n sc ρ σ (.Assign [t] value pos :: r) N R := xs_cons (x_assign h hs hw he)
theorem s_swap {elts : List Expr} {k : Nat} {tpos pos : Pos} {value : Expr} {r : List Stmt} {N : Rho → Sg → Prop} {R : V → Sg → Prop}
    (hs : ∀ env, swapsWithSole [.Tuple elts k tpos] value pos.line env = pure false) (hw : ∀ env, env.scope = sc → swappedStores [.Tuple elts k tpos] value env = pure (some (tgtNames elts))) (hk : ((tgtNames elts).reverse.all fun x => storeNOk sc x) = true)
    (h : EvE c n sc ρ σ value fun v σ₁ => ∃ vs, v = .tup vs ∧ vs.length = (tgtNames elts).length ∧ ExS c n sc (rsets ρ (tgtNames elts).reverse vs.reverse) σ₁ r N R) : ExS c n sc ρ σ (.Assign [.Tuple elts k tpos] value pos :: r) N R := xs_cons (x_swapN hs hw hk h)
theorem s_for {t iter : Expr} {body r : List Stmt} {pos : Pos} {N : Rho → Sg → Prop} {R : V → Sg → Prop} (J : List V → Rho → Sg → Prop)
    (hs : ∀ env x, foldedSetIterable iter env x = pure x)
    (h0 : EvE c n sc ρ σ iter fun v σ₁ => ItV c n v σ₁ fun a σ₂ => ∃ σ₀ vs ρ₀, σ₀ a = none ∧ σ₂ = upd σ₀ a (.iter vs) ∧ Wk ρ₀ ρ ∧ J vs ρ₀ σ₀)
    (step : ∀ v vs ρ σ a, J (v :: vs) ρ σ → σ a = none → AsT c n sc ρ (upd σ a (.iter vs)) t v fun ρ₁ σ₁ => ExS c n sc ρ₁ σ₁ body (fun ρ₂ σ₂ => ∃ ρ' σ', σ₂ = upd σ' a (.iter vs) ∧ σ' a = none ∧ Wk ρ' ρ₂ ∧ J vs ρ' σ') R)
    (done : ∀ ρ σ, J [] ρ σ → ExS c n sc ρ σ r N R) : ExS c n sc ρ σ (.For t iter body [] pos :: r) N R := xs_cons (x_forW J hs h0 step done)
theorem s_while {t : Expr} {body r : List Stmt} {pos : Pos} {N : Rho → Sg → Prop} {R : V → Sg → Prop} (J : Nat → Rho → Sg → Prop) (k : Nat) (ρ₀ : Rho) (hw : Wk ρ₀ ρ) (h0 : J k ρ₀ σ)
    (step : ∀ m ρ σ, J m ρ σ → EvT c n sc ρ σ t fun b σ₁ => (b = true → ExS c n sc ρ σ₁ body (fun ρ₂ σ₂ => ∃ m' ρ', m' < m ∧ Wk ρ' ρ₂ ∧ J m' ρ' σ₂) R) ∧ (b = false → ExS c n sc ρ σ₁ r N R)) : ExS c n sc ρ σ (.While t body [] pos :: r) N R := xs_cons (x_whileW J k ρ₀ hw h0 step)

def SetV (c : Cx) (n : Nat) (r k v : V) (σ : Sg) (K : Sg → Prop) : Prop := ∀ A s x y z, Room n A → c.Good σ s.heap → VIn σ s.heap r x → VIn σ s.heap k y → VIn σ s.heap v z → wpAny c.M A (setItem x y z) (PostU c σ s K) Ef s
theorem as_itemS {o i : Expr} {pos : Pos} {v : V} {K : Rho → Sg → Prop} (he : ∀ env x, assign (.Subscript o i pos) env x = (do
      let ov ← holding [x] (eval o env)
      let iv ← holding [x, ov] (eval i env)
      standAt pos
      holding [x, ov, iv] (setItem ov iv x)
      release [x, ov, iv] []))
    (h : EvE c n sc ρ σ o fun r σ₁ => EvE c n sc ρ σ₁ i fun k σ₂ => SetV c n r k v σ₂ (K ρ)) : AsT c n sc ρ σ (.Subscript o i pos) v K := as_item he h
theorem i_list {l : Addr} {t : Nat} {vs : List V} {k : Int} {v : V} {K : Sg → Prop} (hl : σ l = some (.list t vs)) (h0 : 0 ≤ k) (hk : k < vs.length) (h : K (upd σ l (.list t (vs.set k.toNat v)))) : SetV c n (.ref l) (.int k) v σ K :=
  fun A s x y z R G I J J₂ => set_list hl h0 hk h G I J J₂
theorem i_last {l : Addr} {t : Nat} {vs : List V} {u v : V} {K : Sg → Prop} (hl : σ l = some (.list t (vs ++ [u]))) (h : K (upd σ l (.list t (vs ++ [v])))) : SetV c n (.ref l) (.int (-1)) v σ K := by
  intro A s x y z R G I J J₂
  cases I with
  | ref hob =>
    cases J
    obtain ⟨xs, ⟨e, ho⟩, hb, hv⟩ := G.objs l _ hl
    have hlen := hv.length
    simp only [List.length_append, List.length_cons, List.length_nil] at hlen
    have hbig : (big : Int) < 2 ^ 63 := by decide
    have e1 : ((-1 : Int) + (xs.toArray.size : Nat)).toNat = vs.length := by simp; omega
    have hs := Heap.SameBut.update s.heap l (Obj.mapSeq (·.setIfInBounds ((-1 : Int) + (xs.toArray.size : Nat)).toNat z))
    have hg := Heap.get?_update_self (Obj.mapSeq (·.setIfInBounds ((-1 : Int) + (xs.toArray.size : Nat)).toNat z)) ho rfl
    have S : Step No σ s (upd σ l (.list t (vs ++ [v]))) { s with heap := s.heap.update l (Obj.mapSeq (·.setIfInBounds ((-1 : Int) + (xs.toArray.size : Nat)).toNat z)) } := upd_step hob.ne (fun _ => rfl) hs _
    have e2 : (vs ++ [u]).set vs.length v = vs ++ [v] := by simp
    refine ki_setBack ho (by decide) (by simp; omega) (by decide) ⟨_, S, G.upd hob.ne (fun _ => rfl) hs ⟨xs.set vs.length z, ⟨e, ?_⟩, by simpa using hb, e2 ▸ (hv.step S apart_no).set (J₂.step S apart_no)⟩, h⟩
    rw [hg, e1]
    simp [Obj.mapSeq]
theorem i_idict {l : Addr} {t : Nat} {es : List (Int × V)} {k : Int} {v : V} {K : Sg → Prop} (hl : σ l = some (.idict t es)) (hb : es.length < big) (h : K (upd σ l (.idict t (putI es k v)))) : SetV c n (.ref l) (.int k) v σ K :=
  fun A s x y z R G I J J₂ => set_idict hl hb h G I J J₂
theorem i_sdict {l : Addr} {t : Nat} {es : List (Str × V)} {k : Str} {v : V} {K : Sg → Prop} (hl : σ l = some (.sdict t es)) (hb : es.length < big) (h : K (upd σ l (.sdict t (putI es k v)))) : SetV c n (.ref l) (.str k) v σ K :=
  fun A s x y z R G I J J₂ => set_sdict hl hb h G I J J₂
end
end Mine
-- part F0
namespace Mine
open PySem PySem.W PySem.Calls PyProof.Rows

def bodyAt (K : Frag) (a : Addr) : List Stmt := match K.lookup a with | some ⟨_, _, .func fd, _⟩ => (match fd.body with | .stmts b => b | _ => []) | _ => []
def scAt (K : Frag) (a : Addr) : Scope := match K.lookup a with | some ⟨_, _, .func fd, _⟩ => fd.scope | _ => default
def fdIn (K : Frag) (a : Addr) : Bool := match K.lookup a with
  | some ⟨_, _, .func fd, _⟩ => codeIn K fd.code fd.qualname && fd.closure.isEmpty && fd.globals == mainGlobals && fd.builtins == builtinsNs && (match fd.body with | .stmts _ => true | _ => false)
  | _ => false
def bindsAt (K : Frag) (a : Addr) (xs : List Value) : Sem (List (Str × Value)) := match K.lookup a with | some ⟨_, _, .func fd, _⟩ => bindArgs fd ⟨xs, []⟩ | _ => pure []
def namesOk (sc : Scope) (names : List Str) : Bool :=
  (names.all fun y => sc.names.lookup y == some .local || sc.names.lookup y == some .cell) && ((cellsFrom 0 sc.names []).map (·.1)).Nodup && names.Nodup && (sc.names.all fun x => x.2 != .free) && (!sc.isCoroutine && !sc.isGenerator && sc.kind == .function)

class IsK (c : Cx) : Prop where
  eq : c.K = hd.heap_39 c.w.params

section
variable {c : Cx} [hK : IsK c] {n : Nat} {sc : Scope} {ρ : Rho} {σ : Sg} {Q : V → Sg → Prop}

theorem kDef {a : Addr} {names : List Str} (h1 : fdIn (hd.heap_39 c.w.params) a = true) (h2 : namesOk (scAt (hd.heap_39 c.w.params) a) names = true)
    (h3 : ∀ xs : List Value, xs.length = names.length → bindsAt (hd.heap_39 c.w.params) a xs = pure (names.zip xs)) : Def c a names (scAt (hd.heap_39 c.w.params) a) (bodyAt (hd.heap_39 c.w.params) a) := by
  rw [← hK.eq] at h1 h2 h3 ⊢
  unfold namesOk at h2
  simp only [Bool.and_eq_true, decide_eq_true_eq] at h2
  obtain ⟨⟨⟨⟨q1, q2⟩, q3⟩, q4⟩, ⟨q5, q6⟩, q7⟩ := h2
  refine ⟨?_, q1, q2, q3, q4, by simpa using q5, by simpa using q6, by simpa using q7⟩
  unfold fdIn at h1
  unfold bindsAt at h3
  unfold scAt bodyAt
  split at h1
  · rename_i oc od fd osl e
    rw [e] at h3
    simp only [e]
    simp only [Bool.and_eq_true, List.isEmpty_iff, beq_iff_eq] at h1
    obtain ⟨⟨⟨⟨b1, b2⟩, b3⟩, b4⟩, b5⟩ := h1
    refine ⟨fd, oc, od, osl, rfl, b1, ?_, b2, b3, b4, rfl, h3⟩
    split at b5
    · rename_i q; rw [q]
    · cases b5
  · cases h1
theorem kField {C : Addr} {name : Str} (h : fieldOk (hd.heap_39 c.w.params) C name = true) : fieldOk c.K C name = true := by rw [hK.eq]; exact h
theorem kStore {C : Addr} {name : Str} (h : storeOk (hd.heap_39 c.w.params) C name = true) : storeOk c.K C name = true := by rw [hK.eq]; exact h
theorem kMeth {C f : Addr} {name : Str} (h : methOk (hd.heap_39 c.w.params) C name f = true) : methOk c.K C name f = true := by rw [hK.eq]; exact h
theorem kMake {C f : Addr} (h : makeOk (hd.heap_39 c.w.params) C f = true) : makeOk c.K C f = true := by rw [hK.eq]; exact h
theorem kOwn {x : Str} {v : Value} (h : nsIn (hd.heap_39 c.w.params) mainGlobals x = some (some v)) : GlobV c x v := glob_own (by rw [hK.eq]; exact h)
theorem kBuilt {x : Str} {v : Value} (h : nsIn (hd.heap_39 c.w.params) mainGlobals x = some none) (hv : bootBuiltins x = some v) (hn : x ≠ ("__name__" : Str)) : GlobV c x v := glob_builtin (by rw [hK.eq]; exact h) hv hn
theorem kKeep {f : Value} (h : keepIn (hd.heap_39 c.w.params) f = true) (h' : Heap) (X : c.K.In h') : ∃ k, (k = Keeper.frame ∨ k = Keeper.machine ∨ k = Keeper.boundFrame) ∧ Looks c.M h' (keeperOf f) k := keeps_in (by rw [hK.eq]; exact h) h' X
end

section
variable {c : Cx} [hK : IsK c] {n : Nat} {sc : Scope} {ρ : Rho} {σ : Sg} {Q : V → Sg → Prop}
theorem bLen : GlobV c "len" (.builtin "len") := kBuilt (by kernel_rfl) (by kernel_rfl) (by decide)
theorem bRange : GlobV c "range" (.type "range") := kBuilt (by kernel_rfl) (by kernel_rfl) (by decide)
theorem bTuple : GlobV c "tuple" (.type "tuple") := kBuilt (by kernel_rfl) (by kernel_rfl) (by decide)
theorem bList : GlobV c "list" (.type "list") := kBuilt (by kernel_rfl) (by kernel_rfl) (by decide)
theorem bAbs : GlobV c "abs" (.builtin "abs") := kBuilt (by kernel_rfl) (by kernel_rfl) (by decide)
theorem bMax : GlobV c "max" (.builtin "max") := kBuilt (by kernel_rfl) (by kernel_rfl) (by decide)
theorem bMin : GlobV c "min" (.builtin "min") := kBuilt (by kernel_rfl) (by kernel_rfl) (by decide)
theorem bSum : GlobV c "sum" (.builtin "sum") := kBuilt (by kernel_rfl) (by kernel_rfl) (by decide)
theorem bSorted : GlobV c "sorted" (.builtin "sorted") := kBuilt (by kernel_rfl) (by kernel_rfl) (by decide)
theorem bEnumerate : GlobV c "enumerate" (.type "enumerate") := kBuilt (by kernel_rfl) (by kernel_rfl) (by decide)

/-- a call of a global, of any kind -/
theorem g_call {x : Str} {p pos : Pos} {e : Expr} {r : List Expr} {f : Value} (hg : GlobV c x f) (hx : globOk sc x = true)
    (hplain : ∀ env, (backTo pos (starEach (e :: r) env)).any (·.1) = false) (hargs : ∀ env, ∃ y z, starEach (e :: r) env = (false, y) :: z)
    (hk : ∀ h : Heap, c.K.In h → ∃ k, (k = Keeper.frame ∨ k = Keeper.machine ∨ k = Keeper.boundFrame) ∧ Looks c.M h (keeperOf f) k)
    (h : EvL c n sc ρ σ (e :: r) fun vs σ₁ => CallV c n f vs σ₁ Q) : EvE c n sc ρ σ (.Call (.Name x p) (e :: r) [] pos) Q :=
  ev_call hg hx hplain (fun env => .inr (hargs env)) hk h
theorem kCall {a : Addr} {names : List Str} {body : List Stmt} {vs : List V} (h1 : fdIn (hd.heap_39 c.w.params) a = true) (h2 : namesOk (scAt (hd.heap_39 c.w.params) a) names = true)
    (h3 : ∀ xs : List Value, xs.length = names.length → bindsAt (hd.heap_39 c.w.params) a xs = pure (names.zip xs)) (hb : bodyAt (hd.heap_39 c.w.params) a = body) (hs : scAt (hd.heap_39 c.w.params) a = sc) (hl : vs.length = names.length)
    (h : ExS c n sc (names.zip vs) σ body (fun _ σ' => Q .none σ') Q) : CallV c (n + 1) (.ref a) vs σ Q := by
  subst hb; subst hs
  exact call_fn (kDef h1 h2 h3) hl h

/-- methods of lists and dicts, and of instances -/
theorem m_call {o : Expr} {name : Str} {apos pos : Pos} {args : List Expr} {f : Value} (hb : ∀ env, attributeBase o name env (eval o env) = eval o env) (hline : (apos.endLine == pos.line) = true)
    (hform : ∀ env, methodCallForm (args.length + ([] : List Keyword).length) (backTo pos (starEach args env)) (backToKw pos (keywordEach [] env)) = true)
    (hplain : ∀ env, (backTo pos (starEach args env)).any (·.1) = false) (hargs : ∀ env, args = [] ∨ ∃ x r, starEach args env = (false, x) :: r)
    (hk : ∀ h : Heap, c.K.In h → ∃ k, (k = Keeper.frame ∨ k = Keeper.machine ∨ k = Keeper.boundFrame) ∧ Looks c.M h (keeperOf f) k)
    (h : EvE c n sc ρ σ o fun v σ₁ => MethV c n name v σ₁ f ∧ EvL c n sc ρ σ₁ args fun vs σ₂ => CallV c n f (v :: vs) σ₂ Q) : EvE c n sc ρ σ (.Call (.Attribute o name apos) args [] pos) Q :=
  ev_call_attr hb hline hform hplain hargs hk h
theorem m_append {o : Expr} {apos pos : Pos} {e : Expr} (hb : ∀ env, attributeBase o "append" env (eval o env) = eval o env) (hline : (apos.endLine == pos.line) = true)
    (hform : ∀ env, methodCallForm ([e].length + ([] : List Keyword).length) (backTo pos (starEach [e] env)) (backToKw pos (keywordEach [] env)) = true)
    (hplain : ∀ env, (backTo pos (starEach [e] env)).any (·.1) = false) (hargs : ∀ env, ∃ x r, starEach [e] env = (false, x) :: r)
    (h : EvE c n sc ρ σ o fun v σ₁ => ∃ a t vs, v = .ref a ∧ σ₁ a = some (.list t vs) ∧ EvE c n sc ρ σ₁ e fun u σ₂ => ∃ t vs, σ₂ a = some (.list t vs) ∧ vs.length < big ∧ Q .none (upd σ₂ a (.list t (vs ++ [u]))))
    (he : ∀ env, starEach [e] env = (false, eval e env) :: starEach [] env) : EvE c n sc ρ σ (.Call (.Attribute o "append" apos) [e] [] pos) Q := by
  refine ev_call_attr (f := .builtin "list.append") hb hline hform hplain (fun env => .inr (hargs env)) (keeps_builtin _) (ev_mono h fun v σ₁ ⟨a, t, vs, e1, e2, q⟩ => ?_)
  subst e1
  exact ⟨meth_append e2, el_cons (ev_mono q fun u σ₂ ⟨t, vs, e3, hb, q⟩ => el_nil (c_append e3 hb q)) he⟩
theorem m_extend {o : Expr} {apos pos : Pos} {e : Expr} (hb : ∀ env, attributeBase o "extend" env (eval o env) = eval o env) (hline : (apos.endLine == pos.line) = true)
    (hform : ∀ env, methodCallForm ([e].length + ([] : List Keyword).length) (backTo pos (starEach [e] env)) (backToKw pos (keywordEach [] env)) = true)
    (hplain : ∀ env, (backTo pos (starEach [e] env)).any (·.1) = false) (hargs : ∀ env, ∃ x r, starEach [e] env = (false, x) :: r)
    (h : EvE c n sc ρ σ o fun v σ₁ => ∃ a t vs, v = .ref a ∧ σ₁ a = some (.list t vs) ∧ EvE c n sc ρ σ₁ e fun u σ₂ => ∃ t vs lo hi, u = .rng lo hi ∧ rfit lo hi ∧ σ₂ a = some (.list t vs) ∧ vs.length + (hi - lo).toNat ≤ big ∧ Q .none (upd σ₂ a (.list t (vs ++ rl lo hi))))
    (he : ∀ env, starEach [e] env = (false, eval e env) :: starEach [] env) : EvE c n sc ρ σ (.Call (.Attribute o "extend" apos) [e] [] pos) Q := by
  refine ev_call_attr (f := .builtin "list.extend") hb hline hform hplain (fun env => .inr (hargs env)) (keeps_builtin _) (ev_mono h fun v σ₁ ⟨a, t, vs, e1, e2, q⟩ => ?_)
  subst e1
  exact ⟨meth_extend e2, el_cons (ev_mono q fun u σ₂ ⟨t, vs, lo, hi, e4, hf, e3, hb, q⟩ => el_nil (e4 ▸ c_extend e3 hf hb q)) he⟩
end
end Mine
namespace Mine
open PySem PySem.W PySem.Calls PyProof.Rows
local macro_rules | `(tactic| k_memK) => `(tactic| repeat (first
  | with_reducible refine ev_name (by with_unfolding_all rfl) (by with_unfolding_all rfl) ?_
  | with_reducible refine ev_int ?_
  | with_reducible refine ev_str ?_
  | with_reducible refine ev_attr (fun _ => (by with_unfolding_all rfl)) ?_
  | with_reducible refine ev_sub ?_
  | with_reducible refine el_nil ?_
  | with_reducible refine el_cons ?_ (fun _ => (by with_unfolding_all rfl))
  | with_reducible refine ev_compare (by with_unfolding_all rfl) ?_
  | with_reducible refine ev_binop ?_
  | with_reducible refine ev_tuple ?_
  | with_reducible refine ev_unary ?_
  | with_reducible refine ev_bool ?_
  | with_reducible refine ev_none ?_
  | with_reducible refine ev_ifexp ?_
  | with_reducible refine ev_and ?_
  | with_reducible refine ev_or ?_
  | with_reducible refine ev_last ?_
  | with_reducible refine s_return ?_
  | with_reducible refine s_return_none ?_
  | with_reducible refine s_if ?_
  | with_reducible refine s_expr ?_ (by with_unfolding_all rfl) (fun _ => (by with_unfolding_all rfl))
  | with_reducible refine s_swap (fun _ => (by with_unfolding_all rfl)) (fun env h => by cases env; cases h; with_unfolding_all rfl) (by with_unfolding_all rfl) ?_
  | with_reducible refine s_assign ?_ (fun _ => (by with_unfolding_all rfl)) (fun _ _ => (by with_unfolding_all rfl)) (fun _ => (by with_unfolding_all rfl))
  | with_reducible refine xs_nil ?_
  | with_reducible refine t_not ?_
  | with_reducible refine t_compare (by with_unfolding_all rfl) ?_
  | with_reducible refine t_boolop ?_
  | with_reducible refine ts_and_nil ?_
  | with_reducible refine ts_or_nil ?_
  | with_reducible refine ts_and ?_
  | with_reducible refine ts_or ?_
  | with_reducible refine as_itemS (fun _ _ => (by with_unfolding_all rfl)) ?_
  | with_reducible refine as_tuple (by with_unfolding_all rfl) (fun _ => (by with_unfolding_all rfl)) (fun _ => (by with_unfolding_all rfl)) ?_
  | with_reducible refine al_nil ?_
  | with_reducible refine al_cons ?_ (fun _ => (by with_unfolding_all rfl))
  | with_reducible refine as_name (by with_unfolding_all rfl) ?_
  | with_reducible refine tru_bool ?_
  | with_reducible refine op_add ?_
  | with_reducible refine op_sub ?_
  | with_reducible refine cm_lt ?_
  | with_reducible refine cm_le ?_
  | with_reducible refine cm_gt ?_
  | with_reducible refine cm_ge ?_
  | with_reducible refine cm_eq ?_
  | with_reducible refine cm_ne ?_
  | with_reducible refine cm_eqs ?_
  | with_reducible refine op_neg ?_
  | with_reducible refine cm_is ?_
  | with_reducible refine cm_isnot ?_
  | with_reducible refine sub_tup (by assumption) (by omega) ?_ (fun _ _ => (by with_unfolding_all rfl))
  | with_reducible refine sub_lst (by assumption) (by omega) ?_ (fun _ _ => (by with_unfolding_all rfl))
  | with_reducible refine sub_ref (by assumption) (by assumption) (by omega) ?_ (fun _ _ => (by with_unfolding_all rfl))
  | with_reducible refine sub_tup (by with_unfolding_all rfl) (by decide) ?_ (fun _ _ => (by with_unfolding_all rfl))
  | with_reducible refine sub_lst (by with_unfolding_all rfl) (by decide) ?_ (fun _ _ => (by with_unfolding_all rfl))
  | with_reducible refine c_max ?_
  | with_reducible refine c_min ?_
  | with_reducible refine c_range1 ?_
  | with_reducible refine c_range2 ?_
  | with_reducible refine m_append (fun _ => (by with_unfolding_all rfl)) (by with_unfolding_all rfl) (fun _ => (by with_unfolding_all rfl)) (fun _ => (by with_unfolding_all rfl)) (fun _ => ⟨_, _, (by with_unfolding_all rfl)⟩) ?_ (fun _ => (by with_unfolding_all rfl))
  | with_reducible refine m_extend (fun _ => (by with_unfolding_all rfl)) (by with_unfolding_all rfl) (fun _ => (by with_unfolding_all rfl)) (fun _ => (by with_unfolding_all rfl)) (fun _ => ⟨_, _, (by with_unfolding_all rfl)⟩) ?_ (fun _ => (by with_unfolding_all rfl))
  | with_reducible refine g_call bLen (by with_unfolding_all rfl) (fun _ => (by with_unfolding_all rfl)) (fun _ => ⟨_, _, (by with_unfolding_all rfl)⟩) (keeps_builtin _) ?_
  | with_reducible refine g_call bRange (by with_unfolding_all rfl) (fun _ => (by with_unfolding_all rfl)) (fun _ => ⟨_, _, (by with_unfolding_all rfl)⟩) (keeps_type _) ?_
  | with_reducible refine g_call bTuple (by with_unfolding_all rfl) (fun _ => (by with_unfolding_all rfl)) (fun _ => ⟨_, _, (by with_unfolding_all rfl)⟩) (keeps_type _) ?_
  | with_reducible refine g_call bList (by with_unfolding_all rfl) (fun _ => (by with_unfolding_all rfl)) (fun _ => ⟨_, _, (by with_unfolding_all rfl)⟩) (keeps_type _) ?_
  | with_reducible refine g_call bAbs (by with_unfolding_all rfl) (fun _ => (by with_unfolding_all rfl)) (fun _ => ⟨_, _, (by with_unfolding_all rfl)⟩) (keeps_builtin _) ?_
  | with_reducible refine g_call bMax (by with_unfolding_all rfl) (fun _ => (by with_unfolding_all rfl)) (fun _ => ⟨_, _, (by with_unfolding_all rfl)⟩) (keeps_builtin _) ?_
  | with_reducible refine g_call bMin (by with_unfolding_all rfl) (fun _ => (by with_unfolding_all rfl)) (fun _ => ⟨_, _, (by with_unfolding_all rfl)⟩) (keeps_builtin _) ?_
  | with_reducible refine g_call bSum (by with_unfolding_all rfl) (fun _ => (by with_unfolding_all rfl)) (fun _ => ⟨_, _, (by with_unfolding_all rfl)⟩) (keeps_builtin _) ?_
  | with_reducible refine g_call bSorted (by with_unfolding_all rfl) (fun _ => (by with_unfolding_all rfl)) (fun _ => ⟨_, _, (by with_unfolding_all rfl)⟩) (keeps_builtin _) ?_
  | with_reducible refine g_call bEnumerate (by with_unfolding_all rfl) (fun _ => (by with_unfolding_all rfl)) (fun _ => ⟨_, _, (by with_unfolding_all rfl)⟩) (keeps_type _) ?_
  | with_reducible refine g_call (kOwn (by with_unfolding_all rfl)) (by with_unfolding_all rfl) (fun _ => (by with_unfolding_all rfl)) (fun _ => ⟨_, _, (by with_unfolding_all rfl)⟩) (kKeep (by kernel_rfl)) ?_))

local macro_rules | `(tactic| k_ownIn) => `(tactic| repeat (first
  | with_reducible exact capt_nil
  | with_reducible refine capt_cons (by with_unfolding_all rfl) (by with_unfolding_all rfl) ?_
  | with_reducible exact wk_refl
  | with_reducible exact Wk.nil
  | with_reducible refine Wk.cons (by with_unfolding_all rfl) ?_
  | with_reducible refine wk_set (by with_unfolding_all rfl) ?_))
-- part F1
abbrev pr (p : Int × Int) : V := .tup [.int p.1, .int p.2]
abbrev prs (D : List (Int × Int)) : List V := D.map pr
abbrev dv (D : List (Int × Int)) : V := .tup (prs D)
theorem idx_last {vs : List V} {v : V} (hb : vs.length < big) : idx (vs ++ [v]) (-1) = some v := by
  unfold idx
  rw [if_neg (by decide), if_pos (by simp; omega)]
  have e : ((-1 : Int) + ((vs ++ [v]).length : Nat)).toNat = vs.length := by simp; omega
  rw [e]; simp
/-- the ints of a domain -/
def iv (lo hi : Int) : List Int := (List.range (hi + 1 - lo).toNat).map fun (k : Nat) => lo + k
def vals (D : List (Int × Int)) : List Int := D.flatMap fun p => iv p.1 p.2
def small (i : Int) : Prop := -1000 ≤ i ∧ i ≤ 1000
theorem rl_iv {lo hi : Int} : rl lo (hi + 1) = numV (iv lo hi) := by
  unfold rl iv numV; rw [List.map_map]; rfl
theorem filterMap_pr {f : V → Option V} {g : Int × Int → V} {D : List (Int × Int)} (h : ∀ p, f (pr p) = some (g p)) : (prs D).filterMap f = D.map g := by
  unfold prs
  rw [List.filterMap_map]
  have : (f ∘ pr) = fun p => some (g p) := by funext p; exact h p
  rw [this]
  show List.filterMap (some ∘ g) D = D.map g
  rw [List.filterMap_eq_map]

section
variable {c : Cx} [hK : IsK c] {n : Nat} {σ : Sg} {Q : V → Sg → Prop}

theorem f_least {p : Int × Int} {D : List (Int × Int)} (h : Q (.int p.1) σ) : CallV c (n + 1) (.ref 35) [dv (p :: D)] σ Q := by
  refine kCall (names := ["d"]) (by kernel_rfl) (by kernel_rfl) (by intro xs h; match xs, h with | [x0], _ => rfl) (by conv => lhs; whnf) (by conv => lhs; whnf) rfl ?_
  k_memK
  exact h

theorem f_greatest {p : Int × Int} {D : List (Int × Int)} (hb : D.length < 1000) (h : Q (.int p.2) σ) : CallV c (n + 1) (.ref 42) [dv (D ++ [p])] σ Q := by
  refine kCall (names := ["d"]) (by kernel_rfl) (by kernel_rfl) (by intro xs h; match xs, h with | [x0], _ => rfl) (by conv => lhs; whnf) (by conv => lhs; whnf) rfl ?_
  k_memK
  refine sub_tup (v := pr p) ?_ (by decide) ?_ (fun _ _ => rfl)
  · show idx (prs (D ++ [p])) (-1) = _
    unfold prs
    rw [List.map_append]
    exact idx_last (by simp; exact Nat.lt_trans hb (by decide))
  k_memK
  exact h

def width (D : List (Int × Int)) : Int := (D.map fun p => p.2 - p.1 + 1).sum
def fSize : V → Option V
  | .tup [.int a, .int b] => some (.int (b - a + 1))
  | _ => none
theorem f_size {D : List (Int × Int)} (hb : D.length ≤ 1000) (h : Q (.int (width D)) σ) : CallV c (n + 1) (.ref 47) [dv D] σ Q := by
  refine kCall (names := ["d"]) (by kernel_rfl) (by kernel_rfl) (by intro xs h; match xs, h with | [x0], _ => rfl) (by conv => lhs; whnf) (by conv => lhs; whnf) rfl ?_
  k_memK
  refine ev_comp_pure [] (prs D) fSize (by simp; exact Nat.le_trans hb (by decide)) (by with_unfolding_all rfl) (fun x v e => by simp at e) (fun _ _ => rfl) ?_ ?_ ?_
  · k_memK
    exact it_tup fun a ha => ⟨ha, rfl⟩
  · intro σ' hσ v hv
    obtain ⟨p, hp, rfl⟩ := List.mem_map.mp hv
    refine ct_pair (by with_unfolding_all rfl) ⟨rfl, fun _ _ e => by simp at e, rfl, fun _ => ?_, fun e => by cases e⟩
    k_memK
    exact ⟨rfl, rfl⟩
  · k_memK
    rw [filterMap_pr (g := fun p => V.int (p.2 - p.1 + 1)) fun p => rfl]
    have e : (D.map fun p => V.int (p.2 - p.1 + 1)) = numV (D.map fun p => p.2 - p.1 + 1) := by unfold numV; rw [List.map_map]; rfl
    rw [e]
    exact c_sum h

def fUp (k : Int) : V → Option V
  | .tup [.int a, .int b] => if a ≤ k then some (pr (a, min b k)) else none
  | _ => none
def upTo (D : List (Int × Int)) (k : Int) : List (Int × Int) := D.filterMap fun p => if p.1 ≤ k then some (p.1, min p.2 k) else none
theorem up_is {D : List (Int × Int)} {k : Int} : (prs D).filterMap (fUp k) = prs (upTo D k) := by
  unfold prs upTo
  rw [List.filterMap_map, List.map_filterMap]
  congr 1
  funext p
  show (if p.1 ≤ k then _ else _) = _
  by_cases h : p.1 ≤ k
  · simp [h]
  · simp [h]
theorem f_up_to {D : List (Int × Int)} {k : Int} (hb : D.length ≤ 1000) (h : Q (dv (upTo D k)) σ) : CallV c (n + 1) (.ref 73) [dv D, .int k] σ Q := by
  refine kCall (names := ["d", "k"]) (by kernel_rfl) (by kernel_rfl) (by intro xs h; match xs, h with | [x0, x1], _ => rfl) (by conv => lhs; whnf) (by conv => lhs; whnf) rfl ?_
  k_memK
  refine ev_comp_pure [("k", .int k)] (prs D) (fUp k) (by simp; exact Nat.le_trans hb (by decide)) (by with_unfolding_all rfl) (by k_ownIn) (fun _ _ => rfl) ?_ ?_ ?_
  · k_memK
    exact it_tup fun a ha => ⟨ha, rfl⟩
  · intro σ' hσ v hv
    obtain ⟨p, hp, rfl⟩ := List.mem_map.mp hv
    refine ct_pair (by with_unfolding_all rfl) ⟨rfl, by k_ownIn, ?_⟩
    show EvT _ _ _ _ _ _ _
    k_memK
    refine ⟨rfl, fun hq => ?_, fun hq => ?_⟩
    · k_memK
      refine ⟨by show 2 ≤ big; decide, rfl, ?_⟩
      show (if p.1 ≤ k then _ else _) = _
      rw [if_pos (by simpa using hq)]
    · show (if p.1 ≤ k then _ else _) = _
      rw [if_neg (by simpa using hq)]
  · k_memK
    rw [up_is]
    exact c_tuple_lst h

def fOn (k : Int) : V → Option V
  | .tup [.int a, .int b] => if k ≤ b then some (pr (max a k, b)) else none
  | _ => none
def fromOn (D : List (Int × Int)) (k : Int) : List (Int × Int) := D.filterMap fun p => if k ≤ p.2 then some (max p.1 k, p.2) else none
theorem on_is {D : List (Int × Int)} {k : Int} : (prs D).filterMap (fOn k) = prs (fromOn D k) := by
  unfold prs fromOn
  rw [List.filterMap_map, List.map_filterMap]
  congr 1
  funext p
  show (if k ≤ p.2 then _ else _) = _
  by_cases h : k ≤ p.2
  · simp [h]
  · simp [h]
theorem f_from_on {D : List (Int × Int)} {k : Int} (hb : D.length ≤ 1000) (h : Q (dv (fromOn D k)) σ) : CallV c (n + 1) (.ref 78) [dv D, .int k] σ Q := by
  refine kCall (names := ["d", "k"]) (by kernel_rfl) (by kernel_rfl) (by intro xs h; match xs, h with | [x0, x1], _ => rfl) (by conv => lhs; whnf) (by conv => lhs; whnf) rfl ?_
  k_memK
  refine ev_comp_pure [("k", .int k)] (prs D) (fOn k) (by simp; exact Nat.le_trans hb (by decide)) (by with_unfolding_all rfl) (by k_ownIn) (fun _ _ => rfl) ?_ ?_ ?_
  · k_memK
    exact it_tup fun a ha => ⟨ha, rfl⟩
  · intro σ' hσ v hv
    obtain ⟨p, hp, rfl⟩ := List.mem_map.mp hv
    refine ct_pair (by with_unfolding_all rfl) ⟨rfl, by k_ownIn, ?_⟩
    show EvT _ _ _ _ _ _ _
    k_memK
    refine ⟨rfl, fun hq => ?_, fun hq => ?_⟩
    · k_memK
      refine ⟨by show 2 ≤ big; decide, rfl, ?_⟩
      show (if k ≤ p.2 then _ else _) = _
      rw [if_pos (by simpa using hq)]
    · show (if k ≤ p.2 then _ else _) = _
      rw [if_neg (by simpa using hq)]
  · k_memK
    rw [on_is]
    exact c_tuple_lst h

def without (D : List (Int × Int)) (v : Int) : List (Int × Int) := upTo D (v - 1) ++ fromOn D (v + 1)
theorem upTo_len {D : List (Int × Int)} {k : Int} : (upTo D k).length ≤ D.length := List.length_filterMap_le _ _
theorem fromOn_len {D : List (Int × Int)} {k : Int} : (fromOn D k).length ≤ D.length := List.length_filterMap_le _ _
theorem f_without {D : List (Int × Int)} {v : Int} (hb : D.length ≤ 500) (h : Q (dv (without D v)) σ) : CallV c (n + 2) (.ref 85) [dv D, .int v] σ Q := by
  refine kCall (names := ["d", "v"]) (by kernel_rfl) (by kernel_rfl) (by intro xs h; match xs, h with | [x0, x1], _ => rfl) (by conv => lhs; whnf) (by conv => lhs; whnf) rfl ?_
  k_memK
  refine f_up_to (by omega) ?_
  k_memK
  refine f_from_on (by omega) ?_
  refine op_addt ?_ ?_
  · have h1 := @upTo_len D (v - 1)
    have h2 := @fromOn_len D (v + 1)
    have : 1000 ≤ big := by decide
    simp
    omega
  · have : prs (upTo D (v - 1)) ++ prs (fromOn D (v + 1)) = prs (without D v) := by unfold prs without; rw [List.map_append]
    rw [this]; exact h

/-- a literal -/
abbrev lv (x : Int) (s : Str) (k : Int) : V := .tup [.int x, .str s, .int k]
def neg (s : Str) (k : Int) : Str × Int := if s = "<=" then (">=", k + 1) else if s = ">=" then ("<=", k - 1) else if s = "=" then ("!=", k) else ("=", k)
theorem f_negation {x k : Int} {s : Str} (h : Q (lv x (neg s k).1 (neg s k).2) σ) : CallV c (n + 1) (.ref 99) [lv x s k] σ Q := by
  refine kCall (names := ["literal"]) (by kernel_rfl) (by kernel_rfl) (by intro xs h; match xs, h with | [x0], _ => rfl) (by conv => lhs; whnf) (by conv => lhs; whnf) rfl ?_
  k_memK
  unfold neg at h
  refine ⟨fun hq => ?_, fun hq => ?_⟩
  · rw [if_pos (by simpa using hq)] at h
    k_memK
    exact ⟨by show 3 ≤ big; decide, h⟩
  rw [if_neg (by simpa using hq)] at h
  k_memK
  refine ⟨fun hq => ?_, fun hq => ?_⟩
  · rw [if_pos (by simpa using hq)] at h
    k_memK
    exact ⟨by show 3 ≤ big; decide, h⟩
  rw [if_neg (by simpa using hq)] at h
  k_memK
  refine ⟨fun hq => ?_, fun hq => ?_⟩
  · rw [if_pos (by simpa using hq)] at h
    k_memK
    exact ⟨by show 3 ≤ big; decide, h⟩
  · rw [if_neg (by simpa using hq)] at h
    k_memK
    exact ⟨by show 3 ≤ big; decide, h⟩

end
-- part F2
theorem refs_map {σ : Sg} {α : Type} {f : α → V} (h : ∀ x, RefsV σ (f x)) : ∀ l : List α, RefsL σ (l.map f)
  | [] => .nil
  | x :: l => .cons (h x) (refs_map h l)
theorem refs_dv {σ : Sg} {D : List (Int × Int)} : RefsV σ (dv D) := .tup (refs_map (fun p => .tup (.cons (.int _) (.cons (.int _) .nil))) D)

section
variable {c : Cx} [hK : IsK c] {n : Nat} {σ : Sg} {Q : V → Sg → Prop}
/-- meet with one int -/
def meetK : List (Int × Int) → Int → List (Int × Int)
  | [], _ => []
  | p :: D, k => if p.2 < k then meetK D k else if p.1 ≤ k then [(k, k)] else []
theorem idx_nat {vs : List V} {i : Nat} {v : V} (h : vs[i]? = some v) : idx vs (i : Int) = some v := by
  unfold idx; rw [if_pos (Int.natCast_nonneg i)]; simpa using h
theorem f_meet {D : List (Int × Int)} {k : Int} (hb : D.length ≤ 1000) (h : Q (dv (meetK D k)) σ) : CallV c (n + 1) (.ref 92) [dv D, dv [(k, k)]] σ Q := by
  refine CallV.pure (CallV.mono (Q := fun v σ' => (∀ a, σ a ≠ none → σ' a = σ a) ∧ v = dv (meetK D k)) ?_ fun v σ' ⟨h1, e⟩ => ⟨h1, e ▸ refs_dv, e ▸ h⟩)
  refine kCall (names := ["d", "e"]) (by kernel_rfl) (by kernel_rfl) (by intro xs h; match xs, h with | [x0, x1], _ => rfl) (by conv => lhs; whnf) (by conv => lhs; whnf) rfl ?_
  k_memK
  refine ev_mlist 0 ?_
  k_memK
  refine ⟨Nat.zero_le _, fun a ha => ?_⟩
  k_memK
  refine ⟨by show 3 ≤ big; decide, _, rfl, rfl, ?_⟩
  show ExS _ _ _ _ _ _ _ _
  refine s_while (fun m ρ' σ' => ∃ (i j : Nat) (acc rest : List (Int × Int)), ρ' = ([("d", dv D), ("e", dv [(k, k)]), ("found", .ref a), ("i", .int i), ("j", .int j)] : Rho) ∧ σ' = upd σ a (.list 0 (prs acc)) ∧ D.drop i = rest ∧ m = D.length - i + (1 - j) ∧ j ≤ 1 ∧ acc.length ≤ i + j ∧
      meetK D k = (if j = 0 then acc ++ meetK rest k else acc)) (D.length + 1) _ (by k_ownIn) ⟨0, 0, [], D, rfl, rfl, rfl, rfl, Nat.zero_le _, Nat.le_refl _, rfl⟩ ?_
  rintro m ρ' σ' ⟨i, j, acc, rest, rfl, rfl, hrest, rfl, hj, hacc, hm⟩
  k_memK
  refine c_len_tup ?_
  k_memK
  refine ⟨fun hi => ?_, fun hi => ?_⟩
  · k_memK
    refine c_len_tup ?_
    k_memK
    refine ⟨fun hj' => ?_, fun hj' => ?_⟩
    · have hi' : i < D.length := by simpa using hi
      have hj0 : j = 0 := by simp at hj'; omega
      subst hj0
      have hidx : idx (prs D) (i : Int) = some (pr D[i]) := idx_nat (by simp [hi'])
      have hr : rest = D[i] :: D.drop (i + 1) := by rw [← hrest]; exact List.drop_eq_getElem_cons hi'
      generalize D[i] = p at *
      have key : meetK D k = acc ++ meetK (p :: D.drop (i + 1)) k := by rw [hm, if_pos rfl, hr]
      k_memK
      refine ⟨fun _ => ?_, fun q => by cases q⟩
      k_memK
      refine ⟨by show 2 ≤ big; decide, _, rfl, rfl, ?_⟩
      show ExS _ _ _ _ _ _ _ _
      have hbig : (prs acc).length < big := by
        have : 2000 ≤ big := by decide
        simp; omega
      k_memK
      refine ⟨fun hc => ?_, fun hc => ?_⟩
      · have hc' : max p.1 k ≤ min p.2 k := by simpa using hc
        k_memK
        refine ⟨a, 0, _, rfl, upd_same, ?_⟩
        k_memK
        refine ⟨by show 2 ≤ big; decide, 0, _, upd_same, hbig, ?_⟩
        show ExS _ _ _ _ _ _ _ _
        rw [upd_upd]
        k_memK
        refine ⟨fun hd => ?_, fun hd => ?_⟩
        · simp at hd; omega
        · k_memK
          refine ⟨_, _, ?_, (by k_ownIn : Wk [("d", dv D), ("e", dv [(k, k)]), ("found", .ref a), ("i", .int i), ("j", .int ((0 : Nat) + 1))] _), i, 1, acc ++ [(k, k)], _, rfl, ?_, rfl, rfl, Nat.le_refl _, by simp; omega, ?_⟩
          · omega
          · unfold prs
            have e1 : max p.1 k = k := by omega
            have e2 : min p.2 k = k := by omega
            rw [e1, e2]
            simp
          · rw [if_neg (by decide), key, meetK, if_neg (by omega), if_pos (by omega)]
      · have hc' : ¬ max p.1 k ≤ min p.2 k := by simpa using hc
        k_memK
        refine ⟨fun hd => ?_, fun hd => ?_⟩
        · have hd' : p.2 < k := by simpa using hd
          k_memK
          refine ⟨_, _, ?_, (by k_ownIn : Wk [("d", dv D), ("e", dv [(k, k)]), ("found", .ref a), ("i", .int (i + 1 : Nat)), ("j", .int (0 : Nat))] _), i + 1, 0, acc, _, rfl, rfl, rfl, rfl, Nat.zero_le _, by omega, ?_⟩
          · omega
          · rw [if_pos rfl, key, meetK, if_pos hd']
        · have hd' : ¬ p.2 < k := by simpa using hd
          k_memK
          refine ⟨_, _, ?_, (by k_ownIn : Wk [("d", dv D), ("e", dv [(k, k)]), ("found", .ref a), ("i", .int i), ("j", .int ((0 : Nat) + 1))] _), i, 1, acc, _, rfl, rfl, rfl, rfl, Nat.le_refl _, by omega, ?_⟩
          · omega
          · rw [if_neg (by decide), key, meetK, if_neg hd', if_neg (by omega), List.append_nil]
    · have hj1 : j = 1 := by simp at hj'; omega
      subst hj1
      rw [if_neg (by decide)] at hm
      refine ⟨fun q => (nomatch q), fun _ => ?_⟩
      k_memK
      refine c_tuple_ref upd_same ⟨fun b hb => upd_ne (fun q => hb (q ▸ ha)) rfl, by rw [hm]⟩
  · have hi' : ¬ i < D.length := by simpa using hi
    have hr : rest = [] := by rw [← hrest]; exact List.drop_eq_nil_of_le (by omega)
    have hm' : meetK D k = acc := by
      rw [hm, hr]; split
      · simp [meetK]
      · rfl
    refine ⟨fun q => (nomatch q), fun _ => ?_⟩
    k_memK
    refine c_tuple_ref upd_same ⟨fun b hb => upd_ne (fun q => hb (q ▸ ha)) rfl, by rw [hm']⟩
end
-- part F3
section
variable {c : Cx} [hK : IsK c] {n : Nat} {σ : Sg} {Q : V → Sg → Prop}
def strk (s : Str) (k : Int) (D : List (Int × Int)) : List (Int × Int) :=
  if s = "<=" then upTo D k else if s = ">=" then fromOn D k else if s = "=" then meetK D k else without D k
theorem f_struck {x k : Int} {s : Str} {D : List (Int × Int)} (hb : D.length ≤ 500) (h : Q (dv (strk s k D)) σ) : CallV c (n + 3) (.ref 106) [lv x s k, dv D] σ Q := by
  refine kCall (names := ["literal", "d"]) (by kernel_rfl) (by kernel_rfl) (by intro xs h; match xs, h with | [x0, x1], _ => rfl) (by conv => lhs; whnf) (by conv => lhs; whnf) rfl ?_
  k_memK
  refine ⟨by show 2 ≤ big; decide, _, rfl, rfl, ?_⟩
  unfold strk at h
  k_memK
  refine ⟨fun hq => ?_, fun hq => ?_⟩
  · rw [if_pos (by simpa using hq)] at h
    k_memK
    exact f_up_to (by omega) h
  rw [if_neg (by simpa using hq)] at h
  k_memK
  refine ⟨fun hq => ?_, fun hq => ?_⟩
  · rw [if_pos (by simpa using hq)] at h
    k_memK
    exact f_from_on (by omega) h
  rw [if_neg (by simpa using hq)] at h
  k_memK
  refine ⟨fun hq => ?_, fun hq => ?_⟩
  · rw [if_pos (by simpa using hq)] at h
    k_memK
    refine ⟨by show 2 ≤ big; decide, ?_⟩
    k_memK
    refine ⟨by show 1 ≤ big; decide, ?_⟩
    k_memK
    exact f_meet (by omega) h
  · rw [if_neg (by simpa using hq)] at h
    k_memK
    exact f_without (by omega) h

theorem f_values {D : List (Int × Int)} (hb : D.length ≤ 1000) (hs : ∀ p ∈ D, -1000 ≤ p.1 ∧ p.1 ≤ 1000 ∧ -1000 ≤ p.2 ∧ p.2 ≤ 1000) (hv : (vals D).length ≤ 1000) (h : ∀ a, σ a = none → Q (.ref a) (upd σ a (.list 0 (numV (vals D))))) : CallV c (n + 1) (.ref 68) [dv D] σ Q := by
  refine kCall (names := ["d"]) (by kernel_rfl) (by kernel_rfl) (by intro xs h; match xs, h with | [x0], _ => rfl) (by conv => lhs; whnf) (by conv => lhs; whnf) rfl ?_
  k_memK
  refine ev_mlist 0 ?_
  k_memK
  refine ⟨Nat.zero_le _, fun a ha => ?_⟩
  k_memK
  refine s_for (fun vs ρ' σ' => ∃ E F, D = E ++ F ∧ vs = prs F ∧ ρ' = ([("found", .ref a)] : Rho) ∧ σ' = upd σ a (.list 0 (numV (vals E)))) (fun _ _ => rfl) ?_ ?_ ?_
  · k_memK
    refine it_tup fun b hb' => ⟨_, _, _, hb', rfl, (by k_ownIn : Wk [("found", .ref a)] _), [], D, rfl, rfl, rfl, rfl⟩
  · rintro v vs ρ' σ' b ⟨E, F, hD, hvs, rfl, rfl⟩ hb'
    cases F with
    | nil => cases hvs
    | cons p F =>
      simp only [prs, List.map_cons, List.cons.injEq] at hvs
      obtain ⟨rfl, rfl⟩ := hvs
      have hab : a ≠ b := by rintro rfl; rw [upd_same] at hb'; cases hb'
      have hp := hs p (by rw [hD]; simp)
      have hlen : (vals E).length + (p.2 + 1 - p.1).toNat ≤ 1000 := by
        rw [hD] at hv
        simp [vals, iv] at hv ⊢
        omega
      k_memK
      refine ⟨a, 0, _, rfl, upd_ne hab upd_same, ?_⟩
      k_memK
      refine ⟨0, _, _, _, rfl, ⟨by omega, by omega, by omega, by omega⟩, upd_ne hab upd_same, ?_, ?_⟩
      · have : 1000 ≤ big := by decide
        simp [numV]; omega
      · k_memK
        refine ⟨_, _, ?_, ?_, (by k_ownIn : Wk [("found", .ref a)] _), E ++ [p], F, by simp [hD], rfl, rfl, rfl⟩
        · rw [upd_comm (Ne.symm hab), upd_upd]
          congr 2
          rw [rl_iv]
          simp [vals, numV]
        · exact upd_ne (Ne.symm hab) (by unfold upd at hb'; rw [if_neg (Ne.symm hab)] at hb'; exact hb')
  · rintro ρ' σ' ⟨E, F, hD, hvs, rfl, rfl⟩
    cases F with
    | cons p F => cases hvs
    | nil =>
      rw [List.append_nil] at hD
      subst hD
      k_memK
      exact h a ha
end
-- part F4
section
variable {c : Cx} [hK : IsK c] {n : Nat} {σ : Sg} {Q : V → Sg → Prop}
def putB (L : List (Int × Int)) (lo hi : Int) : List (Int × Int) :=
  match L.getLast? with
  | none => [(lo, hi)]
  | some p => if lo ≤ p.2 + 1 then (if p.2 < hi then L.dropLast ++ [(p.1, hi)] else L) else L ++ [(lo, hi)]
theorem f_put_behind {a : Addr} {t : Nat} {L : List (Int × Int)} {lo hi : Int} (ha : σ a = some (.list t (prs L))) (hb : L.length < 1000) (h : Q .none (upd σ a (.list t (prs (putB L lo hi))))) : CallV c (n + 1) (.ref 21) [.ref a, .int lo, .int hi] σ Q := by
  refine kCall (names := ["found", "low", "high"]) (by kernel_rfl) (by kernel_rfl) (by intro xs h; match xs, h with | [x0, x1, x2], _ => rfl) (by conv => lhs; whnf) (by conv => lhs; whnf) rfl ?_
  k_memK
  refine c_len_ref ha ?_
  k_memK
  have hbig : 1000 ≤ big := by decide
  rcases List.eq_nil_or_concat L with rfl | ⟨M, p, rfl⟩
  · refine ⟨fun q => by simp at q, fun _ => ⟨fun q => (nomatch q), fun _ => ?_⟩⟩
    k_memK
    refine ⟨a, t, _, rfl, ha, ?_⟩
    k_memK
    refine ⟨by show 2 ≤ big; decide, t, _, ha, by simp; omega, ?_⟩
    k_memK
    exact h
  · simp only [List.concat_eq_append] at ha hb h
    have hp : prs (M ++ [p]) = prs M ++ [pr p] := by simp
    have hl : (M ++ [p]).getLast? = some p := by simp
    have hidx : idx (prs (M ++ [p])) (-1) = some (pr p) := by rw [hp]; exact idx_last (by simp at hb ⊢; omega)
    unfold putB at h
    rw [hl] at h
    dsimp only at h
    refine ⟨fun _ => ?_, fun q => by simp at q⟩
    k_memK
    refine ⟨fun hq => ?_, fun hq => ?_⟩
    · rw [if_pos (by simpa using hq)] at h
      k_memK
      refine ⟨fun _ => ?_, fun q => (nomatch q)⟩
      k_memK
      refine ⟨fun hq => ?_, fun hq => ?_⟩
      · rw [if_pos (by simpa using hq)] at h
        k_memK
        refine ⟨by show 2 ≤ big; decide, ?_⟩
        k_memK
        refine i_last (by rw [← hp]; exact ha) ?_
        k_memK
        simpa using h
      · rw [if_neg (by simpa using hq)] at h
        k_memK
        have e : upd σ a (.list t (prs (M ++ [p]))) = σ := by
          funext x; unfold upd; split
          · rename_i q; rw [q, ha]
          · rfl
        rw [e] at h
        exact h
    · rw [if_neg (by simpa using hq)] at h
      refine ⟨fun q => (nomatch q), fun _ => ?_⟩
      k_memK
      refine ⟨a, t, _, rfl, ha, ?_⟩
      k_memK
      refine ⟨by show 2 ≤ big; decide, t, _, ha, by simp at hb ⊢; omega, ?_⟩
      k_memK
      simpa using h
end
-- part F5
section
variable {c : Cx} [hK : IsK c] {n : Nat} {σ : Sg} {Q : V → Sg → Prop}
def putAll (ns : List Int) : List (Int × Int) := ns.foldl (fun L v => putB L v v) []
theorem putB_len {L : List (Int × Int)} {lo hi : Int} : (putB L lo hi).length ≤ L.length + 1 := by
  unfold putB
  split
  · simp
  · split
    · split
      · simp
        try omega
      · omega
    · simp
theorem f_from_values {ns : List Int} (h64 : ns.length < 64) (h : ∀ ns' : List Int, ns'.Perm ns → ns'.Pairwise (· ≤ ·) → Q (dv (putAll ns')) σ) : CallV c (n + 2) (.ref 28) [.lst (numV ns)] σ Q := by
  refine CallV.pure (CallV.mono (Q := fun v σ' => (∀ a, σ a ≠ none → σ' a = σ a) ∧ ∃ ns' : List Int, ns'.Perm ns ∧ ns'.Pairwise (· ≤ ·) ∧ v = dv (putAll ns')) ?_ fun v σ' ⟨h1, ns', p1, p2, e⟩ => ⟨h1, e ▸ refs_dv, e ▸ h ns' p1 p2⟩)
  refine kCall (names := ["numbers"]) (by kernel_rfl) (by kernel_rfl) (by intro xs h; match xs, h with | [x0], _ => rfl) (by conv => lhs; whnf) (by conv => lhs; whnf) rfl ?_
  k_memK
  refine ev_mlist 0 ?_
  k_memK
  refine ⟨Nat.zero_le _, fun a ha => ?_⟩
  k_memK
  refine s_for (fun vs ρ' σ' => ∃ E F : List Int, (E ++ F).Perm ns ∧ (E ++ F).Pairwise (· ≤ ·) ∧ vs = numV F ∧ ρ' = ([("found", .ref a)] : Rho) ∧ (putAll E).length ≤ E.length ∧ σ' = upd σ a (.list 0 (prs (putAll E)))) (fun _ _ => rfl) ?_ ?_ ?_
  · k_memK
    refine c_sorted h64 (fun ns' p1 p2 => ?_) (.inl rfl)
    refine it_lst fun b hb' => ⟨_, _, _, hb', rfl, (by k_ownIn : Wk [("found", .ref a)] _), [], ns', p1, p2, rfl, rfl, Nat.le_refl _, rfl⟩
  · rintro v vs ρ' σ' b ⟨E, F, p1, p2, hvs, rfl, hlen, rfl⟩ hb'
    cases F with
    | nil => cases hvs
    | cons x F =>
      simp only [numV, List.map_cons, List.cons.injEq] at hvs
      obtain ⟨rfl, rfl⟩ := hvs
      have hab : a ≠ b := by rintro rfl; rw [upd_same] at hb'; cases hb'
      have hl := p1.length_eq
      simp only [List.length_append, List.length_cons] at hl
      k_memK
      refine f_put_behind (L := putAll E) (t := 0) (upd_ne hab upd_same) (by omega) ?_
      k_memK
      have hpl := @putB_len (putAll E) x x
      have e : putAll (E ++ [x]) = putB (putAll E) x x := by simp [putAll]
      refine ⟨_, _, ?_, ?_, (by k_ownIn : Wk [("found", .ref a)] _), E ++ [x], F, by simpa using p1, by simpa using p2, rfl, rfl, ?_, rfl⟩
      · rw [upd_comm (Ne.symm hab), upd_upd, e]
      · exact upd_ne (Ne.symm hab) (by unfold upd at hb'; rw [if_neg (Ne.symm hab)] at hb'; exact hb')
      · rw [e]; simp; omega
  · rintro ρ' σ' ⟨E, F, p1, p2, hvs, rfl, hlen, rfl⟩
    cases F with
    | cons p F => cases hvs
    | nil =>
      rw [List.append_nil] at p1 p2
      k_memK
      exact c_tuple_ref upd_same ⟨fun b hb => upd_ne (fun q => hb (q ▸ ha)) rfl, E, p1, p2, rfl⟩
end
end Mine
-- part G0
namespace Mine
open PySem PySem.W PySem.Calls PyProof.Rows
section
variable {c : Cx} {n : Nat} {sc : Scope} {ρ : Rho} {σ : Sg} {Q : V → Sg → Prop}
/-- a method call, the callee known once the receiver is -/
theorem ev_meth {o : Expr} {name : Str} {apos pos : Pos} {args : List Expr} (hb : ∀ env, attributeBase o name env (eval o env) = eval o env) (hline : (apos.endLine == pos.line) = true)
    (hform : ∀ env, methodCallForm (args.length + ([] : List Keyword).length) (backTo pos (starEach args env)) (backToKw pos (keywordEach [] env)) = true)
    (hplain : ∀ env, (backTo pos (starEach args env)).any (·.1) = false) (hargs : ∀ env, args = [] ∨ ∃ x r, starEach args env = (false, x) :: r)
    (h : EvE c n sc ρ σ o fun v σ₁ => ∃ f : Addr, keepIn c.K (.ref f) = true ∧ MethV c n name v σ₁ (.ref f) ∧ EvL c n sc ρ σ₁ args fun vs σ₂ => CallV c n (.ref f) (v :: vs) σ₂ Q) : EvE c n sc ρ σ (.Call (.Attribute o name apos) args [] pos) Q := by
  intro A env s C
  rw [arm_eval_Call, hb]
  refine wpAny_bind (wmono (h A env s C) fun x s₁ ⟨σ₁, a, S, G, I, f, hk, hm, q⟩ => wpAny_bind (wpAny_standAt ?_))
  have hpos : methodCallPos true o env apos pos = pure pos := by unfold methodCallPos; simp [hline]
  unfold methodCall
  rw [hform]
  refine wpAny_bind (wpAny_holding (hm A s₁ x _ _ C.room G I (wpAny_bind (wpAny_of_eq hpos ?_))))
  have fin : wpAny c.M A (spliced (backTo pos (starEach args env))) (fun vs s₂ => c.K.In s₂.heap ∧ wpAny c.M A (call (.ref f) ([x] ++ vs)) (Post c σ s Q) Ef s₂) Ef s₁ := by
    refine wmono (q A env s₁ pos (C.step S G)) fun xs s₂ ⟨σ₂, vs, S₂, G₂, I₂, q₂⟩ => ⟨G₂.In, ?_⟩
    exact wmono (q₂ A s₂ (x :: xs) C.room G₂ (.cons (I.step S₂ apart_no) I₂)) fun _ _ => Post.trans (S.trans S₂)
  refine callWith_of (P := c.K.In) ?_ (keeps_in hk) ?_
  · rw [hplain]; rfl
  · rcases hargs env with rfl | ⟨y, r, e⟩
    · exact evalArgs_nilS fin
    · rw [e] at fin ⊢
      exact evalArgs_plain fin
def UMeth (c : Cx) (n : Nat) (name : Str) (v : V) (σ : Sg) (P : Addr → Prop) : Prop := ∃ f : Addr, keepIn c.K (.ref f) = true ∧ MethV c n name v σ (.ref f) ∧ P f
theorem ev_meth0 {o : Expr} {name : Str} {apos pos : Pos} (hb : ∀ env, attributeBase o name env (eval o env) = eval o env) (hline : (apos.endLine == pos.line) = true)
    (hform : ∀ env, methodCallForm (([] : List Expr).length + ([] : List Keyword).length) (backTo pos (starEach [] env)) (backToKw pos (keywordEach [] env)) = true)
    (h : EvE c n sc ρ σ o fun v σ₁ => UMeth c n name v σ₁ fun f => CallV c n (.ref f) [v] σ₁ Q) : EvE c n sc ρ σ (.Call (.Attribute o name apos) [] [] pos) Q :=
  ev_meth hb hline hform (fun _ => rfl) (fun _ => .inl rfl) (ev_mono h fun v σ₁ ⟨f, h1, h2, h3⟩ => ⟨f, h1, h2, el_nil h3⟩)
theorem ev_meth1 {o : Expr} {name : Str} {apos pos : Pos} {e : Expr} {r : List Expr} (hb : ∀ env, attributeBase o name env (eval o env) = eval o env) (hline : (apos.endLine == pos.line) = true)
    (hform : ∀ env, methodCallForm ((e :: r).length + ([] : List Keyword).length) (backTo pos (starEach (e :: r) env)) (backToKw pos (keywordEach [] env)) = true)
    (hplain : ∀ env, (backTo pos (starEach (e :: r) env)).any (·.1) = false) (hargs : ∀ env, ∃ y z, starEach (e :: r) env = (false, y) :: z)
    (h : EvE c n sc ρ σ o fun v σ₁ => UMeth c n name v σ₁ fun f => EvL c n sc ρ σ₁ (e :: r) fun vs σ₂ => CallV c n (.ref f) (v :: vs) σ₂ Q) : EvE c n sc ρ σ (.Call (.Attribute o name apos) (e :: r) [] pos) Q :=
  ev_meth hb hline hform hplain (fun env => .inr (hargs env)) h
def AttrSet (c : Cx) (r : V) (name : Str) (v : V) (σ : Sg) (K : Sg → Prop) : Prop := ∃ C l t fs, r = .inst C l ∧ σ l = some (.ns t fs) ∧ storeOk c.K C name = true ∧ fs.length ≤ 800 ∧ K (upd σ l (.ns t (rset fs name v)))
theorem as_attrS {o : Expr} {name : Str} {pos : Pos} {v : V} {K : Rho → Sg → Prop} (h : EvE c n sc ρ σ o fun r σ₁ => AttrSet c r name v σ₁ (K ρ)) : AsT c n sc ρ σ (.Attribute o name pos) v K := as_attr h

def notSlice : Expr → Bool
  | .Slice _ _ _ _ => false
  | _ => true
theorem ev_subN {o i : Expr} {pos : Pos} (_ : notSlice i = true) (h : EvE c n sc ρ σ o fun a σ₁ => EvE c n sc ρ σ₁ i fun b σ₂ => SubV c n o i a b σ₂ Q) : EvE c n sc ρ σ (.Subscript o i pos) Q := ev_sub h
theorem m_pop {o : Expr} {apos pos : Pos} (hb : ∀ env, attributeBase o "pop" env (eval o env) = eval o env) (hline : (apos.endLine == pos.line) = true)
    (hform : ∀ env, methodCallForm (([] : List Expr).length + ([] : List Keyword).length) (backTo pos (starEach [] env)) (backToKw pos (keywordEach [] env)) = true)
    (h : EvE c n sc ρ σ o fun v σ₁ => ∃ a t vs u, v = .ref a ∧ σ₁ a = some (.list t (vs ++ [u])) ∧ Q u (upd σ₁ a (.list t vs))) : EvE c n sc ρ σ (.Call (.Attribute o "pop" apos) [] [] pos) Q := by
  refine ev_call_attr (f := .builtin "list.pop") hb hline hform (fun _ => rfl) (fun _ => .inl rfl) (keeps_builtin _) (ev_mono h fun v σ₁ ⟨a, t, vs, u, e1, e2, q⟩ => ?_)
  subst e1
  exact ⟨meth_pop e2, el_nil (c_pop e2 q)⟩
theorem m_get {o : Expr} {apos pos : Pos} {e : Expr} {r : List Expr} (hb : ∀ env, attributeBase o "get" env (eval o env) = eval o env) (hline : (apos.endLine == pos.line) = true)
    (hform : ∀ env, methodCallForm ((e :: r).length + ([] : List Keyword).length) (backTo pos (starEach (e :: r) env)) (backToKw pos (keywordEach [] env)) = true)
    (hplain : ∀ env, (backTo pos (starEach (e :: r) env)).any (·.1) = false) (hargs : ∀ env, ∃ y z, starEach (e :: r) env = (false, y) :: z)
    (h : EvE c n sc ρ σ o fun v σ₁ => ∃ a t es, v = .ref a ∧ σ₁ a = some (.idict t es) ∧ EvL c n sc ρ σ₁ (e :: r) fun ws σ₂ => ∃ t es k d, ws = [.int k, d] ∧ σ₂ a = some (.idict t es) ∧ Q ((look es k).getD d) σ₂) : EvE c n sc ρ σ (.Call (.Attribute o "get" apos) (e :: r) [] pos) Q := by
  refine ev_call_attr (f := .builtin "dict.get") hb hline hform hplain (fun env => .inr (hargs env)) (keeps_builtin _) (ev_mono h fun v σ₁ ⟨a, t, es, e1, e2, q⟩ => ?_)
  subst e1
  refine ⟨meth_get e2, fun A env s p C => wmono (q A env s p C) fun xs s' ⟨σ₂, ws, S, G, I, t, es, k, d, e3, e4, q'⟩ => ⟨σ₂, ws, S, G, I, ?_⟩⟩
  subst e3
  exact c_dget e4 q'
theorem m_setdefault {o : Expr} {apos pos : Pos} {e : Expr} {r : List Expr} (hb : ∀ env, attributeBase o "setdefault" env (eval o env) = eval o env) (hline : (apos.endLine == pos.line) = true)
    (hform : ∀ env, methodCallForm ((e :: r).length + ([] : List Keyword).length) (backTo pos (starEach (e :: r) env)) (backToKw pos (keywordEach [] env)) = true)
    (hplain : ∀ env, (backTo pos (starEach (e :: r) env)).any (·.1) = false) (hargs : ∀ env, ∃ y z, starEach (e :: r) env = (false, y) :: z)
    (h : EvE c n sc ρ σ o fun v σ₁ => ∃ a t es, v = .ref a ∧ σ₁ a = some (.idict t es) ∧ EvL c n sc ρ σ₁ (e :: r) fun ws σ₂ => ∃ t es k d u, ws = [.int k, d] ∧ σ₂ a = some (.idict t es) ∧ look es k = some u ∧ Q u σ₂) : EvE c n sc ρ σ (.Call (.Attribute o "setdefault" apos) (e :: r) [] pos) Q := by
  refine ev_call_attr (f := .builtin "dict.setdefault") hb hline hform hplain (fun env => .inr (hargs env)) (keeps_builtin _) (ev_mono h fun v σ₁ ⟨a, t, es, e1, e2, q⟩ => ?_)
  subst e1
  refine ⟨meth_setdefault e2, fun A env s p C => wmono (q A env s p C) fun xs s' ⟨σ₂, ws, S, G, I, t, es, k, d, u, e3, e4, e5, q'⟩ => ⟨σ₂, ws, S, G, I, ?_⟩⟩
  subst e3
  exact c_setdefault e4 e5 q'

variable [hK : IsK c]
theorem umeth {name : Str} {C l : Addr} {t : Nat} {fs : List (Str × V)} {f : Addr} {P : Addr → Prop} (hl : σ l = some (.ns t fs)) (hu : fs.lookup name = none) (hf : findIn (hd.heap_39 c.w.params) (.ref C) name = some (some (.ref f)))
    (hk : methOk (hd.heap_39 c.w.params) C name f = true) (hk2 : keepIn (hd.heap_39 c.w.params) (.ref f) = true) (h : P f) : UMeth c n name (.inst C l) σ P :=
  ⟨f, by rw [hK.eq]; exact hk2, meth_inst hl hu (kMeth hk), h⟩
theorem attr_set {name : Str} {C l : Addr} {t : Nat} {fs : List (Str × V)} {v : V} {K : Sg → Prop} (hl : σ l = some (.ns t fs)) (hk : storeOk (hd.heap_39 c.w.params) C name = true) (hb : fs.length ≤ 800) (h : K (upd σ l (.ns t (rset fs name v)))) : AttrSet c (.inst C l) name v σ K :=
  ⟨C, l, t, fs, rfl, hl, kStore hk, hb, h⟩
theorem g_call0 {x : Str} {p pos : Pos} {f : Value} (hg : GlobV c x f) (hx : globOk sc x = true)
    (hk : ∀ h : Heap, c.K.In h → ∃ k, (k = Keeper.frame ∨ k = Keeper.machine ∨ k = Keeper.boundFrame) ∧ Looks c.M h (keeperOf f) k)
    (h : CallV c n f [] σ Q) : EvE c n sc ρ σ (.Call (.Name x p) [] [] pos) Q :=
  ev_call hg hx (fun _ => rfl) (fun env => .inl rfl) hk (el_nil h)
theorem g_attr {C l : Addr} {t : Nat} {fs : List (Str × V)} {name : Str} {u : V} (hl : σ l = some (.ns t fs)) (hu : fs.lookup name = some u) (hk : fieldOk (hd.heap_39 c.w.params) C name = true) (h : Q u σ) :
    Op1 c n (fun x => getAttr x name true) (.inst C l) σ Q := getattr_field hl hu (kField hk) h
end
end Mine
namespace Mine
open PySem PySem.W PySem.Calls PyProof.Rows
local macro_rules | `(tactic| k_memK) => `(tactic| repeat (first
  | with_reducible refine ev_name (by with_unfolding_all rfl) (by with_unfolding_all rfl) ?_
  | with_reducible refine ev_int ?_
  | with_reducible refine ev_str ?_
  | with_reducible refine ev_attr (fun _ => (by with_unfolding_all rfl)) ?_
  | with_reducible refine ev_subN (by with_unfolding_all rfl) ?_
  | with_reducible refine el_nil ?_
  | with_reducible refine el_cons ?_ (fun _ => (by with_unfolding_all rfl))
  | with_reducible refine ev_compare (by with_unfolding_all rfl) ?_
  | with_reducible refine ev_binop ?_
  | with_reducible refine ev_tuple ?_
  | with_reducible refine ev_unary ?_
  | with_reducible refine ev_bool ?_
  | with_reducible refine ev_none ?_
  | with_reducible refine ev_ifexp ?_
  | with_reducible refine ev_and ?_
  | with_reducible refine ev_or ?_
  | with_reducible refine ev_last ?_
  | with_reducible refine s_return ?_
  | with_reducible refine s_return_none ?_
  | with_reducible refine s_if ?_
  | with_reducible refine s_expr ?_ (by with_unfolding_all rfl) (fun _ => (by with_unfolding_all rfl))
  | with_reducible refine s_swap (fun _ => (by with_unfolding_all rfl)) (fun env h => by cases env; cases h; with_unfolding_all rfl) (by with_unfolding_all rfl) ?_
  | with_reducible refine s_assign ?_ (fun _ => (by with_unfolding_all rfl)) (fun _ _ => (by with_unfolding_all rfl)) (fun _ => (by with_unfolding_all rfl))
  | with_reducible refine xs_nil ?_
  | with_reducible refine t_not ?_
  | with_reducible refine t_compare (by with_unfolding_all rfl) ?_
  | with_reducible refine t_boolop ?_
  | with_reducible refine ts_and_nil ?_
  | with_reducible refine ts_or_nil ?_
  | with_reducible refine ts_and ?_
  | with_reducible refine ts_or ?_
  | with_reducible refine as_itemS (fun _ _ => (by with_unfolding_all rfl)) ?_
  | with_reducible refine as_tuple (by with_unfolding_all rfl) (fun _ => (by with_unfolding_all rfl)) (fun _ => (by with_unfolding_all rfl)) ?_
  | with_reducible refine al_nil ?_
  | with_reducible refine al_cons ?_ (fun _ => (by with_unfolding_all rfl))
  | with_reducible refine as_name (by with_unfolding_all rfl) ?_
  | with_reducible refine tru_bool ?_
  | with_reducible refine op_add ?_
  | with_reducible refine op_sub ?_
  | with_reducible refine cm_lt ?_
  | with_reducible refine cm_le ?_
  | with_reducible refine cm_gt ?_
  | with_reducible refine cm_ge ?_
  | with_reducible refine cm_eq ?_
  | with_reducible refine cm_ne ?_
  | with_reducible refine cm_eqs ?_
  | with_reducible refine op_neg ?_
  | with_reducible refine cm_is ?_
  | with_reducible refine cm_isnot ?_
  | with_reducible refine sub_tup (by assumption) (by omega) ?_ (fun _ _ => (by with_unfolding_all rfl))
  | with_reducible refine sub_lst (by assumption) (by omega) ?_ (fun _ _ => (by with_unfolding_all rfl))
  | with_reducible refine sub_ref (by assumption) (by assumption) (by omega) ?_ (fun _ _ => (by with_unfolding_all rfl))
  | with_reducible refine sub_tup (by with_unfolding_all rfl) (by decide) ?_ (fun _ _ => (by with_unfolding_all rfl))
  | with_reducible refine sub_lst (by with_unfolding_all rfl) (by decide) ?_ (fun _ _ => (by with_unfolding_all rfl))
  | with_reducible refine c_max ?_
  | with_reducible refine c_min ?_
  | with_reducible refine c_range1 ?_
  | with_reducible refine c_range2 ?_
  | with_reducible refine m_append (fun _ => (by with_unfolding_all rfl)) (by with_unfolding_all rfl) (fun _ => (by with_unfolding_all rfl)) (fun _ => (by with_unfolding_all rfl)) (fun _ => ⟨_, _, (by with_unfolding_all rfl)⟩) ?_ (fun _ => (by with_unfolding_all rfl))
  | with_reducible refine m_extend (fun _ => (by with_unfolding_all rfl)) (by with_unfolding_all rfl) (fun _ => (by with_unfolding_all rfl)) (fun _ => (by with_unfolding_all rfl)) (fun _ => ⟨_, _, (by with_unfolding_all rfl)⟩) ?_ (fun _ => (by with_unfolding_all rfl))
  | with_reducible refine g_call bLen (by with_unfolding_all rfl) (fun _ => (by with_unfolding_all rfl)) (fun _ => ⟨_, _, (by with_unfolding_all rfl)⟩) (keeps_builtin _) ?_
  | with_reducible refine g_call bRange (by with_unfolding_all rfl) (fun _ => (by with_unfolding_all rfl)) (fun _ => ⟨_, _, (by with_unfolding_all rfl)⟩) (keeps_type _) ?_
  | with_reducible refine g_call bTuple (by with_unfolding_all rfl) (fun _ => (by with_unfolding_all rfl)) (fun _ => ⟨_, _, (by with_unfolding_all rfl)⟩) (keeps_type _) ?_
  | with_reducible refine g_call bList (by with_unfolding_all rfl) (fun _ => (by with_unfolding_all rfl)) (fun _ => ⟨_, _, (by with_unfolding_all rfl)⟩) (keeps_type _) ?_
  | with_reducible refine g_call bAbs (by with_unfolding_all rfl) (fun _ => (by with_unfolding_all rfl)) (fun _ => ⟨_, _, (by with_unfolding_all rfl)⟩) (keeps_builtin _) ?_
  | with_reducible refine g_call bMax (by with_unfolding_all rfl) (fun _ => (by with_unfolding_all rfl)) (fun _ => ⟨_, _, (by with_unfolding_all rfl)⟩) (keeps_builtin _) ?_
  | with_reducible refine g_call bMin (by with_unfolding_all rfl) (fun _ => (by with_unfolding_all rfl)) (fun _ => ⟨_, _, (by with_unfolding_all rfl)⟩) (keeps_builtin _) ?_
  | with_reducible refine g_call bSum (by with_unfolding_all rfl) (fun _ => (by with_unfolding_all rfl)) (fun _ => ⟨_, _, (by with_unfolding_all rfl)⟩) (keeps_builtin _) ?_
  | with_reducible refine g_call bSorted (by with_unfolding_all rfl) (fun _ => (by with_unfolding_all rfl)) (fun _ => ⟨_, _, (by with_unfolding_all rfl)⟩) (keeps_builtin _) ?_
  | with_reducible refine g_call bEnumerate (by with_unfolding_all rfl) (fun _ => (by with_unfolding_all rfl)) (fun _ => ⟨_, _, (by with_unfolding_all rfl)⟩) (keeps_type _) ?_
  | with_reducible refine g_call (kOwn (by with_unfolding_all rfl)) (by with_unfolding_all rfl) (fun _ => (by with_unfolding_all rfl)) (fun _ => ⟨_, _, (by with_unfolding_all rfl)⟩) (kKeep (by kernel_rfl)) ?_
  | with_reducible refine g_attr (by assumption) (by with_unfolding_all rfl) (by kernel_rfl) ?_
  | with_reducible refine as_attrS ?_
  | with_reducible refine attr_set (by assumption) (by kernel_rfl) (Nat.le_of_ble_eq_true (by with_unfolding_all rfl)) ?_
  | with_reducible refine m_pop (fun _ => (by with_unfolding_all rfl)) (by with_unfolding_all rfl) (fun _ => (by with_unfolding_all rfl)) ?_
  | with_reducible refine m_get (fun _ => (by with_unfolding_all rfl)) (by with_unfolding_all rfl) (fun _ => (by with_unfolding_all rfl)) (fun _ => (by with_unfolding_all rfl)) (fun _ => ⟨_, _, (by with_unfolding_all rfl)⟩) ?_
  | with_reducible refine m_setdefault (fun _ => (by with_unfolding_all rfl)) (by with_unfolding_all rfl) (fun _ => (by with_unfolding_all rfl)) (fun _ => (by with_unfolding_all rfl)) (fun _ => ⟨_, _, (by with_unfolding_all rfl)⟩) ?_
  | with_reducible refine ev_meth0 (fun _ => (by with_unfolding_all rfl)) (by with_unfolding_all rfl) (fun _ => (by with_unfolding_all rfl)) ?_
  | with_reducible refine ev_meth1 (fun _ => (by with_unfolding_all rfl)) (by with_unfolding_all rfl) (fun _ => (by with_unfolding_all rfl)) (fun _ => (by with_unfolding_all rfl)) (fun _ => ⟨_, _, (by with_unfolding_all rfl)⟩) ?_
  | with_reducible refine umeth (by assumption) (by with_unfolding_all rfl) (by with_unfolding_all rfl) (by kernel_rfl) (by kernel_rfl) ?_
  | with_reducible refine g_call0 (kOwn (by with_unfolding_all rfl)) (by with_unfolding_all rfl) (kKeep (by kernel_rfl)) ?_))

local macro_rules | `(tactic| k_ownIn) => `(tactic| repeat (first
  | with_reducible exact capt_nil
  | with_reducible refine capt_cons (by with_unfolding_all rfl) (by with_unfolding_all rfl) ?_
  | with_reducible exact wk_refl
  | with_reducible exact Wk.nil
  | with_reducible refine Wk.cons (by with_unfolding_all rfl) ?_
  | with_reducible refine wk_set (by with_unfolding_all rfl) ?_))
-- part G1
abbrev Dom := List (Int × Int)
structure En where
  x : Nat
  old : Dom
  lit : V
  rs : V
  sp : Int
abbrev enV (e : En) : V := .tup [.int e.x, dv e.old, e.lit, e.rs, .int e.sp]
structure StS where
  ds : List Dom
  fs : List V
  tr : List En
  ms : List Nat
  nw : List (Int × V)
  sp : Int
  fl : Bool
  cl : V
structure StA where
  d : Addr
  f : Addr
  t : Addr
  m : Addr
  w : Addr
abbrev stF (a : StA) (S : StS) : List (Str × V) := [("domains", .ref a.d), ("firsts", .ref a.f), ("trail", .ref a.t), ("marks", .ref a.m), ("news", .ref a.w), ("speaker", .int S.sp), ("is_failed", .bool S.fl), ("clash", S.cl)]
/-- the store at l -/
structure Has (σ : Sg) (l : Addr) (a : StA) (S : StS) : Prop where
  o : σ l = some (.ns 6 (stF a S))
  d : σ a.d = some (.list 1 (S.ds.map dv))
  f : σ a.f = some (.list 2 S.fs)
  t : σ a.t = some (.list 3 (S.tr.map enV))
  m : σ a.m = some (.list 4 (S.ms.map fun (k : Nat) => V.int k))
  w : σ a.w = some (.idict 5 S.nw)
/-- all but the store's own ghosts stay -/
def Keep6 (σ σ' : Sg) : Prop := ∀ a o, σ a = some o → (o.tag < 1 ∨ 6 < o.tag) → σ' a = some o
theorem Keep6.refl {σ : Sg} : Keep6 σ σ := fun _ _ e _ => e
theorem Keep6.trans {σ σ₁ σ₂ : Sg} (h : Keep6 σ σ₁) (k : Keep6 σ₁ σ₂) : Keep6 σ σ₂ := fun a o e t => k a o (h a o e t) t
theorem tag_ne {σ : Sg} {a b : Addr} {o p : AO} (ha : σ a = some o) (hb : σ b = some p) (h : o.tag ≠ p.tag) : a ≠ b := by
  rintro rfl; rw [ha] at hb; cases hb; exact h rfl
theorem keep6_upd {σ : Sg} {a : Addr} {o p : AO} (ha : σ a = some o) (h : 1 ≤ o.tag ∧ o.tag ≤ 6) : Keep6 σ (upd σ a p) := by
  intro b q e t
  exact upd_ne (by rintro rfl; rw [ha] at e; cases e; omega) e
theorem keep6_new {σ : Sg} {a : Addr} {p : AO} (ha : σ a = none) : Keep6 σ (upd σ a p) := by
  intro b q e t
  exact upd_ne (by rintro rfl; rw [ha] at e; cases e) e

section
variable {c : Cx} [hK : IsK c] {n : Nat} {σ : Sg} {Q : V → Sg → Prop} {l : Addr} {a : StA} {S : StS}

theorem st_size (H : Has σ l a S) (h : Q (.int S.ds.length) σ) : CallV c (n + 1) (.ref 536) [.inst 658 l] σ Q := by
  have ho := H.o
  refine kCall (names := ["self"]) (by kernel_rfl) (by kernel_rfl) (by intro xs h; match xs, h with | [x0], _ => rfl) (by conv => lhs; whnf) (by conv => lhs; whnf) rfl ?_
  k_memK
  refine c_len_ref H.d ?_
  k_memK
  simpa using h
theorem st_depth (H : Has σ l a S) (h : Q (.int S.ms.length) σ) : CallV c (n + 1) (.ref 648) [.inst 658 l] σ Q := by
  have ho := H.o
  refine kCall (names := ["self"]) (by kernel_rfl) (by kernel_rfl) (by intro xs h; match xs, h with | [x0], _ => rfl) (by conv => lhs; whnf) (by conv => lhs; whnf) rfl ?_
  k_memK
  refine c_len_ref H.m ?_
  k_memK
  simpa using h
theorem dom_at (H : Has σ l a S) {x : Nat} {D : Dom} (hx : S.ds[x]? = some D) : idx (S.ds.map dv) (x : Int) = some (dv D) := idx_nat (by simp [hx])
theorem st_dom (H : Has σ l a S) {x : Nat} {D : Dom} (hb : x < 1000) (hx : S.ds[x]? = some D) (h : Q (dv D) σ) : CallV c (n + 1) (.ref 543) [.inst 658 l, .int x] σ Q := by
  have ho := H.o
  have hd := H.d
  have hi := dom_at H hx
  refine kCall (names := ["self", "x"]) (by kernel_rfl) (by kernel_rfl) (by intro xs h; match xs, h with | [x0, x1], _ => rfl) (by conv => lhs; whnf) (by conv => lhs; whnf) rfl ?_
  k_memK
  exact h
theorem st_low (H : Has σ l a S) {x : Nat} {p : Int × Int} {D : Dom} (hb : x < 1000) (hx : S.ds[x]? = some (p :: D)) (h : Q (.int p.1) σ) : CallV c (n + 2) (.ref 557) [.inst 658 l, .int x] σ Q := by
  have ho := H.o
  have hd := H.d
  have hi := dom_at H hx
  refine kCall (names := ["self", "x"]) (by kernel_rfl) (by kernel_rfl) (by intro xs h; match xs, h with | [x0, x1], _ => rfl) (by conv => lhs; whnf) (by conv => lhs; whnf) rfl ?_
  k_memK
  exact f_least h
theorem st_high (H : Has σ l a S) {x : Nat} {p : Int × Int} {D : Dom} (hb : x < 1000) (hD : D.length < 1000) (hx : S.ds[x]? = some (D ++ [p])) (h : Q (.int p.2) σ) : CallV c (n + 2) (.ref 564) [.inst 658 l, .int x] σ Q := by
  have ho := H.o
  have hd := H.d
  have hi := dom_at H hx
  refine kCall (names := ["self", "x"]) (by kernel_rfl) (by kernel_rfl) (by intro xs h; match xs, h with | [x0, x1], _ => rfl) (by conv => lhs; whnf) (by conv => lhs; whnf) rfl ?_
  k_memK
  exact f_greatest hD h
theorem st_width (H : Has σ l a S) {x : Nat} {D : Dom} (hb : x < 1000) (hD : D.length ≤ 1000) (hx : S.ds[x]? = some D) (h : Q (.int (width D)) σ) : CallV c (n + 2) (.ref 592) [.inst 658 l, .int x] σ Q := by
  have ho := H.o
  have hd := H.d
  have hi := dom_at H hx
  refine kCall (names := ["self", "x"]) (by kernel_rfl) (by kernel_rfl) (by intro xs h; match xs, h with | [x0, x1], _ => rfl) (by conv => lhs; whnf) (by conv => lhs; whnf) rfl ?_
  k_memK
  exact f_size hD h
theorem st_value (H : Has σ l a S) {x : Nat} {p : Int × Int} {D : Dom} (hb : x < 1000) (hx : S.ds[x]? = some (p :: D)) (h : Q (.int p.1) σ) : CallV c (n + 1) (.ref 585) [.inst 658 l, .int x] σ Q := by
  have ho := H.o
  have hd := H.d
  have hi := dom_at H hx
  refine kCall (names := ["self", "x"]) (by kernel_rfl) (by kernel_rfl) (by intro xs h; match xs, h with | [x0, x1], _ => rfl) (by conv => lhs; whnf) (by conv => lhs; whnf) rfl ?_
  k_memK
  exact h
def fixed (D : Dom) : Bool := match D with
  | [p] => p.1 == p.2
  | _ => false
theorem st_is_fixed (H : Has σ l a S) {x : Nat} {p : Int × Int} {D : Dom} (hb : x < 1000) (hx : S.ds[x]? = some (p :: D)) (h : Q (.bool (fixed (p :: D))) σ) : CallV c (n + 1) (.ref 578) [.inst 658 l, .int x] σ Q := by
  have ho := H.o
  have hd := H.d
  have hi := dom_at H hx
  refine kCall (names := ["self", "x"]) (by kernel_rfl) (by kernel_rfl) (by intro xs h; match xs, h with | [x0, x1], _ => rfl) (by conv => lhs; whnf) (by conv => lhs; whnf) rfl ?_
  k_memK
  refine c_len_tup ?_
  k_memK
  cases D with
  | nil =>
    refine ⟨fun _ => ?_, fun q => by simp at q⟩
    k_memK
    exact h
  | cons q D =>
    refine ⟨fun q => by simp at q; omega, fun _ => ?_⟩
    have : (((prs (p :: q :: D)).length : Int) == 1) = false := by simp; omega
    rw [this]
    exact h
end
-- part G2
theorem prs_inj : ∀ {X Y : Dom}, prs X = prs Y → X = Y
  | [], [], _ => rfl
  | [], _ :: _, h => by simp at h
  | _ :: _, [], h => by simp at h
  | (a, b) :: X, (c, d) :: Y, h => by
    simp only [prs, List.map_cons, List.cons.injEq, pr, V.tup.injEq, V.int.injEq, and_true] at h
    rw [h.1.1, h.1.2, prs_inj h.2]
theorem dv_inj {X Y : Dom} (h : dv X = dv Y) : X = Y := prs_inj (by simpa using h)
theorem cdec {p : Prop} {i : Decidable p} (h : @decide p i = true) : p := of_decide_eq_true h
theorem has_ds {σ : Sg} {l : Addr} {a : StA} {S : StS} (H : Has σ l a S) {ds : List Dom} : Has (upd σ a.d (.list 1 (ds.map dv))) l a { S with ds := ds } :=
  ⟨upd_ne (tag_ne H.o H.d (by simp [AO.tag])) H.o, upd_same, upd_ne (tag_ne H.f H.d (by simp [AO.tag])) H.f, upd_ne (tag_ne H.t H.d (by simp [AO.tag])) H.t, upd_ne (tag_ne H.m H.d (by simp [AO.tag])) H.m, upd_ne (tag_ne H.w H.d (by simp [AO.tag])) H.w⟩
theorem has_fs {σ : Sg} {l : Addr} {a : StA} {S : StS} (H : Has σ l a S) {fs : List V} : Has (upd σ a.f (.list 2 fs)) l a { S with fs := fs } :=
  ⟨upd_ne (tag_ne H.o H.f (by simp [AO.tag])) H.o, upd_ne (tag_ne H.d H.f (by simp [AO.tag])) H.d, upd_same, upd_ne (tag_ne H.t H.f (by simp [AO.tag])) H.t, upd_ne (tag_ne H.m H.f (by simp [AO.tag])) H.m, upd_ne (tag_ne H.w H.f (by simp [AO.tag])) H.w⟩
theorem has_tr {σ : Sg} {l : Addr} {a : StA} {S : StS} (H : Has σ l a S) {tr : List En} : Has (upd σ a.t (.list 3 (tr.map enV))) l a { S with tr := tr } :=
  ⟨upd_ne (tag_ne H.o H.t (by simp [AO.tag])) H.o, upd_ne (tag_ne H.d H.t (by simp [AO.tag])) H.d, upd_ne (tag_ne H.f H.t (by simp [AO.tag])) H.f, upd_same, upd_ne (tag_ne H.m H.t (by simp [AO.tag])) H.m, upd_ne (tag_ne H.w H.t (by simp [AO.tag])) H.w⟩
theorem has_ms {σ : Sg} {l : Addr} {a : StA} {S : StS} (H : Has σ l a S) {ms : List Nat} : Has (upd σ a.m (.list 4 (ms.map fun (k : Nat) => V.int k))) l a { S with ms := ms } :=
  ⟨upd_ne (tag_ne H.o H.m (by simp [AO.tag])) H.o, upd_ne (tag_ne H.d H.m (by simp [AO.tag])) H.d, upd_ne (tag_ne H.f H.m (by simp [AO.tag])) H.f, upd_ne (tag_ne H.t H.m (by simp [AO.tag])) H.t, upd_same, upd_ne (tag_ne H.w H.m (by simp [AO.tag])) H.w⟩
theorem has_nw {σ : Sg} {l : Addr} {a : StA} {S : StS} (H : Has σ l a S) {nw : List (Int × V)} : Has (upd σ a.w (.idict 5 nw)) l a { S with nw := nw } :=
  ⟨upd_ne (tag_ne H.o H.w (by simp [AO.tag])) H.o, upd_ne (tag_ne H.d H.w (by simp [AO.tag])) H.d, upd_ne (tag_ne H.f H.w (by simp [AO.tag])) H.f, upd_ne (tag_ne H.t H.w (by simp [AO.tag])) H.t, upd_ne (tag_ne H.m H.w (by simp [AO.tag])) H.m, upd_same⟩
/-- the store's own dict turned: the fields may be others -/
theorem has_o {σ : Sg} {l : Addr} {a : StA} {S : StS} (H : Has σ l a S) {sp : Int} {fl : Bool} {cl : V} : Has (upd σ l (.ns 6 (stF a { S with sp := sp, fl := fl, cl := cl }))) l a { S with sp := sp, fl := fl, cl := cl } :=
  ⟨upd_same, upd_ne (tag_ne H.d H.o (by simp [AO.tag])) H.d, upd_ne (tag_ne H.f H.o (by simp [AO.tag])) H.f, upd_ne (tag_ne H.t H.o (by simp [AO.tag])) H.t, upd_ne (tag_ne H.m H.o (by simp [AO.tag])) H.m, upd_ne (tag_ne H.w H.o (by simp [AO.tag])) H.w⟩
theorem has_new {σ : Sg} {l b : Addr} {a : StA} {S : StS} {o : AO} (H : Has σ l a S) (hb : σ b = none) : Has (upd σ b o) l a S := by
  have k : ∀ {x p}, σ x = some p → upd σ b o x = some p := fun {x p} e => upd_ne (by rintro rfl; rw [e] at hb; cases hb) e
  exact ⟨k H.o, k H.d, k H.f, k H.t, k H.m, k H.w⟩
theorem big1000 : 1000 < big := by decide

section
variable {c : Cx} [hK : IsK c] {n : Nat} {σ : Sg} {Q : V → Sg → Prop} {l : Addr} {a : StA} {S : StS}

theorem st_enter (H : Has σ l a S) {x : Nat} {D : Dom} {s : Str} {k : Int} {rs : V} {sp : Int} (hb : x < 1000) (hD : D.length ≤ 500) (hx : S.ds[x]? = some D) (h0 : strk s k D ≠ []) (h1 : strk s k D ≠ D) (ht : S.tr.length < 1000) (hn : S.nw.length < 1000)
    (h : ∀ σ', Has σ' l a { S with ds := S.ds.set x (strk s k D), tr := S.tr ++ [⟨x, D, lv x s k, rs, sp⟩], nw := putI S.nw (x : Int) (.bool true) } → Keep6 σ σ' → Q (.bool true) σ') :
    CallV c (n + 5) (.ref 606) [.inst 658 l, lv x s k, rs, .int sp] σ Q := by
  have ho := H.o
  have hd := H.d
  have ht' := H.t
  have hw := H.w
  have hi := dom_at H hx
  have okd : ∀ {E : Dom}, okV 8 (dv E) = true := fun {E} => by simp [okV]
  refine kCall (names := ["self", "literal", "reasons", "speaker"]) (by kernel_rfl) (by kernel_rfl) (by intro xs h; match xs, h with | [x0, x1, x2, x3], _ => rfl) (by conv => lhs; whnf) (by conv => lhs; whnf) rfl ?_
  k_memK
  refine f_struck hD ?_
  k_memK
  refine ⟨Nat.zero_le _, ?_⟩
  refine cm_eqd (rd_data okd) (rd_data (v := .tup []) rfl) ?_
  k_memK
  refine ⟨fun q => ?_, fun _ => ?_⟩
  · have := cdec q
    exact absurd (dv_inj (Y := []) this) h0
  k_memK
  refine cm_eqd (rd_data okd) (rd_data okd) ?_
  k_memK
  refine ⟨fun q => ?_, fun _ => ?_⟩
  · exact absurd (dv_inj (cdec q)) h1
  k_memK
  refine ⟨_, _, _, rfl, ht', ?_⟩
  k_memK
  refine ⟨by show 5 ≤ big; decide, _, _, ht', by have := big1000; simp; omega, ?_⟩
  have H1 := has_tr (tr := S.tr ++ [⟨x, D, lv x s k, rs, sp⟩]) H
  have e1 : (S.tr ++ [En.mk x D (lv x s k) rs sp]).map enV = S.tr.map enV ++ [V.tup [V.int ↑x, dv D, lv (↑x) s k, rs, V.int sp]] := by simp
  rw [e1] at H1
  have K1 : Keep6 σ (upd σ a.t (.list 3 (S.tr.map enV ++ [V.tup [V.int ↑x, dv D, lv (↑x) s k, rs, V.int sp]]))) := keep6_upd ht' (by simp [AO.tag])
  generalize upd σ a.t (.list 3 (S.tr.map enV ++ [V.tup [V.int ↑x, dv D, lv (↑x) s k, rs, V.int sp]])) = σ1 at H1 K1
  clear ho hd ht' hw
  have ho := H1.o
  have hd := H1.d
  k_memK
  have hxl : x < S.ds.length := by
    rcases Nat.lt_or_ge x S.ds.length with q | q
    · exact q
    · rw [List.getElem?_eq_none q] at hx; cases hx
  refine i_list hd (by omega) (by simp; omega) ?_
  have H2 := has_ds (ds := S.ds.set x (strk s k D)) H1
  have e2 : (S.ds.map dv).set (x : Int).toNat (dv (strk s k D)) = (S.ds.set x (strk s k D)).map dv := by simp [List.map_set]
  rw [e2]
  have K2 : Keep6 σ1 (upd σ1 a.d (.list 1 ((S.ds.set x (strk s k D)).map dv))) := keep6_upd hd (by simp [AO.tag])
  generalize upd σ1 a.d (.list 1 ((S.ds.set x (strk s k D)).map dv)) = σ2 at H2 K2
  clear ho hd
  have ho := H2.o
  have hw := H2.w
  k_memK
  refine i_idict hw (by have := big1000; dsimp only; omega) ?_
  have H3 := has_nw (nw := putI S.nw (x : Int) (.bool true)) H2
  have K3 : Keep6 σ2 (upd σ2 a.w (.idict 5 (putI S.nw (x : Int) (.bool true)))) := keep6_upd hw (by simp [AO.tag])
  k_memK
  exact h _ H3 ((K1.trans K2).trans K3)
end
-- part G3
section
variable {c : Cx} [hK : IsK c] {n : Nat} {σ : Sg} {Q : V → Sg → Prop} {l : Addr} {a : StA} {S : StS}

theorem st_strike (H : Has σ l a S) {x : Nat} {D : Dom} {s : Str} {k : Int} {rs : List V} (hb : x < 1000) (hD : D.length ≤ 500) (hx : S.ds[x]? = some D) (h0 : strk s k D ≠ []) (h1 : strk s k D ≠ D) (ht : S.tr.length < 1000) (hn : S.nw.length < 1000)
    (h : ∀ σ', Has σ' l a { S with ds := S.ds.set x (strk s k D), tr := S.tr ++ [⟨x, D, lv x s k, .tup rs, S.sp⟩], nw := putI S.nw (x : Int) (.bool true) } → Keep6 σ σ' → Q (.bool true) σ') :
    CallV c (n + 6) (.ref 613) [.inst 658 l, lv x s k, .tup rs] σ Q := by
  have ho := H.o
  refine kCall (names := ["self", "literal", "reasons"]) (by kernel_rfl) (by kernel_rfl) (by intro xs h; match xs, h with | [x0, x1, x2], _ => rfl) (by conv => lhs; whnf) (by conv => lhs; whnf) rfl ?_
  k_memK
  refine c_tuple_tup ?_
  k_memK
  exact st_enter H hb hD hx h0 h1 ht hn h
theorem st_decide (H : Has σ l a S) {x : Nat} {D : Dom} {s : Str} {k : Int} (hb : x < 1000) (hD : D.length ≤ 500) (hx : S.ds[x]? = some D) (h0 : strk s k D ≠ []) (h1 : strk s k D ≠ D) (ht : S.tr.length < 1000) (hn : S.nw.length < 1000)
    (h : ∀ σ', Has σ' l a { S with ds := S.ds.set x (strk s k D), tr := S.tr ++ [⟨x, D, lv x s k, .none, -1⟩], nw := putI S.nw (x : Int) (.bool true) } → Keep6 σ σ' → Q (.bool true) σ') :
    CallV c (n + 6) (.ref 620) [.inst 658 l, lv x s k] σ Q := by
  have ho := H.o
  refine kCall (names := ["self", "literal"]) (by kernel_rfl) (by kernel_rfl) (by intro xs h; match xs, h with | [x0, x1], _ => rfl) (by conv => lhs; whnf) (by conv => lhs; whnf) rfl ?_
  k_memK
  exact st_enter H hb hD hx h0 h1 ht hn h
theorem st_push (H : Has σ l a S) (hm : S.ms.length < 1000) (h : ∀ σ', Has σ' l a { S with ms := S.ms ++ [S.tr.length] } → Keep6 σ σ' → Q .none σ') : CallV c (n + 1) (.ref 634) [.inst 658 l] σ Q := by
  have ho := H.o
  refine kCall (names := ["self"]) (by kernel_rfl) (by kernel_rfl) (by intro xs h; match xs, h with | [x0], _ => rfl) (by conv => lhs; whnf) (by conv => lhs; whnf) rfl ?_
  k_memK
  refine ⟨_, _, _, rfl, H.m, ?_⟩
  k_memK
  refine c_len_ref H.t ?_
  k_memK
  refine ⟨_, _, H.m, by have := big1000; simp; omega, ?_⟩
  have H1 := has_ms (ms := S.ms ++ [S.tr.length]) H
  have K1 : Keep6 σ (upd σ a.m (.list 4 ((S.ms ++ [S.tr.length]).map fun (k : Nat) => V.int k))) := keep6_upd H.m (by simp [AO.tag])
  have e : (S.ms ++ [S.tr.length]).map (fun (k : Nat) => V.int k) = S.ms.map (fun (k : Nat) => V.int k) ++ [V.int ((S.tr.map enV).length : Nat)] := by simp
  rw [e] at H1 K1
  k_memK
  exact h _ H1 K1
theorem st_changed (H : Has σ l a S) (h64 : S.nw.length < 64) (h : ∀ (ns : List Int) w σ', ns.Perm (S.nw.map (·.1)) → Has σ' l { a with w := w } { S with nw := [] } → Keep6 σ σ' → Q (.lst (numV ns)) σ') : CallV c (n + 1) (.ref 655) [.inst 658 l] σ Q := by
  have ho := H.o
  refine kCall (names := ["self"]) (by kernel_rfl) (by kernel_rfl) (by intro xs h; match xs, h with | [x0], _ => rfl) (by conv => lhs; whnf) (by conv => lhs; whnf) rfl ?_
  k_memK
  refine c_sorted_idict H.w h64 fun ns p1 p2 => ?_
  k_memK
  refine ev_idict0 5 fun w hw => ?_
  have hlw : l ≠ w := by rintro rfl; rw [ho] at hw; cases hw
  have H1 := has_new (o := .idict 5 []) H hw
  have K1 : Keep6 σ (upd σ w (.idict 5 [])) := keep6_new hw
  have hw1 : upd σ w (.idict 5 []) w = some (.idict 5 []) := upd_same
  generalize upd σ w (.idict 5 []) = σ1 at H1 K1 hw1
  clear ho
  have ho := H1.o
  k_memK
  have H2 : Has (upd σ1 l (.ns 6 (stF { a with w := w } { S with nw := [] }))) l { a with w := w } { S with nw := [] } :=
    ⟨upd_same, upd_ne (tag_ne H1.d H1.o (by simp [AO.tag])) H1.d, upd_ne (tag_ne H1.f H1.o (by simp [AO.tag])) H1.f, upd_ne (tag_ne H1.t H1.o (by simp [AO.tag])) H1.t, upd_ne (tag_ne H1.m H1.o (by simp [AO.tag])) H1.m, upd_ne (tag_ne hw1 H1.o (by simp [AO.tag])) hw1⟩
  exact h ns w _ p1 H2 (K1.trans (keep6_upd ho (by simp [AO.tag])))
end
-- part G4
/-- the trail undone -/
def undo (seg : List En) (ds : List Dom) : List Dom := seg.foldr (fun e ds => ds.set e.x e.old) ds
theorem undo_len {seg : List En} {ds : List Dom} : (undo seg ds).length = ds.length := by
  unfold undo
  induction seg with
  | nil => rfl
  | cons e seg ih => simp [ih]
open Classical
section
variable {c : Cx} [hK : IsK c] {n : Nat} {σ : Sg} {Q : V → Sg → Prop} {l : Addr} {a : StA} {S : StS}

theorem st_pop (H : Has σ l a S) {ms : List Nat} {base seg : List En} (hm : S.ms = ms ++ [base.length]) (ht : S.tr = base ++ seg) (hml : ms.length < 1000) (htl : S.tr.length < 1000) (hseg : ∀ e ∈ seg, e.x < S.ds.length) (hdl : S.ds.length < 1000)
    (hok : okV 8 (.lst S.fs) = true) (hf : V.tup [] ∉ S.fs)
    (h : ∀ m w σ', Has σ' l { a with m := m, w := w } { S with ds := undo seg S.ds, tr := base, ms := ms, nw := [], fl := false, cl := .tup [] } → Keep6 σ σ' → Q .none σ') : CallV c (n + 1) (.ref 641) [.inst 658 l, .int 1] σ Q := by
  have ho := H.o
  have hmm := H.m
  refine kCall (names := ["self", "n"]) (by kernel_rfl) (by kernel_rfl) (by intro xs h; match xs, h with | [x0, x1], _ => rfl) (by conv => lhs; whnf) (by conv => lhs; whnf) rfl ?_
  k_memK
  refine ⟨fun q => (nomatch q), fun _ => ?_⟩
  k_memK
  refine c_len_ref hmm ?_
  k_memK
  refine sub_ref hmm (v := .int base.length) ?_ ?_ ?_ (fun _ _ => by with_unfolding_all rfl)
  · have e : ((S.ms.map fun (k : Nat) => V.int k).length : Int) - 1 = (ms.length : Nat) := by rw [hm]; simp
    rw [e]
    exact idx_nat (by rw [hm]; simp)
  · rw [hm]; simp; omega
  k_memK
  refine ev_mslice 4 ?_
  k_memK
  refine ep_none (ep_some ?_)
  k_memK
  refine c_len_ref hmm ?_
  k_memK
  refine ⟨_, rfl, _, ms.map (fun (k : Nat) => V.int k), .inr ⟨_, _, rfl, hmm⟩, ?_, fun m hmn => ?_⟩
  · unfold cut
    have e : ((S.ms.map fun (k : Nat) => V.int k).length : Int) - 1 = (ms.length : Nat) := by rw [hm]; simp
    dsimp only
    rw [e, if_pos (Int.natCast_nonneg _), hm]
    simp
  have H1 := has_new (o := .list 4 (ms.map fun (k : Nat) => V.int k)) H hmn
  have K1 : Keep6 σ (upd σ m (.list 4 (ms.map fun (k : Nat) => V.int k))) := keep6_new hmn
  have hm1 : upd σ m (.list 4 (ms.map fun (k : Nat) => V.int k)) m = some (.list 4 (ms.map fun (k : Nat) => V.int k)) := upd_same
  generalize upd σ m (.list 4 (ms.map fun (k : Nat) => V.int k)) = σ1 at H1 K1 hm1
  clear ho hmm
  have ho := H1.o
  k_memK
  have H2 : Has (upd σ1 l (.ns 6 (stF { a with m := m } { S with ms := ms }))) l { a with m := m } { S with ms := ms } :=
    ⟨upd_same, upd_ne (tag_ne H1.d H1.o (by simp [AO.tag])) H1.d, upd_ne (tag_ne H1.f H1.o (by simp [AO.tag])) H1.f, upd_ne (tag_ne H1.t H1.o (by simp [AO.tag])) H1.t, upd_ne (tag_ne hm1 H1.o (by simp [AO.tag])) hm1, upd_ne (tag_ne H1.w H1.o (by simp [AO.tag])) H1.w⟩
  have K2 : Keep6 σ1 (upd σ1 l (.ns 6 (stF { a with m := m } { S with ms := ms }))) := keep6_upd ho (by simp [AO.tag])
  change ExS _ _ _ _ (upd σ1 l (.ns 6 (stF { a with m := m } { S with ms := ms }))) _ _ _
  generalize upd σ1 l (.ns 6 (stF { a with m := m } { S with ms := ms })) = σ2 at H2 K2
  clear ho hm1
  have K := K1.trans K2
  refine s_while (fun k ρ' σ' => ∃ (done todo : List En), seg = todo ++ done ∧ k = todo.length ∧ ρ' = ([("self", .inst 658 l), ("mark", .int base.length)] : Rho) ∧ Has σ' l { a with m := m } { S with ms := ms, tr := base ++ todo, ds := undo done S.ds } ∧ Keep6 σ σ') seg.length _ (by k_ownIn) ⟨[], seg, by simp, rfl, rfl, by rw [← ht]; exact H2, K⟩ ?_
  rintro k ρ' σ' ⟨done, todo, hs, rfl, rfl, H3, K3⟩
  have ho := H3.o
  k_memK
  refine c_len_ref H3.t ?_
  k_memK
  rcases List.eq_nil_or_concat todo with rfl | ⟨todo, e, rfl⟩
  · refine ⟨fun q => by simp at q, fun _ => ?_⟩
    k_memK
    refine ev_idict0 5 fun w hw => ?_
    have H4 := has_new (o := .idict 5 []) H3 hw
    have K4 : Keep6 σ' (upd σ' w (.idict 5 [])) := keep6_new hw
    have hw1 : upd σ' w (.idict 5 []) w = some (.idict 5 []) := upd_same
    generalize upd σ' w (.idict 5 []) = σ4 at H4 K4 hw1
    clear ho
    have ho := H4.o
    have hd : seg = done := by simpa using hs
    subst hd
    k_memK
    have H5 : Has (upd σ4 l (.ns 6 (stF { a with m := m, w := w } { S with ms := ms, tr := base ++ [], ds := undo seg S.ds, nw := [] }))) l { a with m := m, w := w } { S with ms := ms, tr := base ++ [], ds := undo seg S.ds, nw := [] } :=
      ⟨upd_same, upd_ne (tag_ne H4.d H4.o (by simp [AO.tag])) H4.d, upd_ne (tag_ne H4.f H4.o (by simp [AO.tag])) H4.f, upd_ne (tag_ne H4.t H4.o (by simp [AO.tag])) H4.t, upd_ne (tag_ne H4.m H4.o (by simp [AO.tag])) H4.m, upd_ne (tag_ne hw1 H4.o (by simp [AO.tag])) hw1⟩
    have K5 : Keep6 σ4 (upd σ4 l (.ns 6 (stF { a with m := m, w := w } { S with ms := ms, tr := base ++ [], ds := undo seg S.ds, nw := [] }))) := keep6_upd ho (by simp [AO.tag])
    refine ⟨Nat.zero_le _, ?_⟩
    change EvE _ _ _ _ (upd σ4 l (.ns 6 (stF { a with m := m, w := w } { S with ms := ms, tr := base ++ [], ds := undo seg S.ds, nw := [] }))) _ _
    generalize upd σ4 l (.ns 6 (stF { a with m := m, w := w } { S with ms := ms, tr := base ++ [], ds := undo seg S.ds, nw := [] })) = σ5 at H5 K5
    clear ho
    have ho := H5.o
    k_memK
    refine cm_in (rd_data (v := .tup []) (by rfl)) (rd_ref H5.f hok) ?_
    k_memK
    rw [decide_eq_false hf]
    refine ⟨Nat.zero_le _, ?_⟩
    have H6 : Has (upd σ5 l (.ns 6 (stF { a with m := m, w := w } { S with ms := ms, tr := base ++ [], ds := undo seg S.ds, nw := [], fl := false }))) l { a with m := m, w := w } { S with ms := ms, tr := base ++ [], ds := undo seg S.ds, nw := [], fl := false } := has_o (sp := S.sp) (fl := false) (cl := S.cl) H5
    have K6 : Keep6 σ5 (upd σ5 l (.ns 6 (stF { a with m := m, w := w } { S with ms := ms, tr := base ++ [], ds := undo seg S.ds, nw := [], fl := false }))) := keep6_upd ho (by simp [AO.tag])
    change AsT _ _ _ _ (upd σ5 l (.ns 6 (stF { a with m := m, w := w } { S with ms := ms, tr := base ++ [], ds := undo seg S.ds, nw := [], fl := false }))) _ _ _
    generalize upd σ5 l (.ns 6 (stF { a with m := m, w := w } { S with ms := ms, tr := base ++ [], ds := undo seg S.ds, nw := [], fl := false })) = σ6 at H6 K6
    clear ho
    have ho := H6.o
    k_memK
    have H7 : Has (upd σ6 l (.ns 6 (stF { a with m := m, w := w } { S with ms := ms, tr := base ++ [], ds := undo seg S.ds, nw := [], fl := false, cl := .tup [] }))) l { a with m := m, w := w } { S with ms := ms, tr := base ++ [], ds := undo seg S.ds, nw := [], fl := false, cl := .tup [] } := has_o (sp := S.sp) (fl := false) (cl := .tup []) H6
    rw [List.append_nil] at H7
    exact h m w _ H7 ((((K3.trans K4).trans K5).trans K6).trans (keep6_upd ho (by simp [AO.tag])))
  · simp only [List.concat_eq_append] at hs H3 ⊢
    refine ⟨fun _ => ?_, fun q => by simp at q; omega⟩
    k_memK
    refine ⟨_, 3, (base ++ todo).map enV, enV e, rfl, by have := H3.t; simpa using this, ?_⟩
    have H4 := has_tr (tr := base ++ todo) H3
    have K4 : Keep6 σ' (upd σ' a.t (.list 3 ((base ++ todo).map enV))) := keep6_upd H3.t (by simp [AO.tag])
    generalize upd σ' a.t (.list 3 ((base ++ todo).map enV)) = σ4 at H4 K4
    clear ho
    have ho := H4.o
    have hd := H4.d
    k_memK
    have hx := hseg e (by rw [hs]; simp)
    refine i_list hd (by omega) (by simp [undo_len]; omega) ?_
    have H5 := has_ds (ds := (undo done S.ds).set e.x e.old) H4
    have e2 : ((undo done S.ds).map dv).set (e.x : Int).toNat (dv e.old) = ((undo done S.ds).set e.x e.old).map dv := by simp [List.map_set]
    rw [e2]
    have K5 : Keep6 σ4 (upd σ4 a.d (.list 1 (((undo done S.ds).set e.x e.old).map dv))) := keep6_upd hd (by simp [AO.tag])
    k_memK
    exact ⟨todo.length, _, by simp, (by k_ownIn : Wk [("self", .inst 658 l), ("mark", .int base.length)] _), e :: done, todo, by rw [hs]; simp, rfl, rfl, H5, (K3.trans K4).trans K5⟩
end
end Mine
-- part H0
namespace Mine
open PySem PySem.W PySem.Calls PyProof.Rows
/-- all ghosts but those of tags lo to hi stay -/
def Kp (lo hi : Nat) (σ σ' : Sg) : Prop := ∀ a o, σ a = some o → (o.tag < lo ∨ hi < o.tag) → σ' a = some o
theorem Kp.refl {lo hi : Nat} {σ : Sg} : Kp lo hi σ σ := fun _ _ e _ => e
theorem Kp.trans {lo hi : Nat} {σ σ₁ σ₂ : Sg} (h : Kp lo hi σ σ₁) (k : Kp lo hi σ₁ σ₂) : Kp lo hi σ σ₂ := fun a o e t => k a o (h a o e t) t
theorem Kp.wide {lo hi lo' hi' : Nat} {σ σ' : Sg} (h : Kp lo hi σ σ') (h1 : lo' ≤ lo := by decide) (h2 : hi ≤ hi' := by decide) : Kp lo' hi' σ σ' := fun a o e t => h a o e (by omega)
theorem Keep6.kp {σ σ' : Sg} (h : Keep6 σ σ') {hi : Nat} (h2 : 6 ≤ hi := by decide) : Kp 1 hi σ σ' := fun a o e t => h a o e (by omega)
theorem kp_upd {lo hi : Nat} {σ : Sg} {a : Addr} {o p : AO} (ha : σ a = some o) (h1 : lo ≤ o.tag := by simp [AO.tag]) (h2 : o.tag ≤ hi := by simp [AO.tag]) : Kp lo hi σ (upd σ a p) := by
  intro b q e t
  exact upd_ne (by rintro rfl; rw [ha] at e; cases e; omega) e
theorem kp_new {lo hi : Nat} {σ : Sg} {a : Addr} {p : AO} (ha : σ a = none) : Kp lo hi σ (upd σ a p) := by
  intro b q e t
  exact upd_ne (by rintro rfl; rw [ha] at e; cases e) e
theorem ne_of_none {σ : Sg} {a b : Addr} {o : AO} (ha : σ a = some o) (hb : σ b = none) : a ≠ b := by rintro rfl; rw [ha] at hb; cases hb
theorem Has.kp {σ σ' : Sg} {l : Addr} {a : StA} {S : StS} {hi : Nat} (H : Has σ l a S) (k : Kp 7 hi σ σ') : Has σ' l a S :=
  ⟨k _ _ H.o (by simp [AO.tag]), k _ _ H.d (by simp [AO.tag]), k _ _ H.f (by simp [AO.tag]), k _ _ H.t (by simp [AO.tag]), k _ _ H.m (by simp [AO.tag]), k _ _ H.w (by simp [AO.tag])⟩

structure EnA where
  u : Addr
  w : Addr
  n : Addr
  p : Addr
  k : Addr
abbrev enF (a : EnA) (l : Addr) : List (Str × V) := [("store", .inst 658 l), ("propagators", .ref a.p), ("users", .ref a.u), ("waiting", .ref a.w), ("unasked", .ref a.k), ("book", .none), ("book_news", .ref a.n), ("is_book_due", .bool true), ("failed_by", .int (-1))]
/-- the keys of a dict of ints -/
def NK (es : List (Int × V)) : Prop := (es.map (·.1)).Nodup ∧ ∀ k ∈ es.map (·.1), 0 ≤ k ∧ k < 1000
structure HasE (σ : Sg) (e : Addr) (a : EnA) (l : Addr) : Prop where
  o : σ e = some (.ns 10 (enF a l))
  u : σ a.u = some (.idict 7 [])
  w : σ a.w = some (.idict 8 [])
  n : ∃ bn, σ a.n = some (.idict 9 bn) ∧ NK bn
theorem HasE.kp {σ σ' : Sg} {e l : Addr} {a : EnA} {lo hi : Nat} (H : HasE σ e a l) (k : Kp lo hi σ σ') (h : hi ≤ 6 ∨ 11 ≤ lo := by decide) : HasE σ' e a l := by
  obtain ⟨bn, h1, h2⟩ := H.n
  exact ⟨k _ _ H.o (by simp only [AO.tag]; omega), k _ _ H.u (by simp only [AO.tag]; omega), k _ _ H.w (by simp only [AO.tag]; omega), bn, k _ _ h1 (by simp only [AO.tag]; omega), h2⟩
theorem nodup_len : ∀ (m : Nat) (l : List Int), l.Nodup → (∀ k ∈ l, 0 ≤ k ∧ k < m) → l.length ≤ m
  | 0, [], _, _ => Nat.le_refl _
  | 0, x :: l, _, h => by have := h x (.head _); omega
  | m + 1, l, hn, h => by
    have h1 := nodup_len m (l.erase (m : Int)) (hn.erase _) fun k hk => by
      have q := (hn.mem_erase_iff).mp hk
      have := h k q.2
      omega
    have : l.length ≤ (l.erase (m : Int)).length + 1 := by
      rw [List.length_erase]; split <;> omega
    omega
theorem NK.len {es : List (Int × V)} (h : NK es) : es.length < big := by
  have := nodup_len 1000 _ h.1 h.2
  have : 1000 < big := by decide
  simp at *
  omega
theorem NK.put {es : List (Int × V)} {k : Int} {v : V} (h : NK es) (hk : 0 ≤ k ∧ k < 1000) : NK (putI es k v) := by
  unfold putI
  split
  · have e : (es.map fun kv => if kv.1 = k then (kv.1, v) else kv).map (·.1) = es.map (·.1) := by
      rw [List.map_map]; apply List.map_congr_left; intro x _; show (if x.1 = k then (x.1, v) else x).1 = x.1; split <;> rfl
    unfold NK
    rw [e]; exact h
  · rename_i q
    have hn : k ∉ es.map (·.1) := by
      intro hm
      obtain ⟨x, hx, rfl⟩ := List.mem_map.mp hm
      exact q (List.any_eq_true.mpr ⟨x, hx, by simp⟩)
    unfold NK
    rw [List.map_append]
    refine ⟨List.nodup_append.mpr ⟨h.1, by simp, ?_⟩, ?_⟩
    · rintro a ha b hb rfl
      simp at hb; subst hb; exact hn ha
    · intro x hx
      rcases List.mem_append.mp hx with q | q
      · exact h.2 x q
      · simp at q; subst q; exact hk
theorem HasE.bn {σ : Sg} {e l : Addr} {a : EnA} (H : HasE σ e a l) {bn : List (Int × V)} (h : NK bn) : HasE (upd σ a.n (.idict 9 bn)) e a l := by
  obtain ⟨b0, h1, h2⟩ := H.n
  exact ⟨upd_ne (tag_ne H.o h1 (by simp [AO.tag])) H.o, upd_ne (tag_ne H.u h1 (by simp [AO.tag])) H.u, upd_ne (tag_ne H.w h1 (by simp [AO.tag])) H.w, bn, upd_same, h⟩
theorem HasE.oo {σ : Sg} {e l : Addr} {a : EnA} (H : HasE σ e a l) : HasE (upd σ e (.ns 10 (enF a l))) e a l := by
  obtain ⟨bn, h1, h2⟩ := H.n
  exact ⟨upd_same, upd_ne (tag_ne H.u H.o (by simp [AO.tag])) H.u, upd_ne (tag_ne H.w H.o (by simp [AO.tag])) H.w, bn, upd_ne (tag_ne h1 H.o (by simp [AO.tag])) h1, h2⟩

section
variable {c : Cx} {n : Nat} {sc : Scope} {ρ : Rho} {σ : Sg} {Q : V → Sg → Prop} {QB : Bool → Sg → Prop}
theorem upd_at {a b : Addr} {o p : AO} (h : σ b = some p) (k : b ≠ a) : upd σ a o b = some p := upd_ne k h
/-- a store into the object that is being made -/
theorem attr_setU [hK : IsK c] {name : Str} {C l : Addr} {t : Nat} {fs : List (Str × V)} {v : V} {K : Sg → Prop} (hk : storeOk (hd.heap_39 c.w.params) C name = true) (hb : fs.length ≤ 800) (h : K (upd σ l (.ns t (rset fs name v)))) : AttrSet c (.inst C l) name v (upd σ l (.ns t fs)) K :=
  attr_set upd_same hk hb (by rw [upd_upd]; exact h)
theorem uidict {l : Addr} {o : AO} {pos : Pos} (tg : Nat) (hl : o.it = false) (h : ∀ a, σ a = none → a ≠ l → Q (.ref a) (upd (upd σ a (.idict tg [])) l o)) : EvE c n sc ρ (upd σ l o) (.Dict [] [] pos) Q := by
  refine ev_idict0 tg fun a ha => ?_
  have hal : a ≠ l := by rintro rfl; rw [upd_same] at ha; cases ha
  have ha' : σ a = none := by unfold upd at ha; rw [if_neg hal] at ha; exact ha
  rw [upd_comm hal.symm]
  exact h a ha' hal
theorem ulist {l : Addr} {o : AO} {pos : Pos} (tg : Nat) (hl : o.it = false) (h : ∀ a, σ a = none → a ≠ l → Q (.ref a) (upd (upd σ a (.list tg [])) l o)) : EvE c n sc ρ (upd σ l o) (.List [] pos) Q := by
  refine ev_mlist tg (el_nil ⟨Nat.zero_le _, fun a ha => ?_⟩)
  have hal : a ≠ l := by rintro rfl; rw [upd_same] at ha; cases ha
  have ha' : σ a = none := by unfold upd at ha; rw [if_neg hal] at ha; exact ha
  rw [upd_comm hal.symm]
  exact h a ha' hal
/-- an attribute of the object that is being made -/
theorem g_attrU [hK : IsK c] {C l : Addr} {t : Nat} {fs : List (Str × V)} {name : Str} {u : V} (hu : fs.lookup name = some u) (hk : fieldOk (hd.heap_39 c.w.params) C name = true) (h : Q u (upd σ l (.ns t fs))) :
    Op1 c n (fun x => getAttr x name true) (.inst C l) (upd σ l (.ns t fs)) Q := g_attr upd_same hu hk h
theorem g_attrV [hK : IsK c] {C l m : Addr} {o : AO} {t : Nat} {fs : List (Str × V)} {name : Str} {u : V} (hl : σ l = some (.ns t fs)) (hm : l ≠ m) (hu : fs.lookup name = some u) (hk : fieldOk (hd.heap_39 c.w.params) C name = true) (h : Q u (upd σ m o)) :
    Op1 c n (fun x => getAttr x name true) (.inst C l) (upd σ m o) Q := g_attr (upd_ne hm hl) hu hk h
theorem kNew [hK : IsK c] {C a : Addr} {names : List Str} {body : List Stmt} {vs : List V} (tg : Nat) (h0 : makeOk (hd.heap_39 c.w.params) C a = true) (h1 : fdIn (hd.heap_39 c.w.params) a = true) (h2 : namesOk (scAt (hd.heap_39 c.w.params) a) names = true)
    (h3 : ∀ xs : List Value, xs.length = names.length → bindsAt (hd.heap_39 c.w.params) a xs = pure (names.zip xs)) (hb : bodyAt (hd.heap_39 c.w.params) a = body) (hs : scAt (hd.heap_39 c.w.params) a = sc) (hl : vs.length + 1 = names.length)
    (h : ∀ l, σ l = none → ExS c n sc (names.zip (V.inst C l :: vs)) (upd σ l (.ns tg [])) body (fun _ σ' => Q (.inst C l) σ') (fun v σ' => v = .none ∧ Q (.inst C l) σ')) : CallV c (n + 2) (.ref C) vs σ Q := by
  subst hb; subst hs
  exact call_cls tg (kDef h1 h2 h3) (kMake h0) hl h
end
end Mine
namespace Mine
open PySem PySem.W PySem.Calls PyProof.Rows
local macro_rules | `(tactic| k_memK) => `(tactic| repeat (first
  | with_reducible refine ev_name (by with_unfolding_all rfl) (by with_unfolding_all rfl) ?_
  | with_reducible refine ev_int ?_
  | with_reducible refine ev_str ?_
  | with_reducible refine ev_attr (fun _ => (by with_unfolding_all rfl)) ?_
  | with_reducible refine ev_subN (by with_unfolding_all rfl) ?_
  | with_reducible refine el_nil ?_
  | with_reducible refine el_cons ?_ (fun _ => (by with_unfolding_all rfl))
  | with_reducible refine ev_compare (by with_unfolding_all rfl) ?_
  | with_reducible refine ev_binop ?_
  | with_reducible refine ev_tuple ?_
  | with_reducible refine ev_unary ?_
  | with_reducible refine ev_bool ?_
  | with_reducible refine ev_none ?_
  | with_reducible refine ev_ifexp ?_
  | with_reducible refine ev_and ?_
  | with_reducible refine ev_or ?_
  | with_reducible refine ev_last ?_
  | with_reducible refine s_return ?_
  | with_reducible refine s_return_none ?_
  | with_reducible refine s_if ?_
  | with_reducible refine s_expr ?_ (by with_unfolding_all rfl) (fun _ => (by with_unfolding_all rfl))
  | with_reducible refine s_swap (fun _ => (by with_unfolding_all rfl)) (fun env h => by cases env; cases h; with_unfolding_all rfl) (by with_unfolding_all rfl) ?_
  | with_reducible refine s_assign ?_ (fun _ => (by with_unfolding_all rfl)) (fun _ _ => (by with_unfolding_all rfl)) (fun _ => (by with_unfolding_all rfl))
  | with_reducible refine s_assign ?_ (fun _ => (by with_unfolding_all rfl)) (fun env h => by cases env; cases h; with_unfolding_all rfl) (fun _ => (by with_unfolding_all rfl))
  | with_reducible refine xs_nil ?_
  | with_reducible refine t_not ?_
  | with_reducible refine t_compare (by with_unfolding_all rfl) ?_
  | with_reducible refine t_boolop ?_
  | with_reducible refine t_value ?_ (fun _ _ => (by with_unfolding_all rfl))
  | with_reducible refine ts_and_nil ?_
  | with_reducible refine ts_or_nil ?_
  | with_reducible refine ts_and ?_
  | with_reducible refine ts_or ?_
  | with_reducible refine as_itemS (fun _ _ => (by with_unfolding_all rfl)) ?_
  | with_reducible refine as_tuple (by with_unfolding_all rfl) (fun _ => (by with_unfolding_all rfl)) (fun _ => (by with_unfolding_all rfl)) ?_
  | with_reducible refine al_nil ?_
  | with_reducible refine al_cons ?_ (fun _ => (by with_unfolding_all rfl))
  | with_reducible refine as_name (by with_unfolding_all rfl) ?_
  | with_reducible refine tru_bool ?_
  | with_reducible refine op_add ?_
  | with_reducible refine op_sub ?_
  | with_reducible refine cm_lt ?_
  | with_reducible refine cm_le ?_
  | with_reducible refine cm_gt ?_
  | with_reducible refine cm_ge ?_
  | with_reducible refine cm_eq ?_
  | with_reducible refine cm_ne ?_
  | with_reducible refine cm_eqs ?_
  | with_reducible refine op_neg ?_
  | with_reducible refine cm_is ?_
  | with_reducible refine cm_isnot ?_
  | with_reducible refine sub_tup (by assumption) (by omega) ?_ (fun _ _ => (by with_unfolding_all rfl))
  | with_reducible refine sub_lst (by assumption) (by omega) ?_ (fun _ _ => (by with_unfolding_all rfl))
  | with_reducible refine sub_ref (by assumption) (by assumption) (by omega) ?_ (fun _ _ => (by with_unfolding_all rfl))
  | with_reducible refine sub_tup (by with_unfolding_all rfl) (by decide) ?_ (fun _ _ => (by with_unfolding_all rfl))
  | with_reducible refine sub_lst (by with_unfolding_all rfl) (by decide) ?_ (fun _ _ => (by with_unfolding_all rfl))
  | with_reducible refine c_max ?_
  | with_reducible refine c_min ?_
  | with_reducible refine c_range1 ?_
  | with_reducible refine c_range2 ?_
  | with_reducible refine m_append (fun _ => (by with_unfolding_all rfl)) (by with_unfolding_all rfl) (fun _ => (by with_unfolding_all rfl)) (fun _ => (by with_unfolding_all rfl)) (fun _ => ⟨_, _, (by with_unfolding_all rfl)⟩) ?_ (fun _ => (by with_unfolding_all rfl))
  | with_reducible refine m_extend (fun _ => (by with_unfolding_all rfl)) (by with_unfolding_all rfl) (fun _ => (by with_unfolding_all rfl)) (fun _ => (by with_unfolding_all rfl)) (fun _ => ⟨_, _, (by with_unfolding_all rfl)⟩) ?_ (fun _ => (by with_unfolding_all rfl))
  | with_reducible refine g_call bLen (by with_unfolding_all rfl) (fun _ => (by with_unfolding_all rfl)) (fun _ => ⟨_, _, (by with_unfolding_all rfl)⟩) (keeps_builtin _) ?_
  | with_reducible refine g_call bRange (by with_unfolding_all rfl) (fun _ => (by with_unfolding_all rfl)) (fun _ => ⟨_, _, (by with_unfolding_all rfl)⟩) (keeps_type _) ?_
  | with_reducible refine g_call bTuple (by with_unfolding_all rfl) (fun _ => (by with_unfolding_all rfl)) (fun _ => ⟨_, _, (by with_unfolding_all rfl)⟩) (keeps_type _) ?_
  | with_reducible refine g_call bList (by with_unfolding_all rfl) (fun _ => (by with_unfolding_all rfl)) (fun _ => ⟨_, _, (by with_unfolding_all rfl)⟩) (keeps_type _) ?_
  | with_reducible refine g_call bAbs (by with_unfolding_all rfl) (fun _ => (by with_unfolding_all rfl)) (fun _ => ⟨_, _, (by with_unfolding_all rfl)⟩) (keeps_builtin _) ?_
  | with_reducible refine g_call bMax (by with_unfolding_all rfl) (fun _ => (by with_unfolding_all rfl)) (fun _ => ⟨_, _, (by with_unfolding_all rfl)⟩) (keeps_builtin _) ?_
  | with_reducible refine g_call bMin (by with_unfolding_all rfl) (fun _ => (by with_unfolding_all rfl)) (fun _ => ⟨_, _, (by with_unfolding_all rfl)⟩) (keeps_builtin _) ?_
  | with_reducible refine g_call bSum (by with_unfolding_all rfl) (fun _ => (by with_unfolding_all rfl)) (fun _ => ⟨_, _, (by with_unfolding_all rfl)⟩) (keeps_builtin _) ?_
  | with_reducible refine g_call bSorted (by with_unfolding_all rfl) (fun _ => (by with_unfolding_all rfl)) (fun _ => ⟨_, _, (by with_unfolding_all rfl)⟩) (keeps_builtin _) ?_
  | with_reducible refine g_call bEnumerate (by with_unfolding_all rfl) (fun _ => (by with_unfolding_all rfl)) (fun _ => ⟨_, _, (by with_unfolding_all rfl)⟩) (keeps_type _) ?_
  | with_reducible refine g_call (kOwn (by with_unfolding_all rfl)) (by with_unfolding_all rfl) (fun _ => (by with_unfolding_all rfl)) (fun _ => ⟨_, _, (by with_unfolding_all rfl)⟩) (kKeep (by kernel_rfl)) ?_
  | with_reducible refine g_attrU (by with_unfolding_all rfl) (by kernel_rfl) ?_
  | with_reducible refine attr_setU (by kernel_rfl) (Nat.le_of_ble_eq_true (by with_unfolding_all rfl)) ?_
  | with_reducible refine op_not ?_
  | with_reducible refine g_attr (by assumption) (by with_unfolding_all rfl) (by kernel_rfl) ?_
  | with_reducible refine as_attrS ?_
  | with_reducible refine attr_set (by assumption) (by kernel_rfl) (Nat.le_of_ble_eq_true (by with_unfolding_all rfl)) ?_
  | with_reducible refine m_pop (fun _ => (by with_unfolding_all rfl)) (by with_unfolding_all rfl) (fun _ => (by with_unfolding_all rfl)) ?_
  | with_reducible refine m_get (fun _ => (by with_unfolding_all rfl)) (by with_unfolding_all rfl) (fun _ => (by with_unfolding_all rfl)) (fun _ => (by with_unfolding_all rfl)) (fun _ => ⟨_, _, (by with_unfolding_all rfl)⟩) ?_
  | with_reducible refine m_setdefault (fun _ => (by with_unfolding_all rfl)) (by with_unfolding_all rfl) (fun _ => (by with_unfolding_all rfl)) (fun _ => (by with_unfolding_all rfl)) (fun _ => ⟨_, _, (by with_unfolding_all rfl)⟩) ?_
  | with_reducible refine ev_meth0 (fun _ => (by with_unfolding_all rfl)) (by with_unfolding_all rfl) (fun _ => (by with_unfolding_all rfl)) ?_
  | with_reducible refine ev_meth1 (fun _ => (by with_unfolding_all rfl)) (by with_unfolding_all rfl) (fun _ => (by with_unfolding_all rfl)) (fun _ => (by with_unfolding_all rfl)) (fun _ => ⟨_, _, (by with_unfolding_all rfl)⟩) ?_
  | with_reducible refine umeth (by assumption) (by with_unfolding_all rfl) (by with_unfolding_all rfl) (by kernel_rfl) (by kernel_rfl) ?_
  | with_reducible refine g_call0 (kOwn (by with_unfolding_all rfl)) (by with_unfolding_all rfl) (kKeep (by kernel_rfl)) ?_))

local macro_rules | `(tactic| k_ownIn) => `(tactic| repeat (first
  | with_reducible exact capt_nil
  | with_reducible refine capt_cons (by with_unfolding_all rfl) (by with_unfolding_all rfl) ?_
  | with_reducible exact wk_refl
  | with_reducible exact Wk.nil
  | with_reducible refine Wk.cons (by with_unfolding_all rfl) ?_
  | with_reducible refine wk_set (by with_unfolding_all rfl) ?_))
-- part H1
section
variable {c : Cx} [hK : IsK c] {n : Nat} {σ : Sg} {Q : V → Sg → Prop} {l e : Addr} {a : StA} {ea : EnA} {S : StS}
theorem en_degree (H : HasE σ e ea l) {x : Int} (h : Q (.int 0) σ) : CallV c (n + 1) (.ref 299) [.inst 330 e, .int x] σ Q := by
  have ho := H.o
  have hu := H.u
  refine kCall (names := ["self", "x"]) (by kernel_rfl) (by kernel_rfl) (by intro xs h; match xs, h with | [x0, x1], _ => rfl) (by conv => lhs; whnf) (by conv => lhs; whnf) rfl ?_
  k_memK
  refine ⟨_, _, _, rfl, hu, ?_⟩
  k_memK
  refine ⟨Nat.zero_le _, ?_⟩
  k_memK
  refine ⟨_, _, _, _, rfl, hu, ?_⟩
  k_memK
  exact c_len_tup h
theorem en_has_more (H : HasE σ e ea l) (h : Q (.bool false) σ) : CallV c (n + 1) (.ref 320) [.inst 330 e] σ Q := by
  have ho := H.o
  have hw := H.w
  refine kCall (names := ["self"]) (by kernel_rfl) (by kernel_rfl) (by intro xs h; match xs, h with | [x0], _ => rfl) (by conv => lhs; whnf) (by conv => lhs; whnf) rfl ?_
  k_memK
  refine c_len_idict hw ?_
  k_memK
  refine ⟨fun q => by simp at q, fun _ => ?_⟩
  k_memK
  refine ⟨fun _ => ?_, fun q => (nomatch q)⟩
  k_memK
  exact h
theorem en_wake (HS : Has σ l a S) (H : HasE σ e ea l) (hk : NK S.nw) (h64 : S.nw.length < 64)
    (h : ∀ w σ', Has σ' l { a with w := w } { S with nw := [] } → HasE σ' e ea l → Kp 1 10 σ σ' → Q .none σ') : CallV c (n + 2) (.ref 306) [.inst 330 e, .int (-1)] σ Q := by
  have ho := H.o
  have hs := HS.o
  refine kCall (names := ["self", "speaker"]) (by kernel_rfl) (by kernel_rfl) (by intro xs h; match xs, h with | [x0, x1], _ => rfl) (by conv => lhs; whnf) (by conv => lhs; whnf) rfl ?_
  refine s_for (fun vs ρ' σ' => ∃ w ns, vs = numV ns ∧ (∀ k ∈ ns, 0 ≤ k ∧ k < 1000) ∧ ρ' = ([("self", .inst 330 e), ("speaker", .int (-1))] : Rho) ∧ Has σ' l { a with w := w } { S with nw := [] } ∧ HasE σ' e ea l ∧ Kp 1 10 σ σ') (fun _ _ => rfl) ?_ ?_ ?_
  · k_memK
    refine st_changed HS h64 fun ns w σ' hp H1 K1 => ?_
    refine it_lst fun b hb => ⟨_, _, _, hb, rfl, (by k_ownIn : Wk [("self", .inst 330 e), ("speaker", .int (-1))] _), w, ns, rfl, fun k hm => hk.2 k (hp.mem_iff.mp hm), rfl, H1, H.kp (K1 : Kp 1 6 σ σ'), Kp.wide (lo := 1) (hi := 6) K1⟩
  · rintro v vs ρ' σ' b ⟨w, ns, hvs, hns, rfl, H1, H2, K⟩ hb
    cases ns with
    | nil => cases hvs
    | cons x ns =>
      simp only [numV, List.map_cons, List.cons.injEq] at hvs
      obtain ⟨rfl, rfl⟩ := hvs
      have ho2 : upd σ' b (.iter (ns.map V.int)) e = some (.ns 10 (enF ea l)) := upd_ne (ne_of_none H2.o hb) H2.o
      obtain ⟨bn, hn, hnk⟩ := H2.n
      have hn2 : upd σ' b (.iter (ns.map V.int)) ea.n = some (.idict 9 bn) := upd_ne (ne_of_none hn hb) hn
      k_memK
      refine ⟨fun _ => ?_, fun q => (nomatch q)⟩
      k_memK
      refine i_idict hn2 hnk.len ?_
      have H3 := H2.bn (hnk.put (v := .bool true) (hns x (.head _)))
      have e1 : upd (upd σ' b (.iter (ns.map V.int))) ea.n (.idict 9 (putI bn x (.bool true))) = upd (upd σ' ea.n (.idict 9 (putI bn x (.bool true)))) b (.iter (ns.map V.int)) := upd_comm (ne_of_none hn hb).symm
      rw [e1]
      have K3 : Kp 1 10 σ (upd σ' ea.n (.idict 9 (putI bn x (.bool true)))) := K.trans (kp_upd hn)
      have H1' := H1.kp (kp_upd (p := .idict 9 (putI bn x (.bool true))) hn : Kp 7 10 σ' _)
      have hb' : upd σ' ea.n (.idict 9 (putI bn x (.bool true))) b = none := upd_ne (ne_of_none hn hb).symm hb
      generalize upd σ' ea.n (.idict 9 (putI bn x (.bool true))) = σ3 at H3 K3 H1' hb'
      clear ho2 hn2
      have ho3 : upd σ3 b (.iter (ns.map V.int)) e = some (.ns 10 (enF ea l)) := upd_ne (ne_of_none H3.o hb') H3.o
      k_memK
      have e2 : upd (upd σ3 b (.iter (ns.map V.int))) e (.ns 10 (enF ea l)) = upd (upd σ3 e (.ns 10 (enF ea l))) b (.iter (ns.map V.int)) := upd_comm (ne_of_none H3.o hb').symm
      change ExS _ _ _ _ (upd (upd σ3 b (.iter (ns.map V.int))) e (.ns 10 (enF ea l))) _ _ _
      rw [e2]
      have H4 := H3.oo
      have K4 := K3.trans (kp_upd (lo := 1) (hi := 10) (p := .ns 10 (enF ea l)) H3.o)
      have H1'' := H1'.kp (kp_upd (p := .ns 10 (enF ea l)) H3.o : Kp 7 10 σ3 _)
      have hb'' : upd σ3 e (.ns 10 (enF ea l)) b = none := upd_ne (ne_of_none H3.o hb').symm hb'
      generalize upd σ3 e (.ns 10 (enF ea l)) = σ4 at H4 K4 H1'' hb''
      clear ho3
      have ho4 : upd σ4 b (.iter (ns.map V.int)) e = some (.ns 10 (enF ea l)) := upd_ne (ne_of_none H4.o hb'') H4.o
      have hu4 : upd σ4 b (.iter (ns.map V.int)) ea.u = some (.idict 7 []) := upd_ne (ne_of_none H4.u hb'') H4.u
      k_memK
      refine s_for (fun ws ρ' σ' => ws = [] ∧ ρ' = ([("self", .inst 330 e), ("speaker", .int (-1))] : Rho) ∧ σ' = upd σ4 b (.iter (ns.map V.int))) (fun _ _ => rfl) ?_ ?_ ?_
      · k_memK
        refine ⟨_, _, _, rfl, hu4, ?_⟩
        k_memK
        refine ⟨Nat.zero_le _, ?_⟩
        k_memK
        refine ⟨_, _, _, _, rfl, hu4, ?_⟩
        k_memK
        refine it_tup fun b2 hb2 => ⟨_, _, _, hb2, rfl, (by k_ownIn : Wk [("self", .inst 330 e), ("speaker", .int (-1))] _), rfl, rfl, rfl⟩
      · rintro v vs ρ' σ' b2 ⟨hw, _⟩
        cases hw
      · rintro ρ' σ' ⟨_, rfl, rfl⟩
        k_memK
        exact ⟨_, _, rfl, hb'', (by k_ownIn : Wk [("self", .inst 330 e), ("speaker", .int (-1))] _), w, ns, rfl, fun k hm => hns k (.tail _ hm), rfl, H1'', H4, K4⟩
  · rintro ρ' σ' ⟨w, ns, hvs, _, rfl, H1, H2, K⟩
    k_memK
    exact h w σ' H1 H2 K
theorem en_propagate (HS : Has σ l a S) (H : HasE σ e ea l) (hk : NK S.nw) (h64 : S.nw.length < 64) (hf : S.fl = false)
    (h : ∀ w σ', Has σ' l { a with w := w } { S with nw := [], sp := -1 } → HasE σ' e ea l → Kp 1 10 σ σ' → Q (.bool true) σ') : CallV c (n + 3) (.ref 327) [.inst 330 e] σ Q := by
  obtain ⟨ds, fs, tr, ms, nw, sp, fl, cl⟩ := S
  dsimp only at hf hk h64
  subst hf
  have ho := H.o
  refine kCall (names := ["self"]) (by kernel_rfl) (by kernel_rfl) (by intro xs h; match xs, h with | [x0], _ => rfl) (by conv => lhs; whnf) (by conv => lhs; whnf) rfl ?_
  k_memK
  rw [show upd σ e (.ns 10 (rset (enF ea l) "is_book_due" (.bool true))) = upd σ e (.ns 10 (enF ea l)) from rfl]
  have H1 := H.oo
  have HS1 := HS.kp (kp_upd (p := .ns 10 (enF ea l)) H.o : Kp 7 10 σ _)
  have K1 : Kp 1 10 σ (upd σ e (.ns 10 (enF ea l))) := kp_upd H.o
  generalize upd σ e (.ns 10 (enF ea l)) = σ1 at H1 HS1 K1
  clear ho
  have ho := H1.o
  k_memK
  refine en_wake HS1 H1 hk h64 fun w σ2 HS2 H2 K2 => ?_
  clear ho
  have ho := H2.o
  have hs := HS2.o
  k_memK
  have HS3 := has_o (sp := -2) (fl := false) (cl := cl) HS2
  have K3 : Kp 1 10 σ2 (upd σ2 l (.ns 6 (stF { a with w := w } ⟨ds, fs, tr, ms, [], -2, false, cl⟩))) := kp_upd HS2.o
  have H3 := H2.kp (kp_upd (p := .ns 6 (stF { a with w := w } ⟨ds, fs, tr, ms, [], -2, false, cl⟩)) HS2.o : Kp 1 6 σ2 _)
  change ExS _ _ _ _ (upd σ2 l (.ns 6 (stF { a with w := w } ⟨ds, fs, tr, ms, [], -2, false, cl⟩))) _ _ _
  change Has (upd σ2 l (.ns 6 (stF { a with w := w } ⟨ds, fs, tr, ms, [], -2, false, cl⟩))) _ _ _ at HS3
  generalize upd σ2 l (.ns 6 (stF { a with w := w } ⟨ds, fs, tr, ms, [], -2, false, cl⟩)) = σ3 at H3 HS3 K3
  clear ho hs
  have ho := H3.o
  have hs := HS3.o
  refine s_while (fun k ρ' σ' => k = 0 ∧ ρ' = ([("self", .inst 330 e), ("stands", .bool true)] : Rho) ∧ σ' = σ3) 0 _ (by k_ownIn) ⟨rfl, rfl, rfl⟩ ?_
  rintro k ρ' σ' ⟨rfl, rfl, rfl⟩
  k_memK
  refine ⟨fun _ => ?_, fun q => (nomatch q)⟩
  k_memK
  refine en_has_more H3 ?_
  k_memK
  refine ⟨fun q => (nomatch q), fun _ => ?_⟩
  refine ⟨fun q => (nomatch q), fun _ => ?_⟩
  k_memK
  refine ⟨fun q => (nomatch q), fun _ => ?_⟩
  k_memK
  have HS4 := has_o (sp := -1) (fl := false) (cl := cl) HS3
  have K4 := kp_upd (lo := 1) (hi := 10) (p := .ns 6 (stF { a with w := w } ⟨ds, fs, tr, ms, [], -1, false, cl⟩)) HS3.o
  have H4 := H3.kp (kp_upd (p := .ns 6 (stF { a with w := w } ⟨ds, fs, tr, ms, [], -1, false, cl⟩)) HS3.o : Kp 1 6 σ' _)
  change Has (upd σ' l (.ns 6 (stF { a with w := w } ⟨ds, fs, tr, ms, [], -1, false, cl⟩))) _ _ _ at HS4
  have := h w _ HS4 H4 (((K1.trans K2.wide).trans K3).trans K4)
  exact this
end
end Mine
-- part P1
namespace Mine
open PySem PySem.W PySem.Calls PyProof.Rows

/-- a domain as the store keeps it -/
structure Okd (D : Dom) : Prop where
  le : ∀ p ∈ D, p.1 ≤ p.2
  srt : D.Pairwise fun p q => p.2 < q.1
  sm : ∀ p ∈ D, -1000 ≤ p.1 ∧ p.2 ≤ 1000

theorem mem_iv {lo hi v : Int} : v ∈ iv lo hi ↔ lo ≤ v ∧ v ≤ hi := by
  unfold iv
  simp only [List.mem_map, List.mem_range]
  constructor
  · rintro ⟨k, hk, rfl⟩; omega
  · rintro ⟨h1, h2⟩; exact ⟨(v - lo).toNat, by omega, by omega⟩
theorem iv_srt {lo hi : Int} : (iv lo hi).Pairwise (· < ·) := by
  unfold iv
  rw [List.pairwise_map]
  exact List.pairwise_lt_range.imp fun h => by omega
theorem mem_vals {D : Dom} {v : Int} : v ∈ vals D ↔ ∃ p ∈ D, p.1 ≤ v ∧ v ≤ p.2 := by
  unfold vals
  simp only [List.mem_flatMap, mem_iv]
theorem vals_srt {D : Dom} (h : Okd D) : (vals D).Pairwise (· < ·) := by
  unfold vals
  rw [List.pairwise_flatMap]
  refine ⟨fun p _ => iv_srt, h.srt.imp fun {p q} hpq x hx y hy => ?_⟩
  rw [mem_iv] at hx hy
  omega
theorem srt_nodup {l : List Int} (h : l.Pairwise (· < ·)) : l.Nodup := h.imp fun h e => by omega
theorem srt_ext {l m : List Int} (hl : l.Pairwise (· < ·)) (hm : m.Pairwise (· < ·)) (h : ∀ v, v ∈ l ↔ v ∈ m) : l = m :=
  ((List.perm_ext_iff_of_nodup (srt_nodup hl) (srt_nodup hm)).mpr h).eq_of_pairwise (fun a b _ _ h1 h2 => by omega) hl hm

theorem okd_up {D : Dom} {k : Int} (h : Okd D) : Okd (upTo D k) := by
  refine ⟨fun p hp => ?_, ?_, fun p hp => ?_⟩
  · obtain ⟨q, hq, e⟩ := List.mem_filterMap.mp hp
    have := h.le q hq
    split at e <;> cases e
    dsimp only; omega
  · unfold upTo
    refine List.Pairwise.filterMap _ (fun p q hpq a ha b hb => ?_) h.srt
    split at ha <;> cases ha
    split at hb <;> cases hb
    dsimp only; omega
  · obtain ⟨q, hq, e⟩ := List.mem_filterMap.mp hp
    have := h.le q hq
    have := h.sm q hq
    split at e <;> cases e
    dsimp only; omega
theorem okd_on {D : Dom} {k : Int} (h : Okd D) : Okd (fromOn D k) := by
  refine ⟨fun p hp => ?_, ?_, fun p hp => ?_⟩
  · obtain ⟨q, hq, e⟩ := List.mem_filterMap.mp hp
    have := h.le q hq
    split at e <;> cases e
    dsimp only; omega
  · unfold fromOn
    refine List.Pairwise.filterMap _ (fun p q hpq a ha b hb => ?_) h.srt
    split at ha <;> cases ha
    split at hb <;> cases hb
    dsimp only; omega
  · obtain ⟨q, hq, e⟩ := List.mem_filterMap.mp hp
    have := h.le q hq
    have := h.sm q hq
    split at e <;> cases e
    dsimp only; omega
theorem mem_up {D : Dom} {k v : Int} : v ∈ vals (upTo D k) ↔ v ∈ vals D ∧ v ≤ k := by
  rw [mem_vals, mem_vals]
  unfold upTo
  simp only [List.mem_filterMap]
  constructor
  · rintro ⟨p, ⟨q, hq, e⟩, h1, h2⟩
    split at e <;> cases e
    dsimp only at h1 h2
    exact ⟨⟨q, hq, by omega, by omega⟩, by omega⟩
  · rintro ⟨⟨p, hp, h1, h2⟩, h3⟩
    exact ⟨(p.1, min p.2 k), ⟨p, hp, by rw [if_pos (by omega)]⟩, by dsimp only; omega, by dsimp only; omega⟩
theorem mem_on {D : Dom} {k v : Int} : v ∈ vals (fromOn D k) ↔ v ∈ vals D ∧ k ≤ v := by
  rw [mem_vals, mem_vals]
  unfold fromOn
  simp only [List.mem_filterMap]
  constructor
  · rintro ⟨p, ⟨q, hq, e⟩, h1, h2⟩
    split at e <;> cases e
    dsimp only at h1 h2
    exact ⟨⟨q, hq, by omega, by omega⟩, by omega⟩
  · rintro ⟨⟨p, hp, h1, h2⟩, h3⟩
    exact ⟨(max p.1 k, p.2), ⟨p, hp, by rw [if_pos (by omega)]⟩, by dsimp only; omega, by dsimp only; omega⟩
theorem okd_tail {p : Int × Int} {D : Dom} (h : Okd (p :: D)) : Okd D :=
  ⟨fun q hq => h.le q (.tail _ hq), (List.pairwise_cons.mp h.srt).2, fun q hq => h.sm q (.tail _ hq)⟩
theorem mem_meet : ∀ {D : Dom} {k v : Int}, Okd D → (v ∈ vals (meetK D k) ↔ v ∈ vals D ∧ v = k)
  | [], k, v, _ => by simp [meetK, vals]
  | p :: D, k, v, h => by
    unfold meetK
    have hp := (List.pairwise_cons.mp h.srt).1
    have hl := h.le p (.head _)
    split
    · rename_i q
      rw [mem_meet (okd_tail h), mem_vals, mem_vals]
      constructor
      · rintro ⟨⟨r, hr, h1, h2⟩, e⟩; exact ⟨⟨r, .tail _ hr, h1, h2⟩, e⟩
      · rintro ⟨⟨r, hr, h1, h2⟩, e⟩
        rcases List.mem_cons.mp hr with rfl | hr
        · omega
        · exact ⟨⟨r, hr, h1, h2⟩, e⟩
    · rename_i q
      split
      · rename_i q2
        rw [mem_vals, mem_vals]
        constructor
        · rintro ⟨r, hr, h1, h2⟩
          simp at hr; subst hr
          dsimp only at h1 h2
          exact ⟨⟨p, .head _, by omega, by omega⟩, by omega⟩
        · rintro ⟨_, rfl⟩
          exact ⟨(v, v), by simp, Int.le_refl _, Int.le_refl _⟩
      · rename_i q2
        rw [mem_vals, mem_vals]
        constructor
        · rintro ⟨r, hr, _⟩; simp at hr
        · rintro ⟨⟨r, hr, h1, h2⟩, rfl⟩
          rcases List.mem_cons.mp hr with rfl | hr
          · omega
          · have := hp r hr; omega
theorem okd_meet : ∀ {D : Dom} {k : Int}, Okd D → Okd (meetK D k)
  | [], k, _ => ⟨fun p hp => by simp [meetK] at hp, by simp [meetK], fun p hp => by simp [meetK] at hp⟩
  | p :: D, k, h => by
    unfold meetK
    split
    · exact okd_meet (okd_tail h)
    · split
      · have := h.sm p (.head _)
        refine ⟨fun q hq => ?_, by simp, fun q hq => ?_⟩
        · simp at hq; subst hq; exact Int.le_refl _
        · simp at hq; subst hq; dsimp only; omega
      · exact ⟨fun p hp => by simp at hp, by simp, fun p hp => by simp at hp⟩
theorem okd_without {D : Dom} {k : Int} (h : Okd D) : Okd (without D k) := by
  have h1 := okd_up (k := k - 1) h
  have h2 := okd_on (k := k + 1) h
  unfold without
  refine ⟨fun p hp => ?_, List.pairwise_append.mpr ⟨h1.srt, h2.srt, fun p hp q hq => ?_⟩, fun p hp => ?_⟩
  · rcases List.mem_append.mp hp with z | z
    · exact h1.le p z
    · exact h2.le p z
  · obtain ⟨p', _, e⟩ := List.mem_filterMap.mp hp
    split at e <;> cases e
    obtain ⟨q', _, e⟩ := List.mem_filterMap.mp hq
    split at e <;> cases e
    dsimp only; omega
  · rcases List.mem_append.mp hp with z | z
    · exact h1.sm p z
    · exact h2.sm p z
theorem mem_without {D : Dom} {k v : Int} : v ∈ vals (without D k) ↔ v ∈ vals D ∧ v ≠ k := by
  unfold without
  have : vals (upTo D (k - 1) ++ fromOn D (k + 1)) = vals (upTo D (k - 1)) ++ vals (fromOn D (k + 1)) := by simp [vals]
  rw [this, List.mem_append, mem_up, mem_on]
  constructor
  · rintro (⟨h1, h2⟩ | ⟨h1, h2⟩) <;> exact ⟨h1, by omega⟩
  · rintro ⟨h1, h2⟩
    rcases Int.lt_or_lt_of_ne h2 with z | z
    · exact .inl ⟨h1, by omega⟩
    · exact .inr ⟨h1, by omega⟩

structure Lit where
  x : Nat
  s : Str
  k : Int
abbrev lV (l : Lit) : V := lv l.x l.s l.k
def says (s : Str) (k v : Int) : Bool := if s = "<=" then decide (v ≤ k) else if s = ">=" then decide (k ≤ v) else v == k
def sgn (s : Str) : Prop := s = "<=" ∨ s = ">=" ∨ s = "="
theorem okd_strk {s : Str} {k : Int} {D : Dom} (h : Okd D) : Okd (strk s k D) := by
  unfold strk
  split
  · exact okd_up h
  split
  · exact okd_on h
  split
  · exact okd_meet h
  · exact okd_without h
theorem vals_strk {s : Str} {k : Int} {D : Dom} (h : Okd D) (hs : sgn s) : vals (strk s k D) = (vals D).filter fun v => says s k v == true := by
  refine srt_ext (vals_srt (okd_strk h)) ((vals_srt h).filter _) fun v => ?_
  rw [List.mem_filter]
  rcases hs with rfl | rfl | rfl
  · show v ∈ vals (upTo D k) ↔ _
    rw [mem_up]; simp [says]
  · show v ∈ vals (fromOn D k) ↔ _
    rw [mem_on]
    have : says (">=") k v = decide (k ≤ v) := rfl
    rw [this]; simp
  · show v ∈ vals (meetK D k) ↔ _
    rw [mem_meet h]
    have : says ("=") k v = (v == k) := rfl
    rw [this]; simp
theorem vals_neg {s : Str} {k : Int} {D : Dom} (h : Okd D) (hs : sgn s) : vals (strk (neg s k).1 (neg s k).2 D) = (vals D).filter fun v => says s k v == false := by
  refine srt_ext (vals_srt (okd_strk h)) ((vals_srt h).filter _) fun v => ?_
  rw [List.mem_filter]
  rcases hs with rfl | rfl | rfl
  · show v ∈ vals (fromOn D (k + 1)) ↔ _
    rw [mem_on]
    have : says ("<=") k v = decide (v ≤ k) := rfl
    rw [this]; simp; omega
  · show v ∈ vals (upTo D (k - 1)) ↔ _
    rw [mem_up]
    have : says (">=") k v = decide (k ≤ v) := rfl
    rw [this]; simp; omega
  · show v ∈ vals (without D k) ↔ _
    rw [mem_without]
    have : says ("=") k v = (v == k) := rfl
    rw [this]; simp

/-- head, last, length -/
theorem okd_cons {p : Int × Int} {D : Dom} (h : Okd (p :: D)) : ∃ r, vals (p :: D) = p.1 :: r := by
  have hl := h.le p (.head _)
  have : iv p.1 p.2 = p.1 :: (iv (p.1 + 1) p.2) := by
    refine srt_ext iv_srt (List.pairwise_cons.mpr ⟨fun a ha => ?_, iv_srt⟩) fun v => ?_
    · rw [mem_iv] at ha; omega
    · rw [List.mem_cons, mem_iv, mem_iv]; omega
  exact ⟨iv (p.1 + 1) p.2 ++ vals D, by simp [vals, this]⟩
theorem okd_last {p : Int × Int} {D : Dom} (h : Okd (D ++ [p])) : ∃ r, vals (D ++ [p]) = r ++ [p.2] := by
  have hl := h.le p (by simp)
  have : iv p.1 p.2 = iv p.1 (p.2 - 1) ++ [p.2] := by
    refine srt_ext iv_srt (List.pairwise_append.mpr ⟨iv_srt, by simp, fun a ha b hb => ?_⟩) fun v => ?_
    · rw [mem_iv] at ha; simp at hb; omega
    · rw [List.mem_append, mem_iv, mem_iv, List.mem_singleton]; omega
  exact ⟨vals D ++ iv p.1 (p.2 - 1), by simp [vals, this]⟩
theorem iv_len {lo hi : Int} : (iv lo hi).length = (hi + 1 - lo).toNat := by simp [iv]
theorem width_is {D : Dom} (h : Okd D) : width D = (vals D).length := by
  induction D with
  | nil => rfl
  | cons p D ih =>
    have := ih (okd_tail h)
    have hl := h.le p (.head _)
    unfold width at this ⊢
    simp only [List.map_cons, List.sum_cons, this]
    simp only [vals, List.flatMap_cons, List.length_append, iv_len]
    omega
theorem len_le {D : Dom} (h : Okd D) : D.length ≤ (vals D).length := by
  induction D with
  | nil => exact Nat.zero_le _
  | cons p D ih =>
    have := ih (okd_tail h)
    have hl := h.le p (.head _)
    simp only [vals, List.flatMap_cons, List.length_append, iv_len, List.length_cons] at this ⊢
    omega
theorem fixed_is {p : Int × Int} {D : Dom} (h : Okd (p :: D)) : fixed (p :: D) = ((vals (p :: D)).length == 1) := by
  have hl := h.le p (.head _)
  cases D with
  | nil =>
    show (p.1 == p.2) = _
    simp only [vals, List.flatMap_cons, List.length_append, iv_len, List.flatMap_nil, List.length_nil]
    rw [Bool.eq_iff_iff]; simp; omega
  | cons q D =>
    have := len_le h
    show false = _
    simp only [List.length_cons] at this
    symm; simp; omega
theorem vals_ne {D : Dom} (h : Okd D) : vals D = [] ↔ D = [] := by
  constructor
  · intro e
    cases D with
    | nil => rfl
    | cons p D => obtain ⟨r, q⟩ := okd_cons h; rw [q] at e; cases e
  · rintro rfl; rfl
end Mine
-- part P2
namespace Mine
open PySem PySem.W PySem.Calls PyProof.Rows

def kL (o : Str) (S : List Int) (d : Int) : List Int :=
  if o = "first_fail" then [(S.length : Int)] else if o = "smallest" then [S.headD 0] else if o = "largest" then [-S.getLastD 0] else if o = "most_constrained" then [(S.length : Int), -d] else []
def kB (o : Str) (S : List Int) (d : Int) : List Int :=
  if o = "first_fail" then [(S.length : Int), 0] else if o = "smallest" then [S.headD 0, 0] else if o = "largest" then [-S.getLastD 0, 0] else if o = "most_constrained" then [(S.length : Int), -d] else [0, 0]
theorem kLB {o : Str} {S S' : List Int} {d d' : Int} : ilt (kL o S d) (kL o S' d') = ilt (kB o S d) (kB o S' d') := by
  unfold kL kB
  split
  · simp [ilt]
  split
  · simp [ilt]
  split
  · simp [ilt]
  split
  · rfl
  · simp [ilt]
def bst (key : Nat → List Int) (un : Nat → Bool) (row : List Nat) : Option Nat :=
  row.foldl (fun b x => if un x then (match b with | none => some x | some y => if ilt (key x) (key y) then some x else some y) else b) none
theorem bst_snoc {key : Nat → List Int} {un : Nat → Bool} {row : List Nat} {x : Nat} : bst key un (row ++ [x]) = if un x then (match bst key un row with | none => some x | some y => if ilt (key x) (key y) then some x else some y) else bst key un row := by
  unfold bst
  rw [List.foldl_append]; rfl
theorem bst_congr {key key' : Nat → List Int} {un : Nat → Bool} (h : ∀ x y, ilt (key x) (key y) = ilt (key' x) (key' y)) (row : List Nat) : bst key un row = bst key' un row := by
  unfold bst
  congr 1
  funext b x
  cases b with
  | none => rfl
  | some y => simp only [h]
def kss (key : Nat → List Int) (un : Nat → Bool) : Nat → List Nat → List (List Int × Int)
  | _, [] => []
  | i, x :: r => if un x then (key x, (i : Int)) :: kss key un (i + 1) r else kss key un (i + 1) r
theorem mem_kss {key : Nat → List Int} {un : Nat → Bool} : ∀ {row : List Nat} {i : Nat} {k : List Int × Int}, k ∈ kss key un i row ↔ ∃ j x, row[j]? = some x ∧ un x = true ∧ k = (key x, ((i + j : Nat) : Int))
  | [], i, k => by simp [kss]
  | y :: r, i, k => by
    have ih := @mem_kss key un r (i + 1) k
    have h1 : (∃ j x, (y :: r)[j]? = some x ∧ un x = true ∧ k = (key x, ((i + j : Nat) : Int))) ↔ (un y = true ∧ k = (key y, (i : Int))) ∨ ∃ j x, r[j]? = some x ∧ un x = true ∧ k = (key x, ((i + 1 + j : Nat) : Int)) := by
      constructor
      · rintro ⟨j, x, e, u, rfl⟩
        cases j with
        | zero => simp at e; subst e; exact .inl ⟨u, rfl⟩
        | succ j => exact .inr ⟨j, x, by simpa using e, u, by rw [Nat.add_assoc, Nat.add_comm 1 j]⟩
      · rintro (⟨u, rfl⟩ | ⟨j, x, e, u, rfl⟩)
        · exact ⟨0, y, rfl, u, rfl⟩
        · exact ⟨j + 1, x, by simpa using e, u, by rw [Nat.add_assoc, Nat.add_comm 1 j]⟩
    rw [h1, ← ih]
    have ek : kss key un i (y :: r) = if un y then (key y, (i : Int)) :: kss key un (i + 1) r else kss key un (i + 1) r := rfl
    rw [ek]
    split
    · rename_i u; rw [List.mem_cons]; exact ⟨fun h => h.imp (fun e => ⟨u, e⟩) id, fun h => h.imp (fun e => e.2) id⟩
    · rename_i u; exact ⟨.inr, fun h => h.elim (fun e => absurd e.1 u) id⟩
theorem kss_len {key : Nat → List Int} {un : Nat → Bool} : ∀ {row : List Nat} {i : Nat}, (kss key un i row).length ≤ row.length
  | [], i => Nat.le_refl _
  | y :: r, i => by
    have := @kss_len key un r (i + 1)
    unfold kss
    split <;> simp <;> omega
theorem kss_srt {key : Nat → List Int} {un : Nat → Bool} : ∀ {row : List Nat} {i : Nat}, (kss key un i row).Pairwise fun a b => a.2 < b.2
  | [], i => .nil
  | y :: r, i => by
    have := @kss_srt key un r (i + 1)
    unfold kss
    split
    · refine List.pairwise_cons.mpr ⟨fun k hk => ?_, this⟩
      obtain ⟨j, x, _, _, rfl⟩ := mem_kss.mp hk
      dsimp only; omega
    · exact this
theorem kss_dis {key : Nat → List Int} {un : Nat → Bool} {row : List Nat} {i : Nat} : ∀ a b (ha : a < (kss key un i row).length) (hb : b < (kss key un i row).length), a ≠ b → (kss key un i row)[a].2 ≠ (kss key un i row)[b].2 := by
  intro a b ha hb h
  have := List.pairwise_iff_getElem.mp (@kss_srt key un row i)
  rcases Nat.lt_or_gt_of_ne h with z | z
  · exact Int.ne_of_lt (this a b ha hb z)
  · exact (Int.ne_of_lt (this b a hb ha z)).symm
/-- the scan finds the least -/
def Least (key : Nat → List Int) (un : Nat → Bool) (row : List Nat) : Option Nat → Prop
  | none => ∀ x ∈ row, un x = false
  | some y => ∃ j : Nat, row[j]? = some y ∧ un y = true ∧ ∀ (i : Nat) x, row[i]? = some x → un x = true → klt (key x, (i : Int)) (key y, (j : Int)) = false
theorem ilt_irr : ∀ x : List Int, ilt x x = false
  | [] => rfl
  | a :: x => by unfold ilt; rw [if_pos rfl]; exact ilt_irr x
theorem at_snoc {row : List Nat} {z x : Nat} {i : Nat} (h : (row ++ [z])[i]? = some x) : (row[i]? = some x ∧ i < row.length) ∨ (i = row.length ∧ x = z) := by
  rcases Nat.lt_or_ge i row.length with q | q
  · rw [List.getElem?_append_left q] at h; exact .inl ⟨h, q⟩
  · rw [List.getElem?_append_right q] at h
    cases e : i - row.length with
    | zero => rw [e] at h; simp at h; exact .inr ⟨by omega, h.symm⟩
    | succ m => rw [e] at h; simp at h
theorem bst_least {key : Nat → List Int} {un : Nat → Bool} : ∀ (m : Nat) (row : List Nat), row.length = m → Least key un row (bst key un row) := by
  intro m
  induction m with
  | zero => intro row h; rw [List.eq_nil_of_length_eq_zero h]; show ∀ x ∈ [], _; intro x hx; cases hx
  | succ m ih =>
    intro row h
    rcases List.eq_nil_or_concat row with rfl | ⟨row, z, rfl⟩
    · cases h
    rw [List.concat_eq_append] at h ⊢
    have ih := ih row (by simpa using h)
    rw [bst_snoc]
    by_cases uz : un z = true
    · rw [if_pos uz]
      cases hb : bst key un row with
      | none =>
        rw [hb] at ih
        refine ⟨row.length, by simp, uz, fun i x e u => ?_⟩
        rcases at_snoc e with ⟨e, _⟩ | ⟨rfl, rfl⟩
        · have := ih x (List.mem_of_getElem? e); rw [u] at this; cases this
        · exact klt_irr _
      | some y =>
        rw [hb] at ih
        obtain ⟨j, hj, uy, hl⟩ := ih
        have hjl : j < row.length := by
          rcases Nat.lt_or_ge j row.length with q | q
          · exact q
          · rw [List.getElem?_eq_none q] at hj; cases hj
        dsimp only
        split
        · rename_i hz
          refine ⟨row.length, by simp, uz, fun i x e u => ?_⟩
          rcases at_snoc e with ⟨e, hi⟩ | ⟨rfl, rfl⟩
          · have h1 := hl i x e u
            cases q : klt (key x, (i : Int)) (key z, (row.length : Int)) with
            | false => rfl
            | true =>
              have h2 : klt (key z, (row.length : Int)) (key y, (j : Int)) = true := by
                unfold klt
                rw [if_neg]
                · exact hz
                · intro e
                  have := hz
                  simp only at e
                  rw [e, ilt_irr] at this; cases this
              have := klt_trans q h2
              rw [h1] at this; cases this
          · exact klt_irr _
        · rename_i hz
          refine ⟨j, by rw [List.getElem?_append_left hjl]; exact hj, uy, fun i x e u => ?_⟩
          rcases at_snoc e with ⟨e, hi⟩ | ⟨rfl, rfl⟩
          · exact hl i x e u
          · unfold klt
            split
            · simp; omega
            · simpa using hz
    · rw [if_neg uz]
      cases hb : bst key un row with
      | none =>
        rw [hb] at ih
        intro x hx
        rcases List.mem_append.mp hx with q | q
        · exact ih x q
        · simp at q; subst q; simpa using uz
      | some y =>
        rw [hb] at ih
        obtain ⟨j, hj, uy, hl⟩ := ih
        have hjl : j < row.length := by
          rcases Nat.lt_or_ge j row.length with q | q
          · exact q
          · rw [List.getElem?_eq_none q] at hj; cases hj
        refine ⟨j, by rw [List.getElem?_append_left hjl]; exact hj, uy, fun i x e u => ?_⟩
        rcases at_snoc e with ⟨e, hi⟩ | ⟨rfl, rfl⟩
        · exact hl i x e u
        · exact absurd u uz
/-- the sorted head is what the scan finds -/
theorem head_is {key : Nat → List Int} {un : Nat → Bool} {row : List Nat} {k : List Int × Int} (hk : k ∈ kss key un 0 row) (hl : ∀ e ∈ kss key un 0 row, klt e k = false) : ∃ (j : Nat) (y : Nat), k.2 = j ∧ row[j]? = some y ∧ bst key un row = some y := by
  obtain ⟨j, y, e, u, rfl⟩ := mem_kss.mp hk
  rw [Nat.zero_add] at *
  have hb := @bst_least key un row.length row rfl
  cases q : bst key un row with
  | none => rw [q] at hb; have := hb y (List.mem_of_getElem? e); rw [u] at this; cases this
  | some y' =>
    rw [q] at hb
    obtain ⟨j', e', u', hl'⟩ := hb
    have h1 := hl' j y e u
    have h2 := hl (key y', (j' : Int)) (mem_kss.mpr ⟨j', y', e', u', by rw [Nat.zero_add]⟩)
    by_cases z : j = j'
    · subst z
      rw [e] at e'; cases e'
      exact ⟨j, y, rfl, e, rfl⟩
    · have := @klt_tot (key y, (j : Int)) (key y', (j' : Int)) (by dsimp only; omega)
      rw [h1, h2] at this; cases this
theorem bst_none {key : Nat → List Int} {un : Nat → Bool} {row : List Nat} (h : kss key un 0 row = []) : bst key un row = none := by
  have hb := @bst_least key un row.length row rfl
  cases q : bst key un row with
  | none => rfl
  | some y =>
    rw [q] at hb
    obtain ⟨j, e, u, _⟩ := hb
    have : (key y, (j : Int)) ∈ kss key un 0 row := mem_kss.mpr ⟨j, y, e, u, by rw [Nat.zero_add]⟩
    rw [h] at this; cases this

def litAt (ch : Str) (x : Nat) (S : List Int) : Lit :=
  if ch = "median" then ⟨x, "=", S.getD ((S.length - 1) / 2) 0⟩ else if ch = "max" then ⟨x, ">=", S.getLastD 0⟩ else ⟨x, "<=", if ch = "split" then (S.headD 0 + S.getLastD 0).fdiv 2 else S.headD 0⟩
abbrev at' (L : List (List Int)) (x : Nat) : List Int := L.getD x []
abbrev open' (L : List (List Int)) (x : Nat) : Bool := decide (1 < (at' L x).length)
def lawLit (o ch : Str) (dg : List Int) (row : List Nat) (L : List (List Int)) : Option Lit :=
  (bst (fun x => kL o (at' L x) (dg.getD x 0)) (open' L) row).map fun x => litAt ch x (at' L x)
structure Cfg where
  o : Str
  ch : Str
  dg : List Int
  row : List Nat
def litOf (cf : Cfg) (L : List (List Int)) : Option Lit := (lawLit cf.o cf.ch cf.dg cf.row L).or (lawLit "input_order" "min" cf.dg (List.range L.length) L)
def sp (L : List (List Int)) (l : Lit) (side : Bool) : List (List Int) := L.set l.x ((at' L l.x).filter fun v => says l.s l.k v == side)
def tot (L : List (List Int)) : Nat := (L.map List.length).sum
def heads (L : List (List Int)) : List Int := L.map (·.headD 0)
def T (cf : Cfg) (L : List (List Int)) : List (List Int) × Nat :=
  match litOf cf L with
  | none => ([heads L], 0)
  | some l => if h : tot (sp L l true) < tot L ∧ tot (sp L l false) < tot L then ((T cf (sp L l true)).1 ++ (T cf (sp L l false)).1, 1 + (T cf (sp L l true)).2 + (T cf (sp L l false)).2) else ([], 0)
termination_by tot L
decreasing_by all_goals first | exact h.1 | exact h.2
structure Okl (L : List (List Int)) : Prop where
  srt : ∀ S ∈ L, S.Pairwise (· < ·)
  ne : ∀ S ∈ L, S ≠ []
theorem two_parts {ch : Str} {x : Nat} {S : List Int} (hs : S.Pairwise (· < ·)) (h1 : 1 < S.length) : (litAt ch x S).x = x ∧ sgn (litAt ch x S).s ∧ (∃ v ∈ S, says (litAt ch x S).s (litAt ch x S).k v = true) ∧ (∃ v ∈ S, says (litAt ch x S).s (litAt ch x S).k v = false) := by
  obtain ⟨a, S', rfl⟩ : ∃ a S', S = a :: S' := by cases S with | nil => simp at h1 | cons a S' => exact ⟨a, S', rfl⟩
  obtain ⟨M, b, rfl⟩ : ∃ M b, S' = M ++ [b] := by
    rcases List.eq_nil_or_concat S' with rfl | ⟨M, b, rfl⟩
    · simp at h1
    · exact ⟨M, b, by rw [List.concat_eq_append]⟩
  have hab : a < b := (List.pairwise_cons.mp hs).1 b (by simp)
  have hd : (a :: (M ++ [b])).headD 0 = a := rfl
  have hla : (a :: (M ++ [b])).getLastD 0 = b := by rw [← List.cons_append, List.getLastD_concat]
  have ma : a ∈ a :: (M ++ [b]) := .head _
  have mb : b ∈ a :: (M ++ [b]) := by simp
  unfold litAt
  split
  · refine ⟨rfl, .inr (.inr rfl), ?_⟩
    have hm : ((a :: (M ++ [b])).length - 1) / 2 < (a :: (M ++ [b])).length := by simp; omega
    have e : (a :: (M ++ [b])).getD (((a :: (M ++ [b])).length - 1) / 2) 0 = (a :: (M ++ [b]))[((a :: (M ++ [b])).length - 1) / 2] := by rw [List.getD_eq_getElem?_getD, List.getElem?_eq_getElem hm]; rfl
    have hin := List.getElem_mem hm
    dsimp only
    rw [e]
    generalize (a :: (M ++ [b]))[((a :: (M ++ [b])).length - 1) / 2] = m at hin
    have hsay : ∀ v, says "=" m v = (v == m) := fun v => rfl
    refine ⟨⟨m, hin, by rw [hsay]; simp⟩, ?_⟩
    by_cases q : a = m
    · exact ⟨b, mb, by rw [hsay]; simp; omega⟩
    · exact ⟨a, ma, by rw [hsay]; simpa using q⟩
  split
  · refine ⟨rfl, .inr (.inl rfl), ?_⟩
    dsimp only
    rw [hla]
    have hsay : ∀ v, says ">=" b v = decide (b ≤ v) := fun v => rfl
    exact ⟨⟨b, mb, by rw [hsay]; simp⟩, a, ma, by rw [hsay]; simp; omega⟩
  · refine ⟨rfl, .inl rfl, ?_⟩
    dsimp only
    rw [hla, hd]
    have hsay : ∀ k v, says "<=" k v = decide (v ≤ k) := fun k v => rfl
    split
    · have h3 := Int.mul_fdiv_add_fmod (a + b) 2
      have h4 := Int.fmod_nonneg (a := a + b) (b := 2)
      have h5 := Int.fmod_lt_of_pos (a + b) (b := 2) (by decide)
      have h4' : 0 ≤ (a + b).fmod 2 := Int.fmod_nonneg_of_pos _ (by decide)
      exact ⟨⟨a, ma, by rw [hsay]; simp; omega⟩, b, mb, by rw [hsay]; simp; omega⟩
    · exact ⟨⟨a, ma, by rw [hsay]; simp⟩, b, mb, by rw [hsay]; simp; omega⟩
theorem bst_mem {key : Nat → List Int} {un : Nat → Bool} {row : List Nat} {y : Nat} (h : bst key un row = some y) : y ∈ row ∧ un y = true := by
  have hb := @bst_least key un row.length row rfl
  rw [h] at hb
  obtain ⟨j, e, u, _⟩ := hb
  exact ⟨List.mem_of_getElem? e, u⟩
structure Split (L : List (List Int)) (l : Lit) : Prop where
  lt : l.x < L.length
  sg : sgn l.s
  t : ∃ v ∈ at' L l.x, says l.s l.k v = true
  f : ∃ v ∈ at' L l.x, says l.s l.k v = false
theorem at_mem {L : List (List Int)} {x : Nat} (h : x < L.length) : at' L x ∈ L := by
  show L.getD x [] ∈ L
  rw [List.getD_eq_getElem?_getD, List.getElem?_eq_getElem h]; exact List.getElem_mem h
theorem lawLit_ok {o ch : Str} {dg : List Int} {row : List Nat} {L : List (List Int)} {l : Lit} (hL : Okl L) (h : lawLit o ch dg row L = some l) : Split L l ∧ l.x ∈ row := by
  unfold lawLit at h
  obtain ⟨y, hy, rfl⟩ := Option.map_eq_some_iff.mp h
  obtain ⟨h1, h2⟩ := bst_mem hy
  have h3 : 1 < (at' L y).length := by simpa using h2
  have hlt : y < L.length := by
    rcases Nat.lt_or_ge y L.length with q | q
    · exact q
    · have : at' L y = [] := by show L.getD y [] = []; rw [List.getD_eq_getElem?_getD, List.getElem?_eq_none q]; rfl
      rw [this] at h3; simp at h3
  obtain ⟨e, q⟩ := @two_parts ch y _ (hL.srt _ (at_mem hlt)) h3
  refine ⟨⟨by rw [e]; exact hlt, q.1, by rw [e]; exact q.2.1, by rw [e]; exact q.2.2⟩, by rw [e]; exact h1⟩
theorem litOf_ok {cf : Cfg} {L : List (List Int)} {l : Lit} (hL : Okl L) (h : litOf cf L = some l) : Split L l := by
  unfold litOf at h
  rcases Option.or_eq_some_iff.mp h with q | ⟨_, q⟩
  · exact (lawLit_ok hL q).1
  · exact (lawLit_ok hL q).1
theorem okl_sp {L : List (List Int)} {l : Lit} {side : Bool} (hL : Okl L) (h : Split L l) : Okl (sp L l side) := by
  have hm : at' L l.x ∈ L := at_mem h.lt
  constructor
  · intro S hS
    rcases List.mem_or_eq_of_mem_set hS with q | rfl
    · exact hL.srt S q
    · exact (hL.srt _ hm).filter _
  · intro S hS
    rcases List.mem_or_eq_of_mem_set hS with q | rfl
    · exact hL.ne S q
    · cases side with
      | true => obtain ⟨v, hv, q⟩ := h.t; exact List.ne_nil_of_mem (List.mem_filter.mpr ⟨hv, by rw [q]; rfl⟩)
      | false => obtain ⟨v, hv, q⟩ := h.f; exact List.ne_nil_of_mem (List.mem_filter.mpr ⟨hv, by rw [q]; rfl⟩)
theorem filter_lt {p : Int → Bool} : ∀ {S : List Int}, (∃ v ∈ S, p v = false) → (S.filter p).length < S.length
  | [], h => by obtain ⟨v, h, _⟩ := h; cases h
  | a :: S, ⟨v, hv, q⟩ => by
    have h1 := List.length_filter_le p S
    rw [List.filter_cons]
    split
    · rename_i pa
      rcases List.mem_cons.mp hv with rfl | hv
      · rw [pa] at q; cases q
      · have := filter_lt (S := S) ⟨v, hv, q⟩; rw [List.length_cons, List.length_cons]; omega
    · simp; omega
theorem tot_set : ∀ {L : List (List Int)} {x : Nat} {S : List Int}, x < L.length → tot (L.set x S) + (at' L x).length = tot L + S.length
  | [], x, S, h => by simp at h
  | A :: L, 0, S, _ => by simp [tot, at']; omega
  | A :: L, x + 1, S, h => by
    have := @tot_set L x S (by simpa using h)
    simp [tot, at'] at this ⊢
    omega
theorem tot_sp {L : List (List Int)} {l : Lit} {side : Bool} (h : Split L l) : tot (sp L l side) < tot L := by
  have h1 := @tot_set L l.x ((at' L l.x).filter fun v => says l.s l.k v == side) h.lt
  have h2 : ((at' L l.x).filter fun v => says l.s l.k v == side).length < (at' L l.x).length := by
    cases side with
    | true => obtain ⟨v, hv, q⟩ := h.f; exact filter_lt ⟨v, hv, by rw [q]; rfl⟩
    | false => obtain ⟨v, hv, q⟩ := h.t; exact filter_lt ⟨v, hv, by rw [q]; rfl⟩
  show tot (L.set _ _) < _
  omega
theorem T_leaf {cf : Cfg} {L : List (List Int)} (h : litOf cf L = none) : T cf L = ([heads L], 0) := by
  rw [T]; simp only [h]
theorem T_fork {cf : Cfg} {L : List (List Int)} {l : Lit} (hL : Okl L) (h : litOf cf L = some l) : T cf L = ((T cf (sp L l true)).1 ++ (T cf (sp L l false)).1, 1 + (T cf (sp L l true)).2 + (T cf (sp L l false)).2) := by
  have hs := litOf_ok hL h
  rw [T]; simp only [h]
  rw [dif_pos ⟨tot_sp hs, tot_sp hs⟩]
theorem T_bound {cf : Cfg} : ∀ (m : Nat) (L : List (List Int)), Okl L → tot L ≤ m → (T cf L).2 < 2 ^ m ∧ (T cf L).1.length ≤ 2 ^ m := by
  intro m
  induction m with
  | zero =>
    intro L hL h
    cases e : litOf cf L with
    | none => rw [T_leaf e]; simp
    | some l => have := tot_sp (side := true) (litOf_ok hL e); omega
  | succ m ih =>
    intro L hL h
    cases e : litOf cf L with
    | none => rw [T_leaf e]; exact ⟨Nat.two_pow_pos _, Nat.one_le_two_pow⟩
    | some l =>
      have hs := litOf_ok hL e
      have h1 := ih _ (okl_sp (side := true) hL hs) (by have := tot_sp (side := true) hs; omega)
      have h2 := ih _ (okl_sp (side := false) hL hs) (by have := tot_sp (side := false) hs; omega)
      rw [T_fork hL e, Nat.pow_succ]
      simp only [List.length_append]
      omega
end Mine
namespace Mine
open PySem PySem.W PySem.Calls PyProof.Rows
local macro_rules | `(tactic| k_memK) => `(tactic| repeat (first
  | with_reducible refine ev_name (by with_unfolding_all rfl) (by with_unfolding_all rfl) ?_
  | with_reducible refine ev_int ?_
  | with_reducible refine ev_str ?_
  | with_reducible refine ev_attr (fun _ => (by with_unfolding_all rfl)) ?_
  | with_reducible refine ev_subN (by with_unfolding_all rfl) ?_
  | with_reducible refine el_nil ?_
  | with_reducible refine el_cons ?_ (fun _ => (by with_unfolding_all rfl))
  | with_reducible refine ev_compare (by with_unfolding_all rfl) ?_
  | with_reducible refine ev_binop ?_
  | with_reducible refine ev_tuple ?_
  | with_reducible refine ev_unary ?_
  | with_reducible refine ev_bool ?_
  | with_reducible refine ev_none ?_
  | with_reducible refine ev_ifexp ?_
  | with_reducible refine ev_and ?_
  | with_reducible refine ev_or ?_
  | with_reducible refine ev_last ?_
  | with_reducible refine s_return ?_
  | with_reducible refine s_return_none ?_
  | with_reducible refine s_if ?_
  | with_reducible refine s_expr ?_ (by with_unfolding_all rfl) (fun _ => (by with_unfolding_all rfl))
  | with_reducible refine s_swap (fun _ => (by with_unfolding_all rfl)) (fun env h => by cases env; cases h; with_unfolding_all rfl) (by with_unfolding_all rfl) ?_
  | with_reducible refine s_assign ?_ (fun _ => (by with_unfolding_all rfl)) (fun _ _ => (by with_unfolding_all rfl)) (fun _ => (by with_unfolding_all rfl))
  | with_reducible refine s_assign ?_ (fun _ => (by with_unfolding_all rfl)) (fun env h => by cases env; cases h; with_unfolding_all rfl) (fun _ => (by with_unfolding_all rfl))
  | with_reducible refine xs_nil ?_
  | with_reducible refine t_not ?_
  | with_reducible refine t_compare (by with_unfolding_all rfl) ?_
  | with_reducible refine t_boolop ?_
  | with_reducible refine t_value ?_ (fun _ _ => (by with_unfolding_all rfl))
  | with_reducible refine ts_and_nil ?_
  | with_reducible refine ts_or_nil ?_
  | with_reducible refine ts_and ?_
  | with_reducible refine ts_or ?_
  | with_reducible refine as_itemS (fun _ _ => (by with_unfolding_all rfl)) ?_
  | with_reducible refine as_tuple (by with_unfolding_all rfl) (fun _ => (by with_unfolding_all rfl)) (fun _ => (by with_unfolding_all rfl)) ?_
  | with_reducible refine al_nil ?_
  | with_reducible refine al_cons ?_ (fun _ => (by with_unfolding_all rfl))
  | with_reducible refine as_name (by with_unfolding_all rfl) ?_
  | with_reducible refine tru_bool ?_
  | with_reducible refine op_add ?_
  | with_reducible refine op_sub ?_
  | with_reducible refine cm_lt ?_
  | with_reducible refine cm_le ?_
  | with_reducible refine cm_gt ?_
  | with_reducible refine cm_ge ?_
  | with_reducible refine cm_eq ?_
  | with_reducible refine cm_ne ?_
  | with_reducible refine cm_eqs ?_
  | with_reducible refine op_neg ?_
  | with_reducible refine cm_is ?_
  | with_reducible refine cm_isnot ?_
  | with_reducible refine sub_tup (by assumption) (by omega) ?_ (fun _ _ => (by with_unfolding_all rfl))
  | with_reducible refine sub_lst (by assumption) (by omega) ?_ (fun _ _ => (by with_unfolding_all rfl))
  | with_reducible refine sub_ref (by assumption) (by assumption) (by omega) ?_ (fun _ _ => (by with_unfolding_all rfl))
  | with_reducible refine sub_tup (by with_unfolding_all rfl) (by decide) ?_ (fun _ _ => (by with_unfolding_all rfl))
  | with_reducible refine sub_lst (by with_unfolding_all rfl) (by decide) ?_ (fun _ _ => (by with_unfolding_all rfl))
  | with_reducible refine c_max ?_
  | with_reducible refine c_min ?_
  | with_reducible refine c_range1 ?_
  | with_reducible refine c_range2 ?_
  | with_reducible refine m_append (fun _ => (by with_unfolding_all rfl)) (by with_unfolding_all rfl) (fun _ => (by with_unfolding_all rfl)) (fun _ => (by with_unfolding_all rfl)) (fun _ => ⟨_, _, (by with_unfolding_all rfl)⟩) ?_ (fun _ => (by with_unfolding_all rfl))
  | with_reducible refine m_extend (fun _ => (by with_unfolding_all rfl)) (by with_unfolding_all rfl) (fun _ => (by with_unfolding_all rfl)) (fun _ => (by with_unfolding_all rfl)) (fun _ => ⟨_, _, (by with_unfolding_all rfl)⟩) ?_ (fun _ => (by with_unfolding_all rfl))
  | with_reducible refine g_call bLen (by with_unfolding_all rfl) (fun _ => (by with_unfolding_all rfl)) (fun _ => ⟨_, _, (by with_unfolding_all rfl)⟩) (keeps_builtin _) ?_
  | with_reducible refine g_call bRange (by with_unfolding_all rfl) (fun _ => (by with_unfolding_all rfl)) (fun _ => ⟨_, _, (by with_unfolding_all rfl)⟩) (keeps_type _) ?_
  | with_reducible refine g_call bTuple (by with_unfolding_all rfl) (fun _ => (by with_unfolding_all rfl)) (fun _ => ⟨_, _, (by with_unfolding_all rfl)⟩) (keeps_type _) ?_
  | with_reducible refine g_call bList (by with_unfolding_all rfl) (fun _ => (by with_unfolding_all rfl)) (fun _ => ⟨_, _, (by with_unfolding_all rfl)⟩) (keeps_type _) ?_
  | with_reducible refine g_call bAbs (by with_unfolding_all rfl) (fun _ => (by with_unfolding_all rfl)) (fun _ => ⟨_, _, (by with_unfolding_all rfl)⟩) (keeps_builtin _) ?_
  | with_reducible refine g_call bMax (by with_unfolding_all rfl) (fun _ => (by with_unfolding_all rfl)) (fun _ => ⟨_, _, (by with_unfolding_all rfl)⟩) (keeps_builtin _) ?_
  | with_reducible refine g_call bMin (by with_unfolding_all rfl) (fun _ => (by with_unfolding_all rfl)) (fun _ => ⟨_, _, (by with_unfolding_all rfl)⟩) (keeps_builtin _) ?_
  | with_reducible refine g_call bSum (by with_unfolding_all rfl) (fun _ => (by with_unfolding_all rfl)) (fun _ => ⟨_, _, (by with_unfolding_all rfl)⟩) (keeps_builtin _) ?_
  | with_reducible refine g_call bSorted (by with_unfolding_all rfl) (fun _ => (by with_unfolding_all rfl)) (fun _ => ⟨_, _, (by with_unfolding_all rfl)⟩) (keeps_builtin _) ?_
  | with_reducible refine g_call bEnumerate (by with_unfolding_all rfl) (fun _ => (by with_unfolding_all rfl)) (fun _ => ⟨_, _, (by with_unfolding_all rfl)⟩) (keeps_type _) ?_
  | with_reducible refine g_call (kOwn (by with_unfolding_all rfl)) (by with_unfolding_all rfl) (fun _ => (by with_unfolding_all rfl)) (fun _ => ⟨_, _, (by with_unfolding_all rfl)⟩) (kKeep (by kernel_rfl)) ?_
  | with_reducible refine g_attrU (by with_unfolding_all rfl) (by kernel_rfl) ?_
  | with_reducible refine attr_setU (by kernel_rfl) (Nat.le_of_ble_eq_true (by with_unfolding_all rfl)) ?_
  | with_reducible refine op_not ?_
  | with_reducible refine g_attr (by assumption) (by with_unfolding_all rfl) (by kernel_rfl) ?_
  | with_reducible refine as_attrS ?_
  | with_reducible refine attr_set (by assumption) (by kernel_rfl) (Nat.le_of_ble_eq_true (by with_unfolding_all rfl)) ?_
  | with_reducible refine m_pop (fun _ => (by with_unfolding_all rfl)) (by with_unfolding_all rfl) (fun _ => (by with_unfolding_all rfl)) ?_
  | with_reducible refine m_get (fun _ => (by with_unfolding_all rfl)) (by with_unfolding_all rfl) (fun _ => (by with_unfolding_all rfl)) (fun _ => (by with_unfolding_all rfl)) (fun _ => ⟨_, _, (by with_unfolding_all rfl)⟩) ?_
  | with_reducible refine m_setdefault (fun _ => (by with_unfolding_all rfl)) (by with_unfolding_all rfl) (fun _ => (by with_unfolding_all rfl)) (fun _ => (by with_unfolding_all rfl)) (fun _ => ⟨_, _, (by with_unfolding_all rfl)⟩) ?_
  | with_reducible refine ev_meth0 (fun _ => (by with_unfolding_all rfl)) (by with_unfolding_all rfl) (fun _ => (by with_unfolding_all rfl)) ?_
  | with_reducible refine ev_meth1 (fun _ => (by with_unfolding_all rfl)) (by with_unfolding_all rfl) (fun _ => (by with_unfolding_all rfl)) (fun _ => (by with_unfolding_all rfl)) (fun _ => ⟨_, _, (by with_unfolding_all rfl)⟩) ?_
  | with_reducible refine umeth (by assumption) (by with_unfolding_all rfl) (by with_unfolding_all rfl) (by kernel_rfl) (by kernel_rfl) ?_
  | with_reducible refine g_call0 (kOwn (by with_unfolding_all rfl)) (by with_unfolding_all rfl) (kKeep (by kernel_rfl)) ?_))

local macro_rules | `(tactic| k_ownIn) => `(tactic| repeat (first
  | with_reducible exact capt_nil
  | with_reducible refine capt_cons (by with_unfolding_all rfl) (by with_unfolding_all rfl) ?_
  | with_reducible exact wk_refl
  | with_reducible exact Wk.nil
  | with_reducible refine Wk.cons (by with_unfolding_all rfl) ?_
  | with_reducible refine wk_set (by with_unfolding_all rfl) ?_))
-- part H2
structure Doms (ds : List Dom) : Prop where
  ok : ∀ D ∈ ds, Okd D ∧ D ≠ []
  n : ds.length ≤ 3
  w : ∀ D ∈ ds, (vals D).length ≤ 100
abbrev lists (ds : List Dom) : List (List Int) := ds.map vals
theorem Doms.at {ds : List Dom} (H : Doms ds) {x : Nat} (h : x < ds.length) : ∃ D, ds[x]? = some D ∧ Okd D ∧ D ≠ [] ∧ at' (lists ds) x = vals D ∧ (vals D).length ≤ 100 := by
  have hm := List.getElem_mem h
  refine ⟨ds[x], List.getElem?_eq_getElem h, (H.ok _ hm).1, (H.ok _ hm).2, ?_, H.w _ hm⟩
  show (ds.map vals).getD x [] = _
  rw [List.getD_eq_getElem?_getD, List.getElem?_map, List.getElem?_eq_getElem h]; rfl
theorem Doms.okl {ds : List Dom} (H : Doms ds) : Okl (lists ds) := by
  constructor
  · intro S hS; obtain ⟨D, hD, rfl⟩ := List.mem_map.mp hS; exact vals_srt (H.ok D hD).1
  · intro S hS; obtain ⟨D, hD, rfl⟩ := List.mem_map.mp hS; exact fun e => (H.ok D hD).2 ((vals_ne (H.ok D hD).1).mp e)
theorem kB_two {o : Str} {S : List Int} {d : Int} : ∃ a b, kB o S d = [a, b] := by
  unfold kB
  split
  · exact ⟨_, _, rfl⟩
  split
  · exact ⟨_, _, rfl⟩
  split
  · exact ⟨_, _, rfl⟩
  split
  · exact ⟨_, _, rfl⟩
  · exact ⟨_, _, rfl⟩

section
variable {c : Cx} [hK : IsK c] {n : Nat} {σ : Sg} {Q : V → Sg → Prop} {l b bd : Addr} {a : StA} {S : StS}
theorem sl_low (H : Has σ l a S) (D : Doms S.ds) {x : Nat} (hx : x < S.ds.length) (h : Q (.int ((at' (lists S.ds) x).headD 0)) σ) : CallV c (n + 2) (.ref 557) [.inst 658 l, .int x] σ Q := by
  obtain ⟨E, h1, h2, h3, h4, h5⟩ := D.at hx
  cases E with
  | nil => exact absurd rfl h3
  | cons p E =>
    obtain ⟨r, e⟩ := okd_cons h2
    rw [h4, e] at h
    exact st_low H (by have := D.n; omega) h1 h
theorem sl_value (H : Has σ l a S) (D : Doms S.ds) {x : Nat} (hx : x < S.ds.length) (h : Q (.int ((at' (lists S.ds) x).headD 0)) σ) : CallV c (n + 1) (.ref 585) [.inst 658 l, .int x] σ Q := by
  obtain ⟨E, h1, h2, h3, h4, h5⟩ := D.at hx
  cases E with
  | nil => exact absurd rfl h3
  | cons p E =>
    obtain ⟨r, e⟩ := okd_cons h2
    rw [h4, e] at h
    exact st_value H (by have := D.n; omega) h1 h
theorem sl_high (H : Has σ l a S) (D : Doms S.ds) {x : Nat} (hx : x < S.ds.length) (h : Q (.int ((at' (lists S.ds) x).getLastD 0)) σ) : CallV c (n + 2) (.ref 564) [.inst 658 l, .int x] σ Q := by
  obtain ⟨E, h1, h2, h3, h4, h5⟩ := D.at hx
  rcases List.eq_nil_or_concat E with rfl | ⟨E, p, rfl⟩
  · exact absurd rfl h3
  · rw [List.concat_eq_append] at *
    obtain ⟨r, e⟩ := okd_last h2
    rw [h4, e, List.getLastD_concat] at h
    have := len_le h2
    exact st_high H (by have := D.n; omega) (by simp at this; omega) h1 h
theorem sl_width (H : Has σ l a S) (D : Doms S.ds) {x : Nat} (hx : x < S.ds.length) (h : Q (.int (at' (lists S.ds) x).length) σ) : CallV c (n + 2) (.ref 592) [.inst 658 l, .int x] σ Q := by
  obtain ⟨E, h1, h2, h3, h4, h5⟩ := D.at hx
  have := len_le h2
  rw [h4, ← width_is h2] at h
  exact st_width H (by have := D.n; omega) (by omega) h1 h
theorem sl_dom (H : Has σ l a S) (D : Doms S.ds) {x : Nat} (hx : x < S.ds.length) (h : ∀ E, Okd E → at' (lists S.ds) x = vals E → (vals E).length ≤ 100 → Q (dv E) σ) : CallV c (n + 1) (.ref 543) [.inst 658 l, .int x] σ Q := by
  obtain ⟨E, h1, h2, h3, h4, h5⟩ := D.at hx
  exact st_dom H (by have := D.n; omega) h1 (h E h2 h4 h5)
theorem sl_is_fixed (H : Has σ l a S) (D : Doms S.ds) {x : Nat} (hx : x < S.ds.length) (h : Q (.bool (!open' (lists S.ds) x)) σ) : CallV c (n + 1) (.ref 578) [.inst 658 l, .int x] σ Q := by
  obtain ⟨E, h1, h2, h3, h4, h5⟩ := D.at hx
  cases E with
  | nil => exact absurd rfl h3
  | cons p E =>
    refine st_is_fixed H (by have := D.n; omega) h1 ?_
    have e : fixed (p :: E) = !open' (lists S.ds) x := by
      rw [fixed_is h2]
      unfold open'
      rw [h4]
      obtain ⟨r, e⟩ := okd_cons h2
      rw [e]
      rw [Bool.eq_iff_iff]
      simp
    rw [e]; exact h

abbrev nV (row : List Nat) : List V := row.map fun (x : Nat) => V.int x
abbrev brF (cf : Cfg) (bd : Addr) : List (Str × V) := [("some", .tup (nV cf.row)), ("order", .str cf.o), ("choice", .str cf.ch), ("degrees", .ref bd)]
structure HasB (σ : Sg) (b bd : Addr) (cf : Cfg) (es : List (Int × V)) : Prop where
  o : σ b = some (.ns 12 (brF cf bd))
  d : σ bd = some (.idict 11 es)
theorem HasB.kp {σ σ' : Sg} {b bd : Addr} {cf : Cfg} {es : List (Int × V)} {lo hi : Nat} (H : HasB σ b bd cf es) (k : Kp lo hi σ σ') (h : hi ≤ 10 ∨ 13 ≤ lo := by decide) : HasB σ' b bd cf es :=
  ⟨k _ _ H.o (by simp only [AO.tag]; omega), k _ _ H.d (by simp only [AO.tag]; omega)⟩
def DegOk (cf : Cfg) (es : List (Int × V)) : Prop := cf.o = "most_constrained" → ∀ x ∈ cf.row, look es (x : Int) = some (.int (cf.dg.getD x 0))
theorem br_rank {cf : Cfg} {es : List (Int × V)} (HS : Has σ l a S) (D : Doms S.ds) (H : HasB σ b bd cf es) (hd : DegOk cf es) {x : Nat} (hx : x < S.ds.length) (hr : x ∈ cf.row)
    (h : Q (.tup (numV (kB cf.o (at' (lists S.ds) x) (cf.dg.getD x 0)))) σ) : CallV c (n + 3) (.ref 362) [.inst 379 b, .inst 658 l, .int x] σ Q := by
  have ho := H.o
  have hs := HS.o
  refine kCall (names := ["self", "store", "x"]) (by kernel_rfl) (by kernel_rfl) (by intro xs h; match xs, h with | [x0, x1, x2], _ => rfl) (by conv => lhs; whnf) (by conv => lhs; whnf) rfl ?_
  unfold kB at h
  k_memK
  refine ⟨fun hq => ?_, fun hq => ?_⟩
  · rw [if_pos (by simpa using hq)] at h
    k_memK
    refine sl_width HS D hx ?_
    k_memK
    exact ⟨by show 2 ≤ big; decide, h⟩
  rw [if_neg (by simpa using hq)] at h
  k_memK
  refine ⟨fun hq => ?_, fun hq => ?_⟩
  · rw [if_pos (by simpa using hq)] at h
    k_memK
    refine sl_low HS D hx ?_
    k_memK
    exact ⟨by show 2 ≤ big; decide, h⟩
  rw [if_neg (by simpa using hq)] at h
  k_memK
  refine ⟨fun hq => ?_, fun hq => ?_⟩
  · rw [if_pos (by simpa using hq)] at h
    k_memK
    refine sl_high HS D hx ?_
    k_memK
    exact ⟨by show 2 ≤ big; decide, h⟩
  rw [if_neg (by simpa using hq)] at h
  k_memK
  refine ⟨fun hq => ?_, fun hq => ?_⟩
  · rw [if_pos (by simpa using hq)] at h
    have hdx := hd (by simpa using hq) x hr
    k_memK
    refine sl_width HS D hx ?_
    k_memK
    refine ⟨_, _, _, rfl, H.d, ?_⟩
    k_memK
    refine ⟨_, _, _, _, rfl, H.d, ?_⟩
    rw [hdx]
    change Op1 _ _ _ (V.int (cf.dg.getD x 0)) _ _
    k_memK
    exact ⟨by show 2 ≤ big; decide, h⟩
  · rw [if_neg (by simpa using hq)] at h
    k_memK
    exact ⟨by show 2 ≤ big; decide, h⟩
end
-- part H3
section
variable {c : Cx} [hK : IsK c] {n : Nat} {σ : Sg} {Q : V → Sg → Prop} {l b bd : Addr} {a : StA} {S : StS}
def bI : Option Nat → Int
  | none => -1
  | some y => y
def bR (key : Nat → List Int) : Option Nat → List Int
  | none => [0, 0]
  | some y => key y
abbrev keyB (cf : Cfg) (L : List (List Int)) (x : Nat) : List Int := kB cf.o (at' L x) (cf.dg.getD x 0)
theorem bR_two {cf : Cfg} {L : List (List Int)} (o : Option Nat) : ∃ a b, bR (keyB cf L) o = [a, b] := by
  cases o with
  | none => exact ⟨0, 0, rfl⟩
  | some y => exact kB_two
theorem HasB.new {b2 : Addr} {o : AO} {cf : Cfg} {es : List (Int × V)} (H : HasB σ b bd cf es) (hb : σ b2 = none) : HasB (upd σ b2 o) b bd cf es :=
  ⟨upd_ne (ne_of_none H.o hb) H.o, upd_ne (ne_of_none H.d hb) H.d⟩
theorem cm_ltL {X Y : List Int} (hx : ∃ a b, X = [a, b]) (hy : ∃ a b, Y = [a, b]) (h : Q (.bool (ilt X Y)) σ) : Op2 c n (compareOp .Lt) (.tup (numV X)) (.tup (numV Y)) σ Q := by
  obtain ⟨a, b, rfl⟩ := hx
  obtain ⟨p, q, rfl⟩ := hy
  exact cm_lt2 h
theorem br_next_var {cf : Cfg} {es : List (Int × V)} (HS : Has σ l a S) (D : Doms S.ds) (H : HasB σ b bd cf es) (hd : DegOk cf es) (hr : ∀ x ∈ cf.row, x < S.ds.length) (h3 : cf.row.length ≤ 3)
    (h : Q (.int (bI (bst (keyB cf (lists S.ds)) (open' (lists S.ds)) cf.row))) σ) : CallV c (n + 4) (.ref 369) [.inst 379 b, .inst 658 l] σ Q := by
  have ho := H.o
  refine kCall (names := ["self", "store"]) (by kernel_rfl) (by kernel_rfl) (by intro xs h; match xs, h with | [x0, x1], _ => rfl) (by conv => lhs; whnf) (by conv => lhs; whnf) rfl ?_
  k_memK
  refine ⟨Nat.le_of_ble_eq_true (by with_unfolding_all rfl), ?_⟩
  k_memK
  refine ⟨Nat.le_of_ble_eq_true (by with_unfolding_all rfl), ?_⟩
  k_memK
  show ExS _ _ _ _ _ _ _ _
  refine s_for (fun vs ρ' σ' => ∃ E F, cf.row = E ++ F ∧ vs = nV F ∧ ρ' = ([("self", .inst 379 b), ("store", .inst 658 l), ("best", .int (bI (bst (keyB cf (lists S.ds)) (open' (lists S.ds)) E))), ("rank", .tup (numV (bR (keyB cf (lists S.ds)) (bst (keyB cf (lists S.ds)) (open' (lists S.ds)) E))))] : Rho) ∧ σ' = σ) (fun _ _ => rfl) ?_ ?_ ?_
  · k_memK
    exact it_tup fun b2 hb2 => ⟨_, _, _, hb2, rfl, (by k_ownIn : Wk [("self", .inst 379 b), ("store", .inst 658 l), ("best", .int (-1)), ("rank", .tup [.int 0, .int 0])] _), [], cf.row, rfl, rfl, rfl, rfl⟩
  · rintro v vs ρ' σ' b2 ⟨E, F, hEF, hvs, rfl, rfl⟩ hb2
    cases F with
    | nil => cases hvs
    | cons x F =>
      simp only [nV, List.map_cons, List.cons.injEq] at hvs
      obtain ⟨rfl, rfl⟩ := hvs
      have hxr : x ∈ cf.row := by rw [hEF]; simp
      have hx := hr x hxr
      have HS2 := has_new (o := .iter (nV F)) HS hb2
      have H2 := H.new (o := .iter (nV F)) hb2
      have hs := HS2.o
      have ho2 := H2.o
      have hsn := @bst_snoc (keyB cf (lists S.ds)) (open' (lists S.ds)) E x
      k_memK
      refine sl_is_fixed HS2 D hx ?_
      k_memK
      rw [Bool.not_not]
      refine ⟨fun hq => ?_, fun hq => ?_⟩
      · rw [if_pos hq] at hsn
        k_memK
        refine br_rank HS2 D H2 hd hx hxr ?_
        k_memK
        have fin : ∀ ρ'', Wk [("self", .inst 379 b), ("store", .inst 658 l), ("best", .int (bI (bst (keyB cf (lists S.ds)) (open' (lists S.ds)) (E ++ [x])))), ("rank", .tup (numV (bR (keyB cf (lists S.ds)) (bst (keyB cf (lists S.ds)) (open' (lists S.ds)) (E ++ [x])))))] ρ'' → ∃ ρ' σ'', upd σ' b2 (.iter (nV F)) = upd σ'' b2 (.iter (nV F)) ∧ σ'' b2 = none ∧ Wk ρ' ρ'' ∧ ∃ E' F', cf.row = E' ++ F' ∧ nV F = nV F' ∧ ρ' = ([("self", .inst 379 b), ("store", .inst 658 l), ("best", .int (bI (bst (keyB cf (lists S.ds)) (open' (lists S.ds)) E'))), ("rank", .tup (numV (bR (keyB cf (lists S.ds)) (bst (keyB cf (lists S.ds)) (open' (lists S.ds)) E'))))] : Rho) ∧ σ'' = σ' :=
          fun ρ'' w => ⟨_, _, rfl, hb2, w, E ++ [x], F, by rw [hEF]; simp, rfl, rfl, rfl⟩
        cases hb : bst (keyB cf (lists S.ds)) (open' (lists S.ds)) E with
        | none =>
          rw [hb] at hsn
          refine ⟨fun _ => ?_, fun q => (nomatch q)⟩
          refine ⟨fun _ => ?_, fun q => (nomatch q)⟩
          k_memK
          refine ⟨Nat.le_of_ble_eq_true (by with_unfolding_all rfl), _, rfl, rfl, ?_⟩
          k_memK
          refine fin _ ?_
          rw [hsn]
          k_ownIn
        | some y =>
          rw [hb] at hsn
          refine ⟨fun q => by have : ¬ ((y : Int) < 0) := by omega
                              exact absurd (of_decide_eq_true q) this, fun _ => ?_⟩
          k_memK
          refine cm_ltL kB_two (bR_two (some y)) ?_
          k_memK
          dsimp only at hsn
          refine ⟨fun hz => ?_, fun hz => ?_⟩
          · refine ⟨fun _ => ?_, fun q => (nomatch q)⟩
            rw [if_pos (show ilt (keyB cf (lists S.ds) x) (keyB cf (lists S.ds) y) = true from hz)] at hsn
            k_memK
            refine ⟨Nat.le_of_ble_eq_true (by with_unfolding_all rfl), _, rfl, rfl, ?_⟩
            k_memK
            refine fin _ ?_
            rw [hsn]
            k_ownIn
          · k_memK
            refine ⟨fun q => (nomatch q), fun _ => ?_⟩
            rw [if_neg (by rw [show ilt (keyB cf (lists S.ds) x) (keyB cf (lists S.ds) y) = false from hz]; exact fun z => nomatch z)] at hsn
            k_memK
            refine fin _ ?_
            rw [hsn]
            k_ownIn
      · rw [if_neg (by rw [hq]; exact fun z => nomatch z)] at hsn
        k_memK
        refine ⟨_, _, rfl, hb2, ?_, E ++ [x], F, by rw [hEF]; simp, rfl, rfl, rfl⟩
        rw [hsn]
        k_ownIn
  · rintro ρ' σ' ⟨E, F, hEF, hvs, rfl, rfl⟩
    cases F with
    | cons p F => cases hvs
    | nil =>
      rw [List.append_nil] at hEF
      subst hEF
      k_memK
      exact h
theorem pylong2 {a : Int} : Builtin.divisionGoesByPylong a 2 = false := by
  unfold Builtin.divisionGoesByPylong
  rw [Bool.and_eq_false_iff]
  exact .inl (by decide)
abbrev oV : Option Lit → V
  | none => .none
  | some l => lV l
theorem lawLit_B {cf : Cfg} {L : List (List Int)} : lawLit cf.o cf.ch cf.dg cf.row L = (bst (keyB cf L) (open' L) cf.row).map fun x => litAt cf.ch x (at' L x) := by
  unfold lawLit
  rw [bst_congr (key := fun x => kL cf.o (at' L x) (cf.dg.getD x 0)) (key' := keyB cf L) fun x y => kLB]
theorem br_choose {cf : Cfg} {es : List (Int × V)} (HS : Has σ l a S) (D : Doms S.ds) (H : HasB σ b bd cf es) (hd : DegOk cf es) (hr : ∀ x ∈ cf.row, x < S.ds.length) (h3 : cf.row.length ≤ 3)
    (h : ∀ σ', (∀ a, σ a ≠ none → σ' a = σ a) → Q (oV (lawLit cf.o cf.ch cf.dg cf.row (lists S.ds))) σ') : CallV c (n + 5) (.ref 376) [.inst 379 b, .inst 658 l] σ Q := by
  have ho := H.o
  have hs := HS.o
  rw [lawLit_B] at h
  refine kCall (names := ["self", "store"]) (by kernel_rfl) (by kernel_rfl) (by intro xs h; match xs, h with | [x0, x1], _ => rfl) (by conv => lhs; whnf) (by conv => lhs; whnf) rfl ?_
  k_memK
  refine br_next_var HS D H hd hr h3 ?_
  k_memK
  cases hb : bst (keyB cf (lists S.ds)) (open' (lists S.ds)) cf.row with
  | none =>
    rw [hb] at h
    refine ⟨fun _ => ?_, fun q => (nomatch q)⟩
    k_memK
    exact h σ fun _ _ => rfl
  | some x =>
    rw [hb] at h
    obtain ⟨hxr, hun⟩ := bst_mem hb
    have hx := hr x hxr
    refine ⟨fun q => by have : ¬ ((x : Int) < 0) := by omega
                        exact absurd (of_decide_eq_true q) this, fun _ => ?_⟩
    change ∀ σ', _ → Q (lV (litAt cf.ch x (at' (lists S.ds) x))) σ' at h
    unfold litAt at h
    k_memK
    refine ⟨fun hq => ?_, fun hq => ?_⟩
    · have hq' : cf.ch = "max" := by simpa using hq
      rw [if_neg (by rw [hq']; decide), if_pos hq'] at h
      k_memK
      refine sl_high HS D hx ?_
      k_memK
      exact ⟨Nat.le_of_ble_eq_true (by with_unfolding_all rfl), h σ fun _ _ => rfl⟩
    k_memK
    refine ⟨fun hq2 => ?_, fun hq2 => ?_⟩
    · have hq' : cf.ch = "median" := by simpa using hq2
      rw [if_pos hq'] at h
      k_memK
      refine sl_dom HS D hx fun E hE hat hlen => ?_
      k_memK
      refine f_values (by have := len_le hE; omega) (fun p hp => by have := hE.sm p hp; have := hE.le p hp; omega) (by omega) fun va hva => ?_
      have HS2 := has_new (o := .list 0 (numV (vals E))) HS hva
      have hv2 : upd σ va (.list 0 (numV (vals E))) va = some (.list 0 (numV (vals E))) := upd_same
      have hk : ∀ a, σ a ≠ none → upd σ va (.list 0 (numV (vals E))) a = σ a := fun a ha => upd_ne (fun e => ha (e ▸ hva)) rfl
      generalize upd σ va (.list 0 (numV (vals E))) = σ2 at HS2 hv2 hk
      have hs2 := HS2.o
      k_memK
      refine sl_width HS2 D hx ?_
      k_memK
      refine op_fdiv (by decide) pylong2 ?_
      have hun' : 1 < (vals E).length := by rw [← hat]; simpa using hun
      have e1 : (((at' (lists S.ds) x).length : Int) - 1).fdiv 2 = (((at' (lists S.ds) x).length - 1) / 2 : Nat) := by
        rw [hat, Int.fdiv_eq_ediv_of_nonneg _ (by decide)]; omega
      rw [e1]
      refine sub_ref hv2 (v := .int ((at' (lists S.ds) x).getD (((at' (lists S.ds) x).length - 1) / 2) 0)) ?_ ?_ ?_ (fun _ _ => by with_unfolding_all rfl)
      · rw [hat]
        refine idx_nat ?_
        have hm : ((vals E).length - 1) / 2 < (vals E).length := by omega
        rw [List.getD_eq_getElem?_getD, List.getElem?_eq_getElem hm]
        unfold numV
        rw [List.getElem?_map, List.getElem?_eq_getElem hm]; rfl
      · rw [hat]; omega
      k_memK
      exact ⟨Nat.le_of_ble_eq_true (by with_unfolding_all rfl), h σ2 hk⟩
    have n1 : ¬ cf.ch = "max" := by simpa using hq
    have n2 : ¬ cf.ch = "median" := by simpa using hq2
    rw [if_neg n2, if_neg n1] at h
    k_memK
    refine ⟨fun hq3 => ?_, fun hq3 => ?_⟩
    · rw [if_pos (by simpa using hq3)] at h
      k_memK
      refine sl_low HS D hx ?_
      k_memK
      refine sl_high HS D hx ?_
      k_memK
      refine op_fdiv (by decide) pylong2 ?_
      k_memK
      exact ⟨Nat.le_of_ble_eq_true (by with_unfolding_all rfl), h σ fun _ _ => rfl⟩
    · rw [if_neg (by simpa using hq3)] at h
      k_memK
      refine sl_low HS D hx ?_
      k_memK
      exact ⟨Nat.le_of_ble_eq_true (by with_unfolding_all rfl), h σ fun _ _ => rfl⟩
end
end Mine
-- part H4
namespace Mine
open PySem PySem.W PySem.Calls PyProof.Rows
section
variable {c : Cx} {n : Nat} {sc : Scope} {ρ : Rho} {σ : Sg} {Q : V → Sg → Prop}
theorem giter_step {elt target : Expr} {ifs : List Expr} {scope : Scope} (ρc : Rho) {l : Addr} {t : Nat} (vs : List V) (f : V → Option V) (hb : vs.length ≤ big) (hl : σ l = some (.list t vs)) {Fn : Addr → List V → Sg → Prop}
    (step : ∀ σ', (∀ x, σ x ≠ none → σ' x = σ x) → ∀ v ∈ vs, CT c n (relS scope sc) ρc σ' target v fun ρ₁ σ₁ => σ₁ = σ' ∧ (∀ x v, ρc.lookup x = some v → ρ₁.lookup x = some v) ∧ EvIfs c n (relS scope sc) ρ₁ σ' ifs fun b σ₂ => σ₂ = σ' ∧
      (b = true → EvE c n (relS scope sc) ρ₁ σ' elt fun u σ₃ => σ₃ = σ' ∧ f v = some u) ∧ (b = false → f v = none))
    (fin : ∀ a D σ', σ a = none → σ D = none → a ≠ D → σ' = upd σ D (.acc (vs.filterMap f)) → Fn D (vs.filterMap f) σ') :
    CompStep c n sc ρc scope target ifs elt (fun a D m acc σ' => ∃ i, i ≤ vs.length ∧ m = vs.length - i ∧ acc = (vs.take i).filterMap f ∧ σ a = none ∧ σ D = none ∧ a ≠ D ∧ σ' = upd (upd σ a (.giter l i)) D (.acc acc)) Fn := by
  rintro a D m acc σ' ⟨i, hi, rfl, rfl, ha, hD, hne, rfl⟩ hacc
  have hat : ∀ {acc}, (upd (upd σ a (.giter l i)) D (.acc acc)) a = some (.giter l i) := upd_ne hne upd_same
  have hla : l ≠ a := ne_of_none hl ha
  have hlD : l ≠ D := ne_of_none hl hD
  have hlt : ∀ {acc}, (upd (upd σ a (.giter l i)) D (.acc acc)) l = some (.list t vs) := upd_ne hlD (upd_ne hla hl)
  cases hv : vs[i]? with
  | none =>
    have hi' : vs.length ≤ i := List.getElem?_eq_none_iff.mp hv
    have e0 : vs.take i = vs := List.take_of_length_le hi'
    rw [e0]
    have e : del (upd (upd σ a (.giter l i)) D (.acc (List.filterMap f vs))) a = upd σ D (.acc (List.filterMap f vs)) := by
      rw [upd_comm hne, del_upd (upd_ne hne ha)]
    refine ⟨none, _, gnext_none hat hlt hv, ?_, fin a D _ ha hD hne e⟩
    rw [e]; exact upd_same
  | some v =>
    have hi' : i < vs.length := by
      rcases Nat.lt_or_ge i vs.length with q | q
      · exact q
      · rw [List.getElem?_eq_none q] at hv; cases hv
    have e : upd (upd (upd σ a (.giter l i)) D (.acc ((vs.take i).filterMap f))) a (.giter l (i + 1)) = upd (upd σ a (.giter l (i + 1))) D (.acc ((vs.take i).filterMap f)) := by
      rw [upd_comm hne, upd_upd, upd_comm (Ne.symm hne)]
    have etk : vs.take (i + 1) = vs.take i ++ [v] := by rw [List.take_succ, hv]; rfl
    refine ⟨some v, _, gnext_some hat hlt hv, ?_, ?_⟩
    · rw [e]; exact upd_same
    · rw [e]
      have hlen : ((vs.take i).filterMap f).length < big := by
        have h1 := List.length_filterMap_le f (vs.take i)
        have h2 := List.length_take_le i vs
        omega
      refine (step _ (fun x hx => ?_) v (List.mem_of_getElem? hv)).mono fun ρ₁ σ₁ ⟨e1, wk, hi2⟩ => ?_
      · have h1 : x ≠ a := by rintro rfl; exact hx ha
        have h2 : x ≠ D := by rintro rfl; exact hx hD
        exact upd_ne h2 (upd_ne h1 rfl)
      · subst e1
        refine ⟨wk, hi2.mono fun b σ₂ ⟨e2, h1, h2⟩ => ?_⟩
        subst e2
        refine ⟨fun hb => ev_mono (h1 hb) fun u σ₃ ⟨e3, hu⟩ => ?_, fun hb => ⟨upd_same, vs.length - (i + 1), by omega, i + 1, hi', rfl, ?_, ha, hD, hne, ?_⟩⟩
        · subst e3
          refine ⟨upd_same, hlen, vs.length - (i + 1), by omega, i + 1, hi', rfl, ?_, ha, hD, hne, ?_⟩
          · rw [etk, List.filterMap_append]; simp [hu]
          · rw [upd_upd]
        · rw [etk, List.filterMap_append]; simp [h2 hb]
        · rfl
theorem ev_mcompR {elt target iter : Expr} {ifs : List Expr} {scope : Scope} {pos : Pos} (tg : Nat) (ρc : Rho) {l : Addr} {t : Nat} (vs : List V) (f : V → Option V) (hb : vs.length ≤ big) (hok : compOk scope sc = true) (hcap : Capt scope sc ρ ρc)
    (hs : ∀ env x, foldedSetIterable iter env x = pure x)
    (h0 : EvE c n sc ρ σ iter fun v σ₁ => v = .ref l ∧ σ₁ = σ) (hl : σ l = some (.list t vs))
    (step : ∀ σ', (∀ x, σ x ≠ none → σ' x = σ x) → ∀ v ∈ vs, CT c n (relS scope sc) ρc σ' target v fun ρ₁ σ₁ => σ₁ = σ' ∧ (∀ x v, ρc.lookup x = some v → ρ₁.lookup x = some v) ∧ EvIfs c n (relS scope sc) ρ₁ σ' ifs fun b σ₂ => σ₂ = σ' ∧
      (b = true → EvE c n (relS scope sc) ρ₁ σ' elt fun u σ₃ => σ₃ = σ' ∧ f v = some u) ∧ (b = false → f v = none))
    (h : ∀ D, σ D = none → Q (.ref D) (upd σ D (.list tg (vs.filterMap f)))) : EvE c n sc ρ σ (.ListComp elt [⟨target, iter, ifs, 0⟩] scope pos) Q := by
  refine ev_mcomp tg ρc _ hok hcap hs (ev_mono h0 fun v σ₁ ⟨e1, e2⟩ => ?_) (giter_step ρc vs f hb hl step fun a D σ' ha hD hne e => by rw [e, upd_upd]; exact h D hD)
  subst e1; subst e2
  refine it_ref hl fun a ha => ⟨⟨_, upd_same, rfl⟩, vs.length, fun D hD => ⟨0, Nat.zero_le _, rfl, rfl, ha, ?_, ?_, rfl⟩⟩
  · by_cases q : D = a
    · rw [q]; exact ha
    · unfold upd at hD; rw [if_neg q] at hD; exact hD
  · rintro rfl; rw [upd_same] at hD; cases hD
theorem ev_compR {elt target iter : Expr} {ifs : List Expr} {scope : Scope} {pos : Pos} (ρc : Rho) {l : Addr} {t : Nat} (vs : List V) (f : V → Option V) (hb : vs.length ≤ big) (hok : compOk scope sc = true) (hcap : Capt scope sc ρ ρc)
    (hs : ∀ env x, foldedSetIterable iter env x = pure x)
    (h0 : EvE c n sc ρ σ iter fun v σ₁ => v = .ref l ∧ σ₁ = σ) (hl : σ l = some (.list t vs))
    (step : ∀ σ', (∀ x, σ x ≠ none → σ' x = σ x) → ∀ v ∈ vs, CT c n (relS scope sc) ρc σ' target v fun ρ₁ σ₁ => σ₁ = σ' ∧ (∀ x v, ρc.lookup x = some v → ρ₁.lookup x = some v) ∧ EvIfs c n (relS scope sc) ρ₁ σ' ifs fun b σ₂ => σ₂ = σ' ∧
      (b = true → EvE c n (relS scope sc) ρ₁ σ' elt fun u σ₃ => σ₃ = σ' ∧ f v = some u) ∧ (b = false → f v = none))
    (h : Q (.lst (vs.filterMap f)) σ) : EvE c n sc ρ σ (.ListComp elt [⟨target, iter, ifs, 0⟩] scope pos) Q := by
  refine ev_comp ρc _ hok hcap hs (ev_mono h0 fun v σ₁ ⟨e1, e2⟩ => ?_) (giter_step ρc vs f hb hl step fun a D σ' ha hD hne e => by rw [e, del_upd hD]; exact h)
  subst e1; subst e2
  refine it_ref hl fun a ha => ⟨⟨_, upd_same, rfl⟩, vs.length, fun D hD => ⟨0, Nat.zero_le _, rfl, rfl, ha, ?_, ?_, rfl⟩⟩
  · by_cases q : D = a
    · rw [q]; exact ha
    · unfold upd at hD; rw [if_neg q] at hD; exact hD
  · rintro rfl; rw [upd_same] at hD; cases hD
end

/-- the whole search -/
structure Adr where
  l : Addr
  e : Addr
  ea : EnA
  b : Addr
  bd : Addr
  s : Addr
structure St where
  a : StA
  S : StS
  p : Addr
  rf : Addr
  r : Addr
  path : List Lit
  rfs : List (Int × V)
  bg : Bool
  ov : Bool
  an : Bool
  nodes : Nat
abbrev rV (x : Int × V) : V := .tup [.int x.1, x.2]
abbrev srF (A : Adr) (X : St) : List (Str × V) := [("engine", .inst 330 A.e), ("store", .inst 658 A.l), ("brancher", .inst 379 A.b), ("base", .int 0), ("rest", .inst 379 X.r), ("path", .ref X.p), ("refuted", .ref X.rf), ("learner", .none), ("goal", .none), ("is_begun", .bool X.bg), ("is_over", .bool X.ov), ("is_answered", .bool X.an), ("fail_limit", .int 0), ("restart_unit", .int 0), ("nodes", .int X.nodes), ("fails", .int 0), ("restarts", .int 0), ("since", .int 0)]
abbrev cfR (cf : Cfg) (m : Nat) : Cfg := ⟨"input_order", "min", cf.dg, List.range m⟩
structure Sys (σ : Sg) (A : Adr) (cf : Cfg) (es : List (Int × V)) (X : St) : Prop where
  st : Has σ A.l X.a X.S
  en : HasE σ A.e A.ea A.l
  br : HasB σ A.b A.bd cf es
  rs : X.bg = true → ∃ rd, HasB σ X.r rd (cfR cf X.S.ds.length) []
  o : σ A.s = some (.ns 15 (srF A X))
  p : σ X.p = some (.list 13 (X.path.map lV))
  rf : σ X.rf = some (.list 14 (X.rfs.map rV))
variable {σ σ' : Sg} {A : Adr} {cf : Cfg} {es : List (Int × V)} {X : St}
theorem Sys.store (H : Sys σ A cf es X) {a : StA} {S : StS} (h : Has σ' A.l a S) (k : Keep6 σ σ') (hl : S.ds.length = X.S.ds.length) : Sys σ' A cf es { X with a := a, S := S } := by
  have k : Kp 1 6 σ σ' := k
  exact ⟨h, H.en.kp k, H.br.kp k, fun e => let ⟨rd, q⟩ := H.rs e; ⟨rd, by rw [hl]; exact q.kp k⟩, k _ _ H.o (by simp [AO.tag]), k _ _ H.p (by simp [AO.tag]), k _ _ H.rf (by simp [AO.tag])⟩
theorem Sys.eng (H : Sys σ A cf es X) {a : StA} {S : StS} (h : Has σ' A.l a S) (h2 : HasE σ' A.e A.ea A.l) (k : Kp 1 10 σ σ') (hl : S.ds.length = X.S.ds.length) : Sys σ' A cf es { X with a := a, S := S } :=
  ⟨h, h2, H.br.kp k, fun e => let ⟨rd, q⟩ := H.rs e; ⟨rd, by rw [hl]; exact q.kp k⟩, k _ _ H.o (by simp [AO.tag]), k _ _ H.p (by simp [AO.tag]), k _ _ H.rf (by simp [AO.tag])⟩
/-- fields of the search's own turned -/
theorem Sys.oo (H : Sys σ A cf es X) {bg ov an : Bool} {nodes : Nat} {r : Addr} (hr : bg = true → (X.bg = true ∧ r = X.r) ∨ ∃ rd, HasB σ r rd (cfR cf X.S.ds.length) []) : Sys (upd σ A.s (.ns 15 (srF A { X with bg := bg, ov := ov, an := an, nodes := nodes, r := r }))) A cf es { X with bg := bg, ov := ov, an := an, nodes := nodes, r := r } := by
  have k : Kp 15 15 σ (upd σ A.s (.ns 15 (srF A { X with bg := bg, ov := ov, an := an, nodes := nodes, r := r }))) := kp_upd H.o
  refine ⟨H.st.kp (hi := 15) fun a o e t => k a o e (by omega), H.en.kp k, H.br.kp k, fun e => ?_, upd_same, k _ _ H.p (by simp [AO.tag]), k _ _ H.rf (by simp [AO.tag])⟩
  rcases hr e with ⟨h1, rfl⟩ | ⟨rd, q⟩
  · obtain ⟨rd, q⟩ := H.rs h1; exact ⟨rd, q.kp k⟩
  · exact ⟨rd, q.kp k⟩
/-- the path's list turned in place -/
theorem Sys.pp (H : Sys σ A cf es X) {path : List Lit} : Sys (upd σ X.p (.list 13 (path.map lV))) A cf es { X with path := path } := by
  have k : Kp 13 13 σ (upd σ X.p (.list 13 (path.map lV))) := kp_upd H.p
  exact ⟨H.st.kp (hi := 15) fun a o e t => k a o e (by omega), H.en.kp k, H.br.kp k, fun e => let ⟨rd, q⟩ := H.rs e; ⟨rd, q.kp k⟩, k _ _ H.o (by simp [AO.tag]), upd_same, k _ _ H.rf (by simp [AO.tag])⟩
theorem Sys.rr (H : Sys σ A cf es X) {rfs : List (Int × V)} : Sys (upd σ X.rf (.list 14 (rfs.map rV))) A cf es { X with rfs := rfs } := by
  have k : Kp 14 14 σ (upd σ X.rf (.list 14 (rfs.map rV))) := kp_upd H.rf
  exact ⟨H.st.kp (hi := 15) fun a o e t => k a o e (by omega), H.en.kp k, H.br.kp k, fun e => let ⟨rd, q⟩ := H.rs e; ⟨rd, q.kp k⟩, k _ _ H.o (by simp [AO.tag]), k _ _ H.p (by simp [AO.tag]), upd_same⟩
/-- new lists, met by the search's own fields -/
theorem Sys.np (H : Sys σ A cf es X) {p : Addr} {path : List Lit} (hp : σ p = some (.list 13 (path.map lV))) : Sys (upd σ A.s (.ns 15 (srF A { X with p := p, path := path }))) A cf es { X with p := p, path := path } := by
  have k : Kp 15 15 σ (upd σ A.s (.ns 15 (srF A { X with p := p, path := path }))) := kp_upd H.o
  exact ⟨H.st.kp (hi := 15) fun a o e t => k a o e (by omega), H.en.kp k, H.br.kp k, fun e => let ⟨rd, q⟩ := H.rs e; ⟨rd, q.kp k⟩, upd_same, k _ _ hp (by simp [AO.tag]), k _ _ H.rf (by simp [AO.tag])⟩
theorem Sys.nr (H : Sys σ A cf es X) {rf : Addr} {rfs : List (Int × V)} (hp : σ rf = some (.list 14 (rfs.map rV))) : Sys (upd σ A.s (.ns 15 (srF A { X with rf := rf, rfs := rfs }))) A cf es { X with rf := rf, rfs := rfs } := by
  have k : Kp 15 15 σ (upd σ A.s (.ns 15 (srF A { X with rf := rf, rfs := rfs }))) := kp_upd H.o
  exact ⟨H.st.kp (hi := 15) fun a o e t => k a o e (by omega), H.en.kp k, H.br.kp k, fun e => let ⟨rd, q⟩ := H.rs e; ⟨rd, q.kp k⟩, upd_same, k _ _ H.p (by simp [AO.tag]), k _ _ hp (by simp [AO.tag])⟩
/-- ghosts of no tag of the search -/
theorem Sys.any (H : Sys σ A cf es X) (k : ∀ a, σ a ≠ none → σ' a = σ a) : Sys σ' A cf es X := by
  have k : Kp 16 15 σ σ' := fun a o e _ => by rw [k a (by rw [e]; exact fun z => nomatch z)]; exact e
  exact ⟨H.st.kp (hi := 15) fun a o e t => k a o e (by omega), H.en.kp k, H.br.kp k, fun e => let ⟨rd, q⟩ := H.rs e; ⟨rd, q.kp k⟩, k _ _ H.o (by omega), k _ _ H.p (by omega), k _ _ H.rf (by omega)⟩
theorem Sys.kp (H : Sys σ A cf es X) {hi : Nat} (k : Kp 16 hi σ σ') : Sys σ' A cf es X :=
  ⟨H.st.kp (hi := hi) fun a o e t => k a o e (by omega), H.en.kp k (.inr (by omega)), H.br.kp k (.inr (by omega)), fun e => let ⟨rd, q⟩ := H.rs e; ⟨rd, q.kp k (.inr (by omega))⟩, k _ _ H.o (by simp [AO.tag]), k _ _ H.p (by simp [AO.tag]), k _ _ H.rf (by simp [AO.tag])⟩
theorem Kp.any {lo hi : Nat} (k : ∀ a, σ a ≠ none → σ' a = σ a) : Kp lo hi σ σ' := fun a o e _ => by rw [k a (by rw [e]; exact fun z => nomatch z)]; exact e
theorem new_any {b : Addr} {o : AO} (hb : σ b = none) : ∀ a, σ a ≠ none → upd σ b o a = σ a := fun a ha => upd_ne (fun e => ha (e ▸ hb)) rfl
end Mine
namespace Mine
open PySem PySem.W PySem.Calls PyProof.Rows
local macro_rules | `(tactic| k_memK) => `(tactic| repeat (first
  | with_reducible refine ev_name (by with_unfolding_all rfl) (by with_unfolding_all rfl) ?_
  | with_reducible refine ev_int ?_
  | with_reducible refine ev_str ?_
  | with_reducible refine ev_attr (fun _ => (by with_unfolding_all rfl)) ?_
  | with_reducible refine ev_subN (by with_unfolding_all rfl) ?_
  | with_reducible refine el_nil ?_
  | with_reducible refine el_cons ?_ (fun _ => (by with_unfolding_all rfl))
  | with_reducible refine ev_compare (by with_unfolding_all rfl) ?_
  | with_reducible refine ev_binop ?_
  | with_reducible refine ev_tuple ?_
  | with_reducible refine ev_unary ?_
  | with_reducible refine ev_bool ?_
  | with_reducible refine ev_none ?_
  | with_reducible refine ev_ifexp ?_
  | with_reducible refine ev_and ?_
  | with_reducible refine ev_or ?_
  | with_reducible refine ev_last ?_
  | with_reducible refine s_return ?_
  | with_reducible refine s_return_none ?_
  | with_reducible refine s_if ?_
  | with_reducible refine s_expr ?_ (by with_unfolding_all rfl) (fun _ => (by with_unfolding_all rfl))
  | with_reducible refine s_swap (fun _ => (by with_unfolding_all rfl)) (fun env h => by cases env; cases h; with_unfolding_all rfl) (by with_unfolding_all rfl) ?_
  | with_reducible refine s_assign ?_ (fun _ => (by with_unfolding_all rfl)) (fun _ _ => (by with_unfolding_all rfl)) (fun _ => (by with_unfolding_all rfl))
  | with_reducible refine s_assign ?_ (fun _ => (by with_unfolding_all rfl)) (fun env h => by cases env; cases h; with_unfolding_all rfl) (fun _ => (by with_unfolding_all rfl))
  | with_reducible refine xs_nil ?_
  | with_reducible refine t_not ?_
  | with_reducible refine t_compare (by with_unfolding_all rfl) ?_
  | with_reducible refine t_boolop ?_
  | with_reducible refine t_value ?_ (fun _ _ => (by with_unfolding_all rfl))
  | with_reducible refine ts_and_nil ?_
  | with_reducible refine ts_or_nil ?_
  | with_reducible refine ts_and ?_
  | with_reducible refine ts_or ?_
  | with_reducible refine as_itemS (fun _ _ => (by with_unfolding_all rfl)) ?_
  | with_reducible refine as_tuple (by with_unfolding_all rfl) (fun _ => (by with_unfolding_all rfl)) (fun _ => (by with_unfolding_all rfl)) ?_
  | with_reducible refine al_nil ?_
  | with_reducible refine al_cons ?_ (fun _ => (by with_unfolding_all rfl))
  | with_reducible refine as_name (by with_unfolding_all rfl) ?_
  | with_reducible refine tru_bool ?_
  | with_reducible refine op_add ?_
  | with_reducible refine op_sub ?_
  | with_reducible refine cm_lt ?_
  | with_reducible refine cm_le ?_
  | with_reducible refine cm_gt ?_
  | with_reducible refine cm_ge ?_
  | with_reducible refine cm_eq ?_
  | with_reducible refine cm_ne ?_
  | with_reducible refine cm_eqs ?_
  | with_reducible refine op_neg ?_
  | with_reducible refine cm_is ?_
  | with_reducible refine cm_isnot ?_
  | with_reducible refine sub_tup (by assumption) (by omega) ?_ (fun _ _ => (by with_unfolding_all rfl))
  | with_reducible refine sub_lst (by assumption) (by omega) ?_ (fun _ _ => (by with_unfolding_all rfl))
  | with_reducible refine sub_ref (by assumption) (by assumption) (by omega) ?_ (fun _ _ => (by with_unfolding_all rfl))
  | with_reducible refine sub_tup (by with_unfolding_all rfl) (by decide) ?_ (fun _ _ => (by with_unfolding_all rfl))
  | with_reducible refine sub_lst (by with_unfolding_all rfl) (by decide) ?_ (fun _ _ => (by with_unfolding_all rfl))
  | with_reducible refine c_max ?_
  | with_reducible refine c_min ?_
  | with_reducible refine c_range1 ?_
  | with_reducible refine c_range2 ?_
  | with_reducible refine m_append (fun _ => (by with_unfolding_all rfl)) (by with_unfolding_all rfl) (fun _ => (by with_unfolding_all rfl)) (fun _ => (by with_unfolding_all rfl)) (fun _ => ⟨_, _, (by with_unfolding_all rfl)⟩) ?_ (fun _ => (by with_unfolding_all rfl))
  | with_reducible refine m_extend (fun _ => (by with_unfolding_all rfl)) (by with_unfolding_all rfl) (fun _ => (by with_unfolding_all rfl)) (fun _ => (by with_unfolding_all rfl)) (fun _ => ⟨_, _, (by with_unfolding_all rfl)⟩) ?_ (fun _ => (by with_unfolding_all rfl))
  | with_reducible refine g_call bLen (by with_unfolding_all rfl) (fun _ => (by with_unfolding_all rfl)) (fun _ => ⟨_, _, (by with_unfolding_all rfl)⟩) (keeps_builtin _) ?_
  | with_reducible refine g_call bRange (by with_unfolding_all rfl) (fun _ => (by with_unfolding_all rfl)) (fun _ => ⟨_, _, (by with_unfolding_all rfl)⟩) (keeps_type _) ?_
  | with_reducible refine g_call bTuple (by with_unfolding_all rfl) (fun _ => (by with_unfolding_all rfl)) (fun _ => ⟨_, _, (by with_unfolding_all rfl)⟩) (keeps_type _) ?_
  | with_reducible refine g_call bList (by with_unfolding_all rfl) (fun _ => (by with_unfolding_all rfl)) (fun _ => ⟨_, _, (by with_unfolding_all rfl)⟩) (keeps_type _) ?_
  | with_reducible refine g_call bAbs (by with_unfolding_all rfl) (fun _ => (by with_unfolding_all rfl)) (fun _ => ⟨_, _, (by with_unfolding_all rfl)⟩) (keeps_builtin _) ?_
  | with_reducible refine g_call bMax (by with_unfolding_all rfl) (fun _ => (by with_unfolding_all rfl)) (fun _ => ⟨_, _, (by with_unfolding_all rfl)⟩) (keeps_builtin _) ?_
  | with_reducible refine g_call bMin (by with_unfolding_all rfl) (fun _ => (by with_unfolding_all rfl)) (fun _ => ⟨_, _, (by with_unfolding_all rfl)⟩) (keeps_builtin _) ?_
  | with_reducible refine g_call bSum (by with_unfolding_all rfl) (fun _ => (by with_unfolding_all rfl)) (fun _ => ⟨_, _, (by with_unfolding_all rfl)⟩) (keeps_builtin _) ?_
  | with_reducible refine g_call bSorted (by with_unfolding_all rfl) (fun _ => (by with_unfolding_all rfl)) (fun _ => ⟨_, _, (by with_unfolding_all rfl)⟩) (keeps_builtin _) ?_
  | with_reducible refine g_call bEnumerate (by with_unfolding_all rfl) (fun _ => (by with_unfolding_all rfl)) (fun _ => ⟨_, _, (by with_unfolding_all rfl)⟩) (keeps_type _) ?_
  | with_reducible refine g_call (kOwn (by with_unfolding_all rfl)) (by with_unfolding_all rfl) (fun _ => (by with_unfolding_all rfl)) (fun _ => ⟨_, _, (by with_unfolding_all rfl)⟩) (kKeep (by kernel_rfl)) ?_
  | with_reducible refine g_attrU (by with_unfolding_all rfl) (by kernel_rfl) ?_
  | with_reducible refine attr_setU (by kernel_rfl) (Nat.le_of_ble_eq_true (by with_unfolding_all rfl)) ?_
  | with_reducible refine op_not ?_
  | with_reducible refine g_attr (by assumption) (by with_unfolding_all rfl) (by kernel_rfl) ?_
  | with_reducible refine as_attrS ?_
  | with_reducible refine attr_set (by assumption) (by kernel_rfl) (Nat.le_of_ble_eq_true (by with_unfolding_all rfl)) ?_
  | with_reducible refine m_pop (fun _ => (by with_unfolding_all rfl)) (by with_unfolding_all rfl) (fun _ => (by with_unfolding_all rfl)) ?_
  | with_reducible refine m_get (fun _ => (by with_unfolding_all rfl)) (by with_unfolding_all rfl) (fun _ => (by with_unfolding_all rfl)) (fun _ => (by with_unfolding_all rfl)) (fun _ => ⟨_, _, (by with_unfolding_all rfl)⟩) ?_
  | with_reducible refine m_setdefault (fun _ => (by with_unfolding_all rfl)) (by with_unfolding_all rfl) (fun _ => (by with_unfolding_all rfl)) (fun _ => (by with_unfolding_all rfl)) (fun _ => ⟨_, _, (by with_unfolding_all rfl)⟩) ?_
  | with_reducible refine ev_meth0 (fun _ => (by with_unfolding_all rfl)) (by with_unfolding_all rfl) (fun _ => (by with_unfolding_all rfl)) ?_
  | with_reducible refine ev_meth1 (fun _ => (by with_unfolding_all rfl)) (by with_unfolding_all rfl) (fun _ => (by with_unfolding_all rfl)) (fun _ => (by with_unfolding_all rfl)) (fun _ => ⟨_, _, (by with_unfolding_all rfl)⟩) ?_
  | with_reducible refine umeth (by assumption) (by with_unfolding_all rfl) (by with_unfolding_all rfl) (by kernel_rfl) (by kernel_rfl) ?_
  | with_reducible refine g_call0 (kOwn (by with_unfolding_all rfl)) (by with_unfolding_all rfl) (kKeep (by kernel_rfl)) ?_))

local macro_rules | `(tactic| k_ownIn) => `(tactic| repeat (first
  | with_reducible exact capt_nil
  | with_reducible refine capt_cons (by with_unfolding_all rfl) (by with_unfolding_all rfl) ?_
  | with_reducible exact wk_refl
  | with_reducible exact Wk.nil
  | with_reducible refine Wk.cons (by with_unfolding_all rfl) ?_
  | with_reducible refine wk_set (by with_unfolding_all rfl) ?_))
-- part H5
theorem sr_path {A : Adr} {X : St} {p : Addr} (path : List Lit) : rset (srF A X) "path" (.ref p) = srF A { X with p := p, path := path } := rfl
theorem sr_refuted {A : Adr} {X : St} {p : Addr} (rfs : List (Int × V)) : rset (srF A X) "refuted" (.ref p) = srF A { X with rf := p, rfs := rfs } := rfl
theorem sr_bg {A : Adr} {X : St} {b : Bool} : rset (srF A X) "is_begun" (.bool b) = srF A { X with bg := b } := rfl
theorem sr_ov {A : Adr} {X : St} {b : Bool} : rset (srF A X) "is_over" (.bool b) = srF A { X with ov := b } := rfl
theorem sr_an {A : Adr} {X : St} {b : Bool} : rset (srF A X) "is_answered" (.bool b) = srF A { X with an := b } := rfl
theorem sr_nodes {A : Adr} {X : St} : rset (srF A X) "nodes" (.int ((X.nodes : Int) + 1)) = srF A { X with nodes := X.nodes + 1 } := rfl
theorem sr_rest {A : Adr} {X : St} {r : Addr} : rset (srF A X) "rest" (.inst 379 r) = srF A { X with r := r } := rfl
theorem st_speaker {a : StA} {S : StS} {k : Int} : rset (stF a S) "speaker" (.int k) = stF a { S with sp := k } := rfl
section
variable {c : Cx} [hK : IsK c] {n : Nat} {σ : Sg} {Q : V → Sg → Prop} {A : Adr} {cf : Cfg} {es : List (Int × V)} {X : St}
theorem br_new {cf : Cfg} {v : V} (hv : v = .lst (nV cf.row) ∨ v = .tup (nV cf.row)) (h : ∀ b bd σ', HasB σ' b bd cf [] → (∀ a, σ a ≠ none → σ' a = σ a) → Q (.inst 379 b) σ') : CallV c (n + 2) (.ref 379) [v, .str cf.o, .str cf.ch] σ Q := by
  refine kNew (a := 355) 12 (names := ["self", "some", "order", "choice"]) (by kernel_rfl) (by kernel_rfl) (by kernel_rfl) (by intro xs h; match xs, h with | [x0, x1, x2, x3], _ => rfl) (by conv => lhs; whnf) (by conv => lhs; whnf) rfl fun l hl => ?_
  k_memK
  have ct : ∀ {σ' : Sg} {Q : V → Sg → Prop}, Q (.tup (nV cf.row)) σ' → CallV c n (.type "tuple") [v] σ' Q := fun {σ' Q} q => by
    rcases hv with rfl | rfl
    · exact c_tuple_lst q
    · exact c_tuple_tup q
  refine ct ?_
  k_memK
  refine uidict 11 rfl fun bd hbd hne => ?_
  k_memK
  refine h l bd _ ⟨upd_same, upd_ne hne upd_same⟩ fun a ha => ?_
  rw [upd_ne (ne_of_none (Option.some_get (Option.isSome_iff_ne_none.mpr ha)).symm hl) (upd_ne (ne_of_none (Option.some_get (Option.isSome_iff_ne_none.mpr ha)).symm hbd) rfl)]
theorem se_aim (H : Sys σ A cf es X) (h : Q (.bool true) σ) : CallV c (n + 1) (.ref 416) [.inst 504 A.s] σ Q := by
  have ho := H.o
  refine kCall (names := ["self"]) (by kernel_rfl) (by kernel_rfl) (by intro xs h; match xs, h with | [x0], _ => rfl) (by conv => lhs; whnf) (by conv => lhs; whnf) rfl ?_
  k_memK
  refine ⟨fun _ => ?_, fun q => (nomatch q)⟩
  k_memK
  exact h
def fRf (k : Int) : V → Option V
  | .tup [.int d, u] => if d ≤ k then some (.tup [.int d, u]) else none
  | _ => none
theorem fRf_is {k : Int} (l : List (Int × V)) : (l.map rV).filterMap (fRf k) = (l.filter fun x => decide (x.1 ≤ k)).map rV := by
  induction l with
  | nil => rfl
  | cons x l ih =>
    rw [List.map_cons, List.filterMap_cons, List.filter_cons, ih]
    have e : fRf k (rV x) = if x.1 ≤ k then some (rV x) else none := rfl
    rw [e]
    by_cases q : x.1 ≤ k
    · simp [q]
    · simp [q]
theorem se_back (H : Sys σ A cf es X) {ms : List Nat} {base seg : List En} {path : List Lit} {lt : Lit} (hp : X.path = path ++ [lt]) (hm : X.S.ms = ms ++ [base.length]) (ht : X.S.tr = base ++ seg) (hml : ms.length < 1000) (htl : X.S.tr.length < 1000) (hseg : ∀ e ∈ seg, e.x < X.S.ds.length) (hdl : X.S.ds.length < 1000)
    (hok : okV 8 (.lst X.S.fs) = true) (hf : V.tup [] ∉ X.S.fs) (hrl : X.rfs.length < 1000)
    (h : ∀ a p rf σ', Sys σ' A cf es { X with a := a, p := p, rf := rf, path := path, rfs := X.rfs.filter fun x => decide (x.1 ≤ path.length), S := ⟨undo seg X.S.ds, X.S.fs, base, ms, [], X.S.sp, false, .tup []⟩ } → Kp 1 15 σ σ' → Q (.bool true) σ') : CallV c (n + 2) (.ref 409) [.inst 504 A.s, .int path.length] σ Q := by
  have ho := H.o
  have hs := H.st.o
  refine kCall (names := ["self", "depth"]) (by kernel_rfl) (by kernel_rfl) (by intro xs h; match xs, h with | [x0, x1], _ => rfl) (by conv => lhs; whnf) (by conv => lhs; whnf) rfl ?_
  k_memK
  refine c_len_ref H.p ?_
  k_memK
  have e1 : ((X.path.map lV).length : Int) - path.length = 1 := by rw [hp]; simp; omega
  rw [e1]
  refine st_pop H.st hm ht hml htl hseg hdl hok hf fun m w σ1 H1 K1 => ?_
  have Y1 := H.store H1 K1 (by simp [undo_len])
  clear ho hs
  have ho := Y1.o
  k_memK
  refine ev_mslice 13 ?_
  k_memK
  refine ep_none (ep_some ?_)
  k_memK
  refine ⟨_, rfl, _, path.map lV, .inr ⟨_, _, rfl, Y1.p⟩, ?_, fun p hpn => ?_⟩
  · unfold cut
    dsimp only
    rw [if_pos (Int.natCast_nonneg _), hp]
    simp
  have Y2 := Y1.any (new_any (o := .list 13 (path.map lV)) hpn)
  have hp2 : upd σ1 p (.list 13 (path.map lV)) p = some (.list 13 (path.map lV)) := upd_same
  have K2 : Kp 1 15 σ1 (upd σ1 p (.list 13 (path.map lV))) := kp_new hpn
  generalize upd σ1 p (.list 13 (path.map lV)) = σ2 at Y2 hp2 K2
  clear ho
  have ho := Y2.o
  k_memK
  rw [sr_path path]
  have Y3 := Y2.np hp2
  have K3 := kp_upd (lo := 1) (hi := 15) (p := .ns 15 (srF A { ({ X with a := { X.a with m := m, w := w }, S := ⟨undo seg X.S.ds, X.S.fs, base, ms, [], X.S.sp, false, .tup []⟩ } : St) with p := p, path := path })) Y2.o
  generalize upd σ2 A.s (.ns 15 (srF A { ({ X with a := { X.a with m := m, w := w }, S := ⟨undo seg X.S.ds, X.S.fs, base, ms, [], X.S.sp, false, .tup []⟩ } : St) with p := p, path := path })) = σ3 at Y3 K3
  clear ho hp2
  have ho := Y3.o
  refine ev_mcompR 14 [("depth", .int path.length)] (X.rfs.map rV) (fRf path.length) (by have := big1000; simp; omega) (by with_unfolding_all rfl) (by k_ownIn) (fun _ _ => rfl) ?_ Y3.rf ?_ ?_
  · k_memK
    exact ⟨rfl, rfl⟩
  · intro σ' hσ v hv
    obtain ⟨x, hx, rfl⟩ := List.mem_map.mp hv
    refine ct_name (by with_unfolding_all rfl) ⟨rfl, by k_ownIn, ?_⟩
    show EvT _ _ _ _ _ _ _
    k_memK
    refine ⟨rfl, fun hq => ?_, fun hq => ?_⟩
    · k_memK
      refine ⟨rfl, ?_⟩
      show (if x.1 ≤ (path.length : Int) then some (rV x) else none) = _
      rw [if_pos (by simpa using hq)]
    · show (if x.1 ≤ (path.length : Int) then some (rV x) else none) = _
      rw [if_neg (by simpa using hq)]
  · intro rf hrf
    rw [fRf_is]
    have Y4 := Y3.any (new_any (o := .list 14 ((X.rfs.filter fun x => decide (x.1 ≤ (path.length : Int))).map rV)) hrf)
    have hp4 : upd σ3 rf (.list 14 ((X.rfs.filter fun x => decide (x.1 ≤ (path.length : Int))).map rV)) rf = some (.list 14 ((X.rfs.filter fun x => decide (x.1 ≤ (path.length : Int))).map rV)) := upd_same
    have K4 : Kp 1 15 σ3 (upd σ3 rf (.list 14 ((X.rfs.filter fun x => decide (x.1 ≤ (path.length : Int))).map rV))) := kp_new hrf
    generalize upd σ3 rf (.list 14 ((X.rfs.filter fun x => decide (x.1 ≤ (path.length : Int))).map rV)) = σ4 at Y4 hp4 K4
    clear ho
    have ho := Y4.o
    k_memK
    rw [sr_refuted (X.rfs.filter fun x => decide (x.1 ≤ (path.length : Int)))]
    have Y5 := Y4.nr hp4
    have K5 := kp_upd (lo := 1) (hi := 15) (p := .ns 15 (srF A { ({ X with a := { X.a with m := m, w := w }, p := p, path := path, S := ⟨undo seg X.S.ds, X.S.fs, base, ms, [], X.S.sp, false, .tup []⟩ } : St) with rf := rf, rfs := X.rfs.filter fun x => decide (x.1 ≤ (path.length : Int)) })) Y4.o
    generalize upd σ4 A.s (.ns 15 (srF A { ({ X with a := { X.a with m := m, w := w }, p := p, path := path, S := ⟨undo seg X.S.ds, X.S.fs, base, ms, [], X.S.sp, false, .tup []⟩ } : St) with rf := rf, rfs := X.rfs.filter fun x => decide (x.1 ≤ (path.length : Int)) })) = σ5 at Y5 K5
    clear ho
    have ho := Y5.o
    k_memK
    refine se_aim Y5 ?_
    exact h _ _ _ _ Y5 ((((K1.kp.trans K2).trans K3).trans K4).trans K5)
end
-- part H6
section
variable {c : Cx} [hK : IsK c] {n : Nat} {σ : Sg} {Q : V → Sg → Prop} {A : Adr} {cf : Cfg} {es : List (Int × V)} {X : St}
theorem se_round_nil (H : Sys σ A cf es X) (hp : X.path = []) (h : Q (.bool false) σ) : CallV c (n + 1) (.ref 437) [.inst 504 A.s] σ Q := by
  have ho := H.o
  refine kCall (names := ["self"]) (by kernel_rfl) (by kernel_rfl) (by intro xs h; match xs, h with | [x0], _ => rfl) (by conv => lhs; whnf) (by conv => lhs; whnf) rfl ?_
  refine s_while (fun k ρ' σ' => k = 0 ∧ ρ' = ([("self", .inst 504 A.s)] : Rho) ∧ σ' = σ) 0 _ (by k_ownIn) ⟨rfl, rfl, rfl⟩ ?_
  rintro k ρ' σ' ⟨rfl, rfl, rfl⟩
  k_memK
  refine c_len_ref H.p ?_
  k_memK
  rw [hp]
  refine ⟨fun q => (nomatch q), fun _ => ?_⟩
  k_memK
  exact h
theorem se_round (H : Sys σ A cf es X) {ms : List Nat} {base seg : List En} {path : List Lit} {lt : Lit} {E : Dom} (hp : X.path = path ++ [lt]) (hm : X.S.ms = ms ++ [base.length]) (ht : X.S.tr = base ++ seg) (hml : ms.length < 1000) (htl : X.S.tr.length < 1000) (hseg : ∀ e ∈ seg, e.x < X.S.ds.length) (hdl : X.S.ds.length < 1000)
    (hok : okV 8 (.lst X.S.fs) = true) (hf : V.tup [] ∉ X.S.fs) (hrl : X.rfs.length < 1000) (hpl : path.length < 1000)
    (hE : (undo seg X.S.ds)[lt.x]? = some E) (hEl : E.length ≤ 500) (h0 : strk (neg lt.s lt.k).1 (neg lt.s lt.k).2 E ≠ []) (h1 : strk (neg lt.s lt.k).1 (neg lt.s lt.k).2 E ≠ E)
    (h : ∀ a p rf σ', Sys σ' A cf es { X with a := a, p := p, rf := rf, path := path, rfs := (X.rfs.filter fun x => decide (x.1 ≤ (path.length : Int))) ++ [((path.length : Int), lV lt)], S := ⟨(undo seg X.S.ds).set lt.x (strk (neg lt.s lt.k).1 (neg lt.s lt.k).2 E), X.S.fs, base ++ [⟨lt.x, E, lv lt.x (neg lt.s lt.k).1 (neg lt.s lt.k).2, .tup (path.map lV), -2⟩], ms, [((lt.x : Int), V.bool true)], -2, false, .tup []⟩ } → Kp 1 15 σ σ' → Q (.bool true) σ') : CallV c (n + 7) (.ref 437) [.inst 504 A.s] σ Q := by
  have ho := H.o
  refine kCall (names := ["self"]) (by kernel_rfl) (by kernel_rfl) (by intro xs h; match xs, h with | [x0], _ => rfl) (by conv => lhs; whnf) (by conv => lhs; whnf) rfl ?_
  refine s_while (fun k ρ' σ' => k = 0 ∧ ρ' = ([("self", .inst 504 A.s)] : Rho) ∧ σ' = σ) 0 _ (by k_ownIn) ⟨rfl, rfl, rfl⟩ ?_
  rintro k ρ' σ' ⟨rfl, rfl, rfl⟩
  k_memK
  refine c_len_ref H.p ?_
  k_memK
  refine ⟨fun _ => ?_, fun q => by rw [hp] at q; simp at q⟩
  k_memK
  refine sub_ref H.p (v := lV lt) ?_ (by decide) ?_ (fun _ _ => by with_unfolding_all rfl)
  · rw [hp, List.map_append]; exact idx_last (by have := big1000; rw [List.length_map]; omega)
  k_memK
  refine c_len_ref H.p ?_
  k_memK
  have e1 : ((X.path.map lV).length : Int) - 1 = path.length := by rw [hp]; simp
  rw [e1]
  refine se_back H hp hm ht hml htl hseg hdl hok hf hrl fun a p rf σ1 Y1 K1 => ?_
  clear ho
  have ho := Y1.o
  k_memK
  refine ⟨_, _, _, rfl, Y1.rf, ?_⟩
  k_memK
  refine c_len_ref Y1.p ?_
  k_memK
  refine ⟨Nat.le_of_ble_eq_true (by with_unfolding_all rfl), _, _, Y1.rf, ?_, ?_⟩
  · have := big1000
    have := List.length_filter_le (fun (x : Int × V) => decide (x.1 ≤ (path.length : Int))) X.rfs
    simp only [List.length_map]; omega
  have Y2 := Y1.rr (rfs := (X.rfs.filter fun x => decide (x.1 ≤ (path.length : Int))) ++ [((path.length : Int), lV lt)])
  have K2 : Kp 1 15 σ1 (upd σ1 rf (.list 14 (((X.rfs.filter fun x => decide (x.1 ≤ (path.length : Int))) ++ [((path.length : Int), lV lt)]).map rV))) := kp_upd Y1.rf
  have e2 : ((X.rfs.filter fun x => decide (x.1 ≤ (path.length : Int))) ++ [((path.length : Int), lV lt)]).map rV = (X.rfs.filter fun x => decide (x.1 ≤ (path.length : Int))).map rV ++ [V.tup [V.int ((path.map lV).length : Nat), lV lt]] := by simp
  rw [e2] at K2
  change Sys (upd σ1 rf (.list 14 (((X.rfs.filter fun x => decide (x.1 ≤ (path.length : Int))) ++ [((path.length : Int), lV lt)]).map rV))) _ _ _ _ at Y2
  rw [e2] at Y2
  change ExS _ _ _ _ (upd σ1 rf (.list 14 ((X.rfs.filter fun x => decide (x.1 ≤ (path.length : Int))).map rV ++ [V.tup [V.int ((path.map lV).length : Nat), lV lt]]))) _ _ _
  generalize upd σ1 rf (.list 14 ((X.rfs.filter fun x => decide (x.1 ≤ (path.length : Int))).map rV ++ [V.tup [V.int ((path.map lV).length : Nat), lV lt]])) = σ2 at Y2 K2
  clear ho e2
  have ho := Y2.o
  have hs := Y2.st.o
  k_memK
  rw [st_speaker]
  have H3 := has_o (sp := -2) (fl := false) (cl := .tup []) Y2.st
  have K3 : Keep6 σ2 (upd σ2 A.l (.ns 6 (stF a ⟨undo seg X.S.ds, X.S.fs, base, ms, [], -2, false, .tup []⟩))) := keep6_upd Y2.st.o (by simp [AO.tag])
  have Y3 := Y2.store H3 K3 rfl
  generalize upd σ2 A.l (.ns 6 (stF a ⟨undo seg X.S.ds, X.S.fs, base, ms, [], -2, false, .tup []⟩)) = σ3 at Y3 K3
  clear ho hs H3
  have ho := Y3.o
  have hs := Y3.st.o
  k_memK
  refine ⟨fun _ => ?_, fun q => (nomatch q)⟩
  k_memK
  refine f_negation ?_
  k_memK
  refine c_tuple_ref Y3.p ?_
  k_memK
  have hxl : lt.x < 1000 := by
    rcases Nat.lt_or_ge lt.x (undo seg X.S.ds).length with q | q
    · rw [undo_len] at q; omega
    · rw [List.getElem?_eq_none q] at hE; cases hE
  refine st_strike Y3.st hxl hEl hE h0 h1 (by show base.length < 1000; rw [ht, List.length_append] at htl; omega) (by show 0 < 1000; decide) fun σ4 H4 K4 => ?_
  have Y4 := Y3.store H4 K4 (by simp)
  k_memK
  refine ⟨fun _ => ?_, fun q => (nomatch q)⟩
  k_memK
  refine ⟨fun _ => ?_, fun q => (nomatch q)⟩
  k_memK
  exact h _ _ _ _ Y4 (((K1.trans K2).trans K3.kp).trans K4.kp)
end
end Mine
-- part H7
namespace Mine
open PySem PySem.W PySem.Calls PyProof.Rows

def Lev (cf : Cfg) : List (List Dom × Lit) → List Dom → List En → List Nat → List Lit → Prop
  | [], _, _, ms, path => ms = [] ∧ path = []
  | (D, l) :: st, ds, tr, ms, path => ∃ base seg ms' path', tr = base ++ seg ∧ ms = ms' ++ [base.length] ∧ path = path' ++ [l] ∧ undo seg ds = D ∧ (∀ e ∈ seg, e.x < ds.length) ∧ Doms D ∧ litOf cf (lists D) = some l ∧ Lev cf st D base ms' path'
theorem Lev.ms {cf : Cfg} : ∀ {st : List (List Dom × Lit)} {ds : List Dom} {tr : List En} {ms : List Nat} {path : List Lit}, Lev cf st ds tr ms path → ms.length = path.length ∧ path.length = st.length
  | [], _, _, _, _, ⟨h1, h2⟩ => by rw [h1, h2]; exact ⟨rfl, rfl⟩
  | (D, l) :: st, _, _, _, _, ⟨base, seg, ms', path', _, h1, h2, _, _, _, _, h3⟩ => by
    have := h3.ms; rw [h1, h2]; simp; omega
theorem undo_snoc {seg : List En} {ds : List Dom} {x : Nat} {D E : Dom} {l rs : V} {k : Int} (h : ds[x]? = some D) : undo (seg ++ [⟨x, D, l, rs, k⟩]) (ds.set x E) = undo seg ds := by
  unfold undo
  rw [List.foldr_append]
  congr 1
  show (ds.set x E).set x D = ds
  rw [List.set_set]
  obtain ⟨hx, rfl⟩ := List.getElem?_eq_some_iff.mp h
  exact List.set_getElem_self hx
/-- one more entry on the trail -/
theorem Lev.add {cf : Cfg} {x : Nat} {D E : Dom} {l rs : V} {k : Int} : ∀ {st : List (List Dom × Lit)} {ds : List Dom} {tr : List En} {ms : List Nat} {path : List Lit}, Lev cf st ds tr ms path → ds[x]? = some D → Lev cf st (ds.set x E) (tr ++ [⟨x, D, l, rs, k⟩]) ms path
  | [], _, _, _, _, h, _ => h
  | (B, m) :: st, ds, _, _, _, ⟨base, seg, ms', path', h0, h1, h2, h3, h4, h5, h6, h7⟩, hx => by
    refine ⟨base, seg ++ [⟨x, D, l, rs, k⟩], ms', path', by rw [h0]; simp, h1, h2, by rw [undo_snoc hx]; exact h3, fun e he => ?_, h5, h6, h7⟩
    rw [List.length_set]
    rcases List.mem_append.mp he with q | q
    · exact h4 e q
    · simp at q; subst q
      rcases Nat.lt_or_ge x ds.length with z | z
      · exact z
      · rw [List.getElem?_eq_none z] at hx; cases hx
structure Run (cf : Cfg) (m : Nat) (X : St) (st : List (List Dom × Lit)) : Prop where
  doms : Doms X.S.ds
  len : X.S.ds.length = m
  fl : X.S.fl = false
  fok : okV 8 (.lst X.S.fs) = true
  fne : V.tup [] ∉ X.S.fs
  lev : Lev cf st X.S.ds X.S.tr X.S.ms X.path
  b1 : X.rfs.length + X.path.length ≤ X.nodes
  b2 : X.S.tr.length + X.path.length ≤ 2 * X.nodes
  b3 : X.nodes < 500
structure Cutd (ds : List Dom) (l : Lit) (side : Bool) (s : Str) (k : Int) (E : Dom) : Prop where
  e : ds[l.x]? = some E
  len : E.length ≤ 500
  h0 : strk s k E ≠ []
  h1 : strk s k E ≠ E
  doms : Doms (ds.set l.x (strk s k E))
  is : lists (ds.set l.x (strk s k E)) = sp (lists ds) l side
theorem cutd {ds : List Dom} {l : Lit} (H : Doms ds) (S : Split (lists ds) l) {side : Bool} {s : Str} {k : Int} (hv : ∀ E, Okd E → vals (strk s k E) = (vals E).filter fun v => says l.s l.k v == side) : ∃ E, Cutd ds l side s k E := by
  have hlt : l.x < ds.length := by have := S.lt; simpa using this
  obtain ⟨E, e1, e2, e3, e4, e5⟩ := H.at hlt
  have hl := len_le e2
  have hvE := hv E e2
  have hmem : ∃ v ∈ vals E, (says l.s l.k v == side) = true := by
    cases side with
    | true => obtain ⟨v, h1, h2⟩ := S.t; rw [e4] at h1; exact ⟨v, h1, by rw [h2]; rfl⟩
    | false => obtain ⟨v, h1, h2⟩ := S.f; rw [e4] at h1; exact ⟨v, h1, by rw [h2]; rfl⟩
  have hno : ∃ v ∈ vals E, (says l.s l.k v == side) = false := by
    cases side with
    | true => obtain ⟨v, h1, h2⟩ := S.f; rw [e4] at h1; exact ⟨v, h1, by rw [h2]; rfl⟩
    | false => obtain ⟨v, h1, h2⟩ := S.t; rw [e4] at h1; exact ⟨v, h1, by rw [h2]; rfl⟩
  have ok := okd_strk (s := s) (k := k) e2
  have h0 : strk s k E ≠ [] := by
    intro q
    obtain ⟨v, h1, h2⟩ := hmem
    have : v ∈ vals (strk s k E) := by rw [hvE]; exact List.mem_filter.mpr ⟨h1, h2⟩
    rw [q] at this; cases this
  have h1 : strk s k E ≠ E := by
    intro q
    have := filter_lt hno
    rw [← hvE, q] at this; omega
  refine ⟨E, e1, by omega, h0, h1, ⟨fun D hD => ?_, by rw [List.length_set]; exact H.n, fun D hD => ?_⟩, ?_⟩
  · rcases List.mem_or_eq_of_mem_set hD with q | rfl
    · exact H.ok D q
    · exact ⟨ok, h0⟩
  · rcases List.mem_or_eq_of_mem_set hD with q | rfl
    · exact H.w D q
    · rw [hvE]; have := List.length_filter_le (fun v => says l.s l.k v == side) (vals E); omega
  · show (ds.set l.x (strk s k E)).map vals = (ds.map vals).set l.x _
    rw [List.map_set, hvE, e4]
theorem cut_true {ds : List Dom} {l : Lit} (H : Doms ds) (S : Split (lists ds) l) : ∃ E, Cutd ds l true l.s l.k E := cutd H S fun E hE => vals_strk hE S.sg
theorem cut_false {ds : List Dom} {l : Lit} (H : Doms ds) (S : Split (lists ds) l) : ∃ E, Cutd ds l false (neg l.s l.k).1 (neg l.s l.k).2 E := cutd H S fun E hE => vals_neg hE S.sg
def pend (cf : Cfg) : List (List Dom × Lit) → List (List Int)
  | [] => []
  | (D, l) :: st => (T cf (sp (lists D) l false)).1 ++ pend cf st
def pendF (cf : Cfg) : List (List Dom × Lit) → Nat
  | [] => 0
  | (D, l) :: st => (T cf (sp (lists D) l false)).2 + pendF cf st
end Mine
namespace Mine
open PySem PySem.W PySem.Calls PyProof.Rows
local macro_rules | `(tactic| k_memK) => `(tactic| repeat (first
  | with_reducible refine ev_name (by with_unfolding_all rfl) (by with_unfolding_all rfl) ?_
  | with_reducible refine ev_int ?_
  | with_reducible refine ev_str ?_
  | with_reducible refine ev_attr (fun _ => (by with_unfolding_all rfl)) ?_
  | with_reducible refine ev_subN (by with_unfolding_all rfl) ?_
  | with_reducible refine el_nil ?_
  | with_reducible refine el_cons ?_ (fun _ => (by with_unfolding_all rfl))
  | with_reducible refine ev_compare (by with_unfolding_all rfl) ?_
  | with_reducible refine ev_binop ?_
  | with_reducible refine ev_tuple ?_
  | with_reducible refine ev_unary ?_
  | with_reducible refine ev_bool ?_
  | with_reducible refine ev_none ?_
  | with_reducible refine ev_ifexp ?_
  | with_reducible refine ev_and ?_
  | with_reducible refine ev_or ?_
  | with_reducible refine ev_last ?_
  | with_reducible refine s_return ?_
  | with_reducible refine s_return_none ?_
  | with_reducible refine s_if ?_
  | with_reducible refine s_expr ?_ (by with_unfolding_all rfl) (fun _ => (by with_unfolding_all rfl))
  | with_reducible refine s_swap (fun _ => (by with_unfolding_all rfl)) (fun env h => by cases env; cases h; with_unfolding_all rfl) (by with_unfolding_all rfl) ?_
  | with_reducible refine s_assign ?_ (fun _ => (by with_unfolding_all rfl)) (fun _ _ => (by with_unfolding_all rfl)) (fun _ => (by with_unfolding_all rfl))
  | with_reducible refine s_assign ?_ (fun _ => (by with_unfolding_all rfl)) (fun env h => by cases env; cases h; with_unfolding_all rfl) (fun _ => (by with_unfolding_all rfl))
  | with_reducible refine xs_nil ?_
  | with_reducible refine t_not ?_
  | with_reducible refine t_compare (by with_unfolding_all rfl) ?_
  | with_reducible refine t_boolop ?_
  | with_reducible refine t_value ?_ (fun _ _ => (by with_unfolding_all rfl))
  | with_reducible refine ts_and_nil ?_
  | with_reducible refine ts_or_nil ?_
  | with_reducible refine ts_and ?_
  | with_reducible refine ts_or ?_
  | with_reducible refine as_itemS (fun _ _ => (by with_unfolding_all rfl)) ?_
  | with_reducible refine as_tuple (by with_unfolding_all rfl) (fun _ => (by with_unfolding_all rfl)) (fun _ => (by with_unfolding_all rfl)) ?_
  | with_reducible refine al_nil ?_
  | with_reducible refine al_cons ?_ (fun _ => (by with_unfolding_all rfl))
  | with_reducible refine as_name (by with_unfolding_all rfl) ?_
  | with_reducible refine tru_bool ?_
  | with_reducible refine op_add ?_
  | with_reducible refine op_sub ?_
  | with_reducible refine cm_lt ?_
  | with_reducible refine cm_le ?_
  | with_reducible refine cm_gt ?_
  | with_reducible refine cm_ge ?_
  | with_reducible refine cm_eq ?_
  | with_reducible refine cm_ne ?_
  | with_reducible refine cm_eqs ?_
  | with_reducible refine op_neg ?_
  | with_reducible refine cm_is ?_
  | with_reducible refine cm_isnot ?_
  | with_reducible refine sub_tup (by assumption) (by omega) ?_ (fun _ _ => (by with_unfolding_all rfl))
  | with_reducible refine sub_lst (by assumption) (by omega) ?_ (fun _ _ => (by with_unfolding_all rfl))
  | with_reducible refine sub_ref (by assumption) (by assumption) (by omega) ?_ (fun _ _ => (by with_unfolding_all rfl))
  | with_reducible refine sub_tup (by with_unfolding_all rfl) (by decide) ?_ (fun _ _ => (by with_unfolding_all rfl))
  | with_reducible refine sub_lst (by with_unfolding_all rfl) (by decide) ?_ (fun _ _ => (by with_unfolding_all rfl))
  | with_reducible refine c_max ?_
  | with_reducible refine c_min ?_
  | with_reducible refine c_range1 ?_
  | with_reducible refine c_range2 ?_
  | with_reducible refine m_append (fun _ => (by with_unfolding_all rfl)) (by with_unfolding_all rfl) (fun _ => (by with_unfolding_all rfl)) (fun _ => (by with_unfolding_all rfl)) (fun _ => ⟨_, _, (by with_unfolding_all rfl)⟩) ?_ (fun _ => (by with_unfolding_all rfl))
  | with_reducible refine m_extend (fun _ => (by with_unfolding_all rfl)) (by with_unfolding_all rfl) (fun _ => (by with_unfolding_all rfl)) (fun _ => (by with_unfolding_all rfl)) (fun _ => ⟨_, _, (by with_unfolding_all rfl)⟩) ?_ (fun _ => (by with_unfolding_all rfl))
  | with_reducible refine g_call bLen (by with_unfolding_all rfl) (fun _ => (by with_unfolding_all rfl)) (fun _ => ⟨_, _, (by with_unfolding_all rfl)⟩) (keeps_builtin _) ?_
  | with_reducible refine g_call bRange (by with_unfolding_all rfl) (fun _ => (by with_unfolding_all rfl)) (fun _ => ⟨_, _, (by with_unfolding_all rfl)⟩) (keeps_type _) ?_
  | with_reducible refine g_call bTuple (by with_unfolding_all rfl) (fun _ => (by with_unfolding_all rfl)) (fun _ => ⟨_, _, (by with_unfolding_all rfl)⟩) (keeps_type _) ?_
  | with_reducible refine g_call bList (by with_unfolding_all rfl) (fun _ => (by with_unfolding_all rfl)) (fun _ => ⟨_, _, (by with_unfolding_all rfl)⟩) (keeps_type _) ?_
  | with_reducible refine g_call bAbs (by with_unfolding_all rfl) (fun _ => (by with_unfolding_all rfl)) (fun _ => ⟨_, _, (by with_unfolding_all rfl)⟩) (keeps_builtin _) ?_
  | with_reducible refine g_call bMax (by with_unfolding_all rfl) (fun _ => (by with_unfolding_all rfl)) (fun _ => ⟨_, _, (by with_unfolding_all rfl)⟩) (keeps_builtin _) ?_
  | with_reducible refine g_call bMin (by with_unfolding_all rfl) (fun _ => (by with_unfolding_all rfl)) (fun _ => ⟨_, _, (by with_unfolding_all rfl)⟩) (keeps_builtin _) ?_
  | with_reducible refine g_call bSum (by with_unfolding_all rfl) (fun _ => (by with_unfolding_all rfl)) (fun _ => ⟨_, _, (by with_unfolding_all rfl)⟩) (keeps_builtin _) ?_
  | with_reducible refine g_call bSorted (by with_unfolding_all rfl) (fun _ => (by with_unfolding_all rfl)) (fun _ => ⟨_, _, (by with_unfolding_all rfl)⟩) (keeps_builtin _) ?_
  | with_reducible refine g_call bEnumerate (by with_unfolding_all rfl) (fun _ => (by with_unfolding_all rfl)) (fun _ => ⟨_, _, (by with_unfolding_all rfl)⟩) (keeps_type _) ?_
  | with_reducible refine g_call (kOwn (by with_unfolding_all rfl)) (by with_unfolding_all rfl) (fun _ => (by with_unfolding_all rfl)) (fun _ => ⟨_, _, (by with_unfolding_all rfl)⟩) (kKeep (by kernel_rfl)) ?_
  | with_reducible refine g_attrU (by with_unfolding_all rfl) (by kernel_rfl) ?_
  | with_reducible refine attr_setU (by kernel_rfl) (Nat.le_of_ble_eq_true (by with_unfolding_all rfl)) ?_
  | with_reducible refine op_not ?_
  | with_reducible refine g_attr (by assumption) (by with_unfolding_all rfl) (by kernel_rfl) ?_
  | with_reducible refine as_attrS ?_
  | with_reducible refine attr_set (by assumption) (by kernel_rfl) (Nat.le_of_ble_eq_true (by with_unfolding_all rfl)) ?_
  | with_reducible refine m_pop (fun _ => (by with_unfolding_all rfl)) (by with_unfolding_all rfl) (fun _ => (by with_unfolding_all rfl)) ?_
  | with_reducible refine m_get (fun _ => (by with_unfolding_all rfl)) (by with_unfolding_all rfl) (fun _ => (by with_unfolding_all rfl)) (fun _ => (by with_unfolding_all rfl)) (fun _ => ⟨_, _, (by with_unfolding_all rfl)⟩) ?_
  | with_reducible refine m_setdefault (fun _ => (by with_unfolding_all rfl)) (by with_unfolding_all rfl) (fun _ => (by with_unfolding_all rfl)) (fun _ => (by with_unfolding_all rfl)) (fun _ => ⟨_, _, (by with_unfolding_all rfl)⟩) ?_
  | with_reducible refine ev_meth0 (fun _ => (by with_unfolding_all rfl)) (by with_unfolding_all rfl) (fun _ => (by with_unfolding_all rfl)) ?_
  | with_reducible refine ev_meth1 (fun _ => (by with_unfolding_all rfl)) (by with_unfolding_all rfl) (fun _ => (by with_unfolding_all rfl)) (fun _ => (by with_unfolding_all rfl)) (fun _ => ⟨_, _, (by with_unfolding_all rfl)⟩) ?_
  | with_reducible refine umeth (by assumption) (by with_unfolding_all rfl) (by with_unfolding_all rfl) (by kernel_rfl) (by kernel_rfl) ?_
  | with_reducible refine g_call0 (kOwn (by with_unfolding_all rfl)) (by with_unfolding_all rfl) (kKeep (by kernel_rfl)) ?_))

local macro_rules | `(tactic| k_ownIn) => `(tactic| repeat (first
  | with_reducible exact capt_nil
  | with_reducible refine capt_cons (by with_unfolding_all rfl) (by with_unfolding_all rfl) ?_
  | with_reducible exact wk_refl
  | with_reducible exact Wk.nil
  | with_reducible refine Wk.cons (by with_unfolding_all rfl) ?_
  | with_reducible refine wk_set (by with_unfolding_all rfl) ?_))
-- part H8
section
variable {c : Cx} [hK : IsK c] {n : Nat} {σ : Sg} {Q : V → Sg → Prop} {A : Adr} {cf : Cfg} {es : List (Int × V)} {X : St} {m : Nat} {st : List (List Dom × Lit)}
/-- what a turn leaves -/
structure Same (X X' : St) : Prop where
  bg : X'.bg = X.bg
  ov : X'.ov = X.ov
theorem an_off (H : Sys σ A cf es X) {b : Bool} : Sys (upd σ A.s (.ns 15 (srF A { X with an := b }))) A cf es { X with an := b } := H.oo (bg := X.bg) (ov := X.ov) (an := b) (nodes := X.nodes) (r := X.r) fun e => .inl ⟨e, rfl⟩
theorem se_turn_nil (H : Sys σ A cf es X) (R : Run cf m X []) (ha : X.an = true) (h : ∀ σ', Sys σ' A cf es { X with an := false } → Kp 1 15 σ σ' → Q (.bool false) σ') : CallV c (n + 8) (.ref 430) [.inst 504 A.s] σ Q := by
  have ho := H.o
  refine kCall (names := ["self"]) (by kernel_rfl) (by kernel_rfl) (by intro xs h; match xs, h with | [x0], _ => rfl) (by conv => lhs; whnf) (by conv => lhs; whnf) rfl ?_
  k_memK
  rw [ha]
  refine ⟨fun _ => ?_, fun q => (nomatch q)⟩
  k_memK
  rw [sr_an]
  have Y1 := an_off (b := false) H
  have K1 : Kp 1 15 σ (upd σ A.s (.ns 15 (srF A { X with an := false }))) := kp_upd H.o
  generalize upd σ A.s (.ns 15 (srF A { X with an := false })) = σ1 at Y1 K1
  clear ho
  have ho := Y1.o
  k_memK
  refine ⟨fun _ => ?_, fun q => (nomatch q)⟩
  k_memK
  exact se_round_nil Y1 R.lev.2 (h _ Y1 K1)
theorem se_turn (H : Sys σ A cf es X) {D : List Dom} {lt : Lit} (R : Run cf m X ((D, lt) :: st)) (ha : X.an = true)
    (h : ∀ X' σ', Sys σ' A cf es X' → Run cf m X' st → lists X'.S.ds = sp (lists D) lt false → NK X'.S.nw → X'.S.nw.length < 64 → X'.an = false → X'.nodes = X.nodes → Same X X' → Kp 1 15 σ σ' → Q (.bool true) σ') : CallV c (n + 8) (.ref 430) [.inst 504 A.s] σ Q := by
  obtain ⟨base, seg, ms, path, h0, h1, h2, h3, h4, h5, h6, h7⟩ := R.lev
  have hml := h7.ms
  have hb1 := R.b1
  have hb2 := R.b2
  have hb3 := R.b3
  have hpl : X.path.length = path.length + 1 := by rw [h2]; simp
  have htl : X.S.tr.length = base.length + seg.length := by rw [h0]; simp
  have hdn := R.doms.n
  obtain ⟨E, hE⟩ := cut_false h5 (litOf_ok h5.okl h6)
  have ho := H.o
  refine kCall (names := ["self"]) (by kernel_rfl) (by kernel_rfl) (by intro xs h; match xs, h with | [x0], _ => rfl) (by conv => lhs; whnf) (by conv => lhs; whnf) rfl ?_
  k_memK
  rw [ha]
  refine ⟨fun _ => ?_, fun q => (nomatch q)⟩
  k_memK
  rw [sr_an]
  have Y1 := an_off (b := false) H
  have K1 : Kp 1 15 σ (upd σ A.s (.ns 15 (srF A { X with an := false }))) := kp_upd H.o
  generalize upd σ A.s (.ns 15 (srF A { X with an := false })) = σ1 at Y1 K1
  clear ho
  have ho := Y1.o
  k_memK
  refine ⟨fun _ => ?_, fun q => (nomatch q)⟩
  k_memK
  have hlx : lt.x < 1000 := by
    rcases Nat.lt_or_ge lt.x D.length with q | q
    · have := h5.n; omega
    · have := hE.e; rw [List.getElem?_eq_none q] at this; cases this
  refine se_round Y1 (ms := ms) (base := base) (seg := seg) (path := path) (lt := lt) (E := E) h2 h1 h0 (by omega) (by show X.S.tr.length < 1000; omega) h4 (by show X.S.ds.length < 1000; omega) R.fok R.fne (by show X.rfs.length < 1000; omega) (by omega) (by show (undo seg X.S.ds)[lt.x]? = some E; rw [h3]; exact hE.e) hE.len hE.h0 hE.h1 fun a p rf σ2 Y2 K2 => ?_
  have e3 : undo seg ({ X with an := false } : St).S.ds = D := h3
  refine h _ _ Y2 ⟨?_, ?_, rfl, R.fok, R.fne, ?_, ?_, ?_, hb3⟩ ?_ ⟨by simp, fun k hk => ?_⟩ ?_ rfl rfl ⟨rfl, rfl⟩ (K1.trans K2)
  · show Doms ((undo seg X.S.ds).set _ _)
    rw [h3]; exact hE.doms
  · show ((undo seg X.S.ds).set _ _).length = m
    rw [List.length_set, undo_len]; exact R.len
  · show Lev cf st ((undo seg X.S.ds).set _ _) _ ms path
    rw [h3]; exact h7.add hE.e
  · show ((X.rfs.filter _) ++ [_]).length + path.length ≤ X.nodes
    have := List.length_filter_le (fun (x : Int × V) => decide (x.1 ≤ (path.length : Int))) X.rfs
    simp only [List.length_append, List.length_singleton]
    omega
  · show (base ++ [_]).length + path.length ≤ 2 * X.nodes
    simp only [List.length_append, List.length_singleton]
    omega
  · show lists ((undo seg X.S.ds).set _ _) = _
    rw [h3]; exact hE.is
  · have : k = lt.x := by simpa using hk
    omega
  · show 1 < 64; decide
theorem se_descend (H : Sys σ A cf es X) (R : Run cf m X st) (hnw : X.S.nw = []) {lt : Lit} (hl : litOf cf (lists X.S.ds) = some lt) (hF : X.nodes + 1 < 500)
    (h : ∀ X' σ', Sys σ' A cf es X' → Run cf m X' ((X.S.ds, lt) :: st) → lists X'.S.ds = sp (lists X.S.ds) lt true → X'.S.nw = [] → X'.an = X.an → X'.nodes = X.nodes + 1 → Same X X' → Kp 1 15 σ σ' → Q (.bool true) σ') : CallV c (n + 7) (.ref 423) [.inst 504 A.s, lV lt] σ Q := by
  have hms := R.lev.ms
  have hb1 := R.b1
  have hb2 := R.b2
  have hb3 := R.b3
  have hdn := R.doms.n
  obtain ⟨E, hE⟩ := cut_true R.doms (litOf_ok R.doms.okl hl)
  have hlx : lt.x < X.S.ds.length := by
    rcases Nat.lt_or_ge lt.x X.S.ds.length with q | q
    · exact q
    · have := hE.e; rw [List.getElem?_eq_none q] at this; cases this
  have ho := H.o
  refine kCall (names := ["self", "literal"]) (by kernel_rfl) (by kernel_rfl) (by intro xs h; match xs, h with | [x0, x1], _ => rfl) (by conv => lhs; whnf) (by conv => lhs; whnf) rfl ?_
  k_memK
  rw [sr_nodes]
  have Y1 : Sys (upd σ A.s (.ns 15 (srF A { X with nodes := X.nodes + 1 }))) A cf es { X with nodes := X.nodes + 1 } := H.oo (bg := X.bg) (ov := X.ov) (an := X.an) (nodes := X.nodes + 1) (r := X.r) fun e => .inl ⟨e, rfl⟩
  have K1 : Kp 1 15 σ (upd σ A.s (.ns 15 (srF A { X with nodes := X.nodes + 1 }))) := kp_upd H.o
  generalize upd σ A.s (.ns 15 (srF A { X with nodes := X.nodes + 1 })) = σ1 at Y1 K1
  clear ho
  have ho := Y1.o
  have hs := Y1.st.o
  k_memK
  refine st_push Y1.st (by show X.S.ms.length < 1000; omega) fun σ2 H2 K2 => ?_
  have Y2 := Y1.store H2 K2 rfl
  clear ho hs
  have ho := Y2.o
  k_memK
  refine ⟨_, _, _, rfl, Y2.p, ?_⟩
  k_memK
  refine ⟨_, _, Y2.p, by have := big1000; show (X.path.map lV).length < big; rw [List.length_map]; omega, ?_⟩
  have Y3 := Y2.pp (path := X.path ++ [lt])
  have e3 : (X.path ++ [lt]).map lV = X.path.map lV ++ [lV lt] := by simp
  have K3 : Kp 1 15 σ2 (upd σ2 X.p (.list 13 ((X.path ++ [lt]).map lV))) := kp_upd Y2.p
  change Sys (upd σ2 X.p (.list 13 ((X.path ++ [lt]).map lV))) _ _ _ _ at Y3
  rw [e3] at Y3 K3
  change ExS _ _ _ _ (upd σ2 X.p (.list 13 (X.path.map lV ++ [lV lt]))) _ _ _
  generalize upd σ2 X.p (.list 13 (X.path.map lV ++ [lV lt])) = σ3 at Y3 K3
  clear ho
  have ho := Y3.o
  have hs := Y3.st.o
  have he := Y3.en.o
  k_memK
  refine st_decide Y3.st (by omega) hE.len hE.e hE.h0 hE.h1 (by show X.S.tr.length < 1000; omega) (by show X.S.nw.length < 1000; rw [hnw]; decide) fun σ4 H4 K4 => ?_
  have Y4 := Y3.store H4 K4 (by simp)
  clear ho hs he
  have ho := Y4.o
  have he := Y4.en.o
  k_memK
  refine ⟨fun _ => ?_, fun q => (nomatch q)⟩
  k_memK
  have hnk : NK (putI X.S.nw (lt.x : Int) (.bool true)) := by rw [hnw]; exact ⟨by simp [putI], fun k hk => by simp [putI] at hk; omega⟩
  have hnl : (putI X.S.nw (lt.x : Int) (.bool true)).length < 64 := by rw [hnw]; simp [putI]
  refine en_propagate Y4.st Y4.en hnk hnl R.fl fun w σ5 H5 E5 K5 => ?_
  have Y5 := Y4.eng H5 E5 K5 rfl
  refine h _ _ Y5 ⟨hE.doms, ?_, R.fl, R.fok, R.fne, ?_, ?_, ?_, hF⟩ hE.is rfl rfl rfl ⟨rfl, rfl⟩ ((((K1.trans K2.kp).trans K3).trans K4.kp).trans K5.wide)
  · show (X.S.ds.set _ _).length = m
    rw [List.length_set]; exact R.len
  · refine ⟨X.S.tr, [⟨lt.x, E, lv lt.x lt.s lt.k, .none, -1⟩], X.S.ms, X.path, rfl, rfl, rfl, undo_snoc (seg := []) hE.e, fun e he => ?_, R.doms, hl, R.lev⟩
    simp at he; subst he
    show lt.x < (X.S.ds.set _ _).length
    rw [List.length_set]; exact hlx
  · show X.rfs.length + (X.path ++ [lt]).length ≤ X.nodes + 1
    simp only [List.length_append, List.length_singleton]; omega
  · show (X.S.tr ++ [_]).length + (X.path ++ [lt]).length ≤ 2 * (X.nodes + 1)
    simp only [List.length_append, List.length_singleton]; omega
theorem se_choose (H : Sys σ A cf es X) (R : Run cf m X st) (hd : DegOk cf es) (hbg : X.bg = true) (hr : ∀ x ∈ cf.row, x < m) (h3 : cf.row.length ≤ 3)
    (h : ∀ σ', (∀ a, σ a ≠ none → σ' a = σ a) → Q (oV (litOf cf (lists X.S.ds))) σ') : CallV c (n + 6) (.ref 461) [.inst 504 A.s] σ Q := by
  have ho := H.o
  have hb := H.br.o
  have hm := R.len
  refine kCall (names := ["self"]) (by kernel_rfl) (by kernel_rfl) (by intro xs h; match xs, h with | [x0], _ => rfl) (by conv => lhs; whnf) (by conv => lhs; whnf) rfl ?_
  k_memK
  refine br_choose H.st R.doms H.br hd (by rw [hm]; exact hr) h3 fun σ1 k1 => ?_
  have Y1 := H.any k1
  clear ho hb
  have ho := Y1.o
  obtain ⟨rd, hrd⟩ := Y1.rs hbg
  have hrr := hrd.o
  unfold litOf at h
  k_memK
  cases e : lawLit cf.o cf.ch cf.dg cf.row (lists X.S.ds) with
  | some l =>
    rw [e] at h
    refine ⟨fun q => (nomatch q), fun _ => ?_⟩
    k_memK
    exact h _ k1
  | none =>
    rw [e] at h
    refine ⟨fun _ => ?_, fun q => (nomatch q)⟩
    k_memK
    have e2 : (lists X.S.ds).length = X.S.ds.length := by simp
    rw [e2] at h
    refine br_choose Y1.st R.doms hrd (fun q => absurd q (show ¬ (("input_order" : Str) = "most_constrained") by decide)) (fun x hx => List.mem_range.mp hx) (by show (List.range X.S.ds.length).length ≤ 3; rw [List.length_range]; exact R.doms.n) fun σ2 k2 => ?_
    exact h _ fun a ha => (k2 a (by rw [k1 a ha]; exact ha)).trans (k1 a ha)
theorem se_answer (H : Sys σ A cf es X) (R : Run cf m X st) (h : ∀ σ', Sys σ' A cf es { X with an := true } → Kp 1 15 σ σ' → Q (.tup (numV (heads (lists X.S.ds)))) σ') : CallV c (n + 2) (.ref 466) [.inst 504 A.s] σ Q := by
  have ho := H.o
  have hdn := R.doms.n
  refine kCall (names := ["self"]) (by kernel_rfl) (by kernel_rfl) (by intro xs h; match xs, h with | [x0], _ => rfl) (by conv => lhs; whnf) (by conv => lhs; whnf) rfl ?_
  k_memK
  rw [sr_an]
  have Y1 := an_off (b := true) H
  have K1 : Kp 1 15 σ (upd σ A.s (.ns 15 (srF A { X with an := true }))) := kp_upd H.o
  generalize upd σ A.s (.ns 15 (srF A { X with an := true })) = σ1 at Y1 K1
  clear ho
  have ho := Y1.o
  have hs := Y1.st.o
  k_memK
  refine ev_comp_pure [("self", .inst 504 A.s)] (rl 0 X.S.ds.length) (fun v => match v with | .int k => some (.int ((at' (lists X.S.ds) k.toNat).headD 0)) | _ => none) (by unfold rl; have := big1000; simp; omega) (by with_unfolding_all rfl) (by k_ownIn) (fun _ _ => rfl) ?_ ?_ ?_
  · k_memK
    refine st_size Y1.st ?_
    k_memK
    exact it_rng ⟨by decide, by decide, by show -(2 ^ 18) ≤ (X.S.ds.length : Int); omega, by show (X.S.ds.length : Int) < 2 ^ 18; omega⟩ fun a ha => ⟨ha, rfl⟩
  · intro σ' hσ v hv
    unfold rl at hv
    obtain ⟨k, hk, rfl⟩ := List.mem_map.mp hv
    have hkm : k < X.S.ds.length := by have := List.mem_range.mp hk; omega
    have Y2 := Y1.any hσ
    have ho2 := Y2.o
    have hs2 := Y2.st.o
    have e0 : (0 : Int) + k = k := by omega
    rw [e0]
    refine ct_name (by with_unfolding_all rfl) ⟨rfl, by k_ownIn, ?_⟩
    refine ⟨rfl, fun _ => ?_, fun q => (nomatch q)⟩
    k_memK
    exact sl_value Y2.st R.doms hkm ⟨rfl, rfl⟩
  · k_memK
    have e : List.filterMap (fun v => match v with | V.int k => some (V.int ((at' (lists X.S.ds) k.toNat).headD 0)) | _ => none) (rl 0 X.S.ds.length) = numV (heads (lists X.S.ds)) := by
      unfold rl heads numV
      rw [List.filterMap_map]
      have e1 : ((fun v => match v with | V.int k => some (V.int ((at' (lists X.S.ds) k.toNat).headD 0)) | _ => none) ∘ fun (k : Nat) => V.int (0 + (k : Int))) = fun (k : Nat) => some (V.int ((at' (lists X.S.ds) k).headD 0)) := by
        funext k
        show some (V.int ((at' (lists X.S.ds) ((0 + (k : Int)).toNat)).headD 0)) = _
        have : (0 + (k : Int)).toNat = k := by omega
        rw [this]
      rw [e1]
      have e2 : ((X.S.ds.length : Int) - 0).toNat = (lists X.S.ds).length := by simp
      rw [e2]
      generalize lists X.S.ds = L
      show List.filterMap (some ∘ fun (k : Nat) => V.int ((at' L k).headD 0)) _ = _
      rw [List.filterMap_eq_map]
      rw [List.map_map]
      apply List.ext_getElem
      · simp
      · intro i h1 h2
        have hi : i < L.length := by simpa using h2
        simp [at', hi]
    rw [e]
    exact c_tuple_lst (h _ Y1 K1)
end
-- part H9
structure CP (cf : Cfg) (m F : Nat) (X : St) (st : List (List Dom × Lit)) (todo : List (List Int)) : Prop where
  run : Run cf m X st
  nw : X.S.nw = []
  bg : X.bg = true
  an : X.an = false
  ov : X.ov = false
  td : (T cf (lists X.S.ds)).1 ++ pend cf st = todo
  F : X.nodes + (T cf (lists X.S.ds)).2 + pendF cf st = F
inductive Rdy (cf : Cfg) (m F : Nat) (X : St) (todo : List (List Int)) : Prop
  | fresh (run : Run cf m X []) (nw : X.S.nw = []) (bg : X.bg = false) (an : X.an = false) (ov : X.ov = false) (nodes : X.nodes = 0) (td : (T cf (lists X.S.ds)).1 = todo) (hF : (T cf (lists X.S.ds)).2 = F) : Rdy cf m F X todo
  | mid (st : List (List Dom × Lit)) (run : Run cf m X st) (bg : X.bg = true) (an : X.an = true) (ov : X.ov = false) (td : pend cf st = todo) (hF : X.nodes + pendF cf st = F) : Rdy cf m F X todo
  | over (ov : X.ov = true) (td : todo = []) (hF : X.nodes = F) : Rdy cf m F X todo
structure Fx (cf : Cfg) (es : List (Int × V)) (m F : Nat) : Prop where
  hd : DegOk cf es
  hr : ∀ x ∈ cf.row, x < m
  h3 : cf.row.length ≤ 3
  hF : F < 500
def hdV : List (List Int) → V
  | [] => .none
  | t :: _ => .tup (numV t)
section
variable {c : Cx} [hK : IsK c] {n : Nat} {σ : Sg} {Q : V → Sg → Prop} {A : Adr} {cf : Cfg} {es : List (Int × V)} {X : St} {m F : Nat} {st : List (List Dom × Lit)} {todo : List (List Int)}
theorem Sys.begin (H : Sys σ A cf es X) {σ2 : Sg} {r rd : Addr} (k : ∀ a, upd σ A.s (.ns 15 (srF A { X with bg := true })) a ≠ none → σ2 a = upd σ A.s (.ns 15 (srF A { X with bg := true })) a) (hb : HasB σ2 r rd (cfR cf X.S.ds.length) []) :
    Sys (upd σ2 A.s (.ns 15 (srF A { X with bg := true, r := r }))) A cf es { X with bg := true, r := r } ∧ Kp 15 15 σ (upd σ2 A.s (.ns 15 (srF A { X with bg := true, r := r }))) ∧ σ2 A.s = some (.ns 15 (srF A { X with bg := true })) := by
  have e1 : σ2 A.s = some (.ns 15 (srF A { X with bg := true })) := by rw [k _ (by rw [upd_same]; exact fun z => nomatch z)]; exact upd_same
  have k2 : Kp 15 15 σ2 (upd σ2 A.s (.ns 15 (srF A { X with bg := true, r := r }))) := kp_upd e1
  have kk : Kp 15 15 σ (upd σ2 A.s (.ns 15 (srF A { X with bg := true, r := r }))) := by
    intro a o e t
    have ha : a ≠ A.s := by rintro rfl; rw [H.o] at e; cases e; simp [AO.tag] at t
    have h1 : upd σ A.s (.ns 15 (srF A { X with bg := true })) a = some o := upd_ne ha e
    exact upd_ne ha ((k a (by rw [h1]; exact fun z => nomatch z)).trans h1)
  exact ⟨⟨H.st.kp (hi := 15) fun a o e t => kk a o e (by omega), H.en.kp kk, H.br.kp kk, fun _ => ⟨rd, hb.kp k2⟩, upd_same, kk _ _ H.p (by simp [AO.tag]), kk _ _ H.rf (by simp [AO.tag])⟩, kk, e1⟩
theorem se_go_on (H : Sys σ A cf es X) (R : Rdy cf m F X todo) (hov : X.ov = false)
    (h1 : ∀ X' st σ', Sys σ' A cf es X' → CP cf m F X' st todo → Kp 1 15 σ σ' → Q (.bool true) σ') (h2 : todo = [] → ∀ X' σ', Sys σ' A cf es X' → X'.nodes = F → Kp 1 15 σ σ' → Q .none σ') : CallV c (n + 9) (.ref 473) [.inst 504 A.s] σ Q := by
  have ho := H.o
  refine kCall (names := ["self"]) (by kernel_rfl) (by kernel_rfl) (by intro xs h; match xs, h with | [x0], _ => rfl) (by conv => lhs; whnf) (by conv => lhs; whnf) rfl ?_
  k_memK
  cases R with
  | over ov => rw [hov] at ov; cases ov
  | fresh run nw bg an ov nodes td hF =>
    have hdn := run.doms.n
    rw [bg]
    refine ⟨fun _ => ?_, fun q => (nomatch q)⟩
    k_memK
    rw [sr_bg]
    have hs1 := H.st.kp (kp_upd (p := .ns 15 (srF A { X with bg := true })) H.o : Kp 7 15 σ _)
    have hs := hs1.o
    have ho1 : upd σ A.s (.ns 15 (srF A { X with bg := true })) A.s = some (.ns 15 (srF A { X with bg := true })) := upd_same
    have beg := @Sys.begin σ A cf es X H
    generalize upd σ A.s (.ns 15 (srF A { X with bg := true })) = σ1 at hs1 hs ho1 beg
    clear ho
    k_memK
    refine st_size hs1 ?_
    k_memK
    refine c_list_rng ⟨by decide, by decide, by show -(2 ^ 18) ≤ (X.S.ds.length : Int); omega, by show (X.S.ds.length : Int) < 2 ^ 18; omega⟩ ?_
    k_memK
    refine br_new (cf := cfR cf X.S.ds.length) (.inl ?_) fun r rd σ2 hB k2 => ?_
    · congr 1
      unfold rl nV
      rw [show ((X.S.ds.length : Int) - 0).toNat = X.S.ds.length by omega]
      apply List.map_congr_left
      intro k _
      rw [Int.zero_add]
    obtain ⟨Y2, K2, ho2⟩ := beg k2 hB
    clear hs
    k_memK
    rw [sr_rest]
    generalize upd σ2 A.s (.ns 15 (srF A { ({ X with bg := true } : St) with r := r })) = σ3 at Y2 K2
    have ho3 := Y2.o
    have he3 := Y2.en.o
    clear ho1 ho2
    k_memK
    refine se_aim Y2 ?_
    k_memK
    refine ⟨fun _ => ?_, fun q => (nomatch q)⟩
    k_memK
    refine en_propagate Y2.st Y2.en (by rw [nw]; exact ⟨by simp, fun k hk => by cases hk⟩) (by rw [nw]; decide) run.fl fun w σ4 H4 E4 K4 => ?_
    have Y4 := Y2.eng H4 E4 K4 rfl
    refine h1 _ [] _ Y4 ⟨⟨run.doms, run.len, run.fl, run.fok, run.fne, run.lev, run.b1, run.b2, run.b3⟩, rfl, rfl, an, ov, ?_, ?_⟩ (K2.wide.trans K4.wide)
    · show (T cf (lists X.S.ds)).1 ++ [] = todo
      rw [List.append_nil]; exact td
    · show X.nodes + (T cf (lists X.S.ds)).2 + 0 = F
      omega
  | mid st run bg an ov td hF =>
    rw [bg]
    refine ⟨fun q => (nomatch q), fun _ => ?_⟩
    k_memK
    cases st with
    | nil =>
      refine se_turn_nil H run an fun σ1 Y1 K1 => ?_
      k_memK
      refine ⟨fun q => (nomatch q), fun _ => ?_⟩
      k_memK
      exact h2 td.symm _ _ Y1 hF K1
    | cons fr st =>
      obtain ⟨D, lt⟩ := fr
      refine se_turn H run an fun X1 σ1 Y1 R1 hl hnk hnl ha hn hsm K1 => ?_
      clear ho
      have ho := Y1.o
      have he := Y1.en.o
      k_memK
      refine ⟨fun _ => ?_, fun q => (nomatch q)⟩
      k_memK
      refine en_propagate Y1.st Y1.en hnk hnl R1.fl fun w σ2 H2 E2 K2 => ?_
      have Y2 := Y1.eng H2 E2 K2 rfl
      refine h1 _ st _ Y2 ⟨⟨R1.doms, R1.len, R1.fl, R1.fok, R1.fne, R1.lev, R1.b1, R1.b2, R1.b3⟩, rfl, hsm.bg.trans bg, ha, hsm.ov.trans ov, ?_, ?_⟩ (K1.trans K2.wide)
      · show (T cf (lists X1.S.ds)).1 ++ pend cf st = todo
        rw [hl, ← td]; rfl
      · show X1.nodes + (T cf (lists X1.S.ds)).2 + pendF cf st = F
        rw [hl, hn, ← hF]
        show _ = X.nodes + ((T cf (sp (lists D) lt false)).2 + pendF cf st)
        omega
theorem se_next (H : Sys σ A cf es X) (R : Rdy cf m F X todo) (fx : Fx cf es m F)
    (h : ∀ X' σ', Sys σ' A cf es X' → Rdy cf m F X' todo.tail → (todo = [] → X'.nodes = F) → Kp 1 15 σ σ' → Q (hdV todo) σ') : CallV c (n + 10) (.ref 480) [.inst 504 A.s] σ Q := by
  have ho := H.o
  refine kCall (names := ["self"]) (by kernel_rfl) (by kernel_rfl) (by intro xs h; match xs, h with | [x0], _ => rfl) (by conv => lhs; whnf) (by conv => lhs; whnf) rfl ?_
  refine s_assign (ev_mono (Q := fun v σ' => (v = .bool true ∧ ∃ X' st, Sys σ' A cf es X' ∧ CP cf m F X' st todo ∧ Kp 1 15 σ σ') ∨ (v = .none ∧ todo = [] ∧ ∃ X', Sys σ' A cf es X' ∧ X'.nodes = F ∧ Kp 1 15 σ σ')) ?_ fun v σ1 hG => ?_) (fun _ => (by with_unfolding_all rfl)) (fun _ _ => (by with_unfolding_all rfl)) (fun _ => (by with_unfolding_all rfl))
  · k_memK
    refine ⟨fun q => ?_, fun q => ?_⟩
    · k_memK
      cases R with
      | over ov td hF => exact .inr ⟨rfl, td, X, H, hF, Kp.refl⟩
      | fresh run nw bg an ov => rw [ov] at q; cases q
      | mid st run bg an ov => rw [ov] at q; cases q
    · k_memK
      exact se_go_on H R q (fun X' st σ' Y C K => .inl ⟨rfl, X', st, Y, C, K⟩) fun e X' σ' Y hN K => .inr ⟨rfl, e, X', Y, hN, K⟩
  clear ho
  k_memK
  have hJ : ∃ k, ((v = .bool true ∧ ∃ X' st, Sys σ1 A cf es X' ∧ CP cf m F X' st todo ∧ Kp 1 15 σ σ1 ∧ k = tot (lists X'.S.ds)) ∨ (v = .none ∧ todo = [] ∧ ∃ X', Sys σ1 A cf es X' ∧ X'.nodes = F ∧ Kp 1 15 σ σ1 ∧ k = 0)) := by
    rcases hG with ⟨e, X', st, h1, h2, h3⟩ | ⟨e, ht, X', h1, h2, h3⟩
    · exact ⟨_, .inl ⟨e, X', st, h1, h2, h3, rfl⟩⟩
    · exact ⟨_, .inr ⟨e, ht, X', h1, h2, h3, rfl⟩⟩
  obtain ⟨k, hJ⟩ := hJ
  refine s_while (fun k ρ' σ' => ∃ v, ρ' = ([("self", .inst 504 A.s), ("stands", v)] : Rho) ∧ ((v = .bool true ∧ ∃ X' st, Sys σ' A cf es X' ∧ CP cf m F X' st todo ∧ Kp 1 15 σ σ' ∧ k = tot (lists X'.S.ds)) ∨ (v = .none ∧ todo = [] ∧ ∃ X', Sys σ' A cf es X' ∧ X'.nodes = F ∧ Kp 1 15 σ σ' ∧ k = 0))) k _ (by k_ownIn : Wk [("self", .inst 504 A.s), ("stands", v)] _) ⟨v, rfl, hJ⟩ ?_
  clear hJ hG
  rintro k ρ' σ2 ⟨v, rfl, ⟨rfl, X2, st, Y2, C2, K2, rfl⟩ | ⟨rfl, ht, X2, Y2, hN, K2, rfl⟩⟩
  · have ho := Y2.o
    k_memK
    refine ⟨fun _ => ?_, fun q => (nomatch q)⟩
    k_memK
    refine ⟨fun q => (nomatch q), fun _ => ?_⟩
    k_memK
    refine ⟨fun q => (nomatch q), fun _ => ?_⟩
    refine ⟨fun q => (nomatch q), fun _ => ?_⟩
    k_memK
    refine se_choose Y2 C2.run fx.hd C2.bg fx.hr fx.h3 fun σ3 k3 => ?_
    have Y3 := Y2.any k3
    have K3 : Kp 1 15 σ2 σ3 := Kp.any k3
    clear ho
    have ho := Y3.o
    k_memK
    cases hl : litOf cf (lists X2.S.ds) with
    | none =>
      refine ⟨fun _ => ?_, fun q => (nomatch q)⟩
      k_memK
      have ht := C2.td
      have hF := C2.F
      rw [T_leaf hl] at ht hF
      refine se_answer Y3 C2.run fun σ4 Y4 K4 => ?_
      subst ht
      refine h _ _ Y4 (.mid st ⟨C2.run.doms, C2.run.len, C2.run.fl, C2.run.fok, C2.run.fne, C2.run.lev, C2.run.b1, C2.run.b2, C2.run.b3⟩ C2.bg rfl C2.ov rfl ?_) (fun e => nomatch e) ((K2.trans K3).trans K4)
      exact hF
    | some lt =>
      refine ⟨fun q => (nomatch q), fun _ => ?_⟩
      k_memK
      have ht := C2.td
      have hF := C2.F
      have hFx := fx.hF
      rw [T_fork C2.run.doms.okl hl] at ht hF
      dsimp only at ht hF
      refine se_descend Y3 C2.run C2.nw hl (by omega) fun X4 σ4 Y4 R4 hls hnw ha hn hsm K4 => ?_
      k_memK
      refine ⟨_, _, ?_, (by k_ownIn : Wk [("self", .inst 504 A.s), ("stands", .bool true)] _), _, rfl, .inl ⟨rfl, X4, _, Y4, ⟨R4, hnw, hsm.bg.trans C2.bg, ha.trans C2.an, hsm.ov.trans C2.ov, ?_, ?_⟩, (K2.trans K3).trans K4, rfl⟩⟩
      · rw [hls]; exact tot_sp (litOf_ok C2.run.doms.okl hl)
      · rw [hls, ← ht, List.append_assoc]; rfl
      · rw [hls, hn, ← hF]
        show _ + ((T cf (sp (lists X2.S.ds) lt false)).2 + pendF cf st) = _
        omega
  · have ho := Y2.o
    k_memK
    refine ⟨fun q => (nomatch q), fun _ => ?_⟩
    k_memK
    rw [sr_ov]
    have Y3 : Sys (upd σ2 A.s (.ns 15 (srF A { X2 with ov := true }))) A cf es { X2 with ov := true } := Y2.oo (bg := X2.bg) (ov := true) (an := X2.an) (nodes := X2.nodes) (r := X2.r) fun e => .inl ⟨e, rfl⟩
    subst ht
    exact h _ _ Y3 (.over rfl rfl hN) (fun _ => hN) (K2.trans (kp_upd Y2.o))
end
-- part HA
abbrev tV (t : List Int) : V := .tup (numV t)
def tk (lim : Nat) (todo : List (List Int)) : List (List Int) := if lim = 0 then todo else todo.take lim
def dk (lim : Nat) (todo : List (List Int)) : List (List Int) := if lim = 0 then [] else todo.drop lim
theorem kp_old {lo hi : Nat} {σ σ' : Sg} {b : Addr} {o : AO} (h : Kp lo hi σ σ') (hb : σ b = none) : Kp lo hi σ (upd σ' b o) :=
  fun a p e t => upd_ne (ne_of_none e hb) (h a p e t)
section
variable {c : Cx} [hK : IsK c] {n : Nat} {σ : Sg} {Q : V → Sg → Prop} {A : Adr} {cf : Cfg} {es : List (Int × V)} {X : St} {m F : Nat} {todo : List (List Int)}
theorem se_all (H : Sys σ A cf es X) {lim : Nat} (R : Rdy cf m F X todo) (fx : Fx cf es m F) (hb : todo.length ≤ 1000)
    (h : ∀ X' fa σ', σ fa = none → Sys σ' A cf es X' → Rdy cf m F X' (dk lim todo) → σ' fa = some (.list 20 ((tk lim todo).map tV)) → Kp 1 15 σ σ' → Q (.ref fa) σ') : CallV c (n + 11) (.ref 494) [.inst 504 A.s, .int lim] σ Q := by
  have ho := H.o
  refine kCall (names := ["self", "limit"]) (by kernel_rfl) (by kernel_rfl) (by intro xs h; match xs, h with | [x0, x1], _ => rfl) (by conv => lhs; whnf) (by conv => lhs; whnf) rfl ?_
  k_memK
  refine ev_mlist 20 ?_
  k_memK
  refine ⟨Nat.zero_le _, fun fa hfa => ?_⟩
  have Y1 := H.any (new_any (o := .list 20 []) hfa)
  have K1 : Kp 1 15 σ (upd σ fa (.list 20 [])) := kp_new hfa
  have hf1 : upd σ fa (.list 20 []) fa = some (.list 20 []) := upd_same
  generalize upd σ fa (.list 20 []) = σ1 at Y1 K1 hf1
  clear ho
  k_memK
  refine s_while (fun k ρ' σ' => ∃ E R X', todo = E ++ R ∧ (lim = 0 ∨ E.length ≤ lim) ∧ ρ' = ([("self", .inst 504 A.s), ("limit", .int lim), ("found", .ref fa)] : Rho) ∧ Sys σ' A cf es X' ∧ Rdy cf m F X' R ∧ σ' fa = some (.list 20 (E.map tV)) ∧ Kp 1 15 σ σ' ∧ k = R.length) todo.length _ (by k_ownIn : Wk [("self", .inst 504 A.s), ("limit", .int lim), ("found", .ref fa)] _) ⟨[], todo, X, rfl, .inr (Nat.zero_le _), rfl, Y1, R, hf1, K1, rfl⟩ ?_
  rintro k ρ' σ2 ⟨E, R2, X2, hER, hlim, rfl, Y2, R2d, hf2, K2, rfl⟩
  have ho := Y2.o
  have hlen : todo.length = E.length + R2.length := by rw [hER]; simp
  have body : ∀ (Z : Prop), ((lim = 0 ∨ E.length < lim) → Z) → Z ∨ True := fun _ _ => .inr trivial
  k_memK
  have stop : ∀ σ3 X3, Sys σ3 A cf es X3 → Rdy cf m F X3 (dk lim todo) → E = tk lim todo → σ3 fa = some (.list 20 (E.map tV)) → Kp 1 15 σ σ3 → Q (.ref fa) σ3 := fun σ3 X3 Y3 R3 he hf3 K3 => h X3 fa σ3 hfa Y3 R3 (by rw [← he]; exact hf3) K3
  refine ⟨fun hq => ?_, fun hq => ?_⟩
  · have hl0 : lim = 0 := by have := eq_of_beq hq; omega
    refine ⟨fun _ => ?_, fun q => (nomatch q)⟩
    k_memK
    refine se_next Y2 R2d fx fun X3 σ3 Y3 R3 _ K3 => ?_
    have hf3 := K3 _ _ hf2 (by simp [AO.tag])
    k_memK
    cases R2 with
    | nil =>
      refine ⟨fun _ => ?_, fun q => (nomatch q)⟩
      k_memK
      refine stop σ3 X3 Y3 (by unfold dk; rw [if_pos hl0]; exact R3) (by unfold tk; rw [if_pos hl0, hER]; simp) hf3 (K2.trans K3)
    | cons t R2 =>
      refine ⟨fun q => (nomatch q), fun _ => ?_⟩
      k_memK
      refine ⟨_, _, _, rfl, hf3, ?_⟩
      k_memK
      refine ⟨_, _, hf3, by have := big1000; simp at hlen ⊢; omega, ?_⟩
      have Y4 := Y3.kp (kp_upd (lo := 16) (hi := 20) (p := .list 20 (E.map tV ++ [tV t])) hf3)
      k_memK
      refine ⟨R2.length, _, by simp, (by k_ownIn : Wk [("self", .inst 504 A.s), ("limit", .int lim), ("found", .ref fa)] _), E ++ [t], R2, X3, by rw [hER]; simp, .inl hl0, rfl, Y4, R3, by rw [List.map_append]; exact upd_same, kp_old (K2.trans K3) hfa, rfl⟩
  · have hl0 : lim ≠ 0 := fun e => by rw [e] at hq; cases hq
    k_memK
    refine c_len_ref hf2 ?_
    k_memK
    refine ⟨fun hq2 => ?_, fun hq2 => ?_⟩
    · have hlt : E.length < lim := by have := of_decide_eq_true hq2; simp at this; omega
      refine ⟨fun _ => ?_, fun q => (nomatch q)⟩
      k_memK
      refine se_next Y2 R2d fx fun X3 σ3 Y3 R3 _ K3 => ?_
      have hf3 := K3 _ _ hf2 (by simp [AO.tag])
      k_memK
      cases R2 with
      | nil =>
        refine ⟨fun _ => ?_, fun q => (nomatch q)⟩
        k_memK
        have he : todo = E := by rw [hER]; simp
        refine stop σ3 X3 Y3 ?_ (by unfold tk; rw [if_neg hl0, he]; exact (List.take_of_length_le (by omega)).symm) hf3 (K2.trans K3)
        unfold dk; rw [if_neg hl0, he, List.drop_of_length_le (by omega)]; exact R3
      | cons t R2 =>
        refine ⟨fun q => (nomatch q), fun _ => ?_⟩
        k_memK
        refine ⟨_, _, _, rfl, hf3, ?_⟩
        k_memK
        refine ⟨_, _, hf3, by have := big1000; simp at hlen ⊢; omega, ?_⟩
        have Y4 := Y3.kp (kp_upd (lo := 16) (hi := 20) (p := .list 20 (E.map tV ++ [tV t])) hf3)
        k_memK
        refine ⟨R2.length, _, by simp, (by k_ownIn : Wk [("self", .inst 504 A.s), ("limit", .int lim), ("found", .ref fa)] _), E ++ [t], R2, X3, by rw [hER]; simp, .inr (by simp; omega), rfl, Y4, R3, by rw [List.map_append]; exact upd_same, kp_old (K2.trans K3) hfa, rfl⟩
    · have hge : E.length = lim := by
        have := of_decide_eq_false hq2
        simp at this
        rcases hlim with q | q
        · exact absurd q hl0
        · omega
      k_memK
      refine ⟨fun q => (nomatch q), fun _ => ?_⟩
      k_memK
      refine stop σ2 X2 Y2 ?_ (by unfold tk; rw [if_neg hl0, hER, ← hge]; simp) hf2 K2
      unfold dk; rw [if_neg hl0, hER, ← hge]; simpa using R2d
end
-- part HB
theorem keepu {σ : Sg} {a x : Addr} {o p : AO} (h : σ x = some p) (ha : σ a = none) : upd σ a o x = some p := upd_ne (ne_of_none h ha) h
theorem upd_self {σ : Sg} {a : Addr} {o : AO} (h : σ a = some o) : upd σ a o = σ := by
  funext x; unfold upd; split
  · rename_i q; rw [q, h]
  · rfl
abbrev Old (σ σ' : Sg) : Prop := ∀ a, σ a ≠ none → σ' a = σ a
theorem Old.refl {σ : Sg} : Old σ σ := fun _ _ => rfl
theorem Old.trans {σ σ₁ σ₂ : Sg} (h : Old σ σ₁) (k : Old σ₁ σ₂) : Old σ σ₂ := fun a ha => (k a (by rw [h a ha]; exact ha)).trans (h a ha)
theorem Old.new {σ σ₁ : Sg} {b : Addr} {o : AO} (h : Old σ σ₁) (hb : σ₁ b = none) : Old σ (upd σ₁ b o) := h.trans (new_any hb)
theorem Old.upd {σ σ₁ : Sg} {b : Addr} {o : AO} (h : Old σ σ₁) (hb : σ b = none) : Old σ (upd σ₁ b o) := fun a ha => upd_ne (fun e => ha (e ▸ hb)) (h a ha)
section
variable {c : Cx} [hK : IsK c] {n : Nat} {σ : Sg} {Q : V → Sg → Prop} {cf : Cfg} {es : List (Int × V)}
theorem st_new (h : ∀ l a σ', Has σ' l a ⟨[], [], [], [], [], -1, false, .tup []⟩ → Old σ σ' → Q (.inst 658 l) σ') : CallV c (n + 2) (.ref 658) [] σ Q := by
  refine kNew (a := 522) 6 (names := ["self"]) (by kernel_rfl) (by kernel_rfl) (by kernel_rfl) (by intro xs h; match xs, h with | [x0], _ => rfl) (by conv => lhs; whnf) (by conv => lhs; whnf) rfl fun l hl => ?_
  k_memK
  refine ulist 1 rfl fun d hd ndl => ?_
  have f1 : upd σ d (.list 1 []) d = some (.list 1 []) := upd_same
  have O1 := Old.refl.new (o := .list 1 []) hd
  have l1 : upd σ d (.list 1 []) l = none := upd_ne ndl.symm hl
  generalize upd σ d (.list 1 []) = σ1 at f1 O1 l1
  k_memK
  refine ulist 2 rfl fun f hf nfl => ?_
  have f2 := keepu (o := .list 2 []) f1 hf
  have g2 : upd σ1 f (.list 2 []) f = some (.list 2 []) := upd_same
  have O2 := O1.new (o := .list 2 []) hf
  have l2 : upd σ1 f (.list 2 []) l = none := upd_ne nfl.symm l1
  generalize upd σ1 f (.list 2 []) = σ2 at f2 g2 O2 l2
  k_memK
  refine ulist 3 rfl fun t ht ntl => ?_
  have f3 := keepu (o := .list 3 []) f2 ht
  have g3 := keepu (o := .list 3 []) g2 ht
  have h3 : upd σ2 t (.list 3 []) t = some (.list 3 []) := upd_same
  have O3 := O2.new (o := .list 3 []) ht
  have l3 : upd σ2 t (.list 3 []) l = none := upd_ne ntl.symm l2
  generalize upd σ2 t (.list 3 []) = σ3 at f3 g3 h3 O3 l3
  k_memK
  refine ulist 4 rfl fun m hm nml => ?_
  have f4 := keepu (o := .list 4 []) f3 hm
  have g4 := keepu (o := .list 4 []) g3 hm
  have h4 := keepu (o := .list 4 []) h3 hm
  have i4 : upd σ3 m (.list 4 []) m = some (.list 4 []) := upd_same
  have O4 := O3.new (o := .list 4 []) hm
  have l4 : upd σ3 m (.list 4 []) l = none := upd_ne nml.symm l3
  generalize upd σ3 m (.list 4 []) = σ4 at f4 g4 h4 i4 O4 l4
  k_memK
  refine uidict 5 rfl fun w hw nwl => ?_
  have f5 := keepu (o := .idict 5 []) f4 hw
  have g5 := keepu (o := .idict 5 []) g4 hw
  have h5 := keepu (o := .idict 5 []) h4 hw
  have i5 := keepu (o := .idict 5 []) i4 hw
  have j5 : upd σ4 w (.idict 5 []) w = some (.idict 5 []) := upd_same
  have O5 := O4.new (o := .idict 5 []) hw
  have l5 : upd σ4 w (.idict 5 []) l = none := upd_ne nwl.symm l4
  generalize upd σ4 w (.idict 5 []) = σ5 at f5 g5 h5 i5 j5 O5 l5
  k_memK
  refine ⟨Nat.le_of_ble_eq_true (by with_unfolding_all rfl), ?_⟩
  k_memK
  exact h l ⟨d, f, t, m, w⟩ _ ⟨upd_same, upd_ne ndl f5, upd_ne nfl g5, upd_ne ntl h5, upd_ne nml i5, upd_ne nwl j5⟩ (O5.upd hl)
theorem en_new {l0 : Addr} (h : ∀ e ea σ', HasE σ' e ea l0 → Old σ σ' → Q (.inst 330 e) σ') : CallV c (n + 2) (.ref 330) [.inst 658 l0] σ Q := by
  refine kNew (a := 285) 10 (names := ["self", "store"]) (by kernel_rfl) (by kernel_rfl) (by kernel_rfl) (by intro xs h; match xs, h with | [x0, x1], _ => rfl) (by conv => lhs; whnf) (by conv => lhs; whnf) rfl fun l hl => ?_
  k_memK
  refine ulist 30 rfl fun p hp npl => ?_
  have O1 := Old.refl.new (o := .list 30 []) hp
  have l1 : upd σ p (.list 30 []) l = none := upd_ne npl.symm hl
  generalize upd σ p (.list 30 []) = σ1 at O1 l1
  k_memK
  refine uidict 7 rfl fun u hu nul => ?_
  have g2 : upd σ1 u (.idict 7 []) u = some (.idict 7 []) := upd_same
  have O2 := O1.new (o := .idict 7 []) hu
  have l2 : upd σ1 u (.idict 7 []) l = none := upd_ne nul.symm l1
  generalize upd σ1 u (.idict 7 []) = σ2 at g2 O2 l2
  k_memK
  refine uidict 8 rfl fun w hw nwl => ?_
  have g3 := keepu (o := .idict 8 []) g2 hw
  have h3 : upd σ2 w (.idict 8 []) w = some (.idict 8 []) := upd_same
  have O3 := O2.new (o := .idict 8 []) hw
  have l3 : upd σ2 w (.idict 8 []) l = none := upd_ne nwl.symm l2
  generalize upd σ2 w (.idict 8 []) = σ3 at g3 h3 O3 l3
  k_memK
  refine uidict 31 rfl fun k hk nkl => ?_
  have g4 := keepu (o := .idict 31 []) g3 hk
  have h4 := keepu (o := .idict 31 []) h3 hk
  have O4 := O3.new (o := .idict 31 []) hk
  have l4 : upd σ3 k (.idict 31 []) l = none := upd_ne nkl.symm l3
  generalize upd σ3 k (.idict 31 []) = σ4 at g4 h4 O4 l4
  k_memK
  refine uidict 9 rfl fun b hb nbl => ?_
  have g5 := keepu (o := .idict 9 []) g4 hb
  have h5 := keepu (o := .idict 9 []) h4 hb
  have i5 : upd σ4 b (.idict 9 []) b = some (.idict 9 []) := upd_same
  have O5 := O4.new (o := .idict 9 []) hb
  have l5 : upd σ4 b (.idict 9 []) l = none := upd_ne nbl.symm l4
  generalize upd σ4 b (.idict 9 []) = σ5 at g5 h5 i5 O5 l5
  k_memK
  exact h l ⟨u, w, b, p, k⟩ _ ⟨upd_same, upd_ne nul g5, upd_ne nwl h5, [], upd_ne nbl i5, by simp [NK]⟩ (O5.upd hl)
theorem st_new_var {l : Addr} {a : StA} {S : StS} (H : Has σ l a S) {D : Dom} (hD : D ≠ []) (hl : S.ds.length < 1000) (hfl : S.fs.length < 1000)
    (h : ∀ σ', Has σ' l a { S with ds := S.ds ++ [D], fs := S.fs ++ [dv D] } → Keep6 σ σ' → Q (.int S.ds.length) σ') : CallV c (n + 1) (.ref 529) [.inst 658 l, dv D] σ Q := by
  have ho := H.o
  have okd : ∀ {E : Dom}, okV 8 (dv E) = true := fun {E} => by simp [okV]
  refine kCall (names := ["self", "domain"]) (by kernel_rfl) (by kernel_rfl) (by intro xs h; match xs, h with | [x0, x1], _ => rfl) (by conv => lhs; whnf) (by conv => lhs; whnf) rfl ?_
  k_memK
  refine ⟨_, _, _, rfl, H.d, ?_⟩
  k_memK
  refine ⟨_, _, H.d, by have := big1000; simp; omega, ?_⟩
  have H1 := has_ds (ds := S.ds ++ [D]) H
  have e1 : (S.ds ++ [D]).map dv = S.ds.map dv ++ [dv D] := by simp
  have K1 : Keep6 σ (upd σ a.d (.list 1 ((S.ds ++ [D]).map dv))) := keep6_upd H.d (by simp [AO.tag])
  rw [e1] at H1 K1
  generalize upd σ a.d (.list 1 (S.ds.map dv ++ [dv D])) = σ1 at H1 K1
  clear ho
  have ho := H1.o
  k_memK
  refine ⟨_, _, _, rfl, H1.f, ?_⟩
  k_memK
  refine ⟨_, _, H1.f, by have := big1000; show S.fs.length < big; omega, ?_⟩
  have H2 := has_fs (fs := S.fs ++ [dv D]) H1
  have K2 : Keep6 σ1 (upd σ1 a.f (.list 2 (S.fs ++ [dv D]))) := keep6_upd H1.f (by simp [AO.tag])
  change ExS _ _ _ _ (upd σ1 a.f (.list 2 (S.fs ++ [dv D]))) _ _ _
  generalize upd σ1 a.f (.list 2 (S.fs ++ [dv D])) = σ2 at H2 K2
  clear ho
  have ho := H2.o
  k_memK
  refine ⟨Nat.le_of_ble_eq_true (by with_unfolding_all rfl), ?_⟩
  refine cm_eqd (rd_data okd) (rd_data (v := .tup []) rfl) ?_
  k_memK
  refine ⟨fun q => ?_, fun _ => ?_⟩
  · exact absurd (dv_inj (Y := []) (cdec q)) hD
  k_memK
  refine c_len_ref H2.d ?_
  k_memK
  have e2 : (((S.ds ++ [D]).map dv).length : Int) - 1 = S.ds.length := by simp
  rw [e2]
  exact h _ H2 (K1.trans K2)
theorem se_new {l e b bd : Addr} {a : StA} {S : StS} {ea : EnA} (HS : Has σ l a S) (HE : HasE σ e ea l) (HB : HasB σ b bd cf es) (hms : S.ms = []) (hlook : ∀ x ∈ cf.row, ∃ u, look es (x : Int) = some u) (h3 : cf.row.length ≤ 3)
    (h : ∀ s p rf σ', Sys σ' ⟨l, e, ea, b, bd, s⟩ cf es ⟨a, S, p, rf, b, [], [], false, false, false, 0⟩ → Old σ σ' → Q (.inst 504 s) σ') : CallV c (n + 3) (.ref 504) [.inst 330 e, .inst 379 b] σ Q := by
  refine CallV.less (n := (n + 1) + 2) ?_ (Nat.le_refl _)
  have hl0 := hms
  refine kNew (a := 397) 15 (names := ["self", "engine", "brancher"]) (by kernel_rfl) (by kernel_rfl) (by kernel_rfl) (by intro xs h; match xs, h with | [x0, x1, x2], _ => rfl) (by conv => lhs; whnf) (by conv => lhs; whnf) rfl fun s hs => ?_
  have hns : ∀ {x o}, σ x = some o → x ≠ s := fun {x o} q => ne_of_none q hs
  k_memK
  refine g_attrV HE.o (hns HE.o) (by with_unfolding_all rfl) (by kernel_rfl) ?_
  k_memK
  refine g_attrV HE.o (hns HE.o) (by with_unfolding_all rfl) (by kernel_rfl) ?_
  refine umeth (upd_ne (hns HS.o) HS.o) (by with_unfolding_all rfl) (by with_unfolding_all rfl) (by kernel_rfl) (by kernel_rfl) ?_
  refine st_depth (has_new HS hs) ?_
  rw [hms]
  k_memK
  have e0 : upd σ s (.ns 15 (rset (rset (rset (rset (rset [] "engine" (.inst 330 e)) "store" (.inst 658 l)) "brancher" (.inst 379 b)) "base" (.int (([] : List Nat).length : Nat))) "rest" (.inst 379 b))) = upd σ s (.ns 15 [("engine", .inst 330 e), ("store", .inst 658 l), ("brancher", .inst 379 b), ("base", .int 0), ("rest", .inst 379 b)]) := rfl
  rw [e0]
  have O1 : Old σ (upd σ s (.ns 15 [("engine", .inst 330 e), ("store", .inst 658 l), ("brancher", .inst 379 b), ("base", .int 0), ("rest", .inst 379 b)])) := new_any hs
  have o1 : upd σ s (.ns 15 [("engine", .inst 330 e), ("store", .inst 658 l), ("brancher", .inst 379 b), ("base", .int 0), ("rest", .inst 379 b)]) s = some (.ns 15 [("engine", .inst 330 e), ("store", .inst 658 l), ("brancher", .inst 379 b), ("base", .int 0), ("rest", .inst 379 b)]) := upd_same
  generalize upd σ s (.ns 15 [("engine", .inst 330 e), ("store", .inst 658 l), ("brancher", .inst 379 b), ("base", .int 0), ("rest", .inst 379 b)]) = σ1 at O1 o1
  have at1 : ∀ {x o}, σ x = some o → σ1 x = some o := fun {x o} q => (O1 x (by rw [q]; exact fun z => nomatch z)).trans q
  have HB1 : HasB σ1 b bd cf es := ⟨at1 HB.o, at1 HB.d⟩
  have HE1 : HasE σ1 e ea l := by obtain ⟨bn, q1, q2⟩ := HE.n; exact ⟨at1 HE.o, at1 HE.u, at1 HE.w, bn, at1 q1, q2⟩
  have HS1 : Has σ1 l a S := ⟨at1 HS.o, at1 HS.d, at1 HS.f, at1 HS.t, at1 HS.m, at1 HS.w⟩
  refine s_for (fun vs ρ' σ' => ∃ E F, cf.row = E ++ F ∧ vs = nV F ∧ ρ' = ([("self", .inst 504 s), ("engine", .inst 330 e), ("brancher", .inst 379 b)] : Rho) ∧ σ' = σ1) (fun _ _ => rfl) ?_ ?_ ?_
  · have hb := HB1.o
    k_memK
    exact it_tup fun b2 hb2 => ⟨_, _, _, hb2, rfl, (by k_ownIn : Wk [("self", .inst 504 s), ("engine", .inst 330 e), ("brancher", .inst 379 b)] _), [], cf.row, rfl, rfl, rfl, rfl⟩
  · rintro v vs ρ' σ' b2 ⟨E, F, hEF, hvs, rfl, rfl⟩ hb2
    cases F with
    | nil => cases hvs
    | cons x F =>
      simp only [nV, List.map_cons, List.cons.injEq] at hvs
      obtain ⟨rfl, rfl⟩ := hvs
      have HB2 := HB1.new (o := .iter (nV F)) hb2
      have hb := HB2.o
      have he : upd σ' b2 (.iter (nV F)) e = some (.ns 10 (enF ea l)) := keepu HE1.o hb2
      have HE2 : HasE (upd σ' b2 (.iter (nV F))) e ea l := by obtain ⟨bn, q1, q2⟩ := HE1.n; exact ⟨he, keepu HE1.u hb2, keepu HE1.w hb2, bn, keepu q1 hb2, q2⟩
      obtain ⟨u, hu⟩ := hlook x (by rw [hEF]; simp)
      k_memK
      refine ⟨_, _, _, rfl, HB2.d, ?_⟩
      k_memK
      refine en_degree HE2 ?_
      k_memK
      refine ⟨_, _, _, _, _, rfl, HB2.d, hu, ?_⟩
      k_memK
      exact ⟨_, _, rfl, hb2, (by k_ownIn : Wk [("self", .inst 504 s), ("engine", .inst 330 e), ("brancher", .inst 379 b)] _), E ++ [x], F, by rw [hEF]; simp, rfl, rfl, rfl⟩
  · rintro ρ' σ' ⟨E, F, hEF, hvs, rfl, rfl⟩
    clear hEF hvs
    rw [← upd_self o1]
    k_memK
    refine ulist 13 rfl fun p hp nps => ?_
    have O2 := O1.new (o := .list 13 []) hp
    have g2 : upd σ' p (.list 13 []) p = some (.list 13 []) := upd_same
    generalize upd σ' p (.list 13 []) = σ2 at O2 g2
    k_memK
    refine ulist 14 rfl fun rf hrf nrs => ?_
    have O3 := O2.new (o := .list 14 []) hrf
    have g3 := keepu (o := .list 14 []) g2 hrf
    have h3 : upd σ2 rf (.list 14 []) rf = some (.list 14 []) := upd_same
    generalize upd σ2 rf (.list 14 []) = σ3 at O3 g3 h3
    k_memK
    have fin : ∀ {x o}, σ x = some o → upd σ3 s (.ns 15 (srF ⟨l, e, ea, b, bd, s⟩ ⟨a, S, p, rf, b, [], [], false, false, false, 0⟩)) x = some o := fun {x o} q => upd_ne (hns q) ((O3 x (by rw [q]; exact fun z => nomatch z)).trans q)
    refine h s p rf _ ⟨⟨fin HS.o, fin HS.d, fin HS.f, fin HS.t, fin HS.m, fin HS.w⟩, ?_, ⟨fin HB.o, fin HB.d⟩, fun q => (nomatch q), upd_same, upd_ne nps g3, upd_ne nrs h3⟩ (O3.upd hs)
    obtain ⟨bn, q1, q2⟩ := HE.n
    exact ⟨fin HE.o, fin HE.u, fin HE.w, bn, fin q1, q2⟩
end
-- part HC
abbrev srcO (cs : List Int) (k : Nat) : AO := .sdict 21 [("cells", .lst (numV cs)), ("spot", .int k)]
abbrev lSV (L : List (List Int)) : List V := L.map fun S => V.lst (numV S)
section
variable {c : Cx} [hK : IsK c] {n : Nat} {σ : Sg} {Q : V → Sg → Prop} {cf : Cfg} {L : List (List Int)} {la : Addr} {t : Nat}
theorem f_draw {a : Addr} {cs : List Int} {k : Nat} {m : Int} (ha : σ a = some (srcO cs k)) (hk : k < 500) (hm : 0 < m) (h : ∀ r, 0 ≤ r → r < m → Q (.int r) (upd σ a (srcO cs (k + 1)))) : CallV c (n + 1) (.ref 669) [.ref a, .int m] σ Q := by
  refine kCall (names := ["source", "many"]) (by kernel_rfl) (by kernel_rfl) (by intro xs h; match xs, h with | [x0, x1], _ => rfl) (by conv => lhs; whnf) (by conv => lhs; whnf) rfl ?_
  k_memK
  refine sub_sdict ha (v := .int k) (by with_unfolding_all rfl) ?_ (fun _ _ => by with_unfolding_all rfl)
  k_memK
  refine i_sdict ha (by show 2 < big; decide) ?_
  have e1 : upd σ a (.sdict 21 (putI [("cells", V.lst (numV cs)), ("spot", V.int k)] ("spot" : Str) (V.int ((k : Int) + 1)))) = upd σ a (srcO cs (k + 1)) := rfl
  rw [e1]
  have h2 : upd σ a (srcO cs (k + 1)) a = some (srcO cs (k + 1)) := upd_same
  generalize upd σ a (srcO cs (k + 1)) = σ2 at h h2
  have fin : ∀ z : Int, Q (.int (z.fmod m)) σ2 := fun z => h _ (Int.fmod_nonneg_of_pos _ hm) (Int.fmod_lt_of_pos _ hm)
  k_memK
  refine sub_sdict h2 (v := .lst (numV cs)) (by with_unfolding_all rfl) ?_ (fun _ _ => by with_unfolding_all rfl)
  k_memK
  refine c_len_lst ?_
  k_memK
  refine ⟨fun hq => ?_, fun hq => ?_⟩
  · have hlt : k < cs.length := by have := of_decide_eq_true hq; simp [numV] at this; omega
    k_memK
    refine sub_sdict h2 (v := .lst (numV cs)) (by with_unfolding_all rfl) ?_ (fun _ _ => by with_unfolding_all rfl)
    k_memK
    refine sub_lst (v := .int cs[k]) (idx_nat (by simp [numV, hlt])) (by omega) ?_ (fun _ _ => by with_unfolding_all rfl)
    k_memK
    exact op_mod (by omega) (fin _)
  · k_memK
    refine op_mul (by decide) (by omega) ?_
    k_memK
    refine op_mul ?_ (by omega) ?_
    · have h3 : (5 * (k : Int)).natAbs = 5 * k := by omega
      rw [h3]; omega
    k_memK
    refine op_mul (by decide) (by omega) ?_
    k_memK
    exact op_mod (by omega) (fin _)
theorem idx_row {S : List Int} (h : S ≠ []) : idx (numV S) 0 = some (.int (S.headD 0)) := by
  cases S with
  | nil => exact absurd rfl h
  | cons a S => rfl
theorem idx_lastS {S : List Int} (h : S ≠ []) (hb : S.length ≤ 100) : idx (numV S) (-1) = some (.int (S.getLastD 0)) := by
  rcases List.eq_nil_or_concat S with rfl | ⟨M, b, rfl⟩
  · exact absurd rfl h
  · rw [List.concat_eq_append] at *
    unfold numV
    rw [List.map_append, List.getLastD_concat]
    exact idx_last (by have := big1000; simp at hb ⊢; omega)
theorem f_key {S : List Int} {o : Str} {d : Int} (h0 : S ≠ []) (hb : S.length ≤ 100) (h : Q (.lst (numV (kL o S d))) σ) : CallV c (n + 1) (.ref 676) [.lst (numV S), .str o, .int d] σ Q := by
  have i0 := idx_row h0
  have i1 := idx_lastS h0 hb
  have hl : (numV S).length = S.length := by simp [numV]
  unfold kL at h
  refine kCall (names := ["some", "order", "degree"]) (by kernel_rfl) (by kernel_rfl) (by intro xs h; match xs, h with | [x0, x1, x2], _ => rfl) (by conv => lhs; whnf) (by conv => lhs; whnf) rfl ?_
  k_memK
  refine ⟨fun hq => ?_, fun hq => ?_⟩
  · rw [if_pos (by simpa using hq)] at h
    k_memK
    refine ev_list ?_
    k_memK
    refine c_len_lst ?_
    k_memK
    rw [hl]
    exact ⟨Nat.le_of_ble_eq_true (by with_unfolding_all rfl), h⟩
  rw [if_neg (by simpa using hq)] at h
  k_memK
  refine ⟨fun hq => ?_, fun hq => ?_⟩
  · rw [if_pos (by simpa using hq)] at h
    k_memK
    refine ev_list ?_
    k_memK
    exact ⟨Nat.le_of_ble_eq_true (by with_unfolding_all rfl), h⟩
  rw [if_neg (by simpa using hq)] at h
  k_memK
  refine ⟨fun hq => ?_, fun hq => ?_⟩
  · rw [if_pos (by simpa using hq)] at h
    k_memK
    refine ev_list ?_
    k_memK
    exact ⟨Nat.le_of_ble_eq_true (by with_unfolding_all rfl), h⟩
  rw [if_neg (by simpa using hq)] at h
  k_memK
  refine ⟨fun hq => ?_, fun hq => ?_⟩
  · rw [if_pos (by simpa using hq)] at h
    k_memK
    refine ev_list ?_
    k_memK
    refine c_len_lst ?_
    k_memK
    rw [hl]
    exact ⟨Nat.le_of_ble_eq_true (by with_unfolding_all rfl), h⟩
  · rw [if_neg (by simpa using hq)] at h
    k_memK
    refine ev_list ?_
    k_memK
    exact ⟨Nat.le_of_ble_eq_true (by with_unfolding_all rfl), h⟩
theorem f_says {x k v : Int} {s : Str} (h : Q (.bool (says s k v)) σ) : CallV c (n + 1) (.ref 688) [lv x s k, .int v] σ Q := by
  unfold says at h
  refine kCall (names := ["literal", "v"]) (by kernel_rfl) (by kernel_rfl) (by intro xs h; match xs, h with | [x0, x1], _ => rfl) (by conv => lhs; whnf) (by conv => lhs; whnf) rfl ?_
  k_memK
  refine ⟨fun hq => ?_, fun hq => ?_⟩
  · rw [if_pos (by simpa using hq)] at h
    k_memK
    exact h
  rw [if_neg (by simpa using hq)] at h
  k_memK
  refine ⟨fun hq => ?_, fun hq => ?_⟩
  · rw [if_pos (by simpa using hq)] at h
    k_memK
    exact h
  · rw [if_neg (by simpa using hq)] at h
    k_memK
    exact h
end
-- part HD
section
variable {c : Cx} [hK : IsK c] {n : Nat} {σ : Sg} {Q : V → Sg → Prop} {cf : Cfg} {L : List (List Int)} {la : Addr} {t : Nat}
theorem refs_oV {o : Option Lit} : RefsV σ (oV o) := by
  cases o with
  | none => exact .none
  | some l => exact .tup (.cons (.int _) (.cons (.str _) (.cons (.int _) .nil)))
theorem idx_lists {x : Nat} (h : x < L.length) : idx (lSV L) (x : Int) = some (.lst (numV (at' L x))) := by
  refine idx_nat ?_
  simp [at', h]
theorem idx_dg {dg : List Int} {x : Nat} (h : x < dg.length) : idx (numV dg) (x : Int) = some (.int (dg.getD x 0)) := by
  refine idx_nat ?_
  simp [numV, h]
structure LW (L : List (List Int)) (dg : List Int) : Prop where
  okl : Okl L
  n : L.length ≤ 3
  w : ∀ S ∈ L, S.length ≤ 100
  d : L.length ≤ dg.length
theorem f_law_literal {o ch : Str} {dg : List Int} {row : List Nat} (hL : LW L dg) (hr : ∀ x ∈ row, x < L.length) (h3 : row.length ≤ 3) (hla : σ la = some (.list t (lSV L)))
    (h : Q (oV (lawLit o ch dg row L)) σ) : CallV c (n + 2) (.ref 681) [.ref la, .lst (nV row), .str o, .str ch, .lst (numV dg)] σ Q := by
  refine CallV.pure (CallV.mono (Q := fun v σ' => Old σ σ' ∧ v = oV (lawLit o ch dg row L)) ?_ fun v σ' ⟨h1, e⟩ => ⟨h1, e ▸ refs_oV, e ▸ h⟩)
  clear h
  refine kCall (names := ["lists", "row", "order", "choice", "degrees"]) (by kernel_rfl) (by kernel_rfl) (by intro xs h; match xs, h with | [x0, x1, x2, x3, x4], _ => rfl) (by conv => lhs; whnf) (by conv => lhs; whnf) rfl ?_
  k_memK
  refine ev_comp [("lists", .ref la), ("order", .str o), ("degrees", .lst (numV dg))] (fun a D m acc σ' => ∃ done rest it l, row = done ++ rest ∧ m = rest.length ∧ acc ++ (kss (fun x => kL o (at' L x) (dg.getD x 0)) (open' L) done.length rest).map keyV = (kss (fun x => kL o (at' L x) (dg.getD x 0)) (open' L) 0 row).map keyV ∧ σ a = none ∧ σ it = none ∧ a ≠ it ∧ σ D = none ∧ D ≠ a ∧ D ≠ it ∧ acc.length + rest.length ≤ 3 ∧
      σ' = upd (upd (upd σ it (.giter l done.length)) a (.enum it l done.length (nV rest))) D (.acc acc)) (by with_unfolding_all rfl) (by k_ownIn) (fun _ _ => rfl) ?_ ?_
  · k_memK
    refine c_enum fun a it l ha hit hne => ?_
    k_memK
    refine it_enum (it := it) (l := l) (i := 0) (vs := nV row) upd_same ⟨⟨_, upd_same, rfl⟩, row.length, fun D hD => ⟨[], row, it, l, rfl, rfl, rfl, ha, hit, hne, ?_, ?_, ?_, by simpa using h3, rfl⟩⟩
    · by_cases q1 : D = a
      · rw [q1]; exact ha
      · by_cases q2 : D = it
        · rw [q2]; exact hit
        · unfold upd at hD; rw [if_neg q1, if_neg q2] at hD; exact hD
    · rintro rfl; rw [upd_same] at hD; cases hD
    · rintro rfl; rw [upd_ne hne.symm upd_same] at hD; cases hD
  · rintro a D m acc σ' ⟨done, rest, it, l, hrow, rfl, hacc, ha, hit, hne, hD, hDa, hDi, hlen, rfl⟩ hDacc
    have hat : (upd (upd (upd σ it (.giter l done.length)) a (.enum it l done.length (nV rest))) D (.acc acc)) a = some (.enum it l done.length (nV rest)) := upd_ne hDa.symm upd_same
    have hiti : (upd (upd (upd σ it (.giter l done.length)) a (.enum it l done.length (nV rest))) D (.acc acc)) it = some (.giter l done.length) := upd_ne hDi.symm (upd_ne hne.symm upd_same)
    cases rest with
    | nil =>
      have e : del (upd (upd (upd σ it (.giter l done.length)) a (.enum it l done.length (nV []))) D (.acc acc)) it = upd (upd σ a (.enum it l done.length (nV []))) D (.acc acc) := by
        rw [upd_comm hne.symm, upd_comm hDi.symm, del_upd]
        exact upd_ne hDi.symm (upd_ne hne.symm hit)
      refine ⟨none, _, enext_none hat hiti, by rw [e]; exact upd_same, ?_⟩
      rw [e]
      show EvL _ _ _ _ (del (upd (upd σ a (.enum it l done.length (nV []))) D (.acc acc)) D) _ _
      rw [del_upd (upd_ne hDa hD)]
      have O1 : Old σ (upd σ a (.enum it l done.length (nV []))) := new_any ha
      have hl1 : upd σ a (.enum it l done.length (nV [])) la = some (.list t (lSV L)) := keepu hla ha
      generalize upd σ a (.enum it l done.length (nV [])) = σ1 at O1 hl1
      have hac : acc = (kss (fun x => kL o (at' L x) (dg.getD x 0)) (open' L) 0 row).map keyV := by rw [← hacc]; simp [kss]
      rw [hac]
      k_memK
      have hkl := @kss_len (fun x => kL o (at' L x) (dg.getD x 0)) (open' L) row 0
      refine c_sorted_keys (by omega) ?_ kss_dis fun ks' hlen' hhead => ?_
      · intro k hk
        obtain ⟨j, x, _, _, rfl⟩ := mem_kss.mp hk
        show (kL o (at' L x) (dg.getD x 0)).length ≤ 100
        unfold kL
        split
        · simp
        split
        · simp
        split
        · simp
        split
        · simp
        · simp
      have okk : okV 8 (.lst (ks'.map keyV)) = true := by
        simp only [okV, List.all_eq_true]
        intro v hv
        obtain ⟨k, hk, rfl⟩ := List.mem_map.mp hv
        simp [keyV, okV, numV]
      k_memK
      refine ev_list ?_
      k_memK
      refine ⟨Nat.zero_le _, ?_⟩
      refine cm_eqd (rd_data okk) (rd_data (v := .lst []) rfl) ?_
      k_memK
      have hlaw : lawLit o ch dg row L = (bst (fun x => kL o (at' L x) (dg.getD x 0)) (open' L) row).map fun x => litAt ch x (at' L x) := rfl
      cases ks' with
      | nil =>
        refine ⟨fun _ => ?_, fun q => by simp at q⟩
        k_memK
        refine ⟨O1, ?_⟩
        rw [hlaw, bst_none (List.eq_nil_of_length_eq_zero hlen'.symm)]; rfl
      | cons k r =>
        obtain ⟨hk1, hk2⟩ := hhead k r rfl
        obtain ⟨j, y, hj, hy, hb⟩ := head_is hk1 hk2
        obtain ⟨hyr, hun⟩ := bst_mem hb
        have hyl := hr y hyr
        have hyn : y < 1000 := by have := hL.n; omega
        rw [hb] at hlaw
        refine ⟨fun q => by simp at q, fun _ => ?_⟩
        have hjr : j < row.length := by
          rcases Nat.lt_or_ge j row.length with q | q
          · exact q
          · rw [List.getElem?_eq_none q] at hy; cases hy
        have i1 := idx_lists (L := L) hyl
        have h2l : 1 < (at' L y).length := by simpa using hun
        have hne0 : at' L y ≠ [] := fun e => by rw [e] at h2l; simp at h2l
        have hw := hL.w _ (at_mem hyl)
        have i2 := idx_row hne0
        have i3 := idx_lastS hne0 hw
        have hl5 : (numV (at' L y)).length = (at' L y).length := by simp [numV]
        k_memK
        refine sub_tup (vs := [.lst (numV k.1), .int k.2]) (v := .int k.2) rfl (by decide) ?_ (fun _ _ => by with_unfolding_all rfl)
        rw [hj]
        refine sub_lst (v := .int y) (idx_nat (by simp [hy])) (by omega) ?_ (fun _ _ => by with_unfolding_all rfl)
        k_memK
        have fin : ∀ lt, litAt ch y (at' L y) = lt → Old σ σ1 ∧ lV lt = oV (lawLit o ch dg row L) := fun lt e => ⟨O1, by rw [hlaw, ← e]; rfl⟩
        unfold litAt at fin
        refine ⟨fun hq => ?_, fun hq => ?_⟩
        · k_memK
          refine c_len_lst ?_
          k_memK
          refine op_fdiv (by decide) pylong2 ?_
          have e1 : (((numV (at' L y)).length : Int) - 1).fdiv 2 = (((at' L y).length - 1) / 2 : Nat) := by
            rw [hl5, Int.fdiv_eq_ediv_of_nonneg _ (by decide)]; omega
          rw [e1]
          have hm : ((at' L y).length - 1) / 2 < (at' L y).length := by omega
          refine sub_lst (v := .int ((at' L y).getD (((at' L y).length - 1) / 2) 0)) (idx_nat ?_) (by omega) ?_ (fun _ _ => by with_unfolding_all rfl)
          · rw [List.getD_eq_getElem?_getD, List.getElem?_eq_getElem hm]
            unfold numV
            rw [List.getElem?_map, List.getElem?_eq_getElem hm]; rfl
          k_memK
          exact ⟨Nat.le_of_ble_eq_true (by with_unfolding_all rfl), fin ⟨y, "=", (at' L y).getD (((at' L y).length - 1) / 2) 0⟩ (by rw [if_pos (by simpa using hq)])⟩
        have n1 : ¬ ch = "median" := by simpa using hq
        k_memK
        refine ⟨fun hq2 => ?_, fun hq2 => ?_⟩
        · k_memK
          exact ⟨Nat.le_of_ble_eq_true (by with_unfolding_all rfl), fin ⟨y, ">=", (at' L y).getLastD 0⟩ (by rw [if_neg n1, if_pos (by simpa using hq2)])⟩
        have n2 : ¬ ch = "max" := by simpa using hq2
        k_memK
        refine ⟨fun hq3 => ?_, fun hq3 => ?_⟩
        · k_memK
          refine op_fdiv (by decide) pylong2 ?_
          k_memK
          exact ⟨Nat.le_of_ble_eq_true (by with_unfolding_all rfl), fin ⟨y, "<=", ((at' L y).headD 0 + (at' L y).getLastD 0).fdiv 2⟩ (by rw [if_neg n1, if_neg n2, if_pos (by simpa using hq3)])⟩
        · k_memK
          exact ⟨Nat.le_of_ble_eq_true (by with_unfolding_all rfl), fin ⟨y, "<=", (at' L y).headD 0⟩ (by rw [if_neg n1, if_neg n2, if_neg (by simpa using hq3)])⟩
    | cons x rest =>
      have e : upd (upd (upd (upd (upd σ it (.giter l done.length)) a (.enum it l done.length (nV (x :: rest)))) D (.acc acc)) it (.giter l (done.length + 1))) a (.enum it l (done.length + 1) (nV rest)) = upd (upd (upd σ it (.giter l (done.length + 1))) a (.enum it l (done.length + 1) (nV rest))) D (.acc acc) := by
        rw [upd_comm hDi, upd_comm hne, upd_upd, upd_comm hDa, upd_upd]
      refine ⟨some (.tup [.int done.length, .int x]), _, enext_some hat hiti, ?_, ?_⟩
      · rw [e]; exact upd_same
      rw [e]
      have hx : x < L.length := hr x (by rw [hrow]; simp)
      have O1 : Old σ (upd (upd (upd σ it (.giter l (done.length + 1))) a (.enum it l (done.length + 1) (nV rest))) D (.acc acc)) := ((Old.refl.upd hit).upd ha).upd hD
      have hD1 : (upd (upd (upd σ it (.giter l (done.length + 1))) a (.enum it l (done.length + 1) (nV rest))) D (.acc acc)) D = some (.acc acc) := upd_same
      have hl1 : (upd (upd (upd σ it (.giter l (done.length + 1))) a (.enum it l (done.length + 1) (nV rest))) D (.acc acc)) la = some (.list t (lSV L)) := (O1 la (by rw [hla]; exact fun z => nomatch z)).trans hla
      have keep : ∀ acc', upd (upd (upd (upd σ it (.giter l (done.length + 1))) a (.enum it l (done.length + 1) (nV rest))) D (.acc acc)) D (.acc acc') = upd (upd (upd σ it (.giter l (done.length + 1))) a (.enum it l (done.length + 1) (nV rest))) D (.acc acc') := fun _ => upd_upd
      generalize hz : upd (upd (upd σ it (.giter l (done.length + 1))) a (.enum it l (done.length + 1) (nV rest))) D (.acc acc) = σ1 at O1 hD1 hl1 keep
      have i1 := idx_lists (L := L) hx
      have hS := hL.okl.ne _ (at_mem hx)
      have hw := hL.w _ (at_mem hx)
      have hdx : x < dg.length := by have := hL.d; omega
      have i2 := idx_dg hdx
      have hdl : done.length + 1 = (done ++ [x]).length := by simp
      have hr2 : row = (done ++ [x]) ++ rest := by rw [hrow]; simp
      have hxn : x < 1000 := by have := hL.n; omega
      refine ct_pair (by with_unfolding_all rfl) ⟨by k_ownIn, ?_⟩
      show EvT _ _ _ _ _ _ _
      k_memK
      refine c_len_lst ?_
      k_memK
      have hl5 : (numV (at' L x)).length = (at' L x).length := by simp [numV]
      have ek : kss (fun x => kL o (at' L x) (dg.getD x 0)) (open' L) done.length (x :: rest) = if open' L x = true then (kL o (at' L x) (dg.getD x 0), (done.length : Int)) :: kss (fun x => kL o (at' L x) (dg.getD x 0)) (open' L) (done.length + 1) rest else kss (fun x => kL o (at' L x) (dg.getD x 0)) (open' L) (done.length + 1) rest := rfl
      refine ⟨fun hq => ?_, fun hq => ?_⟩
      · have hu : open' L x = true := decide_eq_true (by have := of_decide_eq_true hq; omega)
        k_memK
        refine f_key hS hw ?_
        k_memK
        refine ⟨Nat.le_of_ble_eq_true (by with_unfolding_all rfl), hD1, by have := big1000; omega, rest.length, by simp, done ++ [x], rest, it, l, hr2, rfl, ?_, ha, hit, hne, hD, hDa, hDi, by simp at hlen ⊢; omega, ?_⟩
        · rw [← hacc]
          rw [ek, if_pos hu, ← hdl]; simp [keyV]
        · rw [keep, hdl]
      · have hu : open' L x = false := decide_eq_false (by have := of_decide_eq_false hq; omega)
        refine ⟨hD1, rest.length, by simp, done ++ [x], rest, it, l, hr2, rfl, ?_, ha, hit, hne, hD, hDa, hDi, by simp at hlen ⊢; omega, ?_⟩
        · rw [← hacc]
          rw [ek, if_neg (by rw [hu]; exact fun z => nomatch z), ← hdl]
        · rw [← hz, hdl]
end
-- part HE
section
variable {c : Cx} [hK : IsK c] {n : Nat} {σ : Sg} {Q : V → Sg → Prop} {cf : Cfg} {L : List (List Int)} {la : Addr} {t : Nat}
theorem refs_tV (l : List (List Int)) : RefsL σ (l.map tV) := refs_map (fun t => .tup (refs_map (fun i => .int i) t)) l
def fHd : V → Option V
  | .lst (.int a :: _) => some (.int a)
  | _ => none
theorem fHd_is : ∀ {L : List (List Int)}, (∀ S ∈ L, S ≠ []) → (lSV L).filterMap fHd = numV (heads L)
  | [], _ => rfl
  | [] :: L, h => absurd rfl (h [] (.head _))
  | (a :: S) :: L, h => by
    have := @fHd_is L fun S hS => h S (.tail _ hS)
    show V.int a :: (lSV L).filterMap fHd = V.int a :: numV (heads L)
    rw [this]
def fSay (l : Lit) (side : Bool) : V → Option V
  | .int v => if says l.s l.k v == side then some (.int v) else none
  | _ => none
theorem fSay_is {l : Lit} {side : Bool} (S : List Int) : (numV S).filterMap (fSay l side) = numV (S.filter fun v => says l.s l.k v == side) := by
  induction S with
  | nil => rfl
  | cons a S ih =>
    have e : fSay l side (.int a) = if says l.s l.k a == side then some (.int a) else none := rfl
    show (V.int a :: numV S).filterMap (fSay l side) = _
    rw [List.filterMap_cons, e, List.filter_cons]
    by_cases q : (says l.s l.k a == side) = true
    · rw [if_pos q, if_pos q, ih]; rfl
    · rw [if_neg q, if_neg q, ih]
theorem lw_sp {dg : List Int} {l : Lit} {side : Bool} (hL : LW L dg) (hs : Split L l) : LW (sp L l side) dg := by
  refine ⟨okl_sp hL.okl hs, by unfold sp; rw [List.length_set]; exact hL.n, fun S hS => ?_, by unfold sp; rw [List.length_set]; exact hL.d⟩
  rcases List.mem_or_eq_of_mem_set hS with q | rfl
  · exact hL.w S q
  · have := hL.w _ (at_mem hs.lt)
    have := List.length_filter_le (fun v => says l.s l.k v == side) (at' L l.x)
    omega
theorem if_mid {sc : Scope} {ρ : Rho} {st st' : List Stmt} {P P' : Prop} {N : Rho → Sg → Prop} {R : V → Sg → Prop} (J : Rho → Sg → Prop) (h : (P → ExS c n sc ρ σ st J R) ∧ (P' → ExS c n sc ρ σ st' J R)) (k : ∀ ρ' σ', J ρ' σ' → N ρ' σ') : (P → ExS c n sc ρ σ st N R) ∧ (P' → ExS c n sc ρ σ st' N R) :=
  ⟨fun p => xs_mono (h.1 p) k fun _ _ h => h, fun p => xs_mono (h.2 p) k fun _ _ h => h⟩
theorem rl_nV {m : Nat} : rl 0 (m : Int) = nV (List.range m) := by
  unfold rl nV
  rw [show ((m : Int) - 0).toNat = m by omega]
  apply List.map_congr_left
  intro k _
  rw [Int.zero_add]
theorem isNone_oV {o : Option Lit} : isNone (oV o) = o.isNone := by cases o <;> rfl
theorem f_law_tree : ∀ (k : Nat) {n : Nat} {σ : Sg} {Q : V → Sg → Prop} {L : List (List Int)} {la : Addr} {t : Nat}, tot L ≤ k → k ≤ 9 → LW L cf.dg → (∀ x ∈ cf.row, x < L.length) → cf.row.length ≤ 3 → σ la = some (.list t (lSV L)) →
    Q (.tup [.lst ((T cf L).1.map tV), .int (T cf L).2]) σ → CallV c (n + k + 3) (.ref 693) [.ref la, .lst (nV cf.row), .str cf.o, .str cf.ch, .lst (numV cf.dg)] σ Q := by
  intro k
  induction k using Nat.strongRecOn with
  | ind k ih =>
  intro n σ Q L la t hk h9 hL hr h3 hla h
  refine CallV.pure (CallV.mono (Q := fun v σ' => Old σ σ' ∧ v = .tup [.lst ((T cf L).1.map tV), .int (T cf L).2]) ?_ fun v σ' ⟨h1, e⟩ => ⟨h1, e ▸ .tup (.cons (.lst (refs_tV _)) (.cons (.int _) .nil)), e ▸ h⟩)
  clear h
  have hLn := hL.n
  have hll : (lSV L).length = L.length := by simp
  refine kCall (names := ["lists", "row", "order", "choice", "degrees"]) (by kernel_rfl) (by kernel_rfl) (by intro xs h; match xs, h with | [x0, x1, x2, x3, x4], _ => rfl) (by conv => lhs; whnf) (by conv => lhs; whnf) rfl ?_
  k_memK
  refine f_law_literal hL hr h3 hla ?_
  k_memK
  refine if_mid (fun ρ' σ' => σ' = σ ∧ Wk [("lists", .ref la), ("row", .lst (nV cf.row)), ("order", .str cf.o), ("choice", .str cf.ch), ("degrees", .lst (numV cf.dg)), ("literal", oV (litOf cf L))] ρ') ?_ ?_
  · rw [isNone_oV]
    cases e1 : lawLit cf.o cf.ch cf.dg cf.row L with
    | none =>
      refine ⟨fun _ => ?_, fun q => (nomatch q)⟩
      k_memK
      refine c_len_ref hla ?_
      k_memK
      refine c_list_rng ⟨by decide, by decide, by show -(2 ^ 18) ≤ ((lSV L).length : Int); omega, by show ((lSV L).length : Int) < 2 ^ 18; omega⟩ ?_
      k_memK
      rw [hll, rl_nV]
      refine f_law_literal hL (fun x hx => List.mem_range.mp hx) (by rw [List.length_range]; exact hLn) hla ?_
      k_memK
      refine ⟨rfl, ?_⟩
      have e2 : litOf cf L = lawLit "input_order" "min" cf.dg (List.range L.length) L := by unfold litOf; rw [e1]; rfl
      rw [e2]
      k_ownIn
    | some l =>
      refine ⟨fun q => (nomatch q), fun _ => ?_⟩
      k_memK
      refine ⟨rfl, ?_⟩
      have e2 : litOf cf L = some l := by unfold litOf; rw [e1]; rfl
      rw [e2]
      k_ownIn
  rintro ρ' σ' ⟨rfl, wk⟩
  refine xs_weak wk ?_
  clear wk
  k_memK
  rw [isNone_oV]
  cases hl : litOf cf L with
  | none =>
    refine ⟨fun _ => ?_, fun q => (nomatch q)⟩
    k_memK
    refine ev_list ?_
    k_memK
    refine ev_compR [] (lSV L) fHd (by rw [hll]; exact Nat.le_trans hLn (by decide)) (by with_unfolding_all rfl) (by k_ownIn) (fun _ _ => rfl) ?_ hla ?_ ?_
    · k_memK
      exact ⟨rfl, rfl⟩
    · intro σ2 hσ v hv
      obtain ⟨S, hS, rfl⟩ := List.mem_map.mp hv
      have hne := hL.okl.ne S hS
      have i0 := idx_row hne
      refine ct_name (by with_unfolding_all rfl) ⟨rfl, by k_ownIn, ?_⟩
      refine ⟨rfl, fun _ => ?_, fun q => (nomatch q)⟩
      k_memK
      refine ⟨rfl, ?_⟩
      cases S with
      | nil => exact absurd rfl hne
      | cons a S => rfl
    · k_memK
      rw [fHd_is hL.okl.ne]
      refine c_tuple_lst ?_
      k_memK
      refine ⟨Nat.le_of_ble_eq_true (by with_unfolding_all rfl), ?_⟩
      k_memK
      refine ⟨Nat.le_of_ble_eq_true (by with_unfolding_all rfl), Old.refl, ?_⟩
      rw [T_leaf hl]; rfl
  | some l =>
    have hs := litOf_ok hL.okl hl
    have hb := @T_bound cf 9
    have hlx : l.x < 1000 := by have := hs.lt; omega
    obtain ⟨k', rfl⟩ : ∃ k', k = k' + 1 := ⟨k - 1, by have := tot_sp (side := true) hs; omega⟩
    refine ⟨fun q => (nomatch q), fun _ => ?_⟩
    k_memK
    refine ev_list ?_
    k_memK
    refine ⟨Nat.zero_le _, ?_⟩
    k_memK
    refine ⟨Nat.le_of_ble_eq_true (by with_unfolding_all rfl), _, rfl, rfl, ?_⟩
    show ExS _ _ _ _ _ _ _ _
    refine s_for (fun vs ρ' σ2 => ∃ found forks, ρ' = ([("lists", .ref la), ("row", .lst (nV cf.row)), ("order", .str cf.o), ("choice", .str cf.ch), ("degrees", .lst (numV cf.dg)), ("literal", lV l), ("found", .lst (found.map tV)), ("forks", .int forks)] : Rho) ∧ Old σ' σ2 ∧
      ((vs = [.bool true, .bool false] ∧ found = [] ∧ forks = 1) ∨ (vs = [.bool false] ∧ found = (T cf (sp L l true)).1 ∧ forks = 1 + ((T cf (sp L l true)).2 : Int)) ∨ (vs = [] ∧ found = (T cf L).1 ∧ forks = ((T cf L).2 : Int)))) (fun _ _ => rfl) ?_ ?_ ?_
    · k_memK
      refine ⟨Nat.le_of_ble_eq_true (by with_unfolding_all rfl), ?_⟩
      refine it_tup fun b2 hb2 => ⟨_, _, _, hb2, rfl, (by k_ownIn : Wk [("lists", .ref la), ("row", .lst (nV cf.row)), ("order", .str cf.o), ("choice", .str cf.ch), ("degrees", .lst (numV cf.dg)), ("literal", lV l), ("found", .lst (([] : List (List Int)).map tV)), ("forks", .int 1)] _), [], 1, rfl, Old.refl, .inl ⟨rfl, rfl, rfl⟩⟩
    · rintro v vs ρ' σ2 b2 ⟨found, forks, rfl, O2, hJ⟩ hb2
      have hturn : ∃ side : Bool, v = .bool side ∧ found.length ≤ 512 ∧ (∀ found' forks', found' = found ++ (T cf (sp L l side)).1 → forks' = forks + ((T cf (sp L l side)).2 : Int) → ((vs = [.bool true, .bool false] ∧ found' = [] ∧ forks' = 1) ∨ (vs = [.bool false] ∧ found' = (T cf (sp L l true)).1 ∧ forks' = 1 + ((T cf (sp L l true)).2 : Int)) ∨ (vs = [] ∧ found' = (T cf L).1 ∧ forks' = ((T cf L).2 : Int)))) := by
        have hT := T_fork hL.okl hl
        have hbT := (hb (sp L l true) (okl_sp hL.okl hs) (by have := tot_sp (side := true) hs; omega)).2
        rcases hJ with ⟨q, rfl, rfl⟩ | ⟨q, rfl, rfl⟩ | ⟨q, _⟩
        · cases q
          exact ⟨true, rfl, by simp, fun found' forks' e1 e2 => .inr (.inl ⟨rfl, by rw [e1]; rfl, e2⟩)⟩
        · cases q
          refine ⟨false, rfl, hbT, fun found' forks' e1 e2 => .inr (.inr ⟨rfl, by rw [e1, hT], ?_⟩)⟩
          rw [e2, hT]
          show _ = ((1 + (T cf (sp L l true)).2 + (T cf (sp L l false)).2 : Nat) : Int)
          omega
        · cases q
      obtain ⟨side, rfl, hfl, hnx⟩ := hturn
      clear hJ
      have hbS := (hb (sp L l side) (okl_sp hL.okl hs) (by have := tot_sp (side := side) hs; omega)).2
      have hl2 : upd σ2 b2 (.iter vs) la = some (.list t (lSV L)) := keepu ((O2 la (by rw [hla]; exact fun z => nomatch z)).trans hla) hb2
      k_memK
      refine c_list_ref 40 hl2 fun lt hlt => ?_
      have hne : lt ≠ b2 := by rintro rfl; rw [upd_same] at hlt; cases hlt
      have hlt2 : σ2 lt = none := by unfold upd at hlt; rw [if_neg hne] at hlt; exact hlt
      have hla3 : upd (upd σ2 b2 (.iter vs)) lt (.list 40 (lSV L)) la = some (.list t (lSV L)) := keepu hl2 hlt
      have hlt3 : upd (upd σ2 b2 (.iter vs)) lt (.list 40 (lSV L)) lt = some (.list 40 (lSV L)) := upd_same
      have e4 : ∀ o, upd (upd (upd σ2 b2 (.iter vs)) lt (.list 40 (lSV L))) lt o = upd (upd σ2 lt o) b2 (.iter vs) := fun o => by rw [upd_upd, upd_comm hne.symm]
      generalize upd (upd σ2 b2 (.iter vs)) lt (.list 40 (lSV L)) = σ3 at hla3 hlt3 e4
      have il := idx_lists hs.lt
      k_memK
      refine ev_comp_pure [("literal", lV l), ("side", .bool side)] (numV (at' L l.x)) (fSay l side) (by have := hL.w _ (at_mem hs.lt); have := big1000; simp [numV] at *; omega) (by with_unfolding_all rfl) (by k_ownIn) (fun _ _ => rfl) ?_ ?_ ?_
      · k_memK
        exact it_lst fun a ha => ⟨ha, rfl⟩
      · intro σ5 hσ v hv
        obtain ⟨z, hz, rfl⟩ := List.mem_map.mp hv
        refine ct_name (by with_unfolding_all rfl) ⟨rfl, by k_ownIn, ?_⟩
        show EvT _ _ _ _ _ _ _
        k_memK
        refine f_says ?_
        k_memK
        refine cm_eqb ?_
        k_memK
        have ef : fSay l side (.int z) = if says l.s l.k z == side then some (.int z) else none := rfl
        refine ⟨rfl, fun hq => ?_, fun hq => ?_⟩
        · k_memK
          exact ⟨rfl, by rw [ef, if_pos hq]⟩
        · rw [ef, if_neg (by rw [hq]; exact fun z => nomatch z)]
      k_memK
      refine i_list hlt3 (by omega) (by have := hs.lt; simp; omega) ?_
      have e5 : (lSV L).set (l.x : Int).toNat (.lst ((numV (at' L l.x)).filterMap (fSay l side))) = lSV (sp L l side) := by
        rw [fSay_is]
        unfold sp
        simp [lSV, List.map_set]
      rw [e5, e4]
      have h6 : upd (upd σ2 lt (.list 40 (lSV (sp L l side)))) b2 (.iter vs) lt = some (.list 40 (lSV (sp L l side))) := upd_ne hne upd_same
      have O6 : Old σ' (upd σ2 lt (.list 40 (lSV (sp L l side)))) := O2.new hlt2
      have hb6 : upd σ2 lt (.list 40 (lSV (sp L l side))) b2 = none := upd_ne hne.symm hb2
      generalize upd σ2 lt (.list 40 (lSV (sp L l side))) = σ6 at h6 O6 hb6
      k_memK
      refine ih k' (Nat.lt_succ_self _) (by have := tot_sp (side := side) hs; omega) (by omega) (lw_sp hL hs) (fun x hx => by unfold sp; rw [List.length_set]; exact hr x hx) h3 h6 ?_
      k_memK
      refine op_addl (.inl rfl) (.inl rfl) (by have : 2000 ≤ big := (by decide); simp; omega) ?_
      k_memK
      rw [← List.map_append]
      refine ⟨_, _, rfl, hb6, (by k_ownIn : Wk [("lists", .ref la), ("row", .lst (nV cf.row)), ("order", .str cf.o), ("choice", .str cf.ch), ("degrees", .lst (numV cf.dg)), ("literal", lV l), ("found", .lst ((found ++ (T cf (sp L l side)).1).map tV)), ("forks", .int (forks + ((T cf (sp L l side)).2 : Int)))] _), found ++ (T cf (sp L l side)).1, _, rfl, O6, hnx _ _ rfl rfl⟩
    · rintro ρ' σ2 ⟨found, forks, rfl, O2, hJ⟩
      rcases hJ with ⟨q, _⟩ | ⟨q, _⟩ | ⟨_, rfl, rfl⟩
      · cases q
      · cases q
      · k_memK
        exact ⟨Nat.le_of_ble_eq_true (by with_unfolding_all rfl), O2, rfl⟩
end
end Mine
-- part P3
namespace Mine
open PySem PySem.W PySem.Calls PyProof.Rows

theorem okd_putB {L : List (Int × Int)} {E : List Int} {v : Int} (h : Okd L) (hv : vals L = E) (hlt : ∀ x ∈ E, x < v) (hs : -1000 ≤ v ∧ v ≤ 1000) : Okd (putB L v v) ∧ vals (putB L v v) = E ++ [v] := by
  have one : iv v v = [v] := srt_ext iv_srt (by simp) fun x => by rw [mem_iv, List.mem_singleton]; omega
  unfold putB
  rcases List.eq_nil_or_concat L with rfl | ⟨M, p, rfl⟩
  · refine ⟨⟨fun q hq => ?_, by simp, fun q hq => ?_⟩, ?_⟩
    · simp at hq; subst hq; exact Int.le_refl _
    · simp at hq; subst hq; dsimp only; omega
    · rw [← hv]
      show iv v v ++ [] = [] ++ [v]
      rw [one]; rfl
  · rw [List.concat_eq_append] at *
    have hl : (M ++ [p]).getLast? = some p := by simp
    rw [hl]
    dsimp only
    have hp := h.le p (by simp)
    have hsp := h.sm p (by simp)
    have h2 : p.2 < v := hlt _ (by rw [← hv, mem_vals]; exact ⟨p, by simp, hp, Int.le_refl _⟩)
    obtain ⟨s1, s2, s3⟩ := List.pairwise_append.mp h.srt
    have vM : vals (M ++ [p]) = vals M ++ iv p.1 p.2 := by simp [vals]
    split
    · rename_i q
      have hd : (M ++ [p]).dropLast = M := by simp
      rw [hd]
      refine ⟨⟨fun r hr => ?_, List.pairwise_append.mpr ⟨s1, by simp, fun r hr z hz => ?_⟩, fun r hr => ?_⟩, ?_⟩
      · rcases List.mem_append.mp hr with z | z
        · exact h.le r (by simp [z])
        · simp at z; subst z; dsimp only; omega
      · simp at hz; subst hz; exact s3 r hr p (by simp)
      · rcases List.mem_append.mp hr with z | z
        · exact h.sm r (by simp [z])
        · simp at z; subst z; dsimp only; omega
      · have : iv p.1 v = iv p.1 p.2 ++ [v] := by
          refine srt_ext iv_srt (List.pairwise_append.mpr ⟨iv_srt, by simp, fun a ha b hb => ?_⟩) fun x => ?_
          · rw [mem_iv] at ha; simp at hb; omega
          · rw [List.mem_append, mem_iv, mem_iv, List.mem_singleton]; omega
        rw [← hv, vM]
        show vals (M ++ [(p.1, v)]) = _
        simp [vals, this]
    · rename_i q
      refine ⟨⟨fun r hr => ?_, List.pairwise_append.mpr ⟨h.srt, by simp, fun r hr z hz => ?_⟩, fun r hr => ?_⟩, ?_⟩
      · rcases List.mem_append.mp hr with z | z
        · exact h.le r z
        · simp at z; subst z; exact Int.le_refl _
      · simp at hz; subst hz
        exact hlt _ (by rw [← hv, mem_vals]; exact ⟨r, hr, h.le r hr, Int.le_refl _⟩)
      · rcases List.mem_append.mp hr with z | z
        · exact h.sm r z
        · simp at z; subst z; dsimp only; omega
      · rw [← hv]
        show vals ((M ++ [p]) ++ [(v, v)]) = _
        simp [vals, one]
theorem okd_putAll : ∀ (k : Nat) (S : List Int), S.length = k → S.Pairwise (· < ·) → (∀ v ∈ S, -1000 ≤ v ∧ v ≤ 1000) → Okd (putAll S) ∧ vals (putAll S) = S := by
  intro k
  induction k with
  | zero =>
    intro S hS _ _
    rw [List.eq_nil_of_length_eq_zero hS]
    exact ⟨⟨fun p hp => by simp [putAll] at hp, by simp [putAll], fun p hp => by simp [putAll] at hp⟩, rfl⟩
  | succ k ih =>
    intro S hS hs hb
    rcases List.eq_nil_or_concat S with rfl | ⟨M, b, rfl⟩
    · cases hS
    rw [List.concat_eq_append] at *
    obtain ⟨s1, s2, s3⟩ := List.pairwise_append.mp hs
    obtain ⟨h1, h2⟩ := ih M (by simpa using hS) s1 fun v hv => hb v (by simp [hv])
    have e : putAll (M ++ [b]) = putB (putAll M) b b := by simp [putAll]
    rw [e]
    exact okd_putB h1 h2 (fun x hx => s3 x hx b (by simp)) (hb b (by simp))
theorem perm_srt {l m : List Int} (hp : l.Perm m) (hl : l.Pairwise (· ≤ ·)) (hm : m.Pairwise (· < ·)) : l = m :=
  hp.eq_of_pairwise (fun a b _ _ h1 h2 => by omega) hl (hm.imp fun h => by omega)
theorem idx_strs {ss : List Str} {r : Int} (h0 : 0 ≤ r) (h1 : r < ss.length) : ∃ o, idx (ss.map V.str) r = some (.str o) := by
  have hlt : r.toNat < ss.length := by omega
  refine ⟨ss[r.toNat], ?_⟩
  unfold idx
  rw [if_pos h0]
  simp [hlt]
theorem look_put {es : List (Int × V)} {k k' : Int} {v : V} : look (putI es k v) k' = if k' = k then some v else look es k' := by
  unfold putI look
  split
  · rename_i q
    induction es with
    | nil => simp at q
    | cons e es ih =>
      rw [List.map_cons, List.find?_cons, List.find?_cons]
      by_cases h1 : e.1 = k
      · by_cases h2 : k' = k
        · subst h2; simp [h1]
        · have h3 : ¬ e.1 = k' := fun z => h2 (z.symm.trans h1)
          rw [if_pos h1, if_neg h2]
          simp only [h3, decide_false]
          by_cases h4 : es.any (fun kv => decide (kv.1 = k)) = true
          · have := ih h4; rw [if_neg h2] at this; exact this
          · have : (es.map fun kv => if kv.1 = k then (kv.1, v) else kv) = es := by
              conv => rhs; rw [← List.map_id es]
              apply List.map_congr_left
              intro x hx
              rw [if_neg fun z => h4 (List.any_eq_true.mpr ⟨x, hx, by simpa using z⟩)]; rfl
            rw [this]
      · have q' : es.any (fun kv => decide (kv.1 = k)) = true := by simpa [h1] using q
        have := ih q'
        rw [if_neg h1]
        by_cases h5 : e.1 = k'
        · have h2 : ¬ k' = k := fun z => h1 (h5.trans z)
          simp [h5, h2]
        · simp only [h5, decide_false]; exact this
  · rename_i q
    rw [List.find?_append]
    by_cases h2 : k' = k
    · subst h2
      have : es.find? (fun kv => decide (kv.1 = k')) = none := by
        rw [List.find?_eq_none]; intro x hx z; exact q (List.any_eq_true.mpr ⟨x, hx, z⟩)
      rw [this]; simp
    · rw [if_neg h2]
      have h3 : ¬ k = k' := fun z => h2 z.symm
      simp [h3]
theorem tot_pos : ∀ {L : List (List Int)}, Okl L → L ≠ [] → 1 ≤ tot L
  | [], _, h => absurd rfl h
  | S :: L, hL, _ => by
    have := hL.ne S (.head _)
    have : 1 ≤ S.length := List.length_pos_iff.mpr this
    unfold tot
    rw [List.map_cons, List.sum_cons]; omega
theorem T_bound2 {cf : Cfg} : ∀ (m : Nat) (L : List (List Int)), Okl L → tot L ≤ m + 1 → (T cf L).2 < 2 ^ m := by
  intro m
  induction m with
  | zero =>
    intro L hL h
    cases e : litOf cf L with
    | none => rw [T_leaf e]; simp
    | some l =>
      have hs := litOf_ok hL e
      have h1 := tot_sp (side := true) hs
      have h2 := tot_pos (okl_sp (side := true) hL hs) (fun z => by
        have e0 : L.length = 0 := by simpa [sp] using congrArg List.length z
        have := hs.lt
        omega)
      omega
  | succ m ih =>
    intro L hL h
    cases e : litOf cf L with
    | none => rw [T_leaf e]; exact Nat.two_pow_pos _
    | some l =>
      have hs := litOf_ok hL e
      have h1 := ih _ (okl_sp (side := true) hL hs) (by have := tot_sp (side := true) hs; omega)
      have h2 := ih _ (okl_sp (side := false) hL hs) (by have := tot_sp (side := false) hs; omega)
      rw [T_fork hL e, Nat.pow_succ]
      dsimp only
      omega
theorem tot_le : ∀ {L : List (List Int)}, (∀ S ∈ L, S.length ≤ 3) → tot L ≤ 3 * L.length
  | [], _ => Nat.le_refl _
  | S :: L, h => by
    have h1 := h S (.head _)
    have h2 := @tot_le L fun S hS => h S (.tail _ hS)
    unfold tot at *
    rw [List.map_cons, List.sum_cons, List.length_cons]; omega
theorem put_len {es : List (Int × V)} {k : Int} {v : V} : (putI es k v).length ≤ es.length + 1 := by
  unfold putI; split
  · simp
  · simp
end Mine
namespace Mine
open PySem PySem.W PySem.Calls PyProof.Rows
local macro_rules | `(tactic| k_memK) => `(tactic| repeat (first
  | with_reducible refine ev_name (by with_unfolding_all rfl) (by with_unfolding_all rfl) ?_
  | with_reducible refine ev_int ?_
  | with_reducible refine ev_str ?_
  | with_reducible refine ev_attr (fun _ => (by with_unfolding_all rfl)) ?_
  | with_reducible refine ev_subN (by with_unfolding_all rfl) ?_
  | with_reducible refine el_nil ?_
  | with_reducible refine el_cons ?_ (fun _ => (by with_unfolding_all rfl))
  | with_reducible refine ev_compare (by with_unfolding_all rfl) ?_
  | with_reducible refine ev_binop ?_
  | with_reducible refine ev_tuple ?_
  | with_reducible refine ev_unary ?_
  | with_reducible refine ev_bool ?_
  | with_reducible refine ev_none ?_
  | with_reducible refine ev_ifexp ?_
  | with_reducible refine ev_and ?_
  | with_reducible refine ev_or ?_
  | with_reducible refine ev_last ?_
  | with_reducible refine s_return ?_
  | with_reducible refine s_return_none ?_
  | with_reducible refine s_if ?_
  | with_reducible refine s_expr ?_ (by with_unfolding_all rfl) (fun _ => (by with_unfolding_all rfl))
  | with_reducible refine s_swap (fun _ => (by with_unfolding_all rfl)) (fun env h => by cases env; cases h; with_unfolding_all rfl) (by with_unfolding_all rfl) ?_
  | with_reducible refine s_assign ?_ (fun _ => (by with_unfolding_all rfl)) (fun _ _ => (by with_unfolding_all rfl)) (fun _ => (by with_unfolding_all rfl))
  | with_reducible refine s_assign ?_ (fun _ => (by with_unfolding_all rfl)) (fun env h => by cases env; cases h; with_unfolding_all rfl) (fun _ => (by with_unfolding_all rfl))
  | with_reducible refine xs_nil ?_
  | with_reducible refine t_not ?_
  | with_reducible refine t_compare (by with_unfolding_all rfl) ?_
  | with_reducible refine t_boolop ?_
  | with_reducible refine t_value ?_ (fun _ _ => (by with_unfolding_all rfl))
  | with_reducible refine ts_and_nil ?_
  | with_reducible refine ts_or_nil ?_
  | with_reducible refine ts_and ?_
  | with_reducible refine ts_or ?_
  | with_reducible refine as_itemS (fun _ _ => (by with_unfolding_all rfl)) ?_
  | with_reducible refine as_tuple (by with_unfolding_all rfl) (fun _ => (by with_unfolding_all rfl)) (fun _ => (by with_unfolding_all rfl)) ?_
  | with_reducible refine al_nil ?_
  | with_reducible refine al_cons ?_ (fun _ => (by with_unfolding_all rfl))
  | with_reducible refine as_name (by with_unfolding_all rfl) ?_
  | with_reducible refine tru_bool ?_
  | with_reducible refine op_add ?_
  | with_reducible refine op_sub ?_
  | with_reducible refine cm_lt ?_
  | with_reducible refine cm_le ?_
  | with_reducible refine cm_gt ?_
  | with_reducible refine cm_ge ?_
  | with_reducible refine cm_eq ?_
  | with_reducible refine cm_ne ?_
  | with_reducible refine cm_eqs ?_
  | with_reducible refine op_neg ?_
  | with_reducible refine cm_is ?_
  | with_reducible refine cm_isnot ?_
  | with_reducible refine sub_tup (by assumption) (by omega) ?_ (fun _ _ => (by with_unfolding_all rfl))
  | with_reducible refine sub_lst (by assumption) (by omega) ?_ (fun _ _ => (by with_unfolding_all rfl))
  | with_reducible refine sub_ref (by assumption) (by assumption) (by omega) ?_ (fun _ _ => (by with_unfolding_all rfl))
  | with_reducible refine sub_tup (by with_unfolding_all rfl) (by decide) ?_ (fun _ _ => (by with_unfolding_all rfl))
  | with_reducible refine sub_lst (by with_unfolding_all rfl) (by decide) ?_ (fun _ _ => (by with_unfolding_all rfl))
  | with_reducible refine c_max ?_
  | with_reducible refine c_min ?_
  | with_reducible refine c_range1 ?_
  | with_reducible refine c_range2 ?_
  | with_reducible refine m_append (fun _ => (by with_unfolding_all rfl)) (by with_unfolding_all rfl) (fun _ => (by with_unfolding_all rfl)) (fun _ => (by with_unfolding_all rfl)) (fun _ => ⟨_, _, (by with_unfolding_all rfl)⟩) ?_ (fun _ => (by with_unfolding_all rfl))
  | with_reducible refine m_extend (fun _ => (by with_unfolding_all rfl)) (by with_unfolding_all rfl) (fun _ => (by with_unfolding_all rfl)) (fun _ => (by with_unfolding_all rfl)) (fun _ => ⟨_, _, (by with_unfolding_all rfl)⟩) ?_ (fun _ => (by with_unfolding_all rfl))
  | with_reducible refine g_call bLen (by with_unfolding_all rfl) (fun _ => (by with_unfolding_all rfl)) (fun _ => ⟨_, _, (by with_unfolding_all rfl)⟩) (keeps_builtin _) ?_
  | with_reducible refine g_call bRange (by with_unfolding_all rfl) (fun _ => (by with_unfolding_all rfl)) (fun _ => ⟨_, _, (by with_unfolding_all rfl)⟩) (keeps_type _) ?_
  | with_reducible refine g_call bTuple (by with_unfolding_all rfl) (fun _ => (by with_unfolding_all rfl)) (fun _ => ⟨_, _, (by with_unfolding_all rfl)⟩) (keeps_type _) ?_
  | with_reducible refine g_call bList (by with_unfolding_all rfl) (fun _ => (by with_unfolding_all rfl)) (fun _ => ⟨_, _, (by with_unfolding_all rfl)⟩) (keeps_type _) ?_
  | with_reducible refine g_call bAbs (by with_unfolding_all rfl) (fun _ => (by with_unfolding_all rfl)) (fun _ => ⟨_, _, (by with_unfolding_all rfl)⟩) (keeps_builtin _) ?_
  | with_reducible refine g_call bMax (by with_unfolding_all rfl) (fun _ => (by with_unfolding_all rfl)) (fun _ => ⟨_, _, (by with_unfolding_all rfl)⟩) (keeps_builtin _) ?_
  | with_reducible refine g_call bMin (by with_unfolding_all rfl) (fun _ => (by with_unfolding_all rfl)) (fun _ => ⟨_, _, (by with_unfolding_all rfl)⟩) (keeps_builtin _) ?_
  | with_reducible refine g_call bSum (by with_unfolding_all rfl) (fun _ => (by with_unfolding_all rfl)) (fun _ => ⟨_, _, (by with_unfolding_all rfl)⟩) (keeps_builtin _) ?_
  | with_reducible refine g_call bSorted (by with_unfolding_all rfl) (fun _ => (by with_unfolding_all rfl)) (fun _ => ⟨_, _, (by with_unfolding_all rfl)⟩) (keeps_builtin _) ?_
  | with_reducible refine g_call bEnumerate (by with_unfolding_all rfl) (fun _ => (by with_unfolding_all rfl)) (fun _ => ⟨_, _, (by with_unfolding_all rfl)⟩) (keeps_type _) ?_
  | with_reducible refine g_call (kOwn (by with_unfolding_all rfl)) (by with_unfolding_all rfl) (fun _ => (by with_unfolding_all rfl)) (fun _ => ⟨_, _, (by with_unfolding_all rfl)⟩) (kKeep (by kernel_rfl)) ?_
  | with_reducible refine g_attrU (by with_unfolding_all rfl) (by kernel_rfl) ?_
  | with_reducible refine attr_setU (by kernel_rfl) (Nat.le_of_ble_eq_true (by with_unfolding_all rfl)) ?_
  | with_reducible refine op_not ?_
  | with_reducible refine g_attr (by assumption) (by with_unfolding_all rfl) (by kernel_rfl) ?_
  | with_reducible refine as_attrS ?_
  | with_reducible refine attr_set (by assumption) (by kernel_rfl) (Nat.le_of_ble_eq_true (by with_unfolding_all rfl)) ?_
  | with_reducible refine m_pop (fun _ => (by with_unfolding_all rfl)) (by with_unfolding_all rfl) (fun _ => (by with_unfolding_all rfl)) ?_
  | with_reducible refine m_get (fun _ => (by with_unfolding_all rfl)) (by with_unfolding_all rfl) (fun _ => (by with_unfolding_all rfl)) (fun _ => (by with_unfolding_all rfl)) (fun _ => ⟨_, _, (by with_unfolding_all rfl)⟩) ?_
  | with_reducible refine m_setdefault (fun _ => (by with_unfolding_all rfl)) (by with_unfolding_all rfl) (fun _ => (by with_unfolding_all rfl)) (fun _ => (by with_unfolding_all rfl)) (fun _ => ⟨_, _, (by with_unfolding_all rfl)⟩) ?_
  | with_reducible refine ev_meth0 (fun _ => (by with_unfolding_all rfl)) (by with_unfolding_all rfl) (fun _ => (by with_unfolding_all rfl)) ?_
  | with_reducible refine ev_meth1 (fun _ => (by with_unfolding_all rfl)) (by with_unfolding_all rfl) (fun _ => (by with_unfolding_all rfl)) (fun _ => (by with_unfolding_all rfl)) (fun _ => ⟨_, _, (by with_unfolding_all rfl)⟩) ?_
  | with_reducible refine umeth (by assumption) (by with_unfolding_all rfl) (by with_unfolding_all rfl) (by kernel_rfl) (by kernel_rfl) ?_
  | with_reducible refine g_call0 (kOwn (by with_unfolding_all rfl)) (by with_unfolding_all rfl) (kKeep (by kernel_rfl)) ?_))

local macro_rules | `(tactic| k_ownIn) => `(tactic| repeat (first
  | with_reducible exact capt_nil
  | with_reducible refine capt_cons (by with_unfolding_all rfl) (by with_unfolding_all rfl) ?_
  | with_reducible exact wk_refl
  | with_reducible exact Wk.nil
  | with_reducible refine Wk.cons (by with_unfolding_all rfl) ?_
  | with_reducible refine wk_set (by with_unfolding_all rfl) ?_))
-- part HF
section
variable {c : Cx} [hK : IsK c] {n : Nat} {σ : Sg} {Q : V → Sg → Prop}
def fAbs : V → Option V
  | .int v => some (.int (if v < 0 then -v else v))
  | _ => none
def fLin (low step : Int) : V → Option V
  | .int v => some (.int (low + step * v))
  | _ => none
theorem fAbs_is (ns : List Int) : (numV ns).filterMap fAbs = numV (ns.map fun v => if v < 0 then -v else v) := by
  unfold numV
  rw [List.filterMap_map, List.map_map]
  show List.filterMap (some ∘ fun v => V.int (if v < 0 then -v else v)) _ = _
  rw [List.filterMap_eq_map]; rfl
theorem fLin_is (low step : Int) (k : Nat) : (nV (List.range k)).filterMap (fLin low step) = numV ((List.range k).map fun (j : Nat) => low + step * (j : Int)) := by
  unfold numV nV
  rw [List.filterMap_map, List.map_map]
  show List.filterMap (some ∘ fun (j : Nat) => V.int (low + step * (j : Int))) _ = _
  rw [List.filterMap_eq_map]; rfl
theorem lin_ok {low step : Int} {k : Nat} (hl : -2 ≤ low ∧ low < 3) (hs : 1 ≤ step ∧ step ≤ 2) (hk : 1 ≤ k ∧ k ≤ 3) : let S := (List.range k).map fun (j : Nat) => low + step * (j : Int)
    S.Pairwise (· < ·) ∧ S ≠ [] ∧ S.length ≤ 3 ∧ ∀ v ∈ S, -1000 ≤ v ∧ v ≤ 1000 := by
  intro S
  have hstep : step = 1 ∨ step = 2 := by omega
  refine ⟨?_, fun e => ?_, by simp [S]; omega, fun v hv => ?_⟩
  · rw [List.pairwise_map]
    refine List.pairwise_lt_range.imp fun h => ?_
    rcases hstep with rfl | rfl <;> omega
  · have := congrArg List.length e
    simp [S] at this; omega
  · obtain ⟨j, hj, rfl⟩ := List.mem_map.mp hv
    have := List.mem_range.mp hj
    rcases hstep with rfl | rfl <;> omega
theorem del_self {σ : Sg} {b : Addr} {o : AO} (h : σ b = some o) : upd (del σ b) b o = σ ∧ del σ b b = none := by
  refine ⟨?_, by simp [del]⟩
  funext x; unfold upd del
  by_cases q : x = b
  · rw [if_pos q, q, h]
  · rw [if_neg q, if_neg q]
/-- the law's own ghosts -/
structure Lw (σ : Sg) (so li l : Addr) (cs : List Int) (k : Nat) (a : StA) (ds : List Dom) : Prop where
  so : σ so = some (srcO cs k)
  li : σ li = some (.list 41 (lSV (lists ds)))
  st : Has σ l a ⟨ds, ds.map dv, [], [], [], -1, false, .tup []⟩
structure Dd (ds : List Dom) (i : Nat) : Prop where
  len : ds.length = i
  ok : ∀ D ∈ ds, Okd D ∧ D ≠ [] ∧ (vals D).length ≤ 3
theorem Lw.draw {so li l : Addr} {cs : List Int} {k k' : Nat} {a : StA} {ds : List Dom} (H : Lw σ so li l cs k a ds) : Lw (upd σ so (srcO cs k')) so li l cs k' a ds := by
  have K : Kp 21 21 σ (upd σ so (srcO cs k')) := kp_upd H.so
  exact ⟨upd_same, K _ _ H.li (by simp [AO.tag]), H.st.kp (hi := 21) fun a o e t => K a o e (by omega)⟩
theorem Lw.old {σ' : Sg} {so li l : Addr} {cs : List Int} {k : Nat} {a : StA} {ds : List Dom} (H : Lw σ so li l cs k a ds) (O : Old σ σ') : Lw σ' so li l cs k a ds := by
  have K : Kp 21 20 σ σ' := Kp.any O
  exact ⟨K _ _ H.so (by omega), K _ _ H.li (by omega), H.st.kp (hi := 20) fun a o e t => K a o e (by omega)⟩
theorem Lw.del {so li l b : Addr} {cs : List Int} {k : Nat} {a : StA} {ds : List Dom} {o : AO} (H : Lw σ so li l cs k a ds) (hb : σ b = some o) (hi : o.it = true := by rfl) : Lw (del σ b) so li l cs k a ds := by
  have ne : ∀ {x o}, σ x = some o → o.it = false → Mine.del σ b x = some o := fun {x o} e i => del_ne (by rintro rfl; rw [hb] at e; cases e; rw [hi] at i; cases i) e
  exact ⟨ne H.so rfl, ne H.li rfl, ⟨ne H.st.o rfl, ne H.st.d rfl, ne H.st.f rfl, ne H.st.t rfl, ne H.st.m rfl, ne H.st.w rfl⟩⟩
theorem Lw.itu {so li l b : Addr} {cs : List Int} {k : Nat} {a : StA} {ds : List Dom} {o o' : AO} (H : Lw σ so li l cs k a ds) (hb : σ b = some o) (hi : o.it = true := by rfl) : Lw (upd σ b o') so li l cs k a ds := by
  have ne : ∀ {x o}, σ x = some o → o.it = false → upd σ b o' x = some o := fun {x o} e i => upd_ne (by rintro rfl; rw [hb] at e; cases e; rw [hi] at i; cases i) e
  exact ⟨ne H.so rfl, ne H.li rfl, ⟨ne H.st.o rfl, ne H.st.d rfl, ne H.st.f rfl, ne H.st.t rfl, ne H.st.m rfl, ne H.st.w rfl⟩⟩
theorem range_cons {i r : Nat} : nV (List.range' i (r + 1)) = .int i :: nV (List.range' (i + 1) r) := by
  simp [nV, List.range'_succ]
theorem okV_oV {x : Option Lit} (h : ∀ l, x = some l → sgn l.s) : okV 8 (oV x) = true := by
  cases x with
  | none => rfl
  | some l =>
    have hs := h l rfl
    obtain ⟨x, s, k⟩ := l
    have e1 : PyData.strOk ("<=" : Str) = true := by kernel_rfl
    have e2 : PyData.strOk (">=" : Str) = true := by kernel_rfl
    have e3 : PyData.strOk ("=" : Str) = true := by kernel_rfl
    rcases hs with q | q | q <;> (dsimp only at q; subst q; simp [okV, e1, e2, e3])
theorem ndec {p : Prop} {i : Decidable p} (h : p) : (!(@decide p i)) = false := by simp [h]
theorem okV_tV (l : List (List Int)) : okV 8 (.lst (l.map tV)) = true := by
  simp only [okV, List.all_eq_true]
  intro v hv
  obtain ⟨k, hk, rfl⟩ := List.mem_map.mp hv
  simp [okV, numV]
theorem f_law {ns : List Int} (h : ∀ σ', Q (.bool true) σ') : CallV c (n + 20) (.ref 698) [.lst (numV ns)] σ Q := by
  refine kCall (names := ["script"]) (by kernel_rfl) (by kernel_rfl) (by intro xs h; match xs, h with | [x0], _ => rfl) (by conv => lhs; whnf) (by conv => lhs; whnf) rfl ?_
  k_memK
  refine ev_dict2 21 (by decide) ?_
  refine ev_comp_pure [] (numV (ns.take 24)) fAbs (by have := big1000; simp [numV]; omega) (by with_unfolding_all rfl) (by k_ownIn) (fun _ _ => rfl) ?_ ?_ ?_
  · refine ev_slice ?_
    k_memK
    refine ep_none (ep_some ?_)
    k_memK
    refine ⟨_, rfl, numV ns, numV (ns.take 24), .inl rfl, by simp [cut, numV], ?_⟩
    exact it_lst fun a ha => ⟨ha, rfl⟩
  · intro σ2 hσ v hv
    obtain ⟨z, hz, rfl⟩ := List.mem_map.mp hv
    refine ct_name (by with_unfolding_all rfl) ⟨rfl, by k_ownIn, ?_⟩
    refine ⟨rfl, fun _ => ?_, fun q => (nomatch q)⟩
    k_memK
    exact c_abs ⟨rfl, rfl⟩
  rw [fAbs_is]
  generalize (ns.take 24).map (fun v => if v < 0 then -v else v) = cs
  k_memK
  intro so hso
  have so1 : upd σ so (srcO cs 0) so = some (srcO cs 0) := upd_same
  change AsT _ _ _ _ (upd σ so (srcO cs 0)) _ _ _
  generalize upd σ so (srcO cs 0) = σ1 at so1
  k_memK
  refine f_draw so1 (by decide) (by decide) fun r0 hr0 hr1 => ?_
  have so2 : upd σ1 so (srcO cs (0 + 1)) so = some (srcO cs (0 + 1)) := upd_same
  generalize upd σ1 so (srcO cs (0 + 1)) = σ2 at so2
  k_memK
  obtain ⟨m, hm⟩ : ∃ m : Nat, 1 + r0 = m := ⟨(1 + r0).toNat, by omega⟩
  rw [hm]
  have hm1 : 1 ≤ m := by omega
  have hm3 : m ≤ 3 := by omega
  clear hm hr0 hr1 hso
  refine st_new fun l a σ3 H3 O3 => ?_
  have so3 := (O3 so (by rw [so2]; exact fun z => nomatch z)).trans so2
  k_memK
  refine ev_mlist 41 ?_
  k_memK
  refine ⟨Nat.zero_le _, fun li hli => ?_⟩
  have W4 : Lw (upd σ3 li (.list 41 [])) so li l cs 1 a [] := ⟨keepu so3 hli, upd_same, has_new H3 hli⟩
  generalize upd σ3 li (.list 41 []) = σ4 at W4
  clear O3 H3 so3 so2 so1 hli
  k_memK
  refine ⟨Nat.le_of_ble_eq_true (by with_unfolding_all rfl), _, rfl, rfl, ?_⟩
  show ExS _ _ _ _ _ _ _ _
  refine s_for (fun vs ρ' σ' => ∃ i r k ds, i + r = m ∧ vs = nV (List.range' i r) ∧ k ≤ 1 + 3 * i ∧ Dd ds i ∧ Lw σ' so li l cs k a ds ∧ ρ' = ([("source", .ref so), ("many", .int m), ("store", .inst 658 l), ("lists", .ref li)] : Rho)) (fun _ _ => rfl) ?_ ?_ ?_
  · k_memK
    refine it_rng ⟨by decide, by decide, by show -(2 ^ 18) ≤ (m : Int); omega, by show (m : Int) < 2 ^ 18; omega⟩ fun b2 hb2 => ⟨_, _, _, hb2, rfl, (by k_ownIn : Wk [("source", .ref so), ("many", .int m), ("store", .inst 658 l), ("lists", .ref li)] _), 0, m, 1, [], by omega, by rw [rl_nV, List.range_eq_range'], by omega, ⟨rfl, fun D hD => nomatch hD⟩, W4, rfl⟩
  · rintro v vs ρ' σ5 b2 ⟨i, r, k, ds, him, hvs, hk, hD, W5, rfl⟩ hb2
    cases r with
    | zero => cases hvs
    | succ r =>
      rw [range_cons] at hvs
      cases hvs
      have W6 := W5.old (new_any (o := .iter (nV (List.range' (i + 1) r))) hb2)
      have hI6 : upd σ5 b2 (.iter (nV (List.range' (i + 1) r))) b2 = some (.iter (nV (List.range' (i + 1) r))) := upd_same
      generalize upd σ5 b2 (.iter (nV (List.range' (i + 1) r))) = σ6 at W6 hI6
      clear W5 hb2
      have dr : ∀ {τ : Sg} {q : Nat}, Lw τ so li l cs q a ds → τ b2 = some (.iter (nV (List.range' (i + 1) r))) → upd τ so (srcO cs (q + 1)) b2 = some (.iter (nV (List.range' (i + 1) r))) := fun {τ q} H hI => upd_ne (by rintro rfl; rw [H.so] at hI; cases hI) hI
      k_memK
      refine f_draw W6.so (by omega) (by decide) fun r1 h10 h11 => ?_
      have W7 := W6.draw (k' := k + 1)
      have hI7 := dr W6 hI6
      generalize upd σ6 so (srcO cs (k + 1)) = σ7 at W7 hI7
      k_memK
      refine f_draw W7.so (by omega) (by decide) fun r2 h20 h21 => ?_
      have W8 := W7.draw (k' := k + 1 + 1)
      have hI8 := dr W7 hI7
      generalize upd σ7 so (srcO cs (k + 1 + 1)) = σ8 at W8 hI8
      k_memK
      refine f_draw W8.so (by omega) (by decide) fun r3 h30 h31 => ?_
      have W9 := W8.draw (k' := k + 1 + 1 + 1)
      have hI9 := dr W8 hI8
      generalize upd σ8 so (srcO cs (k + 1 + 1 + 1)) = σ9 at W9 hI9
      clear W6 W7 W8 hI6 hI7 hI8 dr
      k_memK
      obtain ⟨kc, hkc⟩ : ∃ kc : Nat, 1 + r2 = kc := ⟨(1 + r2).toNat, by omega⟩
      rw [hkc]
      refine ⟨Nat.le_of_ble_eq_true (by with_unfolding_all rfl), ?_⟩
      k_memK
      refine ⟨_, _, _, rfl, W9.li, ?_⟩
      refine ev_comp_pure [("low", .int (r1 - 2)), ("step", .int (1 + r3))] (nV (List.range kc)) (fLin (r1 - 2) (1 + r3)) (by have := big1000; simp; omega) (by with_unfolding_all rfl) (by k_ownIn) (fun _ _ => rfl) ?_ ?_ ?_
      · k_memK
        exact it_rng ⟨by decide, by decide, by show -(2 ^ 18) ≤ (kc : Int); omega, by show (kc : Int) < 2 ^ 18; omega⟩ fun a ha => ⟨ha, by rw [rl_nV]⟩
      · intro τ hτ v hv
        obtain ⟨j, hj, rfl⟩ := List.mem_map.mp hv
        have hjk := List.mem_range.mp hj
        refine ct_name (by with_unfolding_all rfl) ⟨rfl, by k_ownIn, ?_⟩
        refine ⟨rfl, fun _ => ?_, fun q => (nomatch q)⟩
        k_memK
        refine op_mul (by omega) (by omega) ?_
        k_memK
        exact ⟨rfl, rfl⟩
      rw [fLin_is]
      obtain ⟨S1, S2, S3, S4⟩ := lin_ok (low := r1 - 2) (step := 1 + r3) (k := kc) (by omega) (by omega) (by omega)
      generalize hS : (List.range kc).map (fun (j : Nat) => (r1 - 2) + (1 + r3) * (j : Int)) = S at S1 S2 S3 S4
      clear hS
      have hds3 : ds.length ≤ 2 := by rw [hD.len]; omega
      refine ⟨_, _, W9.li, by have := big1000; simp; omega, ?_⟩
      have li10 : upd σ9 li (.list 41 (lSV (lists ds) ++ [.lst (numV S)])) li = some (.list 41 (lSV (lists ds) ++ [.lst (numV S)])) := upd_same
      have K10 : Kp 41 41 σ9 (upd σ9 li (.list 41 (lSV (lists ds) ++ [.lst (numV S)]))) := kp_upd W9.li
      have so10 := K10 _ _ W9.so (by simp [AO.tag])
      have hI10 := K10 _ _ hI9 (by simp [AO.tag])
      have st10 := W9.st.kp (hi := 41) fun a o e t => K10 a o e (by omega)
      generalize upd σ9 li (.list 41 (lSV (lists ds) ++ [.lst (numV S)])) = σ10 at li10 so10 hI10 st10
      clear W9 hI9 K10
      have hs10 := st10.o
      k_memK
      refine sub_ref li10 (v := .lst (numV S)) (idx_nat ?_) (by omega) ?_ (fun _ _ => by with_unfolding_all rfl)
      · have e : (lSV (lists ds)).length = i := by simp [hD.len]
        rw [← e]; simp
      k_memK
      refine f_from_values (by omega) fun ns' p1 p2 => ?_
      have e1 := perm_srt p1 p2 S1
      subst e1
      obtain ⟨o1, o2⟩ := okd_putAll _ ns' rfl S1 S4
      k_memK
      refine st_new_var st10 (D := putAll ns') (fun e => by rw [e] at o2; exact S2 o2.symm) (by show ds.length < 1000; omega) (by show (ds.map dv).length < 1000; simp; omega) fun σ11 H11 K11 => ?_
      have K11 : Kp 1 6 σ10 σ11 := K11
      have so11 := K11 _ _ so10 (by simp [AO.tag])
      have li11 := K11 _ _ li10 (by simp [AO.tag])
      have hI11 := K11 _ _ hI10 (by simp [AO.tag])
      clear K11 so10 li10 hI10 st10 hs10
      have W11 : Lw σ11 so li l cs (k + 1 + 1 + 1) a (ds ++ [putAll ns']) := by
        refine ⟨so11, ?_, ?_⟩
        · rw [li11]; simp [lists, lSV, o2]
        · have e : (ds ++ [putAll ns']).map dv = ds.map dv ++ [dv (putAll ns')] := by simp
          rw [e]; exact H11
      k_memK
      rw [show ((({ ds := ds, fs := ds.map dv, tr := [], ms := [], nw := [], sp := -1, fl := false, cl := .tup [] } : StS).ds.length : Int) != (i : Int)) = false by show (((ds.length : Nat) : Int) != (i : Int)) = false; rw [hD.len]; simp]
      refine ⟨fun q => (nomatch q), fun _ => ?_⟩
      k_memK
      obtain ⟨d1, d2⟩ := del_self hI11
      refine ⟨_, _, d1.symm, d2, (by k_ownIn : Wk [("source", .ref so), ("many", .int m), ("store", .inst 658 l), ("lists", .ref li)] _), i + 1, r, _, _, by omega, rfl, ?_, ⟨by rw [List.length_append, hD.len]; rfl, fun D hDm => ?_⟩, W11.del hI11, rfl⟩
      · omega
      · rcases List.mem_append.mp hDm with q | q
        · exact hD.ok D q
        · rw [List.mem_singleton] at q; subst q
          exact ⟨o1, fun e => by rw [e] at o2; exact S2 o2.symm, by rw [o2]; exact S3⟩
  · rintro ρ' σ5 ⟨i, r, k, ds, him, hvs, hk, hD, W5, rfl⟩
    cases r with
    | succ r => cases hvs
    | zero =>
      obtain rfl : m = i := by omega
      clear him hvs
      k_memK
      refine ev_list ?_
      k_memK
      refine ⟨Nat.le_of_ble_eq_true (by with_unfolding_all rfl), ?_⟩
      k_memK
      refine f_draw W5.so (by omega) (by decide) fun r1 h10 h11 => ?_
      have W6 := W5.draw (k' := k + 1)
      generalize upd σ5 so (srcO cs (k + 1)) = σ6 at W6
      obtain ⟨o, hor⟩ := idx_strs (ss := ["input_order", "first_fail", "smallest", "largest", "most_constrained"]) h10 (by simpa using h11)
      refine sub_lst (v := .str o) hor (by omega) ?_ (fun _ _ => by with_unfolding_all rfl)
      k_memK
      refine ev_list ?_
      k_memK
      refine ⟨Nat.le_of_ble_eq_true (by with_unfolding_all rfl), ?_⟩
      k_memK
      refine f_draw W6.so (by omega) (by decide) fun r2 h20 h21 => ?_
      have W7 := W6.draw (k' := k + 1 + 1)
      generalize upd σ6 so (srcO cs (k + 1 + 1)) = σ7 at W7
      obtain ⟨ch, hch⟩ := idx_strs (ss := ["min", "max", "median", "split"]) h20 (by simpa using h21)
      refine sub_lst (v := .str ch) hch (by omega) ?_ (fun _ _ => by with_unfolding_all rfl)
      clear hor hch W5 W6
      k_memK
      refine xs_cons (x_assign_comp [("source", .ref so)] (fun ad D q acc τ => ∃ i r dg, i + r = m ∧ q = r ∧ acc = numV dg ∧ dg.length = i ∧ τ ad = some (.iter (nV (List.range' i r))) ∧ Lw τ so li l cs (k + 1 + 1 + i) a ds) (by with_unfolding_all rfl) (by k_ownIn) (by with_unfolding_all rfl) (fun env h => by cases env; cases h; with_unfolding_all rfl) (fun _ _ => rfl) ?_ ?_)
      · k_memK
        refine it_rng ⟨by decide, by decide, by show -(2 ^ 18) ≤ (m : Int); omega, by show (m : Int) < 2 ^ 18; omega⟩ fun ad had => ⟨⟨_, upd_same, rfl⟩, m, fun D hDn => ⟨0, m, [], by omega, rfl, rfl, rfl, ?_, (W7.old (new_any had)).old (new_any hDn)⟩⟩
        have hne : ad ≠ D := by rintro rfl; rw [upd_same] at hDn; cases hDn
        rw [upd_ne hne upd_same, rl_nV, List.range_eq_range']
      · rintro ad D r acc τ ⟨i, _, dg, him, rfl, rfl, hdl, hai, Wt⟩ hDa
        have hne : ad ≠ D := by rintro rfl; rw [hai] at hDa; cases hDa
        cases r with
        | zero =>
          refine ⟨none, _, next_none hai, del_ne hne.symm hDa, ?_⟩
          obtain rfl : m = i := by omega
          have W8 := (Wt.del hai).del (del_ne hne.symm hDa)
          change ExS _ _ _ _ (del (del τ ad) D) _ _ _
          generalize del (del τ ad) D = σ8 at W8
          clear Wt W7 hai hDa him
          refine xs_weak (by k_ownIn : Wk [("source", .ref so), ("many", .int m), ("store", .inst 658 l), ("lists", .ref li), ("order", .str o), ("choice", .str ch), ("degrees", .lst (numV dg))] _) ?_
          k_memK
          refine f_draw W8.so (by omega) (by omega) fun sh hs0 hs1 => ?_
          have W9 := W8.draw (k' := k + 1 + 1 + m + 1)
          generalize upd σ8 so (srcO cs (k + 1 + 1 + m + 1)) = σ9 at W9
          k_memK
          refine f_draw W9.so (by omega) (by omega) fun ln hn0 hn1 => ?_
          have W10 := W9.draw (k' := k + 1 + 1 + m + 1 + 1)
          generalize upd σ9 so (srcO cs (k + 1 + 1 + m + 1 + 1)) = σ10 at W10
          clear W8 W9
          k_memK
          refine ⟨Nat.le_of_ble_eq_true (by with_unfolding_all rfl), _, rfl, rfl, ?_⟩
          show ExS _ _ _ _ _ _ _ _
          k_memK
          refine ev_slice ?_
          k_memK
          refine ev_slice ?_
          k_memK
          refine c_list_rng ⟨by decide, by decide, by show -(2 ^ 18) ≤ (m : Int); omega, by show (m : Int) < 2 ^ 18; omega⟩ ?_
          refine ep_some ?_
          k_memK
          refine ⟨_, rfl, ep_none ⟨_, (rl 0 (m : Int)).drop sh.toNat, .inl rfl, by unfold cut; dsimp only; rw [if_pos hs0], ?_⟩⟩
          k_memK
          refine c_list_rng ⟨by decide, by decide, by show -(2 ^ 18) ≤ sh; omega, by show sh < 2 ^ 18; omega⟩ ?_
          refine op_addl (.inl rfl) (.inl rfl) (by have := big1000; simp [rl]; omega) ?_
          refine ep_none (ep_some ?_)
          k_memK
          refine ⟨_, rfl, _, ((rl 0 (m : Int)).drop sh.toNat ++ rl 0 sh).take ln.toNat, .inl rfl, by unfold cut; dsimp only; rw [if_pos hn0], ?_⟩
          obtain ⟨s, hs⟩ : ∃ s : Nat, sh = s := ⟨sh.toNat, by omega⟩
          subst hs
          have erow : ((rl 0 (m : Int)).drop (s : Int).toNat ++ rl 0 (s : Int)).take ln.toNat = nV (((List.range m).drop s ++ List.range s).take ln.toNat) := by
            rw [rl_nV, rl_nV]
            simp [nV, List.map_drop, List.map_take]
          rw [erow]
          have hrow : ∀ x ∈ ((List.range m).drop s ++ List.range s).take ln.toNat, x < m := by
            intro x hx
            rcases List.mem_append.mp (List.mem_of_mem_take hx) with q | q
            · exact List.mem_range.mp (List.mem_of_mem_drop q)
            · have := List.mem_range.mp q; omega
          have hrl : (((List.range m).drop s ++ List.range s).take ln.toNat).length ≤ 3 := by
            rw [List.length_take, List.length_append, List.length_drop, List.length_range, List.length_range]; omega
          generalize ((List.range m).drop s ++ List.range s).take ln.toNat = row at hrow hrl
          k_memK
          refine c_tuple_lst ?_
          k_memK
          refine br_new (cf := ⟨o, ch, dg, row⟩) (.inr rfl) fun b bd σ11 HB11 O11 => ?_
          have W11 := W10.old O11
          clear O11 W10
          k_memK
          refine s_for (fun vs ρ' τ => ∃ i r es, i + r = m ∧ vs = nV (List.range' i r) ∧ HasB τ b bd ⟨o, ch, dg, row⟩ es ∧ (∀ x, x < i → look es (x : Int) = some (.int (dg.getD x 0))) ∧ es.length ≤ i ∧ Lw τ so li l cs (k + 1 + 1 + m + 1 + 1) a ds ∧ ρ' = ([("source", .ref so), ("many", .int m), ("store", .inst 658 l), ("lists", .ref li), ("order", .str o), ("choice", .str ch), ("degrees", .lst (numV dg)), ("row", .lst (nV row)), ("brancher", .inst 379 b)] : Rho)) (fun _ _ => rfl) ?_ ?_ ?_
          · k_memK
            refine it_rng ⟨by decide, by decide, by show -(2 ^ 18) ≤ (m : Int); omega, by show (m : Int) < 2 ^ 18; omega⟩ fun b2 hb2 => ⟨_, _, _, hb2, rfl, (by k_ownIn : Wk [("source", .ref so), ("many", .int m), ("store", .inst 658 l), ("lists", .ref li), ("order", .str o), ("choice", .str ch), ("degrees", .lst (numV dg)), ("row", .lst (nV row)), ("brancher", .inst 379 b)] _), 0, m, [], by omega, by rw [rl_nV, List.range_eq_range'], HB11, fun x hx => absurd hx (by omega), Nat.zero_le _, W11, rfl⟩
          · rintro v vs ρ' τ b2 ⟨i, r, es, him, hvs, HBt, hlk, hel, Wt, rfl⟩ hb2
            cases r with
            | zero => cases hvs
            | succ r =>
              rw [range_cons] at hvs
              cases hvs
              have Wt2 := Wt.old (new_any (o := .iter (nV (List.range' (i + 1) r))) hb2)
              have HBt2 := HBt.new (o := .iter (nV (List.range' (i + 1) r))) hb2
              have hI : upd τ b2 (.iter (nV (List.range' (i + 1) r))) b2 = some (.iter (nV (List.range' (i + 1) r))) := upd_same
              generalize upd τ b2 (.iter (nV (List.range' (i + 1) r))) = τ2 at Wt2 HBt2 hI
              have idg := idx_dg (dg := dg) (x := i) (by omega)
              have hin : i < 1000 := by omega
              have hob := HBt2.o
              k_memK
              refine i_idict HBt2.d (by have := big1000; omega) ?_
              have K3 : Kp 11 11 τ2 (upd τ2 bd (.idict 11 (putI es (i : Int) (.int (dg.getD i 0))))) := kp_upd HBt2.d
              have hI3 := K3 _ _ hI (by simp [AO.tag])
              have Wt3 : Lw (upd τ2 bd (.idict 11 (putI es (i : Int) (.int (dg.getD i 0))))) so li l cs (k + 1 + 1 + m + 1 + 1) a ds := ⟨K3 _ _ Wt2.so (by simp [AO.tag]), K3 _ _ Wt2.li (by simp [AO.tag]), Wt2.st.kp (hi := 11) fun a o e t => K3 a o e (by omega)⟩
              have HBt3 : HasB (upd τ2 bd (.idict 11 (putI es (i : Int) (.int (dg.getD i 0))))) b bd ⟨o, ch, dg, row⟩ (putI es (i : Int) (.int (dg.getD i 0))) := ⟨K3 _ _ HBt2.o (by simp [AO.tag]), upd_same⟩
              generalize upd τ2 bd (.idict 11 (putI es (i : Int) (.int (dg.getD i 0)))) = τ3 at hI3 Wt3 HBt3
              obtain ⟨d1, d2⟩ := del_self hI3
              have ne3 : ∀ {x o}, τ3 x = some o → o.it = false → del τ3 b2 x = some o := fun {x o} e i => del_ne (by rintro rfl; rw [hI3] at e; cases e; cases i) e
              k_memK
              refine ⟨_, _, d1.symm, d2, (by k_ownIn : Wk [("source", .ref so), ("many", .int m), ("store", .inst 658 l), ("lists", .ref li), ("order", .str o), ("choice", .str ch), ("degrees", .lst (numV dg)), ("row", .lst (nV row)), ("brancher", .inst 379 b)] _), i + 1, r, _, by omega, rfl, ⟨ne3 HBt3.o rfl, ne3 HBt3.d rfl⟩, fun x hx => ?_, ?_, Wt3.del hI3, rfl⟩
              · rw [look_put]
                by_cases q : x = i
                · subst q; rw [if_pos rfl]
                · rw [if_neg (by omega)]; exact hlk x (by omega)
              · have := @put_len es (i : Int) (.int (dg.getD i 0)); omega
          · rintro ρ' τ ⟨i, r, es, him, hvs, HBt, hlk, hel, Wt, rfl⟩
            cases r with
            | succ r => cases hvs
            | zero =>
              obtain rfl : m = i := by omega
              clear him hvs HB11 W11
              have hDm := hD.len
              have doms : Doms ds := ⟨fun D hDD => ⟨(hD.ok D hDD).1, (hD.ok D hDD).2.1⟩, by omega, fun D hDD => by have := (hD.ok D hDD).2.2; omega⟩
              have hll : (lists ds).length = m := by simp [hDm]
              have lw : LW (lists ds) dg := ⟨doms.okl, by omega, fun S hS => by obtain ⟨D, hDD, rfl⟩ := List.mem_map.mp hS; have := (hD.ok D hDD).2.2; omega, by omega⟩
              have htot : tot (lists ds) ≤ 9 := by
                have := @tot_le (lists ds) fun S hS => by obtain ⟨D, hDD, rfl⟩ := List.mem_map.mp hS; exact (hD.ok D hDD).2.2
                omega
              have deg : DegOk ⟨o, ch, dg, row⟩ es := fun _ x hx => hlk x (hrow x hx)
              have hrowl : ∀ x ∈ row, x < (lists ds).length := fun x hx => by rw [hll]; exact hrow x hx
              have okl := okV_oV (x := lawLit o ch dg row (lists ds)) fun l hl => (lawLit_ok doms.okl hl).1.sg
              have hob := HBt.o
              k_memK
              refine br_choose (cf := ⟨o, ch, dg, row⟩) Wt.st doms HBt deg (fun x hx => by show x < ds.length; rw [hDm]; exact hrow x hx) hrl fun τ1 O1 => ?_
              have W1 := Wt.old O1
              have HB1 : HasB τ1 b bd ⟨o, ch, dg, row⟩ es := ⟨(O1 _ (by rw [HBt.o]; exact fun z => nomatch z)).trans HBt.o, (O1 _ (by rw [HBt.d]; exact fun z => nomatch z)).trans HBt.d⟩
              clear hob Wt HBt
              k_memK
              refine f_law_literal lw hrowl hrl W1.li ?_
              k_memK
              refine cm_ned (rd_data okl) (rd_data okl) ?_
              rw [ndec rfl]
              k_memK
              refine ⟨fun q => (nomatch q), fun _ => ?_⟩
              k_memK
              refine f_law_tree (cf := ⟨o, ch, dg, row⟩) 9 htot (Nat.le_refl _) lw hrowl hrl W1.li ?_
              have hTb := (@T_bound ⟨o, ch, dg, row⟩ 9 _ doms.okl htot).2
              have hTf := @T_bound2 ⟨o, ch, dg, row⟩ 8 _ doms.okl htot
              have hready : ∀ {p rf}, Rdy ⟨o, ch, dg, row⟩ m (T ⟨o, ch, dg, row⟩ (lists ds)).2 ⟨a, ⟨ds, ds.map dv, [], [], [], -1, false, .tup []⟩, p, rf, b, [], [], false, false, false, 0⟩ (T ⟨o, ch, dg, row⟩ (lists ds)).1 := fun {p rf} => by
                refine .fresh ⟨doms, hDm, rfl, ?_, ?_, ⟨rfl, rfl⟩, Nat.le_refl _, Nat.le_refl _, by show 0 < 500; decide⟩ rfl rfl rfl rfl rfl rfl rfl
                · simp [okV]
                · intro hm
                  obtain ⟨D, hDD, e⟩ := List.mem_map.mp hm
                  exact (hD.ok D hDD).2.1 (dv_inj (Y := []) e)
              generalize (T ⟨o, ch, dg, row⟩ (lists ds)).1 = todo at hTb hready
              generalize (T ⟨o, ch, dg, row⟩ (lists ds)).2 = F at hTf hready
              k_memK
              refine en_new (l0 := l) fun e ea τ2 HE2 O2 => ?_
              have W2 := W1.old O2
              have HB2 : HasB τ2 b bd ⟨o, ch, dg, row⟩ es := ⟨(O2 _ (by rw [HB1.o]; exact fun z => nomatch z)).trans HB1.o, (O2 _ (by rw [HB1.d]; exact fun z => nomatch z)).trans HB1.d⟩
              clear W1 HB1
              k_memK
              refine se_new W2.st HE2 HB2 rfl (fun x hx => ⟨_, hlk x (hrow x hx)⟩) hrl fun s p rf τ3 Y3 O3 => ?_
              have W3 := W2.old O3
              clear W2 HB2 HE2
              k_memK
              refine f_draw W3.so (by omega) (by decide) fun r4 h40 h41 => ?_
              have Y4 := Y3.kp (kp_upd (lo := 16) (hi := 21) (p := srcO cs (k + 1 + 1 + m + 1 + 1 + 1)) W3.so)
              generalize upd τ3 so (srcO cs (k + 1 + 1 + m + 1 + 1 + 1)) = τ4 at Y4
              clear W3 Y3
              obtain ⟨few, hfew⟩ : ∃ few : Nat, r4 = few := ⟨r4.toNat, by omega⟩
              subst hfew
              k_memK
              refine ⟨Nat.le_of_ble_eq_true (by with_unfolding_all rfl), _, rfl, rfl, ?_⟩
              show ExS _ _ _ _ _ _ _ _
              refine xs_weak (by k_ownIn : Wk [("answers", .lst (todo.map tV)), ("forks", .int F), ("search", .inst 504 s), ("few", .int few)] _) ?_
              have fx : Fx ⟨o, ch, dg, row⟩ es m F := ⟨deg, hrow, hrl, by omega⟩
              have hrd := @hready p rf
              clear hready
              refine s_assign (ev_mono (Q := fun v τ => ∃ fa X', v = .ref fa ∧ Sys τ ⟨l, e, ea, b, bd, s⟩ ⟨o, ch, dg, row⟩ es X' ∧ Rdy ⟨o, ch, dg, row⟩ m F X' (todo.drop few) ∧ τ fa = some (.list 20 ((todo.take few).map tV))) ?_ fun v τ5 hG => ?_) (fun _ => (by with_unfolding_all rfl)) (fun _ _ => (by with_unfolding_all rfl)) (fun _ => (by with_unfolding_all rfl))
              · have ho4 := Y4.o
                k_memK
                refine ⟨fun hq => ?_, fun hq => ?_⟩
                · have hf0 : few ≠ 0 := by have := of_decide_eq_true hq; omega
                  k_memK
                  refine se_all Y4 hrd fx (by omega) fun X' fa τ' _ Y R' hf _ => ?_
                  unfold tk at hf
                  unfold dk at R'
                  rw [if_neg hf0] at hf R'
                  exact ⟨fa, X', rfl, Y, R', hf⟩
                · have hf0 : few = 0 := by have := of_decide_eq_false hq; omega
                  subst hf0
                  k_memK
                  refine ev_mlist 20 ?_
                  k_memK
                  exact ⟨Nat.zero_le _, fun fa hfa => ⟨fa, _, rfl, Y4.any (new_any hfa), hrd, upd_same⟩⟩
              obtain ⟨fa, X5, rfl, Y5, R5, hf5⟩ := hG
              have ho5 := Y5.o
              k_memK
              refine ev_slice ?_
              k_memK
              refine ep_none (ep_some ?_)
              k_memK
              refine ⟨_, rfl, _, (todo.take few).map tV, .inl rfl, by unfold cut; dsimp only; rw [if_pos (Int.natCast_nonneg _)]; simp, ?_⟩
              refine cm_ned (rd_ref hf5 (okV_tV _)) (rd_data (okV_tV _)) ?_
              rw [ndec rfl]
              k_memK
              refine ⟨fun q => (nomatch q), fun _ => ?_⟩
              k_memK
              refine se_all (lim := 0) Y5 R5 fx (by have := List.length_drop (l := todo) (i := few); omega) fun X6 fb τ6 _ Y6 R6 hf6 _ => ?_
              unfold tk at hf6
              unfold dk at R6
              rw [if_pos rfl] at hf6 R6
              clear ho5
              have ho6 := Y6.o
              k_memK
              refine ev_slice ?_
              k_memK
              refine ep_some ?_
              k_memK
              refine ⟨_, rfl, ep_none ⟨_, (todo.drop few).map tV, .inl rfl, by unfold cut; dsimp only; rw [if_pos (Int.natCast_nonneg _)]; simp, ?_⟩⟩
              refine cm_ned (rd_ref hf6 (okV_tV _)) (rd_data (okV_tV _)) ?_
              rw [ndec rfl]
              k_memK
              refine ⟨fun q => (nomatch q), fun _ => ?_⟩
              k_memK
              refine ⟨fun q => (nomatch q), fun _ => ?_⟩
              k_memK
              refine se_next Y6 R6 fx fun X7 τ7 Y7 _ hN _ => ?_
              clear ho6
              have ho7 := Y7.o
              have hn7 := hN rfl
              k_memK
              refine ⟨fun _ => ?_, fun q => (nomatch q)⟩
              k_memK
              rw [hn7]
              refine ⟨fun _ => ?_, fun q => by simp at q⟩
              k_memK
              exact h _
        | succ r =>
          rw [range_cons] at hai
          have hai2 : upd τ ad (.iter (nV (List.range' (i + 1) r))) ad = some (.iter (nV (List.range' (i + 1) r))) := upd_same
          have hDa2 : upd τ ad (.iter (nV (List.range' (i + 1) r))) D = some (.acc (numV dg)) := upd_ne hne.symm hDa
          have W2 := Wt.itu (o' := .iter (nV (List.range' (i + 1) r))) hai
          refine ⟨some (.int i), _, next_some hai, hDa2, ?_⟩
          generalize upd τ ad (.iter (nV (List.range' (i + 1) r))) = τ2 at hai2 hDa2 W2
          refine ct_name (by with_unfolding_all rfl) ⟨by k_ownIn, ?_⟩
          refine ⟨fun _ => ?_, fun q => (nomatch q)⟩
          k_memK
          refine f_draw W2.so (by omega) (by decide) fun r3 h30 h31 => ?_
          have W3 := W2.draw (k' := k + 1 + 1 + i + 1)
          have n1 : ad ≠ so := by rintro rfl; rw [W2.so] at hai2; cases hai2
          have n2 : D ≠ so := by rintro rfl; rw [W2.so] at hDa2; cases hDa2
          have hai3 : upd τ2 so (srcO cs (k + 1 + 1 + i + 1)) ad = some (.iter (nV (List.range' (i + 1) r))) := upd_ne n1 hai2
          have hDa3 : upd τ2 so (srcO cs (k + 1 + 1 + i + 1)) D = some (.acc (numV dg)) := upd_ne n2 hDa2
          generalize upd τ2 so (srcO cs (k + 1 + 1 + i + 1)) = τ3 at hai3 hDa3 W3
          refine ⟨hDa3, by have := big1000; simp [numV]; omega, r, by omega, i + 1, r, dg ++ [r3], by omega, rfl, by simp [numV], by simp [hdl], upd_ne hne hai3, W3.itu hDa3⟩
end
end Mine
-- part FIN
open PySem PySem.W PySem.Calls PyProof.Rows
namespace Mine
theorem well_ints {P : Params} {h : Heap} {σ : Sg} : ∀ {ns : List Int} {vs : List Value}, WellAll P h vs (ns.map WData.int) → VAll σ h (numV ns) vs
  | [], _, .nil => .nil
  | _ :: _, _, .cons (.int i t) r => .cons (.int i t) (well_ints r)
theorem ofPy_ints : ∀ ns : List Int, ofPy (.list (ns.map PyData.int)) = .list (ns.map WData.int) := by
  intro ns
  show WData.list (ofPys (ns.map PyData.int)) = _
  rw [ofPys_eq, List.map_map]; rfl
theorem entry {prog : Program} {w : World} {p : Program} {loose : List Str} {mean : ExcName → Option Value} {s₁ : Shared} {mg mb : Str → Option Value} {fa a : Addr} {ns : List Int} {Q : Value → Shared → Prop} {E : Value → Shared → Prop} (KX : (hd.heap_39 w.params).In s₁.heap) (T : Top p loose mean mg mb s₁.heap)
    (hmg : mg "law" = some (.ref fa)) (hw : Well w.params s₁.heap (.ref a) (ofPy (.list (ns.map PyData.int)))) (hl : ns.length ≤ 63)
    (h : ∀ s', (∀ b o, s₁.heap.get? b = some o → s'.heap.get? b = some o) → s'.gens = s₁.gens → s'.os = s₁.os → Q (.bool true) s') : wpAny (model prog w) callerA (call (.ref fa) [.ref a]) Q E s₁ := by
  have hfa : mg "law" = some (.ref 698) := mg_of KX T.g (by kernel_rfl)
  rw [hmg] at hfa
  cases hfa
  let c : Cx := ⟨prog, w, s₁.heap, hd.heap_39 w.params, mg, mb, KX, T.nolimit, T.g, T.b, fun x v e => mg_of KX T.g e, fun x e => mg_none_of KX T.g e, fun x v e hn => (T.builtins x hn).trans e⟩
  have hc : IsK c := ⟨rfl⟩
  have G : c.Good (fun _ => none) s₁.heap := ⟨fun _ _ e => e, fun a ha => absurd rfl ha, fun a o e => nomatch e⟩
  rw [ofPy_ints] at hw
  have I : VAll (fun _ => none) s₁.heap [.lst (numV ns)] [.ref a] := by
    cases hw with
    | list ho hv =>
      have I := well_ints (σ := fun _ => none) hv
      refine .cons (.lst ⟨0, ho⟩ rfl ?_ I) .nil
      rw [← I.length]
      simp [numV]
      exact Nat.le_trans hl (by decide)
  have R : Room 20 callerA := ⟨rfl, by decide, by decide⟩
  refine wpAny_mono (f_law (c := c) (n := 0) (ns := ns) (Q := fun v _ => v = .bool true) (fun _ => rfl) callerA s₁ [.ref a] R G I) (fun x s' hp => ?_) fun _ _ e => e.elim
  obtain ⟨σ', v, S, G', I', rfl⟩ := hp
  cases I'
  exact h s' (fun b o e => S.keep b o e rfl id) S.rest.1 S.rest.2.2
end Mine
set_option maxRecDepth 100000 in
set_option maxHeartbeats 8000000 in
theorem PySem.Challenge.cw_no0339_01_holds : PySem.Challenge.rw_no0339_01.Holds := by
  exact Mine.hd (by
  w_strict (
    (intro w s₀ s₁ mg mb G Y fa o pm cd doc dV kV ho hd hcd hD hmg hg args vals as hpre hlay hrd hwl hlo
     have KX := kIn_of Y
     refine Ground.open G ?_
     intro T B D TE TW
     wrow_args hpre hlay hrd hwl hlo
     rename_i ns _ _ _ _ _ _ _ _ _ _ _ _ w1 _ _ _ hc _
     refine Mine.entry (ns := ns) KX T hmg w1 (by omega) fun s' hk hg' ho' => ?_
     exact GoodW.toG ⟨.inl ⟨_, .bool true, [], rfl, fun cls => rfl, .bool true, postW_of rfl rfl (by decide +kernel), fun _ => ⟨.nil, fun a ha => nomatch ha⟩⟩, hk, ho', hg'.trans hg⟩)))
