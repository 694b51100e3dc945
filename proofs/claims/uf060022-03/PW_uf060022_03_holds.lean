import PyProof.Rows.All
import Wide.All
import OpenK.AllK
import Wide.FinOn
import PyProof.Cells
import PyProof.ForAny
import PyProof.Loops
import PyProof.Rules2
import PyProof.Rules3
import PyProof.Calls
import PyProof.DictRoads
import PyProof.DictKinds
import PyProof.Rows.BootFacts
import PyProof.RangeFor
import PyProof.Walks
import PyProof.CallType
import PyProof.Rows.RuleB_mod
import PyProof.Rows.RuleB_floordiv
import PyProof.Rows.RuleB_mul
import PyProof.Rows.RuleB_pow
import PyProof.Rows.RuleB_sub
import PyProof.Rows.RuleC_int
import PyProof.Rows.RuleU_int
import PyProof.Rows.IntRules
import PyProof.Rows.StrRules
import PyProof.Rows.TupSub
import PyProof.Rows.StrTemp
import PyProof.Rows.Lst
import PyProof.Rows.TupMore
import PyProof.PureInt
import PyProof.Truth
import PyProof.ListTruth
import PyProof.Rows.Method
import PyProof.ListOps
import PyProof.MeetsSeq
import PyProof.IsInstance
import PyProof.IsInstanceH
import PyProof.IsiFacts
import PyProof.ListCopy
import PyProof.DictTruth
import PyProof.Rows.SortWalk
import PyProof.SliceMore
import PyProof.Rows.SeqSlice
import OpenK.KLine
import PyProof.AssignAttr
import PyProof.Raises
import PyProof.DictStraight
import PyProof.Rows.TupAssign
import PyProof.StrLoop
import PyProof.StrBlockI
import PyProof.StrCalls3
import PyProof.SliceStr2
import KE.KxText
import Lean
import PySem.Challenge.RW_uf060022_03
set_option Elab.async false
namespace Mine
open PySem

/-- abstract data: what a value reads as; tuples are data, mutable objects stand as refs -/
inductive D where
  | none
  | bool (b : Bool)
  | int (i : Int)
  | str (x : Str)
  | tup (l : List D)
  | rng (m : Int)
  | ref (a : Addr)
  | val (v : Value)

def tupObj (vs : List Value) (n : Nat) : Obj := { cls := .type "tuple", data := .seq vs.toArray n }
def lstObj (vs : List Value) (n : Nat) : Obj := { cls := .type "list", data := .seq vs.toArray n }
def dctObj (es : List DictEntry) (n : Nat) : Obj := { cls := .type "dict", data := .dict es.toArray n }
def rngObj (m : Int) (t u v : Tok) : Obj := { cls := .type "range", data := .fields #[.int 0 t, .int m u, .int 1 v] }
def insObj (C d : Addr) : Obj := { cls := .ref C, dict := some d }

mutual
inductive RV (h : Heap) : Value → D → Prop
  | none : RV h .none .none
  | bool (b : Bool) : RV h (.bool b) (.bool b)
  | int (i : Int) (t : Tok) : RV h (.int i t) (.int i)
  | str (x : Str) (t : Tok) : RV h (.str x t) (.str x)
  | tup {a : Addr} {vs : List Value} {n : Nat} {ds : List D} : h.get? a = some (tupObj vs n) → RVs h vs ds → RV h (.ref a) (.tup ds)
  | rng {a : Addr} {m : Int} {t u v : Tok} : h.get? a = some (rngObj m t u v) → RV h (.ref a) (.rng m)
  | ref (a : Addr) : RV h (.ref a) (.ref a)
  | val (v : Value) : RV h v (.val v)
inductive RVs (h : Heap) : List Value → List D → Prop
  | nil : RVs h [] []
  | cons {v : Value} {vs : List Value} {d : D} {ds : List D} : RV h v d → RVs h vs ds → RVs h (v :: vs) (d :: ds)
end

/-- what never changes -/
inductive Imm : Obj → Prop
  | tup (vs : List Value) (n : Nat) : Imm (tupObj vs n)
  | rng (m : Int) (t u v : Tok) : Imm (rngObj m t u v)
theorem Imm.cls {o : Obj} (h : Imm o) : o.cls = .type "tuple" ∨ o.cls = .type "range" := by cases h; exact .inl rfl; exact .inr rfl
/-- tuples and ranges of h stand in h' -/
def TupKeep (h h' : Heap) : Prop := ∀ a o, h.get? a = some o → Imm o → h'.get? a = some o

mutual
theorem RV.keep {h h' : Heap} (k : TupKeep h h') : ∀ {v d}, RV h v d → RV h' v d
  | _, _, .none => .none
  | _, _, .bool b => .bool b
  | _, _, .int i t => .int i t
  | _, _, .str x t => .str x t
  | _, _, .tup e r => .tup (k _ _ e (.tup ..)) (RVs.keep k r)
  | _, _, .rng e => .rng (k _ _ e (.rng ..))
  | _, _, .ref a => .ref a
  | _, _, .val v => .val v
theorem RVs.keep {h h' : Heap} (k : TupKeep h h') : ∀ {vs ds}, RVs h vs ds → RVs h' vs ds
  | _, _, .nil => .nil
  | _, _, .cons e r => .cons (RV.keep k e) (RVs.keep k r)
end

theorem RVs.length {h : Heap} {vs : List Value} {ds : List D} (r : RVs h vs ds) : vs.length = ds.length := by
  induction vs generalizing ds with
  | nil => cases r; rfl
  | cons v vs ih => cases r with | cons _ r => simp [ih r]
theorem RVs.append {h : Heap} {vs ws : List Value} {ds es : List D} (r : RVs h vs ds) (q : RVs h ws es) : RVs h (vs ++ ws) (ds ++ es) := by
  induction vs generalizing ds with
  | nil => cases r; exact q
  | cons v vs ih => cases r with | cons e r => exact .cons e (ih r)
theorem RVs.get {h : Heap} {vs : List Value} {ds : List D} (r : RVs h vs ds) {k : Nat} {d : D} (hk : ds[k]? = some d) : ∃ v, vs[k]? = some v ∧ RV h v d := by
  induction vs generalizing ds k with
  | nil => cases r; simp at hk
  | cons v vs ih =>
    cases r with
    | cons e r =>
      cases k with
      | zero => simp at hk; subst hk; exact ⟨v, rfl, e⟩
      | succ k => simpa using ih r (by simpa using hk)
theorem RVs.split {h : Heap} {vs : List Value} {ds es : List D} (r : RVs h vs (ds ++ es)) : ∃ v1 v2, vs = v1 ++ v2 ∧ RVs h v1 ds ∧ RVs h v2 es := by
  induction ds generalizing vs with
  | nil => exact ⟨[], vs, rfl, .nil, r⟩
  | cons d ds ih =>
    cases r with
    | cons e r =>
      obtain ⟨v1, v2, rfl, a, b⟩ := ih r
      exact ⟨_ :: v1, v2, rfl, .cons e a, b⟩
theorem RVs.take {h : Heap} {vs : List Value} {ds : List D} (r : RVs h vs ds) (k : Nat) : RVs h (vs.take k) (ds.take k) := by
  induction vs generalizing ds k with
  | nil => cases r; simp; exact .nil
  | cons v vs ih =>
    cases r with
    | cons e r =>
      cases k with
      | zero => exact .nil
      | succ k => exact .cons e (ih r k)
theorem RVs.drop {h : Heap} {vs : List Value} {ds : List D} (r : RVs h vs ds) (k : Nat) : RVs h (vs.drop k) (ds.drop k) := by
  induction vs generalizing ds k with
  | nil => cases r; simp; exact .nil
  | cons v vs ih =>
    cases r with
    | cons e r =>
      cases k with
      | zero => exact .cons e r
      | succ k => exact ih r k
theorem RVs.reverse {h : Heap} {vs : List Value} {ds : List D} (r : RVs h vs ds) : RVs h vs.reverse ds.reverse := by
  induction vs generalizing ds with
  | nil => cases r; exact .nil
  | cons v vs ih =>
    cases r with
    | cons e r => simp only [List.reverse_cons]; exact (ih r).append (.cons e .nil)

/-- association lists by name -/
def lk (l : List (Str × D)) (x : Str) : Option D :=
  match l with
  | [] => none
  | (y, d) :: r => if x = y then some d else lk r x
def put (l : List (Str × D)) (x : Str) (d : D) : List (Str × D) :=
  match l with
  | [] => [(x, d)]
  | (y, e) :: r => if x = y then (y, d) :: r else (y, e) :: put r x d
theorem lk_put (l : List (Str × D)) (x y : Str) (d : D) : lk (put l x d) y = if y = x then some d else lk l y := by
  induction l with
  | nil => simp [put, lk]
  | cons p r ih =>
    obtain ⟨z, e⟩ := p
    by_cases hx : x = z
    · subst hx; simp only [put, if_true, lk]; by_cases hy : y = x <;> simp [hy]
    · simp only [put, hx, if_false, lk, ih]
      by_cases hy : y = z
      · subst hy; have : ¬ y = x := fun e => hx e.symm; simp [this]
      · simp [hy]

/-- abstract objects -/
inductive AObj where
  | lst (ds : List D)
  | scr (ds : List D)
  | dI (es : List (Int × D))
  | dS (es : List (Str × D))
  | inst (C d : Addr)
  | ns (fs : List (Str × D))

abbrev Nu := Addr → Option AObj
def upd (ν : Nu) (a : Addr) (o : AObj) : Nu := fun b => if b = a then some o else ν b

end Mine

namespace Mine
open PySem

/-- what stays the same all through a law's call -/
structure Cx where
  prog : Program
  w : World
  base : Heap
  K : List (Addr × Obj)
  mg : Str → Option Value
  mb : Str → Option Value
  inK : ∀ a o, K.lookup a = some o → base.get? a = some o
  g : base.Ns mainGlobals mg
  b : base.Ns builtinsNs mb
  nolimit : base.NoLimit
  blts : ∀ x : Str, x ≠ "__name__" → mb x = bootBuiltins x
  nodigits : ∃ mc, base.Ns cStatics mc ∧ mc "sys.int_max_str_digits" = none

inductive KVs {K : Type} (h : Heap) : List (K × Value) → List (K × D) → Prop
  | nil : KVs h [] []
  | cons {k : K} {v : Value} {d : D} {r : List (K × Value)} {s : List (K × D)} : RV h v d → KVs h r s → KVs h ((k, v) :: r) ((k, d) :: s)
theorem KVs.keep {K : Type} {h h' : Heap} (k : TupKeep h h') {r : List (K × Value)} {s : List (K × D)} (x : KVs h r s) : KVs h' r s := by
  induction x with
  | nil => exact .nil
  | cons a _ ih => exact .cons (a.keep k) ih
theorem KVs.length {K : Type} {h : Heap} {r : List (K × Value)} {s : List (K × D)} (x : KVs h r s) : r.length = s.length := by
  induction x with
  | nil => rfl
  | cons a _ ih => simp [ih]
theorem KVs.keys {K : Type} {h : Heap} {r : List (K × Value)} {s : List (K × D)} (x : KVs h r s) : r.map (·.1) = s.map (·.1) := by
  induction x with
  | nil => rfl
  | cons a _ ih => simp [ih]
def valAt {K : Type} [DecidableEq K] (es : List (K × D)) (k : K) : Option D :=
  match es with
  | [] => none
  | (a, d) :: r => if a = k then some d else valAt r k
def setAt {K : Type} [DecidableEq K] (es : List (K × D)) (k : K) (d : D) : List (K × D) :=
  match es with
  | [] => [(k, d)]
  | (a, e) :: r => if a = k then (a, d) :: r else (a, e) :: setAt r k d
theorem KVs.at_some {K : Type} [DecidableEq K] {h : Heap} {r : List (K × Value)} {s : List (K × D)} (x : KVs h r s) {k : K} {d : D} (e : valAt s k = some d) : ∃ v, valueAt r k = some v ∧ RV h v d := by
  induction x with
  | nil => simp [valAt] at e
  | cons a _ ih =>
    rename_i k' v' d' r' s' _
    unfold valAt at e
    by_cases q : k' = k
    · rw [if_pos q] at e; cases e; exact ⟨_, by simp [valueAt, q], a⟩
    · rw [if_neg q] at e; obtain ⟨v, hv, rv⟩ := ih e; exact ⟨v, by simpa [valueAt, q] using hv, rv⟩
theorem KVs.at_none {K : Type} [DecidableEq K] {h : Heap} {r : List (K × Value)} {s : List (K × D)} (x : KVs h r s) {k : K} (e : valAt s k = none) : valueAt r k = none := by
  induction x with
  | nil => rfl
  | cons a _ ih =>
    rename_i k' v' d' r' s' _
    unfold valAt at e
    by_cases q : k' = k
    · rw [if_pos q] at e; cases e
    · rw [if_neg q] at e; simpa [valueAt, q] using ih e
theorem valAt_none_iff {K : Type} [DecidableEq K] {s : List (K × D)} {k : K} : valAt s k = none ↔ k ∉ s.map (·.1) := by
  induction s with
  | nil => simp [valAt]
  | cons p r ih =>
    obtain ⟨a, d⟩ := p
    unfold valAt
    by_cases q : a = k
    · simp [q]
    · have q' : ¬ k = a := fun e => q e.symm
      simp [q, q', ih]
theorem map_same {K : Type} [DecidableEq K] {r : List (K × Value)} {k : K} {v : Value} (h : k ∉ r.map (·.1)) : r.map (fun kv => if kv.1 = k then (kv.1, v) else kv) = r := by
  induction r with
  | nil => rfl
  | cons p r ih =>
    simp only [List.map_cons, List.mem_cons, not_or] at h
    rw [List.map_cons, ih h.2, if_neg fun e => h.1 e.symm]
theorem KVs.stored {K : Type} [DecidableEq K] {h : Heap} {r : List (K × Value)} {s : List (K × D)} (x : KVs h r s) (nd : (r.map (·.1)).Nodup) {k : K} {v : Value} {d : D} (a : RV h v d) : KVs h (PySem.stored r k v) (setAt s k d) := by
  induction x with
  | nil => exact .cons a .nil
  | cons b q ih =>
    rename_i k' v' d' r' s'
    simp only [List.map_cons, List.nodup_cons] at nd
    have ih' := ih nd.2
    unfold PySem.stored at ih' ⊢
    unfold setAt
    by_cases e : k' = k
    · subst e
      rw [if_pos (by simp), if_pos rfl, List.map_cons, if_pos rfl, map_same nd.1]
      exact .cons a q
    · rw [if_neg e]
      by_cases m : (r'.any fun kv => decide (kv.1 = k)) = true
      · rw [if_pos m] at ih'
        rw [if_pos (by simp [e, m]), List.map_cons, if_neg e]
        exact .cons b ih'
      · rw [if_neg m] at ih'
        rw [if_neg (by simp only [List.any_cons, e, decide_false, Bool.false_or]; exact m)]
        exact .cons b ih'

def NsOk (h : Heap) (es : List DictEntry) (fs : List (Str × D)) : Prop :=
  (∀ e ∈ es, ∃ x t, e.key = .str x t) ∧ es.length ≤ fs.length ∧
  ∀ x, match lk fs x with
    | some d => ∃ v, nsFind es.toArray x = some v ∧ RV h v d
    | none => nsFind es.toArray x = none

def ObjAt (C : Cx) (h : Heap) (a : Addr) : AObj → Prop
  | .lst ds => ∃ vs n, h.get? a = some (lstObj vs n) ∧ RVs h vs ds
  | .scr ds => ∃ vs n, h.get? a = some (lstObj vs n) ∧ RVs h vs ds
  | .dI es => ∃ kvs, h.DictOf (intKind C.prog C.w) a kvs ∧ KVs h kvs es
  | .dS es => ∃ kvs, h.DictOf (strKind C.prog C.w) a kvs ∧ KVs h kvs es
  | .inst T d => h.get? a = some (insObj T d)
  | .ns fs => ∃ es n, h.get? a = some (dctObj es n) ∧ NsOk h es fs

structure Ref (C : Cx) (ν : Nu) (h : Heap) : Prop where
  keep : ∀ b o, C.base.get? b = some o → h.get? b = some o
  at_ : ∀ a o, ν a = some o → ObjAt C h a o
  own : ∀ a o, ν a = some o → (∀ ds, o ≠ .scr ds) → C.base.objs.size ≤ a

/-- a class of the heap's object at a -/
theorem ObjAt.get {C : Cx} {h : Heap} {a : Addr} {o : AObj} (x : ObjAt C h a o) : ∃ ob, h.get? a = some ob ∧ ¬ Imm ob := by
  have nn : ∀ ob : Obj, ob.cls ≠ .type "tuple" → ob.cls ≠ .type "range" → ¬ Imm ob := fun ob h1 h2 h => h.cls.elim h1 h2
  cases o with
  | lst ds => obtain ⟨vs, n, e, _⟩ := x; exact ⟨_, e, nn _ (by simp [lstObj]) (by simp [lstObj])⟩
  | scr ds => obtain ⟨vs, n, e, _⟩ := x; exact ⟨_, e, nn _ (by simp [lstObj]) (by simp [lstObj])⟩
  | dI es =>
    obtain ⟨vs, hd, _⟩ := x
    obtain ⟨o, es, ep, ho, hx, hdd, _⟩ := hd.mapOf
    exact ⟨o, ho, nn _ (by rw [hx.1]; simp) (by rw [hx.1]; simp)⟩
  | dS es =>
    obtain ⟨vs, hd, _⟩ := x
    obtain ⟨o, es, ep, ho, hx, hdd, _⟩ := hd.mapOf
    exact ⟨o, ho, nn _ (by rw [hx.1]; simp) (by rw [hx.1]; simp)⟩
  | inst T d => exact ⟨_, x, nn _ (by simp [insObj]) (by simp [insObj])⟩
  | ns fs => obtain ⟨es, n, e, _⟩ := x; exact ⟨_, e, nn _ (by simp [dctObj]) (by simp [dctObj])⟩
theorem ObjAt.lt {C : Cx} {h : Heap} {a : Addr} {o : AObj} (x : ObjAt C h a o) : a < h.objs.size := let ⟨_, e, _⟩ := x.get; Heap.lt_size e

theorem ObjAt.keep {C : Cx} {h h' : Heap} {a : Addr} {o : AObj} (x : ObjAt C h a o) (k : TupKeep h h') (e : h'.get? a = h.get? a) : ObjAt C h' a o := by
  cases o with
  | lst ds => obtain ⟨vs, n, e', r⟩ := x; exact ⟨vs, n, e.trans e', r.keep k⟩
  | scr ds => obtain ⟨vs, n, e', r⟩ := x; exact ⟨vs, n, e.trans e', r.keep k⟩
  | dI es => obtain ⟨vs, ⟨o, q⟩, r⟩ := x; obtain ⟨es', ep, ho, z⟩ := q; exact ⟨vs, ⟨o, es', ep, e.trans ho, z⟩, r.keep k⟩
  | dS es => obtain ⟨vs, ⟨o, q⟩, r⟩ := x; obtain ⟨es', ep, ho, z⟩ := q; exact ⟨vs, ⟨o, es', ep, e.trans ho, z⟩, r.keep k⟩
  | inst T d => exact e.trans x
  | ns fs =>
    obtain ⟨es, n, e', h1, h2, h3⟩ := x
    refine ⟨es, n, e.trans e', h1, h2, fun y => ?_⟩
    have := h3 y
    split at this
    · obtain ⟨v, a, b⟩ := this; exact ⟨v, a, b.keep k⟩
    · exact this

/-- s' comes of s: outside ν and 'own' nothing that stood is changed -/
structure Fro (own : Addr → Prop) (ν ν' : Nu) (s s' : Shared) : Prop where
  eq : ∃ h' t', s' = { s with heap := h', toks := t' }
  keep : ∀ b o, s.heap.get? b = some o → ν b = none → ¬ own b → s'.heap.get? b = some o
  alive : ∀ b o, s.heap.get? b = some o → ν b = none → ∃ o', s'.heap.get? b = some o'
  dom : ∀ b o, s.heap.get? b = some o → ν b = none → ν' b = none

def no : Addr → Prop := fun _ => False

theorem Fro.refl {own : Addr → Prop} {ν : Nu} {s : Shared} : Fro own ν ν s s := ⟨⟨s.heap, s.toks, rfl⟩, fun _ _ e _ _ => e, fun _ o e _ => ⟨o, e⟩, fun _ _ _ h => h⟩
theorem Fro.toks {own : Addr → Prop} {ν : Nu} {s : Shared} {t : Nat} : Fro own ν ν s { s with toks := t } := ⟨⟨s.heap, t, rfl⟩, fun _ _ e _ _ => e, fun _ o e _ => ⟨o, e⟩, fun _ _ _ h => h⟩
theorem Fro.trans {own : Addr → Prop} {ν ν' ν'' : Nu} {s s' s'' : Shared} (x : Fro own ν ν' s s') (y : Fro own ν' ν'' s' s'') : Fro own ν ν'' s s'' := by
  obtain ⟨⟨h', t', rfl⟩, a1, a2, a3⟩ := x
  obtain ⟨⟨h'', t'', rfl⟩, b1, b2, b3⟩ := y
  exact ⟨⟨h'', t'', rfl⟩, fun b o e hn ho => b1 b o (a1 b o e hn ho) (a3 b o e hn) ho, fun b o e hn => let ⟨o', e'⟩ := a2 b o e hn; b2 b o' e' (a3 b o e hn), fun b o e hn => let ⟨o', e'⟩ := a2 b o e hn; b3 b o' e' (a3 b o e hn)⟩
theorem Fro.weaken {own own' : Addr → Prop} {ν ν' : Nu} {s s' : Shared} (x : Fro own ν ν' s s') (h : ∀ b, own b → own' b) : Fro own' ν ν' s s' :=
  ⟨x.eq, fun b o e hn ho => x.keep b o e hn fun q => ho (h b q), x.alive, x.dom⟩
/-- all that stood stands -/
theorem Fro.ofKeep {own : Addr → Prop} {ν : Nu} {s : Shared} {h' : Heap} {t : Nat} (k : ∀ b o, s.heap.get? b = some o → h'.get? b = some o) : Fro own ν ν s { s with heap := h', toks := t } :=
  ⟨⟨h', t, rfl⟩, fun b o e _ _ => k b o e, fun b o e _ => ⟨o, k b o e⟩, fun _ _ _ h => h⟩

/-- tuples are kept when nothing of 'own' is a tuple -/
theorem Fro.tups {C : Cx} {own : Addr → Prop} {ν ν' : Nu} {s s' : Shared} (x : Fro own ν ν' s s') (R : Ref C ν s.heap) (ho : ∀ b o, own b → s.heap.get? b = some o → ¬ Imm o) : TupKeep s.heap s'.heap := by
  intro a o e hi
  refine x.keep a _ e ?_ fun q => ho a o q e hi
  cases q : ν a with
  | none => rfl
  | some o' =>
    obtain ⟨ob, e', hc⟩ := (R.at_ a o' q).get
    rw [e] at e'; cases e'
    exact absurd hi hc

abbrev Loc := List (Str × D)

structure Frm (C : Cx) (env : Env) (sc : Scope) (l : Loc) (ν : Nu) (h : Heap) : Prop where
  scope : env.scope = sc
  kind : sc.kind = .function
  glob : env.globals = mainGlobals
  blt : env.builtins = builtinsNs
  ns : ∃ m, h.Ns env.locals m ∧ ∀ x d, lk l x = some d → sc.names.lookup x = some .local → ∃ v, m x = some v ∧ RV h v d
  cell : ∀ x c, env.cells.lookup x = some c → ∃ v, h.IsCell c v ∧ ∀ d, lk l x = some d → sc.names.lookup x ≠ some .local → ∃ u, v = some u ∧ RV h u d
  kinds : ∀ x d, lk l x = some d → sc.names.lookup x = some .local ∨ ((sc.names.lookup x = some .cell ∨ sc.names.lookup x = some .free) ∧ ∃ c, env.cells.lookup x = some c)
  cells : ∀ x, sc.names.lookup x = some .cell → ∃ c, env.cells.lookup x = some c
  nuL : ν env.locals = none
  nuC : ∀ x c, env.cells.lookup x = some c → ν c = none
  apart : ∀ x y c, env.cells.lookup x = some c → env.cells.lookup y = some c → x = y
  above : C.base.objs.size ≤ env.locals
  aboveC : ∀ x c, env.cells.lookup x = some c → C.base.objs.size ≤ c

/-- the places of a frame -/
def fr (env : Env) (b : Addr) : Prop := b = env.locals ∨ ∃ x, env.cells.lookup x = some b

theorem Frm.notTup {C : Cx} {env : Env} {sc : Scope} {l : Loc} {ν : Nu} {h : Heap} (F : Frm C env sc l ν h) : ∀ b o, fr env b → h.get? b = some o → ¬ Imm o := by
  rintro b o' (rfl | ⟨x, hx⟩) e hi
  · obtain ⟨m, ⟨o, es, ep, ho, hd, _⟩, _⟩ := F.ns
    rw [e] at ho; cases ho; cases hi <;> cases hd
  · obtain ⟨v, ⟨o, ho, hd⟩, _⟩ := F.cell x b hx
    rw [e] at ho; cases ho; cases hi <;> cases hd

theorem Frm.ltL {C : Cx} {env : Env} {sc : Scope} {l : Loc} {ν : Nu} {h : Heap} (F : Frm C env sc l ν h) : env.locals < h.objs.size := let ⟨_, hn, _⟩ := F.ns; hn.lt
theorem Frm.ltC {C : Cx} {env : Env} {sc : Scope} {l : Loc} {ν : Nu} {h : Heap} (F : Frm C env sc l ν h) {x : Str} {c : Addr} (hc : env.cells.lookup x = some c) : c < h.objs.size := let ⟨_, hn, _⟩ := F.cell x c hc; hn.lt
theorem Frm.neC {C : Cx} {env : Env} {sc : Scope} {l : Loc} {ν : Nu} {h : Heap} (F : Frm C env sc l ν h) {x : Str} {c : Addr} (hc : env.cells.lookup x = some c) : c ≠ env.locals := by
  rintro rfl
  obtain ⟨m, ⟨o, es, ep, ho, hd, _⟩, _⟩ := F.ns
  obtain ⟨v, ⟨o', ho', hd'⟩, _⟩ := F.cell x _ hc
  rw [ho] at ho'; cases ho'; rw [hd] at hd'; cases hd'

theorem Frm.fro {C : Cx} {env : Env} {sc : Scope} {l : Loc} {ν ν' : Nu} {s s' : Shared} (F : Frm C env sc l ν s.heap) (R : Ref C ν s.heap) (x : Fro no ν ν' s s') : Frm C env sc l ν' s'.heap := by
  have k := x.tups R fun _ _ q => q.elim
  refine ⟨F.scope, F.kind, F.glob, F.blt, ?_, fun y c hc => ?_, F.kinds, F.cells, ?_, fun y c hc => ?_, F.apart, F.above, F.aboveC⟩
  · obtain ⟨m, ⟨o, es, ep, ho, r⟩, hm⟩ := F.ns
    exact ⟨m, ⟨o, es, ep, x.keep _ _ ho F.nuL id, r⟩, fun y d h1 h2 => let ⟨v, a, b⟩ := hm y d h1 h2; ⟨v, a, b.keep k⟩⟩
  · obtain ⟨v, ⟨o, ho, hd⟩, q⟩ := F.cell y c hc
    exact ⟨v, ⟨o, x.keep _ _ ho (F.nuC y c hc) id, hd⟩, fun d h1 h2 => let ⟨u, a, b⟩ := q d h1 h2; ⟨u, a, b.keep k⟩⟩
  · obtain ⟨m, ⟨o, es, ep, ho, r⟩, hm⟩ := F.ns
    exact x.dom _ _ ho F.nuL
  · obtain ⟨v, ⟨o, ho, hd⟩, q⟩ := F.cell y c hc
    exact x.dom _ _ ho (F.nuC y c hc)

/-- fewer names are known -/
def Sub (l' l : Loc) : Prop := ∀ x d, lk l' x = some d → lk l x = some d
theorem Frm.sub {C : Cx} {env : Env} {sc : Scope} {l l' : Loc} {ν : Nu} {h : Heap} (F : Frm C env sc l ν h) (s : Sub l' l) : Frm C env sc l' ν h := by
  obtain ⟨m, hn, hm⟩ := F.ns
  exact ⟨F.scope, F.kind, F.glob, F.blt, ⟨m, hn, fun x d h1 h2 => hm x d (s x d h1) h2⟩, fun x c hc => let ⟨v, a, b⟩ := F.cell x c hc; ⟨v, a, fun d h1 h2 => b d (s x d h1) h2⟩, fun x d h1 => F.kinds x d (s x d h1), F.cells, F.nuL, F.nuC, F.apart, F.above, F.aboveC⟩

theorem Frm.baseLe {C : Cx} {env : Env} {sc : Scope} {l : Loc} {ν : Nu} {h : Heap} (F : Frm C env sc l ν h) : C.base.objs.size ≤ h.objs.size := Nat.le_trans F.above (Nat.le_of_lt F.ltL)

def Aok (n : Nat) (A : Around) : Prop := A.handled = none ∧ A.depth + n < 990 ∧ A.units + 30 * n < 9800
theorem Aok.mono {n m : Nat} {A : Around} (h : Aok n A) (hm : m ≤ n) : Aok m A := ⟨h.1, by have := h.2.1; omega, by have := h.2.2; omega⟩
theorem Aok.deeper {n : Nat} {A : Around} (h : Aok (n + 1) A) (env : Env) : Aok n (A.deeper env) := ⟨h.1, by have := h.2.1; show A.depth + 1 + n < _; omega, by have := h.2.2; show A.units + 3 + _ < _; omega⟩
theorem Aok.in1 {n : Nat} {A : Around} (h : Aok (n + 1) A) : Aok n A.in1 := ⟨h.1, by have := h.2.1; show A.depth + n < _; omega, by have := h.2.2; show A.units + 1 + _ < _; omega⟩
theorem Aok.room {n : Nat} {A : Around} (h : Aok n A) : A.depth < recursionLimit := by have := h.2.1; unfold recursionLimit; omega
theorem Aok.units {n : Nat} {A : Around} (h : Aok n A) : A.units < cLine := by have := h.2.2; unfold cLine; omega

/-- what a tree that yields a value must do -/
def PostV (C : Cx) (ν : Nu) (s : Shared) (Q : D → Nu → Prop) : Value → Shared → Prop :=
  fun v s' => ∃ d ν', RV s'.heap v d ∧ Ref C ν' s'.heap ∧ Fro no ν ν' s s' ∧ Q d ν'
def PostB (C : Cx) (ν : Nu) (s : Shared) (Q : Bool → Nu → Prop) : Bool → Shared → Prop :=
  fun b s' => ∃ ν', Ref C ν' s'.heap ∧ Fro no ν ν' s s' ∧ Q b ν'
def PostL (C : Cx) (ν : Nu) (s : Shared) (Q : List D → Nu → Prop) : List Value → Shared → Prop :=
  fun vs s' => ∃ ds ν', RVs s'.heap vs ds ∧ Ref C ν' s'.heap ∧ Fro no ν ν' s s' ∧ Q ds ν'
def nev : Value → Shared → Prop := fun _ _ => False

def TE (C : Cx) (n : Nat) (sc : Scope) (e : Expr) (l : Loc) (ν : Nu) (Q : D → Nu → Prop) : Prop :=
  ∀ A env s, Aok n A → Ref C ν s.heap → Frm C env sc l ν s.heap → wpAny (model C.prog C.w) A (eval e env) (PostV C ν s Q) nev s
def TB (C : Cx) (n : Nat) (sc : Scope) (e : Expr) (l : Loc) (ν : Nu) (Q : Bool → Nu → Prop) : Prop :=
  ∀ A env s, Aok n A → Ref C ν s.heap → Frm C env sc l ν s.heap → wpAny (model C.prog C.w) A (isTrue e env (eval e env)) (PostB C ν s Q) nev s
def TL (C : Cx) (n : Nat) (sc : Scope) (es : List Expr) (l : Loc) (ν : Nu) (Q : List D → Nu → Prop) : Prop :=
  ∀ A env s pos, Aok n A → Ref C ν s.heap → Frm C env sc l ν s.heap → wpAny (model C.prog C.w) A (spliced (backTo pos (starEach es env))) (PostL C ν s Q) nev s
/-- a tree over one value, over two -/
def T1 (C : Cx) (n : Nat) (f : Value → Sem Value) (d : D) (ν : Nu) (Q : D → Nu → Prop) : Prop :=
  ∀ A s v, Aok n A → Ref C ν s.heap → C.base.objs.size ≤ s.heap.objs.size → RV s.heap v d → wpAny (model C.prog C.w) A (f v) (PostV C ν s Q) nev s
def T2 (C : Cx) (n : Nat) (f : Value → Value → Sem Value) (d e : D) (ν : Nu) (Q : D → Nu → Prop) : Prop :=
  ∀ A s v u, Aok n A → Ref C ν s.heap → C.base.objs.size ≤ s.heap.objs.size → RV s.heap v d → RV s.heap u e → wpAny (model C.prog C.w) A (f v u) (PostV C ν s Q) nev s
def TT (C : Cx) (n : Nat) (d : D) (ν : Nu) (Q : Bool → Nu → Prop) : Prop :=
  ∀ A s v, Aok n A → Ref C ν s.heap → C.base.objs.size ≤ s.heap.objs.size → RV s.heap v d → wpAny (model C.prog C.w) A (truthy v) (PostB C ν s Q) nev s
/-- a call -/
def TC (C : Cx) (n : Nat) (f : Value) (ds : List D) (ν : Nu) (Q : D → Nu → Prop) : Prop :=
  ∀ A s vs, Aok n A → Ref C ν s.heap → C.base.objs.size ≤ s.heap.objs.size → RVs s.heap vs ds → wpAny (model C.prog C.w) A (call f vs) (PostV C ν s Q) nev s

inductive Fl where
  | next | brk | cont
  | ret (d : D)
inductive FlR (h : Heap) : Flow → Fl → Prop
  | next : FlR h .next .next
  | brk : FlR h .brk .brk
  | cont : FlR h .cont .cont
  | ret {v d} : RV h v d → FlR h (.ret v) (.ret d)

def PostS (C : Cx) (env : Env) (sc : Scope) (ν : Nu) (s : Shared) (Q : Fl → Loc → Nu → Prop) : Flow → Shared → Prop :=
  fun f s' => ∃ fl l' ν', FlR s'.heap f fl ∧ Ref C ν' s'.heap ∧ Frm C env sc l' ν' s'.heap ∧ Fro (fr env) ν ν' s s' ∧ Q fl l' ν'
def TS (C : Cx) (n : Nat) (sc : Scope) (st : Stmt) (l : Loc) (ν : Nu) (Q : Fl → Loc → Nu → Prop) : Prop :=
  ∀ A env s, Aok n A → Ref C ν s.heap → Frm C env sc l ν s.heap → wpAny (model C.prog C.w) A (exec st env) (PostS C env sc ν s Q) nev s
def TSs (C : Cx) (n : Nat) (sc : Scope) (st : List Stmt) (l : Loc) (ν : Nu) (Q : Fl → Loc → Nu → Prop) : Prop :=
  ∀ A env s, Aok n A → Ref C ν s.heap → Frm C env sc l ν s.heap → wpAny (model C.prog C.w) A (execs st env) (PostS C env sc ν s Q) nev s

end Mine

namespace Mine
open PySem

section
variable {C : Cx} {n : Nat} {sc : Scope} {l : Loc} {ν : Nu}

theorem PostV.after {ν₁ : Nu} {s s₁ : Shared} {Q : D → Nu → Prop} (x : Fro no ν ν₁ s s₁) {v : Value} {s' : Shared} (p : PostV C ν₁ s₁ Q v s') : PostV C ν s Q v s' :=
  let ⟨d, ν', a, b, c, q⟩ := p; ⟨d, ν', a, b, x.trans c, q⟩
theorem PostB.after {ν₁ : Nu} {s s₁ : Shared} {Q : Bool → Nu → Prop} (x : Fro no ν ν₁ s s₁) {v : Bool} {s' : Shared} (p : PostB C ν₁ s₁ Q v s') : PostB C ν s Q v s' :=
  let ⟨ν', b, c, q⟩ := p; ⟨ν', b, x.trans c, q⟩
theorem PostL.after {ν₁ : Nu} {s s₁ : Shared} {Q : List D → Nu → Prop} (x : Fro no ν ν₁ s s₁) {v : List Value} {s' : Shared} (p : PostL C ν₁ s₁ Q v s') : PostL C ν s Q v s' :=
  let ⟨d, ν', a, b, c, q⟩ := p; ⟨d, ν', a, b, x.trans c, q⟩
theorem noTup {s : Shared} : ∀ b o, no b → s.heap.get? b = some o → ¬ Imm o := fun _ _ q => q.elim
theorem RV.fro {ν ν' : Nu} {s s' : Shared} {v : Value} {d : D} (a : RV s.heap v d) (R : Ref C ν s.heap) (x : Fro no ν ν' s s') : RV s'.heap v d := a.keep (x.tups R noTup)
theorem RVs.fro {ν ν' : Nu} {s s' : Shared} {v : List Value} {d : List D} (a : RVs s.heap v d) (R : Ref C ν s.heap) (x : Fro no ν ν' s s') : RVs s'.heap v d := a.keep (x.tups R noTup)

/-- an end that changes the tokens alone -/
theorem postV_toks {s : Shared} {Q : D → Nu → Prop} {v : Value} {d : D} {t : Nat} (R : Ref C ν s.heap) (a : RV s.heap v d) (q : Q d ν) : PostV C ν s Q v { s with toks := t } := ⟨d, ν, a, R, .toks, q⟩
theorem postV_here {s : Shared} {Q : D → Nu → Prop} {v : Value} {d : D} (R : Ref C ν s.heap) (a : RV s.heap v d) (q : Q d ν) : PostV C ν s Q v s := ⟨d, ν, a, R, .refl, q⟩
theorem postB_here {s : Shared} {Q : Bool → Nu → Prop} {b : Bool} (R : Ref C ν s.heap) (q : Q b ν) : PostB C ν s Q b s := ⟨ν, R, .refl, q⟩
theorem postB_toks {s : Shared} {Q : Bool → Nu → Prop} {b : Bool} {t : Nat} (R : Ref C ν s.heap) (q : Q b ν) : PostB C ν s Q b { s with toks := t } := ⟨ν, R, .toks, q⟩

-- constants, names
theorem TE_int {i : Int} {k pos} {Q : D → Nu → Prop} (h : Q (.int i) ν) : TE C n sc (.Constant (.int i) k pos) l ν Q := fun _ _ _ _ R _ => wpAny_Constant_int (postV_toks R (.int ..) h)
theorem TE_str {x : Str} {k pos} {Q : D → Nu → Prop} (h : Q (.str x) ν) : TE C n sc (.Constant (.str x) k pos) l ν Q := fun _ _ _ _ R _ => wpAny_Constant_str (postV_toks R (.str ..) h)
theorem TE_none {k pos} {Q : D → Nu → Prop} (h : Q .none ν) : TE C n sc (.Constant .none k pos) l ν Q := fun _ _ _ _ R _ => wpAny_Constant_none (postV_here R .none h)
theorem TE_bool {b k pos} {Q : D → Nu → Prop} (h : Q (.bool b) ν) : TE C n sc (.Constant (.bool b) k pos) l ν Q := fun _ _ _ _ R _ => wpAny_Constant_bool (postV_here R (.bool b) h)

theorem TE_name {x : Str} {pos} {d : D} {Q : D → Nu → Prop} (hx : lk l x = some d) (h : Q d ν) (hd : (x == ("__debug__" : Str)) = false) (hc : (x == ("__classdict__" : Str)) = false) : TE C n sc (.Name x pos) l ν Q := by
  intro A env s _ R F
  refine wpAny_Name ?_ hd
  have hk : env.scope.kind = .function := F.scope ▸ F.kind
  rcases F.kinds x d hx with q | ⟨q, c, hcc⟩
  · obtain ⟨m, hn, hm⟩ := F.ns
    obtain ⟨v, e, r⟩ := hm x d hx q
    exact wpAny_loadName_local hk (by unfold Env.kindOf; rw [F.scope]; exact q) hn e (postV_here R r h)
  · obtain ⟨v, hv, r⟩ := F.cell x c hcc
    obtain ⟨u, rfl, r'⟩ := r d hx (by rcases q with q | q <;> rw [q] <;> simp)
    rcases q with q | q
    · exact wpAny_loadName_cell hk (by unfold Env.kindOf; rw [F.scope]; exact q) hcc hv (postV_here R r' h)
    · exact wpAny_loadName_free hk (by unfold Env.kindOf; rw [F.scope]; exact q) hcc hv (postV_here R r' h) hc

/-- what a global name stands for -/
def Cx.G (C : Cx) (x : Str) (v : Value) : Prop := C.mg x = some v ∨ (C.mg x = none ∧ C.mb x = some v)
theorem TE_glob {x : Str} {pos} {v : Value} {Q : D → Nu → Prop} (hk : sc.names.lookup x = some .globalImplicit) (hg : C.G x v) (h : Q (.val v) ν) (hd : (x == ("__debug__" : Str)) = false) : TE C n sc (.Name x pos) l ν Q := by
  intro A env s _ R F
  refine wpAny_Name ?_ hd
  have hkk : env.scope.kind = .function := F.scope ▸ F.kind
  have hx : env.kindOf x = some .globalImplicit := by unfold Env.kindOf; rw [F.scope]; exact hk
  have g := C.g.keeps R.keep
  have b := C.b.keeps R.keep
  unfold loadName
  simp only [Env.blockKind, hkk, hx, ScopeKind.isAnnotationScope, Bool.false_and, Bool.false_eq_true, if_false]
  rcases hg with hg | ⟨hg, hb⟩
  · exact Calls.loadGlobal_global (F.glob ▸ g) hg (postV_here R (.val v) h)
  · exact Calls.loadGlobal_builtin (F.glob ▸ g) hg (F.blt ▸ b) hb (postV_here R (.val v) h)

-- operators
theorem TE_bin {a b : Expr} {op pos} {Q : D → Nu → Prop} (h : TE C n sc a l ν (fun d ν₁ => TE C n sc b l ν₁ (fun e ν₂ => T2 C n (binaryOp op) d e ν₂ Q))) : TE C n sc (.BinOp a op b pos) l ν Q := by
  intro A env s hA R F
  refine wpAny_BinOp (wpAny_mono (h A env s hA R F) ?_ fun _ _ x => x)
  rintro v s₁ ⟨d, ν₁, hv, R₁, x₁, hq⟩
  refine wpAny_mono (hq A env s₁ hA R₁ (F.fro R x₁)) ?_ fun _ _ x => x
  rintro u s₂ ⟨e, ν₂, hu, R₂, x₂, hq2⟩
  exact wpAny_mono (hq2 A s₂ v u hA R₂ ((F.fro R x₁).fro R₁ x₂).baseLe (hv.fro R₁ x₂) hu) (fun _ _ p => (p.after x₂).after x₁) fun _ _ x => x
theorem TE_cmp {a b : Expr} {op pos} {Q : D → Nu → Prop} (h : TE C n sc a l ν (fun d ν₁ => TE C n sc b l ν₁ (fun e ν₂ => T2 C n (compareOp op) d e ν₂ Q))) (hm : behindInMarks op b = false) : TE C n sc (.Compare a [op] [b] pos) l ν Q := by
  intro A env s hA R F
  refine wpAny_Compare1 (wpAny_mono (h A env s hA R F) ?_ fun _ _ x => x) hm
  rintro v s₁ ⟨d, ν₁, hv, R₁, x₁, hq⟩
  refine wpAny_mono (hq A env s₁ hA R₁ (F.fro R x₁)) ?_ fun _ _ x => x
  rintro u s₂ ⟨e, ν₂, hu, R₂, x₂, hq2⟩
  exact wpAny_mono (hq2 A s₂ v u hA R₂ ((F.fro R x₁).fro R₁ x₂).baseLe (hv.fro R₁ x₂) hu) (fun _ _ p => (p.after x₂).after x₁) fun _ _ x => x
theorem TE_un {a : Expr} {op pos} {Q : D → Nu → Prop} (h : TE C n sc a l ν (fun d ν₁ => T1 C n (unaryOp op) d ν₁ Q)) : TE C n sc (.UnaryOp op a pos) l ν Q := by
  intro A env s hA R F
  refine wpAny_UnaryOp (wpAny_mono (h A env s hA R F) ?_ fun _ _ x => x)
  rintro v s₁ ⟨d, ν₁, hv, R₁, x₁, hq⟩
  exact wpAny_mono (hq A s₁ v hA R₁ (F.fro R x₁).baseLe hv) (fun _ _ p => p.after x₁) fun _ _ x => x
theorem T1_not {d : D} {Q : D → Nu → Prop} (h : TT C n d ν (fun b ν' => Q (.bool (!b)) ν')) : T1 C n (unaryOp .Not) d ν Q := fun A s v hA R hz hv =>
  not_value (wpAny_mono (h A s v hA R hz hv) (fun _ _ ⟨ν', R', x', q⟩ => ⟨_, ν', .bool _, R', x', q⟩) fun _ _ x => x)

-- tests
theorem TB_val {e : Expr} {Q : Bool → Nu → Prop} (h : TE C n sc e l ν (fun d ν₁ => TT C n d ν₁ Q)) (he : ∀ env whole, isTrue e env whole = (do let v ← whole; standAt e.pos; holding [v] (truthy v))) : TB C n sc e l ν Q := by
  intro A env s hA R F
  refine wpAny_isTrue_value (wpAny_mono (h A env s hA R F) ?_ fun _ _ x => x) (he env _)
  rintro v s₁ ⟨d, ν₁, hv, R₁, x₁, hq⟩
  exact wpAny_mono (hq A s₁ v hA R₁ (F.fro R x₁).baseLe hv) (fun _ _ p => p.after x₁) fun _ _ x => x
theorem TB_cmp {a b : Expr} {op pos} {Q : Bool → Nu → Prop} (h : TE C n sc a l ν (fun d ν₁ => TE C n sc b l ν₁ (fun e ν₂ => T2 C n (compareOp op) d e ν₂ (fun c ν₃ => TT C n c ν₃ Q)))) (hm : behindInMarks op b = false) : TB C n sc (.Compare a [op] [b] pos) l ν Q := by
  intro A env s hA R F
  refine wpAny_isTrue_Compare1 (wpAny_mono (h A env s hA R F) ?_ fun _ _ x => x) hm
  rintro v s₁ ⟨d, ν₁, hv, R₁, x₁, hq⟩
  refine wpAny_mono (hq A env s₁ hA R₁ (F.fro R x₁)) ?_ fun _ _ x => x
  rintro u s₂ ⟨e, ν₂, hu, R₂, x₂, hq2⟩
  refine wpAny_mono (hq2 A s₂ v u hA R₂ ((F.fro R x₁).fro R₁ x₂).baseLe (hv.fro R₁ x₂) hu) ?_ fun _ _ x => x
  rintro c s₃ ⟨e, ν₃, hc, R₃, x₃, hq3⟩
  exact wpAny_mono (hq3 A s₃ c hA R₃ (((F.fro R x₁).fro R₁ x₂).fro R₂ x₃).baseLe hc) (fun _ _ p => ((p.after x₃).after x₂).after x₁) fun _ _ x => x
theorem TB_not {e : Expr} {pos} {Q : Bool → Nu → Prop} (h : TB C n sc e l ν (fun b ν' => Q (!b) ν')) : TB C n sc (.UnaryOp .Not e pos) l ν Q := fun A env s hA R F =>
  wpAny_isTrue_Not (wpAny_mono (h A env s hA R F) (fun _ _ p => p) fun _ _ x => x)
def TA (C : Cx) (n : Nat) (sc : Scope) (op : BoolOp) (es : List Expr) (l : Loc) (ν : Nu) (Q : Bool → Nu → Prop) : Prop :=
  ∀ A env s, Aok n A → Ref C ν s.heap → Frm C env sc l ν s.heap → wpAny (model C.prog C.w) A (allTrue op es env) (PostB C ν s Q) nev s
theorem TB_boolop {op : BoolOp} {es : List Expr} {pos} {Q : Bool → Nu → Prop} (h : TA C n sc op es l ν Q) : TB C n sc (.BoolOp op es pos) l ν Q := fun A env s hA R F => wpAny_isTrue_BoolOp (h A env s hA R F)
theorem TA_and_nil {Q : Bool → Nu → Prop} (h : Q true ν) : TA C n sc .And [] l ν Q := fun _ _ _ _ R _ => wpAny_allTrue_And_nil (postB_here R h)
theorem TA_or_nil {Q : Bool → Nu → Prop} (h : Q false ν) : TA C n sc .Or [] l ν Q := fun _ _ _ _ R _ => wpAny_allTrue_Or_nil (postB_here R h)
theorem TA_and {e : Expr} {es : List Expr} {Q : Bool → Nu → Prop} (h : TB C n sc e l ν (fun b ν₁ => if b = true then TA C n sc .And es l ν₁ Q else Q false ν₁)) : TA C n sc .And (e :: es) l ν Q := by
  intro A env s hA R F
  refine wpAny_allTrue_And_cons (wpAny_mono (h A env s hA R F) ?_ fun _ _ x => x)
  rintro b s₁ ⟨ν₁, R₁, x₁, hq⟩
  cases b
  · exact ⟨ν₁, R₁, x₁, by simpa using hq⟩
  · exact wpAny_mono ((by simpa using hq : TA C n sc .And es l ν₁ Q) A env s₁ hA R₁ (F.fro R x₁)) (fun _ _ p => p.after x₁) fun _ _ x => x
theorem TA_or {e : Expr} {es : List Expr} {Q : Bool → Nu → Prop} (h : TB C n sc e l ν (fun b ν₁ => if b = true then Q true ν₁ else TA C n sc .Or es l ν₁ Q)) : TA C n sc .Or (e :: es) l ν Q := by
  intro A env s hA R F
  refine wpAny_allTrue_Or_cons (wpAny_mono (h A env s hA R F) ?_ fun _ _ x => x)
  rintro b s₁ ⟨ν₁, R₁, x₁, hq⟩
  cases b
  · exact wpAny_mono ((by simpa using hq : TA C n sc .Or es l ν₁ Q) A env s₁ hA R₁ (F.fro R x₁)) (fun _ _ p => p.after x₁) fun _ _ x => x
  · exact ⟨ν₁, R₁, x₁, by simpa using hq⟩
theorem TT_bool {b : Bool} {Q : Bool → Nu → Prop} (h : Q b ν) : TT C n (.bool b) ν Q := by
  intro A s v _ R _ hv
  cases hv
  exact wpAny_truthy_bool (postB_here R h)

/-- and, or as values -/
def TO (C : Cx) (n : Nat) (sc : Scope) (op : BoolOp) (es : List Expr) (l : Loc) (ν : Nu) (Q : D → Nu → Prop) : Prop :=
  ∀ A env s pos, Aok n A → Ref C ν s.heap → Frm C env sc l ν s.heap → wpAny (model C.prog C.w) A (boolOp pos op (evalEach es env)) (PostV C ν s Q) nev s
theorem TE_boolop {op : BoolOp} {es : List Expr} {pos} {Q : D → Nu → Prop} (h : TO C n sc op es l ν Q) : TE C n sc (.BoolOp op es pos) l ν Q := fun A env s hA R F => h A env s pos hA R F
theorem TO_one {op : BoolOp} {e : Expr} {Q : D → Nu → Prop} (h : TE C n sc e l ν Q) : TO C n sc op [e] l ν Q := fun A env s _ hA R F => h A env s hA R F
theorem TO_and {e f : Expr} {es : List Expr} {Q : D → Nu → Prop} (h : TE C n sc e l ν (fun d ν₁ => TT C n d ν₁ (fun b ν₂ => if b = true then TO C n sc .And (f :: es) l ν₂ Q else Q d ν₂))) : TO C n sc .And (e :: f :: es) l ν Q := by
  intro A env s pos hA R F
  show wpAny _ A (eval e env >>= fun v => standAt pos >>= fun _ => holding [v] (truthy v) >>= fun t => match BoolOp.And, t with | .And, false | .Or, true => pure v | _, _ => boolOp pos .And (evalEach (f :: es) env)) _ _ s
  refine wpAny_bind (wpAny_mono (h A env s hA R F) ?_ fun _ _ x => x)
  rintro v s₁ ⟨d, ν₁, hv, R₁, x₁, hq⟩
  refine wpAny_bind (wpAny_standAt (wpAny_bind (wpAny_holding (wpAny_mono (hq A s₁ v hA R₁ (F.fro R x₁).baseLe hv) ?_ fun _ _ x => x))))
  rintro b s₂ ⟨ν₂, R₂, x₂, hq2⟩
  cases b
  · exact wpAny_pure ⟨d, ν₂, hv.fro R₁ x₂, R₂, x₁.trans x₂, by simpa using hq2⟩
  · exact wpAny_mono ((by simpa using hq2 : TO C n sc .And (f :: es) l ν₂ Q) A env s₂ pos hA R₂ ((F.fro R x₁).fro R₁ x₂)) (fun _ _ p => (p.after x₂).after x₁) fun _ _ x => x
theorem TO_or {e f : Expr} {es : List Expr} {Q : D → Nu → Prop} (h : TE C n sc e l ν (fun d ν₁ => TT C n d ν₁ (fun b ν₂ => if b = true then Q d ν₂ else TO C n sc .Or (f :: es) l ν₂ Q))) : TO C n sc .Or (e :: f :: es) l ν Q := by
  intro A env s pos hA R F
  show wpAny _ A (eval e env >>= fun v => standAt pos >>= fun _ => holding [v] (truthy v) >>= fun t => match BoolOp.Or, t with | .And, false | .Or, true => pure v | _, _ => boolOp pos .Or (evalEach (f :: es) env)) _ _ s
  refine wpAny_bind (wpAny_mono (h A env s hA R F) ?_ fun _ _ x => x)
  rintro v s₁ ⟨d, ν₁, hv, R₁, x₁, hq⟩
  refine wpAny_bind (wpAny_standAt (wpAny_bind (wpAny_holding (wpAny_mono (hq A s₁ v hA R₁ (F.fro R x₁).baseLe hv) ?_ fun _ _ x => x))))
  rintro b s₂ ⟨ν₂, R₂, x₂, hq2⟩
  cases b
  · exact wpAny_mono ((by simpa using hq2 : TO C n sc .Or (f :: es) l ν₂ Q) A env s₂ pos hA R₂ ((F.fro R x₁).fro R₁ x₂)) (fun _ _ p => (p.after x₂).after x₁) fun _ _ x => x
  · exact wpAny_pure ⟨d, ν₂, hv.fro R₁ x₂, R₂, x₁.trans x₂, by simpa using hq2⟩

-- lists of expressions, displays
def isSt : Expr → Bool
  | .Starred _ _ => true
  | _ => false
theorem starEach_cons {e : Expr} (h : isSt e = false) (es : List Expr) (env : Env) : starEach (e :: es) env = (false, eval e env) :: starEach es env := by
  cases e <;> first | rfl | cases h
def noSt : List Expr → Bool
  | [] => true
  | e :: es => !isSt e && noSt es
theorem noSt_any : ∀ {es : List Expr}, noSt es = true → ∀ pos env, (backTo pos (starEach es env)).any (·.1) = false
  | [], _, _, _ => rfl
  | e :: es, h, pos, env => by
    simp only [noSt, Bool.and_eq_true, Bool.not_eq_true'] at h
    rw [starEach_cons h.1]
    show (false || (backTo pos (starEach es env)).any (·.1)) = false
    rw [noSt_any h.2]; rfl
theorem TL_nil {Q : List D → Nu → Prop} (h : Q [] ν) : TL C n sc [] l ν Q := fun _ _ _ _ _ R _ => wpAny_items_nil ⟨[], ν, .nil, R, .refl, h⟩
theorem TL_cons {e : Expr} {es : List Expr} {Q : List D → Nu → Prop} (h : TE C n sc e l ν (fun d ν₁ => TL C n sc es l ν₁ (fun ds ν₂ => Q (d :: ds) ν₂))) (he : isSt e = false := by rfl) : TL C n sc (e :: es) l ν Q := by
  intro A env s pos hA R F
  refine wpAny_items_cons (wpAny_mono (h A env s hA R F) ?_ fun _ _ x => x) (starEach_cons he es env)
  rintro v s₁ ⟨d, ν₁, hv, R₁, x₁, hq⟩
  refine wpAny_mono (hq A env s₁ pos hA R₁ (F.fro R x₁)) ?_ fun _ _ x => x
  rintro vs s₂ ⟨ds, ν₂, hvs, R₂, x₂, hq2⟩
  exact ⟨d :: ds, ν₂, .cons (hv.fro R₁ x₂) hvs, R₂, x₁.trans x₂, hq2⟩

theorem TupKeep.push {h : Heap} (o : Obj) : TupKeep h (h.push o) := fun _ _ e _ => Heap.get?_push_of_some o e
theorem Ref.push {h : Heap} (R : Ref C ν h) (o : Obj) : Ref C ν (h.push o) :=
  ⟨fun b o' e => Heap.get?_push_of_some o (R.keep b o' e), fun a o' e => by
    obtain ⟨ob, hob, _⟩ := (R.at_ a o' e).get
    exact (R.at_ a o' e).keep (TupKeep.push o) ((Heap.get?_push_of_some o hob).trans hob.symm), R.own⟩
theorem Fro.push {own : Addr → Prop} {s : Shared} (o : Obj) (t : Nat) : Fro own ν ν s { s with heap := s.heap.push o, toks := t } :=
  Fro.ofKeep fun _ _ e => Heap.get?_push_of_some o e

theorem TE_tuple {es : List Expr} {k pos} {Q : D → Nu → Prop} (h : TL C n sc es l ν (fun ds ν₁ => ds.length ≤ 1000 ∧ Q (.tup ds) ν₁)) : TE C n sc (.Tuple es k pos) l ν Q := by
  intro A env s hA R F
  refine wpAny_Tuple (wpAny_mono (h A env s pos hA R F) ?_ fun _ _ x => x)
  rintro vs s₁ ⟨ds, ν₁, hvs, R₁, x₁, hl, hq⟩
  refine ⟨by rw [hvs.length, sizeLine_eq]; omega, .tup ds, ν₁, .tup (n := 0) (Heap.get?_push_size _ rfl) (hvs.keep (TupKeep.push _)), R₁.push _, x₁.trans (Fro.push _ _), hq⟩

/-- a new object at a fresh address -/
theorem Ref.alloc {h : Heap} (R : Ref C ν h) {o : AObj} {ob : Obj} (ho : ObjAt C (h.push ob) h.objs.size o) (hs : C.base.objs.size ≤ h.objs.size) : Ref C (upd ν h.objs.size o) (h.push ob) := by
  refine ⟨(R.push ob).keep, fun a o' e => ?_, fun a o' e hn => ?_⟩
  · unfold upd at e
    split at e
    · rename_i q; cases e; subst q; exact ho
    · exact (R.push ob).at_ a o' e
  · unfold upd at e
    split at e
    · rename_i q; subst q; exact hs
    · exact R.own a o' e hn
theorem Ref.fresh {h : Heap} (R : Ref C ν h) : ν h.objs.size = none := by
  cases q : ν h.objs.size with
  | none => rfl
  | some o => exact absurd (R.at_ _ _ q).lt (Nat.lt_irrefl _)
theorem Fro.alloc {own : Addr → Prop} {s : Shared} (o : AObj) (ob : Obj) (t : Nat) : Fro own ν (upd ν s.heap.objs.size o) s { s with heap := s.heap.push ob, toks := t } :=
  ⟨⟨_, _, rfl⟩, (Fro.push (own := own) (ν := ν) ob t).keep, (Fro.push (own := own) (ν := ν) ob t).alive, fun b o e hn => by unfold upd; rw [if_neg (Nat.ne_of_lt (Heap.lt_size e))]; exact hn⟩

theorem TE_list {es : List Expr} {pos} {Q : D → Nu → Prop} (h : TL C n sc es l ν (fun ds ν₁ => ds.length ≤ 1000 ∧ ∀ a, ν₁ a = none → Q (.ref a) (upd ν₁ a (.lst ds)))) : TE C n sc (.List es pos) l ν Q := by
  intro A env s hA R F
  refine wpAny_List (wpAny_mono (h A env s pos hA R F) ?_ fun _ _ x => x)
  rintro vs s₁ ⟨ds, ν₁, hvs, R₁, x₁, hl, hq⟩
  refine ⟨by rw [hvs.length, sizeLine_eq]; omega, .ref _, _, .ref _, R₁.alloc (o := .lst ds) ⟨vs, 0, Heap.get?_push_size _ rfl, hvs.keep (TupKeep.push _)⟩ (F.fro R x₁).baseLe, x₁.trans (Fro.alloc _ _ _), hq _ R₁.fresh⟩

-- statements
theorem PostS.after {env : Env} {ν₁ : Nu} {s s₁ : Shared} {Q : Fl → Loc → Nu → Prop} (x : Fro (fr env) ν ν₁ s s₁) {f : Flow} {s' : Shared} (p : PostS C env sc ν₁ s₁ Q f s') : PostS C env sc ν s Q f s' :=
  let ⟨fl, l', ν', a, b, c, d, q⟩ := p; ⟨fl, l', ν', a, b, c, x.trans d, q⟩
theorem Fro.toFr {own : Addr → Prop} {ν ν' : Nu} {s s' : Shared} (x : Fro no ν ν' s s') : Fro own ν ν' s s' := x.weaken fun _ q => q.elim

theorem TSs_nil {Q : Fl → Loc → Nu → Prop} (h : Q .next l ν) : TSs C n sc [] l ν Q := fun _ _ _ _ R F => wpAny_execs_nil ⟨.next, l, ν, .next, R, F, .refl, h⟩
theorem TSs_cons {st : Stmt} {rest : List Stmt} {Q : Fl → Loc → Nu → Prop} (h : TS C n sc st l ν (fun fl l₁ ν₁ => match fl with | .next => TSs C n sc rest l₁ ν₁ Q | fl => Q fl l₁ ν₁)) : TSs C n sc (st :: rest) l ν Q := by
  intro A env s hA R F
  refine wpAny_execs_cons (wpAny_mono (h A env s hA R F) ?_ fun _ _ x => x)
  rintro f s₁ ⟨fl, l₁, ν₁, hf, R₁, F₁, x₁, hq⟩
  cases hf with
  | next => exact wpAny_mono (hq A env s₁ hA R₁ F₁) (fun _ _ p => p.after x₁) fun _ _ x => x
  | brk => exact ⟨.brk, l₁, ν₁, .brk, R₁, F₁, x₁, hq⟩
  | cont => exact ⟨.cont, l₁, ν₁, .cont, R₁, F₁, x₁, hq⟩
  | ret r => exact ⟨.ret _, l₁, ν₁, .ret r, R₁, F₁, x₁, hq⟩
theorem TS_pass {pos} {Q : Fl → Loc → Nu → Prop} (h : Q .next l ν) : TS C n sc (.Pass pos) l ν Q := fun _ _ _ _ R F => wpAny_Pass ⟨.next, l, ν, .next, R, F, .refl, h⟩
theorem TS_ret {e : Expr} {pos} {Q : Fl → Loc → Nu → Prop} (h : TE C n sc e l ν (fun d ν₁ => Q (.ret d) l ν₁)) : TS C n sc (.Return (some e) pos) l ν Q := by
  intro A env s hA R F
  refine wpAny_Return_some (wpAny_mono (h A env s hA R F) ?_ fun _ _ x => x)
  rintro v s₁ ⟨d, ν₁, hv, R₁, x₁, hq⟩
  exact ⟨.ret d, l, ν₁, .ret hv, R₁, F.fro R x₁, x₁.toFr, hq⟩
theorem TS_ret0 {pos} {Q : Fl → Loc → Nu → Prop} (h : Q (.ret .none) l ν) : TS C n sc (.Return none pos) l ν Q := fun _ _ _ _ R F => wpAny_Return_none ⟨.ret .none, l, ν, .ret .none, R, F, .refl, h⟩
theorem TS_if {test : Expr} {body orelse : List Stmt} {pos} {Q : Fl → Loc → Nu → Prop} (h : TB C n sc test l ν (fun b ν₁ => if b = true then TSs C n sc body l ν₁ Q else TSs C n sc orelse l ν₁ Q)) : TS C n sc (.If test body orelse pos) l ν Q := by
  intro A env s hA R F
  refine wpAny_If (wpAny_mono (h A env s hA R F) ?_ fun _ _ x => x)
  rintro b s₁ ⟨ν₁, R₁, x₁, hq⟩
  cases b
  · exact wpAny_mono ((by simpa using hq : TSs C n sc orelse l ν₁ Q) A env s₁ hA R₁ (F.fro R x₁)) (fun _ _ p => p.after x₁.toFr) fun _ _ x => x
  · exact wpAny_mono ((by simpa using hq : TSs C n sc body l ν₁ Q) A env s₁ hA R₁ (F.fro R x₁)) (fun _ _ p => p.after x₁.toFr) fun _ _ x => x

/-- a name takes a value -/
def storable (sc : Scope) (x : Str) : Prop := sc.names.lookup x = some .local ∨ sc.names.lookup x = some .cell
theorem store_name {A : Around} {env : Env} {s : Shared} {x : Str} {v : Value} {d : D} {Q : Unit → Shared → Prop} {E : Value → Shared → Prop} {M : Model} (R : Ref C ν s.heap) (F : Frm C env sc l ν s.heap) (hx : storable sc x) (hv : RV s.heap v d)
    (h : ∀ s', Ref C ν s'.heap → Frm C env sc (put l x d) ν s'.heap → Fro (fr env) ν ν s s' → Q () s') : wpAny M A (storeName env x v) Q E s := by
  have hk : env.scope.kind = .function := F.scope ▸ F.kind
  have fin : ∀ (p : Addr) (h' : Heap) (t : Nat), Heap.SameBut p s.heap h' → (∃ o', h'.get? p = some o') → fr env p → ν p = none → C.base.objs.size ≤ p → Ref C ν h' ∧ Fro (fr env) ν ν s { s with heap := h', toks := t } ∧ TupKeep s.heap h' := by
    intro p h' t sb hal hp hn hb
    have k : TupKeep s.heap h' := fun a o e hi => (sb.2 a fun q => F.notTup a o (q ▸ hp) e hi).trans e
    refine ⟨⟨fun b o e => (sb.2 b (Nat.ne_of_lt (Nat.lt_of_lt_of_le (Heap.lt_size e) hb))).trans (R.keep b o e), fun a o e => (R.at_ a o e).keep k (sb.2 a fun q => ?_), R.own⟩, ⟨⟨h', t, rfl⟩, fun b o e _ ho => (sb.2 b fun q => ho (q ▸ hp)).trans e, fun b o e _ => if q : b = p then q ▸ hal else ⟨o, (sb.2 b q).trans e⟩, fun _ _ _ q => q⟩, k⟩
    rw [q, hn] at e; cases e
  rcases hx with hx | hx
  · obtain ⟨m, hn, hm⟩ := F.ns
    refine wpAny_storeName_local (by unfold Env.kindOf; rw [F.scope]; exact hx) hn (fun h' hn' sb => ?_) (by rw [hk]; rfl)
    obtain ⟨R', X', k⟩ := fin env.locals h' (s.toks + 1) sb (let ⟨o, _, _, e, _⟩ := hn'; ⟨o, e⟩) (.inl rfl) F.nuL F.above
    refine h _ R' ⟨F.scope, F.kind, F.glob, F.blt, ⟨_, hn', fun y e h1 h2 => ?_⟩, fun y c hc => ?_, fun y e h1 => ?_, F.cells, F.nuL, F.nuC, F.apart, F.above, F.aboveC⟩ X'
    · rw [lk_put] at h1
      by_cases hy : y = x
      · subst hy; rw [if_pos rfl] at h1; cases h1; exact ⟨v, if_pos rfl, hv.keep k⟩
      · rw [if_neg hy] at h1; obtain ⟨u, e1, e2⟩ := hm y e h1 h2; exact ⟨u, (if_neg hy).trans e1, e2.keep k⟩
    · obtain ⟨u, ⟨o, ho, hd⟩, r⟩ := F.cell y c hc
      refine ⟨u, ⟨o, (sb.2 c (F.neC hc)).trans ho, hd⟩, fun e h1 h2 => ?_⟩
      rw [lk_put] at h1
      by_cases hy : y = x
      · subst hy; exact absurd hx h2
      · rw [if_neg hy] at h1; obtain ⟨z, e1, e2⟩ := r e h1 h2; exact ⟨z, e1, e2.keep k⟩
    · rw [lk_put] at h1
      by_cases hy : y = x
      · subst hy; exact .inl hx
      · rw [if_neg hy] at h1; exact F.kinds y e h1
  · obtain ⟨c, hc⟩ := F.cells x hx
    obtain ⟨u, hu, r⟩ := F.cell x c hc
    refine wpAny_storeName_cell hk (by unfold Env.kindOf; rw [F.scope]; exact hx) hc hu fun h' hc' sb => ?_
    obtain ⟨R', X', k⟩ := fin c h' s.toks sb (let ⟨o, e, _⟩ := hc'; ⟨o, e⟩) (.inr ⟨x, hc⟩) (F.nuC x c hc) (F.aboveC x c hc)
    refine h _ R' ⟨F.scope, F.kind, F.glob, F.blt, ?_, fun y c' hcy => ?_, fun y e h1 => ?_, F.cells, F.nuL, F.nuC, F.apart, F.above, F.aboveC⟩ X'
    · obtain ⟨m, ⟨o, es, ep, ho, q⟩, hm⟩ := F.ns
      refine ⟨m, ⟨o, es, ep, (sb.2 _ (Ne.symm (F.neC hc))).trans ho, q⟩, fun y e h1 h2 => ?_⟩
      rw [lk_put] at h1
      by_cases hy : y = x
      · subst hy; rw [hx] at h2; cases h2
      · rw [if_neg hy] at h1; obtain ⟨z, e1, e2⟩ := hm y e h1 h2; exact ⟨z, e1, e2.keep k⟩
    · by_cases hy : y = x
      · subst hy
        rw [hc] at hcy; cases hcy
        refine ⟨some v, hc', fun e h1 h2 => ?_⟩
        rw [lk_put, if_pos rfl] at h1; cases h1
        exact ⟨v, rfl, hv.keep k⟩
      · obtain ⟨z, ⟨o, ho, hd⟩, r'⟩ := F.cell y c' hcy
        have hne : c' ≠ c := fun q => hy (F.apart y x c (q ▸ hcy) hc)
        refine ⟨z, ⟨o, (sb.2 c' hne).trans ho, hd⟩, fun e h1 h2 => ?_⟩
        rw [lk_put, if_neg hy] at h1
        obtain ⟨w', e1, e2⟩ := r' e h1 h2
        exact ⟨w', e1, e2.keep k⟩
    · rw [lk_put] at h1
      by_cases hy : y = x
      · subst hy; exact .inr ⟨.inl hx, c, hc⟩
      · rw [if_neg hy] at h1; exact F.kinds y e h1

theorem TS_assign {x : Str} {pos' pos} {value : Expr} {Q : Fl → Loc → Nu → Prop} (h : TE C n sc value l ν (fun d ν₁ => Q .next (put l x d) ν₁)) (hx : storable sc x)
    (hs : ∀ env, swapsWith value (some (.Name x pos')) pos.line env = pure false) : TS C n sc (.Assign [.Name x pos'] value pos) l ν Q := by
  intro A env s hA R F
  refine wpAny_Assign_Name (wpAny_mono (h A env s hA R F) ?_ fun _ _ x => x) (hs env)
  rintro v s₁ ⟨d, ν₁, hv, R₁, x₁, hq⟩
  exact store_name R₁ (F.fro R x₁) hx hv fun s' R' F' X' => ⟨.next, _, ν₁, .next, R', F', x₁.toFr.trans X', hq⟩

theorem TSs_mono {st : List Stmt} {Q Q' : Fl → Loc → Nu → Prop} (h : TSs C n sc st l ν Q) (hq : ∀ fl l' ν', Q fl l' ν' → Q' fl l' ν') : TSs C n sc st l ν Q' :=
  fun A env s hA R F => wpAny_mono (h A env s hA R F) (fun _ _ ⟨fl, l', ν', a, b, c, d, q⟩ => ⟨fl, l', ν', a, b, c, d, hq _ _ _ q⟩) fun _ _ x => x
theorem TE_mono {e : Expr} {Q Q' : D → Nu → Prop} (h : TE C n sc e l ν Q) (hq : ∀ d ν', Q d ν' → Q' d ν') : TE C n sc e l ν Q' :=
  fun A env s hA R F => wpAny_mono (h A env s hA R F) (fun _ _ ⟨d, ν', a, b, c, q⟩ => ⟨d, ν', a, b, c, hq _ _ q⟩) fun _ _ x => x
theorem TC_mono {f : Value} {ds : List D} {Q Q' : D → Nu → Prop} (h : TC C n f ds ν Q) (hq : ∀ d ν', Q d ν' → Q' d ν') : TC C n f ds ν Q' :=
  fun A s vs hA R hz hv => wpAny_mono (h A s vs hA R hz hv) (fun _ _ ⟨d, ν', a, b, c, q⟩ => ⟨d, ν', a, b, c, hq _ _ q⟩) fun _ _ x => x
theorem TC_depth {m : Nat} {f : Value} {ds : List D} {Q : D → Nu → Prop} (h : TC C m f ds ν Q) (hm : m ≤ n) : TC C n f ds ν Q := fun A s vs hA R hz hv => h A s vs (hA.mono hm) R hz hv
end
end Mine

namespace Mine
open PySem

section
variable {C : Cx} {n : Nat} {sc : Scope} {l : Loc} {ν : Nu}

theorem Ref.sameBut {h h' : Heap} {I : Addr} (R : Ref C ν h) (k : ∀ b o, b ≠ I → h.get? b = some o → h'.get? b = some o) (hn : ν I = none) (hb : C.base.objs.size ≤ I) (ht : ∀ o, h.get? I = some o → ¬ Imm o) : Ref C ν h' := by
  have kt : TupKeep h h' := fun a o e hi => k a _ (fun q => ht o (q ▸ e) hi) e
  refine ⟨fun b o e => k b o (Nat.ne_of_lt (Nat.lt_of_lt_of_le (Heap.lt_size e) hb)) (R.keep b o e), fun a o e => ?_, R.own⟩
  obtain ⟨ob, hob, _⟩ := (R.at_ a o e).get
  refine (R.at_ a o e).keep kt ((k a ob (fun q => ?_) hob).trans hob.symm)
  rw [q, hn] at e; cases e
theorem Frm.sameBut {env : Env} {h h' : Heap} {I : Addr} (F : Frm C env sc l ν h) (k : ∀ b o, b ≠ I → h.get? b = some o → h'.get? b = some o) (hI : ¬ fr env I) (ht : ∀ o, h.get? I = some o → ¬ Imm o) : Frm C env sc l ν h' := by
  have kt : TupKeep h h' := fun a o e hi => k a _ (fun q => ht o (q ▸ e) hi) e
  obtain ⟨m, ⟨o, es, ep, ho, r⟩, hm⟩ := F.ns
  refine ⟨F.scope, F.kind, F.glob, F.blt, ⟨m, ⟨o, es, ep, k _ _ (fun q => hI (.inl q.symm)) ho, r⟩, fun y d h1 h2 => let ⟨v, a, b⟩ := hm y d h1 h2; ⟨v, a, b.keep kt⟩⟩, fun y c hc => ?_, F.kinds, F.cells, F.nuL, F.nuC, F.apart, F.above, F.aboveC⟩
  obtain ⟨v, ⟨o', ho', hd'⟩, q⟩ := F.cell y c hc
  exact ⟨v, ⟨o', k _ _ (fun q => hI (.inr ⟨y, q ▸ hc⟩)) ho', hd'⟩, fun d h1 h2 => let ⟨u, a, b⟩ := q d h1 h2; ⟨u, a, b.keep kt⟩⟩
theorem fr_lt {env : Env} {h : Heap} {b : Addr} (F : Frm C env sc l ν h) (hb : fr env b) : ∃ o, h.get? b = some o := by
  rcases hb with rfl | ⟨x, hx⟩
  · obtain ⟨m, ⟨o, es, ep, ho, r⟩, hm⟩ := F.ns; exact ⟨o, ho⟩
  · obtain ⟨v, ⟨o, ho, _⟩, _⟩ := F.cell x b hx; exact ⟨o, ho⟩

-- while
theorem TS_while {test : Expr} {body : List Stmt} {pos} {Q : Fl → Loc → Nu → Prop} (I : Nat → Loc → Nu → Prop) (k₀ : Nat) (h0 : I k₀ l ν)
    (turn : ∀ k l ν, I k l ν → TB C n sc test l ν (fun b ν₁ => if b = true then TSs C n sc body l ν₁ (fun fl l₂ ν₂ => match fl with
      | .next | .cont => ∃ k' l₃, k' < k ∧ Sub l₃ l₂ ∧ I k' l₃ ν₂
      | .brk => Q .next l₂ ν₂
      | .ret d => Q (.ret d) l₂ ν₂) else Q .next l ν₁)) : TS C n sc (.While test body [] pos) l ν Q := by
  intro A env s hA R F
  refine wpAny_While (codeAny_whileLoop (fun k s' => ∃ l' ν', Ref C ν' s'.heap ∧ Frm C env sc l' ν' s'.heap ∧ Fro (fr env) ν ν' s s' ∧ I k l' ν') ?_ k₀ ⟨l, ν, R, F, .refl, h0⟩)
  rintro k s₁ ⟨l₁, ν₁, R₁, F₁, x₁, hI⟩
  refine wpAny_mono (turn k l₁ ν₁ hI A env s₁ hA R₁ F₁) ?_ fun _ _ x => x.elim
  rintro b s₂ ⟨ν₂, R₂, x₂, hq⟩
  have F₂ := F₁.fro R₁ x₂
  cases b
  · simp only [Bool.false_eq_true, if_false] at hq ⊢
    exact wpAny_execs_nil ⟨.next, l₁, ν₂, .next, R₂, F₂, x₁.trans x₂.toFr, hq⟩
  · simp only [if_true] at hq ⊢
    refine wpAny_mono (hq A env s₂ hA R₂ F₂) ?_ fun _ _ x => x.elim
    rintro f s₃ ⟨fl, l₃, ν₃, hf, R₃, F₃, x₃, hq3⟩
    have X := (x₁.trans x₂.toFr).trans x₃
    cases hf with
    | next => obtain ⟨k', l₄, hk, hs, hI'⟩ := hq3; exact ⟨k', hk, l₄, ν₃, R₃, F₃.sub hs, X, hI'⟩
    | cont => obtain ⟨k', l₄, hk, hs, hI'⟩ := hq3; exact ⟨k', hk, l₄, ν₃, R₃, F₃.sub hs, X, hI'⟩
    | brk => exact ⟨.next, l₃, ν₃, .next, R₃, F₃, X, hq3⟩
    | ret r => exact ⟨.ret _, l₃, ν₃, .ret r, R₃, F₃, X, hq3⟩

-- targets
def TG (C : Cx) (n : Nat) (sc : Scope) (t : Expr) (d : D) (l : Loc) (ν : Nu) (Q : Loc → Nu → Prop) : Prop :=
  ∀ A env s v, Aok n A → Ref C ν s.heap → Frm C env sc l ν s.heap → RV s.heap v d → wpAny (model C.prog C.w) A (assign t env v) (fun _ s' => ∃ l' ν', Ref C ν' s'.heap ∧ Frm C env sc l' ν' s'.heap ∧ Fro (fr env) ν ν' s s' ∧ Q l' ν') nev s
theorem TG_name {x : Str} {pos} {d : D} {Q : Loc → Nu → Prop} (hx : storable sc x) (h : Q (put l x d) ν) : TG C n sc (.Name x pos) d l ν Q := fun _ _ _ _ _ R F hv =>
  wpAny_assign_Name (store_name R F hx hv fun _ R' F' X' => ⟨_, ν, R', F', X', h⟩)

/-- an iterator at I: N items; what it iterates stands while 'src' holds -/
structure ItOk (C : Cx) (I : Addr) (N : Nat) (item : Nat → D) (src : Nu → Prop) (At : Nat → Obj → Prop) : Prop where
  tup : ∀ i o, At i o → ¬ Imm o
  own : ∀ (A : Around) (M : Model) (i : Nat) (s : Shared) (o : Obj) (Q : Unit → Shared → Prop) (E : Value → Shared → Prop) (t : Expr) (v : Value), s.heap.get? I = some o → At i o → Q () s → wpAny M A (letOwnedTupleGo t (.ref I) v) Q E s
  next : ∀ (A : Around) (i : Nat) (s : Shared) (o : Obj) (ν : Nu) (Q : Option Value → Shared → Prop) (E : Value → Shared → Prop), A.handled = none → i < N → Ref C ν s.heap → s.heap.get? I = some o → At i o → src ν →
    (∀ v h' t o', RV h' v (item i) → (∀ b o, b ≠ I → s.heap.get? b = some o → h'.get? b = some o) → h'.get? I = some o' → At (i + 1) o' → Q (some v) { s with heap := h', toks := t }) → wpAny (model C.prog C.w) A (pyNext (.ref I)) Q E s
  done : ∀ (A : Around) (s : Shared) (o : Obj) (ν : Nu) (Q : Option Value → Shared → Prop) (E : Value → Shared → Prop), A.handled = none → Ref C ν s.heap → s.heap.get? I = some o → At N o → src ν →
    (∀ h' t, (∀ b o, b ≠ I → s.heap.get? b = some o → h'.get? b = some o) → Q none { s with heap := h', toks := t }) → wpAny (model C.prog C.w) A (pyNext (.ref I)) Q E s

/-- a step that turns the iterator alone -/
theorem Fro.iter {own : Addr → Prop} {ν₁ : Nu} {s s₁ : Shared} {I : Addr} {h' : Heap} {t : Nat} (x : Fro own ν ν₁ s s₁) (hI : s.heap.get? I = none) (k : ∀ b o, b ≠ I → s₁.heap.get? b = some o → h'.get? b = some o) : Fro own ν ν₁ s { s₁ with heap := h', toks := t } := by
  obtain ⟨⟨h1, t1, rfl⟩, a, b, c⟩ := x
  have ne : ∀ b o, s.heap.get? b = some o → b ≠ I := fun b o e q => by rw [q, hI] at e; cases e
  exact ⟨⟨h', t, rfl⟩, fun b o e hn ho => k b o (ne b o e) (a b o e hn ho), fun p o e hn => let ⟨o', e'⟩ := b p o e hn; ⟨o', k p o' (ne p o e) e'⟩, c⟩

theorem for_core {A : Around} {env : Env} {s s₂ : Shared} {I : Addr} {N : Nat} {item : Nat → D} {src : Nu → Prop} {At : Nat → Obj → Prop} {o : Obj} {t : Expr} {body : List Stmt} {Q : Fl → Loc → Nu → Prop}
    (W : ItOk C I N item src At) (hA : Aok n A) (F : Frm C env sc l ν s.heap) (x : Fro no ν ν s s₂) (R₂ : Ref C ν s₂.heap) (hI : s₂.heap.get? I = some o) (hAt : At 0 o) (hs : s.heap.get? I = none) (hν : ν I = none) (hb : C.base.objs.size ≤ I) (R : Ref C ν s.heap)
    (J : Nat → Loc → Nu → Prop) (hJ : J 0 l ν) (hsrc : ∀ i l ν, J i l ν → src ν)
    (turn : ∀ i l ν, i < N → J i l ν → TG C n sc t (item i) l ν (fun l₁ ν₁ => TSs C n sc body l₁ ν₁ (fun fl l₂ ν₂ => match fl with
      | .next | .cont => ∃ l₃, Sub l₃ l₂ ∧ J (i + 1) l₃ ν₂
      | .brk => Q .next l₂ ν₂
      | .ret d => Q (.ret d) l₂ ν₂)))
    (fin : ∀ l ν, J N l ν → Q .next l ν) :
    codeAny (model C.prog C.w) A (.forLoop t (.ref I) body [] env) (fun r s' => match r with | .ok f => PostS C env sc ν s Q f s' | .error e => cameBackBy (model C.prog C.w) A env nev e s') s₂ := by
  have hf : ¬ fr env I := fun q => by obtain ⟨o', e⟩ := fr_lt F q; rw [hs] at e; cases e
  refine codeAny_forLoop_any (fun k s' => ∃ i l' ν' o, k = N - i ∧ i ≤ N ∧ Ref C ν' s'.heap ∧ Frm C env sc l' ν' s'.heap ∧ Fro (fr env) ν ν' s s' ∧ ν' I = none ∧ s'.heap.get? I = some o ∧ At i o ∧ J i l' ν') ?_ N ⟨0, l, ν, o, by simp, Nat.zero_le _, R₂, F.fro R x, x.toFr, hν, hI, hAt, hJ⟩
  rintro k s₁ ⟨i, l₁, ν₁, o₁, rfl, hi, R₁, F₁, x₁, hn₁, hI₁, hA₁, hJ₁⟩
  have nt : ∀ o, s₁.heap.get? I = some o → ¬ Imm o := fun o e => by rw [hI₁] at e; cases e; exact W.tup _ _ hA₁
  by_cases hlt : i < N
  · refine W.next A i s₁ o₁ ν₁ _ _ hA.1 hlt R₁ hI₁ hA₁ (hsrc _ _ _ hJ₁) fun v h' tk o' hv k hI' hA' => ?_
    have R₃ : Ref C ν₁ h' := R₁.sameBut k hn₁ hb nt
    have F₃ : Frm C env sc l₁ ν₁ h' := F₁.sameBut k hf nt
    have x₃ : Fro (fr env) ν ν₁ s { s₁ with heap := h', toks := tk } := x₁.iter hs k
    refine W.own A _ (i + 1) _ o' _ _ t v hI' hA' ?_
    refine wpAny_mono (turn i l₁ ν₁ hlt hJ₁ A env _ v hA R₃ F₃ hv) ?_ fun _ _ x => x.elim
    rintro _ s₃ ⟨l₃, ν₃, R₃, F₃, x₄, hq⟩
    refine wpAny_mono (hq A env s₃ hA R₃ F₃) ?_ fun _ _ x => x.elim
    rintro f s₄ ⟨fl, l₄, ν₄, hfl, R₄, F₄, x₅, hq4⟩
    have x45 := x₄.trans x₅
    have n₄ : ν₄ I = none := x45.dom I _ hI' hn₁
    have i₄ : s₄.heap.get? I = some o' := x45.keep I o' hI' hn₁ hf
    have X := x₃.trans x45
    cases hfl with
    | next => obtain ⟨l₅, hs, hJ'⟩ := hq4; exact ⟨N - (i + 1), by omega, i + 1, l₅, ν₄, o', rfl, hlt, R₄, F₄.sub hs, X, n₄, i₄, hA', hJ'⟩
    | cont => obtain ⟨l₅, hs, hJ'⟩ := hq4; exact ⟨N - (i + 1), by omega, i + 1, l₅, ν₄, o', rfl, hlt, R₄, F₄.sub hs, X, n₄, i₄, hA', hJ'⟩
    | brk => exact ⟨.next, l₄, ν₄, .next, R₄, F₄, X, hq4⟩
    | ret r => exact ⟨.ret _, l₄, ν₄, .ret r, R₄, F₄, X, hq4⟩
  · have hiN : i = N := by omega
    subst hiN
    refine W.done A s₁ o₁ ν₁ _ _ hA.1 R₁ hI₁ hA₁ (hsrc _ _ _ hJ₁) fun h' tk k => ?_
    exact wpAny_execs_nil ⟨.next, l₁, ν₁, .next, R₁.sameBut k hn₁ hb nt, F₁.sameBut k hf nt, x₁.iter hs k, fin _ _ hJ₁⟩

/-- a for over a datum -/
def TF (C : Cx) (n : Nat) (sc : Scope) (t : Expr) (body : List Stmt) (d : D) (l : Loc) (ν : Nu) (Q : Fl → Loc → Nu → Prop) : Prop :=
  ∀ A env s v, Aok n A → Ref C ν s.heap → Frm C env sc l ν s.heap → RV s.heap v d → wpAny (model C.prog C.w) A (pyIter v) (fun it s₂ =>
    codeAny (model C.prog C.w) A (.forLoop t it body [] env) (fun r s' => match r with | .ok f => PostS C env sc ν s Q f s' | .error e => cameBackBy (model C.prog C.w) A env nev e s') s₂) nev s
theorem TS_for {t iter : Expr} {body : List Stmt} {pos} {Q : Fl → Loc → Nu → Prop} (h : TE C n sc iter l ν (fun d ν₁ => TF C n sc t body d l ν₁ Q)) (hs : ∀ env x, foldedSetIterable iter env x = pure x) : TS C n sc (.For t iter body [] pos) l ν Q := by
  intro A env s hA R F
  refine wpAny_For (wpAny_mono (h A env s hA R F) ?_ fun _ _ x => x) (hs env)
  rintro v s₁ ⟨d, ν₁, hv, R₁, x₁, hq⟩
  refine wpAny_mono (hq A env s₁ v hA R₁ (F.fro R x₁) hv) (fun it s₂ h₂ => codeAny_mono h₂ fun r s' z => ?_) fun _ _ x => x
  cases r with
  | ok f => exact PostS.after x₁.toFr z
  | error e => exact z

def seqOf : Option AObj → Option (List D)
  | some (.lst ds) => some ds
  | some (.scr ds) => some ds
  | _ => none
theorem Ref.seq {h : Heap} {a : Addr} {ds : List D} (R : Ref C ν h) (e : seqOf (ν a) = some ds) : ∃ vs n, h.get? a = some (lstObj vs n) ∧ RVs h vs ds := by
  cases q : ν a with
  | none => rw [q] at e; cases e
  | some o =>
    rw [q] at e
    cases o <;> simp only [seqOf, Option.some.injEq, reduceCtorEq] at e <;> subst e <;> exact R.at_ _ _ q

theorem own_plain {A : Around} {M : Model} {s : Shared} {I : Addr} {o : Obj} {Q : Unit → Shared → Prop} {E : Value → Shared → Prop} {t : Expr} {v : Value} {c : String} {vs : Array Value} (hI : s.heap.get? I = some o) (hc : o.cls = .type c) (hd : o.data = .fields vs)
    (hn : ["enumerate", "zip", "dict_itemiterator", "dict_reverseitemiterator", "odict_iterator", "itertools.zip_longest", "itertools.pairwise"].contains c = false) (hq : Q () s) : wpAny M A (letOwnedTupleGo t (.ref I) v) Q E s := by
  have main : wpAny M A (match (Value.ref I, v) with
      | (.ref r, .ref a) => load r >>= fun o => match o.cls, o.data with
        | .type n, .fields vs => if (["enumerate", "zip", "dict_itemiterator", "dict_reverseitemiterator", "odict_iterator", "itertools.zip_longest", "itertools.pairwise"].contains n && vs[0]? == some (rawInt a)) = true then rule "for.unpacks-the-owned-tuple" >>= fun _ => updateField r 0 .none else pure ()
        | _, _ => pure ()
      | _ => pure ()) Q E s := by
    cases v <;> first | exact wpAny_pure hq | skip
    refine wpAny_bind (wpAny_load hI ?_)
    rw [hc, hd]
    dsimp only
    rw [hn]
    exact wpAny_pure hq
  unfold letOwnedTupleGo
  split
  · exact main
  · exact main
  · exact wpAny_pure hq

def lstIter (a : Addr) (i : Nat) (o : Obj) : Prop := o.cls = .type "list_iterator" ∧ o.data = .fields #[.ref a, .int i 0]
theorem itOk_list {I a : Addr} {ds : List D} : ItOk C I ds.length (fun i => ds.getD i .none) (fun ν => seqOf (ν a) = some ds) (lstIter a) where
  tup := fun i o h e => by have := e.cls; rw [h.1] at this; simp at this
  own := fun A M i s o Q E t v hI hAt hq => own_plain hI hAt.1 hAt.2 (by decide) hq
  next := fun A i s o ν Q E hh hi R hI hAt hs h => by
    obtain ⟨vs, m, e, r⟩ := R.seq hs
    obtain ⟨d, hd⟩ : ∃ d, ds[i]? = some d := ⟨ds[i], by simp [hi]⟩
    obtain ⟨v, hv, rv⟩ := r.get hd
    refine wpAny_pyNext_list_item (l := a) (i := i) (items := vs.toArray) (x := v) ⟨o, hI, hAt.1, hAt.2⟩ ⟨_, e, rfl, m, rfl⟩ (by simpa using hv) fun h' hit sb => ?_
    obtain ⟨o', ho', hc', hd'⟩ := hit
    have k : ∀ b o, b ≠ I → s.heap.get? b = some o → h'.get? b = some o := fun b o hb e => (sb.2 b hb).trans e
    refine h v h' s.toks o' ?_ k ho' ⟨hc', hd'⟩
    have : ds.getD i .none = d := by rw [List.getD_eq_getElem?_getD, hd]; rfl
    rw [this]
    exact rv.keep fun b o e hi => k b _ (fun q => by subst q; rw [hI] at e; cases e; have := hi.cls; rw [hAt.1] at this; simp at this) e
  done := fun A s o ν Q E hh R hI hAt hs h => by
    obtain ⟨vs, m, e, r⟩ := R.seq hs
    exact wpAny_pyNext_list_end (l := a) (i := ds.length) (items := vs.toArray) hh ⟨o, hI, hAt.1, hAt.2⟩ ⟨_, e, rfl, m, rfl⟩ (by simp [r.length]) fun h' he => h h' s.toks fun b o hb e => he b o hb e

/-- for over a list of the abstract heap, by an invariant over the number of turns -/
theorem TF_list {t : Expr} {body : List Stmt} {a : Addr} {ds : List D} {Q : Fl → Loc → Nu → Prop} (hs : seqOf (ν a) = some ds)
    (J : Nat → Loc → Nu → Prop) (hJ : J 0 l ν) (hsrc : ∀ i l ν, J i l ν → seqOf (ν a) = some ds)
    (turn : ∀ i l ν d, ds[i]? = some d → J i l ν → TG C n sc t d l ν (fun l₁ ν₁ => TSs C n sc body l₁ ν₁ (fun fl l₂ ν₂ => match fl with
      | .next | .cont => ∃ l₃, Sub l₃ l₂ ∧ J (i + 1) l₃ ν₂
      | .brk => Q .next l₂ ν₂
      | .ret d => Q (.ret d) l₂ ν₂)))
    (fin : ∀ l ν, J ds.length l ν → Q .next l ν) : TF C n sc t body (.ref a) l ν Q := by
  intro A env s v hA R F hv
  cases hv
  obtain ⟨vs, m, e, r⟩ := R.seq hs
  refine wpAny_pyIter_list (items := vs.toArray) ⟨_, e, rfl, m, rfl⟩ ?_
  have nn : s.heap.get? s.heap.objs.size = none := by
    cases q : s.heap.get? s.heap.objs.size with
    | none => rfl
    | some o => exact absurd (Heap.lt_size q) (Nat.lt_irrefl _)
  refine for_core (s := s) (itOk_list (a := a) (ds := ds)) hA F (Fro.push _ _) (R.push _) (Heap.get?_push_size _ rfl) ⟨rfl, rfl⟩ nn R.fresh F.baseLe R J hJ hsrc (fun i l ν hi hj => ?_) fin
  have : ds[i]? = some (ds.getD i .none) := by simp [List.getD_eq_getElem?_getD, hi]
  exact turn i l ν _ this hj

-- ranges
def rngIter (N : Nat) (i : Nat) (o : Obj) : Prop := o = { cls := .type "range_iterator", data := .fields #[rawInt (i : Int), rawInt ((N : Int) - i), rawInt 1] }
theorem itOk_rng {I : Addr} {N : Nat} : ItOk C I N (fun i => .int (i : Int)) (fun _ => True) (rngIter N) where
  tup := fun i o h e => by have := e.cls; rw [h] at this; simp at this
  own := fun A M i s o Q E t v hI hAt hq => by subst hAt; exact own_plain hI rfl rfl (by decide) hq
  next := fun A i s o ν Q E hh hi R hI hAt hs h => by
    subst hAt
    refine wpAny_pyNext_range_item (x := (i : Int)) (left := (N : Int) - i) (step := 1) hI (by omega) fun h' hit sb => ?_
    have e1 : ((N : Int) - i - 1) = (N : Int) - ((i + 1 : Nat) : Int) := by omega
    have e2 : ((i : Int) + 1) = ((i + 1 : Nat) : Int) := by omega
    rw [e1, e2] at hit
    exact h _ h' _ _ (.int _ _) (fun b o hb e => (sb.2 b hb).trans e) hit rfl
  done := fun A s o ν Q E hh R hI hAt hs h => by
    subst hAt
    exact wpAny_pyNext_range_end (x := (N : Int)) (left := (N : Int) - N) (step := 1) hh hI (by omega) fun h' he => h h' s.toks fun b o hb e => he b o hb e
theorem getNone (s : Shared) : s.heap.get? s.heap.objs.size = none := by
  cases q : s.heap.get? s.heap.objs.size with
  | none => rfl
  | some o => exact absurd (Heap.lt_size q) (Nat.lt_irrefl _)
theorem TF_rng {t : Expr} {body : List Stmt} {m : Int} {Q : Fl → Loc → Nu → Prop} (hm : -(2 ^ 62) ≤ m) (hm' : m < 2 ^ 62)
    (J : Nat → Loc → Nu → Prop) (hJ : J 0 l ν)
    (turn : ∀ i l ν, i < m.toNat → J i l ν → TG C n sc t (.int (i : Int)) l ν (fun l₁ ν₁ => TSs C n sc body l₁ ν₁ (fun fl l₂ ν₂ => match fl with
      | .next | .cont => ∃ l₃, Sub l₃ l₂ ∧ J (i + 1) l₃ ν₂
      | .brk => Q .next l₂ ν₂
      | .ret d => Q (.ret d) l₂ ν₂)))
    (fin : ∀ l ν, J m.toNat l ν → Q .next l ν) : TF C n sc t body (.rng m) l ν Q := by
  intro A env s v hA R F hv
  cases hv with
  | rng e =>
  have sm := small_one (a := 0) (b := m) (by decide) (by decide) hm hm'
  refine wpAny_pyIter_range e sm ?_
  have e3 : Builtin.Range.rangeSize 0 m 1 = ((m.toNat : Nat) : Int) := by rw [rangeSize_one]; split <;> omega
  rw [e3]
  refine for_core (s := s) (itOk_rng (N := m.toNat)) hA F (Fro.push _ _) (R.push _) (Heap.get?_push_size _ rfl) (by unfold rngIter; simp) (getNone s) R.fresh F.baseLe R J hJ (fun _ _ _ _ => trivial) turn fin
end
end Mine

namespace Mine
open PySem

section
variable {C : Cx} {n : Nat} {sc : Scope} {l : Loc} {ν : Nu}

theorem bindL_not (k : Str → Option NameKind) : ∀ (names : List Str) (vs : List Value) (m : Str → Option Value) (x : Str), x ∉ names → bindL k (names.zip vs) m x = m x
  | [], _, _, _, _ => by simp [bindL]
  | _ :: _, [], _, _, _ => by simp [bindL]
  | y :: ys, v :: vs, m, x, hx => by
    simp only [List.mem_cons, not_or] at hx
    simp only [List.zip_cons_cons, bindL]
    rw [bindL_not k ys vs _ x hx.2]
    split
    · exact if_neg hx.1
    · rfl
theorem bindC_not (k : Str → Option NameKind) : ∀ (names : List Str) (vs : List Value) (m : Str → Option Value) (x : Str), x ∉ names → bindC k (names.zip vs) m x = m x
  | [], _, _, _, _ => by simp [bindC]
  | _ :: _, [], _, _, _ => by simp [bindC]
  | y :: ys, v :: vs, m, x, hx => by
    simp only [List.mem_cons, not_or] at hx
    simp only [List.zip_cons_cons, bindC]
    rw [bindC_not k ys vs _ x hx.2]
    split
    · rfl
    · exact if_neg hx.1
theorem bindL_in {h : Heap} (k : Str → Option NameKind) : ∀ (names : List Str) (vs : List Value) (ds : List D) (m : Str → Option Value) (x : Str) (d : D), names.Nodup → RVs h vs ds → lk (names.zip ds) x = some d → k x = some .local → ∃ v, bindL k (names.zip vs) m x = some v ∧ RV h v d
  | [], _, _, _, _, _, _, _, e, _ => by simp [lk] at e
  | _ :: _, [], _, _, _, _, _, r, e, _ => by cases r; simp [lk] at e
  | y :: ys, v :: vs, _, m, x, d, nd, .cons (d := d') (ds := ds) rv r, e, hk => by
    simp only [List.zip_cons_cons, lk] at e
    simp only [List.zip_cons_cons, bindL]
    by_cases hx : x = y
    · subst hx
      rw [if_pos rfl] at e; cases e
      rw [bindL_not k ys vs _ x (List.nodup_cons.mp nd).1, if_pos hk]
      exact ⟨v, if_pos rfl, rv⟩
    · rw [if_neg hx] at e
      exact bindL_in k ys vs ds _ x d (List.nodup_cons.mp nd).2 r e hk
theorem bindC_in {h : Heap} (k : Str → Option NameKind) : ∀ (names : List Str) (vs : List Value) (ds : List D) (m : Str → Option Value) (x : Str) (d : D), names.Nodup → RVs h vs ds → lk (names.zip ds) x = some d → k x ≠ some .local → ∃ v, bindC k (names.zip vs) m x = some v ∧ RV h v d
  | [], _, _, _, _, _, _, _, e, _ => by simp [lk] at e
  | _ :: _, [], _, _, _, _, _, r, e, _ => by cases r; simp [lk] at e
  | y :: ys, v :: vs, _, m, x, d, nd, .cons (d := d') (ds := ds) rv r, e, hk => by
    simp only [List.zip_cons_cons, lk] at e
    simp only [List.zip_cons_cons, bindC]
    by_cases hx : x = y
    · subst hx
      rw [if_pos rfl] at e; cases e
      rw [bindC_not k ys vs _ x (List.nodup_cons.mp nd).1, if_neg hk]
      exact ⟨v, if_pos rfl, rv⟩
    · rw [if_neg hx] at e
      exact bindC_in k ys vs ds _ x d (List.nodup_cons.mp nd).2 r e hk
theorem lk_zip_mem : ∀ (names : List Str) (ds : List D) (x : Str) (d : D), lk (names.zip ds) x = some d → x ∈ names
  | [], _, _, _, e => by simp [lk] at e
  | _ :: _, [], _, _, e => by simp [lk] at e
  | y :: ys, d' :: ds, x, d, e => by
    simp only [List.zip_cons_cons, lk] at e
    by_cases hx : x = y
    · subst hx; exact .head _
    · rw [if_neg hx] at e; exact .tail _ (lk_zip_mem ys ds x d e)
theorem cellsFrom_has {x : Str} : ∀ (names : List (Str × NameKind)) (m : Nat) (acc : List (Str × Addr)), names.lookup x = some .cell ∨ (∃ c, acc.lookup x = some c) → ∃ c, (cellsFrom m names acc).lookup x = some c
  | [], _, _, h => h.elim (fun e => by simp at e) id
  | (y, k) :: r, m, acc, h => by
    unfold cellsFrom
    by_cases hxy : x = y
    · subst hxy
      split
      · exact cellsFrom_has r (m + 1) _ (.inr ⟨m, by simp⟩)
      · rename_i hk
        refine cellsFrom_has r m acc (h.elim (fun e => ?_) .inr)
        simp at e; subst e; simp at hk
    · have hb : (x == y) = false := by simpa using hxy
      split
      · exact cellsFrom_has r (m + 1) _ (h.imp (fun e => by simpa [List.lookup_cons, hb] using e) fun ⟨c, e⟩ => ⟨c, by simpa [List.lookup_cons, hb] using e⟩)
      · exact cellsFrom_has r m acc (h.imp (fun e => by simpa [List.lookup_cons, hb] using e) id)

/-- a def of the text, as the top's part tells it -/
structure IsDef (C : Cx) (f : Addr) (names : List Str) (body : List Stmt) (scope : Scope) : Prop where
  ex : ∃ o fd, C.K.lookup f = some o ∧ o.data = .func fd ∧ fd.body = .stmts body ∧ fd.closure = [] ∧ fd.globals = mainGlobals ∧ fd.builtins = builtinsNs ∧ fd.scope = scope ∧ C.base.CodeRec fd.code fd.qualname ∧
    ∀ vs : List Value, vs.length = names.length → bindArgs fd ⟨vs, []⟩ = pure (names.zip vs)
  co : scope.isCoroutine = false
  gen : scope.isGenerator = false
  kind : scope.kind = .function
  nodup : names.Nodup
  kinds : ∀ x ∈ names, storable scope x

/-- a call, as code -/
def TK (C : Cx) (n : Nat) (f : Value) (ds : List D) (ν : Nu) (Q : D → Nu → Prop) : Prop :=
  ∀ A s vs, Aok n A → Ref C ν s.heap → C.base.objs.size ≤ s.heap.objs.size → RVs s.heap vs ds → codeAny (model C.prog C.w) A (.call f ⟨vs, []⟩) (fun r s' => match r with | .ok (.ret v) => PostV C ν s Q v s' | .ok _ => False | .error e => nev e s') s
theorem TC_of {f : Value} {ds : List D} {Q : D → Nu → Prop} (h : TK C n f ds ν Q) : TC C n f ds ν Q := fun A s vs hA R hz hv => wpAny_call (h A s vs hA R hz hv)
theorem TK_def {f : Addr} {names : List Str} {body : List Stmt} {ds : List D} {Q : D → Nu → Prop} (I : IsDef C f names body sc) (hlen : ds.length = names.length)
    (h : TSs C n sc body (names.zip ds) ν (fun fl _ ν' => match fl with | .ret d => Q d ν' | _ => Q .none ν')) : TK C (n + 1) (.ref f) ds ν Q := by
  intro A s vs hA R hz hv
  obtain ⟨⟨o, fd, ho, hd, hb, hc, hg, hbl, rfl, hcd, hbind⟩, co, gen, kind, nd, kinds⟩ := I
  have ho' := R.keep _ _ (C.inK _ _ ho)
  have hfc : ∀ x, fd.scope.names.lookup x = some .cell → ∃ c, (cellsFrom (s.heap.objs.size + 1) fd.scope.names []).lookup x = some c := fun x hx => cellsFrom_has _ _ _ (.inl hx)
  refine (codeAny_call_cells hA.room ho' hd (C.nolimit.keeps R.keep) (hcd.keeps R.keep) hb (hbind vs (hv.length.trans hlen)) hc (fun x hx => ?_) (fun s₁ X => ?_) co gen kind)
  · have hm : x.1 ∈ names := (List.of_mem_zip hx).1
    rcases kinds _ hm with q | q
    · exact .inl q
    · obtain ⟨c, e⟩ := hfc _ q; exact .inr ⟨q, by rw [e]; rfl⟩
  · obtain ⟨h₁, t₁, rfl⟩ := X.toInCall.same
    have k : ∀ b o, s.heap.get? b = some o → h₁.get? b = some o := X.toInCall.keep
    have kt : TupKeep s.heap h₁ := fun a o e _ => k a o e
    have R₁ : Ref C ν h₁ := ⟨fun b o e => k b o (R.keep b o e), fun a o e => by
      obtain ⟨ob, hob, _⟩ := (R.at_ a o e).get
      exact (R.at_ a o e).keep kt ((k _ _ hob).trans hob.symm), R.own⟩
    have nnone : ∀ b, s.heap.objs.size ≤ b → ν b = none := fun b hb => by
      cases q : ν b with
      | none => rfl
      | some o => exact absurd (R.at_ _ _ q).lt (Nat.not_lt.mpr hb)
    have ab : ∀ x c, (callEnvC fd s.heap.objs.size f).cells.lookup x = some c → s.heap.objs.size < c := fun x c e => X.above x c (mem_of_lookup e)
    have F₁ : Frm C (callEnvC fd s.heap.objs.size f) fd.scope (names.zip ds) ν h₁ := by
      refine ⟨rfl, kind, hg, hbl, ⟨_, X.toInCall.ns, fun x d e hk => ?_⟩, fun x c hc => ⟨_, X.cell x c hc, fun d e hk => ?_⟩, fun x d e => ?_, fun x hx => hfc x hx, nnone _ (Nat.le_refl _), fun x c e => nnone _ (Nat.le_of_lt (ab x c e)), fun x y c e1 e2 => ?_, hz, fun x c e => Nat.le_trans hz (Nat.le_of_lt (ab x c e))⟩
      · exact bindL_in _ names vs ds _ x d nd (hv.keep kt) e hk
      · exact bindC_in _ names vs ds _ x d nd (hv.keep kt) e hk
      · rcases kinds x (lk_zip_mem _ _ _ _ e) with q | q
        · exact .inl q
        · exact .inr ⟨.inl q, hfc x q⟩
      · exact name_of_addr X.apart (mem_of_lookup e1) (mem_of_lookup e2)
    refine wpAny_mono (h _ _ _ (hA.deeper _) R₁ F₁) ?_ fun _ _ x => x.elim
    rintro fl s' ⟨fl', l', ν', hf, R', F', x', q⟩
    obtain ⟨h2, t2, rfl⟩ := x'.eq
    have notFr : ∀ b o, s.heap.get? b = some o → ¬ fr (callEnvC fd s.heap.objs.size f) b := by
      rintro b o e (rfl | ⟨x, hx⟩)
      · exact Nat.lt_irrefl _ (Heap.lt_size e)
      · exact Nat.lt_irrefl _ (Nat.lt_trans (Heap.lt_size e) (ab x b hx))
    have X' : Fro no ν ν' s { s with heap := h2, toks := t2 } := ⟨⟨h2, t2, rfl⟩, fun b o e hn _ => x'.keep b o (k b o e) hn (notFr b o e), fun b o e hn => x'.alive b o (k b o e) hn, fun b o e hn => x'.dom b o (k b o e) hn⟩
    cases hf with
    | ret r => exact ⟨_, ν', r, R', X', q⟩
    | next => exact ⟨.none, ν', .none, R', X', q⟩
    | brk => exact ⟨.none, ν', .none, R', X', q⟩
    | cont => exact ⟨.none, ν', .none, R', X', q⟩

theorem TC_def {f : Addr} {names : List Str} {body : List Stmt} {ds : List D} {Q : D → Nu → Prop} (I : IsDef C f names body sc) (hlen : ds.length = names.length)
    (h : TSs C n sc body (names.zip ds) ν (fun fl _ ν' => match fl with | .ret d => Q d ν' | _ => Q .none ν')) : TC C (n + 1) (.ref f) ds ν Q := TC_of (TK_def I hlen h)

theorem evalArgs_any {M : Model} {A : Around} {E : Value → Shared → Prop} {s : Shared} {f : Value} {env : Env} {pos : Pos} {args : List Expr} {Q : Args → Shared → Prop} (hst : noSt args = true)
    (h : wpAny M A (spliced (backTo pos (starEach args env))) (fun vs s' => Q ⟨vs, []⟩ s') E s) : wpAny M A (evalArgs f true (backTo pos (starEach args env)) []) Q E s := by
  cases args with
  | nil =>
    unfold evalArgs
    show wpAny M A (spliced [] >>= _) Q E s
    refine wpAny_bind (wpAny_mono h (fun vs s' h' => ?_) fun _ _ x => x)
    refine wpAny_holding ?_
    exact wpAny_bind (wpAny_pure (wpAny_bind (wpAny_pure (wpAny_pure h'))))
  | cons e es =>
    simp only [noSt, Bool.and_eq_true, Bool.not_eq_true'] at hst
    rw [starEach_cons hst.1] at h ⊢
    exact Calls.evalArgs_plain h

/-- the call of a global def by its name -/
theorem TE_call {x : Str} {p pos : Pos} {args : List Expr} {f : Addr} {Q : D → Nu → Prop} (hk : sc.names.lookup x = some .globalImplicit) (hg : C.G x (.ref f)) (hf : ∃ o fd, C.K.lookup f = some o ∧ o.data = .func fd)
    (h : TL C n sc args l ν (fun ds ν₁ => TC C n (.ref f) ds ν₁ Q)) (hx : (x == ("__debug__" : Str)) = false) (hst : noSt args = true) : TE C n sc (.Call (.Name x p) args [] pos) l ν Q := by
  intro A env s hA R F
  show wpAny _ A (eval (.Name x p) env >>= fun f => callWith pos f [] (backTo pos (starEach args env)) (backToKw pos (keywordEach [] env))) _ _ s
  refine wpAny_bind (wpAny_mono (TE_glob (C := C) (n := n) (Q := fun d ν' => d = .val (.ref f) ∧ ν' = ν) hk hg ⟨rfl, rfl⟩ hx A env s hA R F) ?_ fun _ _ x => x)
  rintro v s₁ ⟨d, ν₁, hv, R₁, x₁, rfl, rfl⟩
  cases hv
  obtain ⟨o, fd, ho, hd⟩ := hf
  have F₁ := F.fro R x₁
  refine Calls.callWith_function (o := o) (fd := fd) (evalArgs_any hst (wpAny_mono (h A env s₁ pos hA R₁ F₁) ?_ fun _ _ x => x))
  rintro vs s₂ ⟨ds, ν₂, hvs, R₂, x₂, hq⟩
  exact ⟨⟨R₂.keep _ _ (C.inK _ _ ho), hd⟩, wpAny_mono (hq A s₂ vs hA R₂ (F₁.fro R₁ x₂).baseLe hvs) (fun _ _ p => (p.after x₂).after x₁) fun _ _ x => x⟩

/-- the call of a built-in function by its name -/
theorem TE_callB {x : Str} {p pos : Pos} {args : List Expr} {id : String} {Q : D → Nu → Prop} (hk : sc.names.lookup x = some .globalImplicit) (hg : C.G x (.builtin id))
    (h : TL C n sc args l ν (fun ds ν₁ => TC C n (.builtin id) ds ν₁ Q)) (hx : (x == ("__debug__" : Str)) = false) (hst : noSt args = true) : TE C n sc (.Call (.Name x p) args [] pos) l ν Q := by
  intro A env s hA R F
  show wpAny _ A (eval (.Name x p) env >>= fun f => callWith pos f [] (backTo pos (starEach args env)) (backToKw pos (keywordEach [] env))) _ _ s
  refine wpAny_bind (wpAny_mono (TE_glob (C := C) (n := n) (Q := fun d ν' => d = .val (.builtin id) ∧ ν' = ν) hk hg ⟨rfl, rfl⟩ hx A env s hA R F) ?_ fun _ _ x => x)
  rintro v s₁ ⟨d, ν₁, hv, R₁, x₁, rfl, rfl⟩
  cases hv
  have F₁ := F.fro R x₁
  refine Calls.callWith_builtin (noSt_any hst _ _) (evalArgs_any hst (wpAny_mono (h A env s₁ pos hA R₁ F₁) ?_ fun _ _ x => x))
  rintro vs s₂ ⟨ds, ν₂, hvs, R₂, x₂, hq⟩
  exact wpAny_mono (hq A s₂ vs hA R₂ (F₁.fro R₁ x₂).baseLe hvs) (fun _ _ p => (p.after x₂).after x₁) fun _ _ x => x
/-- the call of a built-in type by its name -/
theorem TE_callT {x : Str} {p pos : Pos} {args : List Expr} {T : String} {Q : D → Nu → Prop} (hk : sc.names.lookup x = some .globalImplicit) (hg : C.G x (.type T))
    (h : TL C n sc args l ν (fun ds ν₁ => TC C n (.type T) ds ν₁ Q)) (hx : (x == ("__debug__" : Str)) = false) (hst : noSt args = true) : TE C n sc (.Call (.Name x p) args [] pos) l ν Q := by
  intro A env s hA R F
  show wpAny _ A (eval (.Name x p) env >>= fun f => callWith pos f [] (backTo pos (starEach args env)) (backToKw pos (keywordEach [] env))) _ _ s
  refine wpAny_bind (wpAny_mono (TE_glob (C := C) (n := n) (Q := fun d ν' => d = .val (.type T) ∧ ν' = ν) hk hg ⟨rfl, rfl⟩ hx A env s hA R F) ?_ fun _ _ x => x)
  rintro v s₁ ⟨d, ν₁, hv, R₁, x₁, rfl, rfl⟩
  cases hv
  have F₁ := F.fro R x₁
  refine callWith_type (noSt_any hst _ _) (evalArgs_any hst (wpAny_mono (h A env s₁ pos hA R₁ F₁) ?_ fun _ _ x => x))
  rintro vs s₂ ⟨ds, ν₂, hvs, R₂, x₂, hq⟩
  exact wpAny_mono (hq A s₂ vs hA R₂ (F₁.fro R₁ x₂).baseLe hvs) (fun _ _ p => (p.after x₂).after x₁) fun _ _ x => x
end
end Mine

namespace Mine
open PySem PyProof.Rows

section
variable {C : Cx} {n : Nat} {sc : Scope} {l : Loc} {ν : Nu} {Q : D → Nu → Prop}

-- ints
theorem T2_add {a b : Int} (h : Q (.int (a + b)) ν) : T2 C n (binaryOp .Add) (.int a) (.int b) ν Q := by
  intro A s v u hA R hz hv hu; cases hv; cases hu; exact PyProof.Rows.add_int (postV_toks R (.int ..) h)
theorem T2_sub {a b : Int} (h : Q (.int (a - b)) ν) : T2 C n (binaryOp .Sub) (.int a) (.int b) ν Q := by
  intro A s v u hA R hz hv hu; cases hv; cases hu; exact PyProof.Rows.sub_int (postV_toks R (.int ..) h)
theorem T2_mul {a b : Int} (hm : IntMulOk a b) (h : Q (.int (a * b)) ν) : T2 C n (binaryOp .Mult) (.int a) (.int b) ν Q := by
  intro A s v u hA R hz hv hu; cases hv; cases hu; exact PyProof.Rows.mul_int (postV_toks R (.int ..) h) hm
theorem T2_div {a b : Int} (hb : b ≠ 0) (hb' : b.natAbs < 1073741824) (h : Q (.int (a.fdiv b)) ν) : T2 C n (binaryOp .FloorDiv) (.int a) (.int b) ν Q := by
  intro A s v u hA R hz hv hu; cases hv; cases hu; exact PyProof.Rows.floordiv_int hb (postV_toks R (.int ..) h) (.inl (PyProof.noPylong_small hb'))
theorem T2_mod {a b : Int} (hb : b ≠ 0) (h : Q (.int (a.fmod b)) ν) : T2 C n (binaryOp .Mod) (.int a) (.int b) ν Q := by
  intro A s v u hA R hz hv hu; cases hv; cases hu; exact PyProof.Rows.mod_int' hb (postV_toks R (.int ..) h)
theorem T2_pow {a b : Int} (hb : 0 ≤ b) (hs : (Builtin.Int.intBits a : Int) * b ≤ 2 ^ 27) (h : Q (.int (a ^ b.toNat)) ν) : T2 C n (binaryOp .Pow) (.int a) (.int b) ν Q := by
  intro A s v u hA R hz hv hu; cases hv; cases hu; exact PyProof.Rows.pow_int hb hs (postV_toks R (.int ..) h)
theorem T1_neg {a : Int} (h : Q (.int (-a)) ν) : T1 C n (unaryOp .USub) (.int a) ν Q := by
  intro A s v hA R hz hv; cases hv; exact PyProof.Rows.neg_int (postV_toks R (.int ..) h)
theorem T2_lt {a b : Int} (h : Q (.bool (decide (a < b))) ν) : T2 C n (compareOp .Lt) (.int a) (.int b) ν Q := by
  intro A s v u hA R hz hv hu; cases hv; cases hu; exact PyProof.Rows.lt_int (postV_here R (.bool _) h)
theorem T2_gt {a b : Int} (h : Q (.bool (decide (b < a))) ν) : T2 C n (compareOp .Gt) (.int a) (.int b) ν Q := by
  intro A s v u hA R hz hv hu; cases hv; cases hu; exact PyProof.Rows.gt_int (postV_here R (.bool _) h)
theorem T2_le {a b : Int} (h : Q (.bool (decide (a ≤ b))) ν) : T2 C n (compareOp .LtE) (.int a) (.int b) ν Q := by
  intro A s v u hA R hz hv hu; cases hv; cases hu; exact PyProof.Rows.le_int (postV_here R (.bool _) h)
theorem T2_ge {a b : Int} (h : Q (.bool (decide (b ≤ a))) ν) : T2 C n (compareOp .GtE) (.int a) (.int b) ν Q := by
  intro A s v u hA R hz hv hu; cases hv; cases hu; exact PyProof.Rows.ge_int (postV_here R (.bool _) h)
theorem T2_eq {a b : Int} (h : Q (.bool (decide (a = b))) ν) : T2 C n (compareOp .Eq) (.int a) (.int b) ν Q := by
  intro A s v u hA R hz hv hu; cases hv; cases hu; exact PyProof.Rows.eq_int (postV_here R (.bool _) (by rw [show (a == b) = decide (a = b) from rfl]; exact h))
theorem T2_ne {a b : Int} (h : Q (.bool (decide (a ≠ b))) ν) : T2 C n (compareOp .NotEq) (.int a) (.int b) ν Q := by
  intro A s v u hA R hz hv hu; cases hv; cases hu
  refine PyProof.Rows.ne_int (postV_here R (.bool _) ?_)
  rw [show (a != b) = decide (a ≠ b) by simp [bne, Bool.beq_eq_decide_eq]]; exact h
-- strs
theorem T2_addS {x y : Str} (hs : x.length + y.length ≤ sizeLine) (h : Q (.str (x ++ y)) ν) : T2 C n (binaryOp .Add) (.str x) (.str y) ν Q := by
  intro A s v u hA R hz hv hu; cases hv; cases hu; exact PyProof.Rows.add_str (fun t tk => postV_toks R (.str ..) h) hs
theorem T2_eqS {x y : Str} (h : Q (.bool (decide (x = y))) ν) : T2 C n (compareOp .Eq) (.str x) (.str y) ν Q := by
  intro A s v u hA R hz hv hu; cases hv; cases hu; exact PyProof.Rows.eq_str (postV_here R (.bool _) (by rw [show (x == y) = decide (x = y) by simp [Bool.beq_eq_decide_eq]]; exact h))
theorem T2_neS {x y : Str} (h : Q (.bool (decide (x ≠ y))) ν) : T2 C n (compareOp .NotEq) (.str x) (.str y) ν Q := by
  intro A s v u hA R hz hv hu; cases hv; cases hu
  refine PyProof.Rows.ne_str (postV_here R (.bool _) ?_)
  rw [show (x != y) = decide (x ≠ y) by simp [bne, Bool.beq_eq_decide_eq]]; exact h
-- None
def D.isNone : D → Bool
  | .none => true
  | _ => false
theorem T2_isNotNone {d : D} (hd : ∀ v, d ≠ .val v) (h : Q (.bool (!d.isNone)) ν) : T2 C n (compareOp .IsNot) d .none ν Q := by
  intro A s v u hA R hz hv hu; cases hu
  refine isNot_none (postV_here R (.bool _) ?_)
  cases hv <;> first | exact h | exact absurd rfl (hd _)

-- subscripts
def isSl : Expr → Bool
  | .Slice .. => true
  | _ => false
theorem subscripted_plain {slice : Expr} (h : isSl slice = false) (o i : Value) : subscripted slice false o i = operate [o, i] (getItem o i) := by
  unfold subscripted
  cases slice <;> first | rfl | cases h
theorem TE_sub {value slice : Expr} {pos} (h : TE C n sc value l ν (fun o ν₁ => TE C n sc slice l ν₁ (fun i ν₂ => T2 C n (subscriptTail value slice) o i ν₂ Q))) : TE C n sc (.Subscript value slice pos) l ν Q := by
  intro A env s hA R F
  refine Subscript_ (wpAny_mono (h A env s hA R F) ?_ fun _ _ x => x)
  rintro v s₁ ⟨d, ν₁, hv, R₁, x₁, hq⟩
  refine wpAny_mono (hq A env s₁ hA R₁ (F.fro R x₁)) ?_ fun _ _ x => x
  rintro u s₂ ⟨e, ν₂, hu, R₂, x₂, hq2⟩
  exact wpAny_mono (hq2 A s₂ v u hA R₂ ((F.fro R x₁).fro R₁ x₂).baseLe (hv.fro R₁ x₂) hu) (fun _ _ p => (p.after x₂).after x₁) fun _ _ x => x
theorem T2_itemL {value slice : Expr} {a : Addr} {k : Int} {ds : List D} {d : D} (hs : seqOf (ν a) = some ds) (h0 : 0 ≤ k) (hk : k < 2 ^ 63) (hd : ds[k.toNat]? = some d) (h : Q d ν) (hsl : isSl slice = false) :
    T2 C n (subscriptTail value slice) (.ref a) (.int k) ν Q := by
  intro A s v u hA R hz hv hu; cases hv; cases hu
  obtain ⟨vs, m, e, r⟩ := R.seq hs
  obtain ⟨x, hx, rx⟩ := r.get hd
  have hl : s.heap.IsList a vs.toArray := ⟨_, e, rfl, m, rfl⟩
  exact tail_any hl.typeIs slot_list_getitem.lookup (wpAny_getItem_list hl h0 hk (by simpa using hx) (postV_here R rx h)) (subscripted_plain hsl _ _)
theorem T2_itemT {value slice : Expr} {k : Int} {ds : List D} {d : D} (h0 : 0 ≤ k) (hk : k < 2 ^ 63) (hd : ds[k.toNat]? = some d) (h : Q d ν) (hsl : isSl slice = false) :
    T2 C n (subscriptTail value slice) (.tup ds) (.int k) ν Q := by
  intro A s v u hA R hz hv hu
  cases hv with
  | tup e r =>
  cases hu
  rename_i a vs m _
  obtain ⟨x, hx, rx⟩ := r.get hd
  have ht : IsTup s.heap a vs.toArray := ⟨_, e, rfl, m, rfl⟩
  have hlt : k.toNat < vs.length := (List.getElem?_eq_some_iff.mp hx).1
  have hj : seqIndex? k vs.toArray.size = some k.toNat := by
    unfold seqIndex?
    simp only [List.size_toArray]
    rw [if_neg (show ¬ k < 0 by omega), if_pos (by simp only [Bool.and_eq_true, decide_eq_true_eq]; omega)]
  exact tail_any ht.typeIs slot_tuple_getitem.lookup (getItem_tuple ht (by omega) hk hj (by simpa using hx) (postV_here R rx h)) (subscripted_plain hsl _ _)
theorem T2_itemD {value slice : Expr} {a : Addr} {k : Int} {es : List (Int × D)} {d : D} (hs : ν a = some (.dI es)) (hd : valAt es k = some d) (h : Q d ν) (hsl : isSl slice = false) :
    T2 C n (subscriptTail value slice) (.ref a) (.int k) ν Q := by
  intro A s v u hA R hz hv hu; cases hv; cases hu
  rename_i t
  obtain ⟨kvs, hD, hK⟩ := R.at_ a _ hs
  obtain ⟨x, hx, rx⟩ := hK.at_some hd
  exact tail_any hD.typeIs slot_dict_getitem.lookup (wpAny_getItem_of (knd := intKind C.prog C.w) (k := k) (by simp [intKind, Value.isInt]) hD.mapOf hx (postV_toks R rx h)) (subscripted_plain hsl _ _)

-- truth
theorem TT_int {a : Int} {Q : Bool → Nu → Prop} (h : Q (decide (a ≠ 0)) ν) : TT C n (.int a) ν Q := by
  intro A s v hA R hz hv; cases hv
  refine truthy_int (postB_here R ?_)
  rw [show (a != 0) = decide (a ≠ 0) by simp [bne, Bool.beq_eq_decide_eq]]; exact h
theorem TT_none {Q : Bool → Nu → Prop} (h : Q false ν) : TT C n .none ν Q := by
  intro A s v hA R hz hv; cases hv; exact fun _ _ _ => postB_here R h
end
end Mine

namespace Mine
open PySem PyProof.Rows

section
variable {C : Cx} {n : Nat} {sc : Scope} {l : Loc} {ν : Nu} {Q : D → Nu → Prop}

/-- an object of the abstract heap is changed -/
theorem Ref.change {h h' : Heap} {a : Addr} {o₀ o : AObj} (R : Ref C ν h) (e : ν a = some o₀) (hn : ∀ ds, o₀ ≠ .scr ds) (sb : Heap.SameBut a h h') (hk : TupKeep h h' → ObjAt C h' a o) : Ref C (upd ν a o) h' ∧ TupKeep h h' := by
  obtain ⟨ob, hob, hi⟩ := (R.at_ a o₀ e).get
  have kt : TupKeep h h' := fun b o' e' hI => (sb.2 b fun q => by subst q; rw [hob] at e'; cases e'; exact hi hI).trans e'
  have hb := R.own a o₀ e hn
  refine ⟨⟨fun b o' e' => (sb.2 b (Nat.ne_of_lt (Nat.lt_of_lt_of_le (Heap.lt_size e') hb))).trans (R.keep b o' e'), fun b o' e' => ?_, fun b o' e' hs => ?_⟩, kt⟩
  · unfold upd at e'
    split at e'
    · rename_i q; subst q; cases e'; exact hk kt
    · rename_i q; exact (R.at_ b o' e').keep kt (sb.2 b q)
  · unfold upd at e'
    split at e'
    · rename_i q; subst q; exact hb
    · exact R.own b o' e' hs
theorem Fro.change {own : Addr → Prop} {s : Shared} {h' : Heap} {t : Nat} {a : Addr} {o₀ o : AObj} (e : ν a = some o₀) (sb : Heap.SameBut a s.heap h') : Fro own ν (upd ν a o) s { s with heap := h', toks := t } := by
  have ne : ∀ b, ν b = none → b ≠ a := fun b hb q => by rw [q, e] at hb; cases hb
  exact ⟨⟨h', t, rfl⟩, fun b o' e' hn _ => (sb.2 b (ne b hn)).trans e', fun b o' e' hn => ⟨o', (sb.2 b (ne b hn)).trans e'⟩, fun b o' e' hn => by unfold upd; rw [if_neg (ne b hn)]; exact hn⟩
theorem mapSeq_lst (f : Array Value → Array Value) (vs : List Value) (m : Nat) : ∃ m', Obj.mapSeq f (lstObj vs m) = lstObj (f vs.toArray).toList m' := ⟨_, by unfold lstObj Obj.mapSeq; simp; rfl⟩
/-- a list of the abstract heap changed in place -/
theorem post_list {s : Shared} {a : Addr} {ds es : List D} {vs : List Value} {m : Nat} {f : Array Value → Array Value} {v : Value} {d : D} (R : Ref C ν s.heap) (e : ν a = some (.lst ds)) (hl : s.heap.get? a = some (lstObj vs m)) (r : RVs s.heap (f vs.toArray).toList es)
    (hv : RV s.heap v d) (h : Q d (upd ν a (.lst es))) {t : Nat} : PostV C ν s Q v { s with heap := s.heap.update a (Obj.mapSeq f), toks := t } := by
  have sb := Heap.SameBut.update s.heap a (Obj.mapSeq f)
  obtain ⟨m', em⟩ := mapSeq_lst f vs m
  have hg : (s.heap.update a (Obj.mapSeq f)).get? a = some (lstObj (f vs.toArray).toList m') := by rw [← em]; exact Heap.get?_update_self _ hl (by rw [em]; rfl)
  obtain ⟨R', kt⟩ := R.change (o := .lst es) e (fun _ => nofun) sb fun kt => ⟨_, m', hg, r.keep kt⟩
  exact ⟨d, _, hv.keep kt, R', Fro.change e sb, h⟩

-- methods of built-in types
theorem TE_meth {o : Expr} {name : Str} {apos pos : Pos} {args : List Expr} (f : D → Nu → Option Value)
    (hm : ∀ (A : Around) (s : Shared) (v : Value) (d : D) (ν : Nu) (g : Value) (pl : Sem Bool) (Q : Value × List Value → Shared → Prop) (E : Value → Shared → Prop), f d ν = some g → Ref C ν s.heap → RV s.heap v d → Q (g, [v]) s → wpAny (model C.prog C.w) A (getMethod v name pl) Q E s)
    (hk : ∀ (d : D) (ν : Nu) (g : Value) (h : Heap), f d ν = some g → (∀ b o, C.base.get? b = some o → h.get? b = some o) → ∃ k, (k = Keeper.frame ∨ k = Keeper.machine) ∧ ∀ (A : Around) (s : Shared) (Q : Keeper → Shared → Prop) (E : Value → Shared → Prop), (∀ b o, C.base.get? b = some o → s.heap.get? b = some o) → Q k s → wpAny (model C.prog C.w) A (keeperOf g) Q E s)
    (h : TE C n sc o l ν (fun d ν₁ => ∃ g, f d ν₁ = some g ∧ TL C n sc args l ν₁ (fun ds ν₂ => TC C n g (d :: ds) ν₂ Q)))
    (ha : ∀ env whole, attributeBase o name env whole = whole) (hst : noSt args = true) (hlen : args.length < 30) (hp : (apos.endLine == pos.line) = true) : TE C n sc (.Call (.Attribute o name apos) args [] pos) l ν Q := by
  intro A env s hA R F
  show wpAny _ A (attributeBase o name env (eval o env) >>= fun ov => standAt apos.atName >>= fun _ => methodCall o name apos pos env ov (args.length + 0) (backTo pos (starEach args env)) (backToKw pos (keywordEach [] env))) _ _ s
  rw [ha]
  refine wpAny_bind (wpAny_mono (h A env s hA R F) ?_ fun _ _ x => x)
  rintro v s₁ ⟨d, ν₁, hv, R₁, x₁, g, hg, hq⟩
  have F₁ := F.fro R x₁
  refine wpAny_bind (wpAny_standAt ?_)
  have few : methodCallForm (args.length + 0) (backTo pos (starEach args env)) [] = true := by
    have := noSt_any hst pos env
    unfold methodCallForm
    simp only [List.all_nil, Bool.and_true, List.isEmpty_nil, if_true, Nat.add_zero, Bool.and_eq_true, decide_eq_true_eq]
    refine ⟨?_, by omega⟩
    rw [List.all_eq_not_any_not]
    simpa using this
  unfold methodCall
  show wpAny _ A (holding [v] (calleeOf (methodCallForm (args.length + 0) (backTo pos (starEach args env)) []) o env v name) >>= fun p => methodCallPos (methodCallForm (args.length + 0) (backTo pos (starEach args env)) []) o env apos pos >>= fun cp => callWith cp p.1 p.2 (backTo pos (starEach args env)) []) _ _ s₁
  rw [few]
  refine wpAny_bind (wpAny_holding (hm A s₁ v d ν₁ g _ _ _ hg R₁ hv ?_))
  have hpos : methodCallPos true o env apos pos = pure pos := by unfold methodCallPos; rw [hp]; rfl
  rw [hpos]
  refine wpAny_bind (wpAny_pure ?_)
  unfold callWith
  refine wpAny_bind (wpAny_holding (evalArgs_any hst (wpAny_mono (hq A env s₁ pos hA R₁ F₁) ?_ fun _ _ x => x)))
  rintro vs s₂ ⟨ds, ν₂, hvs, R₂, x₂, hq2⟩
  refine wpAny_bind (wpAny_standAt ?_)
  obtain ⟨k, hk', hkp⟩ := hk d ν₁ g s₂.heap hg R₂.keep
  have F₂ := F₁.fro R₁ x₂
  have main : wpAny (model C.prog C.w) A (call g ([v] ++ vs)) (PostV C ν s Q) nev s₂ := wpAny_mono (hq2 A s₂ (v :: vs) hA R₂ F₂.baseLe (.cons (hv.fro R₁ x₂) hvs)) (fun _ _ p => (p.after x₂).after x₁) fun _ _ x => x
  have tail : ∀ {t : Sem Value}, wpAny (model C.prog C.w) A t (PostV C ν s Q) nev s₂ → wpAny (model C.prog C.w) A (t >>= fun r => holding [r] point >>= fun _ => pure r) (PostV C ν s Q) nev s₂ :=
    fun ht => wpAny_bind (wpAny_mono ht (fun r s₂ hr => wpAny_bind (wpAny_holding (wpAny_point (wpAny_pure hr)))) fun _ _ x => x)
  have pl := noSt_any hst pos env
  simp only [pl, List.any_nil, Bool.or_false]
  refine wpAny_bind (hkp A s₂ _ _ R₂.keep ?_)
  rcases hk' with rfl | rfl
  · dsimp only
    split
    · exact tail main
    · exact tail (by unfold callMarked; exact Calls.wpAny_keep main)
  · exact tail main

/-- a method of list -/
structure LM (name : Str) (id : String) : Prop where
  look : typeLookup (.type "list") name = pure (some (.builtin id))
  type : typeOf (.builtin id) = pure (.type "method_descriptor")
def isL : D → Nu → Option Addr
  | .ref a, ν => match ν a with
    | some (.lst _) => some a
    | _ => none
  | _, _ => none
theorem isL_some {d : D} {a : Addr} (h : isL d ν = some a) : d = .ref a ∧ ∃ ds, ν a = some (.lst ds) := by
  unfold isL at h
  split at h
  · split at h
    · rename_i q; cases h; exact ⟨rfl, _, q⟩
    · cases h
  · cases h
theorem keep_builtin {id : String} (h : Heap) : ∃ k, (k = Keeper.frame ∨ k = Keeper.machine) ∧ ∀ (A : Around) (s : Shared) (Q : Keeper → Shared → Prop) (E : Value → Shared → Prop), (∀ b o, C.base.get? b = some o → s.heap.get? b = some o) → Q k s → wpAny (model C.prog C.w) A (keeperOf (.builtin id)) Q E s :=
  ⟨.machine, .inr rfl, fun _ _ _ _ _ q => wpAny_pure q⟩
theorem TE_methL {o : Expr} {name : Str} {id : String} {apos pos : Pos} {args : List Expr} (M : LM name id)
    (h : TE C n sc o l ν (fun d ν₁ => ∃ a, isL d ν₁ = some a ∧ TL C n sc args l ν₁ (fun ds ν₂ => TC C n (.builtin id) (d :: ds) ν₂ Q)))
    (ha : ∀ env whole, attributeBase o name env whole = whole) (hst : noSt args = true) (hlen : args.length < 30) (hp : (apos.endLine == pos.line) = true) : TE C n sc (.Call (.Attribute o name apos) args [] pos) l ν Q := by
  refine TE_meth (fun d ν => (isL d ν).map fun _ => .builtin id) ?_ ?_ (TE_mono h fun d ν' ⟨a, e, q⟩ => ⟨.builtin id, by rw [e]; rfl, q⟩) ha hst hlen hp
  · intro A s v d ν g pl Q E e R hv q
    obtain ⟨a, e1, e2⟩ := Option.map_eq_some_iff.mp e
    subst e2
    obtain ⟨rfl, ds, hd⟩ := isL_some e1
    cases hv
    obtain ⟨vs, m, ho, _⟩ := R.at_ a _ hd
    have hT : s.TypeIs (.ref a) "list" := ⟨_, ho, rfl⟩
    unfold getMethod
    refine wpAny_bind (wpAny_specialOf hT list_getattribute ?_)
    show wpAny _ A (if (Manifest.canonical "list.__getattribute__" != "object.__getattribute__") = true then _ else _) Q E s
    rw [canon_list_getattribute, if_neg Bool.false_ne_true]
    refine wpAny_bind (wpAny_specialOf hT list_getattr_none ?_)
    refine wpAny_bind (wpAny_specialOf hT M.look ?_)
    refine wpAny_bind (wpAny_of_eq M.type ?_)
    refine wpAny_bind (wpAny_load ho ?_)
    exact wpAny_bind (wpAny_rule (wpAny_pure q))
  · intro d ν g h e _
    obtain ⟨a, e1, e2⟩ := Option.map_eq_some_iff.mp e
    subst e2
    exact keep_builtin h
end
end Mine

namespace Mine
open PySem PyProof.Rows

section
variable {C : Cx} {n : Nat} {sc : Scope} {l : Loc} {ν : Nu} {Q : D → Nu → Prop}

theorem LM_append : LM "append" "list.append" := ⟨slot_list_append.lookup, type_list_append⟩
theorem LM_pop : LM "pop" "list.pop" := ⟨F.slot_list_pop.lookup, by show builtinType _ = _; rw [builtinType_eq_fast]; kernel_rfl⟩
theorem LM_clear : LM "clear" "list.clear" := ⟨F.slot_list_clear.lookup, by show builtinType _ = _; rw [builtinType_eq_fast]; kernel_rfl⟩
theorem LM_insert : LM "insert" "list.insert" := ⟨F.slot_list_insert.lookup, by show builtinType _ = _; rw [builtinType_eq_fast]; kernel_rfl⟩
theorem LM_reverse : LM "reverse" "list.reverse" := ⟨F.slot_list_reverse.lookup, by show builtinType _ = _; rw [builtinType_eq_fast]; kernel_rfl⟩

theorem TC_append {a : Addr} {ds : List D} {d : D} (e : ν a = some (.lst ds)) (hz : ds.length ≤ 100000) (h : Q .none (upd ν a (.lst (ds ++ [d])))) : TC C n (.builtin "list.append") [.ref a, d] ν Q := by
  intro A s vs hA R hb hv
  cases hv with | cons hv hr =>
  cases hr with | cons hx hr =>
  cases hr; cases hv
  rename_i x
  obtain ⟨us, m, ho, r⟩ := R.at_ a _ e
  refine call_meets slot_list_append ⟨_, ho, rfl⟩ entry_list_append (args_list_append _ _) (list_append a us.toArray m x (by rw [sizeLine_eq]; simp [r.length]; omega)) ⟨ho, ?_⟩
  exact post_list R e ho (f := fun x_1 => x_1.push x) (by simpa using r.append (.cons hx .nil)) .none h
theorem TC_pop0 {a : Addr} {ds : List D} {d : D} (e : ν a = some (.lst (d :: ds))) (hz : ds.length ≤ 100000) (h : Q d (upd ν a (.lst ds))) : TC C n (.builtin "list.pop") [.ref a, .int 0] ν Q := by
  intro A s vs hA R hb hv
  cases hv with | cons hv hr =>
  cases hr with | cons hx hr =>
  cases hr; cases hv; cases hx
  rename_i t
  obtain ⟨us, m, ho, r⟩ := R.at_ a _ e
  cases r with | cons rv rr =>
  rename_i u us
  refine call_meets F.slot_list_pop ⟨_, ho, rfl⟩ F.entry_list_pop (F.args_list_pop_2 _ _) (MeetsSeq.list_pop_at a (u :: us).toArray m 0 t 0 u (by decide) (by simp [seqIndex?]) (by simp) (by rw [sizeLine_eq]; simp [rr.length]; omega)) ⟨ho, ?_⟩
  exact post_list R e ho (f := fun xs => xs.eraseIdxIfInBounds 0) (by simpa [Array.eraseIdxIfInBounds] using rr) rv h
theorem TC_clear {a : Addr} {ds : List D} (e : ν a = some (.lst ds)) (hz : ds.length ≤ 100000) (h : Q .none (upd ν a (.lst []))) : TC C n (.builtin "list.clear") [.ref a] ν Q := by
  intro A s vs hA R hb hv
  cases hv with | cons hv hr =>
  cases hr; cases hv
  obtain ⟨us, m, ho, r⟩ := R.at_ a _ e
  refine call_meets F.slot_list_clear ⟨_, ho, rfl⟩ F.entry_list_clear (F.args_list_clear_1 _) (AutoSeq1.list_clear_list_0 a us.toArray m (by rw [sizeLine_eq]; simp [r.length]; omega)) ⟨ho, ?_⟩
  exact post_list R e ho (f := fun _ => #[]) .nil .none h
theorem TC_reverse {a : Addr} {ds : List D} (e : ν a = some (.lst ds)) (hz : ds.length ≤ 100000) (h : Q .none (upd ν a (.lst ds.reverse))) : TC C n (.builtin "list.reverse") [.ref a] ν Q := by
  intro A s vs hA R hb hv
  cases hv with | cons hv hr =>
  cases hr; cases hv
  obtain ⟨us, m, ho, r⟩ := R.at_ a _ e
  refine call_meets F.slot_list_reverse ⟨_, ho, rfl⟩ F.entry_list_reverse (F.args_list_reverse_1 _) (AutoSeq1.list_reverse_list_0 a us.toArray m (by rw [sizeLine_eq]; simp [r.length]; omega)) ⟨ho, ?_⟩
  exact post_list R e ho (f := fun x => x.reverse) (by simpa using r.reverse) .none h
theorem TC_insert {a : Addr} {ds : List D} {k : Int} {d : D} (e : ν a = some (.lst ds)) (hz : ds.length ≤ 100000) (h0 : 0 ≤ k) (hk : k < 2 ^ 62) (h : Q .none (upd ν a (.lst (ds.take k.toNat ++ d :: ds.drop k.toNat)))) : TC C n (.builtin "list.insert") [.ref a, .int k, d] ν Q := by
  intro A s vs hA R hb hv
  cases hv with | cons hv hr =>
  cases hr with | cons hx hr =>
  cases hr with | cons hy hr =>
  cases hr; cases hv; cases hx
  rename_i y t
  obtain ⟨us, m, ho, r⟩ := R.at_ a _ e
  refine call_meets F.slot_list_insert ⟨_, ho, rfl⟩ F.entry_list_insert (F.args_list_insert_3 _ _ _) (AutoSeq1.list_insert_list_int_val_1 a us.toArray m k t y (by simp [Builtin.List.listFitsIndex]; omega) (by rw [sizeLine_eq]; simp [r.length]; omega)) ⟨ho, ?_⟩
  refine post_list R e ho (f := fun xs => have k := if k < 0 then (k + (xs.size : Int)).toNat else min k.toNat xs.size; (xs.extract 0 k).push y ++ xs.extract k) ?_ .none h
  have e1 : (if k < 0 then (k + (us.toArray.size : Int)).toNat else min k.toNat us.toArray.size) = min k.toNat us.length := by rw [if_neg (by omega)]; simp
  simp only [e1]
  have e2 : ((us.toArray.extract 0 (min k.toNat us.length)).push y ++ us.toArray.extract (min k.toNat us.length)).toList = us.take k.toNat ++ y :: us.drop k.toNat := by
    simp only [Array.toList_append, Array.toList_push, Array.toList_extract, List.extract_eq_drop_take, Nat.sub_zero, List.drop_zero]
    rcases Nat.le_total k.toNat us.length with q | q
    · simp [Nat.min_eq_left q, List.append_assoc]
      rw [List.take_of_length_le (by simp)]
    · simp [Nat.min_eq_right q, List.append_assoc, List.drop_of_length_le q, List.take_of_length_le q]
  rw [e2]
  exact (r.take _).append (.cons hy (r.drop _))

-- len
theorem TC_lenL {a : Addr} {ds : List D} (e : seqOf (ν a) = some ds) (hz : ds.length < 2 ^ 63) (h : Q (.int ds.length) ν) : TC C n (.builtin "len") [.ref a] ν Q := by
  intro A s vs hA R hb hv
  cases hv with | cons hv hr =>
  cases hr; cases hv
  obtain ⟨us, m, ho, r⟩ := R.seq e
  refine Calls.call_len_list (items := us.toArray) ⟨_, ho, rfl, m, rfl⟩ (by simp [r.length]; omega) (postV_toks R ?_ h)
  rw [show ((us.toArray.size : Nat) : Int) = (ds.length : Int) by simp [r.length]]
  exact .int _ _
theorem TC_lenT {ds : List D} (hz : ds.length < 2 ^ 63) (h : Q (.int ds.length) ν) : TC C n (.builtin "len") [.tup ds] ν Q := by
  intro A s vs hA R hb hv
  cases hv with | cons hv hr =>
  cases hr
  cases hv with | tup ho r =>
  rename_i a us m
  refine len_tuple (items := us.toArray) ⟨_, ho, rfl, m, rfl⟩ (by simp [r.length]; omega) (postV_toks R ?_ h)
  rw [show ((us.toArray.size : Nat) : Int) = (ds.length : Int) by simp [r.length]]
  exact .int _ _
theorem TC_lenS {x : Str} (hz : x.length < 2 ^ 63) (h : Q (.int x.length) ν) : TC C n (.builtin "len") [.str x] ν Q := by
  intro A s vs hA R hb hv
  cases hv with | cons hv hr =>
  cases hr; cases hv
  exact P.len_str (by omega) (postV_toks R (.int _ _) h)
theorem TC_lenDI {a : Addr} {es : List (Int × D)} (e : ν a = some (.dI es)) (hm : (a == sysModules) = false) (hz : es.length < 2 ^ 63) (h : Q (.int es.length) ν) : TC C n (.builtin "len") [.ref a] ν Q := by
  intro A s vs hA R hb hv
  cases hv with | cons hv hr =>
  cases hr; cases hv
  obtain ⟨kvs, hD, hK⟩ := R.at_ a _ e
  refine call_len_dict hm hD (by rw [hK.length]; omega) (postV_toks R ?_ h)
  rw [hK.length]; exact .int _ _
theorem TC_lenDS {a : Addr} {es : List (Str × D)} (e : ν a = some (.dS es)) (hm : (a == sysModules) = false) (hz : es.length < 2 ^ 63) (h : Q (.int es.length) ν) : TC C n (.builtin "len") [.ref a] ν Q := by
  intro A s vs hA R hb hv
  cases hv with | cons hv hr =>
  cases hr; cases hv
  obtain ⟨kvs, hD, hK⟩ := R.at_ a _ e
  refine call_len_dict hm hD (by rw [hK.length]; omega) (postV_toks R ?_ h)
  rw [hK.length]; exact .int _ _

-- isinstance
theorem TC_isi {d : D} {T : String} (hd : ∀ (s : Shared) (v : Value), Ref C ν s.heap → RV s.heap v d → s.TypeIs v T) (hty : typeOf (.type T) = pure (.type "type")) (hsub : isSubtype (.type T) (.type T) = pure true) (h : Q (.bool true) ν) : TC C n (.builtin "isinstance") [d, .val (.type T)] ν Q := by
  intro A s vs hA R hb hv
  cases hv with | cons hv hr =>
  cases hr with | cons hx hr =>
  cases hr; cases hx
  exact call_isinstance (isinstance_true hty hsub) ⟨hd s _ R hv, postV_here R (.bool true) h⟩
theorem TC_isi_int {i : Int} (h : Q (.bool true) ν) : TC C n (.builtin "isinstance") [.int i, .val (.type "int")] ν Q := TC_isi (fun s v _ hv => by cases hv; exact typeIs_int s i _) F.isi_meta_int F.isi_self_int h
theorem TC_isi_str {x : Str} (h : Q (.bool true) ν) : TC C n (.builtin "isinstance") [.str x, .val (.type "str")] ν Q := TC_isi (fun s v _ hv => by cases hv; exact (rfl : _)) F.isi_meta_str F.isi_self_str h
theorem TC_isi_tup {ds : List D} (h : Q (.bool true) ν) : TC C n (.builtin "isinstance") [.tup ds, .val (.type "tuple")] ν Q := TC_isi (fun s v _ hv => by cases hv with | tup e _ => exact ⟨_, e, rfl⟩) F.isi_meta_tuple F.isi_self_tuple h
theorem TC_isi_lst {a : Addr} {ds : List D} (e : ν a = some (.lst ds)) (h : Q (.bool true) ν) : TC C n (.builtin "isinstance") [.ref a, .val (.type "list")] ν Q := TC_isi (fun s v R hv => by cases hv; obtain ⟨_, _, e, _⟩ := R.at_ a _ e; exact ⟨_, e, rfl⟩) F.isi_meta_list F.isi_self_list h
theorem TC_isi_int_bool {i : Int} (h : Q (.bool false) ν) : TC C n (.builtin "isinstance") [.int i, .val (.type "bool")] ν Q := by
  intro A s vs hA R hb hv
  cases hv with | cons hv hr =>
  cases hr with | cons hx hr =>
  cases hr; cases hx; cases hv
  exact call_isinstance (isinstance_false_int (by decide) F.isi_meta_bool (by rw [isSubtype_type]; kernel_rfl)) (postV_toks R (.bool false) h)

-- range, list, +
theorem TC_range {m : Int} (h : Q (.rng m) ν) : TC C n (.type "range") [.int m] ν Q := by
  intro A s vs hA R hb hv
  cases hv with | cons hv hr =>
  cases hr; cases hv
  exact call_range_1 ⟨.rng m, ν, .rng (Heap.get?_push_size _ rfl), R.push _, Fro.push _ _, h⟩
theorem Ref.keeps {h h' : Heap} (R : Ref C ν h) (k : ∀ b o, h.get? b = some o → h'.get? b = some o) : Ref C ν h' :=
  ⟨fun b o e => k b o (R.keep b o e), fun a o e => by
    obtain ⟨ob, hob, _⟩ := (R.at_ a o e).get
    exact (R.at_ a o e).keep (fun b o e _ => k b o e) ((k _ _ hob).trans hob.symm), R.own⟩
/-- a new object comes at an address that was free; all else stands -/
theorem post_new {s : Shared} {a : Addr} {o : AObj} {h' : Heap} {t : Nat} (R : Ref C ν s.heap) (hn : s.heap.get? a = none) (hν : ν a = none) (hb : C.base.objs.size ≤ a) (k : ∀ b o, s.heap.get? b = some o → h'.get? b = some o) (ho : ObjAt C h' a o) (h : Q (.ref a) (upd ν a o)) :
    PostV C ν s Q (.ref a) { s with heap := h', toks := t } := by
  have R' := R.keeps k
  have ne : ∀ b ob, s.heap.get? b = some ob → b ≠ a := fun b ob e q => by rw [q, hn] at e; cases e
  refine ⟨.ref a, upd ν a o, .ref a, ⟨R'.keep, fun b o' e => ?_, fun b o' e hs => ?_⟩, ⟨⟨h', t, rfl⟩, fun b o e _ _ => k b o e, fun b o e _ => ⟨o, k b o e⟩, fun b ob e hn' => ?_⟩, h⟩
  · unfold upd at e; split at e
    · rename_i q; subst q; cases e; exact ho
    · exact R'.at_ b o' e
  · unfold upd at e; split at e
    · rename_i q; subst q; exact hb
    · exact R'.own b o' e hs
  · unfold upd; rw [if_neg (ne b ob e)]; exact hn'
theorem TC_list {a : Addr} {ds : List D} (e : seqOf (ν a) = some ds) (hz : ds.length ≤ 100000) (h : ∀ r, ν r = none → Q (.ref r) (upd ν r (.lst ds))) : TC C n (.type "list") [.ref a] ν Q := by
  intro A s vs hA R hb hv
  cases hv with | cons hv hr =>
  cases hr; cases hv
  obtain ⟨us, m, ho, r⟩ := R.seq e
  refine call_list_seq a (items := us.toArray) (.inl rfl) ho rfl rfl (fun h' c k hg => ?_) (by rw [sizeLine_eq]; simp [r.length]; omega)
  exact post_new (o := .lst ds) R (getNone s) R.fresh hb k ⟨us, c, hg, r.keep fun b o e _ => k b o e⟩ (h _ R.fresh)
theorem T2_addL {a b : Addr} {xs ys : List D} (ha : seqOf (ν a) = some xs) (hb : seqOf (ν b) = some ys) (hz : xs.length + ys.length ≤ 100000) (h : ∀ r, ν r = none → Q (.ref r) (upd ν r (.lst (xs ++ ys)))) : T2 C n (binaryOp .Add) (.ref a) (.ref b) ν Q := by
  intro A s v u hA R hb' hv hu
  cases hv; cases hu
  obtain ⟨us, m, ho, r⟩ := R.seq ha
  obtain ⟨ws, m', ho', r'⟩ := R.seq hb
  refine P.add_list (items := us.toArray) (items2 := ws.toArray) ho ho' ?_ (by rw [sizeLine_eq]; simp [r.length, r'.length]; omega)
  refine post_new (o := .lst (xs ++ ys)) R (getNone s) R.fresh hb' (fun b o e => Heap.get?_push_of_some _ e) ⟨us ++ ws, 0, ?_, (r.append r').keep (TupKeep.push _)⟩ (h _ R.fresh)
  rw [Heap.get?_push_size _ rfl]; unfold lstObj; simp

-- slices
def TP (C : Cx) (n : Nat) (sc : Scope) (e : Option Expr) (l : Loc) (ν : Nu) (Q : Option Int → Nu → Prop) : Prop :=
  match e with
  | none => Q none ν
  | some e => TE C n sc e l ν (fun d ν' => ∃ i, d = .int i ∧ Q (some i) ν')
def cut (lo hi : Option Int) (ds : List D) : List D := (match hi with | none => ds | some j => ds.take j.toNat).drop (match lo with | none => 0 | some i => i.toNat)
def pos0 (lo : Option Int) : Prop := ∀ i, lo = some i → 0 ≤ i
theorem cut_vals {h : Heap} {us : List Value} {ds : List D} (r : RVs h us ds) {lo hi : Option Int} (h1 : pos0 lo) (h2 : pos0 hi) : RVs h (slicePick us.toArray lo hi none).toList (cut lo hi ds) := by
  rw [slicePick_plain]
  have key : ∀ (i : Int), 0 ≤ i → clipAt us.length i = min i.toNat us.length := fun i hi => by
    have := clipAt_nat us.length i.toNat
    rw [Int.toNat_of_nonneg hi] at this
    simpa using this
  have fin : ∀ a b : Nat, RVs h ((us.drop (min a us.length)).take (min b us.length - min a us.length)) ((ds.take b).drop a) := fun a b => by
    have e : (us.drop (min a us.length)).take (min b us.length - min a us.length) = (us.take b).drop a := by
      rw [← List.drop_take]
      apply List.ext_getElem?
      intro k
      simp only [List.getElem?_drop, List.getElem?_take]
      split <;> split <;> first | rfl | (rw [List.getElem?_eq_none (by omega)]; try rw [List.getElem?_eq_none (by omega)]) | skip
      · congr 1; omega
    rw [e]; exact (r.take b).drop a
  unfold cut
  cases lo with
  | none => cases hi with
    | none => simpa using r
    | some j =>
      have := fin 0 j.toNat
      simpa [key j (h2 j rfl)] using this
  | some i => cases hi with
    | none =>
      have := fin i.toNat us.length
      rw [Nat.min_self, r.length, List.take_length, ← r.length] at this
      simpa [key i (h1 i rfl)] using this
    | some j =>
      have := fin i.toNat j.toNat
      simpa [key i (h1 i rfl), key j (h2 j rfl)] using this
end
end Mine

namespace Mine
open PySem PyProof.Rows PySem.W

section
variable {C : Cx} {n : Nat} {sc : Scope} {l : Loc} {ν : Nu} {Q : D → Nu → Prop}

theorem Cx.KIn (C : Cx) {h : Heap} (k : ∀ b o, C.base.get? b = some o → h.get? b = some o) : Frag.In C.K h := fun a o e => k _ _ (C.inK a o e)

/-- a class of the text whose instances are plain -/
structure IsCls (C : Cx) (T : Addr) : Prop where
  get : plainGet C.K T "" = true
  set : findIn C.K (.ref T) "__setattr__" = some (some (.builtin "object.__setattr__"))
  over : plainOver C.K T = true
  dict : (clsIn C.K T).any (·.hasDict) = true
  makes : makesIn C.K T = true
  keep : keepIn C.K (.ref T) = true
/-- a name of an instance's own -/
def isField (C : Cx) (T : Addr) (x : Str) : Prop := findIn C.K (.ref T) x = some none
def isMeth (C : Cx) (T : Addr) (x : Str) (f : Addr) : Prop := findIn C.K (.ref T) x = some (some (.ref f)) ∧ isFn C.K (.ref f) = true ∧ keepIn C.K (.ref f) = true

theorem nsFind_getL {es : List DictEntry} (hk : ∀ e ∈ es, ∃ x t, e.key = .str x t) (x : Str) : getL x es = some (nsFind es.toArray x) := by
  unfold getL nsFind findBy
  rw [List.find?_toArray]
  cases q : es.find? (fun e => e.key.isStr x) with
  | some e => rfl
  | none =>
    have : es.any (·.refKey) = false := by
      rw [List.any_eq_false]
      intro e he
      obtain ⟨y, t, e'⟩ := hk e he
      simp [DictEntry.refKey, e']
    simp [this]
theorem RV.handed {h : Heap} {v : Value} {d : D} (r : RV h v d) (hd : ∀ u, d ≠ .val u) : handedIn v = true := by
  cases r <;> first | rfl | exact absurd rfl (hd _)

theorem get_field {A : Around} {s : Shared} {x T dx : Addr} {fs : List (Str × D)} {name : Str} {d : D} {Q : Value → Shared → Prop} {E : Value → Shared → Prop} {b : Bool} (I : IsCls C T) (R : Ref C ν s.heap) (e1 : ν x = some (.inst T dx)) (e2 : ν dx = some (.ns fs)) (hf : isField C T name) (hl : lk fs name = some d) (hd : ∀ u, d ≠ .val u)
    (h : ∀ v, RV s.heap v d → Q v { s with toks := s.toks + 1 }) : wpAny (model C.prog C.w) A (getAttr (.ref x) name b) Q E s := by
  have X := C.KIn R.keep
  have hx : s.heap.get? x = some (insObj T dx) := R.at_ x _ e1
  obtain ⟨es, m, ho, hk, _, hfs⟩ := R.at_ dx _ e2
  have hv := hfs name
  rw [hl] at hv
  obtain ⟨v, hv, rv⟩ := hv
  have IA : InstAt s.heap x (insObj T dx) T (some (dctObj es m)) := ⟨hx, rfl, rfl, ho⟩
  obtain ⟨cd, hc, hh⟩ := any_some I.dict
  refine get_value X IA (plainGet_of (name := name) I.get).1 ?_ (rv.handed hd) (h v rv)
  have own : W.ownOf cd (some (dctObj es m)) name = some (some v) := by
    unfold W.ownOf
    rw [hh]
    show lookIn name (dctObj es m) = _
    rw [show lookIn name (dctObj es m) = getL name es from rfl, nsFind_getL hk, hv]
  unfold findObj
  rw [hc]
  simp only [Option.bind_some, show findIn C.K (.ref T) name = some none from hf, own]

theorem TE_attr {value : Expr} {attr : Str} {pos} (T : Addr) (I : IsCls C T) (hf : isField C T attr)
    (h : TE C n sc value l ν (fun d ν₁ => ∃ x dx fs r, d = .ref x ∧ ν₁ x = some (.inst T dx) ∧ ν₁ dx = some (.ns fs) ∧ lk fs attr = some r ∧ (∀ u, r ≠ .val u) ∧ Q r ν₁))
    (ha : ∀ env whole, attributeBase value attr env whole = whole) : TE C n sc (.Attribute value attr pos) l ν Q := by
  intro A env s hA R F
  show wpAny _ A (attributeBase value attr env (eval value env) >>= fun o => standAt pos.atName >>= fun _ => holding [o] (getAttr o attr true) >>= fun r => letTemporaryGo value o r >>= fun _ => pure r) _ _ s
  rw [ha]
  refine wpAny_bind (wpAny_mono (h A env s hA R F) ?_ fun _ _ x => x)
  rintro v s₁ ⟨d, ν₁, hv, R₁, x₁, x, dx, fs, r, rfl, e1, e2, hl, hr, hq⟩
  cases hv
  refine wpAny_bind (wpAny_standAt (wpAny_bind (wpAny_holding (get_field I R₁ e1 e2 hf hl hr fun v rv => ?_))))
  exact wpAny_bind (wpAny_letTemporaryGo (wpAny_pure ((postV_toks R₁ rv hq).after x₁)))

/-- a method of an instance -/
theorem TE_methI {o : Expr} {name : Str} {apos pos : Pos} {args : List Expr} (T f : Addr) (I : IsCls C T) (hm : isMeth C T name f)
    (h : TE C n sc o l ν (fun d ν₁ => ∃ x dx fs, d = .ref x ∧ ν₁ x = some (.inst T dx) ∧ ν₁ dx = some (.ns fs) ∧ lk fs name = none ∧ TL C n sc args l ν₁ (fun ds ν₂ => TC C n (.ref f) (.ref x :: ds) ν₂ Q)))
    (ha : ∀ env whole, attributeBase o name env whole = whole) (hst : noSt args = true) (hlen : args.length < 30) (hp : (apos.endLine == pos.line) = true) : TE C n sc (.Call (.Attribute o name apos) args [] pos) l ν Q := by
  refine TE_meth (fun d ν => match d with | .ref x => (match ν x with | some (.inst T' dx) => if T' = T then (match ν dx with | some (.ns fs) => if lk fs name = none then some (.ref f) else none | _ => none) else none | _ => none) | _ => none) ?_ ?_
    (TE_mono h fun d ν' ⟨x, dx, fs, e, e1, e2, e3, q⟩ => ⟨.ref f, by subst e; simp [e1, e2, e3], by subst e; exact q⟩) ha hst hlen hp
  · intro A s v d ν g pl Q E e R hv q
    split at e
    · rename_i x
      split at e
      · rename_i T' dx e1
        split at e
        · rename_i hT
          subst hT
          split at e
          · rename_i fs e2
            split at e
            · rename_i e3
              cases e
              cases hv
              obtain ⟨es, m, ho, hk, _, hfs⟩ := R.at_ dx _ e2
              have hn := hfs name
              rw [e3] at hn
              have IA : InstAt s.heap x (insObj T' dx) T' (some (dctObj es m)) := ⟨R.at_ x _ e1, rfl, rfl, ho⟩
              refine method_fn (C.KIn R.keep) IA (plainGet_of (name := name) I.get).1 (plainGet_of (name := name) I.get).2 hm.1 (beq_iff_eq.mp hm.2.1) ?_ q
              show (lookIn name (dctObj es m)).map _ = _
              rw [show lookIn name (dctObj es m) = getL name es from rfl, nsFind_getL hk, hn]; rfl
            · cases e
          · cases e
        · cases e
      · cases e
    · cases e
  · intro d ν g h e k
    have hg : g = .ref f := by
      split at e
      · split at e
        · split at e
          · split at e
            · split at e
              · cases e; rfl
              · cases e
            · cases e
          · cases e
        · cases e
      · cases e
    subst hg
    obtain ⟨kk, hk, hL⟩ := looks_keep (M := model C.prog C.w) hm.2.2 (C.KIn (h := C.base) fun _ _ e => e)
    exact ⟨kk, hk, fun A s Q E k' q => hL A Q E s k' q⟩

-- storing an attribute
theorem nsFind_putL {x y : Str} {hs : Int} {t : Tok} {v : Value} : ∀ {es : List DictEntry}, nsFind (putL x hs (.str x t) v es).toArray y = if y = x then some v else nsFind es.toArray y
  | [] => by
    unfold putL nsFind findBy
    simp only [List.find?_toArray, List.find?_cons, List.find?_nil, Value.isStr]
    by_cases q : y = x
    · subst q; simp
    · have : (x == y) = false := by simpa using fun e => q e.symm
      simp [this, q]
  | e :: r => by
    have ih := nsFind_putL (x := x) (y := y) (hs := hs) (t := t) (v := v) (es := r)
    unfold nsFind findBy at ih ⊢
    rw [List.find?_toArray] at ih ⊢
    rw [List.find?_toArray] at ih ⊢
    unfold putL
    by_cases q : e.key.isStr x = true
    · rw [if_pos q]
      simp only [List.find?_cons]
      by_cases p : y = x
      · subst p; rw [q]; simp
      · have : e.key.isStr y = false := by
          cases z : e.key.isStr y with
          | false => rfl
          | true => exact absurd (Value.isStr_inj _ _ _ z q) p
        simp [this, p]
    · rw [if_neg q]
      simp only [List.find?_cons]
      by_cases p : e.key.isStr y = true
      · have : ¬ y = x := fun z => q (z ▸ p)
        simp [p, this]
      · have p' : e.key.isStr y = false := by simpa using p
        simp only [p']
        exact ih
theorem putL_keys {x : Str} {hs : Int} {t : Tok} {v : Value} : ∀ {es : List DictEntry}, (∀ e ∈ es, ∃ y t, e.key = .str y t) → ∀ e ∈ putL x hs (.str x t) v es, ∃ y t, e.key = .str y t
  | [], _, e, he => by
    simp only [putL, List.mem_singleton] at he
    subst he; exact ⟨x, t, rfl⟩
  | e' :: r, hk, e, he => by
    unfold putL at he
    split at he
    · rcases List.mem_cons.mp he with rfl | he
      · exact hk e' (.head _)
      · exact hk e (.tail _ he)
    · rcases List.mem_cons.mp he with rfl | he
      · exact hk _ (.head _)
      · exact putL_keys (fun z hz => hk z (.tail _ hz)) e he
theorem putL_len {x : Str} {hs : Int} {k v : Value} : ∀ {es : List DictEntry}, (putL x hs k v es).length = es.length + (if nsFind es.toArray x = none then 1 else 0)
  | [] => by simp [putL, nsFind, findBy]
  | e :: r => by
    have ih := putL_len (x := x) (hs := hs) (k := k) (v := v) (es := r)
    unfold nsFind findBy at ih ⊢
    rw [List.find?_toArray] at ih ⊢
    unfold putL
    by_cases q : e.key.isStr x = true
    · rw [if_pos q]; simp [List.find?_cons, q]
    · rw [if_neg q]
      have q' : e.key.isStr x = false := by simpa using q
      simp only [List.length_cons, List.find?_cons, q', ih]; omega
theorem put_len {fs : List (Str × D)} {x : Str} {d : D} : (Mine.put fs x d).length = fs.length + (if lk fs x = none then 1 else 0) := by
  induction fs with
  | nil => simp [Mine.put, lk]
  | cons p r ih =>
    obtain ⟨z, e⟩ := p
    unfold Mine.put lk
    by_cases q : x = z
    · simp [q]
    · simp only [q, if_false, List.length_cons, ih]; omega
theorem NsOk.put {h : Heap} {es : List DictEntry} {fs : List (Str × D)} {x : Str} {hs : Int} {t : Tok} {v : Value} {d : D} (ok : NsOk h es fs) (rv : RV h v d) : NsOk h (putL x hs (.str x t) v es) (Mine.put fs x d) := by
  obtain ⟨a, b, c⟩ := ok
  refine ⟨putL_keys a, ?_, fun y => ?_⟩
  · rw [putL_len, put_len]
    have := c x
    cases q : lk fs x with
    | none => rw [q] at this; rw [if_pos this, if_pos rfl]; omega
    | some d' => rw [q] at this; obtain ⟨v', hv, _⟩ := this; rw [if_neg (by rw [hv]; simp), if_neg (by simp)]; omega
  · rw [lk_put]
    have := c y
    rw [nsFind_putL]
    by_cases q : y = x
    · simp only [q, if_true]; exact ⟨v, rfl, rv⟩
    · simp only [q, if_false]; exact this

theorem osa_field {A : Around} {s : Shared} {x T dx : Addr} {fs : List (Str × D)} {name : Str} {tk : Tok} {v : Value} {d : D} {R' : Result → Shared → Prop} (I : IsCls C T) (R : Ref C ν s.heap) (e1 : ν x = some (.inst T dx)) (e2 : ν dx = some (.ns fs)) (hf : isField C T name) (hlen : fs.length < 100) (rv : RV s.heap v d)
    (h : ∀ s', Ref C (upd ν dx (.ns (put fs name d))) s'.heap → Fro no ν (upd ν dx (.ns (put fs name d))) s s' → R' (.ok (.ret .none)) s') : codeAny (model C.prog C.w) A (.call (.builtin "object.__setattr__") ⟨[.ref x, .str name tk, v], []⟩) R' s := by
  have X := C.KIn R.keep
  have hx : s.heap.get? x = some (insObj T dx) := R.at_ x _ e1
  obtain ⟨es, m, ho, ok⟩ := R.at_ dx _ e2
  have hk := ok.1
  have IA : InstAt s.heap x (insObj T dx) T (some (dctObj es m)) := ⟨hx, rfl, rfl, ho⟩
  obtain ⟨cd, hc, hh⟩ := any_some I.dict
  refine osa_open X IA I.over (r := none) (by unfold takerIn; rw [show findIn C.K (.ref T) name = some none from hf]; rfl) fun b => ?_
  have sb := Heap.SameBut.update s.heap dx (Obj.putName name (PyData.keyHash C.w.params name) (.str name s.toks) v)
  have hpd : Obj.putName name (PyData.keyHash C.w.params name) (.str name s.toks) v (dctObj es m) = dctObj (putL name (PyData.keyHash C.w.params name) (.str name s.toks) v es) (putN name es m) := putName_dict name _ _ v es m
  have hg : (s.heap.update dx (Obj.putName name (PyData.keyHash C.w.params name) (.str name s.toks) v)).get? dx = some (dctObj (putL name (PyData.keyHash C.w.params name) (.str name s.toks) v es) (putN name es m)) := by
    rw [← hpd]; exact Heap.get?_update_self _ ho (by rw [hpd]; rfl)
  have okk : ∀ {h' : Heap}, TupKeep s.heap h' → NsOk h' es fs := fun kt => let ⟨a, b, c⟩ := ok; ⟨a, b, fun y => by
    have := c y
    split at this
    · obtain ⟨u, p, q⟩ := this; exact ⟨u, p, q.keep kt⟩
    · exact this⟩
  obtain ⟨R', kt⟩ := R.change (o := .ns (Mine.put fs name d)) e2 (fun _ => nofun) sb fun kt => ⟨_, _, hg, NsOk.put (okk kt) (rv.keep kt)⟩
  refine wpAny_bind (wpAny_pure (wpAny_bind (wpAny_bind (wpAny_loadPart hx (wpAny_bind ((looks_clsIn X hc).here ?_))))))
  rw [hh]
  refine wpAny_pure (a := some dx) (wpAny_bind (wpAny_pure (wpAny_bind ?_)))
  unfold nsSet
  refine wpAny_bind (wpAny_bind (wpAny_askSetting (wpAny_pure (wpAny_bind (wpAny_mkText (wpAny_bind (wpAny_loadPart ho ?_)))))))
  have c : (!(es.toArray.any (·.key.isStr name)) && es.toArray.any (·.refKey)) = false := by
    have : es.toArray.any (·.refKey) = false := by
      rw [← Array.any_toList, List.any_eq_false]
      intro e he
      obtain ⟨y, t, e'⟩ := hk e he
      simp [DictEntry.refKey, e']
    rw [this, Bool.and_false]
  show wpAny _ _ (if aRefKeyMayBeTheName name es.toArray = true then _ else _) _ _ _
  rw [aRefKeyMayBeTheName_at, c]
  refine wpAny_updatePart ho ?_
  have hz : (putL name (PyData.keyHash C.w.params name) (.str name s.toks) v es).length ≤ 200 := by
    have := (NsOk.put (x := name) (hs := PyData.keyHash C.w.params name) (t := s.toks) (okk (fun a o e _ => e)) rv).2.1
    rw [put_len] at this
    split at this <;> omega
  refine wpAny_bind (wpAny_lookBehind hg (by show (Data.dict _ _).pastItsLine = none; exact pastItsLine_dict (by rw [List.size_toArray, sizeLine_eq]; omega)) ?_)
  exact wpAny_pure (h _ R' (Fro.change e2 sb))

theorem set_field {A : Around} {s : Shared} {x T dx : Addr} {fs : List (Str × D)} {name : Str} {v : Value} {d : D} {Q : Unit → Shared → Prop} {E : Value → Shared → Prop} (I : IsCls C T) (R : Ref C ν s.heap) (e1 : ν x = some (.inst T dx)) (e2 : ν dx = some (.ns fs)) (hf : isField C T name) (hlen : fs.length < 100) (rv : RV s.heap v d)
    (h : ∀ s', Ref C (upd ν dx (.ns (put fs name d))) s'.heap → Fro no ν (upd ν dx (.ns (put fs name d))) s s' → Q () s') : wpAny (model C.prog C.w) A (setAttr (.ref x) name v) Q E s := by
  have IA : InstAt s.heap x (insObj T dx) T (some _) := ⟨R.at_ x _ e1, rfl, rfl, (let ⟨es, m, ho, _⟩ := R.at_ dx _ e2; ⟨es, m, ho⟩ : ∃ es m, s.heap.get? dx = some (dctObj es m)).choose_spec.choose_spec⟩
  refine set_plain (C.KIn R.keep) IA I.set (osa_field (s := { s with toks := s.toks + 1 }) I R e1 e2 hf hlen rv fun s' R' x' => h s' R' (Fro.trans Fro.toks x'))

theorem TS_setattr {o value : Expr} {attr : Str} {pos' pos} {Q : Fl → Loc → Nu → Prop} (T : Addr) (I : IsCls C T) (hf : isField C T attr)
    (h : TE C n sc value l ν (fun d ν₁ => TE C n sc o l ν₁ (fun e ν₂ => ∃ x dx fs, e = .ref x ∧ ν₂ x = some (.inst T dx) ∧ ν₂ dx = some (.ns fs) ∧ fs.length < 100 ∧ Q .next l (upd ν₂ dx (.ns (put fs attr d))))))
    (hs : ∀ env, swapsWith value (some (.Attribute o attr pos')) pos.line env = pure false) : TS C n sc (.Assign [.Attribute o attr pos'] value pos) l ν Q := by
  intro A env s hA R F
  refine plainObj_wpAny_Assign_Attribute (wpAny_mono (h A env s hA R F) ?_ fun _ _ x => x) (hs env)
  rintro v s₁ ⟨d, ν₁, hv, R₁, x₁, hq⟩
  have F₁ := F.fro R x₁
  refine wpAny_mono (hq A env s₁ hA R₁ F₁) ?_ fun _ _ x => x
  rintro u s₂ ⟨e, ν₂, hu, R₂, x₂, x, dx, fs, rfl, e1, e2, hlen, hq2⟩
  cases hu
  have F₂ := F₁.fro R₁ x₂
  refine set_field I R₂ e1 e2 hf hlen (hv.fro R₁ x₂) fun s' R' x' => ?_
  exact ⟨.next, l, _, .next, R', F₂.fro R₂ x', ((x₁.trans x₂).trans x').toFr, hq2⟩

-- new instances
theorem Aok.make {A : Around} {T : Addr} {vs : List Value} (h : Aok (n + 2) A) : Aok n (A.under (.builtin "type.__call__" ⟨.ref T :: vs, []⟩)) := by
  refine ⟨h.1, ?_, ?_⟩
  · have := h.2.1; show A.depth + 1 + n < _; omega
  · have := h.2.2; show A.units + (Code.builtin "type.__call__" ⟨.ref T :: vs, []⟩).cUnits + _ < _
    have e : (Code.builtin "type.__call__" ⟨.ref T :: vs, []⟩).cUnits = 1 + 3 * (Code.builtin "type.__call__" ⟨.ref T :: vs, []⟩).frames := rfl
    have e2 : (Code.builtin "type.__call__" ⟨.ref T :: vs, []⟩).frames = 0 := rfl
    rw [e, e2]; omega
theorem TC_new {T f : Addr} {ds : List D} (I : IsCls C T) (hm : isMeth C T "__init__" f)
    (h : ∀ x dx, ν x = none → ν dx = none → x ≠ dx → TK C n (.ref f) (.ref x :: ds) (upd (upd ν dx (.ns [])) x (.inst T dx)) (fun d ν' => d = .none ∧ Q (.ref x) ν')) : TC C (n + 2) (.ref T) ds ν Q := by
  intro A s vs hA R hz hv
  refine wpAny_call ?_
  obtain ⟨hh, g, d, t, os⟩ := s
  have hz : C.base.objs.size ≤ hh.objs.size := hz
  have R : Ref C ν hh := R
  have hv : RVs hh vs ds := hv
  have X := C.KIn R.keep
  refine make_core (makes_of X I.makes) (looks_findIn X hm.1) (fun self => bind_fn X self (beq_iff_eq.mp hm.2.1)) (.inl rfl) ?_
  have n1 : ν hh.objs.size = none := R.fresh
  have R1 := R.alloc (o := .ns []) (ob := emptyDict) ⟨[], 0, Heap.get?_push_size _ rfl, ⟨fun _ h => (by cases h), Nat.le_refl _, fun _ => rfl⟩⟩ hz
  have hs1 : (hh.push emptyDict).objs.size = hh.objs.size + 1 := Heap.size_push ..
  have n2 : upd ν hh.objs.size (.ns []) (hh.objs.size + 1) = none := by rw [← hs1]; exact R1.fresh
  have R2 := R1.alloc (o := .inst T hh.objs.size) (ob := instObj T hh.objs.size) (Heap.get?_push_size _ rfl) (by rw [hs1]; omega)
  rw [hs1] at R2
  have n2' : ν (hh.objs.size + 1) = none := by unfold upd at n2; rw [if_neg (Nat.succ_ne_self _)] at n2; exact n2
  have k : ∀ b o, hh.get? b = some o → ((hh.push emptyDict).push (instObj T hh.objs.size)).get? b = some o := fun b o e => Heap.get?_push_of_some _ (Heap.get?_push_of_some _ e)
  refine codeAny_mono (h (hh.objs.size + 1) hh.objs.size n2' n1 (Nat.succ_ne_self _) _ ⟨(hh.push emptyDict).push (instObj T hh.objs.size), g, d, t, os⟩ (.ref (hh.objs.size + 1) :: vs) hA.make R2 (by rw [Heap.size_push, Heap.size_push]; omega) (.cons (.ref _) (hv.keep fun b o e _ => k b o e))) ?_
  intro r s' z
  cases r with
  | error e => exact z.elim
  | ok f =>
    cases f with
    | ret v =>
      obtain ⟨d', ν', rv, R', x', rfl, q⟩ := z
      cases rv
      refine ⟨rfl, .ref _, ν', .ref _, R', ?_, q⟩
      obtain ⟨⟨h', t', rfl⟩, a, b, c⟩ := x'
      have key : ∀ b o, hh.get? b = some o → ν b = none → upd (upd ν hh.objs.size (.ns [])) (hh.objs.size + 1) (.inst T hh.objs.size) b = none := fun b o e hn => by
        have := Heap.lt_size e
        unfold upd; rw [if_neg (Nat.ne_of_lt (Nat.lt_succ_of_lt this)), if_neg (Nat.ne_of_lt this)]; exact hn
      exact ⟨⟨h', t', rfl⟩, fun b o e hn ho => a b o (k b o e) (key b o e hn) ho, fun p o e hn => b p o (k p o e) (key p o e hn), fun b o e hn => c b o (k b o e) (key b o e hn)⟩
    | _ => exact z.elim

/-- the call of a class of the text by its name -/
theorem TE_callC {x : Str} {p pos : Pos} {args : List Expr} {T : Addr} (hk : sc.names.lookup x = some .globalImplicit) (hg : C.G x (.ref T)) (I : IsCls C T)
    (h : TL C n sc args l ν (fun ds ν₁ => TC C n (.ref T) ds ν₁ Q)) (hx : (x == ("__debug__" : Str)) = false) (hst : noSt args = true) : TE C n sc (.Call (.Name x p) args [] pos) l ν Q := by
  intro A env s hA R F
  show wpAny _ A (eval (.Name x p) env >>= fun f => callWith pos f [] (backTo pos (starEach args env)) (backToKw pos (keywordEach [] env))) _ _ s
  refine wpAny_bind (wpAny_mono (TE_glob (C := C) (n := n) (Q := fun d ν' => d = .val (.ref T) ∧ ν' = ν) hk hg ⟨rfl, rfl⟩ hx A env s hA R F) ?_ fun _ _ x => x)
  rintro v s₁ ⟨d, ν₁, hv, R₁, x₁, rfl, rfl⟩
  cases hv
  have F₁ := F.fro R x₁
  refine callWith_of (P := fun h => Frag.In C.K h) (by show (_ || false) = false; rw [noSt_any hst, Bool.or_false]) (fun h X => keeps_K I.keep h X) (evalArgs_any hst (wpAny_mono (h A env s₁ pos hA R₁ F₁) ?_ fun _ _ x => x))
  rintro vs s₂ ⟨ds, ν₂, hvs, R₂, x₂, hq⟩
  exact ⟨C.KIn R₂.keep, wpAny_mono (hq A s₂ vs hA R₂ (F₁.fro R₁ x₂).baseLe hvs) (fun _ _ p => (p.after x₂).after x₁) fun _ _ x => x⟩
end
end Mine

namespace Mine
open PySem PyProof.Rows PySem.W

theorem Cx.notSys (C : Cx) {a : Addr} (h : C.base.objs.size ≤ a) : (a == sysModules) = false := by
  have := C.g.lt
  have h2 : (3 : Nat) < C.base.objs.size := this
  have h3 : (1 : Nat) < a := Nat.lt_of_lt_of_le (by omega) h
  exact beq_eq_false_iff_ne.mpr fun e => by rw [e] at h3; exact absurd h3 (by decide)

def nu0 (a : Addr) (ns : List Int) : Nu := fun b => if b = a then some (.scr (ns.map .int)) else none

theorem ints_rvs {h : Heap} {vs : List Value} {ns : List Int} (x : IntsAre vs ns) : RVs h vs (ns.map .int) := by
  induction x with
  | nil => exact .nil
  | cons i t _ ih => exact .cons (.int i t) ih

/-- the call of law, from its contract -/
theorem law_call {C : Cx} {s₁ : Shared} {a fa : Addr} {vs : List Value} {ns : List Int} {n : Nat} (hb : C.base = s₁.heap) (hL : s₁.heap.get? a = some (lstObj vs 0)) (hI : IntsAre vs ns) (hg : s₁.gens = #[]) (hn : n ≤ 200)
    {c : ClaimW} {cl : Str → Option Addr} {mean : ExcName → Option Value} {args : List WData} (hr : ∀ cls, c.raises args cls = false) (hp : c.post args (.bool true) args = true)
    (h : TK C n (.ref fa) [.ref a] (nu0 a ns) (fun d _ => d = .bool true)) : codeAny (model C.prog C.w) callerA (.call (.ref fa) ⟨[.ref a], []⟩) (GoodWG c cl mean args s₁) s₁ := by
  have R : Ref C (nu0 a ns) s₁.heap := by
    refine ⟨fun b o e => hb ▸ e, fun b o e => ?_, fun b o e hs => ?_⟩
    · unfold nu0 at e; split at e
      · rename_i q; subst q; cases e; exact ⟨vs, 0, hL, ints_rvs hI⟩
      · cases e
    · unfold nu0 at e; split at e
      · cases e; exact absurd rfl (hs _)
      · cases e
  refine codeAny_mono (h callerA s₁ [.ref a] ⟨rfl, by show 1 + claimMargin + n < 990; unfold claimMargin; omega, by show 4 + 30 * n < 9800; omega⟩ R (by rw [hb]; exact Nat.le_refl _) (.cons (.ref a) .nil)) fun r s' z => GoodW.toG ?_
  cases r with
  | error e => exact z.elim
  | ok f =>
    cases f with
    | ret v =>
      obtain ⟨d, ν', rv, R', x', rfl⟩ := z
      cases rv
      obtain ⟨h', t', rfl⟩ := x'.eq
      exact ⟨.inl ⟨.bool true, .bool true, [], rfl, hr, .bool true, hp, fun _ => ⟨.nil, fun _ h => nomatch h⟩⟩, fun b o e => R'.keep b o (hb ▸ e), rfl, hg⟩
    | _ => exact z.elim
end Mine

namespace Mine
open PySem PyProof.Rows PySem.W

theorem ofString_inj {a b : String} (h : Str.ofString a = Str.ofString b) : a = b := by
  rw [Str.ofString_eq_toList, Str.ofString_eq_toList] at h
  have h1 : a.toList.map Char.toNat = b.toList.map Char.toNat := by simpa using h
  have h2 : a.toList = b.toList := by
    refine (List.map_inj_right fun x y e => ?_).mp h1
    exact Char.toNat_inj.mp e
  exact String.toList_injective h2
theorem ofString_ne {a b : String} (h : a ≠ b) : Str.ofString a ≠ Str.ofString b := fun e => h (ofString_inj e)
theorem ofString_beq {a b : String} (h : a ≠ b) : (Str.ofString a == Str.ofString b) = false := beq_eq_false_iff_ne.mpr (ofString_ne h)

theorem lk_here {l : Loc} {x : Str} {d : D} : lk ((x, d) :: l) x = some d := by simp [lk]
theorem lk_there {l : Loc} {x y : Str} {d e : D} (h : x ≠ y) (q : lk l x = some d) : lk ((y, e) :: l) x = some d := by simp [lk, h, q]
theorem lk_same {l : Loc} {x : Str} {d : D} : lk (put l x d) x = some d := by simp [lk_put]
theorem lk_other {l : Loc} {x y : Str} {d e : D} (h : x ≠ y) (q : lk l x = some d) : lk (put l y e) x = some d := by simp [lk_put, h, q]
theorem lkn_nil {x : Str} : lk [] x = none := rfl
theorem lkn_there {l : Loc} {x y : Str} {e : D} (h : x ≠ y) (q : lk l x = none) : lk ((y, e) :: l) x = none := by simp [lk, h, q]
theorem lkn_other {l : Loc} {x y : Str} {e : D} (h : x ≠ y) (q : lk l x = none) : lk (put l y e) x = none := by simp [lk_put, h, q]
theorem Sub_nil {l : Loc} : Sub [] l := fun x d e => by simp [lk] at e
theorem Sub_cons {l l' : Loc} {x : Str} {d : D} (h : lk l x = some d) (s : Sub l' l) : Sub ((x, d) :: l') l := fun y e q => by
  unfold lk at q
  split at q
  · rename_i z; subst z; cases q; exact h
  · exact s y e q
theorem Sub_refl {l : Loc} : Sub l l := fun _ _ h => h
theorem ite_dec {p : Prop} [Decidable p] {A B : Prop} (h1 : p → A) (h2 : ¬ p → B) : if decide p = true then A else B := by
  by_cases h : p
  · simp [h]; exact h1 h
  · simp [h]; exact h2 h
theorem ite_ndec {p : Prop} [Decidable p] {A B : Prop} (h1 : ¬ p → A) (h2 : p → B) : if (!decide p) = true then A else B := by
  by_cases h : p
  · simp [h]; exact h2 h
  · simp [h]; exact h1 h
theorem ite_t {A B : Prop} (h : A) : if true = true then A else B := by simpa using h
theorem ite_f {A B : Prop} (h : B) : if false = true then A else B := by simpa using h

section
variable {C : Cx} {n : Nat} {sc : Scope} {l : Loc} {ν : Nu} {Q : D → Nu → Prop}
/-- a def of the text by its name -/
def DefN (C : Cx) (x : Str) (names : List Str) (body : List Stmt) (sc : Scope) : Prop := ∃ f, C.mg x = some (.ref f) ∧ IsDef C f names body sc
def TN (C : Cx) (n : Nat) (x : Str) (ds : List D) (ν : Nu) (Q : D → Nu → Prop) : Prop := ∀ f, C.mg x = some (.ref f) → TK C n (.ref f) ds ν Q
theorem TN_def {x : Str} {names : List Str} {body : List Stmt} {ds : List D} (I : DefN C x names body sc) (hlen : ds.length = names.length)
    (h : TSs C n sc body (names.zip ds) ν (fun fl _ ν' => match fl with | .ret d => Q d ν' | _ => Q .none ν')) : TN C (n + 1) x ds ν Q := by
  intro f hf
  obtain ⟨f', hf', I⟩ := I
  rw [hf] at hf'; cases hf'
  exact TK_def I hlen h
theorem TK_mono {f : Value} {ds : List D} {Q Q' : D → Nu → Prop} (h : TK C n f ds ν Q) (hq : ∀ d ν', Q d ν' → Q' d ν') : TK C n f ds ν Q' :=
  fun A s vs hA R hz hv => codeAny_mono (h A s vs hA R hz hv) fun r s' z => by
    cases r with
    | error e => exact z
    | ok f =>
      cases f with
      | ret v => obtain ⟨d, ν', a, b, c, q⟩ := z; exact ⟨d, ν', a, b, c, hq _ _ q⟩
      | _ => exact z
theorem TN_mono {x : Str} {m : Nat} {ds : List D} {Q Q' : D → Nu → Prop} (h : TN C m x ds ν Q) (hm : m ≤ n) (hq : ∀ d ν', Q d ν' → Q' d ν') : TN C n x ds ν Q' :=
  fun f hf A s vs hA R hz hv => TK_mono (h f hf) hq A s vs (hA.mono hm) R hz hv
def IsFn (C : Cx) (x : Str) : Prop := ∃ f, C.mg x = some (.ref f) ∧ ∃ o fd, C.K.lookup f = some o ∧ o.data = .func fd
theorem TE_callN {x : Str} {p pos : Pos} {args : List Expr} (hk : sc.names.lookup x = some .globalImplicit) (hf : IsFn C x)
    (h : TL C n sc args l ν (fun ds ν₁ => TN C n x ds ν₁ Q)) (hx : (x == ("__debug__" : Str)) = false) (hst : noSt args = true) : TE C n sc (.Call (.Name x p) args [] pos) l ν Q := by
  obtain ⟨f, hf, ho⟩ := hf
  exact TE_call hk (.inl hf) ho (fun A env s pos hA R F => wpAny_mono (h A env s pos hA R F) (fun vs s' ⟨ds, ν', a, b, c, q⟩ => ⟨ds, ν', a, b, c, TC_of (q f hf)⟩) fun _ _ x => x) hx hst
theorem TS_expr {e : Expr} {pos} {Q : Fl → Loc → Nu → Prop} (h : TE C n sc e l ν (fun _ ν₁ => Q .next l ν₁)) (hs : ∀ env, swapsWith e none pos.line env = pure false) : TS C n sc (.Expr e pos) l ν Q := by
  intro A env s hA R F
  refine wpAny_Expr_any (wpAny_mono (h A env s hA R F) ?_ fun _ _ x => x) ?_ (hs env)
  · rintro v s₁ ⟨d, ν₁, hv, R₁, x₁, hq⟩
    exact ⟨.next, l, ν₁, .next, R₁, F.fro R x₁, x₁.toFr, hq⟩
  · unfold interactive; rw [F.scope, F.kind]; rfl
theorem nsIn_of {K' : Frag} {a : Addr} {x : Str} {r : Option (Option Value)} (hK : C.K = K') (e : nsIn K' a x = r) : nsIn C.K a x = r := hK ▸ e
theorem lookup_of {K' : Frag} {a : Addr} {r : Option Obj} (hK : C.K = K') (e : K'.lookup a = r) : C.K.lookup a = r := hK ▸ e
theorem codeIn_of {K' : Frag} {v : Value} {x : Str} {r : Bool} (hK : C.K = K') (e : codeIn K' v x = r) : codeIn C.K v x = r := hK ▸ e
theorem mg_is {x : Str} {v : Value} (e : nsIn C.K mainGlobals x = some (some v)) : C.mg x = some v := mg_of (fun a o e => C.inK a o e) C.g e
theorem mg_isNone {x : Str} (e : nsIn C.K mainGlobals x = some none) : C.mg x = none := mg_none_of (fun a o e => C.inK a o e) C.g e
theorem len0 {α : Type} {vs : List α} (h : vs.length = 0) : vs = [] := List.length_eq_zero_iff.mp h
theorem len1 {α : Type} {vs : List α} (h : vs.length = 1) : ∃ a, vs = [a] := List.length_eq_one_iff.mp h
theorem len2 {α : Type} {vs : List α} (h : vs.length = 2) : ∃ a b, vs = [a, b] := by
  match vs, h with | [a, b], _ => exact ⟨a, b, rfl⟩
theorem len3 {α : Type} {vs : List α} (h : vs.length = 3) : ∃ a b c, vs = [a, b, c] := by
  match vs, h with | [a, b, c], _ => exact ⟨a, b, c, rfl⟩
theorem len4 {α : Type} {vs : List α} (h : vs.length = 4) : ∃ a b c d, vs = [a, b, c, d] := by
  match vs, h with | [a, b, c, d], _ => exact ⟨a, b, c, d, rfl⟩
theorem G_blt {K' : Frag} (hK : C.K = K') {x : Str} {v : Value} (e : nsIn K' mainGlobals x = some none) (hv : bootBuiltins x = some v) (hn : x ≠ "__name__") : C.G x v := .inr ⟨mg_isNone (hK ▸ e), (C.blts x hn).trans hv⟩
theorem bb_len : bootBuiltins "len" = some (.builtin "len") := by decide +kernel
theorem bb_isinstance : bootBuiltins "isinstance" = some (.builtin "isinstance") := by decide +kernel
theorem bb_range : bootBuiltins "range" = some (.type "range") := by decide +kernel
theorem bb_int : bootBuiltins "int" = some (.type "int") := by decide +kernel
theorem bb_bool : bootBuiltins "bool" = some (.type "bool") := by decide +kernel
theorem bb_str : bootBuiltins "str" = some (.type "str") := by decide +kernel
theorem bb_tuple : bootBuiltins "tuple" = some (.type "tuple") := by decide +kernel
theorem bb_list : bootBuiltins "list" = some (.type "list") := by decide +kernel
theorem bb_min : bootBuiltins "min" = some (.builtin "min") := by decide +kernel
theorem bb_max : bootBuiltins "max" = some (.builtin "max") := by decide +kernel
theorem bb_sorted : bootBuiltins "sorted" = some (.builtin "sorted") := by decide +kernel
theorem mkFn {K' : Frag} (hK : C.K = K') {x : Str} {f : Addr} {oc : Value} {od : Option Addr} {fd : FuncData} {osl : Array (Option Value)} (h1 : nsIn K' mainGlobals x = some (some (.ref f))) (h2 : K'.lookup f = some ⟨oc, od, .func fd, osl⟩) : IsFn C x :=
  ⟨f, mg_is (hK ▸ h1), _, fd, hK ▸ h2, rfl⟩
theorem mkDef {K' : Frag} (hK : C.K = K') {x : Str} {f : Addr} {oc : Value} {od : Option Addr} {osl : Array (Option Value)} {name qual : Str} {params : Arguments} {body : List Stmt} {scope : Scope} {dV kV doc pm : Value} {an : Option Addr} {cdv ct : Value} {names : List Str}
    (h1 : nsIn K' mainGlobals x = some (some (.ref f))) (h2 : K'.lookup f = some ⟨oc, od, .func (fnOf name qual params body scope dV kV doc pm an cdv ct), osl⟩) (h3 : codeIn K' cdv qual = true)
    (hb : ∀ vs : List Value, vs.length = names.length → bindArgs (fnOf name qual params body scope dV kV doc pm an cdv ct) ⟨vs, []⟩ = pure (names.zip vs)) (co : scope.isCoroutine = false) (gen : scope.isGenerator = false) (kind : scope.kind = .function) (nd : names.Nodup) (kd : ∀ x ∈ names, storable scope x) : DefN C x names body scope :=
  ⟨f, mg_is (hK ▸ h1), ⟨_, _, hK ▸ h2, rfl, rfl, rfl, rfl, rfl, rfl, codeRec_of (fun a o e => C.inK a o e) (hK ▸ h3), hb⟩, co, gen, kind, nd, kd⟩
theorem fn_of {x : Str} {names : List Str} {body : List Stmt} (D : DefN C x names body sc) : IsFn C x := let ⟨f, a, I⟩ := D; let ⟨o, fd, b, c, _⟩ := I.ex; ⟨f, a, o, fd, b, c⟩
end
end Mine

namespace Mine
open PySem PyProof.Rows PySem.W

theorem fdivN (a b : Nat) : (a : Int).fdiv (b : Int) = ((a / b : Nat) : Int) := by
  rw [Int.fdiv_eq_ediv_of_nonneg _ (by omega)]; rfl
theorem fmodN (a b : Nat) : (a : Int).fmod (b : Int) = ((a % b : Nat) : Int) := by
  rw [Int.fmod_eq_emod_of_nonneg _ (by omega)]; rfl
/-- a rest by a positive divisor -/
theorem fmod_pos (a : Int) {b : Int} (hb : 0 < b) : 0 ≤ a.fmod b ∧ a.fmod b < b := ⟨Int.fmod_nonneg_of_pos a hb, Int.fmod_lt_of_pos a hb⟩
theorem mulOk {a b : Int} (ha : a.natAbs < 2 ^ 10000) (hb : b.natAbs < 2 ^ 10000) : IntMulOk a b := by
  have key : ∀ x : Int, x.natAbs < 2 ^ 10000 → Builtin.Int.intBits x ≤ 10000 := fun x hx => by
    unfold Builtin.Int.intBits
    split
    · exact Nat.zero_le _
    · have : x.natAbs.log2 < 10000 := by
        rcases Nat.eq_zero_or_pos x.natAbs with h0 | hp
        · rw [h0]; decide
        · exact (Nat.log2_lt (Nat.ne_of_gt hp)).mpr hx
      omega
  have h1 := key a ha
  have h2 := key b hb
  have : Builtin.Int.intTooBig (Builtin.Int.intBits a + Builtin.Int.intBits b) = false := by
    unfold Builtin.Int.intTooBig
    simp only [decide_eq_false_iff_not]
    first | omega | (simp only [bitsLine]; omega)
  unfold IntMulOk
  rw [this]; simp

/-- how many figures -/
def lenN (b a : Nat) : Nat := if h : 2 ≤ b ∧ 0 < a then lenN b (a / b) + 1 else 0
termination_by a
decreasing_by exact Nat.div_lt_self h.2 (by omega)
theorem lenN_zero (b : Nat) : lenN b 0 = 0 := by unfold lenN; simp
theorem lenN_pos {b a : Nat} (hb : 2 ≤ b) (ha : 0 < a) : lenN b a = lenN b (a / b) + 1 := by
  conv => lhs; unfold lenN
  rw [dif_pos ⟨hb, ha⟩]

/-- at which place two numbers part -/
def partN (b x y : Nat) : Nat := if h : 2 ≤ b ∧ x ≠ y then partN b (x / b) (y / b) + 1 else 0
termination_by x + y
decreasing_by
  have h1 : 0 < x ∨ 0 < y := by omega
  have hx : x / b ≤ x := Nat.div_le_self _ _
  have hy : y / b ≤ y := Nat.div_le_self _ _
  rcases h1 with h1 | h1
  · have := Nat.div_lt_self h1 (show 1 < b by omega); omega
  · have := Nat.div_lt_self h1 (show 1 < b by omega); omega
theorem partN_self (b x : Nat) : partN b x x = 0 := by unfold partN; simp
theorem partN_ne {b x y : Nat} (hb : 2 ≤ b) (h : x ≠ y) : partN b x y = partN b (x / b) (y / b) + 1 := by
  conv => lhs; unfold partN
  rw [dif_pos ⟨hb, h⟩]
end Mine
namespace Mine
open PySem PyProof.Rows PySem.W
/-- all that ν knows ν' knows too -/
def Ext (ν ν' : Nu) : Prop := ∀ a o, ν a = some o → ν' a = some o
theorem Ext.refl {ν : Nu} : Ext ν ν := fun _ _ h => h
theorem Ext.trans {ν ν' ν'' : Nu} (x : Ext ν ν') (y : Ext ν' ν'') : Ext ν ν'' := fun a o h => y a o (x a o h)
theorem Ext.upd {ν ν' : Nu} {r : Addr} {o : AObj} (x : Ext ν ν') (h : ν' r = none) : Ext ν (Mine.upd ν' r o) := fun a o' e => by
  unfold Mine.upd
  rw [if_neg fun q => ?_]
  · exact x a o' e
  · have := x a o' e
    rw [q, h] at this; cases this
theorem upd_same {ν : Nu} {r : Addr} {o : AObj} : upd ν r o r = some o := if_pos rfl
theorem upd_other {ν : Nu} {r a : Addr} {o : AObj} (h : a ≠ r) : upd ν r o a = ν a := if_neg h
theorem upd_some {ν : Nu} {r a : Addr} {o o' : AObj} (h : ν r = none) (e : ν a = some o') : upd ν r o a = some o' := by
  rw [upd_other fun q => by rw [q, h] at e; cases e]; exact e
section
variable {C : Cx} {n : Nat} {ν : Nu} {Q : D → Nu → Prop}
theorem Ref.sub {ν ν' : Nu} {h : Heap} (R : Ref C ν' h) (x : Ext ν ν') : Ref C ν h := ⟨R.keep, fun a o e => R.at_ a o (x a o e), fun a o e => R.own a o (x a o e)⟩
theorem PostV.drop {s s' : Shared} {v : Value} {ν₀ : Nu} (h : PostV C ν s (fun d ν' => ∃ ν₀, Ext ν₀ ν' ∧ (∀ a, ν a = none → ν₀ a = none) ∧ Q d ν₀) v s') : PostV C ν s Q v s' := by
  obtain ⟨d, ν', rv, R', x', ν₀, hx, hd, q⟩ := h
  exact ⟨d, ν₀, rv, R'.sub hx, ⟨x'.eq, x'.keep, x'.alive, fun b o _ hn => hd b hn⟩, q⟩
/-- what a call has made besides is forgotten -/
theorem TN_drop {x : Str} {ds : List D} (h : TN C n x ds ν (fun d ν' => Ext ν ν' ∧ Q d ν)) : TN C n x ds ν Q := fun f hf A s vs hA R hz hv => codeAny_mono (h f hf A s vs hA R hz hv) fun r s' z => by
  cases r with
  | error e => exact z
  | ok f =>
    cases f with
    | ret v => exact PostV.drop (ν₀ := ν) (let ⟨d, ν', a, b, c, q⟩ := z; ⟨d, ν', a, b, c, ν, q.1, fun _ h => h, q.2⟩)
    | _ => exact z
end
theorem toN {a : Int} (h : 0 ≤ a) : ∃ m : Nat, a = m := ⟨a.toNat, by omega⟩
def cellD (ns : List Int) (k : Nat) : Int := ns.getD k 0
end Mine
namespace Mine
open PySem PyProof.Rows PySem.W
section
variable {C : Cx} {n : Nat} {ν : Nu} {Q : D → Nu → Prop}
theorem T2_powN {b : Int} (k : Nat) (hk : b = (k : Int)) (hk' : k ≤ 100) (h : Q (.int (10 ^ k)) ν) : T2 C n (binaryOp .Pow) (.int 10) (.int b) ν Q := by
  subst hk
  refine T2_pow (by omega) ?_ (by rw [Int.toNat_natCast]; exact h)
  have : (Builtin.Int.intBits 10 : Int) = 4 := by decide +kernel
  rw [this]; omega
end
theorem mulOk' {a b : Int} (ha : -(2 ^ 5000) < a) (ha' : a < 2 ^ 5000) (hb : -(2 ^ 5000) < b) (hb' : b < 2 ^ 5000) : IntMulOk a b := by
  have key : ∀ x : Int, -(2 ^ 5000) < x → x < 2 ^ 5000 → x.natAbs < 2 ^ 10000 := fun x h1 h2 => by
    have e : ((2 ^ 5000 : Nat) : Int) = (2 : Int) ^ 5000 := by push_cast; rfl
    have h3 : x.natAbs < 2 ^ 5000 := by
      generalize hN : (2 ^ 5000 : Nat) = N at e ⊢
      rw [← e] at h1 h2
      omega
    exact Nat.lt_of_lt_of_le h3 (Nat.pow_le_pow_right (by omega) (by omega))
  exact mulOk (key a ha ha') (key b hb hb')
end Mine
namespace Mine
open PySem PyProof.Rows PySem.W
theorem mulOk10 {a b : Int} (k m : Nat) (ha : 0 ≤ a) (ha' : a ≤ 10 ^ k) (hb : 0 ≤ b) (hb' : b ≤ 10 ^ m) (hk : k ≤ 1000 := by decide) (hm : m ≤ 1000 := by decide) : IntMulOk a b := by
  have key : ∀ (x : Int) (j : Nat), j ≤ 1000 → x ≤ 10 ^ j → x < 2 ^ 5000 := fun x j hj hx => by
    have e1 : (10 : Int) ^ j = ((10 ^ j : Nat) : Int) := by push_cast; rfl
    have e2 : ((2 ^ 5000 : Nat) : Int) = (2 : Int) ^ 5000 := by push_cast; rfl
    have h1 : (10 ^ j : Nat) ≤ 10 ^ 1000 := Nat.pow_le_pow_right (by omega) hj
    have h2 : (10 ^ 1000 : Nat) < 2 ^ 5000 := by decide +kernel
    have h3 : (10 ^ j : Nat) < 2 ^ 5000 := Nat.lt_of_le_of_lt h1 h2
    rw [← e2]
    rw [e1] at hx
    exact Int.lt_of_le_of_lt hx (Int.ofNat_lt.mpr h3)
  have neg : ∀ x : Int, 0 ≤ x → -(2 ^ 5000) < x := fun x hx => by
    have e2 : ((2 ^ 5000 : Nat) : Int) = (2 : Int) ^ 5000 := by push_cast; rfl
    have : (0 : Nat) < 2 ^ 5000 := Nat.two_pow_pos _
    rw [← e2]
    generalize (2 ^ 5000 : Nat) = N at this
    omega
  exact mulOk' (neg a ha) (key a k hk ha') (neg b hb) (key b m hm hb')
end Mine
namespace Mine
open PySem PyProof.Rows PySem.W
section
variable {C : Cx} {n : Nat} {sc : Scope} {l : Loc} {ν : Nu}
/-- a statement by what holds behind it -/
theorem TSs_mid {st : Stmt} {rest : List Stmt} {Q : Fl → Loc → Nu → Prop} (P : Loc → Nu → Prop) (h1 : TS C n sc st l ν (fun fl l₁ ν₁ => match fl with | .next => ∃ l₂, Sub l₂ l₁ ∧ P l₂ ν₁ | fl => Q fl l₁ ν₁)) (h2 : ∀ l₁ ν₁, P l₁ ν₁ → TSs C n sc rest l₁ ν₁ Q) : TSs C n sc (st :: rest) l ν Q := by
  intro A env s hA R F
  refine wpAny_execs_cons (wpAny_mono (h1 A env s hA R F) ?_ fun _ _ x => x)
  rintro f s₁ ⟨fl, l₁, ν₁, hf, R₁, F₁, x₁, hq⟩
  cases hf with
  | next => obtain ⟨l₂, hs, hp⟩ := hq; exact wpAny_mono (h2 l₂ ν₁ hp A env s₁ hA R₁ (F₁.sub hs)) (fun _ _ p => p.after x₁) fun _ _ x => x
  | brk => exact ⟨.brk, l₁, ν₁, .brk, R₁, F₁, x₁, hq⟩
  | cont => exact ⟨.cont, l₁, ν₁, .cont, R₁, F₁, x₁, hq⟩
  | ret r => exact ⟨.ret _, l₁, ν₁, .ret r, R₁, F₁, x₁, hq⟩
end
end Mine
namespace Mine
open PySem PyProof.Rows PySem.W
section
variable {C : Cx} {n : Nat} {sc : Scope} {l l₀ : Loc} {ν : Nu}
theorem TS_sub {st : Stmt} {Q : Fl → Loc → Nu → Prop} (hs : Sub l₀ l) (h : TS C n sc st l₀ ν Q) : TS C n sc st l ν Q := fun A env s hA R F => h A env s hA R (F.sub hs)
theorem TSs_sub {st : List Stmt} {Q : Fl → Loc → Nu → Prop} (hs : Sub l₀ l) (h : TSs C n sc st l₀ ν Q) : TSs C n sc st l ν Q := fun A env s hA R F => h A env s hA R (F.sub hs)
theorem TF_sub {t : Expr} {body : List Stmt} {d : D} {Q : Fl → Loc → Nu → Prop} (hs : Sub l₀ l) (h : TF C n sc t body d l₀ ν Q) : TF C n sc t body d l ν Q := fun A env s v hA R F hv => h A env s v hA R (F.sub hs) hv
end
end Mine
namespace Mine
theorem partN_comm (b x y : Nat) : partN b x y = partN b y x := by
  by_cases h : 2 ≤ b ∧ x ≠ y
  · rw [partN_ne h.1 h.2, partN_ne h.1 (Ne.symm h.2), partN_comm b (x / b) (y / b)]
  · have h1 : partN b x y = 0 := by unfold partN; rw [dif_neg h]
    have h2 : partN b y x = 0 := by unfold partN; rw [dif_neg fun q => h ⟨q.1, Ne.symm q.2⟩]
    rw [h1, h2]
termination_by x + y
decreasing_by
  have hx : x / b ≤ x := Nat.div_le_self _ _
  have hy : y / b ≤ y := Nat.div_le_self _ _
  rcases (show 0 < x ∨ 0 < y by omega) with q | q
  · have := Nat.div_lt_self q (show 1 < b by omega); omega
  · have := Nat.div_lt_self q (show 1 < b by omega); omega
end Mine

namespace Mine
open PySem PyProof.Rows PySem.W
open Builtin Builtin.Str

section
variable {C : Cx} {n : Nat} {sc : Scope} {l : Loc} {ν : Nu} {Q : D → Nu → Prop}

-- for over an ascii text
def strIt (x : Str) (t : Tok) (i : Nat) (o : Obj) : Prop := o.cls = .type "str_ascii_iterator" ∧ o.data = .fields #[.str x t, .int i 0]
theorem itOk_str {I : Addr} {x : Str} {t : Tok} : ItOk C I x.cps.size (fun i => .str ⟨#[x.cps.getD i 0]⟩) (fun _ => True) (strIt x t) where
  tup := fun i o h e => by have := e.cls; rw [h.1] at this; simp at this
  own := fun A M i s o Q E t v hI hAt hq => own_plain hI hAt.1 hAt.2 (by decide) hq
  next := fun A i s o ν Q E hh hi R hI hAt hs h => by
    have e1 : x.cps[i]? = some (x.cps.getD i 0) := by simp [hi, Array.getD]
    refine wpAny_pyNext_ascii_item (x := x) (t := t) (i := i) ⟨o, hI, hAt.1, hAt.2⟩ e1 fun h' hit sb => ?_
    obtain ⟨o', ho', hc', hd'⟩ := hit
    exact h _ h' _ o' (.str _ _) (fun b o hb e => (sb.2 b hb).trans e) ho' ⟨hc', hd'⟩
  done := fun A s o ν Q E hh R hI hAt hs h =>
    wpAny_pyNext_ascii_end (x := x) (t := t) (i := x.cps.size) hh ⟨o, hI, hAt.1, hAt.2⟩ (by simp) fun h' he => h h' s.toks fun b o hb e => he b o hb e
theorem TF_str {t : Expr} {body : List Stmt} {x : Str} {Q : Fl → Loc → Nu → Prop} (ha : x.cps.all (· < 128) = true)
    (J : Nat → Loc → Nu → Prop) (hJ : J 0 l ν)
    (turn : ∀ i l ν, i < x.cps.size → J i l ν → TG C n sc t (.str ⟨#[x.cps.getD i 0]⟩) l ν (fun l₁ ν₁ => TSs C n sc body l₁ ν₁ (fun fl l₂ ν₂ => match fl with
      | .next | .cont => ∃ l₃, Sub l₃ l₂ ∧ J (i + 1) l₃ ν₂
      | .brk => Q .next l₂ ν₂
      | .ret d => Q (.ret d) l₂ ν₂)))
    (fin : ∀ l ν, J x.cps.size l ν → Q .next l ν) : TF C n sc t body (.str x) l ν Q := by
  intro A env s v hA R F hv
  cases hv with
  | str _ tk =>
  refine wpAny_pyIter_ascii ha ?_
  exact for_core (s := s) (itOk_str (x := x) (t := tk)) hA F (Fro.push _ _) (R.push _) (Heap.get?_push_size _ rfl) ⟨rfl, rfl⟩ (getNone s) R.fresh F.baseLe R J hJ (fun _ _ _ _ => trivial) turn fin

-- methods of texts
structure SM (name : Str) (id : String) : Prop where
  slot : Slot "str" name id
  type : typeOf (.builtin id) = pure (.type "method_descriptor")
theorem SM_find : SM "find" "str.find" := ⟨F.slot_str_find, F.type_str_find⟩
theorem SM_join : SM "join" "str.join" := ⟨F.slot_str_join, F.type_str_join⟩
def isS : D → Option Str
  | .str x => some x
  | _ => none
theorem TE_methS {o : Expr} {name : Str} {id : String} {apos pos : Pos} {args : List Expr} (M : SM name id)
    (h : TE C n sc o l ν (fun d ν₁ => ∃ x, isS d = some x ∧ TL C n sc args l ν₁ (fun ds ν₂ => TC C n (.builtin id) (d :: ds) ν₂ Q)))
    (ha : ∀ env whole, attributeBase o name env whole = whole) (hst : noSt args = true) (hlen : args.length < 30) (hp : (apos.endLine == pos.line) = true) : TE C n sc (.Call (.Attribute o name apos) args [] pos) l ν Q := by
  refine TE_meth (fun d ν => (isS d).map fun _ => .builtin id) ?_ ?_ (TE_mono h fun d ν' ⟨a, e, q⟩ => ⟨.builtin id, by rw [e]; rfl, q⟩) ha hst hlen hp
  · intro A s v d ν g pl Q E e R hv q
    obtain ⟨a, e1, e2⟩ := Option.map_eq_some_iff.mp e
    subst e2
    cases d <;> simp only [isS, reduceCtorEq] at e1
    cases hv with
    | str _ tk => with_reducible exact GM.of (.str _ tk) (typeIs_str _ _ _) M.slot M.type GM.noRef q
  · intro d ν g h e _
    obtain ⟨a, e1, e2⟩ := Option.map_eq_some_iff.mp e
    subst e2
    exact keep_builtin h
theorem TC_find {x y : Str} (h : Q (.int (Txt.find x y)) ν) : TC C n (.builtin "str.find") [.str x, .str y] ν Q := by
  intro A s vs hA R hb hv
  cases hv with | cons hv hr =>
  cases hr with | cons hx hr =>
  cases hr; cases hv; cases hx
  exact SC.find ⟨_, ν, .int _ _, R, Fro.toks, h⟩
theorem carried_of {h : Heap} : ∀ {vs : List Value} {xs : List Str}, RVs h vs (xs.map .str) → CarriedAll vs (xs.map PyData.str)
  | _, [], r => by cases r; exact .nil
  | _, x :: xs, r => by cases r with | cons a b => cases a; exact .cons (.str _ _) (carried_of b)
theorem join_cps : ∀ cs : List Nat, Str.join (Str.ofString "") (cs.map fun c => (⟨#[c]⟩ : Str)) = ⟨cs.toArray⟩
  | [] => rfl
  | [c] => rfl
  | c :: d :: r => by
    have ih := join_cps (d :: r)
    show (⟨#[c]⟩ : Str) ++ Str.ofString "" ++ Str.join (Str.ofString "") ((d :: r).map fun c => (⟨#[c]⟩ : Str)) = _
    rw [ih]
    apply Str.ext'
    rw [Str.cps_append, Str.cps_append]
    show #[c] ++ (Str.ofString "").cps ++ (d :: r).toArray = (c :: d :: r).toArray
    have : (Str.ofString "").cps = #[] := by decide
    rw [this]; simp
theorem TC_join {a : Addr} {cs : List Nat} (e : ν a = some (.lst (cs.map fun c => .str ⟨#[c]⟩))) (hz : cs.length ≤ 100000) (h : Q (.str ⟨cs.toArray⟩) ν) : TC C n (.builtin "str.join") [.str (Str.ofString ""), .ref a] ν Q := by
  intro A s vs hA R hb hv
  cases hv with | cons hv hr =>
  cases hr with | cons hx hr =>
  cases hr; cases hv; cases hx
  obtain ⟨us, m, ho, r⟩ := R.at_ a _ e
  have r' : RVs s.heap us ((cs.map fun c => (⟨#[c]⟩ : Str)).map .str) := by rw [List.map_map]; exact r
  refine join_madeW (l := cs) (g := fun c => (⟨#[c]⟩ : Str)) 1 (items := us.toArray) ⟨_, ho, rfl, m, rfl⟩ (by simpa using carried_of r') (fun _ _ => by show 1 ≤ 1; omega) (by omega) (by decide) fun t' k => ?_
  have : Txt.join (Str.ofString "") (cs.map fun c => (⟨#[c]⟩ : Str)) = ⟨cs.toArray⟩ := (StrLaws.glued_eq_join _ _).trans (join_cps cs)
  rw [this]
  exact ⟨_, ν, .str _ _, R, Fro.toks, h⟩
theorem T2_itemS {value slice : Expr} {x : Str} {k : Nat} {c : Nat} (hd : x.cps[k]? = some c) (hk : k < 2 ^ 62) (h : Q (.str ⟨#[c]⟩) ν) (hsl : isSl slice = false) :
    T2 C n (subscriptTail value slice) (.str x) (.int k) ν Q := by
  intro A s v u hA R hz hv hu
  cases hv; cases hu
  have hlt : k < x.length := by
    rcases Nat.lt_or_ge k x.cps.size with q | q
    · exact q
    · rw [Array.getElem?_eq_none q] at hd; cases hd
  refine tail_any (typeIs_str _ _ _) F.slot_str_getitem.lookup (P.getItem_str (c := c) ?_ ?_ ⟨_, ν, .str _ _, R, Fro.toks, h⟩) (subscripted_plain hsl _ _)
  · simp; omega
  · have : seqIndex? (k : Int) x.length = some k := by
      unfold seqIndex?
      simp; omega
    rw [this]; exact hd
theorem TE_globS {x : Str} {pos} {y : Str} {t : Tok} (hk : sc.names.lookup x = some .globalImplicit) (hg : C.mg x = some (.str y t)) (h : Q (.str y) ν) (hd : (x == ("__debug__" : Str)) = false) : TE C n sc (.Name x pos) l ν Q := by
  intro A env s hA R F
  refine wpAny_mono (TE_glob (C := C) (n := n) (Q := fun d ν' => d = .val (.str y t) ∧ ν' = ν) hk (.inl hg) ⟨rfl, rfl⟩ hd A env s hA R F) ?_ fun _ _ x => x
  rintro v s₁ ⟨d, ν₁, hv, R₁, x₁, rfl, rfl⟩
  cases hv
  exact ⟨_, _, .str _ _, R₁, x₁, h⟩

-- slices
theorem TP_run {e : Option Expr} {Q : Option Int → Nu → Prop} {A : Around} {env : Env} {s : Shared} (h : TP C n sc e l ν Q) (hA : Aok n A) (R : Ref C ν s.heap) (F : Frm C env sc l ν s.heap) :
    wpAny (model C.prog C.w) A (evalPart e env) (fun v s' => ∃ (p : Option (Int × Tok)) (ν' : Nu), v = partValue p ∧ Ref C ν' s'.heap ∧ Fro no ν ν' s s' ∧ Q (p.map (·.1)) ν') nev s := by
  cases e with
  | none => rw [evalPart_none]; exact wpAny_pure ⟨none, ν, rfl, R, .refl, h⟩
  | some e =>
    rw [evalPart_some]
    refine wpAny_mono (h A env s hA R F) ?_ fun _ _ x => x
    rintro v s₁ ⟨d, ν₁, hv, R₁, x₁, i, rfl, q⟩
    cases hv with
    | int _ t => exact ⟨some (i, t), ν₁, rfl, R₁, x₁, q⟩
theorem isPart_of (p : Option (Int × Tok)) : IsPart (partValue p) (p.map (·.1)) := by
  cases p with
  | none => exact .none
  | some q => exact .int _ _
/-- an item by a slice of two parts -/
def TSl (C : Cx) (n : Nat) (T : String) (o : D) (lo hi : Option Int) (ν : Nu) (Q : D → Nu → Prop) : Prop :=
  ∀ A s v a p q, Aok n A → Ref C ν s.heap → C.base.objs.size ≤ s.heap.objs.size → RV s.heap v o → s.heap.get? a = some { cls := .type "slice", data := .fields #[partValue p, partValue q, .none] } → p.map (·.1) = lo → q.map (·.1) = hi →
    s.TypeIs v T ∧ wpAny (model C.prog C.w) A (getItem v (.ref a)) (PostV C ν s Q) nev s
theorem TE_slice (T : String) {id : String} {value : Expr} {lower upper : Option Expr} {p pos : Pos} (hl : typeLookup (.type T) "__getitem__" = pure (some (.builtin id)))
    (h : TE C n sc value l ν (fun o ν₁ => TP C n sc lower l ν₁ (fun lo ν₂ => TP C n sc upper l ν₂ (fun hi ν₃ => TSl C n T o lo hi ν₃ Q))))
    (ht : ∀ o r, letTemporaryGo value o r = pure ()) : TE C n sc (.Subscript value (.Slice lower upper none p) pos) l ν Q := by
  intro A env s hA R F
  refine wpAny_Subscript_Slice (T := T) hl (wpAny_mono (h A env s hA R F) ?_ fun _ _ x => x) ht
  rintro v s₁ ⟨d, ν₁, hv, R₁, x₁, q1⟩
  have F₁ := F.fro R x₁
  refine wpAny_Slice (wpAny_mono (TP_run q1 hA R₁ F₁) ?_ fun _ _ x => x)
  rintro _ s₂ ⟨p, ν₂, rfl, R₂, x₂, q2⟩
  have F₂ := F₁.fro R₁ x₂
  refine wpAny_mono (TP_run q2 hA R₂ F₂) ?_ fun _ _ x => x
  rintro _ s₃ ⟨p', ν₃, rfl, R₃, x₃, q3⟩
  have F₃ := F₂.fro R₂ x₃
  rw [evalPart_none]
  refine wpAny_pure ?_
  have x₄ : Fro no ν₃ ν₃ s₃ { s₃ with heap := s₃.heap.push { cls := .type "slice", data := .fields #[partValue p, partValue p', .none] } } := Fro.push _ _
  have R₄ : Ref C ν₃ (s₃.heap.push { cls := .type "slice", data := .fields #[partValue p, partValue p', .none] }) := R₃.push _
  obtain ⟨ty, g⟩ := q3 A { s₃ with heap := s₃.heap.push { cls := .type "slice", data := .fields #[partValue p, partValue p', .none] } } v s₃.heap.objs.size p p' hA R₄ (F₃.fro R₃ x₄).baseLe (((hv.fro R₁ x₂).fro R₂ x₃).fro R₃ x₄) (Heap.get?_push_size _ rfl) rfl rfl
  exact ⟨ty, wpAny_mono g (fun _ _ p => (((p.after x₄).after x₃).after x₂).after x₁) fun _ _ x => x⟩
theorem TSl_str {x : Str} {lo hi : Option Int} (hz : x.length ≤ 100000) (h : Q (.str (Txt.slice x lo hi)) ν) : TSl C n "str" (.str x) lo hi ν Q := by
  intro A s v a p q hA R hb hv ho hp hq
  subst hp hq
  cases hv
  refine ⟨typeIs_str _ _ _, wpAny_getItem_str_slice (l := p) (u := q) (st := none) ⟨_, ho, rfl, rfl⟩ rfl (post_val_or_str ⟨Nat.le_trans (Txt.slice_le x _ _) (by rw [sizeLine_eq]; omega), fun t' k => ⟨_, ν, .str _ _, R, Fro.toks, h⟩⟩)⟩
theorem TSl_list {a : Addr} {ds : List D} {lo hi : Option Int} (e : seqOf (ν a) = some ds) (hz : ds.length ≤ 100000) (h1 : pos0 lo) (h2 : pos0 hi) (h : ∀ r, ν r = none → Q (.ref r) (upd ν r (.lst (cut lo hi ds)))) : TSl C n "list" (.ref a) lo hi ν Q := by
  intro A s v sa p q hA R hb hv ho hp hq
  subst hp hq
  cases hv
  obtain ⟨us, m, hl, r⟩ := R.seq e
  have il : s.heap.IsList a us.toArray := ⟨_, hl, rfl, m, rfl⟩
  refine ⟨il.typeIs, wpAny_getItem_list_slice il ⟨_, ho, rfl, rfl⟩ (isPart_of p) (isPart_of q) .none (by simp) ?_ (by rw [sizeLine_eq]; simp [r.length]; omega)⟩
  refine post_new (o := .lst (cut (p.map (·.1)) (q.map (·.1)) ds)) R (getNone s) R.fresh hb (fun b o e => Heap.get?_push_of_some _ e) ⟨(slicePick us.toArray (p.map (·.1)) (q.map (·.1)) none).toList, 0, ?_, (cut_vals r h1 h2).keep (TupKeep.push _)⟩ (h _ R.fresh)
  rw [Heap.get?_push_size _ rfl]; unfold lstObj; simp
end
end Mine

namespace Mine
open PySem PyProof.Rows PySem.W
theorem upd_upd {ν : Nu} {r : Addr} {o o' : AObj} : upd (upd ν r o) r o' = upd ν r o' := by
  funext a; unfold upd; split <;> rfl
/-- the figures of a number, the least first -/
def digs (b x : Nat) : List Nat := if h : 2 ≤ b ∧ 0 < x then x % b :: digs b (x / b) else []
termination_by x
decreasing_by exact Nat.div_lt_self h.2 (by omega)
theorem digs_zero (b : Nat) : digs b 0 = [] := by unfold digs; simp
theorem digs_pos {b x : Nat} (hb : 2 ≤ b) (hx : 0 < x) : digs b x = x % b :: digs b (x / b) := by
  conv => lhs; unfold digs
  rw [dif_pos ⟨hb, hx⟩]
theorem digs_lt {b : Nat} (hb : 2 ≤ b) (x : Nat) : ∀ d ∈ digs b x, d < b := by
  rcases Nat.eq_zero_or_pos x with h | h
  · subst h; rw [digs_zero]; simp
  · rw [digs_pos hb h]
    have ih := digs_lt hb (x / b)
    intro d hd
    rcases List.mem_cons.mp hd with q | q
    · subst q; exact Nat.mod_lt _ (by omega)
    · exact ih d q
termination_by x
decreasing_by exact Nat.div_lt_self h (by omega)
/-- the number of figures, the greatest first -/
def valD (b : Nat) (ds : List Nat) : Nat := ds.foldl (fun m d => m * b + d) 0
theorem valD_snoc (b : Nat) (ds : List Nat) (d : Nat) : valD b (ds ++ [d]) = valD b ds * b + d := by simp [valD]
theorem valD_step {b : Nat} {ds : List Nat} {i d : Nat} (h : ds[i]? = some d) : valD b (ds.take (i + 1)) = valD b (ds.take i) * b + d := by
  rw [List.take_add_one, h]; exact valD_snoc ..
theorem valD_take {b : Nat} (hb : 2 ≤ b) (ds : List Nat) (i : Nat) : valD b (ds.take i) ≤ valD b ds := by
  have key : ∀ (ys : List Nat) (m : Nat), m ≤ ys.foldl (fun m d => m * b + d) m := fun ys => by
    induction ys with
    | nil => intro m; exact Nat.le_refl _
    | cons y ys ih =>
      intro m
      refine Nat.le_trans ?_ (ih (m * b + y))
      have : m * 1 ≤ m * b := Nat.mul_le_mul_left m (by omega)
      omega
  conv => rhs; rw [← List.take_append_drop i ds]
  unfold valD
  rw [List.foldl_append]
  exact key _ _
theorem valD_digs {b : Nat} (hb : 2 ≤ b) (x : Nat) : valD b (digs b x).reverse = x := by
  rcases Nat.eq_zero_or_pos x with h | h
  · subst h; rw [digs_zero]; rfl
  · rw [digs_pos hb h, List.reverse_cons, valD_snoc, valD_digs hb (x / b)]
    rw [Nat.mul_comm]; exact Nat.div_add_mod x b
termination_by x
decreasing_by exact Nat.div_lt_self h (by omega)
theorem digs_len {b : Nat} (hb : 2 ≤ b) : ∀ (k x : Nat), x < 2 ^ k → (digs b x).length ≤ k
  | 0, x, h => by have : x = 0 := by omega
                  subst this; rw [digs_zero]; simp
  | k + 1, x, h => by
    rcases Nat.eq_zero_or_pos x with q | q
    · subst q; rw [digs_zero]; simp
    · rw [digs_pos hb q, List.length_cons]
      have : x / b ≤ x / 2 := Nat.div_le_div_left hb (by omega)
      have := digs_len hb k (x / b) (by rw [Nat.pow_succ] at h; omega)
      omega
theorem digs_top {b : Nat} (hb : 2 ≤ b) (x : Nat) : (digs b x).getLast? ≠ some 0 := by
  rcases Nat.eq_zero_or_pos x with h | h
  · subst h; rw [digs_zero]; simp
  · rw [digs_pos hb h]
    have ih := digs_top hb (x / b)
    rcases Nat.eq_zero_or_pos (x / b) with q | q
    · rw [q, digs_zero]
      have e := Nat.div_add_mod x b
      rw [q] at e
      simp; omega
    · rw [digs_pos hb q] at ih ⊢
      rw [List.getLast?_cons_cons]; exact ih
termination_by x
decreasing_by exact Nat.div_lt_self h (by omega)
/-- the figures as they are written -/
def dg (b x : Nat) : List Nat := if x = 0 then [0] else (digs b x).reverse
theorem dg_ne {b x : Nat} (hb : 2 ≤ b) : dg b x ≠ [] := by
  unfold dg; split
  · simp
  · rename_i h; rw [digs_pos hb (by omega)]; simp
theorem dg_lt {b x : Nat} (hb : 2 ≤ b) : ∀ d ∈ dg b x, d < b := by
  unfold dg; split
  · intro d hd; have : d = 0 := by simpa using hd
    omega
  · intro d hd; exact digs_lt hb x d (by simpa using hd)
theorem dg_val {b x : Nat} (hb : 2 ≤ b) : valD b (dg b x) = x := by
  unfold dg; split
  · rename_i h; subst h; simp [valD]
  · exact valD_digs hb x
theorem dg_top {b x : Nat} (hb : 2 ≤ b) (h : 1 < (dg b x).length) : (dg b x).head? ≠ some 0 := by
  unfold dg at h ⊢; split
  · rename_i q; rw [if_pos q] at h; simp at h
  · rw [List.head?_reverse]; exact digs_top hb x
theorem dg_len {b x : Nat} (hb : 2 ≤ b) (hx : x ≤ 10 ^ 300) : (dg b x).length ≤ 1000 := by
  unfold dg; split
  · simp
  · rw [List.length_reverse]; exact digs_len hb 1000 x (Nat.lt_of_le_of_lt hx (by decide +kernel))
def sg (d : Nat) : Nat := [48, 49, 50, 51, 52, 53, 54, 55, 56, 57, 97, 98, 99, 100, 101, 102].getD d 0
def txt (ds : List Nat) : Str := ⟨(ds.map sg).toArray⟩
theorem SG_at : ∀ d < 16, (Str.ofString "0123456789abcdef").cps[d]? = some (sg d) := by decide +kernel
theorem SG_find : ∀ d : Nat, d < 16 → Txt.find (Str.ofString "0123456789abcdef") ⟨#[sg d]⟩ = (d : Int) := by decide +kernel
theorem SG_good : ∀ b : Nat, b < 17 → ∀ d : Nat, d < b → Txt.find (Txt.slice (Str.ofString "0123456789abcdef") none (some (b : Int))) ⟨#[sg d]⟩ = (d : Int) := by decide +kernel
theorem SG_nought : ∀ d < 16, ((⟨#[sg d]⟩ : Str) = Str.ofString "0") = (d = 0) := by
  have : ∀ d < 16, decide ((⟨#[sg d]⟩ : Str) = Str.ofString "0") = decide (d = 0) := by decide +kernel
  intro d hd
  have := this d hd
  exact propext (decide_eq_decide.mp this)
theorem sg_small : ∀ d < 16, sg d < 128 := by decide
theorem txt_ascii {b : Nat} (hb : b ≤ 16) {ds : List Nat} (h : ∀ d ∈ ds, d < b) : (txt ds).cps.all (· < 128) = true := by
  rw [Array.all_eq_true']
  intro c hc
  have : c ∈ ds.map sg := by simpa [txt] using hc
  obtain ⟨d, hd, rfl⟩ := List.mem_map.mp this
  have := h d hd
  simpa using sg_small d (by omega)
theorem txt_size (ds : List Nat) : (txt ds).cps.size = ds.length := by simp [txt]
theorem txt_length (ds : List Nat) : (txt ds).length = ds.length := txt_size ds
theorem txt_at {ds : List Nat} {i d : Nat} (h : ds[i]? = some d) : (txt ds).cps.getD i 0 = sg d := by
  have : (txt ds).cps[i]? = some (sg d) := by simp [txt, h]
  simp [this]
theorem txt_at? {ds : List Nat} {i d : Nat} (h : ds[i]? = some d) : (txt ds).cps[i]? = some (sg d) := by simp [txt, h]
theorem txt_zero : txt [0] = Str.ofString "0" := by decide +kernel
theorem txt_empty {ds : List Nat} (h : ds ≠ []) : txt ds ≠ Str.ofString "" := fun e => by
  have := congrArg Str.length e
  rw [txt_length] at this
  exact h (List.length_eq_zero_iff.mp (this.trans (by decide)))
theorem mg_str {C : Cx} {K' : Frag} (hK : C.K = K') {x y : Str} {t : Tok} (e : nsIn K' mainGlobals x = some (some (.str y t))) : C.mg x = some (.str y t) := mg_is (hK ▸ e)
theorem ite_nt {A B : Prop} (h : B) : if (!true) = true then A else B := by simpa using h
theorem ite_nf {A B : Prop} (h : A) : if (!false) = true then A else B := by simpa using h
theorem TE_sub' {C : Cx} {n : Nat} {sc : Scope} {l : Loc} {ν : Nu} {Q : D → Nu → Prop} {value slice : Expr} {pos} (h : TE C n sc value l ν (fun o ν₁ => TE C n sc slice l ν₁ (fun i ν₂ => T2 C n (subscriptTail value slice) o i ν₂ Q))) (_ : isSl slice = false) : TE C n sc (.Subscript value slice pos) l ν Q := TE_sub h
end Mine

open PySem PySem.W PyProof.Rows
set_option maxRecDepth 100000
set_option maxHeartbeats 8000000
open_top hd03 for PySem.Challenge.rw_uf060022_03

set_option maxRecDepth 100000
set_option maxHeartbeats 4000000
namespace Mine
open PySem PyProof.Rows PySem.W
theorem fill03 : PySem.Challenge.rw_uf060022_03 = PySem.Challenge.rw_uf060022_03 → hd03.heap_39 = hd03.heap_39 → True := by k_fill; intros; trivial
local macro_rules | `(tactic| walk_at "m.ne") => `(tactic| exact ofString_ne (by decide))
local macro_rules | `(tactic| walk_at "m.lk") => `(tactic| first | with_reducible exact lk_here | with_reducible exact lk_same | (with_reducible (apply lk_other); (case h => walk_at "m.ne"); walk_at "m.lk") | (with_reducible (apply lk_there); (case h => walk_at "m.ne"); walk_at "m.lk"))
local macro_rules | `(tactic| walk_at "m.lkn") => `(tactic| first | exact lkn_nil | (refine lkn_other (by walk_at "m.ne") ?_; walk_at "m.lkn") | (refine lkn_there (by walk_at "m.ne") ?_; walk_at "m.lkn"))
local macro_rules | `(tactic| walk_at "m.sub") => `(tactic| first | exact Sub_nil | exact Sub_refl | (refine Sub_cons (by walk_at "m.lk") ?_; walk_at "m.sub"))
local macro_rules | `(tactic| walk_at "m.bind") => `(tactic| (intro vs hvs; first | (obtain ⟨a, e⟩ := len1 hvs; subst e; rfl) | (obtain ⟨a, b, e⟩ := len2 hvs; subst e; rfl) | (obtain ⟨a, b, c, e⟩ := len3 hvs; subst e; rfl) | (obtain ⟨a, b, c, d, e⟩ := len4 hvs; subst e; rfl)))
local macro_rules | `(tactic| walk_at "m.kinds") => `(tactic| (simp only [List.forall_mem_cons, List.not_mem_nil, false_implies, implies_true, and_true]; first | exact Or.inl rfl | exact Or.inr rfl | exact ⟨by walk_at "m.sto", by walk_at "m.sto"⟩ | exact ⟨by walk_at "m.sto", by walk_at "m.sto", by walk_at "m.sto"⟩ | exact ⟨by walk_at "m.sto", by walk_at "m.sto", by walk_at "m.sto", by walk_at "m.sto"⟩))
local macro_rules | `(tactic| walk_at "m.def") => `(tactic| (refine' mkDef (by assumption) ?a ?b ?c ?d ?e ?f ?g ?h ?i; (case a => k_is); (case b => k_is); (case c => k_is); (case d => walk_at "m.bind"); (case e => rfl); (case f => rfl); (case g => rfl); (case h => decide); (case i => walk_at "m.kinds")))
local macro_rules | `(tactic| walk_at "m.fn") => `(tactic| (refine' mkFn (by assumption) ?a ?b; (case a => k_is); (case b => k_is)))
local macro_rules | `(tactic| walk_at "m.sto") => `(tactic| first | exact Or.inl rfl | exact Or.inr rfl)
local macro_rules | `(tactic| walk_at "m.bb") => `(tactic| with_reducible first | exact bb_len | exact bb_isinstance | exact bb_range | exact bb_int | exact bb_bool | exact bb_str | exact bb_tuple | exact bb_list | exact bb_min | exact bb_max | exact bb_sorted)
local macro_rules | `(tactic| walk_at "m.glob") => `(tactic| (refine' G_blt (by assumption) ?a ?b ?c; (case a => k_is); (case b => walk_at "m.bb"); (case c => exact ofString_ne (by decide))))
local macro_rules | `(tactic| walk_at "m.call") => `(tactic| first
  | (refine' TE_callN ?h1 ?h2 ?_ ?h3 ?h4; (case h2 => walk_at "m.fn"); (case h1 => rfl); (case h3 => exact ofString_beq (by decide)); (case h4 => rfl))
  | (refine' TE_callB ?h1 ?h2 ?_ ?h3 ?h4; (case h2 => walk_at "m.glob"); (case h1 => rfl); (case h3 => exact ofString_beq (by decide)); (case h4 => rfl))
  | (refine' TE_callT ?h1 ?h2 ?_ ?h3 ?h4; (case h2 => walk_at "m.glob"); (case h1 => rfl); (case h3 => exact ofString_beq (by decide)); (case h4 => rfl)))
local macro_rules | `(tactic| walk_at "m.name") => `(tactic| first
  | (refine' TE_name ?h1 ?_ ?h2 ?h3; (case h1 => walk_at "m.lk"); (case h2 => exact ofString_beq (by decide)); (case h3 => exact ofString_beq (by decide)))
  | (refine' TE_glob ?h1 ?h2 ?_ ?h3; (case h2 => walk_at "m.glob"); (case h1 => rfl); (case h3 => exact ofString_beq (by decide)))
  | (refine' TE_globS ?h1 (mg_str (by assumption) ?h2) ?_ ?h3; (case h2 => k_is); (case h1 => rfl); (case h3 => exact ofString_beq (by decide))))
local macro_rules | `(tactic| walk_at "m.step") => `(tactic| first
  | (with_reducible first
    | refine TSs_cons ?_
    | refine TSs_nil ?_
    | refine TS_if ?_
    | refine TS_ret ?_
    | refine TE_int ?_
    | refine TE_str ?_
    | refine TE_bool ?_
    | refine TE_none ?_
    | refine TE_bin ?_
    | refine TB_not ?_
    | refine TB_boolop ?_
    | refine TA_and ?_
    | refine TA_or ?_
    | refine TA_and_nil ?_
    | refine TA_or_nil ?_
    | refine TE_boolop ?_
    | refine TO_one ?_
    | refine TO_and ?_
    | refine TO_or ?_
    | refine TE_un ?_
    | refine T1_not ?_
    | refine T1_neg ?_
    | refine TL_nil ?_
    | refine T2_add ?_
    | refine T2_sub ?_
    | refine T2_lt ?_
    | refine T2_gt ?_
    | refine T2_le ?_
    | refine T2_ge ?_
    | refine T2_eq ?_
    | refine T2_ne ?_
    | refine T2_eqS ?_
    | refine T2_neS ?_
    | refine TT_bool ?_
    | refine ite_t ?_
    | refine ite_f ?_
    | refine ite_nt ?_
    | refine ite_nf ?_)
  | ((with_reducible show TE _ _ _ (Expr.Name _ _) _ _ _); walk_at "m.name")
  | ((with_reducible show TE _ _ _ (Expr.Call (Expr.Name _ _) _ [] _) _ _ _); walk_at "m.call")
  | ((with_reducible show TL _ _ _ (_ :: _) _ _ _); refine TL_cons ?_ rfl)
  | ((with_reducible show TS _ _ _ (Stmt.Assign [Expr.Name _ _] _ _) _ _ _); refine TS_assign ?_ (by walk_at "m.sto") (fun _ => rfl))
  | ((with_reducible show TS _ _ _ (Stmt.Expr _ _) _ _ _); refine TS_expr ?_ (fun _ => rfl))
  | ((with_reducible show TB _ _ _ (Expr.Compare _ [_] [_] _) _ _ _); refine TB_cmp ?_ rfl)
  | ((with_reducible show TE _ _ _ (Expr.Compare _ [_] [_] _) _ _ _); refine TE_cmp ?_ rfl)
  | ((with_reducible show TE _ _ _ (Expr.Subscript _ _ _) _ _ _); refine TE_sub' ?_ rfl)
  | ((with_reducible show TB _ _ _ (Expr.Call _ _ _ _) _ _ _); refine TB_val ?_ (fun _ _ => rfl))
  | ((with_reducible show TB _ _ _ (Expr.Name _ _) _ _ _); refine TB_val ?_ (fun _ _ => rfl)))
local macro_rules | `(tactic| walk_at "m.pow") => `(tactic| ((with_reducible show T2 _ _ (binaryOp Operator.Pow) _ _ _ _); first | (refine T2_powN 60 ?hk (by decide) ?_; (case hk => decide)) | (refine T2_powN 12 ?hk (by decide) ?_; (case hk => decide)) | (refine T2_powN 64 ?hk (by decide) ?_; (case hk => decide)) | (refine T2_powN 9 ?hk (by decide) ?_; (case hk => decide)) | (refine T2_powN 40 ?hk (by decide) ?_; (case hk => decide)) | (refine T2_powN 6 ?hk (by decide) ?_; (case hk => decide)) | (refine T2_powN 30 ?hk (by decide) ?_; (case hk => decide))))
section
variable {C : Cx} (hK : C.K = hd03.heap_39 C.w.params) {n : Nat} {ν : Nu} {Q : D → Nu → Prop}
include hK
theorem need_base_ok {b : Int} (h1 : 2 ≤ b) (h2 : b ≤ 16) (h : Q .none ν) : TN C (n + 1) (Str.ofString "need_base") [.int b] ν Q := by
  refine' TN_def (names := [Str.ofString "base"]) ?D rfl ?_
  case D => walk_at "m.def"
  dsimp only [List.zip, List.zipWith]
  repeat' (walk_at "m.step")
  refine ite_dec (fun h => by omega) fun h' => ?_
  repeat' (walk_at "m.step")
  refine ite_dec (fun h => by omega) fun h' => ?_
  repeat' (walk_at "m.step")
  exact h
theorem need_number_ok {b : Int} (h1 : 0 ≤ b) (h : Q .none ν) : TN C (n + 1) (Str.ofString "need_number") [.int b] ν Q := by
  refine' TN_def (names := [Str.ofString "number"]) ?D rfl ?_
  case D => walk_at "m.def"
  dsimp only [List.zip, List.zipWith]
  repeat' (walk_at "m.step")
  refine ite_dec (fun h => by omega) fun h' => ?_
  repeat' (walk_at "m.step")
  exact h
theorem cell_ok {a : Addr} {ns : List Int} {k : Nat} (e : ν a = some (.scr (ns.map .int))) (hz : ns.length ≤ 63) (hk : k < 1000) (h : Q (.int (cellD ns k)) ν) : TN C (n + 1) (Str.ofString "_law_cell_at") [.ref a, .int k] ν Q := by
  refine' TN_def (names := [Str.ofString "_law_script", Str.ofString "_law_k"]) ?D rfl ?_
  case D => walk_at "m.def"
  dsimp only [List.zip, List.zipWith]
  repeat' (walk_at "m.step")
  refine TC_lenL (ds := ns.map .int) (by rw [e]; rfl) (by simp; omega) ?_
  repeat' (walk_at "m.step")
  refine ite_dec (fun hr => ?_) fun hr => ?_
  · repeat' (walk_at "m.step")
    simp only [List.length_map] at hr
    refine T2_itemL (ds := ns.map .int) (d := .int (cellD ns k)) (by rw [e]; rfl) (by omega) (by omega) ?_ h rfl
    have : k < ns.length := by omega
    simp [cellD, this]
  · repeat' (walk_at "m.step")
    simp only [List.length_map] at hr
    have : cellD ns k = 0 := by
      unfold cellD
      rw [List.getD_eq_getElem?_getD, List.getElem?_eq_none (by omega)]; rfl
    rw [this] at h
    exact h
theorem whole_ok {i : Int} (h : Q (.bool true) ν) : TN C (n + 1) (Str.ofString "_law_whole") [.int i] ν Q := by
  refine' TN_def (names := [Str.ofString "_law_found"]) ?D rfl ?_
  case D => walk_at "m.def"
  dsimp only [List.zip, List.zipWith]
  repeat' (walk_at "m.step")
  refine TC_isi_int ?_
  repeat' (walk_at "m.step")
  refine TC_isi_int_bool ?_
  repeat' (walk_at "m.step")
  exact h
theorem far_ok {c : Int} (h : ∀ m : Nat, m ≤ 10 ^ 300 → Q (.int m) ν) : TN C (n + 1) (Str.ofString "_law_far_by") [.int c] ν Q := by
  refine TN_drop ?_
  refine' TN_def (names := [Str.ofString "_law_cell"]) ?D rfl ?_
  case D => walk_at "m.def"
  dsimp only [List.zip, List.zipWith]
  repeat' (first | walk_at "m.step" | walk_at "m.pow")
  refine T2_mul (mulOk10 60 60 (by omega) (by omega) (by omega) (by omega)) ?_
  repeat' (first | walk_at "m.step" | walk_at "m.pow")
  refine T2_mul (mulOk10 120 60 (by omega) (by omega) (by omega) (by omega)) ?_
  repeat' (first | walk_at "m.step" | walk_at "m.pow")
  refine T2_mod (by omega) ?_
  repeat' (first | walk_at "m.step" | walk_at "m.pow")
  have f1 := fmod_pos c (b := 10 ^ 60) (by omega)
  have f2 := fmod_pos c (b := 4) (by omega)
  have f3 := fmod_pos c (b := 10 ^ 64) (by omega)
  refine TE_list ?_
  repeat' (first | walk_at "m.step" | walk_at "m.pow")
  refine T2_mul (mulOk10 60 60 (by omega) (by omega) (by omega) (by omega)) ?_
  repeat' (first | walk_at "m.step" | walk_at "m.pow")
  refine T2_mul (mulOk10 180 9 (by omega) (by omega) (by omega) (by omega)) ?_
  repeat' (first | walk_at "m.step" | walk_at "m.pow")
  refine ⟨by simp, fun r hr => ?_⟩
  repeat' (first | walk_at "m.step" | walk_at "m.pow")
  refine T2_mod (by omega) ?_
  obtain ⟨d, hd, d0, d1⟩ : ∃ d : Int, [D.int (10 ^ 60), D.int (10 ^ 60 * 10 ^ 60), D.int (10 ^ 60 * 10 ^ 60 * 10 ^ 60), D.int (10 ^ 60 * 10 ^ 60 * 10 ^ 60 * 10 ^ 9)][(c.fmod 4).toNat]? = some (.int d) ∧ 0 ≤ d ∧ d ≤ 10 ^ 200 := by
    have h4 : (c.fmod 4).toNat = 0 ∨ (c.fmod 4).toNat = 1 ∨ (c.fmod 4).toNat = 2 ∨ (c.fmod 4).toNat = 3 := by omega
    rcases h4 with e | e | e | e <;> rw [e]
    · exact ⟨_, rfl, by omega, by omega⟩
    · exact ⟨_, rfl, by omega, by omega⟩
    · exact ⟨_, rfl, by omega, by omega⟩
    · exact ⟨_, rfl, by omega, by omega⟩
  refine T2_itemL (by rw [upd_same]; rfl) (by omega) (by omega) hd ?_ rfl
  refine T2_mul (mulOk10 61 200 (by omega) (by omega) d0 d1) ?_
  repeat' (first | walk_at "m.step" | walk_at "m.pow")
  refine T2_mod (by omega) ?_
  repeat' (first | walk_at "m.step" | walk_at "m.pow")
  refine ⟨Ext.refl.upd hr, ?_⟩
  have hp := Int.mul_nonneg (show 0 ≤ 1 + c.fmod (10 ^ 60) by omega) d0
  obtain ⟨m, hm⟩ := toN (Int.add_nonneg hp f3.1)
  rw [hm]
  refine h m ?_
  have hq : (1 + c.fmod (10 ^ 60)) * d ≤ 10 ^ 61 * 10 ^ 200 := Int.mul_le_mul (by omega) d1 d0 (by omega)
  omega
theorem number_ok {c w : Int} (h : ∀ m : Nat, m ≤ 10 ^ 300 → Q (.int m) ν) : TN C (n + 2) (Str.ofString "_law_number_by") [.int c, .int w] ν Q := by
  refine' TN_def (names := [Str.ofString "_law_cell", Str.ofString "_law_way"]) ?D rfl ?_
  case D => walk_at "m.def"
  dsimp only [List.zip, List.zipWith]
  have fin : ∀ b : Int, 0 < b → b ≤ 10 ^ 300 → Q (.int (c.fmod b)) ν := fun b hb hb' => by
    obtain ⟨m, hm⟩ := toN (fmod_pos c hb).1
    have := (fmod_pos c hb).2
    rw [hm] at this ⊢; exact h m (by omega)
  repeat' (first | walk_at "m.step" | walk_at "m.pow" | (refine T2_mod (by omega) ?_) | (refine ite_dec (fun hr => ?_) fun hr => ?_))
  · exact fin _ (by omega) (by omega)
  · exact fin _ (by omega) (by omega)
  · exact fin _ (by omega) (by omega)
  · exact fin _ (by omega) (by omega)
  · exact far_ok hK h
theorem shown_ok {x b : Nat} (h1 : 2 ≤ b) (h2 : b ≤ 16) (hx : x ≤ 10 ^ 300) (h : Q (.str (txt (dg b x))) ν) : TN C (n + 2) (Str.ofString "shown") [.int x, .int b] ν Q := by
  refine TN_drop ?_
  refine' TN_def (names := [Str.ofString "number", Str.ofString "base"]) ?D rfl ?_
  case D => walk_at "m.def"
  dsimp only [List.zip, List.zipWith]
  repeat' (walk_at "m.step")
  refine need_base_ok (b := (b : Int)) hK (by omega) (by omega) ?_
  repeat' (walk_at "m.step")
  refine need_number_ok (b := (x : Int)) hK (by omega) ?_
  repeat' (walk_at "m.step")
  refine ite_dec (fun hr => ?_) fun hr => ?_
  · repeat' (walk_at "m.step")
    have : x = 0 := by omega
    subst this
    refine ⟨Ext.refl, ?_⟩
    rw [show dg b 0 = [0] from rfl, txt_zero] at h
    exact h
  repeat' (walk_at "m.step")
  refine TE_list ?_
  repeat' (walk_at "m.step")
  refine ⟨by simp, fun r hn => ?_⟩
  repeat' (walk_at "m.step")
  have hl := digs_len h1 1000 x (Nat.lt_of_le_of_lt hx (by decide +kernel))
  refine TS_sub (l₀ := [(Str.ofString "base", .int b), (Str.ofString "signs", .ref r), (Str.ofString "rest", .int x)]) (by walk_at "m.sub") ?_
  refine TS_while (fun k l ν' => ∃ ks : List Nat, ν' = upd ν r (.lst ((ks.map sg).map fun c => .str ⟨#[c]⟩)) ∧ ks ++ digs b k = digs b x ∧ l = [(Str.ofString "base", .int b), (Str.ofString "signs", .ref r), (Str.ofString "rest", .int k)]) x ⟨[], rfl, rfl, rfl⟩ ?_
  rintro k l ν' ⟨ks, rfl, hc, rfl⟩
  have hkl : ks.length ≤ 1000 := by
    have := congrArg List.length hc
    simp at this; omega
  repeat' (walk_at "m.step")
  refine ite_dec (fun hr => ?_) fun hr => ?_
  · repeat' (walk_at "m.step")
    refine TE_methL LM_append ?_ (fun _ _ => rfl) rfl (by decide) rfl
    repeat' (walk_at "m.step")
    refine ⟨r, by simp only [isL, upd_same], ?_⟩
    repeat' (walk_at "m.step")
    refine T2_mod (by omega) ?_
    rw [fmodN]
    have hm := Nat.mod_lt k (show 0 < b by omega)
    refine T2_itemS (SG_at _ (by omega)) (by omega) ?_ rfl
    repeat' (walk_at "m.step")
    refine TC_append (upd_same) (by simp; omega) ?_
    rw [upd_upd]
    repeat' (walk_at "m.step")
    refine T2_div (by omega) (by omega) ?_
    rw [fdivN]
    repeat' (walk_at "m.step")
    refine ⟨k / b, _, Nat.div_lt_self (by omega) (by omega), ?_, ks ++ [k % b], ?_, ?_, rfl⟩
    · walk_at "m.sub"
    · simp
    · rw [digs_pos h1 (show 0 < k by omega)] at hc
      simpa using hc
  · have : k = 0 := by omega
    subst this
    rw [digs_zero, List.append_nil] at hc
    subst hc
    repeat' (walk_at "m.step")
    refine TE_methL LM_reverse ?_ (fun _ _ => rfl) rfl (by decide) rfl
    repeat' (walk_at "m.step")
    refine ⟨r, by simp only [isL, upd_same], ?_⟩
    repeat' (walk_at "m.step")
    refine TC_reverse upd_same (by simp; omega) ?_
    rw [upd_upd]
    repeat' (walk_at "m.step")
    refine TE_methS SM_join ?_ (fun _ _ => rfl) rfl (by decide) rfl
    repeat' (walk_at "m.step")
    refine ⟨_, rfl, ?_⟩
    repeat' (walk_at "m.step")
    refine TC_join (cs := ((digs b x).reverse).map sg) ?_ (by simp; omega) ?_
    · rw [upd_same]; simp
    repeat' (walk_at "m.step")
    refine ⟨Ext.refl.upd hn, ?_⟩
    have : dg b x = (digs b x).reverse := if_neg (by omega)
    rw [this] at h
    exact h
theorem read_ok {ds : List Nat} {b : Nat} (h1 : 2 ≤ b) (h2 : b ≤ 16) (hne : ds ≠ []) (hlt : ∀ d ∈ ds, d < b) (htop : 1 < ds.length → ds.head? ≠ some 0) (hv : valD b ds ≤ 10 ^ 300) (hz : ds.length ≤ 1000) (h : Q (.int (valD b ds)) ν) : TN C (n + 2) (Str.ofString "read") [.str (txt ds), .int b] ν Q := by
  refine' TN_def (names := [Str.ofString "line", Str.ofString "base"]) ?D rfl ?_
  case D => walk_at "m.def"
  dsimp only [List.zip, List.zipWith]
  have hpos : 0 < ds.length := List.length_pos_iff.mpr hne
  repeat' (walk_at "m.step")
  refine need_base_ok (b := (b : Int)) hK (by omega) (by omega) ?_
  repeat' (walk_at "m.step")
  refine TC_lenS (by rw [txt_length]; omega) ?_
  rw [txt_length]
  repeat' (walk_at "m.step")
  refine ite_dec (fun hr => absurd hr (by omega)) fun _ => ?_
  repeat' (walk_at "m.step")
  refine TC_lenS (by rw [txt_length]; omega) ?_
  rw [txt_length]
  repeat' (walk_at "m.step")
  obtain ⟨d0, hd0⟩ : ∃ d, ds[0]? = some d := ⟨ds[0], by simp [hpos]⟩
  have hb0 : d0 < b := hlt d0 (List.mem_of_getElem? hd0)
  refine ite_dec (fun hr => ?aa) fun hr => ?bb
  case' aa =>
    repeat' (walk_at "m.step")
    refine T2_itemS (k := 0) (txt_at? hd0) (by omega) ?_ rfl
    repeat' (walk_at "m.step")
    rw [decide_eq_false (by rw [SG_nought d0 (by omega)]; intro q; subst q; exact htop (by omega) (by rw [List.head?_eq_getElem?]; exact hd0))]
    repeat' (walk_at "m.step")
  case' bb => repeat' (walk_at "m.step")
  all_goals
    refine TE_slice "str" F.slot_str_getitem.lookup ?_ (fun _ _ => rfl)
    repeat' (walk_at "m.step")
    show TE _ _ _ _ _ _ _
    repeat' (walk_at "m.step")
    refine ⟨_, rfl, TSl_str (by decide) ?_⟩
    repeat' (walk_at "m.step")
    refine TS_for ?_ (fun _ _ => rfl)
    repeat' (walk_at "m.step")
    refine TF_sub (l₀ := [(Str.ofString "base", .int b), (Str.ofString "good", .str (Txt.slice (Str.ofString "0123456789abcdef") none (some (b : Int)))), (Str.ofString "number", .int 0)]) (by walk_at "m.sub") ?_
    refine TF_str (txt_ascii h2 hlt) (fun i l ν' => ν' = ν ∧ l = [(Str.ofString "base", .int b), (Str.ofString "good", .str (Txt.slice (Str.ofString "0123456789abcdef") none (some (b : Int)))), (Str.ofString "number", .int (valD b (ds.take i)))]) ⟨rfl, by simp [valD]⟩ ?_ ?_
    · rintro i l ν' hi ⟨rfl, rfl⟩
      rw [txt_size] at hi
      obtain ⟨d, hd⟩ : ∃ d, ds[i]? = some d := ⟨ds[i], by simp [hi]⟩
      have hdb := hlt d (List.mem_of_getElem? hd)
      rw [txt_at hd]
      refine TG_name (by walk_at "m.sto") ?_
      repeat' (walk_at "m.step")
      refine TE_methS SM_find ?_ (fun _ _ => rfl) rfl (by decide) rfl
      repeat' (walk_at "m.step")
      refine ⟨_, rfl, ?_⟩
      repeat' (walk_at "m.step")
      refine TC_find ?_
      rw [SG_good b (by omega) d hdb]
      repeat' (walk_at "m.step")
      refine ite_dec (fun hr => absurd hr (by omega)) fun _ => ?_
      repeat' (walk_at "m.step")
      have hle := Nat.le_trans (valD_take h1 ds i) hv
      refine T2_mul (mulOk ?_ ?_) ?_
      · rw [Int.natAbs_natCast]; exact Nat.lt_of_le_of_lt hle (by decide +kernel)
      · rw [Int.natAbs_natCast]; exact Nat.lt_of_le_of_lt h2 (by decide +kernel)
      repeat' (walk_at "m.step")
      refine ⟨_, ?_, rfl, rfl⟩
      rw [valD_step hd, show ((valD b (ds.take i) : Nat) : Int) * (b : Int) + (d : Int) = ((valD b (ds.take i) * b + d : Nat) : Int) by push_cast; rfl]
      walk_at "m.sub"
    · rintro l ν' ⟨rfl, rfl⟩
      rw [txt_size, List.take_length]
      repeat' (walk_at "m.step")
      exact h
theorem law_ok {a : Addr} {ns : List Int} (e : ν a = some (.scr (ns.map .int))) (hz : ns.length ≤ 63) (h : Q (.bool true) ν) : TN C (n + 4) (Str.ofString "law") [.ref a] ν Q := by
  refine' TN_def (names := [Str.ofString "_law_script"]) ?D rfl ?_
  case D => walk_at "m.def"
  dsimp only [List.zip, List.zipWith]
  repeat' (walk_at "m.step")
  refine cell_ok (k := 0) hK e hz (by omega) ?_
  repeat' (walk_at "m.step")
  refine T2_mod (by omega) ?_
  have f1 := fmod_pos (cellD ns 0) (b := 15) (by omega)
  refine T2_add ?_
  obtain ⟨b, hb⟩ := toN (show 0 ≤ 2 + (cellD ns 0).fmod 15 by omega)
  rw [hb]
  have h1 : 2 ≤ b := by omega
  have h2 : b ≤ 16 := by omega
  repeat' (walk_at "m.step")
  refine cell_ok (k := 1) hK e hz (by omega) ?_
  repeat' (walk_at "m.step")
  refine cell_ok (k := 2) hK e hz (by omega) ?_
  repeat' (walk_at "m.step")
  refine number_ok hK fun x hx => ?_
  repeat' (walk_at "m.step")
  refine shown_ok hK h1 h2 hx ?_
  obtain ⟨ds, hds⟩ : ∃ ds, ds = dg b x := ⟨_, rfl⟩
  have hne : ds ≠ [] := hds ▸ dg_ne h1
  have hlt : ∀ d ∈ ds, d < b := hds ▸ dg_lt h1
  have hval : valD b ds = x := hds ▸ dg_val h1
  have htop : 1 < ds.length → ds.head? ≠ some 0 := hds ▸ dg_top h1
  have hlen : ds.length ≤ 1000 := hds ▸ dg_len h1 hx
  rw [← hds]
  have hpos : 0 < ds.length := List.length_pos_iff.mpr hne
  obtain ⟨d0, hd0⟩ : ∃ d, ds[0]? = some d := ⟨ds[0], by simp [hpos]⟩
  have hb0 : d0 < b := hlt d0 (List.mem_of_getElem? hd0)
  repeat' (walk_at "m.step")
  refine TC_isi_str ?_
  repeat' (walk_at "m.step")
  rw [decide_eq_false (txt_empty hne)]
  repeat' (walk_at "m.step")
  refine T2_itemS (k := 0) (txt_at? hd0) (by omega) ?_ rfl
  repeat' (walk_at "m.step")
  refine ite_dec (fun hr => ?aa) fun hr => ?bb
  case' aa =>
    rw [SG_nought d0 (by omega)] at hr
    repeat' (walk_at "m.step")
    refine TC_lenS (by rw [txt_length]; omega) ?_
    rw [txt_length]
    repeat' (walk_at "m.step")
    rw [decide_eq_false (by intro q; subst hr; exact htop (by omega) (by rw [List.head?_eq_getElem?]; exact hd0))]
    repeat' (walk_at "m.step")
  case' bb => repeat' (walk_at "m.step")
  all_goals
    refine TS_for ?_ (fun _ _ => rfl)
    repeat' (walk_at "m.step")
    refine TF_sub (l₀ := [(Str.ofString "_law_base", .int b), (Str.ofString "_law_number", .int x), (Str.ofString "_law_line", .str (txt ds)), (Str.ofString "_law_made", .int 0)]) (by walk_at "m.sub") ?_
    refine TF_str (txt_ascii h2 hlt) (fun i l ν' => ν' = ν ∧ l = [(Str.ofString "_law_base", .int b), (Str.ofString "_law_number", .int x), (Str.ofString "_law_line", .str (txt ds)), (Str.ofString "_law_made", .int (valD b (ds.take i)))]) ⟨rfl, by simp [valD]⟩ ?_ ?_
    · rintro i l ν' hi ⟨rfl, rfl⟩
      rw [txt_size] at hi
      obtain ⟨d, hd⟩ : ∃ d, ds[i]? = some d := ⟨ds[i], by simp [hi]⟩
      have hdb := hlt d (List.mem_of_getElem? hd)
      rw [txt_at hd]
      refine TG_name (by walk_at "m.sto") ?_
      repeat' (walk_at "m.step")
      refine TE_methS SM_find ?_ (fun _ _ => rfl) rfl (by decide) rfl
      repeat' (walk_at "m.step")
      refine ⟨_, rfl, ?_⟩
      repeat' (walk_at "m.step")
      refine TC_find ?_
      rw [SG_find d (by omega)]
      repeat' (walk_at "m.step")
      refine ite_dec (fun hr => absurd hr (by omega)) fun _ => ?_
      repeat' (walk_at "m.step")
      refine ite_dec (fun hr => absurd hr (by omega)) fun _ => ?_
      repeat' (walk_at "m.step")
      have hle := Nat.le_trans (valD_take h1 ds i) (hval ▸ hx)
      refine T2_mul (mulOk ?_ ?_) ?_
      · rw [Int.natAbs_natCast]; exact Nat.lt_of_le_of_lt hle (by decide +kernel)
      · rw [Int.natAbs_natCast]; exact Nat.lt_of_le_of_lt h2 (by decide +kernel)
      repeat' (walk_at "m.step")
      refine ⟨_, ?_, rfl, rfl⟩
      rw [valD_step hd, show ((valD b (ds.take i) : Nat) : Int) * (b : Int) + (d : Int) = ((valD b (ds.take i) * b + d : Nat) : Int) by push_cast; rfl]
      walk_at "m.sub"
    · rintro l ν' ⟨rfl, rfl⟩
      rw [txt_size, List.take_length, hval]
      repeat' (walk_at "m.step")
      refine read_ok hK h1 h2 hne hlt htop (hval ▸ hx) hlen ?_
      rw [hval]
      repeat' (walk_at "m.step")
      rw [decide_eq_true rfl]
      repeat' (walk_at "m.step")
      refine whole_ok hK ?_
      repeat' (walk_at "m.step")
      show Q (D.bool (decide _)) _
      rw [decide_eq_true rfl]
      exact h
end
end Mine

set_option maxRecDepth 100000
set_option maxHeartbeats 8000000
namespace Mine
open PySem PyProof.Rows PySem.W
theorem script_obj {P : Params} {h : Heap} {a : Addr} {vs : List Value} {xs : List PyData} (hL : h.IsList a vs.toArray) (hw : Well P h (.ref a) (ofPy (.list xs))) : h.get? a = some (lstObj vs 0) := by
  obtain ⟨o, ho, hc, n, hd⟩ := hL
  rw [show ofPy (.list xs) = .list (ofPys xs) by simp [ofPy]] at hw
  cases hw with
  | list e r =>
    rename_i us
    rw [ho] at e; cases e
    rw [ho]
    unfold lstObj
    injection hd with h1 h2
    subst h2
    have : us = vs := by simpa using h1
    rw [this]
end Mine
open PySem PySem.W PyProof.Rows
theorem PySem.Challenge.cw_uf060022_03_holds : PySem.Challenge.rw_uf060022_03.Holds := by
  refine hd03 ?_
  k_fill
  intro w s₀ s₁ mg mb G Y fa o pm cd doc dV kV ho hd hcd hD hmg hg args vals as hpre hlay hrd hwl hlo
  have KX := kIn_of Y
  refine Ground.open G ?_
  intro T B D TE TW
  wrow_args hpre hlay hrd hwl hlo
  refine enter_call ?_
  rename Well _ _ _ _ => w1
  rename Heap.IsList _ _ _ => hL
  rename IntsAre _ _ => hI
  rename (¬ ((_ : Int) < _)) => hn
  refine Mine.law_call (n := 4) (C := { prog := _, w := w, base := s₁.heap, K := hd03.heap_39 w.params, mg := mg, mb := mb, inK := KX, g := T.g, b := T.b, nolimit := T.nolimit, blts := T.builtins, nodigits := T.nodigits }) rfl (Mine.script_obj hL w1) hI hg (by decide) ?_ ?_ ?_
  · first | exact fun _ => rfl | (exact raisesW_false (by wrow_none_raised))
  · first | rfl | exact postW_of rfl (by wtm_val) rfl
  · exact Mine.law_ok (n := 0) rfl (a := _) (ns := _) (if_pos rfl) (by omega) rfl fa hmg
