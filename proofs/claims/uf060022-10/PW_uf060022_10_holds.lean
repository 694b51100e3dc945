import PyProof.Rows.All
import Wide.All
import OpenK.AllK
import Wide.FinOn
import PyProof.Cells
import PyProof.ForAny
import PyProof.Loops
import PyProof.Rules2
import PyProof.Rules3
import PyProof.Calls
import PyProof.DictRoads
import PyProof.DictKinds
import PyProof.Rows.BootFacts
import PyProof.RangeFor
import PyProof.Walks
import PyProof.CallType
import PyProof.Rows.RuleB_mod
import PyProof.Rows.RuleB_floordiv
import PyProof.Rows.RuleB_mul
import PyProof.Rows.RuleB_pow
import PyProof.Rows.RuleB_sub
import PyProof.Rows.RuleC_int
import PyProof.Rows.RuleU_int
import PyProof.Rows.IntRules
import PyProof.Rows.StrRules
import PyProof.Rows.TupSub
import PyProof.Rows.StrTemp
import PyProof.Rows.Lst
import PyProof.Rows.TupMore
import PyProof.PureInt
import PyProof.Truth
import PyProof.ListTruth
import PyProof.Rows.Method
import PyProof.ListOps
import PyProof.MeetsSeq
import PyProof.IsInstance
import PyProof.IsInstanceH
import PyProof.IsiFacts
import PyProof.ListCopy
import PyProof.DictTruth
import PyProof.Rows.SortWalk
import PyProof.SliceMore
import PyProof.Rows.SeqSlice
import OpenK.KLine
import PyProof.AssignAttr
import PyProof.Raises
import PyProof.DictStraight
import PyProof.Rows.TupAssign
import PyProof.StrLoop
import PyProof.StrBlockI
import PyProof.StrCalls3
import PyProof.SliceStr2
import KE.KxText
import PyProof.CompFree
import PyProof.WalksMore
import PyProof.SeqI3
import KE.KDictList
import PyProof.NeData
import PyProof.P3Eq
import PyProof.MinMaxWalk
import PyProof.WalkInts
import PyProof.Rows.CallKwBuiltin
import PyProof.CallStr
import PyProof.Conv_int_bool
import KE.KItem
import Lean
import PySem.Challenge.RW_uf060022_10
set_option Elab.async false
namespace Mine
open PySem

/-- abstract data: what a value reads as; tuples are data, mutable objects stand as refs -/
inductive D where
  | none
  | bool (b : Bool)
  | int (i : Int)
  | str (x : Str)
  | tup (l : List D)
  | rng (m : Int)
  | ref (a : Addr)
  | val (v : Value)

def tupObj (vs : List Value) (n : Nat) : Obj := { cls := .type "tuple", data := .seq vs.toArray n }
def lstObj (vs : List Value) (n : Nat) : Obj := { cls := .type "list", data := .seq vs.toArray n }
def dctObj (es : List DictEntry) (n : Nat) : Obj := { cls := .type "dict", data := .dict es.toArray n }
def rngObj (m : Int) (t u v : Tok) : Obj := { cls := .type "range", data := .fields #[.int 0 t, .int m u, .int 1 v] }
def insObj (C d : Addr) : Obj := { cls := .ref C, dict := some d }

mutual
inductive RV (h : Heap) : Value → D → Prop
  | none : RV h .none .none
  | bool (b : Bool) : RV h (.bool b) (.bool b)
  | int (i : Int) (t : Tok) : RV h (.int i t) (.int i)
  | str (x : Str) (t : Tok) : RV h (.str x t) (.str x)
  | tup {a : Addr} {vs : List Value} {n : Nat} {ds : List D} : h.get? a = some (tupObj vs n) → RVs h vs ds → RV h (.ref a) (.tup ds)
  | rng {a : Addr} {m : Int} {t u v : Tok} : h.get? a = some (rngObj m t u v) → RV h (.ref a) (.rng m)
  | ref (a : Addr) : RV h (.ref a) (.ref a)
  | val (v : Value) : RV h v (.val v)
inductive RVs (h : Heap) : List Value → List D → Prop
  | nil : RVs h [] []
  | cons {v : Value} {vs : List Value} {d : D} {ds : List D} : RV h v d → RVs h vs ds → RVs h (v :: vs) (d :: ds)
end

theorem RV.int_inv {h : Heap} {v : Value} {i : Int} (r : RV h v (.int i)) : ∃ t, v = .int i t := by cases r; exact ⟨_, rfl⟩
theorem RV.str_inv {h : Heap} {v : Value} {x : Str} (r : RV h v (.str x)) : ∃ t, v = .str x t := by cases r; exact ⟨_, rfl⟩
theorem RV.ref_inv {h : Heap} {v : Value} {a : Addr} (r : RV h v (.ref a)) : v = .ref a := by cases r; rfl
theorem RV.bool_inv {h : Heap} {v : Value} {b : Bool} (r : RV h v (.bool b)) : v = .bool b := by cases r; rfl
theorem RV.val_inv {h : Heap} {v u : Value} (r : RV h v (.val u)) : v = u := by cases r; rfl
theorem RVs.nil_inv {h : Heap} {vs : List Value} (r : RVs h vs []) : vs = [] := by cases r; rfl
theorem RVs.cons_inv {h : Heap} {vs : List Value} {d : D} {ds : List D} (r : RVs h vs (d :: ds)) : ∃ v vs', vs = v :: vs' ∧ RV h v d ∧ RVs h vs' ds := by cases r; exact ⟨_, _, rfl, ‹_›, ‹_›⟩

/-- what never changes -/
inductive Imm : Obj → Prop
  | tup (vs : List Value) (n : Nat) : Imm (tupObj vs n)
  | rng (m : Int) (t u v : Tok) : Imm (rngObj m t u v)
theorem Imm.cls {o : Obj} (h : Imm o) : o.cls = .type "tuple" ∨ o.cls = .type "range" := by cases h; exact .inl rfl; exact .inr rfl
/-- tuples and ranges of h stand in h' -/
def TupKeep (h h' : Heap) : Prop := ∀ a o, h.get? a = some o → Imm o → h'.get? a = some o

mutual
theorem RV.keep {h h' : Heap} (k : TupKeep h h') : ∀ {v d}, RV h v d → RV h' v d
  | _, _, .none => .none
  | _, _, .bool b => .bool b
  | _, _, .int i t => .int i t
  | _, _, .str x t => .str x t
  | _, _, .tup e r => .tup (k _ _ e (.tup ..)) (RVs.keep k r)
  | _, _, .rng e => .rng (k _ _ e (.rng ..))
  | _, _, .ref a => .ref a
  | _, _, .val v => .val v
theorem RVs.keep {h h' : Heap} (k : TupKeep h h') : ∀ {vs ds}, RVs h vs ds → RVs h' vs ds
  | _, _, .nil => .nil
  | _, _, .cons e r => .cons (RV.keep k e) (RVs.keep k r)
end

theorem RVs.length {h : Heap} {vs : List Value} {ds : List D} (r : RVs h vs ds) : vs.length = ds.length := by
  induction vs generalizing ds with
  | nil => cases r; rfl
  | cons v vs ih => cases r with | cons _ r => simp [ih r]
theorem RVs.append {h : Heap} {vs ws : List Value} {ds es : List D} (r : RVs h vs ds) (q : RVs h ws es) : RVs h (vs ++ ws) (ds ++ es) := by
  induction vs generalizing ds with
  | nil => cases r; exact q
  | cons v vs ih => cases r with | cons e r => exact .cons e (ih r)
theorem RVs.get {h : Heap} {vs : List Value} {ds : List D} (r : RVs h vs ds) {k : Nat} {d : D} (hk : ds[k]? = some d) : ∃ v, vs[k]? = some v ∧ RV h v d := by
  induction vs generalizing ds k with
  | nil => cases r; simp at hk
  | cons v vs ih =>
    cases r with
    | cons e r =>
      cases k with
      | zero => simp at hk; subst hk; exact ⟨v, rfl, e⟩
      | succ k => simpa using ih r (by simpa using hk)
theorem RVs.take {h : Heap} {vs : List Value} {ds : List D} (r : RVs h vs ds) (k : Nat) : RVs h (vs.take k) (ds.take k) := by
  induction vs generalizing ds k with
  | nil => cases r; simp; exact .nil
  | cons v vs ih =>
    cases r with
    | cons e r =>
      cases k with
      | zero => exact .nil
      | succ k => exact .cons e (ih r k)
theorem RVs.drop {h : Heap} {vs : List Value} {ds : List D} (r : RVs h vs ds) (k : Nat) : RVs h (vs.drop k) (ds.drop k) := by
  induction vs generalizing ds k with
  | nil => cases r; simp; exact .nil
  | cons v vs ih =>
    cases r with
    | cons e r =>
      cases k with
      | zero => exact .cons e r
      | succ k => exact ih r k
/-- association lists by name -/
def lk (l : List (Str × D)) (x : Str) : Option D :=
  match l with
  | [] => none
  | (y, d) :: r => if x = y then some d else lk r x
def put (l : List (Str × D)) (x : Str) (d : D) : List (Str × D) :=
  match l with
  | [] => [(x, d)]
  | (y, e) :: r => if x = y then (y, d) :: r else (y, e) :: put r x d
theorem lk_put (l : List (Str × D)) (x y : Str) (d : D) : lk (put l x d) y = if y = x then some d else lk l y := by
  induction l with
  | nil => simp [put, lk]
  | cons p r ih =>
    obtain ⟨z, e⟩ := p
    by_cases hx : x = z
    · subst hx; simp only [put, if_true, lk]; by_cases hy : y = x <;> simp [hy]
    · simp only [put, hx, if_false, lk, ih]
      by_cases hy : y = z
      · subst hy; have : ¬ y = x := fun e => hx e.symm; simp [this]
      · simp [hy]

/-- abstract objects -/
inductive AObj where
  | lst (ds : List D)
  | scr (ds : List D)
  | dI (es : List (Int × D))
  | dS (es : List (Str × D))
  | inst (C d : Addr)
  | ns (fs : List (Str × D))

abbrev Nu := Addr → Option AObj
def upd (ν : Nu) (a : Addr) (o : AObj) : Nu := fun b => if b = a then some o else ν b

end Mine

namespace Mine
open PySem

/-- what stays the same all through a law's call -/
structure Cx where
  prog : Program
  w : World
  base : Heap
  K : List (Addr × Obj)
  mg : Str → Option Value
  mb : Str → Option Value
  inK : ∀ a o, K.lookup a = some o → base.get? a = some o
  g : base.Ns mainGlobals mg
  b : base.Ns builtinsNs mb
  nolimit : base.NoLimit
  blts : ∀ x : Str, x ≠ "__name__" → mb x = bootBuiltins x
  nodigits : ∃ mc, base.Ns cStatics mc ∧ mc "sys.int_max_str_digits" = none

inductive KVs {K : Type} (h : Heap) : List (K × Value) → List (K × D) → Prop
  | nil : KVs h [] []
  | cons {k : K} {v : Value} {d : D} {r : List (K × Value)} {s : List (K × D)} : RV h v d → KVs h r s → KVs h ((k, v) :: r) ((k, d) :: s)
theorem KVs.keep {K : Type} {h h' : Heap} (k : TupKeep h h') {r : List (K × Value)} {s : List (K × D)} (x : KVs h r s) : KVs h' r s := by
  induction x with
  | nil => exact .nil
  | cons a _ ih => exact .cons (a.keep k) ih
theorem KVs.length {K : Type} {h : Heap} {r : List (K × Value)} {s : List (K × D)} (x : KVs h r s) : r.length = s.length := by
  induction x with
  | nil => rfl
  | cons a _ ih => simp [ih]
theorem KVs.keys {K : Type} {h : Heap} {r : List (K × Value)} {s : List (K × D)} (x : KVs h r s) : r.map (·.1) = s.map (·.1) := by
  induction x with
  | nil => rfl
  | cons a _ ih => simp [ih]
def valAt {K : Type} [DecidableEq K] (es : List (K × D)) (k : K) : Option D :=
  match es with
  | [] => none
  | (a, d) :: r => if a = k then some d else valAt r k
def setAt {K : Type} [DecidableEq K] (es : List (K × D)) (k : K) (d : D) : List (K × D) :=
  match es with
  | [] => [(k, d)]
  | (a, e) :: r => if a = k then (a, d) :: r else (a, e) :: setAt r k d
theorem KVs.at_some {K : Type} [DecidableEq K] {h : Heap} {r : List (K × Value)} {s : List (K × D)} (x : KVs h r s) {k : K} {d : D} (e : valAt s k = some d) : ∃ v, valueAt r k = some v ∧ RV h v d := by
  induction x with
  | nil => simp [valAt] at e
  | cons a _ ih =>
    rename_i k' v' d' r' s' _
    unfold valAt at e
    by_cases q : k' = k
    · rw [if_pos q] at e; cases e; exact ⟨_, by simp [valueAt, q], a⟩
    · rw [if_neg q] at e; obtain ⟨v, hv, rv⟩ := ih e; exact ⟨v, by simpa [valueAt, q] using hv, rv⟩
theorem KVs.at_none {K : Type} [DecidableEq K] {h : Heap} {r : List (K × Value)} {s : List (K × D)} (x : KVs h r s) {k : K} (e : valAt s k = none) : valueAt r k = none := by
  induction x with
  | nil => rfl
  | cons a _ ih =>
    rename_i k' v' d' r' s' _
    unfold valAt at e
    by_cases q : k' = k
    · rw [if_pos q] at e; cases e
    · rw [if_neg q] at e; simpa [valueAt, q] using ih e
theorem map_same {K : Type} [DecidableEq K] {r : List (K × Value)} {k : K} {v : Value} (h : k ∉ r.map (·.1)) : r.map (fun kv => if kv.1 = k then (kv.1, v) else kv) = r := by
  induction r with
  | nil => rfl
  | cons p r ih =>
    simp only [List.map_cons, List.mem_cons, not_or] at h
    rw [List.map_cons, ih h.2, if_neg fun e => h.1 e.symm]
theorem KVs.stored {K : Type} [DecidableEq K] {h : Heap} {r : List (K × Value)} {s : List (K × D)} (x : KVs h r s) (nd : (r.map (·.1)).Nodup) {k : K} {v : Value} {d : D} (a : RV h v d) : KVs h (PySem.stored r k v) (setAt s k d) := by
  induction x with
  | nil => exact .cons a .nil
  | cons b q ih =>
    rename_i k' v' d' r' s'
    simp only [List.map_cons, List.nodup_cons] at nd
    have ih' := ih nd.2
    unfold PySem.stored at ih' ⊢
    unfold setAt
    by_cases e : k' = k
    · subst e
      rw [if_pos (by simp), if_pos rfl, List.map_cons, if_pos rfl, map_same nd.1]
      exact .cons a q
    · rw [if_neg e]
      by_cases m : (r'.any fun kv => decide (kv.1 = k)) = true
      · rw [if_pos m] at ih'
        rw [if_pos (by simp [e, m]), List.map_cons, if_neg e]
        exact .cons b ih'
      · rw [if_neg m] at ih'
        rw [if_neg (by simp only [List.any_cons, e, decide_false, Bool.false_or]; exact m)]
        exact .cons b ih'

def NsOk (h : Heap) (es : List DictEntry) (fs : List (Str × D)) : Prop :=
  (∀ e ∈ es, ∃ x t, e.key = .str x t) ∧ es.length ≤ fs.length ∧
  ∀ x, match lk fs x with
    | some d => ∃ v, nsFind es.toArray x = some v ∧ RV h v d
    | none => nsFind es.toArray x = none

def ObjAt (C : Cx) (h : Heap) (a : Addr) : AObj → Prop
  | .lst ds => ∃ vs n, h.get? a = some (lstObj vs n) ∧ RVs h vs ds
  | .scr ds => ∃ vs n, h.get? a = some (lstObj vs n) ∧ RVs h vs ds
  | .dI es => ∃ kvs, h.DictOf (intKind C.prog C.w) a kvs ∧ KVs h kvs es
  | .dS es => ∃ kvs, h.DictOf (strKind C.prog C.w) a kvs ∧ KVs h kvs es
  | .inst T d => h.get? a = some (insObj T d)
  | .ns fs => ∃ es n, h.get? a = some (dctObj es n) ∧ NsOk h es fs

structure Ref (C : Cx) (ν : Nu) (h : Heap) : Prop where
  keep : ∀ b o, C.base.get? b = some o → h.get? b = some o
  at_ : ∀ a o, ν a = some o → ObjAt C h a o
  own : ∀ a o, ν a = some o → (∀ ds, o ≠ .scr ds) → C.base.objs.size ≤ a

/-- a class of the heap's object at a -/
theorem ObjAt.get {C : Cx} {h : Heap} {a : Addr} {o : AObj} (x : ObjAt C h a o) : ∃ ob, h.get? a = some ob ∧ ¬ Imm ob := by
  have nn : ∀ ob : Obj, ob.cls ≠ .type "tuple" → ob.cls ≠ .type "range" → ¬ Imm ob := fun ob h1 h2 h => h.cls.elim h1 h2
  cases o with
  | lst ds => obtain ⟨vs, n, e, _⟩ := x; exact ⟨_, e, nn _ (by simp [lstObj]) (by simp [lstObj])⟩
  | scr ds => obtain ⟨vs, n, e, _⟩ := x; exact ⟨_, e, nn _ (by simp [lstObj]) (by simp [lstObj])⟩
  | dI es =>
    obtain ⟨vs, hd, _⟩ := x
    obtain ⟨o, es, ep, ho, hx, hdd, _⟩ := hd.mapOf
    exact ⟨o, ho, nn _ (by rw [hx.1]; simp) (by rw [hx.1]; simp)⟩
  | dS es =>
    obtain ⟨vs, hd, _⟩ := x
    obtain ⟨o, es, ep, ho, hx, hdd, _⟩ := hd.mapOf
    exact ⟨o, ho, nn _ (by rw [hx.1]; simp) (by rw [hx.1]; simp)⟩
  | inst T d => exact ⟨_, x, nn _ (by simp [insObj]) (by simp [insObj])⟩
  | ns fs => obtain ⟨es, n, e, _⟩ := x; exact ⟨_, e, nn _ (by simp [dctObj]) (by simp [dctObj])⟩
theorem ObjAt.lt {C : Cx} {h : Heap} {a : Addr} {o : AObj} (x : ObjAt C h a o) : a < h.objs.size := let ⟨_, e, _⟩ := x.get; Heap.lt_size e

theorem ObjAt.keep {C : Cx} {h h' : Heap} {a : Addr} {o : AObj} (x : ObjAt C h a o) (k : TupKeep h h') (e : h'.get? a = h.get? a) : ObjAt C h' a o := by
  cases o with
  | lst ds => obtain ⟨vs, n, e', r⟩ := x; exact ⟨vs, n, e.trans e', r.keep k⟩
  | scr ds => obtain ⟨vs, n, e', r⟩ := x; exact ⟨vs, n, e.trans e', r.keep k⟩
  | dI es => obtain ⟨vs, ⟨o, q⟩, r⟩ := x; obtain ⟨es', ep, ho, z⟩ := q; exact ⟨vs, ⟨o, es', ep, e.trans ho, z⟩, r.keep k⟩
  | dS es => obtain ⟨vs, ⟨o, q⟩, r⟩ := x; obtain ⟨es', ep, ho, z⟩ := q; exact ⟨vs, ⟨o, es', ep, e.trans ho, z⟩, r.keep k⟩
  | inst T d => exact e.trans x
  | ns fs =>
    obtain ⟨es, n, e', h1, h2, h3⟩ := x
    refine ⟨es, n, e.trans e', h1, h2, fun y => ?_⟩
    have := h3 y
    split at this
    · obtain ⟨v, a, b⟩ := this; exact ⟨v, a, b.keep k⟩
    · exact this

/-- s' comes of s: outside ν and 'own' nothing that stood is changed -/
structure Fro (own : Addr → Prop) (ν ν' : Nu) (s s' : Shared) : Prop where
  eq : ∃ h' t', s' = { s with heap := h', toks := t' }
  keep : ∀ b o, s.heap.get? b = some o → ν b = none → ¬ own b → s'.heap.get? b = some o
  alive : ∀ b o, s.heap.get? b = some o → ν b = none → ∃ o', s'.heap.get? b = some o'
  dom : ∀ b o, s.heap.get? b = some o → ν b = none → ν' b = none

def no : Addr → Prop := fun _ => False

theorem Fro.refl {own : Addr → Prop} {ν : Nu} {s : Shared} : Fro own ν ν s s := ⟨⟨s.heap, s.toks, rfl⟩, fun _ _ e _ _ => e, fun _ o e _ => ⟨o, e⟩, fun _ _ _ h => h⟩
theorem Fro.toks {own : Addr → Prop} {ν : Nu} {s : Shared} {t : Nat} : Fro own ν ν s { s with toks := t } := ⟨⟨s.heap, t, rfl⟩, fun _ _ e _ _ => e, fun _ o e _ => ⟨o, e⟩, fun _ _ _ h => h⟩
theorem Fro.trans {own : Addr → Prop} {ν ν' ν'' : Nu} {s s' s'' : Shared} (x : Fro own ν ν' s s') (y : Fro own ν' ν'' s' s'') : Fro own ν ν'' s s'' := by
  obtain ⟨⟨h', t', rfl⟩, a1, a2, a3⟩ := x
  obtain ⟨⟨h'', t'', rfl⟩, b1, b2, b3⟩ := y
  exact ⟨⟨h'', t'', rfl⟩, fun b o e hn ho => b1 b o (a1 b o e hn ho) (a3 b o e hn) ho, fun b o e hn => let ⟨o', e'⟩ := a2 b o e hn; b2 b o' e' (a3 b o e hn), fun b o e hn => let ⟨o', e'⟩ := a2 b o e hn; b3 b o' e' (a3 b o e hn)⟩
theorem Fro.weaken {own own' : Addr → Prop} {ν ν' : Nu} {s s' : Shared} (x : Fro own ν ν' s s') (h : ∀ b, own b → own' b) : Fro own' ν ν' s s' :=
  ⟨x.eq, fun b o e hn ho => x.keep b o e hn fun q => ho (h b q), x.alive, x.dom⟩
/-- all that stood stands -/
theorem Fro.ofKeep {own : Addr → Prop} {ν : Nu} {s : Shared} {h' : Heap} {t : Nat} (k : ∀ b o, s.heap.get? b = some o → h'.get? b = some o) : Fro own ν ν s { s with heap := h', toks := t } :=
  ⟨⟨h', t, rfl⟩, fun b o e _ _ => k b o e, fun b o e _ => ⟨o, k b o e⟩, fun _ _ _ h => h⟩

/-- tuples are kept when nothing of 'own' is a tuple -/
theorem Fro.tups {C : Cx} {own : Addr → Prop} {ν ν' : Nu} {s s' : Shared} (x : Fro own ν ν' s s') (R : Ref C ν s.heap) (ho : ∀ b o, own b → s.heap.get? b = some o → ¬ Imm o) : TupKeep s.heap s'.heap := by
  intro a o e hi
  refine x.keep a _ e ?_ fun q => ho a o q e hi
  cases q : ν a with
  | none => rfl
  | some o' =>
    obtain ⟨ob, e', hc⟩ := (R.at_ a o' q).get
    rw [e] at e'; cases e'
    exact absurd hi hc

abbrev Loc := List (Str × D)

structure Frm (C : Cx) (env : Env) (sc : Scope) (l : Loc) (ν : Nu) (h : Heap) : Prop where
  scope : env.scope = sc
  kind : sc.kind = .function
  glob : env.globals = mainGlobals
  blt : env.builtins = builtinsNs
  ns : ∃ m, h.Ns env.locals m ∧ ∀ x d, lk l x = some d → sc.names.lookup x = some .local → ∃ v, m x = some v ∧ RV h v d
  cell : ∀ x c, env.cells.lookup x = some c → ∃ v, h.IsCell c v ∧ ∀ d, lk l x = some d → sc.names.lookup x ≠ some .local → ∃ u, v = some u ∧ RV h u d
  kinds : ∀ x d, lk l x = some d → sc.names.lookup x = some .local ∨ ((sc.names.lookup x = some .cell ∨ sc.names.lookup x = some .free) ∧ ∃ c, env.cells.lookup x = some c)
  cells : ∀ x, sc.names.lookup x = some .cell → ∃ c, env.cells.lookup x = some c
  nuL : ν env.locals = none
  nuC : ∀ x c, env.cells.lookup x = some c → ν c = none
  apart : ∀ x y c, env.cells.lookup x = some c → env.cells.lookup y = some c → x = y
  above : C.base.objs.size ≤ env.locals
  aboveC : ∀ x c, env.cells.lookup x = some c → C.base.objs.size ≤ c

/-- the places of a frame -/
def fr (env : Env) (b : Addr) : Prop := b = env.locals ∨ ∃ x, env.cells.lookup x = some b

theorem Frm.notTup {C : Cx} {env : Env} {sc : Scope} {l : Loc} {ν : Nu} {h : Heap} (F : Frm C env sc l ν h) : ∀ b o, fr env b → h.get? b = some o → ¬ Imm o := by
  rintro b o' (rfl | ⟨x, hx⟩) e hi
  · obtain ⟨m, ⟨o, es, ep, ho, hd, _⟩, _⟩ := F.ns
    rw [e] at ho; cases ho; cases hi <;> cases hd
  · obtain ⟨v, ⟨o, ho, hd⟩, _⟩ := F.cell x b hx
    rw [e] at ho; cases ho; cases hi <;> cases hd

theorem Frm.ltL {C : Cx} {env : Env} {sc : Scope} {l : Loc} {ν : Nu} {h : Heap} (F : Frm C env sc l ν h) : env.locals < h.objs.size := let ⟨_, hn, _⟩ := F.ns; hn.lt
theorem Frm.ltC {C : Cx} {env : Env} {sc : Scope} {l : Loc} {ν : Nu} {h : Heap} (F : Frm C env sc l ν h) {x : Str} {c : Addr} (hc : env.cells.lookup x = some c) : c < h.objs.size := let ⟨_, hn, _⟩ := F.cell x c hc; hn.lt
theorem Frm.neC {C : Cx} {env : Env} {sc : Scope} {l : Loc} {ν : Nu} {h : Heap} (F : Frm C env sc l ν h) {x : Str} {c : Addr} (hc : env.cells.lookup x = some c) : c ≠ env.locals := by
  rintro rfl
  obtain ⟨m, ⟨o, es, ep, ho, hd, _⟩, _⟩ := F.ns
  obtain ⟨v, ⟨o', ho', hd'⟩, _⟩ := F.cell x _ hc
  rw [ho] at ho'; cases ho'; rw [hd] at hd'; cases hd'

theorem Frm.fro {C : Cx} {env : Env} {sc : Scope} {l : Loc} {ν ν' : Nu} {s s' : Shared} (F : Frm C env sc l ν s.heap) (R : Ref C ν s.heap) (x : Fro no ν ν' s s') : Frm C env sc l ν' s'.heap := by
  have k := x.tups R fun _ _ q => q.elim
  refine ⟨F.scope, F.kind, F.glob, F.blt, ?_, fun y c hc => ?_, F.kinds, F.cells, ?_, fun y c hc => ?_, F.apart, F.above, F.aboveC⟩
  · obtain ⟨m, ⟨o, es, ep, ho, r⟩, hm⟩ := F.ns
    exact ⟨m, ⟨o, es, ep, x.keep _ _ ho F.nuL id, r⟩, fun y d h1 h2 => let ⟨v, a, b⟩ := hm y d h1 h2; ⟨v, a, b.keep k⟩⟩
  · obtain ⟨v, ⟨o, ho, hd⟩, q⟩ := F.cell y c hc
    exact ⟨v, ⟨o, x.keep _ _ ho (F.nuC y c hc) id, hd⟩, fun d h1 h2 => let ⟨u, a, b⟩ := q d h1 h2; ⟨u, a, b.keep k⟩⟩
  · obtain ⟨m, ⟨o, es, ep, ho, r⟩, hm⟩ := F.ns
    exact x.dom _ _ ho F.nuL
  · obtain ⟨v, ⟨o, ho, hd⟩, q⟩ := F.cell y c hc
    exact x.dom _ _ ho (F.nuC y c hc)

/-- fewer names are known -/
def Sub (l' l : Loc) : Prop := ∀ x d, lk l' x = some d → lk l x = some d
theorem Frm.sub {C : Cx} {env : Env} {sc : Scope} {l l' : Loc} {ν : Nu} {h : Heap} (F : Frm C env sc l ν h) (s : Sub l' l) : Frm C env sc l' ν h := by
  obtain ⟨m, hn, hm⟩ := F.ns
  exact ⟨F.scope, F.kind, F.glob, F.blt, ⟨m, hn, fun x d h1 h2 => hm x d (s x d h1) h2⟩, fun x c hc => let ⟨v, a, b⟩ := F.cell x c hc; ⟨v, a, fun d h1 h2 => b d (s x d h1) h2⟩, fun x d h1 => F.kinds x d (s x d h1), F.cells, F.nuL, F.nuC, F.apart, F.above, F.aboveC⟩

theorem Frm.baseLe {C : Cx} {env : Env} {sc : Scope} {l : Loc} {ν : Nu} {h : Heap} (F : Frm C env sc l ν h) : C.base.objs.size ≤ h.objs.size := Nat.le_trans F.above (Nat.le_of_lt F.ltL)

def Aok (n : Nat) (A : Around) : Prop := A.handled = none ∧ A.depth + n < 990 ∧ A.units + 30 * n < 9800
theorem Aok.deeper {n : Nat} {A : Around} (h : Aok (n + 1) A) (env : Env) : Aok n (A.deeper env) := ⟨h.1, by have := h.2.1; show A.depth + 1 + n < _; omega, by have := h.2.2; show A.units + 3 + _ < _; omega⟩
theorem Aok.room {n : Nat} {A : Around} (h : Aok n A) : A.depth < recursionLimit := by have := h.2.1; unfold recursionLimit; omega
/-- what a tree that yields a value must do -/
inductive PostV (C : Cx) (ν : Nu) (s : Shared) (Q : D → Nu → Prop) (v : Value) (s' : Shared) : Prop
  | mk (d : D) (ν' : Nu) (rv : RV s'.heap v d) (R : Ref C ν' s'.heap) (x : Fro no ν ν' s s') (q : Q d ν') : PostV C ν s Q v s'
inductive PostB (C : Cx) (ν : Nu) (s : Shared) (Q : Bool → Nu → Prop) (b : Bool) (s' : Shared) : Prop
  | mk (ν' : Nu) (R : Ref C ν' s'.heap) (x : Fro no ν ν' s s') (q : Q b ν') : PostB C ν s Q b s'
inductive PostL (C : Cx) (ν : Nu) (s : Shared) (Q : List D → Nu → Prop) (vs : List Value) (s' : Shared) : Prop
  | mk (ds : List D) (ν' : Nu) (rv : RVs s'.heap vs ds) (R : Ref C ν' s'.heap) (x : Fro no ν ν' s s') (q : Q ds ν') : PostL C ν s Q vs s'
def nev : Value → Shared → Prop := fun _ _ => False

def TE (C : Cx) (n : Nat) (sc : Scope) (e : Expr) (l : Loc) (ν : Nu) (Q : D → Nu → Prop) : Prop :=
  ∀ A env s, Aok n A → Ref C ν s.heap → Frm C env sc l ν s.heap → wpAny (model C.prog C.w) A (eval e env) (PostV C ν s Q) nev s
def TB (C : Cx) (n : Nat) (sc : Scope) (e : Expr) (l : Loc) (ν : Nu) (Q : Bool → Nu → Prop) : Prop :=
  ∀ A env s, Aok n A → Ref C ν s.heap → Frm C env sc l ν s.heap → wpAny (model C.prog C.w) A (isTrue e env (eval e env)) (PostB C ν s Q) nev s
def TL (C : Cx) (n : Nat) (sc : Scope) (es : List Expr) (l : Loc) (ν : Nu) (Q : List D → Nu → Prop) : Prop :=
  ∀ A env s pos, Aok n A → Ref C ν s.heap → Frm C env sc l ν s.heap → wpAny (model C.prog C.w) A (spliced (backTo pos (starEach es env))) (PostL C ν s Q) nev s
/-- a tree over one value, over two -/
def T1 (C : Cx) (n : Nat) (f : Value → Sem Value) (d : D) (ν : Nu) (Q : D → Nu → Prop) : Prop :=
  ∀ A s v, Aok n A → Ref C ν s.heap → C.base.objs.size ≤ s.heap.objs.size → RV s.heap v d → wpAny (model C.prog C.w) A (f v) (PostV C ν s Q) nev s
def T2 (C : Cx) (n : Nat) (f : Value → Value → Sem Value) (d e : D) (ν : Nu) (Q : D → Nu → Prop) : Prop :=
  ∀ A s v u, Aok n A → Ref C ν s.heap → C.base.objs.size ≤ s.heap.objs.size → RV s.heap v d → RV s.heap u e → wpAny (model C.prog C.w) A (f v u) (PostV C ν s Q) nev s
def TT (C : Cx) (n : Nat) (d : D) (ν : Nu) (Q : Bool → Nu → Prop) : Prop :=
  ∀ A s v, Aok n A → Ref C ν s.heap → C.base.objs.size ≤ s.heap.objs.size → RV s.heap v d → wpAny (model C.prog C.w) A (truthy v) (PostB C ν s Q) nev s
/-- a call -/
def TC (C : Cx) (n : Nat) (f : Value) (ds : List D) (ν : Nu) (Q : D → Nu → Prop) : Prop :=
  ∀ A s vs, Aok n A → Ref C ν s.heap → C.base.objs.size ≤ s.heap.objs.size → RVs s.heap vs ds → wpAny (model C.prog C.w) A (call f vs) (PostV C ν s Q) nev s

inductive Fl where
  | next | brk | cont
  | ret (d : D)
inductive FlR (h : Heap) : Flow → Fl → Prop
  | next : FlR h .next .next
  | brk : FlR h .brk .brk
  | cont : FlR h .cont .cont
  | ret {v d} : RV h v d → FlR h (.ret v) (.ret d)

inductive PostS (C : Cx) (env : Env) (sc : Scope) (ν : Nu) (s : Shared) (Q : Fl → Loc → Nu → Prop) (f : Flow) (s' : Shared) : Prop
  | mk (fl : Fl) (l' : Loc) (ν' : Nu) (fr_ : FlR s'.heap f fl) (R : Ref C ν' s'.heap) (F : Frm C env sc l' ν' s'.heap) (x : Fro (fr env) ν ν' s s') (q : Q fl l' ν') : PostS C env sc ν s Q f s'
def TS (C : Cx) (n : Nat) (sc : Scope) (st : Stmt) (l : Loc) (ν : Nu) (Q : Fl → Loc → Nu → Prop) : Prop :=
  ∀ A env s, Aok n A → Ref C ν s.heap → Frm C env sc l ν s.heap → wpAny (model C.prog C.w) A (exec st env) (PostS C env sc ν s Q) nev s
def TSs (C : Cx) (n : Nat) (sc : Scope) (st : List Stmt) (l : Loc) (ν : Nu) (Q : Fl → Loc → Nu → Prop) : Prop :=
  ∀ A env s, Aok n A → Ref C ν s.heap → Frm C env sc l ν s.heap → wpAny (model C.prog C.w) A (execs st env) (PostS C env sc ν s Q) nev s

end Mine

namespace Mine
open PySem

section
variable {C : Cx} {n : Nat} {sc : Scope} {l : Loc} {ν : Nu}

theorem PostV.after {ν₁ : Nu} {s s₁ : Shared} {Q : D → Nu → Prop} (x : Fro no ν ν₁ s s₁) {v : Value} {s' : Shared} (p : PostV C ν₁ s₁ Q v s') : PostV C ν s Q v s' :=
  let ⟨d, ν', a, b, c, q⟩ := p; ⟨d, ν', a, b, x.trans c, q⟩
theorem PostB.after {ν₁ : Nu} {s s₁ : Shared} {Q : Bool → Nu → Prop} (x : Fro no ν ν₁ s s₁) {v : Bool} {s' : Shared} (p : PostB C ν₁ s₁ Q v s') : PostB C ν s Q v s' :=
  let ⟨ν', b, c, q⟩ := p; ⟨ν', b, x.trans c, q⟩
theorem noTup {s : Shared} : ∀ b o, no b → s.heap.get? b = some o → ¬ Imm o := fun _ _ q => q.elim
theorem RV.fro {ν ν' : Nu} {s s' : Shared} {v : Value} {d : D} (a : RV s.heap v d) (R : Ref C ν s.heap) (x : Fro no ν ν' s s') : RV s'.heap v d := a.keep (x.tups R noTup)
/-- an end that changes the tokens alone -/
theorem postV_toks {s : Shared} {Q : D → Nu → Prop} {v : Value} {d : D} {t : Nat} (R : Ref C ν s.heap) (a : RV s.heap v d) (q : Q d ν) : PostV C ν s Q v { s with toks := t } := ⟨d, ν, a, R, .toks, q⟩
theorem postV_here {s : Shared} {Q : D → Nu → Prop} {v : Value} {d : D} (R : Ref C ν s.heap) (a : RV s.heap v d) (q : Q d ν) : PostV C ν s Q v s := ⟨d, ν, a, R, .refl, q⟩
theorem postB_here {s : Shared} {Q : Bool → Nu → Prop} {b : Bool} (R : Ref C ν s.heap) (q : Q b ν) : PostB C ν s Q b s := ⟨ν, R, .refl, q⟩
-- constants, names
theorem TE_int {i : Int} {k pos} {Q : D → Nu → Prop} (h : Q (.int i) ν) : TE C n sc (.Constant (.int i) k pos) l ν Q := fun _ _ _ _ R _ => wpAny_Constant_int (postV_toks R (.int ..) h)
theorem TE_str {x : Str} {k pos} {Q : D → Nu → Prop} (h : Q (.str x) ν) : TE C n sc (.Constant (.str x) k pos) l ν Q := fun _ _ _ _ R _ => wpAny_Constant_str (postV_toks R (.str ..) h)
theorem TE_name {x : Str} {pos} {d : D} {Q : D → Nu → Prop} (hx : lk l x = some d) (h : Q d ν) (hd : (x == ("__debug__" : Str)) = false) (hc : (x == ("__classdict__" : Str)) = false) : TE C n sc (.Name x pos) l ν Q := by
  intro A env s _ R F
  refine wpAny_Name ?_ hd
  have hk : env.scope.kind = .function := F.scope ▸ F.kind
  rcases F.kinds x d hx with q | ⟨q, c, hcc⟩
  · obtain ⟨m, hn, hm⟩ := F.ns
    obtain ⟨v, e, r⟩ := hm x d hx q
    exact wpAny_loadName_local hk (by unfold Env.kindOf; rw [F.scope]; exact q) hn e (postV_here R r h)
  · obtain ⟨v, hv, r⟩ := F.cell x c hcc
    obtain ⟨u, rfl, r'⟩ := r d hx (by rcases q with q | q <;> rw [q] <;> simp)
    rcases q with q | q
    · exact wpAny_loadName_cell hk (by unfold Env.kindOf; rw [F.scope]; exact q) hcc hv (postV_here R r' h)
    · exact wpAny_loadName_free hk (by unfold Env.kindOf; rw [F.scope]; exact q) hcc hv (postV_here R r' h) hc

/-- what a global name stands for -/
def Cx.G (C : Cx) (x : Str) (v : Value) : Prop := C.mg x = some v ∨ (C.mg x = none ∧ C.mb x = some v)
theorem TE_glob {x : Str} {pos} {v : Value} {Q : D → Nu → Prop} (hk : sc.names.lookup x = some .globalImplicit) (hg : C.G x v) (h : Q (.val v) ν) (hd : (x == ("__debug__" : Str)) = false) : TE C n sc (.Name x pos) l ν Q := by
  intro A env s _ R F
  refine wpAny_Name ?_ hd
  have hkk : env.scope.kind = .function := F.scope ▸ F.kind
  have hx : env.kindOf x = some .globalImplicit := by unfold Env.kindOf; rw [F.scope]; exact hk
  have g := C.g.keeps R.keep
  have b := C.b.keeps R.keep
  unfold loadName
  simp only [Env.blockKind, hkk, hx, ScopeKind.isAnnotationScope, Bool.false_and, Bool.false_eq_true, if_false]
  rcases hg with hg | ⟨hg, hb⟩
  · exact Calls.loadGlobal_global (F.glob ▸ g) hg (postV_here R (.val v) h)
  · exact Calls.loadGlobal_builtin (F.glob ▸ g) hg (F.blt ▸ b) hb (postV_here R (.val v) h)

-- operators
theorem TE_bin {a b : Expr} {op pos} {Q : D → Nu → Prop} (h : TE C n sc a l ν (fun d ν₁ => TE C n sc b l ν₁ (fun e ν₂ => T2 C n (binaryOp op) d e ν₂ Q))) : TE C n sc (.BinOp a op b pos) l ν Q := by
  intro A env s hA R F
  refine wpAny_BinOp (wpAny_mono (h A env s hA R F) ?_ fun _ _ x => x)
  rintro v s₁ ⟨d, ν₁, hv, R₁, x₁, hq⟩
  refine wpAny_mono (hq A env s₁ hA R₁ (F.fro R x₁)) ?_ fun _ _ x => x
  rintro u s₂ ⟨e, ν₂, hu, R₂, x₂, hq2⟩
  exact wpAny_mono (hq2 A s₂ v u hA R₂ ((F.fro R x₁).fro R₁ x₂).baseLe (hv.fro R₁ x₂) hu) (fun _ _ p => (p.after x₂).after x₁) fun _ _ x => x
theorem TE_cmp {a b : Expr} {op pos} {Q : D → Nu → Prop} (h : TE C n sc a l ν (fun d ν₁ => TE C n sc b l ν₁ (fun e ν₂ => T2 C n (compareOp op) d e ν₂ Q))) (hm : behindInMarks op b = false) : TE C n sc (.Compare a [op] [b] pos) l ν Q := by
  intro A env s hA R F
  refine wpAny_Compare1 (wpAny_mono (h A env s hA R F) ?_ fun _ _ x => x) hm
  rintro v s₁ ⟨d, ν₁, hv, R₁, x₁, hq⟩
  refine wpAny_mono (hq A env s₁ hA R₁ (F.fro R x₁)) ?_ fun _ _ x => x
  rintro u s₂ ⟨e, ν₂, hu, R₂, x₂, hq2⟩
  exact wpAny_mono (hq2 A s₂ v u hA R₂ ((F.fro R x₁).fro R₁ x₂).baseLe (hv.fro R₁ x₂) hu) (fun _ _ p => (p.after x₂).after x₁) fun _ _ x => x
theorem TE_un {a : Expr} {op pos} {Q : D → Nu → Prop} (h : TE C n sc a l ν (fun d ν₁ => T1 C n (unaryOp op) d ν₁ Q)) : TE C n sc (.UnaryOp op a pos) l ν Q := by
  intro A env s hA R F
  refine wpAny_UnaryOp (wpAny_mono (h A env s hA R F) ?_ fun _ _ x => x)
  rintro v s₁ ⟨d, ν₁, hv, R₁, x₁, hq⟩
  exact wpAny_mono (hq A s₁ v hA R₁ (F.fro R x₁).baseLe hv) (fun _ _ p => p.after x₁) fun _ _ x => x
theorem T1_not {d : D} {Q : D → Nu → Prop} (h : TT C n d ν (fun b ν' => Q (.bool (!b)) ν')) : T1 C n (unaryOp .Not) d ν Q := fun A s v hA R hz hv =>
  not_value (wpAny_mono (h A s v hA R hz hv) (fun _ _ ⟨ν', R', x', q⟩ => ⟨_, ν', .bool _, R', x', q⟩) fun _ _ x => x)

-- tests
theorem TB_val {e : Expr} {Q : Bool → Nu → Prop} (h : TE C n sc e l ν (fun d ν₁ => TT C n d ν₁ Q)) (he : ∀ env whole, isTrue e env whole = (do let v ← whole; standAt e.pos; holding [v] (truthy v))) : TB C n sc e l ν Q := by
  intro A env s hA R F
  refine wpAny_isTrue_value (wpAny_mono (h A env s hA R F) ?_ fun _ _ x => x) (he env _)
  rintro v s₁ ⟨d, ν₁, hv, R₁, x₁, hq⟩
  exact wpAny_mono (hq A s₁ v hA R₁ (F.fro R x₁).baseLe hv) (fun _ _ p => p.after x₁) fun _ _ x => x
theorem TB_cmp {a b : Expr} {op pos} {Q : Bool → Nu → Prop} (h : TE C n sc a l ν (fun d ν₁ => TE C n sc b l ν₁ (fun e ν₂ => T2 C n (compareOp op) d e ν₂ (fun c ν₃ => TT C n c ν₃ Q)))) (hm : behindInMarks op b = false) : TB C n sc (.Compare a [op] [b] pos) l ν Q := by
  intro A env s hA R F
  refine wpAny_isTrue_Compare1 (wpAny_mono (h A env s hA R F) ?_ fun _ _ x => x) hm
  rintro v s₁ ⟨d, ν₁, hv, R₁, x₁, hq⟩
  refine wpAny_mono (hq A env s₁ hA R₁ (F.fro R x₁)) ?_ fun _ _ x => x
  rintro u s₂ ⟨e, ν₂, hu, R₂, x₂, hq2⟩
  refine wpAny_mono (hq2 A s₂ v u hA R₂ ((F.fro R x₁).fro R₁ x₂).baseLe (hv.fro R₁ x₂) hu) ?_ fun _ _ x => x
  rintro c s₃ ⟨e, ν₃, hc, R₃, x₃, hq3⟩
  exact wpAny_mono (hq3 A s₃ c hA R₃ (((F.fro R x₁).fro R₁ x₂).fro R₂ x₃).baseLe hc) (fun _ _ p => ((p.after x₃).after x₂).after x₁) fun _ _ x => x
theorem TB_not {e : Expr} {pos} {Q : Bool → Nu → Prop} (h : TB C n sc e l ν (fun b ν' => Q (!b) ν')) : TB C n sc (.UnaryOp .Not e pos) l ν Q := fun A env s hA R F =>
  wpAny_isTrue_Not (wpAny_mono (h A env s hA R F) (fun _ _ ⟨a, b, c, q⟩ => ⟨a, b, c, q⟩) fun _ _ x => x)
def TA (C : Cx) (n : Nat) (sc : Scope) (op : BoolOp) (es : List Expr) (l : Loc) (ν : Nu) (Q : Bool → Nu → Prop) : Prop :=
  ∀ A env s, Aok n A → Ref C ν s.heap → Frm C env sc l ν s.heap → wpAny (model C.prog C.w) A (allTrue op es env) (PostB C ν s Q) nev s
theorem TB_boolop {op : BoolOp} {es : List Expr} {pos} {Q : Bool → Nu → Prop} (h : TA C n sc op es l ν Q) : TB C n sc (.BoolOp op es pos) l ν Q := fun A env s hA R F => wpAny_isTrue_BoolOp (h A env s hA R F)
theorem TA_and_nil {Q : Bool → Nu → Prop} (h : Q true ν) : TA C n sc .And [] l ν Q := fun _ _ _ _ R _ => wpAny_allTrue_And_nil (postB_here R h)
theorem TA_or_nil {Q : Bool → Nu → Prop} (h : Q false ν) : TA C n sc .Or [] l ν Q := fun _ _ _ _ R _ => wpAny_allTrue_Or_nil (postB_here R h)
theorem TA_and {e : Expr} {es : List Expr} {Q : Bool → Nu → Prop} (h : TB C n sc e l ν (fun b ν₁ => if b = true then TA C n sc .And es l ν₁ Q else Q false ν₁)) : TA C n sc .And (e :: es) l ν Q := by
  intro A env s hA R F
  refine wpAny_allTrue_And_cons (wpAny_mono (h A env s hA R F) ?_ fun _ _ x => x)
  rintro b s₁ ⟨ν₁, R₁, x₁, hq⟩
  cases b
  · exact ⟨ν₁, R₁, x₁, by simpa using hq⟩
  · exact wpAny_mono ((by simpa using hq : TA C n sc .And es l ν₁ Q) A env s₁ hA R₁ (F.fro R x₁)) (fun _ _ p => p.after x₁) fun _ _ x => x
theorem TA_or {e : Expr} {es : List Expr} {Q : Bool → Nu → Prop} (h : TB C n sc e l ν (fun b ν₁ => if b = true then Q true ν₁ else TA C n sc .Or es l ν₁ Q)) : TA C n sc .Or (e :: es) l ν Q := by
  intro A env s hA R F
  refine wpAny_allTrue_Or_cons (wpAny_mono (h A env s hA R F) ?_ fun _ _ x => x)
  rintro b s₁ ⟨ν₁, R₁, x₁, hq⟩
  cases b
  · exact wpAny_mono ((by simpa using hq : TA C n sc .Or es l ν₁ Q) A env s₁ hA R₁ (F.fro R x₁)) (fun _ _ p => p.after x₁) fun _ _ x => x
  · exact ⟨ν₁, R₁, x₁, by simpa using hq⟩
theorem TT_bool {b : Bool} {Q : Bool → Nu → Prop} (h : Q b ν) : TT C n (.bool b) ν Q := by
  intro A s v _ R _ hv
  cases hv
  exact wpAny_truthy_bool (postB_here R h)

/-- and, or as values -/
def TO (C : Cx) (n : Nat) (sc : Scope) (op : BoolOp) (es : List Expr) (l : Loc) (ν : Nu) (Q : D → Nu → Prop) : Prop :=
  ∀ A env s pos, Aok n A → Ref C ν s.heap → Frm C env sc l ν s.heap → wpAny (model C.prog C.w) A (boolOp pos op (evalEach es env)) (PostV C ν s Q) nev s
theorem TE_boolop {op : BoolOp} {es : List Expr} {pos} {Q : D → Nu → Prop} (h : TO C n sc op es l ν Q) : TE C n sc (.BoolOp op es pos) l ν Q := fun A env s hA R F => h A env s pos hA R F
theorem TO_one {op : BoolOp} {e : Expr} {Q : D → Nu → Prop} (h : TE C n sc e l ν Q) : TO C n sc op [e] l ν Q := fun A env s _ hA R F => h A env s hA R F
theorem TO_and {e f : Expr} {es : List Expr} {Q : D → Nu → Prop} (h : TE C n sc e l ν (fun d ν₁ => TT C n d ν₁ (fun b ν₂ => if b = true then TO C n sc .And (f :: es) l ν₂ Q else Q d ν₂))) : TO C n sc .And (e :: f :: es) l ν Q := by
  intro A env s pos hA R F
  show wpAny _ A (eval e env >>= fun v => standAt pos >>= fun _ => holding [v] (truthy v) >>= fun t => match BoolOp.And, t with | .And, false | .Or, true => pure v | _, _ => boolOp pos .And (evalEach (f :: es) env)) _ _ s
  refine wpAny_bind (wpAny_mono (h A env s hA R F) ?_ fun _ _ x => x)
  rintro v s₁ ⟨d, ν₁, hv, R₁, x₁, hq⟩
  refine wpAny_bind (wpAny_standAt (wpAny_bind (wpAny_holding (wpAny_mono (hq A s₁ v hA R₁ (F.fro R x₁).baseLe hv) ?_ fun _ _ x => x))))
  rintro b s₂ ⟨ν₂, R₂, x₂, hq2⟩
  cases b
  · exact wpAny_pure ⟨d, ν₂, hv.fro R₁ x₂, R₂, x₁.trans x₂, by simpa using hq2⟩
  · exact wpAny_mono ((by simpa using hq2 : TO C n sc .And (f :: es) l ν₂ Q) A env s₂ pos hA R₂ ((F.fro R x₁).fro R₁ x₂)) (fun _ _ p => (p.after x₂).after x₁) fun _ _ x => x
-- lists of expressions, displays
def isSt : Expr → Bool
  | .Starred _ _ => true
  | _ => false
theorem starEach_cons {e : Expr} (h : isSt e = false) (es : List Expr) (env : Env) : starEach (e :: es) env = (false, eval e env) :: starEach es env := by
  cases e <;> first | rfl | cases h
def noSt : List Expr → Bool
  | [] => true
  | e :: es => !isSt e && noSt es
theorem noSt_any : ∀ {es : List Expr}, noSt es = true → ∀ pos env, (backTo pos (starEach es env)).any (·.1) = false
  | [], _, _, _ => rfl
  | e :: es, h, pos, env => by
    simp only [noSt, Bool.and_eq_true, Bool.not_eq_true'] at h
    rw [starEach_cons h.1]
    show (false || (backTo pos (starEach es env)).any (·.1)) = false
    rw [noSt_any h.2]; rfl
theorem TL_nil {Q : List D → Nu → Prop} (h : Q [] ν) : TL C n sc [] l ν Q := fun _ _ _ _ _ R _ => wpAny_items_nil ⟨[], ν, .nil, R, .refl, h⟩
theorem TL_cons {e : Expr} {es : List Expr} {Q : List D → Nu → Prop} (h : TE C n sc e l ν (fun d ν₁ => TL C n sc es l ν₁ (fun ds ν₂ => Q (d :: ds) ν₂))) (he : isSt e = false := by rfl) : TL C n sc (e :: es) l ν Q := by
  intro A env s pos hA R F
  refine wpAny_items_cons (wpAny_mono (h A env s hA R F) ?_ fun _ _ x => x) (starEach_cons he es env)
  rintro v s₁ ⟨d, ν₁, hv, R₁, x₁, hq⟩
  refine wpAny_mono (hq A env s₁ pos hA R₁ (F.fro R x₁)) ?_ fun _ _ x => x
  rintro vs s₂ ⟨ds, ν₂, hvs, R₂, x₂, hq2⟩
  exact ⟨d :: ds, ν₂, .cons (hv.fro R₁ x₂) hvs, R₂, x₁.trans x₂, hq2⟩

theorem TupKeep.push {h : Heap} (o : Obj) : TupKeep h (h.push o) := fun _ _ e _ => Heap.get?_push_of_some o e
theorem Ref.push {h : Heap} (R : Ref C ν h) (o : Obj) : Ref C ν (h.push o) :=
  ⟨fun b o' e => Heap.get?_push_of_some o (R.keep b o' e), fun a o' e => by
    obtain ⟨ob, hob, _⟩ := (R.at_ a o' e).get
    exact (R.at_ a o' e).keep (TupKeep.push o) ((Heap.get?_push_of_some o hob).trans hob.symm), R.own⟩
theorem Fro.push {own : Addr → Prop} {s : Shared} (o : Obj) (t : Nat) : Fro own ν ν s { s with heap := s.heap.push o, toks := t } :=
  Fro.ofKeep fun _ _ e => Heap.get?_push_of_some o e

theorem TE_tuple {es : List Expr} {k pos} {Q : D → Nu → Prop} (h : TL C n sc es l ν (fun ds ν₁ => ds.length ≤ 1000 ∧ Q (.tup ds) ν₁)) : TE C n sc (.Tuple es k pos) l ν Q := by
  intro A env s hA R F
  refine wpAny_Tuple (wpAny_mono (h A env s pos hA R F) ?_ fun _ _ x => x)
  rintro vs s₁ ⟨ds, ν₁, hvs, R₁, x₁, hl, hq⟩
  refine ⟨by rw [hvs.length, sizeLine_eq]; omega, .tup ds, ν₁, .tup (n := 0) (Heap.get?_push_size _ rfl) (hvs.keep (TupKeep.push _)), R₁.push _, x₁.trans (Fro.push _ _), hq⟩

/-- a new object at a fresh address -/
theorem Ref.alloc {h : Heap} (R : Ref C ν h) {o : AObj} {ob : Obj} (ho : ObjAt C (h.push ob) h.objs.size o) (hs : C.base.objs.size ≤ h.objs.size) : Ref C (upd ν h.objs.size o) (h.push ob) := by
  refine ⟨(R.push ob).keep, fun a o' e => ?_, fun a o' e hn => ?_⟩
  · unfold upd at e
    split at e
    · rename_i q; cases e; subst q; exact ho
    · exact (R.push ob).at_ a o' e
  · unfold upd at e
    split at e
    · rename_i q; subst q; exact hs
    · exact R.own a o' e hn
theorem Ref.fresh {h : Heap} (R : Ref C ν h) : ν h.objs.size = none := by
  cases q : ν h.objs.size with
  | none => rfl
  | some o => exact absurd (R.at_ _ _ q).lt (Nat.lt_irrefl _)
theorem Fro.alloc {own : Addr → Prop} {s : Shared} (o : AObj) (ob : Obj) (t : Nat) : Fro own ν (upd ν s.heap.objs.size o) s { s with heap := s.heap.push ob, toks := t } :=
  ⟨⟨_, _, rfl⟩, (Fro.push (own := own) (ν := ν) ob t).keep, (Fro.push (own := own) (ν := ν) ob t).alive, fun b o e hn => by unfold upd; rw [if_neg (Nat.ne_of_lt (Heap.lt_size e))]; exact hn⟩

theorem TE_list {es : List Expr} {pos} {Q : D → Nu → Prop} (h : TL C n sc es l ν (fun ds ν₁ => ds.length ≤ 1000 ∧ ∀ a, ν₁ a = none → Q (.ref a) (upd ν₁ a (.lst ds)))) : TE C n sc (.List es pos) l ν Q := by
  intro A env s hA R F
  refine wpAny_List (wpAny_mono (h A env s pos hA R F) ?_ fun _ _ x => x)
  rintro vs s₁ ⟨ds, ν₁, hvs, R₁, x₁, hl, hq⟩
  refine ⟨by rw [hvs.length, sizeLine_eq]; omega, .ref _, _, .ref _, R₁.alloc (o := .lst ds) ⟨vs, 0, Heap.get?_push_size _ rfl, hvs.keep (TupKeep.push _)⟩ (F.fro R x₁).baseLe, x₁.trans (Fro.alloc _ _ _), hq _ R₁.fresh⟩

-- statements
theorem PostS.after {env : Env} {ν₁ : Nu} {s s₁ : Shared} {Q : Fl → Loc → Nu → Prop} (x : Fro (fr env) ν ν₁ s s₁) {f : Flow} {s' : Shared} (p : PostS C env sc ν₁ s₁ Q f s') : PostS C env sc ν s Q f s' :=
  let ⟨fl, l', ν', a, b, c, d, q⟩ := p; ⟨fl, l', ν', a, b, c, x.trans d, q⟩
theorem Fro.toFr {own : Addr → Prop} {ν ν' : Nu} {s s' : Shared} (x : Fro no ν ν' s s') : Fro own ν ν' s s' := x.weaken fun _ q => q.elim

theorem TSs_nil {Q : Fl → Loc → Nu → Prop} (h : Q .next l ν) : TSs C n sc [] l ν Q := fun _ _ _ _ R F => wpAny_execs_nil ⟨.next, l, ν, .next, R, F, .refl, h⟩
abbrev NxtK (C : Cx) (n : Nat) (sc : Scope) (rest : List Stmt) (Q : Fl → Loc → Nu → Prop) (fl : Fl) (l₁ : Loc) (ν₁ : Nu) : Prop := match fl with | .next => TSs C n sc rest l₁ ν₁ Q | fl => Q fl l₁ ν₁
abbrev FunK (Q : D → Nu → Prop) (fl : Fl) (l₁ : Loc) (ν₁ : Nu) : Prop := match fl with | .ret d => Q d ν₁ | _ => Q .none ν₁
theorem TSs_cons {st : Stmt} {rest : List Stmt} {Q : Fl → Loc → Nu → Prop} (h : TS C n sc st l ν (NxtK C n sc rest Q)) : TSs C n sc (st :: rest) l ν Q := by
  intro A env s hA R F
  refine wpAny_execs_cons (wpAny_mono (h A env s hA R F) ?_ fun _ _ x => x)
  rintro f s₁ ⟨fl, l₁, ν₁, hf, R₁, F₁, x₁, hq⟩
  cases hf with
  | next => exact wpAny_mono (hq A env s₁ hA R₁ F₁) (fun _ _ p => p.after x₁) fun _ _ x => x
  | brk => exact ⟨.brk, l₁, ν₁, .brk, R₁, F₁, x₁, hq⟩
  | cont => exact ⟨.cont, l₁, ν₁, .cont, R₁, F₁, x₁, hq⟩
  | ret r => exact ⟨.ret _, l₁, ν₁, .ret r, R₁, F₁, x₁, hq⟩
theorem TS_ret {e : Expr} {pos} {Q : Fl → Loc → Nu → Prop} (h : TE C n sc e l ν (fun d ν₁ => Q (.ret d) l ν₁)) : TS C n sc (.Return (some e) pos) l ν Q := by
  intro A env s hA R F
  refine wpAny_Return_some (wpAny_mono (h A env s hA R F) ?_ fun _ _ x => x)
  rintro v s₁ ⟨d, ν₁, hv, R₁, x₁, hq⟩
  exact ⟨.ret d, l, ν₁, .ret hv, R₁, F.fro R x₁, x₁.toFr, hq⟩
theorem TS_if {test : Expr} {body orelse : List Stmt} {pos} {Q : Fl → Loc → Nu → Prop} (h : TB C n sc test l ν (fun b ν₁ => if b = true then TSs C n sc body l ν₁ Q else TSs C n sc orelse l ν₁ Q)) : TS C n sc (.If test body orelse pos) l ν Q := by
  intro A env s hA R F
  refine wpAny_If (wpAny_mono (h A env s hA R F) ?_ fun _ _ x => x)
  rintro b s₁ ⟨ν₁, R₁, x₁, hq⟩
  cases b
  · exact wpAny_mono ((by simpa using hq : TSs C n sc orelse l ν₁ Q) A env s₁ hA R₁ (F.fro R x₁)) (fun _ _ p => p.after x₁.toFr) fun _ _ x => x
  · exact wpAny_mono ((by simpa using hq : TSs C n sc body l ν₁ Q) A env s₁ hA R₁ (F.fro R x₁)) (fun _ _ p => p.after x₁.toFr) fun _ _ x => x

/-- a name takes a value -/
def storable (sc : Scope) (x : Str) : Prop := sc.names.lookup x = some .local ∨ sc.names.lookup x = some .cell
theorem store_name {A : Around} {env : Env} {s : Shared} {x : Str} {v : Value} {d : D} {Q : Unit → Shared → Prop} {E : Value → Shared → Prop} {M : Model} (R : Ref C ν s.heap) (F : Frm C env sc l ν s.heap) (hx : storable sc x) (hv : RV s.heap v d)
    (h : ∀ s', Ref C ν s'.heap → Frm C env sc (put l x d) ν s'.heap → Fro (fr env) ν ν s s' → Q () s') : wpAny M A (storeName env x v) Q E s := by
  have hk : env.scope.kind = .function := F.scope ▸ F.kind
  have fin : ∀ (p : Addr) (h' : Heap) (t : Nat), Heap.SameBut p s.heap h' → (∃ o', h'.get? p = some o') → fr env p → ν p = none → C.base.objs.size ≤ p → Ref C ν h' ∧ Fro (fr env) ν ν s { s with heap := h', toks := t } ∧ TupKeep s.heap h' := by
    intro p h' t sb hal hp hn hb
    have k : TupKeep s.heap h' := fun a o e hi => (sb.2 a fun q => F.notTup a o (q ▸ hp) e hi).trans e
    refine ⟨⟨fun b o e => (sb.2 b (Nat.ne_of_lt (Nat.lt_of_lt_of_le (Heap.lt_size e) hb))).trans (R.keep b o e), fun a o e => (R.at_ a o e).keep k (sb.2 a fun q => ?_), R.own⟩, ⟨⟨h', t, rfl⟩, fun b o e _ ho => (sb.2 b fun q => ho (q ▸ hp)).trans e, fun b o e _ => if q : b = p then q ▸ hal else ⟨o, (sb.2 b q).trans e⟩, fun _ _ _ q => q⟩, k⟩
    rw [q, hn] at e; cases e
  rcases hx with hx | hx
  · obtain ⟨m, hn, hm⟩ := F.ns
    refine wpAny_storeName_local (by unfold Env.kindOf; rw [F.scope]; exact hx) hn (fun h' hn' sb => ?_) (by rw [hk]; rfl)
    obtain ⟨R', X', k⟩ := fin env.locals h' (s.toks + 1) sb (let ⟨o, _, _, e, _⟩ := hn'; ⟨o, e⟩) (.inl rfl) F.nuL F.above
    refine h _ R' ⟨F.scope, F.kind, F.glob, F.blt, ⟨_, hn', fun y e h1 h2 => ?_⟩, fun y c hc => ?_, fun y e h1 => ?_, F.cells, F.nuL, F.nuC, F.apart, F.above, F.aboveC⟩ X'
    · rw [lk_put] at h1
      by_cases hy : y = x
      · subst hy; rw [if_pos rfl] at h1; cases h1; exact ⟨v, if_pos rfl, hv.keep k⟩
      · rw [if_neg hy] at h1; obtain ⟨u, e1, e2⟩ := hm y e h1 h2; exact ⟨u, (if_neg hy).trans e1, e2.keep k⟩
    · obtain ⟨u, ⟨o, ho, hd⟩, r⟩ := F.cell y c hc
      refine ⟨u, ⟨o, (sb.2 c (F.neC hc)).trans ho, hd⟩, fun e h1 h2 => ?_⟩
      rw [lk_put] at h1
      by_cases hy : y = x
      · subst hy; exact absurd hx h2
      · rw [if_neg hy] at h1; obtain ⟨z, e1, e2⟩ := r e h1 h2; exact ⟨z, e1, e2.keep k⟩
    · rw [lk_put] at h1
      by_cases hy : y = x
      · subst hy; exact .inl hx
      · rw [if_neg hy] at h1; exact F.kinds y e h1
  · obtain ⟨c, hc⟩ := F.cells x hx
    obtain ⟨u, hu, r⟩ := F.cell x c hc
    refine wpAny_storeName_cell hk (by unfold Env.kindOf; rw [F.scope]; exact hx) hc hu fun h' hc' sb => ?_
    obtain ⟨R', X', k⟩ := fin c h' s.toks sb (let ⟨o, e, _⟩ := hc'; ⟨o, e⟩) (.inr ⟨x, hc⟩) (F.nuC x c hc) (F.aboveC x c hc)
    refine h _ R' ⟨F.scope, F.kind, F.glob, F.blt, ?_, fun y c' hcy => ?_, fun y e h1 => ?_, F.cells, F.nuL, F.nuC, F.apart, F.above, F.aboveC⟩ X'
    · obtain ⟨m, ⟨o, es, ep, ho, q⟩, hm⟩ := F.ns
      refine ⟨m, ⟨o, es, ep, (sb.2 _ (Ne.symm (F.neC hc))).trans ho, q⟩, fun y e h1 h2 => ?_⟩
      rw [lk_put] at h1
      by_cases hy : y = x
      · subst hy; rw [hx] at h2; cases h2
      · rw [if_neg hy] at h1; obtain ⟨z, e1, e2⟩ := hm y e h1 h2; exact ⟨z, e1, e2.keep k⟩
    · by_cases hy : y = x
      · subst hy
        rw [hc] at hcy; cases hcy
        refine ⟨some v, hc', fun e h1 h2 => ?_⟩
        rw [lk_put, if_pos rfl] at h1; cases h1
        exact ⟨v, rfl, hv.keep k⟩
      · obtain ⟨z, ⟨o, ho, hd⟩, r'⟩ := F.cell y c' hcy
        have hne : c' ≠ c := fun q => hy (F.apart y x c (q ▸ hcy) hc)
        refine ⟨z, ⟨o, (sb.2 c' hne).trans ho, hd⟩, fun e h1 h2 => ?_⟩
        rw [lk_put, if_neg hy] at h1
        obtain ⟨w', e1, e2⟩ := r' e h1 h2
        exact ⟨w', e1, e2.keep k⟩
    · rw [lk_put] at h1
      by_cases hy : y = x
      · subst hy; exact .inr ⟨.inl hx, c, hc⟩
      · rw [if_neg hy] at h1; exact F.kinds y e h1

theorem TS_assign {x : Str} {pos' pos} {value : Expr} {Q : Fl → Loc → Nu → Prop} (h : TE C n sc value l ν (fun d ν₁ => Q .next (put l x d) ν₁)) (hx : storable sc x)
    (hs : ∀ env, swapsWith value (some (.Name x pos')) pos.line env = pure false) : TS C n sc (.Assign [.Name x pos'] value pos) l ν Q := by
  intro A env s hA R F
  refine wpAny_Assign_Name (wpAny_mono (h A env s hA R F) ?_ fun _ _ x => x) (hs env)
  rintro v s₁ ⟨d, ν₁, hv, R₁, x₁, hq⟩
  exact store_name R₁ (F.fro R x₁) hx hv fun s' R' F' X' => ⟨.next, _, ν₁, .next, R', F', x₁.toFr.trans X', hq⟩

theorem TE_mono {e : Expr} {Q Q' : D → Nu → Prop} (h : TE C n sc e l ν Q) (hq : ∀ d ν', Q d ν' → Q' d ν') : TE C n sc e l ν Q' :=
  fun A env s hA R F => wpAny_mono (h A env s hA R F) (fun _ _ ⟨d, ν', a, b, c, q⟩ => ⟨d, ν', a, b, c, hq _ _ q⟩) fun _ _ x => x
end
end Mine

namespace Mine
open PySem

section
variable {C : Cx} {n : Nat} {sc : Scope} {l : Loc} {ν : Nu}

theorem Ref.sameBut {h h' : Heap} {I : Addr} (R : Ref C ν h) (k : ∀ b o, b ≠ I → h.get? b = some o → h'.get? b = some o) (hn : ν I = none) (hb : C.base.objs.size ≤ I) (ht : ∀ o, h.get? I = some o → ¬ Imm o) : Ref C ν h' := by
  have kt : TupKeep h h' := fun a o e hi => k a _ (fun q => ht o (q ▸ e) hi) e
  refine ⟨fun b o e => k b o (Nat.ne_of_lt (Nat.lt_of_lt_of_le (Heap.lt_size e) hb)) (R.keep b o e), fun a o e => ?_, R.own⟩
  obtain ⟨ob, hob, _⟩ := (R.at_ a o e).get
  refine (R.at_ a o e).keep kt ((k a ob (fun q => ?_) hob).trans hob.symm)
  rw [q, hn] at e; cases e
theorem Frm.sameBut {env : Env} {h h' : Heap} {I : Addr} (F : Frm C env sc l ν h) (k : ∀ b o, b ≠ I → h.get? b = some o → h'.get? b = some o) (hI : ¬ fr env I) (ht : ∀ o, h.get? I = some o → ¬ Imm o) : Frm C env sc l ν h' := by
  have kt : TupKeep h h' := fun a o e hi => k a _ (fun q => ht o (q ▸ e) hi) e
  obtain ⟨m, ⟨o, es, ep, ho, r⟩, hm⟩ := F.ns
  refine ⟨F.scope, F.kind, F.glob, F.blt, ⟨m, ⟨o, es, ep, k _ _ (fun q => hI (.inl q.symm)) ho, r⟩, fun y d h1 h2 => let ⟨v, a, b⟩ := hm y d h1 h2; ⟨v, a, b.keep kt⟩⟩, fun y c hc => ?_, F.kinds, F.cells, F.nuL, F.nuC, F.apart, F.above, F.aboveC⟩
  obtain ⟨v, ⟨o', ho', hd'⟩, q⟩ := F.cell y c hc
  exact ⟨v, ⟨o', k _ _ (fun q => hI (.inr ⟨y, q ▸ hc⟩)) ho', hd'⟩, fun d h1 h2 => let ⟨u, a, b⟩ := q d h1 h2; ⟨u, a, b.keep kt⟩⟩
theorem fr_lt {env : Env} {h : Heap} {b : Addr} (F : Frm C env sc l ν h) (hb : fr env b) : ∃ o, h.get? b = some o := by
  rcases hb with rfl | ⟨x, hx⟩
  · obtain ⟨m, ⟨o, es, ep, ho, r⟩, hm⟩ := F.ns; exact ⟨o, ho⟩
  · obtain ⟨v, ⟨o, ho, _⟩, _⟩ := F.cell x b hx; exact ⟨o, ho⟩

-- while
abbrev WhileK (I : Nat → Loc → Nu → Prop) (k : Nat) (Q : Fl → Loc → Nu → Prop) (fl : Fl) (l₂ : Loc) (ν₂ : Nu) : Prop := match fl with
  | .next | .cont => ∃ k' l₃, k' < k ∧ Sub l₃ l₂ ∧ I k' l₃ ν₂
  | .brk => Q .next l₂ ν₂
  | .ret d => Q (.ret d) l₂ ν₂
abbrev LoopK (J : Nat → Loc → Nu → Prop) (i : Nat) (Q : Fl → Loc → Nu → Prop) (fl : Fl) (l₂ : Loc) (ν₂ : Nu) : Prop := match fl with
  | .next | .cont => ∃ l₃, Sub l₃ l₂ ∧ J (i + 1) l₃ ν₂
  | .brk => Q .next l₂ ν₂
  | .ret d => Q (.ret d) l₂ ν₂
inductive WhI (C : Cx) (env : Env) (sc : Scope) (ν : Nu) (s : Shared) (I : Nat → Loc → Nu → Prop) (k : Nat) (s' : Shared) : Prop
  | mk (l' : Loc) (ν' : Nu) (R : Ref C ν' s'.heap) (F : Frm C env sc l' ν' s'.heap) (x : Fro (fr env) ν ν' s s') (hI : I k l' ν') : WhI C env sc ν s I k s'
theorem TS_while {test : Expr} {body : List Stmt} {pos} {Q : Fl → Loc → Nu → Prop} (I : Nat → Loc → Nu → Prop) (k₀ : Nat) (h0 : I k₀ l ν)
    (turn : ∀ k l ν, I k l ν → TB C n sc test l ν (fun b ν₁ => if b = true then TSs C n sc body l ν₁ (WhileK I k Q) else Q .next l ν₁)) : TS C n sc (.While test body [] pos) l ν Q := by
  intro A env s hA R F
  refine wpAny_While (codeAny_whileLoop (WhI C env sc ν s I) ?_ k₀ ⟨l, ν, R, F, .refl, h0⟩)
  rintro k s₁ ⟨l₁, ν₁, R₁, F₁, x₁, hI⟩
  refine wpAny_mono (turn k l₁ ν₁ hI A env s₁ hA R₁ F₁) ?_ fun _ _ x => x.elim
  rintro b s₂ ⟨ν₂, R₂, x₂, hq⟩
  have F₂ := F₁.fro R₁ x₂
  cases b
  · simp only [Bool.false_eq_true, if_false] at hq ⊢
    exact wpAny_execs_nil ⟨.next, l₁, ν₂, .next, R₂, F₂, x₁.trans x₂.toFr, hq⟩
  · simp only [if_true] at hq ⊢
    refine wpAny_mono (hq A env s₂ hA R₂ F₂) ?_ fun _ _ x => x.elim
    rintro f s₃ ⟨fl, l₃, ν₃, hf, R₃, F₃, x₃, hq3⟩
    have X := (x₁.trans x₂.toFr).trans x₃
    cases hf with
    | next => obtain ⟨k', l₄, hk, hs, hI'⟩ := hq3; exact ⟨k', hk, l₄, ν₃, R₃, F₃.sub hs, X, hI'⟩
    | cont => obtain ⟨k', l₄, hk, hs, hI'⟩ := hq3; exact ⟨k', hk, l₄, ν₃, R₃, F₃.sub hs, X, hI'⟩
    | brk => exact ⟨.next, l₃, ν₃, .next, R₃, F₃, X, hq3⟩
    | ret r => exact ⟨.ret _, l₃, ν₃, .ret r, R₃, F₃, X, hq3⟩

-- targets
def TG (C : Cx) (n : Nat) (sc : Scope) (t : Expr) (d : D) (l : Loc) (ν : Nu) (Q : Loc → Nu → Prop) : Prop :=
  ∀ A env s v, Aok n A → Ref C ν s.heap → Frm C env sc l ν s.heap → RV s.heap v d → wpAny (model C.prog C.w) A (assign t env v) (fun _ s' => ∃ l' ν', Ref C ν' s'.heap ∧ Frm C env sc l' ν' s'.heap ∧ Fro (fr env) ν ν' s s' ∧ Q l' ν') nev s
theorem TG_name {x : Str} {pos} {d : D} {Q : Loc → Nu → Prop} (hx : storable sc x) (h : Q (put l x d) ν) : TG C n sc (.Name x pos) d l ν Q := fun _ _ _ _ _ R F hv =>
  wpAny_assign_Name (store_name R F hx hv fun _ R' F' X' => ⟨_, ν, R', F', X', h⟩)

/-- an iterator at I: N items; what it iterates stands while 'src' holds -/
structure ItOk (C : Cx) (I : Addr) (N : Nat) (item : Nat → D) (src : Nu → Prop) (At : Nat → Obj → Prop) : Prop where
  tup : ∀ i o, At i o → ¬ Imm o
  own : ∀ (A : Around) (M : Model) (i : Nat) (s : Shared) (o : Obj) (Q : Unit → Shared → Prop) (E : Value → Shared → Prop) (t : Expr) (v : Value), s.heap.get? I = some o → At i o → Q () s → wpAny M A (letOwnedTupleGo t (.ref I) v) Q E s
  next : ∀ (A : Around) (i : Nat) (s : Shared) (o : Obj) (ν : Nu) (Q : Option Value → Shared → Prop) (E : Value → Shared → Prop), A.handled = none → i < N → Ref C ν s.heap → s.heap.get? I = some o → At i o → src ν →
    (∀ v h' t o', RV h' v (item i) → (∀ b o, b ≠ I → s.heap.get? b = some o → h'.get? b = some o) → h'.get? I = some o' → At (i + 1) o' → Q (some v) { s with heap := h', toks := t }) → wpAny (model C.prog C.w) A (pyNext (.ref I)) Q E s
  done : ∀ (A : Around) (s : Shared) (o : Obj) (ν : Nu) (Q : Option Value → Shared → Prop) (E : Value → Shared → Prop), A.handled = none → Ref C ν s.heap → s.heap.get? I = some o → At N o → src ν →
    (∀ h' t, (∀ b o, b ≠ I → s.heap.get? b = some o → h'.get? b = some o) → Q none { s with heap := h', toks := t }) → wpAny (model C.prog C.w) A (pyNext (.ref I)) Q E s

/-- a step that turns the iterator alone -/
theorem Fro.iter {own : Addr → Prop} {ν₁ : Nu} {s s₁ : Shared} {I : Addr} {h' : Heap} {t : Nat} (x : Fro own ν ν₁ s s₁) (hI : s.heap.get? I = none) (k : ∀ b o, b ≠ I → s₁.heap.get? b = some o → h'.get? b = some o) : Fro own ν ν₁ s { s₁ with heap := h', toks := t } := by
  obtain ⟨⟨h1, t1, rfl⟩, a, b, c⟩ := x
  have ne : ∀ b o, s.heap.get? b = some o → b ≠ I := fun b o e q => by rw [q, hI] at e; cases e
  exact ⟨⟨h', t, rfl⟩, fun b o e hn ho => k b o (ne b o e) (a b o e hn ho), fun p o e hn => let ⟨o', e'⟩ := b p o e hn; ⟨o', k p o' (ne p o e) e'⟩, c⟩

inductive ForI (C : Cx) (env : Env) (sc : Scope) (ν : Nu) (s : Shared) (I : Addr) (N : Nat) (At : Nat → Obj → Prop) (J : Nat → Loc → Nu → Prop) (k : Nat) (s' : Shared) : Prop
  | mk (i : Nat) (l' : Loc) (ν' : Nu) (o : Obj) (hk : k = N - i) (hi : i ≤ N) (R : Ref C ν' s'.heap) (F : Frm C env sc l' ν' s'.heap) (x : Fro (fr env) ν ν' s s') (hn : ν' I = none) (hI : s'.heap.get? I = some o) (hA : At i o) (hJ : J i l' ν') : ForI C env sc ν s I N At J k s'
theorem for_core {A : Around} {env : Env} {s s₂ : Shared} {I : Addr} {N : Nat} {item : Nat → D} {src : Nu → Prop} {At : Nat → Obj → Prop} {o : Obj} {t : Expr} {body : List Stmt} {Q : Fl → Loc → Nu → Prop}
    (W : ItOk C I N item src At) (hA : Aok n A) (F : Frm C env sc l ν s.heap) (x : Fro no ν ν s s₂) (R₂ : Ref C ν s₂.heap) (hI : s₂.heap.get? I = some o) (hAt : At 0 o) (hs : s.heap.get? I = none) (hν : ν I = none) (hb : C.base.objs.size ≤ I) (R : Ref C ν s.heap)
    (J : Nat → Loc → Nu → Prop) (hJ : J 0 l ν) (hsrc : ∀ i l ν, J i l ν → src ν)
    (turn : ∀ i l ν, i < N → J i l ν → TG C n sc t (item i) l ν (fun l₁ ν₁ => TSs C n sc body l₁ ν₁ (LoopK J i Q)))
    (fin : ∀ l ν, J N l ν → Q .next l ν) :
    codeAny (model C.prog C.w) A (.forLoop t (.ref I) body [] env) (fun r s' => match r with | .ok f => PostS C env sc ν s Q f s' | .error e => cameBackBy (model C.prog C.w) A env nev e s') s₂ := by
  have hf : ¬ fr env I := fun q => by obtain ⟨o', e⟩ := fr_lt F q; rw [hs] at e; cases e
  refine codeAny_forLoop_any (ForI C env sc ν s I N At J) ?_ N ⟨0, l, ν, o, by simp, Nat.zero_le _, R₂, F.fro R x, x.toFr, hν, hI, hAt, hJ⟩
  rintro k s₁ ⟨i, l₁, ν₁, o₁, rfl, hi, R₁, F₁, x₁, hn₁, hI₁, hA₁, hJ₁⟩
  have nt : ∀ o, s₁.heap.get? I = some o → ¬ Imm o := fun o e => by rw [hI₁] at e; cases e; exact W.tup _ _ hA₁
  by_cases hlt : i < N
  · refine W.next A i s₁ o₁ ν₁ _ _ hA.1 hlt R₁ hI₁ hA₁ (hsrc _ _ _ hJ₁) fun v h' tk o' hv k hI' hA' => ?_
    have R₃ : Ref C ν₁ h' := R₁.sameBut k hn₁ hb nt
    have F₃ : Frm C env sc l₁ ν₁ h' := F₁.sameBut k hf nt
    have x₃ : Fro (fr env) ν ν₁ s { s₁ with heap := h', toks := tk } := x₁.iter hs k
    refine W.own A _ (i + 1) _ o' _ _ t v hI' hA' ?_
    refine wpAny_mono (turn i l₁ ν₁ hlt hJ₁ A env _ v hA R₃ F₃ hv) ?_ fun _ _ x => x.elim
    rintro _ s₃ ⟨l₃, ν₃, R₃, F₃, x₄, hq⟩
    refine wpAny_mono (hq A env s₃ hA R₃ F₃) ?_ fun _ _ x => x.elim
    rintro f s₄ ⟨fl, l₄, ν₄, hfl, R₄, F₄, x₅, hq4⟩
    have x45 := x₄.trans x₅
    have n₄ : ν₄ I = none := x45.dom I _ hI' hn₁
    have i₄ : s₄.heap.get? I = some o' := x45.keep I o' hI' hn₁ hf
    have X := x₃.trans x45
    cases hfl with
    | next => obtain ⟨l₅, hs, hJ'⟩ := hq4; exact ⟨N - (i + 1), by omega, i + 1, l₅, ν₄, o', rfl, hlt, R₄, F₄.sub hs, X, n₄, i₄, hA', hJ'⟩
    | cont => obtain ⟨l₅, hs, hJ'⟩ := hq4; exact ⟨N - (i + 1), by omega, i + 1, l₅, ν₄, o', rfl, hlt, R₄, F₄.sub hs, X, n₄, i₄, hA', hJ'⟩
    | brk => exact ⟨.next, l₄, ν₄, .next, R₄, F₄, X, hq4⟩
    | ret r => exact ⟨.ret _, l₄, ν₄, .ret r, R₄, F₄, X, hq4⟩
  · have hiN : i = N := by omega
    subst hiN
    refine W.done A s₁ o₁ ν₁ _ _ hA.1 R₁ hI₁ hA₁ (hsrc _ _ _ hJ₁) fun h' tk k => ?_
    exact wpAny_execs_nil ⟨.next, l₁, ν₁, .next, R₁.sameBut k hn₁ hb nt, F₁.sameBut k hf nt, x₁.iter hs k, fin _ _ hJ₁⟩

/-- a for over a datum -/
def TF (C : Cx) (n : Nat) (sc : Scope) (t : Expr) (body : List Stmt) (d : D) (l : Loc) (ν : Nu) (Q : Fl → Loc → Nu → Prop) : Prop :=
  ∀ A env s v, Aok n A → Ref C ν s.heap → Frm C env sc l ν s.heap → RV s.heap v d → wpAny (model C.prog C.w) A (pyIter v) (fun it s₂ =>
    codeAny (model C.prog C.w) A (.forLoop t it body [] env) (fun r s' => match r with | .ok f => PostS C env sc ν s Q f s' | .error e => cameBackBy (model C.prog C.w) A env nev e s') s₂) nev s
theorem TS_for {t iter : Expr} {body : List Stmt} {pos} {Q : Fl → Loc → Nu → Prop} (h : TE C n sc iter l ν (fun d ν₁ => TF C n sc t body d l ν₁ Q)) (hs : ∀ env x, foldedSetIterable iter env x = pure x) : TS C n sc (.For t iter body [] pos) l ν Q := by
  intro A env s hA R F
  refine wpAny_For (wpAny_mono (h A env s hA R F) ?_ fun _ _ x => x) (hs env)
  rintro v s₁ ⟨d, ν₁, hv, R₁, x₁, hq⟩
  refine wpAny_mono (hq A env s₁ v hA R₁ (F.fro R x₁) hv) (fun it s₂ h₂ => codeAny_mono h₂ fun r s' z => ?_) fun _ _ x => x
  cases r with
  | ok f => exact PostS.after x₁.toFr z
  | error e => exact z

def seqOf : Option AObj → Option (List D)
  | some (.lst ds) => some ds
  | some (.scr ds) => some ds
  | _ => none
theorem Ref.seq {h : Heap} {a : Addr} {ds : List D} (R : Ref C ν h) (e : seqOf (ν a) = some ds) : ∃ vs n, h.get? a = some (lstObj vs n) ∧ RVs h vs ds := by
  cases q : ν a with
  | none => rw [q] at e; cases e
  | some o =>
    rw [q] at e
    cases o <;> simp only [seqOf, Option.some.injEq, reduceCtorEq] at e <;> subst e <;> exact R.at_ _ _ q

theorem own_plain {A : Around} {M : Model} {s : Shared} {I : Addr} {o : Obj} {Q : Unit → Shared → Prop} {E : Value → Shared → Prop} {t : Expr} {v : Value} {c : String} {vs : Array Value} (hI : s.heap.get? I = some o) (hc : o.cls = .type c) (hd : o.data = .fields vs)
    (hn : ["enumerate", "zip", "dict_itemiterator", "dict_reverseitemiterator", "odict_iterator", "itertools.zip_longest", "itertools.pairwise"].contains c = false) (hq : Q () s) : wpAny M A (letOwnedTupleGo t (.ref I) v) Q E s := by
  have main : wpAny M A (match (Value.ref I, v) with
      | (.ref r, .ref a) => load r >>= fun o => match o.cls, o.data with
        | .type n, .fields vs => if (["enumerate", "zip", "dict_itemiterator", "dict_reverseitemiterator", "odict_iterator", "itertools.zip_longest", "itertools.pairwise"].contains n && vs[0]? == some (rawInt a)) = true then rule "for.unpacks-the-owned-tuple" >>= fun _ => updateField r 0 .none else pure ()
        | _, _ => pure ()
      | _ => pure ()) Q E s := by
    cases v <;> first | exact wpAny_pure hq | skip
    refine wpAny_bind (wpAny_load hI ?_)
    rw [hc, hd]
    dsimp only
    rw [hn]
    exact wpAny_pure hq
  unfold letOwnedTupleGo
  split
  · exact main
  · exact main
  · exact wpAny_pure hq

def lstIter (a : Addr) (i : Nat) (o : Obj) : Prop := o.cls = .type "list_iterator" ∧ o.data = .fields #[.ref a, .int i 0]
theorem itOk_list {I a : Addr} {ds : List D} : ItOk C I ds.length (fun i => ds.getD i .none) (fun ν => seqOf (ν a) = some ds) (lstIter a) where
  tup := fun i o h e => by have := e.cls; rw [h.1] at this; simp at this
  own := fun A M i s o Q E t v hI hAt hq => own_plain hI hAt.1 hAt.2 (by decide) hq
  next := fun A i s o ν Q E hh hi R hI hAt hs h => by
    obtain ⟨vs, m, e, r⟩ := R.seq hs
    obtain ⟨d, hd⟩ : ∃ d, ds[i]? = some d := ⟨ds[i], by simp [hi]⟩
    obtain ⟨v, hv, rv⟩ := r.get hd
    refine wpAny_pyNext_list_item (l := a) (i := i) (items := vs.toArray) (x := v) ⟨o, hI, hAt.1, hAt.2⟩ ⟨_, e, rfl, m, rfl⟩ (by simpa using hv) fun h' hit sb => ?_
    obtain ⟨o', ho', hc', hd'⟩ := hit
    have k : ∀ b o, b ≠ I → s.heap.get? b = some o → h'.get? b = some o := fun b o hb e => (sb.2 b hb).trans e
    refine h v h' s.toks o' ?_ k ho' ⟨hc', hd'⟩
    have : ds.getD i .none = d := by rw [List.getD_eq_getElem?_getD, hd]; rfl
    rw [this]
    exact rv.keep fun b o e hi => k b _ (fun q => by subst q; rw [hI] at e; cases e; have := hi.cls; rw [hAt.1] at this; simp at this) e
  done := fun A s o ν Q E hh R hI hAt hs h => by
    obtain ⟨vs, m, e, r⟩ := R.seq hs
    exact wpAny_pyNext_list_end (l := a) (i := ds.length) (items := vs.toArray) hh ⟨o, hI, hAt.1, hAt.2⟩ ⟨_, e, rfl, m, rfl⟩ (by simp [r.length]) fun h' he => h h' s.toks fun b o hb e => he b o hb e

/-- for over a list of the abstract heap, by an invariant over the number of turns -/
theorem TF_list {t : Expr} {body : List Stmt} {a : Addr} {ds : List D} {Q : Fl → Loc → Nu → Prop} (hs : seqOf (ν a) = some ds)
    (J : Nat → Loc → Nu → Prop) (hJ : J 0 l ν) (hsrc : ∀ i l ν, J i l ν → seqOf (ν a) = some ds)
    (turn : ∀ i l ν d, ds[i]? = some d → J i l ν → TG C n sc t d l ν (fun l₁ ν₁ => TSs C n sc body l₁ ν₁ (LoopK J i Q)))
    (fin : ∀ l ν, J ds.length l ν → Q .next l ν) : TF C n sc t body (.ref a) l ν Q := by
  intro A env s v hA R F hv
  cases hv
  obtain ⟨vs, m, e, r⟩ := R.seq hs
  refine wpAny_pyIter_list (items := vs.toArray) ⟨_, e, rfl, m, rfl⟩ ?_
  have nn : s.heap.get? s.heap.objs.size = none := by
    cases q : s.heap.get? s.heap.objs.size with
    | none => rfl
    | some o => exact absurd (Heap.lt_size q) (Nat.lt_irrefl _)
  refine for_core (s := s) (itOk_list (a := a) (ds := ds)) hA F (Fro.push _ _) (R.push _) (Heap.get?_push_size _ rfl) ⟨rfl, rfl⟩ nn R.fresh F.baseLe R J hJ hsrc (fun i l ν hi hj => ?_) fin
  have : ds[i]? = some (ds.getD i .none) := by simp [List.getD_eq_getElem?_getD, hi]
  exact turn i l ν _ this hj

-- ranges
def rngIter (N : Nat) (i : Nat) (o : Obj) : Prop := o = { cls := .type "range_iterator", data := .fields #[rawInt (i : Int), rawInt ((N : Int) - i), rawInt 1] }
theorem itOk_rng {I : Addr} {N : Nat} : ItOk C I N (fun i => .int (i : Int)) (fun _ => True) (rngIter N) where
  tup := fun i o h e => by have := e.cls; rw [h] at this; simp at this
  own := fun A M i s o Q E t v hI hAt hq => by subst hAt; exact own_plain hI rfl rfl (by decide) hq
  next := fun A i s o ν Q E hh hi R hI hAt hs h => by
    subst hAt
    refine wpAny_pyNext_range_item (x := (i : Int)) (left := (N : Int) - i) (step := 1) hI (by omega) fun h' hit sb => ?_
    have e1 : ((N : Int) - i - 1) = (N : Int) - ((i + 1 : Nat) : Int) := by omega
    have e2 : ((i : Int) + 1) = ((i + 1 : Nat) : Int) := by omega
    rw [e1, e2] at hit
    exact h _ h' _ _ (.int _ _) (fun b o hb e => (sb.2 b hb).trans e) hit rfl
  done := fun A s o ν Q E hh R hI hAt hs h => by
    subst hAt
    exact wpAny_pyNext_range_end (x := (N : Int)) (left := (N : Int) - N) (step := 1) hh hI (by omega) fun h' he => h h' s.toks fun b o hb e => he b o hb e
theorem getNone (s : Shared) : s.heap.get? s.heap.objs.size = none := by
  cases q : s.heap.get? s.heap.objs.size with
  | none => rfl
  | some o => exact absurd (Heap.lt_size q) (Nat.lt_irrefl _)
theorem TF_rng {t : Expr} {body : List Stmt} {m : Int} {Q : Fl → Loc → Nu → Prop} (hm : -(2 ^ 62) ≤ m) (hm' : m < 2 ^ 62)
    (J : Nat → Loc → Nu → Prop) (hJ : J 0 l ν)
    (turn : ∀ i l ν, i < m.toNat → J i l ν → TG C n sc t (.int (i : Int)) l ν (fun l₁ ν₁ => TSs C n sc body l₁ ν₁ (LoopK J i Q)))
    (fin : ∀ l ν, J m.toNat l ν → Q .next l ν) : TF C n sc t body (.rng m) l ν Q := by
  intro A env s v hA R F hv
  cases hv with
  | rng e =>
  have sm := small_one (a := 0) (b := m) (by decide) (by decide) hm hm'
  refine wpAny_pyIter_range e sm ?_
  have e3 : Builtin.Range.rangeSize 0 m 1 = ((m.toNat : Nat) : Int) := by rw [rangeSize_one]; split <;> omega
  rw [e3]
  refine for_core (s := s) (itOk_rng (N := m.toNat)) hA F (Fro.push _ _) (R.push _) (Heap.get?_push_size _ rfl) (by unfold rngIter; simp) (getNone s) R.fresh F.baseLe R J hJ (fun _ _ _ _ => trivial) turn fin
end
end Mine

namespace Mine
open PySem

section
variable {C : Cx} {n : Nat} {sc : Scope} {l : Loc} {ν : Nu}

theorem bindL_not (k : Str → Option NameKind) : ∀ (names : List Str) (vs : List Value) (m : Str → Option Value) (x : Str), x ∉ names → bindL k (names.zip vs) m x = m x
  | [], _, _, _, _ => by simp [bindL]
  | _ :: _, [], _, _, _ => by simp [bindL]
  | y :: ys, v :: vs, m, x, hx => by
    simp only [List.mem_cons, not_or] at hx
    simp only [List.zip_cons_cons, bindL]
    rw [bindL_not k ys vs _ x hx.2]
    split
    · exact if_neg hx.1
    · rfl
theorem bindC_not (k : Str → Option NameKind) : ∀ (names : List Str) (vs : List Value) (m : Str → Option Value) (x : Str), x ∉ names → bindC k (names.zip vs) m x = m x
  | [], _, _, _, _ => by simp [bindC]
  | _ :: _, [], _, _, _ => by simp [bindC]
  | y :: ys, v :: vs, m, x, hx => by
    simp only [List.mem_cons, not_or] at hx
    simp only [List.zip_cons_cons, bindC]
    rw [bindC_not k ys vs _ x hx.2]
    split
    · rfl
    · exact if_neg hx.1
theorem bindL_in {h : Heap} (k : Str → Option NameKind) : ∀ (names : List Str) (vs : List Value) (ds : List D) (m : Str → Option Value) (x : Str) (d : D), names.Nodup → RVs h vs ds → lk (names.zip ds) x = some d → k x = some .local → ∃ v, bindL k (names.zip vs) m x = some v ∧ RV h v d
  | [], _, _, _, _, _, _, _, e, _ => by simp [lk] at e
  | _ :: _, [], _, _, _, _, _, r, e, _ => by cases r; simp [lk] at e
  | y :: ys, v :: vs, _, m, x, d, nd, .cons (d := d') (ds := ds) rv r, e, hk => by
    simp only [List.zip_cons_cons, lk] at e
    simp only [List.zip_cons_cons, bindL]
    by_cases hx : x = y
    · subst hx
      rw [if_pos rfl] at e; cases e
      rw [bindL_not k ys vs _ x (List.nodup_cons.mp nd).1, if_pos hk]
      exact ⟨v, if_pos rfl, rv⟩
    · rw [if_neg hx] at e
      exact bindL_in k ys vs ds _ x d (List.nodup_cons.mp nd).2 r e hk
theorem bindC_in {h : Heap} (k : Str → Option NameKind) : ∀ (names : List Str) (vs : List Value) (ds : List D) (m : Str → Option Value) (x : Str) (d : D), names.Nodup → RVs h vs ds → lk (names.zip ds) x = some d → k x ≠ some .local → ∃ v, bindC k (names.zip vs) m x = some v ∧ RV h v d
  | [], _, _, _, _, _, _, _, e, _ => by simp [lk] at e
  | _ :: _, [], _, _, _, _, _, r, e, _ => by cases r; simp [lk] at e
  | y :: ys, v :: vs, _, m, x, d, nd, .cons (d := d') (ds := ds) rv r, e, hk => by
    simp only [List.zip_cons_cons, lk] at e
    simp only [List.zip_cons_cons, bindC]
    by_cases hx : x = y
    · subst hx
      rw [if_pos rfl] at e; cases e
      rw [bindC_not k ys vs _ x (List.nodup_cons.mp nd).1, if_neg hk]
      exact ⟨v, if_pos rfl, rv⟩
    · rw [if_neg hx] at e
      exact bindC_in k ys vs ds _ x d (List.nodup_cons.mp nd).2 r e hk
theorem lk_zip_mem : ∀ (names : List Str) (ds : List D) (x : Str) (d : D), lk (names.zip ds) x = some d → x ∈ names
  | [], _, _, _, e => by simp [lk] at e
  | _ :: _, [], _, _, e => by simp [lk] at e
  | y :: ys, d' :: ds, x, d, e => by
    simp only [List.zip_cons_cons, lk] at e
    by_cases hx : x = y
    · subst hx; exact .head _
    · rw [if_neg hx] at e; exact .tail _ (lk_zip_mem ys ds x d e)
theorem cellsFrom_has {x : Str} : ∀ (names : List (Str × NameKind)) (m : Nat) (acc : List (Str × Addr)), names.lookup x = some .cell ∨ (∃ c, acc.lookup x = some c) → ∃ c, (cellsFrom m names acc).lookup x = some c
  | [], _, _, h => h.elim (fun e => by simp at e) id
  | (y, k) :: r, m, acc, h => by
    unfold cellsFrom
    by_cases hxy : x = y
    · subst hxy
      split
      · exact cellsFrom_has r (m + 1) _ (.inr ⟨m, by simp⟩)
      · rename_i hk
        refine cellsFrom_has r m acc (h.elim (fun e => ?_) .inr)
        simp at e; subst e; simp at hk
    · have hb : (x == y) = false := by simpa using hxy
      split
      · exact cellsFrom_has r (m + 1) _ (h.imp (fun e => by simpa [List.lookup_cons, hb] using e) fun ⟨c, e⟩ => ⟨c, by simpa [List.lookup_cons, hb] using e⟩)
      · exact cellsFrom_has r m acc (h.imp (fun e => by simpa [List.lookup_cons, hb] using e) id)

/-- a def of the text, as the top's part tells it -/
structure IsDef (C : Cx) (f : Addr) (names : List Str) (body : List Stmt) (scope : Scope) : Prop where
  ex : ∃ o fd, C.K.lookup f = some o ∧ o.data = .func fd ∧ fd.body = .stmts body ∧ fd.closure = [] ∧ fd.globals = mainGlobals ∧ fd.builtins = builtinsNs ∧ fd.scope = scope ∧ C.base.CodeRec fd.code fd.qualname ∧
    ∀ vs : List Value, vs.length = names.length → bindArgs fd ⟨vs, []⟩ = pure (names.zip vs)
  co : scope.isCoroutine = false
  gen : scope.isGenerator = false
  kind : scope.kind = .function
  nodup : names.Nodup
  kinds : ∀ x ∈ names, storable scope x

/-- a call, as code -/
def TK (C : Cx) (n : Nat) (f : Value) (ds : List D) (ν : Nu) (Q : D → Nu → Prop) : Prop :=
  ∀ A s vs, Aok n A → Ref C ν s.heap → C.base.objs.size ≤ s.heap.objs.size → RVs s.heap vs ds → codeAny (model C.prog C.w) A (.call f ⟨vs, []⟩) (fun r s' => match r with | .ok (.ret v) => PostV C ν s Q v s' | .ok _ => False | .error e => nev e s') s
theorem TC_of {f : Value} {ds : List D} {Q : D → Nu → Prop} (h : TK C n f ds ν Q) : TC C n f ds ν Q := fun A s vs hA R hz hv => wpAny_call (h A s vs hA R hz hv)
theorem TK_def {f : Addr} {names : List Str} {body : List Stmt} {ds : List D} {Q : D → Nu → Prop} (I : IsDef C f names body sc) (hlen : ds.length = names.length)
    (h : TSs C n sc body (names.zip ds) ν (FunK Q)) : TK C (n + 1) (.ref f) ds ν Q := by
  intro A s vs hA R hz hv
  obtain ⟨⟨o, fd, ho, hd, hb, hc, hg, hbl, rfl, hcd, hbind⟩, co, gen, kind, nd, kinds⟩ := I
  have ho' := R.keep _ _ (C.inK _ _ ho)
  have hfc : ∀ x, fd.scope.names.lookup x = some .cell → ∃ c, (cellsFrom (s.heap.objs.size + 1) fd.scope.names []).lookup x = some c := fun x hx => cellsFrom_has _ _ _ (.inl hx)
  refine (codeAny_call_cells hA.room ho' hd (C.nolimit.keeps R.keep) (hcd.keeps R.keep) hb (hbind vs (hv.length.trans hlen)) hc (fun x hx => ?_) (fun s₁ X => ?_) co gen kind)
  · have hm : x.1 ∈ names := (List.of_mem_zip hx).1
    rcases kinds _ hm with q | q
    · exact .inl q
    · obtain ⟨c, e⟩ := hfc _ q; exact .inr ⟨q, by rw [e]; rfl⟩
  · obtain ⟨h₁, t₁, rfl⟩ := X.toInCall.same
    have k : ∀ b o, s.heap.get? b = some o → h₁.get? b = some o := X.toInCall.keep
    have kt : TupKeep s.heap h₁ := fun a o e _ => k a o e
    have R₁ : Ref C ν h₁ := ⟨fun b o e => k b o (R.keep b o e), fun a o e => by
      obtain ⟨ob, hob, _⟩ := (R.at_ a o e).get
      exact (R.at_ a o e).keep kt ((k _ _ hob).trans hob.symm), R.own⟩
    have nnone : ∀ b, s.heap.objs.size ≤ b → ν b = none := fun b hb => by
      cases q : ν b with
      | none => rfl
      | some o => exact absurd (R.at_ _ _ q).lt (Nat.not_lt.mpr hb)
    have ab : ∀ x c, (callEnvC fd s.heap.objs.size f).cells.lookup x = some c → s.heap.objs.size < c := fun x c e => X.above x c (mem_of_lookup e)
    have F₁ : Frm C (callEnvC fd s.heap.objs.size f) fd.scope (names.zip ds) ν h₁ := by
      refine ⟨rfl, kind, hg, hbl, ⟨_, X.toInCall.ns, fun x d e hk => ?_⟩, fun x c hc => ⟨_, X.cell x c hc, fun d e hk => ?_⟩, fun x d e => ?_, fun x hx => hfc x hx, nnone _ (Nat.le_refl _), fun x c e => nnone _ (Nat.le_of_lt (ab x c e)), fun x y c e1 e2 => ?_, hz, fun x c e => Nat.le_trans hz (Nat.le_of_lt (ab x c e))⟩
      · exact bindL_in _ names vs ds _ x d nd (hv.keep kt) e hk
      · exact bindC_in _ names vs ds _ x d nd (hv.keep kt) e hk
      · rcases kinds x (lk_zip_mem _ _ _ _ e) with q | q
        · exact .inl q
        · exact .inr ⟨.inl q, hfc x q⟩
      · exact name_of_addr X.apart (mem_of_lookup e1) (mem_of_lookup e2)
    refine wpAny_mono (h _ _ _ (hA.deeper _) R₁ F₁) ?_ fun _ _ x => x.elim
    rintro fl s' ⟨fl', l', ν', hf, R', F', x', q⟩
    obtain ⟨h2, t2, rfl⟩ := x'.eq
    have notFr : ∀ b o, s.heap.get? b = some o → ¬ fr (callEnvC fd s.heap.objs.size f) b := by
      rintro b o e (rfl | ⟨x, hx⟩)
      · exact Nat.lt_irrefl _ (Heap.lt_size e)
      · exact Nat.lt_irrefl _ (Nat.lt_trans (Heap.lt_size e) (ab x b hx))
    have X' : Fro no ν ν' s { s with heap := h2, toks := t2 } := ⟨⟨h2, t2, rfl⟩, fun b o e hn _ => x'.keep b o (k b o e) hn (notFr b o e), fun b o e hn => x'.alive b o (k b o e) hn, fun b o e hn => x'.dom b o (k b o e) hn⟩
    cases hf with
    | ret r => exact ⟨_, ν', r, R', X', q⟩
    | next => exact ⟨.none, ν', .none, R', X', q⟩
    | brk => exact ⟨.none, ν', .none, R', X', q⟩
    | cont => exact ⟨.none, ν', .none, R', X', q⟩

theorem evalArgs_any {M : Model} {A : Around} {E : Value → Shared → Prop} {s : Shared} {f : Value} {env : Env} {pos : Pos} {args : List Expr} {Q : Args → Shared → Prop} (hst : noSt args = true)
    (h : wpAny M A (spliced (backTo pos (starEach args env))) (fun vs s' => Q ⟨vs, []⟩ s') E s) : wpAny M A (evalArgs f true (backTo pos (starEach args env)) []) Q E s := by
  cases args with
  | nil =>
    unfold evalArgs
    show wpAny M A (spliced [] >>= _) Q E s
    refine wpAny_bind (wpAny_mono h (fun vs s' h' => ?_) fun _ _ x => x)
    refine wpAny_holding ?_
    exact wpAny_bind (wpAny_pure (wpAny_bind (wpAny_pure (wpAny_pure h'))))
  | cons e es =>
    simp only [noSt, Bool.and_eq_true, Bool.not_eq_true'] at hst
    rw [starEach_cons hst.1] at h ⊢
    exact Calls.evalArgs_plain h

/-- the call of a global def by its name -/
theorem TE_call {x : Str} {p pos : Pos} {args : List Expr} {f : Addr} {Q : D → Nu → Prop} (hk : sc.names.lookup x = some .globalImplicit) (hg : C.G x (.ref f)) (hf : ∃ o fd, C.K.lookup f = some o ∧ o.data = .func fd)
    (h : TL C n sc args l ν (fun ds ν₁ => TC C n (.ref f) ds ν₁ Q)) (hx : (x == ("__debug__" : Str)) = false) (hst : noSt args = true) : TE C n sc (.Call (.Name x p) args [] pos) l ν Q := by
  intro A env s hA R F
  show wpAny _ A (eval (.Name x p) env >>= fun f => callWith pos f [] (backTo pos (starEach args env)) (backToKw pos (keywordEach [] env))) _ _ s
  refine wpAny_bind (wpAny_mono (TE_glob (C := C) (n := n) (Q := fun d ν' => d = .val (.ref f) ∧ ν' = ν) hk hg ⟨rfl, rfl⟩ hx A env s hA R F) ?_ fun _ _ x => x)
  rintro v s₁ ⟨d, ν₁, hv, R₁, x₁, rfl, rfl⟩
  cases hv
  obtain ⟨o, fd, ho, hd⟩ := hf
  have F₁ := F.fro R x₁
  refine Calls.callWith_function (o := o) (fd := fd) (evalArgs_any hst (wpAny_mono (h A env s₁ pos hA R₁ F₁) ?_ fun _ _ x => x))
  rintro vs s₂ ⟨ds, ν₂, hvs, R₂, x₂, hq⟩
  exact ⟨⟨R₂.keep _ _ (C.inK _ _ ho), hd⟩, wpAny_mono (hq A s₂ vs hA R₂ (F₁.fro R₁ x₂).baseLe hvs) (fun _ _ p => (p.after x₂).after x₁) fun _ _ x => x⟩

/-- the call of a built-in function by its name -/
theorem TE_callB {x : Str} {p pos : Pos} {args : List Expr} {id : String} {Q : D → Nu → Prop} (hk : sc.names.lookup x = some .globalImplicit) (hg : C.G x (.builtin id))
    (h : TL C n sc args l ν (fun ds ν₁ => TC C n (.builtin id) ds ν₁ Q)) (hx : (x == ("__debug__" : Str)) = false) (hst : noSt args = true) : TE C n sc (.Call (.Name x p) args [] pos) l ν Q := by
  intro A env s hA R F
  show wpAny _ A (eval (.Name x p) env >>= fun f => callWith pos f [] (backTo pos (starEach args env)) (backToKw pos (keywordEach [] env))) _ _ s
  refine wpAny_bind (wpAny_mono (TE_glob (C := C) (n := n) (Q := fun d ν' => d = .val (.builtin id) ∧ ν' = ν) hk hg ⟨rfl, rfl⟩ hx A env s hA R F) ?_ fun _ _ x => x)
  rintro v s₁ ⟨d, ν₁, hv, R₁, x₁, rfl, rfl⟩
  cases hv
  have F₁ := F.fro R x₁
  refine Calls.callWith_builtin (noSt_any hst _ _) (evalArgs_any hst (wpAny_mono (h A env s₁ pos hA R₁ F₁) ?_ fun _ _ x => x))
  rintro vs s₂ ⟨ds, ν₂, hvs, R₂, x₂, hq⟩
  exact wpAny_mono (hq A s₂ vs hA R₂ (F₁.fro R₁ x₂).baseLe hvs) (fun _ _ p => (p.after x₂).after x₁) fun _ _ x => x
/-- the call of a built-in type by its name -/
theorem TE_callT {x : Str} {p pos : Pos} {args : List Expr} {T : String} {Q : D → Nu → Prop} (hk : sc.names.lookup x = some .globalImplicit) (hg : C.G x (.type T))
    (h : TL C n sc args l ν (fun ds ν₁ => TC C n (.type T) ds ν₁ Q)) (hx : (x == ("__debug__" : Str)) = false) (hst : noSt args = true) : TE C n sc (.Call (.Name x p) args [] pos) l ν Q := by
  intro A env s hA R F
  show wpAny _ A (eval (.Name x p) env >>= fun f => callWith pos f [] (backTo pos (starEach args env)) (backToKw pos (keywordEach [] env))) _ _ s
  refine wpAny_bind (wpAny_mono (TE_glob (C := C) (n := n) (Q := fun d ν' => d = .val (.type T) ∧ ν' = ν) hk hg ⟨rfl, rfl⟩ hx A env s hA R F) ?_ fun _ _ x => x)
  rintro v s₁ ⟨d, ν₁, hv, R₁, x₁, rfl, rfl⟩
  cases hv
  have F₁ := F.fro R x₁
  refine callWith_type (noSt_any hst _ _) (evalArgs_any hst (wpAny_mono (h A env s₁ pos hA R₁ F₁) ?_ fun _ _ x => x))
  rintro vs s₂ ⟨ds, ν₂, hvs, R₂, x₂, hq⟩
  exact wpAny_mono (hq A s₂ vs hA R₂ (F₁.fro R₁ x₂).baseLe hvs) (fun _ _ p => (p.after x₂).after x₁) fun _ _ x => x
end
end Mine

namespace Mine
open PySem PyProof.Rows

section
variable {C : Cx} {n : Nat} {sc : Scope} {l : Loc} {ν : Nu} {Q : D → Nu → Prop}

-- ints
theorem T2_add {a b : Int} (h : Q (.int (a + b)) ν) : T2 C n (binaryOp .Add) (.int a) (.int b) ν Q := by
  intro A s v u hA R hz hv hu; (first | (have hq := RV.int_inv hv; clear hv; obtain ⟨_, rfl⟩ := hq) | (have hq := RV.str_inv hv; clear hv; obtain ⟨_, rfl⟩ := hq) | (have hq := RV.ref_inv hv; clear hv; subst hq) | (have hq := RV.val_inv hv; clear hv; subst hq) | (have hq := RV.bool_inv hv; clear hv; subst hq) | cases hv); (first | (have hq := RV.int_inv hu; clear hu; obtain ⟨_, rfl⟩ := hq) | (have hq := RV.str_inv hu; clear hu; obtain ⟨_, rfl⟩ := hq) | (have hq := RV.ref_inv hu; clear hu; subst hq) | (have hq := RV.val_inv hu; clear hu; subst hq) | (have hq := RV.bool_inv hu; clear hu; subst hq) | cases hu); exact PyProof.Rows.add_int (postV_toks R (.int ..) h)
theorem T2_sub {a b : Int} (h : Q (.int (a - b)) ν) : T2 C n (binaryOp .Sub) (.int a) (.int b) ν Q := by
  intro A s v u hA R hz hv hu; (first | (have hq := RV.int_inv hv; clear hv; obtain ⟨_, rfl⟩ := hq) | (have hq := RV.str_inv hv; clear hv; obtain ⟨_, rfl⟩ := hq) | (have hq := RV.ref_inv hv; clear hv; subst hq) | (have hq := RV.val_inv hv; clear hv; subst hq) | (have hq := RV.bool_inv hv; clear hv; subst hq) | cases hv); (first | (have hq := RV.int_inv hu; clear hu; obtain ⟨_, rfl⟩ := hq) | (have hq := RV.str_inv hu; clear hu; obtain ⟨_, rfl⟩ := hq) | (have hq := RV.ref_inv hu; clear hu; subst hq) | (have hq := RV.val_inv hu; clear hu; subst hq) | (have hq := RV.bool_inv hu; clear hu; subst hq) | cases hu); exact PyProof.Rows.sub_int (postV_toks R (.int ..) h)
theorem T2_mul {a b : Int} (hm : IntMulOk a b) (h : Q (.int (a * b)) ν) : T2 C n (binaryOp .Mult) (.int a) (.int b) ν Q := by
  intro A s v u hA R hz hv hu; (first | (have hq := RV.int_inv hv; clear hv; obtain ⟨_, rfl⟩ := hq) | (have hq := RV.str_inv hv; clear hv; obtain ⟨_, rfl⟩ := hq) | (have hq := RV.ref_inv hv; clear hv; subst hq) | (have hq := RV.val_inv hv; clear hv; subst hq) | (have hq := RV.bool_inv hv; clear hv; subst hq) | cases hv); (first | (have hq := RV.int_inv hu; clear hu; obtain ⟨_, rfl⟩ := hq) | (have hq := RV.str_inv hu; clear hu; obtain ⟨_, rfl⟩ := hq) | (have hq := RV.ref_inv hu; clear hu; subst hq) | (have hq := RV.val_inv hu; clear hu; subst hq) | (have hq := RV.bool_inv hu; clear hu; subst hq) | cases hu); exact PyProof.Rows.mul_int (postV_toks R (.int ..) h) hm
theorem T2_div {a b : Int} (hb : b ≠ 0) (hb' : b.natAbs < 1073741824) (h : Q (.int (a.fdiv b)) ν) : T2 C n (binaryOp .FloorDiv) (.int a) (.int b) ν Q := by
  intro A s v u hA R hz hv hu; (first | (have hq := RV.int_inv hv; clear hv; obtain ⟨_, rfl⟩ := hq) | (have hq := RV.str_inv hv; clear hv; obtain ⟨_, rfl⟩ := hq) | (have hq := RV.ref_inv hv; clear hv; subst hq) | (have hq := RV.val_inv hv; clear hv; subst hq) | (have hq := RV.bool_inv hv; clear hv; subst hq) | cases hv); (first | (have hq := RV.int_inv hu; clear hu; obtain ⟨_, rfl⟩ := hq) | (have hq := RV.str_inv hu; clear hu; obtain ⟨_, rfl⟩ := hq) | (have hq := RV.ref_inv hu; clear hu; subst hq) | (have hq := RV.val_inv hu; clear hu; subst hq) | (have hq := RV.bool_inv hu; clear hu; subst hq) | cases hu); exact PyProof.Rows.floordiv_int hb (postV_toks R (.int ..) h) (.inl (PyProof.noPylong_small hb'))
theorem T2_mod {a b : Int} (hb : b ≠ 0) (h : Q (.int (a.fmod b)) ν) : T2 C n (binaryOp .Mod) (.int a) (.int b) ν Q := by
  intro A s v u hA R hz hv hu; (first | (have hq := RV.int_inv hv; clear hv; obtain ⟨_, rfl⟩ := hq) | (have hq := RV.str_inv hv; clear hv; obtain ⟨_, rfl⟩ := hq) | (have hq := RV.ref_inv hv; clear hv; subst hq) | (have hq := RV.val_inv hv; clear hv; subst hq) | (have hq := RV.bool_inv hv; clear hv; subst hq) | cases hv); (first | (have hq := RV.int_inv hu; clear hu; obtain ⟨_, rfl⟩ := hq) | (have hq := RV.str_inv hu; clear hu; obtain ⟨_, rfl⟩ := hq) | (have hq := RV.ref_inv hu; clear hu; subst hq) | (have hq := RV.val_inv hu; clear hu; subst hq) | (have hq := RV.bool_inv hu; clear hu; subst hq) | cases hu); exact PyProof.Rows.mod_int' hb (postV_toks R (.int ..) h)
theorem T2_pow {a b : Int} (hb : 0 ≤ b) (hs : (Builtin.Int.intBits a : Int) * b ≤ 2 ^ 27) (h : Q (.int (a ^ b.toNat)) ν) : T2 C n (binaryOp .Pow) (.int a) (.int b) ν Q := by
  intro A s v u hA R hz hv hu; (first | (have hq := RV.int_inv hv; clear hv; obtain ⟨_, rfl⟩ := hq) | (have hq := RV.str_inv hv; clear hv; obtain ⟨_, rfl⟩ := hq) | (have hq := RV.ref_inv hv; clear hv; subst hq) | (have hq := RV.val_inv hv; clear hv; subst hq) | (have hq := RV.bool_inv hv; clear hv; subst hq) | cases hv); (first | (have hq := RV.int_inv hu; clear hu; obtain ⟨_, rfl⟩ := hq) | (have hq := RV.str_inv hu; clear hu; obtain ⟨_, rfl⟩ := hq) | (have hq := RV.ref_inv hu; clear hu; subst hq) | (have hq := RV.val_inv hu; clear hu; subst hq) | (have hq := RV.bool_inv hu; clear hu; subst hq) | cases hu); exact PyProof.Rows.pow_int hb hs (postV_toks R (.int ..) h)
theorem T2_lt {a b : Int} (h : Q (.bool (decide (a < b))) ν) : T2 C n (compareOp .Lt) (.int a) (.int b) ν Q := by
  intro A s v u hA R hz hv hu; (first | (have hq := RV.int_inv hv; clear hv; obtain ⟨_, rfl⟩ := hq) | (have hq := RV.str_inv hv; clear hv; obtain ⟨_, rfl⟩ := hq) | (have hq := RV.ref_inv hv; clear hv; subst hq) | (have hq := RV.val_inv hv; clear hv; subst hq) | (have hq := RV.bool_inv hv; clear hv; subst hq) | cases hv); (first | (have hq := RV.int_inv hu; clear hu; obtain ⟨_, rfl⟩ := hq) | (have hq := RV.str_inv hu; clear hu; obtain ⟨_, rfl⟩ := hq) | (have hq := RV.ref_inv hu; clear hu; subst hq) | (have hq := RV.val_inv hu; clear hu; subst hq) | (have hq := RV.bool_inv hu; clear hu; subst hq) | cases hu); exact PyProof.Rows.lt_int (postV_here R (.bool _) h)
theorem T2_gt {a b : Int} (h : Q (.bool (decide (b < a))) ν) : T2 C n (compareOp .Gt) (.int a) (.int b) ν Q := by
  intro A s v u hA R hz hv hu; (first | (have hq := RV.int_inv hv; clear hv; obtain ⟨_, rfl⟩ := hq) | (have hq := RV.str_inv hv; clear hv; obtain ⟨_, rfl⟩ := hq) | (have hq := RV.ref_inv hv; clear hv; subst hq) | (have hq := RV.val_inv hv; clear hv; subst hq) | (have hq := RV.bool_inv hv; clear hv; subst hq) | cases hv); (first | (have hq := RV.int_inv hu; clear hu; obtain ⟨_, rfl⟩ := hq) | (have hq := RV.str_inv hu; clear hu; obtain ⟨_, rfl⟩ := hq) | (have hq := RV.ref_inv hu; clear hu; subst hq) | (have hq := RV.val_inv hu; clear hu; subst hq) | (have hq := RV.bool_inv hu; clear hu; subst hq) | cases hu); exact PyProof.Rows.gt_int (postV_here R (.bool _) h)
theorem T2_eq {a b : Int} (h : Q (.bool (decide (a = b))) ν) : T2 C n (compareOp .Eq) (.int a) (.int b) ν Q := by
  intro A s v u hA R hz hv hu; (first | (have hq := RV.int_inv hv; clear hv; obtain ⟨_, rfl⟩ := hq) | (have hq := RV.str_inv hv; clear hv; obtain ⟨_, rfl⟩ := hq) | (have hq := RV.ref_inv hv; clear hv; subst hq) | (have hq := RV.val_inv hv; clear hv; subst hq) | (have hq := RV.bool_inv hv; clear hv; subst hq) | cases hv); (first | (have hq := RV.int_inv hu; clear hu; obtain ⟨_, rfl⟩ := hq) | (have hq := RV.str_inv hu; clear hu; obtain ⟨_, rfl⟩ := hq) | (have hq := RV.ref_inv hu; clear hu; subst hq) | (have hq := RV.val_inv hu; clear hu; subst hq) | (have hq := RV.bool_inv hu; clear hu; subst hq) | cases hu); exact PyProof.Rows.eq_int (postV_here R (.bool _) (by rw [show (a == b) = decide (a = b) from rfl]; exact h))
theorem T2_ne {a b : Int} (h : Q (.bool (decide (a ≠ b))) ν) : T2 C n (compareOp .NotEq) (.int a) (.int b) ν Q := by
  intro A s v u hA R hz hv hu; (first | (have hq := RV.int_inv hv; clear hv; obtain ⟨_, rfl⟩ := hq) | (have hq := RV.str_inv hv; clear hv; obtain ⟨_, rfl⟩ := hq) | (have hq := RV.ref_inv hv; clear hv; subst hq) | (have hq := RV.val_inv hv; clear hv; subst hq) | (have hq := RV.bool_inv hv; clear hv; subst hq) | cases hv); (first | (have hq := RV.int_inv hu; clear hu; obtain ⟨_, rfl⟩ := hq) | (have hq := RV.str_inv hu; clear hu; obtain ⟨_, rfl⟩ := hq) | (have hq := RV.ref_inv hu; clear hu; subst hq) | (have hq := RV.val_inv hu; clear hu; subst hq) | (have hq := RV.bool_inv hu; clear hu; subst hq) | cases hu)
  refine PyProof.Rows.ne_int (postV_here R (.bool _) ?_)
  rw [show (a != b) = decide (a ≠ b) by simp [bne, Bool.beq_eq_decide_eq]]; exact h
-- strs
theorem T2_addS {x y : Str} (hs : x.length + y.length ≤ sizeLine) (h : Q (.str (x ++ y)) ν) : T2 C n (binaryOp .Add) (.str x) (.str y) ν Q := by
  intro A s v u hA R hz hv hu; (first | (have hq := RV.int_inv hv; clear hv; obtain ⟨_, rfl⟩ := hq) | (have hq := RV.str_inv hv; clear hv; obtain ⟨_, rfl⟩ := hq) | (have hq := RV.ref_inv hv; clear hv; subst hq) | (have hq := RV.val_inv hv; clear hv; subst hq) | (have hq := RV.bool_inv hv; clear hv; subst hq) | cases hv); (first | (have hq := RV.int_inv hu; clear hu; obtain ⟨_, rfl⟩ := hq) | (have hq := RV.str_inv hu; clear hu; obtain ⟨_, rfl⟩ := hq) | (have hq := RV.ref_inv hu; clear hu; subst hq) | (have hq := RV.val_inv hu; clear hu; subst hq) | (have hq := RV.bool_inv hu; clear hu; subst hq) | cases hu); exact PyProof.Rows.add_str (fun t tk => postV_toks R (.str ..) h) hs
theorem T2_eqS {x y : Str} (h : Q (.bool (decide (x = y))) ν) : T2 C n (compareOp .Eq) (.str x) (.str y) ν Q := by
  intro A s v u hA R hz hv hu; (first | (have hq := RV.int_inv hv; clear hv; obtain ⟨_, rfl⟩ := hq) | (have hq := RV.str_inv hv; clear hv; obtain ⟨_, rfl⟩ := hq) | (have hq := RV.ref_inv hv; clear hv; subst hq) | (have hq := RV.val_inv hv; clear hv; subst hq) | (have hq := RV.bool_inv hv; clear hv; subst hq) | cases hv); (first | (have hq := RV.int_inv hu; clear hu; obtain ⟨_, rfl⟩ := hq) | (have hq := RV.str_inv hu; clear hu; obtain ⟨_, rfl⟩ := hq) | (have hq := RV.ref_inv hu; clear hu; subst hq) | (have hq := RV.val_inv hu; clear hu; subst hq) | (have hq := RV.bool_inv hu; clear hu; subst hq) | cases hu); exact PyProof.Rows.eq_str (postV_here R (.bool _) (by rw [show (x == y) = decide (x = y) by simp [Bool.beq_eq_decide_eq]]; exact h))
-- None
-- subscripts
def isSl : Expr → Bool
  | .Slice .. => true
  | _ => false
theorem subscripted_plain {slice : Expr} (h : isSl slice = false) (o i : Value) : subscripted slice false o i = operate [o, i] (getItem o i) := by
  unfold subscripted
  cases slice <;> first | rfl | cases h
theorem TE_sub {value slice : Expr} {pos} (h : TE C n sc value l ν (fun o ν₁ => TE C n sc slice l ν₁ (fun i ν₂ => T2 C n (subscriptTail value slice) o i ν₂ Q))) : TE C n sc (.Subscript value slice pos) l ν Q := by
  intro A env s hA R F
  refine Subscript_ (wpAny_mono (h A env s hA R F) ?_ fun _ _ x => x)
  rintro v s₁ ⟨d, ν₁, hv, R₁, x₁, hq⟩
  refine wpAny_mono (hq A env s₁ hA R₁ (F.fro R x₁)) ?_ fun _ _ x => x
  rintro u s₂ ⟨e, ν₂, hu, R₂, x₂, hq2⟩
  exact wpAny_mono (hq2 A s₂ v u hA R₂ ((F.fro R x₁).fro R₁ x₂).baseLe (hv.fro R₁ x₂) hu) (fun _ _ p => (p.after x₂).after x₁) fun _ _ x => x
theorem T2_itemL {value slice : Expr} {a : Addr} {k : Int} {ds : List D} {d : D} (hs : seqOf (ν a) = some ds) (h0 : 0 ≤ k) (hk : k < 2 ^ 63) (hd : ds[k.toNat]? = some d) (h : Q d ν) (hsl : isSl slice = false) :
    T2 C n (subscriptTail value slice) (.ref a) (.int k) ν Q := by
  intro A s v u hA R hz hv hu; (first | (have hq := RV.int_inv hv; clear hv; obtain ⟨_, rfl⟩ := hq) | (have hq := RV.str_inv hv; clear hv; obtain ⟨_, rfl⟩ := hq) | (have hq := RV.ref_inv hv; clear hv; subst hq) | (have hq := RV.val_inv hv; clear hv; subst hq) | (have hq := RV.bool_inv hv; clear hv; subst hq) | cases hv); (first | (have hq := RV.int_inv hu; clear hu; obtain ⟨_, rfl⟩ := hq) | (have hq := RV.str_inv hu; clear hu; obtain ⟨_, rfl⟩ := hq) | (have hq := RV.ref_inv hu; clear hu; subst hq) | (have hq := RV.val_inv hu; clear hu; subst hq) | (have hq := RV.bool_inv hu; clear hu; subst hq) | cases hu)
  obtain ⟨vs, m, e, r⟩ := R.seq hs
  obtain ⟨x, hx, rx⟩ := r.get hd
  have hl : s.heap.IsList a vs.toArray := ⟨_, e, rfl, m, rfl⟩
  exact tail_any hl.typeIs slot_list_getitem.lookup (wpAny_getItem_list hl h0 hk (by simpa using hx) (postV_here R rx h)) (subscripted_plain hsl _ _)
theorem T2_itemT {value slice : Expr} {k : Int} {ds : List D} {d : D} (h0 : 0 ≤ k) (hk : k < 2 ^ 63) (hd : ds[k.toNat]? = some d) (h : Q d ν) (hsl : isSl slice = false) :
    T2 C n (subscriptTail value slice) (.tup ds) (.int k) ν Q := by
  intro A s v u hA R hz hv hu
  cases hv with
  | tup e r =>
  (first | (have hq := RV.int_inv hu; clear hu; obtain ⟨_, rfl⟩ := hq) | (have hq := RV.str_inv hu; clear hu; obtain ⟨_, rfl⟩ := hq) | (have hq := RV.ref_inv hu; clear hu; subst hq) | (have hq := RV.val_inv hu; clear hu; subst hq) | (have hq := RV.bool_inv hu; clear hu; subst hq) | cases hu)
  rename_i a vs m _
  obtain ⟨x, hx, rx⟩ := r.get hd
  have ht : IsTup s.heap a vs.toArray := ⟨_, e, rfl, m, rfl⟩
  have hlt : k.toNat < vs.length := (List.getElem?_eq_some_iff.mp hx).1
  have hj : seqIndex? k vs.toArray.size = some k.toNat := by
    unfold seqIndex?
    simp only [List.size_toArray]
    rw [if_neg (show ¬ k < 0 by omega), if_pos (by simp only [Bool.and_eq_true, decide_eq_true_eq]; omega)]
  exact tail_any ht.typeIs slot_tuple_getitem.lookup (getItem_tuple ht (by omega) hk hj (by simpa using hx) (postV_here R rx h)) (subscripted_plain hsl _ _)
theorem T2_itemD {value slice : Expr} {a : Addr} {k : Int} {es : List (Int × D)} {d : D} (hs : ν a = some (.dI es)) (hd : valAt es k = some d) (h : Q d ν) (hsl : isSl slice = false) :
    T2 C n (subscriptTail value slice) (.ref a) (.int k) ν Q := by
  intro A s v u hA R hz hv hu; (first | (have hq := RV.int_inv hv; clear hv; obtain ⟨_, rfl⟩ := hq) | (have hq := RV.str_inv hv; clear hv; obtain ⟨_, rfl⟩ := hq) | (have hq := RV.ref_inv hv; clear hv; subst hq) | (have hq := RV.val_inv hv; clear hv; subst hq) | (have hq := RV.bool_inv hv; clear hv; subst hq) | cases hv); (first | (have hq := RV.int_inv hu; clear hu; obtain ⟨_, rfl⟩ := hq) | (have hq := RV.str_inv hu; clear hu; obtain ⟨_, rfl⟩ := hq) | (have hq := RV.ref_inv hu; clear hu; subst hq) | (have hq := RV.val_inv hu; clear hu; subst hq) | (have hq := RV.bool_inv hu; clear hu; subst hq) | cases hu)
  rename_i t
  obtain ⟨kvs, hD, hK⟩ := R.at_ a _ hs
  obtain ⟨x, hx, rx⟩ := hK.at_some hd
  exact tail_any hD.typeIs slot_dict_getitem.lookup (wpAny_getItem_of (knd := intKind C.prog C.w) (k := k) (by simp [intKind, Value.isInt]) hD.mapOf hx (postV_toks R rx h)) (subscripted_plain hsl _ _)

-- truth
end
end Mine

namespace Mine
open PySem PyProof.Rows

section
variable {C : Cx} {n : Nat} {sc : Scope} {l : Loc} {ν : Nu} {Q : D → Nu → Prop}

/-- an object of the abstract heap is changed -/
theorem Ref.change {h h' : Heap} {a : Addr} {o₀ o : AObj} (R : Ref C ν h) (e : ν a = some o₀) (hn : ∀ ds, o₀ ≠ .scr ds) (sb : Heap.SameBut a h h') (hk : TupKeep h h' → ObjAt C h' a o) : Ref C (upd ν a o) h' ∧ TupKeep h h' := by
  obtain ⟨ob, hob, hi⟩ := (R.at_ a o₀ e).get
  have kt : TupKeep h h' := fun b o' e' hI => (sb.2 b fun q => by subst q; rw [hob] at e'; cases e'; exact hi hI).trans e'
  have hb := R.own a o₀ e hn
  refine ⟨⟨fun b o' e' => (sb.2 b (Nat.ne_of_lt (Nat.lt_of_lt_of_le (Heap.lt_size e') hb))).trans (R.keep b o' e'), fun b o' e' => ?_, fun b o' e' hs => ?_⟩, kt⟩
  · unfold upd at e'
    split at e'
    · rename_i q; subst q; cases e'; exact hk kt
    · rename_i q; exact (R.at_ b o' e').keep kt (sb.2 b q)
  · unfold upd at e'
    split at e'
    · rename_i q; subst q; exact hb
    · exact R.own b o' e' hs
theorem Fro.change {own : Addr → Prop} {s : Shared} {h' : Heap} {t : Nat} {a : Addr} {o₀ o : AObj} (e : ν a = some o₀) (sb : Heap.SameBut a s.heap h') : Fro own ν (upd ν a o) s { s with heap := h', toks := t } := by
  have ne : ∀ b, ν b = none → b ≠ a := fun b hb q => by rw [q, e] at hb; cases hb
  exact ⟨⟨h', t, rfl⟩, fun b o' e' hn _ => (sb.2 b (ne b hn)).trans e', fun b o' e' hn => ⟨o', (sb.2 b (ne b hn)).trans e'⟩, fun b o' e' hn => by unfold upd; rw [if_neg (ne b hn)]; exact hn⟩
theorem mapSeq_lst (f : Array Value → Array Value) (vs : List Value) (m : Nat) : ∃ m', Obj.mapSeq f (lstObj vs m) = lstObj (f vs.toArray).toList m' := ⟨_, by unfold lstObj Obj.mapSeq; simp; rfl⟩
/-- a list of the abstract heap changed in place -/
theorem post_list {s : Shared} {a : Addr} {ds es : List D} {vs : List Value} {m : Nat} {f : Array Value → Array Value} {v : Value} {d : D} (R : Ref C ν s.heap) (e : ν a = some (.lst ds)) (hl : s.heap.get? a = some (lstObj vs m)) (r : RVs s.heap (f vs.toArray).toList es)
    (hv : RV s.heap v d) (h : Q d (upd ν a (.lst es))) {t : Nat} : PostV C ν s Q v { s with heap := s.heap.update a (Obj.mapSeq f), toks := t } := by
  have sb := Heap.SameBut.update s.heap a (Obj.mapSeq f)
  obtain ⟨m', em⟩ := mapSeq_lst f vs m
  have hg : (s.heap.update a (Obj.mapSeq f)).get? a = some (lstObj (f vs.toArray).toList m') := by rw [← em]; exact Heap.get?_update_self _ hl (by rw [em]; rfl)
  obtain ⟨R', kt⟩ := R.change (o := .lst es) e (fun _ => nofun) sb fun kt => ⟨_, m', hg, r.keep kt⟩
  exact ⟨d, _, hv.keep kt, R', Fro.change e sb, h⟩

-- methods of built-in types
theorem TE_meth {o : Expr} {name : Str} {apos pos : Pos} {args : List Expr} (f : D → Nu → Option Value)
    (hm : ∀ (A : Around) (s : Shared) (v : Value) (d : D) (ν : Nu) (g : Value) (pl : Sem Bool) (Q : Value × List Value → Shared → Prop) (E : Value → Shared → Prop), f d ν = some g → Ref C ν s.heap → RV s.heap v d → Q (g, [v]) s → wpAny (model C.prog C.w) A (getMethod v name pl) Q E s)
    (hk : ∀ (d : D) (ν : Nu) (g : Value) (h : Heap), f d ν = some g → (∀ b o, C.base.get? b = some o → h.get? b = some o) → ∃ k, (k = Keeper.frame ∨ k = Keeper.machine) ∧ ∀ (A : Around) (s : Shared) (Q : Keeper → Shared → Prop) (E : Value → Shared → Prop), (∀ b o, C.base.get? b = some o → s.heap.get? b = some o) → Q k s → wpAny (model C.prog C.w) A (keeperOf g) Q E s)
    (h : TE C n sc o l ν (fun d ν₁ => ∃ g, f d ν₁ = some g ∧ TL C n sc args l ν₁ (fun ds ν₂ => TC C n g (d :: ds) ν₂ Q)))
    (ha : ∀ env whole, attributeBase o name env whole = whole) (hst : noSt args = true) (hlen : args.length < 30) (hp : (apos.endLine == pos.line) = true) : TE C n sc (.Call (.Attribute o name apos) args [] pos) l ν Q := by
  intro A env s hA R F
  show wpAny _ A (attributeBase o name env (eval o env) >>= fun ov => standAt apos.atName >>= fun _ => methodCall o name apos pos env ov (args.length + 0) (backTo pos (starEach args env)) (backToKw pos (keywordEach [] env))) _ _ s
  rw [ha]
  refine wpAny_bind (wpAny_mono (h A env s hA R F) ?_ fun _ _ x => x)
  rintro v s₁ ⟨d, ν₁, hv, R₁, x₁, g, hg, hq⟩
  have F₁ := F.fro R x₁
  refine wpAny_bind (wpAny_standAt ?_)
  have few : methodCallForm (args.length + 0) (backTo pos (starEach args env)) [] = true := by
    have := noSt_any hst pos env
    unfold methodCallForm
    simp only [List.all_nil, Bool.and_true, List.isEmpty_nil, if_true, Nat.add_zero, Bool.and_eq_true, decide_eq_true_eq]
    refine ⟨?_, by omega⟩
    rw [List.all_eq_not_any_not]
    simpa using this
  unfold methodCall
  show wpAny _ A (holding [v] (calleeOf (methodCallForm (args.length + 0) (backTo pos (starEach args env)) []) o env v name) >>= fun p => methodCallPos (methodCallForm (args.length + 0) (backTo pos (starEach args env)) []) o env apos pos >>= fun cp => callWith cp p.1 p.2 (backTo pos (starEach args env)) []) _ _ s₁
  rw [few]
  refine wpAny_bind (wpAny_holding (hm A s₁ v d ν₁ g _ _ _ hg R₁ hv ?_))
  have hpos : methodCallPos true o env apos pos = pure pos := by unfold methodCallPos; rw [hp]; rfl
  rw [hpos]
  refine wpAny_bind (wpAny_pure ?_)
  unfold callWith
  refine wpAny_bind (wpAny_holding (evalArgs_any hst (wpAny_mono (hq A env s₁ pos hA R₁ F₁) ?_ fun _ _ x => x)))
  rintro vs s₂ ⟨ds, ν₂, hvs, R₂, x₂, hq2⟩
  refine wpAny_bind (wpAny_standAt ?_)
  obtain ⟨k, hk', hkp⟩ := hk d ν₁ g s₂.heap hg R₂.keep
  have F₂ := F₁.fro R₁ x₂
  have main : wpAny (model C.prog C.w) A (call g ([v] ++ vs)) (PostV C ν s Q) nev s₂ := wpAny_mono (hq2 A s₂ (v :: vs) hA R₂ F₂.baseLe (.cons (hv.fro R₁ x₂) hvs)) (fun _ _ p => (p.after x₂).after x₁) fun _ _ x => x
  have tail : ∀ {t : Sem Value}, wpAny (model C.prog C.w) A t (PostV C ν s Q) nev s₂ → wpAny (model C.prog C.w) A (t >>= fun r => holding [r] point >>= fun _ => pure r) (PostV C ν s Q) nev s₂ :=
    fun ht => wpAny_bind (wpAny_mono ht (fun r s₂ hr => wpAny_bind (wpAny_holding (wpAny_point (wpAny_pure hr)))) fun _ _ x => x)
  have pl := noSt_any hst pos env
  simp only [pl, List.any_nil, Bool.or_false]
  refine wpAny_bind (hkp A s₂ _ _ R₂.keep ?_)
  rcases hk' with rfl | rfl
  · dsimp only
    split
    · exact tail main
    · exact tail (by unfold callMarked; exact Calls.wpAny_keep main)
  · exact tail main

/-- a method of list -/
structure LM (name : Str) (id : String) : Prop where
  look : typeLookup (.type "list") name = pure (some (.builtin id))
  type : typeOf (.builtin id) = pure (.type "method_descriptor")
def isL : D → Nu → Option Addr
  | .ref a, ν => match ν a with
    | some (.lst _) => some a
    | _ => none
  | _, _ => none
theorem isL_some {d : D} {a : Addr} (h : isL d ν = some a) : d = .ref a ∧ ∃ ds, ν a = some (.lst ds) := by
  unfold isL at h
  split at h
  · split at h
    · rename_i q; cases h; exact ⟨rfl, _, q⟩
    · cases h
  · cases h
theorem keep_builtin {id : String} (h : Heap) : ∃ k, (k = Keeper.frame ∨ k = Keeper.machine) ∧ ∀ (A : Around) (s : Shared) (Q : Keeper → Shared → Prop) (E : Value → Shared → Prop), (∀ b o, C.base.get? b = some o → s.heap.get? b = some o) → Q k s → wpAny (model C.prog C.w) A (keeperOf (.builtin id)) Q E s :=
  ⟨.machine, .inr rfl, fun _ _ _ _ _ q => wpAny_pure q⟩
theorem TE_methL {o : Expr} {name : Str} {id : String} {apos pos : Pos} {args : List Expr} (M : LM name id)
    (h : TE C n sc o l ν (fun d ν₁ => ∃ a, isL d ν₁ = some a ∧ TL C n sc args l ν₁ (fun ds ν₂ => TC C n (.builtin id) (d :: ds) ν₂ Q)))
    (ha : ∀ env whole, attributeBase o name env whole = whole) (hst : noSt args = true) (hlen : args.length < 30) (hp : (apos.endLine == pos.line) = true) : TE C n sc (.Call (.Attribute o name apos) args [] pos) l ν Q := by
  refine TE_meth (fun d ν => (isL d ν).map fun _ => .builtin id) ?_ ?_ (TE_mono h fun d ν' ⟨a, e, q⟩ => ⟨.builtin id, by rw [e]; rfl, q⟩) ha hst hlen hp
  · intro A s v d ν g pl Q E e R hv q
    obtain ⟨a, e1, e2⟩ := Option.map_eq_some_iff.mp e
    subst e2
    obtain ⟨rfl, ds, hd⟩ := isL_some e1
    (first | (have hq := RV.int_inv hv; clear hv; obtain ⟨_, rfl⟩ := hq) | (have hq := RV.str_inv hv; clear hv; obtain ⟨_, rfl⟩ := hq) | (have hq := RV.ref_inv hv; clear hv; subst hq) | (have hq := RV.val_inv hv; clear hv; subst hq) | (have hq := RV.bool_inv hv; clear hv; subst hq) | cases hv)
    obtain ⟨vs, m, ho, _⟩ := R.at_ a _ hd
    have hT : s.TypeIs (.ref a) "list" := ⟨_, ho, rfl⟩
    unfold getMethod
    refine wpAny_bind (wpAny_specialOf hT list_getattribute ?_)
    show wpAny _ A (if (Manifest.canonical "list.__getattribute__" != "object.__getattribute__") = true then _ else _) Q E s
    rw [canon_list_getattribute, if_neg Bool.false_ne_true]
    refine wpAny_bind (wpAny_specialOf hT list_getattr_none ?_)
    refine wpAny_bind (wpAny_specialOf hT M.look ?_)
    refine wpAny_bind (wpAny_of_eq M.type ?_)
    refine wpAny_bind (wpAny_load ho ?_)
    exact wpAny_bind (wpAny_rule (wpAny_pure q))
  · intro d ν g h e _
    obtain ⟨a, e1, e2⟩ := Option.map_eq_some_iff.mp e
    subst e2
    exact keep_builtin h
end
end Mine

namespace Mine
open PySem PyProof.Rows

section
variable {C : Cx} {n : Nat} {sc : Scope} {l : Loc} {ν : Nu} {Q : D → Nu → Prop}

theorem LM_append : LM "append" "list.append" := ⟨slot_list_append.lookup, type_list_append⟩
theorem LM_pop : LM "pop" "list.pop" := ⟨F.slot_list_pop.lookup, by show builtinType _ = _; rw [builtinType_eq_fast]; kernel_rfl⟩
theorem TC_append {a : Addr} {ds : List D} {d : D} (e : ν a = some (.lst ds)) (hz : ds.length ≤ 100000) (h : Q .none (upd ν a (.lst (ds ++ [d])))) : TC C n (.builtin "list.append") [.ref a, d] ν Q := by
  intro A s vs hA R hb hv
  have hq := RVs.cons_inv hv; clear hv; obtain ⟨_, _, rfl, hv, hr⟩ := hq
  have hq := RVs.cons_inv hr; clear hr; obtain ⟨_, _, rfl, hx, hr⟩ := hq
  have hq := RVs.nil_inv hr; clear hr; subst hq; (first | (have hq := RV.int_inv hv; clear hv; obtain ⟨_, rfl⟩ := hq) | (have hq := RV.str_inv hv; clear hv; obtain ⟨_, rfl⟩ := hq) | (have hq := RV.ref_inv hv; clear hv; subst hq) | (have hq := RV.val_inv hv; clear hv; subst hq) | (have hq := RV.bool_inv hv; clear hv; subst hq) | cases hv)
  rename_i x
  obtain ⟨us, m, ho, r⟩ := R.at_ a _ e
  refine call_meets slot_list_append ⟨_, ho, rfl⟩ entry_list_append (args_list_append _ _) (list_append a us.toArray m x (by rw [sizeLine_eq]; simp [r.length]; omega)) ⟨ho, ?_⟩
  exact post_list R e ho (f := fun x_1 => x_1.push x) (by simpa using r.append (.cons hx .nil)) .none h
theorem TC_pop0 {a : Addr} {ds : List D} {d : D} (e : ν a = some (.lst (d :: ds))) (hz : ds.length ≤ 100000) (h : Q d (upd ν a (.lst ds))) : TC C n (.builtin "list.pop") [.ref a, .int 0] ν Q := by
  intro A s vs hA R hb hv
  have hq := RVs.cons_inv hv; clear hv; obtain ⟨_, _, rfl, hv, hr⟩ := hq
  have hq := RVs.cons_inv hr; clear hr; obtain ⟨_, _, rfl, hx, hr⟩ := hq
  have hq := RVs.nil_inv hr; clear hr; subst hq; (first | (have hq := RV.int_inv hv; clear hv; obtain ⟨_, rfl⟩ := hq) | (have hq := RV.str_inv hv; clear hv; obtain ⟨_, rfl⟩ := hq) | (have hq := RV.ref_inv hv; clear hv; subst hq) | (have hq := RV.val_inv hv; clear hv; subst hq) | (have hq := RV.bool_inv hv; clear hv; subst hq) | cases hv); (first | (have hq := RV.int_inv hx; clear hx; obtain ⟨_, rfl⟩ := hq) | (have hq := RV.str_inv hx; clear hx; obtain ⟨_, rfl⟩ := hq) | (have hq := RV.ref_inv hx; clear hx; subst hq) | (have hq := RV.val_inv hx; clear hx; subst hq) | (have hq := RV.bool_inv hx; clear hx; subst hq) | cases hx)
  rename_i t
  obtain ⟨us, m, ho, r⟩ := R.at_ a _ e
  cases r with | cons rv rr =>
  rename_i u us
  refine call_meets F.slot_list_pop ⟨_, ho, rfl⟩ F.entry_list_pop (F.args_list_pop_2 _ _) (MeetsSeq.list_pop_at a (u :: us).toArray m 0 t 0 u (by decide) (by simp [seqIndex?]) (by simp) (by rw [sizeLine_eq]; simp [rr.length]; omega)) ⟨ho, ?_⟩
  exact post_list R e ho (f := fun xs => xs.eraseIdxIfInBounds 0) (by simpa [Array.eraseIdxIfInBounds] using rr) rv h
-- len
theorem TC_lenL {a : Addr} {ds : List D} (e : seqOf (ν a) = some ds) (hz : ds.length < 2 ^ 63) (h : Q (.int ds.length) ν) : TC C n (.builtin "len") [.ref a] ν Q := by
  intro A s vs hA R hb hv
  have hq := RVs.cons_inv hv; clear hv; obtain ⟨_, _, rfl, hv, hr⟩ := hq
  have hq := RVs.nil_inv hr; clear hr; subst hq; (first | (have hq := RV.int_inv hv; clear hv; obtain ⟨_, rfl⟩ := hq) | (have hq := RV.str_inv hv; clear hv; obtain ⟨_, rfl⟩ := hq) | (have hq := RV.ref_inv hv; clear hv; subst hq) | (have hq := RV.val_inv hv; clear hv; subst hq) | (have hq := RV.bool_inv hv; clear hv; subst hq) | cases hv)
  obtain ⟨us, m, ho, r⟩ := R.seq e
  refine Calls.call_len_list (items := us.toArray) ⟨_, ho, rfl, m, rfl⟩ (by simp [r.length]; omega) (postV_toks R ?_ h)
  rw [show ((us.toArray.size : Nat) : Int) = (ds.length : Int) by simp [r.length]]
  exact .int _ _
theorem TC_lenT {ds : List D} (hz : ds.length < 2 ^ 63) (h : Q (.int ds.length) ν) : TC C n (.builtin "len") [.tup ds] ν Q := by
  intro A s vs hA R hb hv
  have hq := RVs.cons_inv hv; clear hv; obtain ⟨_, _, rfl, hv, hr⟩ := hq
  have hq := RVs.nil_inv hr; clear hr; subst hq
  cases hv with | tup ho r =>
  rename_i a us m
  refine len_tuple (items := us.toArray) ⟨_, ho, rfl, m, rfl⟩ (by simp [r.length]; omega) (postV_toks R ?_ h)
  rw [show ((us.toArray.size : Nat) : Int) = (ds.length : Int) by simp [r.length]]
  exact .int _ _
-- isinstance
theorem TC_isi {d : D} {T : String} (hd : ∀ (s : Shared) (v : Value), Ref C ν s.heap → RV s.heap v d → s.TypeIs v T) (hty : typeOf (.type T) = pure (.type "type")) (hsub : isSubtype (.type T) (.type T) = pure true) (h : Q (.bool true) ν) : TC C n (.builtin "isinstance") [d, .val (.type T)] ν Q := by
  intro A s vs hA R hb hv
  have hq := RVs.cons_inv hv; clear hv; obtain ⟨_, _, rfl, hv, hr⟩ := hq
  have hq := RVs.cons_inv hr; clear hr; obtain ⟨_, _, rfl, hx, hr⟩ := hq
  have hq := RVs.nil_inv hr; clear hr; subst hq; (first | (have hq := RV.int_inv hx; clear hx; obtain ⟨_, rfl⟩ := hq) | (have hq := RV.str_inv hx; clear hx; obtain ⟨_, rfl⟩ := hq) | (have hq := RV.ref_inv hx; clear hx; subst hq) | (have hq := RV.val_inv hx; clear hx; subst hq) | (have hq := RV.bool_inv hx; clear hx; subst hq) | cases hx)
  exact call_isinstance (isinstance_true hty hsub) ⟨hd s _ R hv, postV_here R (.bool true) h⟩
theorem TC_isi_int {i : Int} (h : Q (.bool true) ν) : TC C n (.builtin "isinstance") [.int i, .val (.type "int")] ν Q := TC_isi (fun s v _ hv => by (first | (have hq := RV.int_inv hv; clear hv; obtain ⟨_, rfl⟩ := hq) | (have hq := RV.str_inv hv; clear hv; obtain ⟨_, rfl⟩ := hq) | (have hq := RV.ref_inv hv; clear hv; subst hq) | (have hq := RV.val_inv hv; clear hv; subst hq) | (have hq := RV.bool_inv hv; clear hv; subst hq) | cases hv); exact typeIs_int s i _) F.isi_meta_int F.isi_self_int h
theorem TC_isi_str {x : Str} (h : Q (.bool true) ν) : TC C n (.builtin "isinstance") [.str x, .val (.type "str")] ν Q := TC_isi (fun s v _ hv => by (first | (have hq := RV.int_inv hv; clear hv; obtain ⟨_, rfl⟩ := hq) | (have hq := RV.str_inv hv; clear hv; obtain ⟨_, rfl⟩ := hq) | (have hq := RV.ref_inv hv; clear hv; subst hq) | (have hq := RV.val_inv hv; clear hv; subst hq) | (have hq := RV.bool_inv hv; clear hv; subst hq) | cases hv); exact (rfl : _)) F.isi_meta_str F.isi_self_str h
theorem TC_isi_tup {ds : List D} (h : Q (.bool true) ν) : TC C n (.builtin "isinstance") [.tup ds, .val (.type "tuple")] ν Q := TC_isi (fun s v _ hv => by cases hv with | tup e _ => exact ⟨_, e, rfl⟩) F.isi_meta_tuple F.isi_self_tuple h
theorem TC_isi_int_bool {i : Int} (h : Q (.bool false) ν) : TC C n (.builtin "isinstance") [.int i, .val (.type "bool")] ν Q := by
  intro A s vs hA R hb hv
  have hq := RVs.cons_inv hv; clear hv; obtain ⟨_, _, rfl, hv, hr⟩ := hq
  have hq := RVs.cons_inv hr; clear hr; obtain ⟨_, _, rfl, hx, hr⟩ := hq
  have hq := RVs.nil_inv hr; clear hr; subst hq; (first | (have hq := RV.int_inv hx; clear hx; obtain ⟨_, rfl⟩ := hq) | (have hq := RV.str_inv hx; clear hx; obtain ⟨_, rfl⟩ := hq) | (have hq := RV.ref_inv hx; clear hx; subst hq) | (have hq := RV.val_inv hx; clear hx; subst hq) | (have hq := RV.bool_inv hx; clear hx; subst hq) | cases hx); (first | (have hq := RV.int_inv hv; clear hv; obtain ⟨_, rfl⟩ := hq) | (have hq := RV.str_inv hv; clear hv; obtain ⟨_, rfl⟩ := hq) | (have hq := RV.ref_inv hv; clear hv; subst hq) | (have hq := RV.val_inv hv; clear hv; subst hq) | (have hq := RV.bool_inv hv; clear hv; subst hq) | cases hv)
  exact call_isinstance (isinstance_false_int (by decide) F.isi_meta_bool (by rw [isSubtype_type]; kernel_rfl)) (postV_toks R (.bool false) h)

-- range, list, +
theorem TC_range {m : Int} (h : Q (.rng m) ν) : TC C n (.type "range") [.int m] ν Q := by
  intro A s vs hA R hb hv
  have hq := RVs.cons_inv hv; clear hv; obtain ⟨_, _, rfl, hv, hr⟩ := hq
  have hq := RVs.nil_inv hr; clear hr; subst hq; (first | (have hq := RV.int_inv hv; clear hv; obtain ⟨_, rfl⟩ := hq) | (have hq := RV.str_inv hv; clear hv; obtain ⟨_, rfl⟩ := hq) | (have hq := RV.ref_inv hv; clear hv; subst hq) | (have hq := RV.val_inv hv; clear hv; subst hq) | (have hq := RV.bool_inv hv; clear hv; subst hq) | cases hv)
  exact call_range_1 ⟨.rng m, ν, .rng (Heap.get?_push_size _ rfl), R.push _, Fro.push _ _, h⟩
theorem Ref.keeps {h h' : Heap} (R : Ref C ν h) (k : ∀ b o, h.get? b = some o → h'.get? b = some o) : Ref C ν h' :=
  ⟨fun b o e => k b o (R.keep b o e), fun a o e => by
    obtain ⟨ob, hob, _⟩ := (R.at_ a o e).get
    exact (R.at_ a o e).keep (fun b o e _ => k b o e) ((k _ _ hob).trans hob.symm), R.own⟩
/-- a new object comes at an address that was free; all else stands -/
theorem post_new {s : Shared} {a : Addr} {o : AObj} {h' : Heap} {t : Nat} (R : Ref C ν s.heap) (hn : s.heap.get? a = none) (hν : ν a = none) (hb : C.base.objs.size ≤ a) (k : ∀ b o, s.heap.get? b = some o → h'.get? b = some o) (ho : ObjAt C h' a o) (h : Q (.ref a) (upd ν a o)) :
    PostV C ν s Q (.ref a) { s with heap := h', toks := t } := by
  have R' := R.keeps k
  have ne : ∀ b ob, s.heap.get? b = some ob → b ≠ a := fun b ob e q => by rw [q, hn] at e; cases e
  refine ⟨.ref a, upd ν a o, .ref a, ⟨R'.keep, fun b o' e => ?_, fun b o' e hs => ?_⟩, ⟨⟨h', t, rfl⟩, fun b o e _ _ => k b o e, fun b o e _ => ⟨o, k b o e⟩, fun b ob e hn' => ?_⟩, h⟩
  · unfold upd at e; split at e
    · rename_i q; subst q; cases e; exact ho
    · exact R'.at_ b o' e
  · unfold upd at e; split at e
    · rename_i q; subst q; exact hb
    · exact R'.own b o' e hs
  · unfold upd; rw [if_neg (ne b ob e)]; exact hn'
theorem T2_addL {a b : Addr} {xs ys : List D} (ha : seqOf (ν a) = some xs) (hb : seqOf (ν b) = some ys) (hz : xs.length + ys.length ≤ 100000) (h : ∀ r, ν r = none → Q (.ref r) (upd ν r (.lst (xs ++ ys)))) : T2 C n (binaryOp .Add) (.ref a) (.ref b) ν Q := by
  intro A s v u hA R hb' hv hu
  (first | (have hq := RV.int_inv hv; clear hv; obtain ⟨_, rfl⟩ := hq) | (have hq := RV.str_inv hv; clear hv; obtain ⟨_, rfl⟩ := hq) | (have hq := RV.ref_inv hv; clear hv; subst hq) | (have hq := RV.val_inv hv; clear hv; subst hq) | (have hq := RV.bool_inv hv; clear hv; subst hq) | cases hv); (first | (have hq := RV.int_inv hu; clear hu; obtain ⟨_, rfl⟩ := hq) | (have hq := RV.str_inv hu; clear hu; obtain ⟨_, rfl⟩ := hq) | (have hq := RV.ref_inv hu; clear hu; subst hq) | (have hq := RV.val_inv hu; clear hu; subst hq) | (have hq := RV.bool_inv hu; clear hu; subst hq) | cases hu)
  obtain ⟨us, m, ho, r⟩ := R.seq ha
  obtain ⟨ws, m', ho', r'⟩ := R.seq hb
  refine P.add_list (items := us.toArray) (items2 := ws.toArray) ho ho' ?_ (by rw [sizeLine_eq]; simp [r.length, r'.length]; omega)
  refine post_new (o := .lst (xs ++ ys)) R (getNone s) R.fresh hb' (fun b o e => Heap.get?_push_of_some _ e) ⟨us ++ ws, 0, ?_, (r.append r').keep (TupKeep.push _)⟩ (h _ R.fresh)
  rw [Heap.get?_push_size _ rfl]; unfold lstObj; simp

-- slices
def TP (C : Cx) (n : Nat) (sc : Scope) (e : Option Expr) (l : Loc) (ν : Nu) (Q : Option Int → Nu → Prop) : Prop :=
  match e with
  | none => Q none ν
  | some e => TE C n sc e l ν (fun d ν' => ∃ i, d = .int i ∧ Q (some i) ν')
def cut (lo hi : Option Int) (ds : List D) : List D := (match hi with | none => ds | some j => ds.take j.toNat).drop (match lo with | none => 0 | some i => i.toNat)
def pos0 (lo : Option Int) : Prop := ∀ i, lo = some i → 0 ≤ i
theorem cut_vals {h : Heap} {us : List Value} {ds : List D} (r : RVs h us ds) {lo hi : Option Int} (h1 : pos0 lo) (h2 : pos0 hi) : RVs h (slicePick us.toArray lo hi none).toList (cut lo hi ds) := by
  rw [slicePick_plain]
  have key : ∀ (i : Int), 0 ≤ i → clipAt us.length i = min i.toNat us.length := fun i hi => by
    have := clipAt_nat us.length i.toNat
    rw [Int.toNat_of_nonneg hi] at this
    simpa using this
  have fin : ∀ a b : Nat, RVs h ((us.drop (min a us.length)).take (min b us.length - min a us.length)) ((ds.take b).drop a) := fun a b => by
    have e : (us.drop (min a us.length)).take (min b us.length - min a us.length) = (us.take b).drop a := by
      rw [← List.drop_take]
      apply List.ext_getElem?
      intro k
      simp only [List.getElem?_drop, List.getElem?_take]
      split <;> split <;> first | rfl | (rw [List.getElem?_eq_none (by omega)]; try rw [List.getElem?_eq_none (by omega)]) | skip
      · congr 1; omega
    rw [e]; exact (r.take b).drop a
  unfold cut
  cases lo with
  | none => cases hi with
    | none => simpa using r
    | some j =>
      have := fin 0 j.toNat
      simpa [key j (h2 j rfl)] using this
  | some i => cases hi with
    | none =>
      have := fin i.toNat us.length
      rw [Nat.min_self, r.length, List.take_length, ← r.length] at this
      simpa [key i (h1 i rfl)] using this
    | some j =>
      have := fin i.toNat j.toNat
      simpa [key i (h1 i rfl), key j (h2 j rfl)] using this
end
end Mine

namespace Mine
open PySem PyProof.Rows PySem.W

section
variable {C : Cx} {n : Nat} {sc : Scope} {l : Loc} {ν : Nu} {Q : D → Nu → Prop}

theorem Cx.KIn (C : Cx) {h : Heap} (k : ∀ b o, C.base.get? b = some o → h.get? b = some o) : Frag.In C.K h := fun a o e => k _ _ (C.inK a o e)

/-- a class of the text whose instances are plain -/
structure IsCls (C : Cx) (T : Addr) : Prop where
  get : plainGet C.K T "" = true
  set : findIn C.K (.ref T) "__setattr__" = some (some (.builtin "object.__setattr__"))
  over : plainOver C.K T = true
  dict : (clsIn C.K T).any (·.hasDict) = true
  makes : makesIn C.K T = true
  keep : keepIn C.K (.ref T) = true
/-- a name of an instance's own -/
def isField (C : Cx) (T : Addr) (x : Str) : Prop := findIn C.K (.ref T) x = some none
def isMeth (C : Cx) (T : Addr) (x : Str) (f : Addr) : Prop := findIn C.K (.ref T) x = some (some (.ref f)) ∧ isFn C.K (.ref f) = true ∧ keepIn C.K (.ref f) = true

theorem nsFind_getL {es : List DictEntry} (hk : ∀ e ∈ es, ∃ x t, e.key = .str x t) (x : Str) : getL x es = some (nsFind es.toArray x) := by
  unfold getL nsFind findBy
  rw [List.find?_toArray]
  cases q : es.find? (fun e => e.key.isStr x) with
  | some e => rfl
  | none =>
    have : es.any (·.refKey) = false := by
      rw [List.any_eq_false]
      intro e he
      obtain ⟨y, t, e'⟩ := hk e he
      simp [DictEntry.refKey, e']
    simp [this]
theorem RV.handed {h : Heap} {v : Value} {d : D} (r : RV h v d) (hd : ∀ u, d ≠ .val u) : handedIn v = true := by
  cases r <;> first | rfl | exact absurd rfl (hd _)

theorem get_field {A : Around} {s : Shared} {x T dx : Addr} {fs : List (Str × D)} {name : Str} {d : D} {Q : Value → Shared → Prop} {E : Value → Shared → Prop} {b : Bool} (I : IsCls C T) (R : Ref C ν s.heap) (e1 : ν x = some (.inst T dx)) (e2 : ν dx = some (.ns fs)) (hf : isField C T name) (hl : lk fs name = some d) (hd : ∀ u, d ≠ .val u)
    (h : ∀ v, RV s.heap v d → Q v { s with toks := s.toks + 1 }) : wpAny (model C.prog C.w) A (getAttr (.ref x) name b) Q E s := by
  have X := C.KIn R.keep
  have hx : s.heap.get? x = some (insObj T dx) := R.at_ x _ e1
  obtain ⟨es, m, ho, hk, _, hfs⟩ := R.at_ dx _ e2
  have hv := hfs name
  rw [hl] at hv
  obtain ⟨v, hv, rv⟩ := hv
  have IA : InstAt s.heap x (insObj T dx) T (some (dctObj es m)) := ⟨hx, rfl, rfl, ho⟩
  obtain ⟨cd, hc, hh⟩ := any_some I.dict
  refine get_value X IA (plainGet_of (name := name) I.get).1 ?_ (rv.handed hd) (h v rv)
  have own : W.ownOf cd (some (dctObj es m)) name = some (some v) := by
    unfold W.ownOf
    rw [hh]
    show lookIn name (dctObj es m) = _
    rw [show lookIn name (dctObj es m) = getL name es from rfl, nsFind_getL hk, hv]
  unfold findObj
  rw [hc]
  simp only [Option.bind_some, show findIn C.K (.ref T) name = some none from hf, own]

theorem TE_attr {value : Expr} {attr : Str} {pos} (T : Addr) (I : IsCls C T) (hf : isField C T attr)
    (h : TE C n sc value l ν (fun d ν₁ => ∃ x dx fs r, d = .ref x ∧ ν₁ x = some (.inst T dx) ∧ ν₁ dx = some (.ns fs) ∧ lk fs attr = some r ∧ (∀ u, r ≠ .val u) ∧ Q r ν₁))
    (ha : ∀ env whole, attributeBase value attr env whole = whole) : TE C n sc (.Attribute value attr pos) l ν Q := by
  intro A env s hA R F
  show wpAny _ A (attributeBase value attr env (eval value env) >>= fun o => standAt pos.atName >>= fun _ => holding [o] (getAttr o attr true) >>= fun r => letTemporaryGo value o r >>= fun _ => pure r) _ _ s
  rw [ha]
  refine wpAny_bind (wpAny_mono (h A env s hA R F) ?_ fun _ _ x => x)
  rintro v s₁ ⟨d, ν₁, hv, R₁, x₁, x, dx, fs, r, rfl, e1, e2, hl, hr, hq⟩
  cases hv
  refine wpAny_bind (wpAny_standAt (wpAny_bind (wpAny_holding (get_field I R₁ e1 e2 hf hl hr fun v rv => ?_))))
  exact wpAny_bind (wpAny_letTemporaryGo (wpAny_pure ((postV_toks R₁ rv hq).after x₁)))

/-- a method of an instance -/
theorem TE_methI {o : Expr} {name : Str} {apos pos : Pos} {args : List Expr} (T f : Addr) (I : IsCls C T) (hm : isMeth C T name f)
    (h : TE C n sc o l ν (fun d ν₁ => ∃ x dx fs, d = .ref x ∧ ν₁ x = some (.inst T dx) ∧ ν₁ dx = some (.ns fs) ∧ lk fs name = none ∧ TL C n sc args l ν₁ (fun ds ν₂ => TC C n (.ref f) (.ref x :: ds) ν₂ Q)))
    (ha : ∀ env whole, attributeBase o name env whole = whole) (hst : noSt args = true) (hlen : args.length < 30) (hp : (apos.endLine == pos.line) = true) : TE C n sc (.Call (.Attribute o name apos) args [] pos) l ν Q := by
  refine TE_meth (fun d ν => match d with | .ref x => (match ν x with | some (.inst T' dx) => if T' = T then (match ν dx with | some (.ns fs) => if lk fs name = none then some (.ref f) else none | _ => none) else none | _ => none) | _ => none) ?_ ?_
    (TE_mono h fun d ν' ⟨x, dx, fs, e, e1, e2, e3, q⟩ => ⟨.ref f, by subst e; simp [e1, e2, e3], by subst e; exact q⟩) ha hst hlen hp
  · intro A s v d ν g pl Q E e R hv q
    split at e
    · rename_i x
      split at e
      · rename_i T' dx e1
        split at e
        · rename_i hT
          subst hT
          split at e
          · rename_i fs e2
            split at e
            · rename_i e3
              cases e
              cases hv
              obtain ⟨es, m, ho, hk, _, hfs⟩ := R.at_ dx _ e2
              have hn := hfs name
              rw [e3] at hn
              have IA : InstAt s.heap x (insObj T' dx) T' (some (dctObj es m)) := ⟨R.at_ x _ e1, rfl, rfl, ho⟩
              refine method_fn (C.KIn R.keep) IA (plainGet_of (name := name) I.get).1 (plainGet_of (name := name) I.get).2 hm.1 (beq_iff_eq.mp hm.2.1) ?_ q
              show (lookIn name (dctObj es m)).map _ = _
              rw [show lookIn name (dctObj es m) = getL name es from rfl, nsFind_getL hk, hn]; rfl
            · cases e
          · cases e
        · cases e
      · cases e
    · cases e
  · intro d ν g h e k
    have hg : g = .ref f := by
      split at e
      · split at e
        · split at e
          · split at e
            · split at e
              · cases e; rfl
              · cases e
            · cases e
          · cases e
        · cases e
      · cases e
    subst hg
    obtain ⟨kk, hk, hL⟩ := looks_keep (M := model C.prog C.w) hm.2.2 (C.KIn (h := C.base) fun _ _ e => e)
    exact ⟨kk, hk, fun A s Q E k' q => hL A Q E s k' q⟩

-- storing an attribute
theorem nsFind_putL {x y : Str} {hs : Int} {t : Tok} {v : Value} : ∀ {es : List DictEntry}, nsFind (putL x hs (.str x t) v es).toArray y = if y = x then some v else nsFind es.toArray y
  | [] => by
    unfold putL nsFind findBy
    simp only [List.find?_toArray, List.find?_cons, List.find?_nil, Value.isStr]
    by_cases q : y = x
    · subst q; simp
    · have : (x == y) = false := by simpa using fun e => q e.symm
      simp [this, q]
  | e :: r => by
    have ih := nsFind_putL (x := x) (y := y) (hs := hs) (t := t) (v := v) (es := r)
    unfold nsFind findBy at ih ⊢
    rw [List.find?_toArray] at ih ⊢
    rw [List.find?_toArray] at ih ⊢
    unfold putL
    by_cases q : e.key.isStr x = true
    · rw [if_pos q]
      simp only [List.find?_cons]
      by_cases p : y = x
      · subst p; rw [q]; simp
      · have : e.key.isStr y = false := by
          cases z : e.key.isStr y with
          | false => rfl
          | true => exact absurd (Value.isStr_inj _ _ _ z q) p
        simp [this, p]
    · rw [if_neg q]
      simp only [List.find?_cons]
      by_cases p : e.key.isStr y = true
      · have : ¬ y = x := fun z => q (z ▸ p)
        simp [p, this]
      · have p' : e.key.isStr y = false := by simpa using p
        simp only [p']
        exact ih
theorem putL_keys {x : Str} {hs : Int} {t : Tok} {v : Value} : ∀ {es : List DictEntry}, (∀ e ∈ es, ∃ y t, e.key = .str y t) → ∀ e ∈ putL x hs (.str x t) v es, ∃ y t, e.key = .str y t
  | [], _, e, he => by
    simp only [putL, List.mem_singleton] at he
    subst he; exact ⟨x, t, rfl⟩
  | e' :: r, hk, e, he => by
    unfold putL at he
    split at he
    · rcases List.mem_cons.mp he with rfl | he
      · exact hk e' (.head _)
      · exact hk e (.tail _ he)
    · rcases List.mem_cons.mp he with rfl | he
      · exact hk _ (.head _)
      · exact putL_keys (fun z hz => hk z (.tail _ hz)) e he
theorem putL_len {x : Str} {hs : Int} {k v : Value} : ∀ {es : List DictEntry}, (putL x hs k v es).length = es.length + (if nsFind es.toArray x = none then 1 else 0)
  | [] => by simp [putL, nsFind, findBy]
  | e :: r => by
    have ih := putL_len (x := x) (hs := hs) (k := k) (v := v) (es := r)
    unfold nsFind findBy at ih ⊢
    rw [List.find?_toArray] at ih ⊢
    unfold putL
    by_cases q : e.key.isStr x = true
    · rw [if_pos q]; simp [List.find?_cons, q]
    · rw [if_neg q]
      have q' : e.key.isStr x = false := by simpa using q
      simp only [List.length_cons, List.find?_cons, q', ih]; omega
theorem put_len {fs : List (Str × D)} {x : Str} {d : D} : (Mine.put fs x d).length = fs.length + (if lk fs x = none then 1 else 0) := by
  induction fs with
  | nil => simp [Mine.put, lk]
  | cons p r ih =>
    obtain ⟨z, e⟩ := p
    unfold Mine.put lk
    by_cases q : x = z
    · simp [q]
    · simp only [q, if_false, List.length_cons, ih]; omega
theorem NsOk.put {h : Heap} {es : List DictEntry} {fs : List (Str × D)} {x : Str} {hs : Int} {t : Tok} {v : Value} {d : D} (ok : NsOk h es fs) (rv : RV h v d) : NsOk h (putL x hs (.str x t) v es) (Mine.put fs x d) := by
  obtain ⟨a, b, c⟩ := ok
  refine ⟨putL_keys a, ?_, fun y => ?_⟩
  · rw [putL_len, put_len]
    have := c x
    cases q : lk fs x with
    | none => rw [q] at this; rw [if_pos this, if_pos rfl]; omega
    | some d' => rw [q] at this; obtain ⟨v', hv, _⟩ := this; rw [if_neg (by rw [hv]; simp), if_neg (by simp)]; omega
  · rw [lk_put]
    have := c y
    rw [nsFind_putL]
    by_cases q : y = x
    · simp only [q, if_true]; exact ⟨v, rfl, rv⟩
    · simp only [q, if_false]; exact this

theorem osa_field {A : Around} {s : Shared} {x T dx : Addr} {fs : List (Str × D)} {name : Str} {tk : Tok} {v : Value} {d : D} {R' : Result → Shared → Prop} (I : IsCls C T) (R : Ref C ν s.heap) (e1 : ν x = some (.inst T dx)) (e2 : ν dx = some (.ns fs)) (hf : isField C T name) (hlen : fs.length < 100) (rv : RV s.heap v d)
    (h : ∀ s', Ref C (upd ν dx (.ns (put fs name d))) s'.heap → Fro no ν (upd ν dx (.ns (put fs name d))) s s' → R' (.ok (.ret .none)) s') : codeAny (model C.prog C.w) A (.call (.builtin "object.__setattr__") ⟨[.ref x, .str name tk, v], []⟩) R' s := by
  have X := C.KIn R.keep
  have hx : s.heap.get? x = some (insObj T dx) := R.at_ x _ e1
  obtain ⟨es, m, ho, ok⟩ := R.at_ dx _ e2
  have hk := ok.1
  have IA : InstAt s.heap x (insObj T dx) T (some (dctObj es m)) := ⟨hx, rfl, rfl, ho⟩
  obtain ⟨cd, hc, hh⟩ := any_some I.dict
  refine osa_open X IA I.over (r := none) (by unfold takerIn; rw [show findIn C.K (.ref T) name = some none from hf]; rfl) fun b => ?_
  have sb := Heap.SameBut.update s.heap dx (Obj.putName name (PyData.keyHash C.w.params name) (.str name s.toks) v)
  have hpd : Obj.putName name (PyData.keyHash C.w.params name) (.str name s.toks) v (dctObj es m) = dctObj (putL name (PyData.keyHash C.w.params name) (.str name s.toks) v es) (putN name es m) := putName_dict name _ _ v es m
  have hg : (s.heap.update dx (Obj.putName name (PyData.keyHash C.w.params name) (.str name s.toks) v)).get? dx = some (dctObj (putL name (PyData.keyHash C.w.params name) (.str name s.toks) v es) (putN name es m)) := by
    rw [← hpd]; exact Heap.get?_update_self _ ho (by rw [hpd]; rfl)
  have okk : ∀ {h' : Heap}, TupKeep s.heap h' → NsOk h' es fs := fun kt => let ⟨a, b, c⟩ := ok; ⟨a, b, fun y => by
    have := c y
    split at this
    · obtain ⟨u, p, q⟩ := this; exact ⟨u, p, q.keep kt⟩
    · exact this⟩
  obtain ⟨R', kt⟩ := R.change (o := .ns (Mine.put fs name d)) e2 (fun _ => nofun) sb fun kt => ⟨_, _, hg, NsOk.put (okk kt) (rv.keep kt)⟩
  refine wpAny_bind (wpAny_pure (wpAny_bind (wpAny_bind (wpAny_loadPart hx (wpAny_bind ((looks_clsIn X hc).here ?_))))))
  rw [hh]
  refine wpAny_pure (a := some dx) (wpAny_bind (wpAny_pure (wpAny_bind ?_)))
  unfold nsSet
  refine wpAny_bind (wpAny_bind (wpAny_askSetting (wpAny_pure (wpAny_bind (wpAny_mkText (wpAny_bind (wpAny_loadPart ho ?_)))))))
  have c : (!(es.toArray.any (·.key.isStr name)) && es.toArray.any (·.refKey)) = false := by
    have : es.toArray.any (·.refKey) = false := by
      rw [← Array.any_toList, List.any_eq_false]
      intro e he
      obtain ⟨y, t, e'⟩ := hk e he
      simp [DictEntry.refKey, e']
    rw [this, Bool.and_false]
  show wpAny _ _ (if aRefKeyMayBeTheName name es.toArray = true then _ else _) _ _ _
  rw [aRefKeyMayBeTheName_at, c]
  refine wpAny_updatePart ho ?_
  have hz : (putL name (PyData.keyHash C.w.params name) (.str name s.toks) v es).length ≤ 200 := by
    have := (NsOk.put (x := name) (hs := PyData.keyHash C.w.params name) (t := s.toks) (okk (fun a o e _ => e)) rv).2.1
    rw [put_len] at this
    split at this <;> omega
  refine wpAny_bind (wpAny_lookBehind hg (by show (Data.dict _ _).pastItsLine = none; exact pastItsLine_dict (by rw [List.size_toArray, sizeLine_eq]; omega)) ?_)
  exact wpAny_pure (h _ R' (Fro.change e2 sb))

theorem set_field {A : Around} {s : Shared} {x T dx : Addr} {fs : List (Str × D)} {name : Str} {v : Value} {d : D} {Q : Unit → Shared → Prop} {E : Value → Shared → Prop} (I : IsCls C T) (R : Ref C ν s.heap) (e1 : ν x = some (.inst T dx)) (e2 : ν dx = some (.ns fs)) (hf : isField C T name) (hlen : fs.length < 100) (rv : RV s.heap v d)
    (h : ∀ s', Ref C (upd ν dx (.ns (put fs name d))) s'.heap → Fro no ν (upd ν dx (.ns (put fs name d))) s s' → Q () s') : wpAny (model C.prog C.w) A (setAttr (.ref x) name v) Q E s := by
  have IA : InstAt s.heap x (insObj T dx) T (some _) := ⟨R.at_ x _ e1, rfl, rfl, (let ⟨es, m, ho, _⟩ := R.at_ dx _ e2; ⟨es, m, ho⟩ : ∃ es m, s.heap.get? dx = some (dctObj es m)).choose_spec.choose_spec⟩
  refine set_plain (C.KIn R.keep) IA I.set (osa_field (s := { s with toks := s.toks + 1 }) I R e1 e2 hf hlen rv fun s' R' x' => h s' R' (Fro.trans Fro.toks x'))

theorem TS_setattr {o value : Expr} {attr : Str} {pos' pos} {Q : Fl → Loc → Nu → Prop} (T : Addr) (I : IsCls C T) (hf : isField C T attr)
    (h : TE C n sc value l ν (fun d ν₁ => TE C n sc o l ν₁ (fun e ν₂ => ∃ x dx fs, e = .ref x ∧ ν₂ x = some (.inst T dx) ∧ ν₂ dx = some (.ns fs) ∧ fs.length < 100 ∧ Q .next l (upd ν₂ dx (.ns (put fs attr d))))))
    (hs : ∀ env, swapsWith value (some (.Attribute o attr pos')) pos.line env = pure false) : TS C n sc (.Assign [.Attribute o attr pos'] value pos) l ν Q := by
  intro A env s hA R F
  refine plainObj_wpAny_Assign_Attribute (wpAny_mono (h A env s hA R F) ?_ fun _ _ x => x) (hs env)
  rintro v s₁ ⟨d, ν₁, hv, R₁, x₁, hq⟩
  have F₁ := F.fro R x₁
  refine wpAny_mono (hq A env s₁ hA R₁ F₁) ?_ fun _ _ x => x
  rintro u s₂ ⟨e, ν₂, hu, R₂, x₂, x, dx, fs, rfl, e1, e2, hlen, hq2⟩
  cases hu
  have F₂ := F₁.fro R₁ x₂
  refine set_field I R₂ e1 e2 hf hlen (hv.fro R₁ x₂) fun s' R' x' => ?_
  exact ⟨.next, l, _, .next, R', F₂.fro R₂ x', ((x₁.trans x₂).trans x').toFr, hq2⟩

-- new instances
theorem Aok.make {A : Around} {T : Addr} {vs : List Value} (h : Aok (n + 2) A) : Aok n (A.under (.builtin "type.__call__" ⟨.ref T :: vs, []⟩)) := by
  refine ⟨h.1, ?_, ?_⟩
  · have := h.2.1; show A.depth + 1 + n < _; omega
  · have := h.2.2; show A.units + (Code.builtin "type.__call__" ⟨.ref T :: vs, []⟩).cUnits + _ < _
    have e : (Code.builtin "type.__call__" ⟨.ref T :: vs, []⟩).cUnits = 1 + 3 * (Code.builtin "type.__call__" ⟨.ref T :: vs, []⟩).frames := rfl
    have e2 : (Code.builtin "type.__call__" ⟨.ref T :: vs, []⟩).frames = 0 := rfl
    rw [e, e2]; omega
theorem TC_new {T f : Addr} {ds : List D} (I : IsCls C T) (hm : isMeth C T "__init__" f)
    (h : ∀ x dx, ν x = none → ν dx = none → x ≠ dx → TK C n (.ref f) (.ref x :: ds) (upd (upd ν dx (.ns [])) x (.inst T dx)) (fun d ν' => d = .none ∧ Q (.ref x) ν')) : TC C (n + 2) (.ref T) ds ν Q := by
  intro A s vs hA R hz hv
  refine wpAny_call ?_
  obtain ⟨hh, g, d, t, os⟩ := s
  have hz : C.base.objs.size ≤ hh.objs.size := hz
  have R : Ref C ν hh := R
  have hv : RVs hh vs ds := hv
  have X := C.KIn R.keep
  refine make_core (makes_of X I.makes) (looks_findIn X hm.1) (fun self => bind_fn X self (beq_iff_eq.mp hm.2.1)) (.inl rfl) ?_
  have n1 : ν hh.objs.size = none := R.fresh
  have R1 := R.alloc (o := .ns []) (ob := emptyDict) ⟨[], 0, Heap.get?_push_size _ rfl, ⟨fun _ h => (by cases h), Nat.le_refl _, fun _ => rfl⟩⟩ hz
  have hs1 : (hh.push emptyDict).objs.size = hh.objs.size + 1 := Heap.size_push ..
  have n2 : upd ν hh.objs.size (.ns []) (hh.objs.size + 1) = none := by rw [← hs1]; exact R1.fresh
  have R2 := R1.alloc (o := .inst T hh.objs.size) (ob := instObj T hh.objs.size) (Heap.get?_push_size _ rfl) (by rw [hs1]; omega)
  rw [hs1] at R2
  have n2' : ν (hh.objs.size + 1) = none := by unfold upd at n2; rw [if_neg (Nat.succ_ne_self _)] at n2; exact n2
  have k : ∀ b o, hh.get? b = some o → ((hh.push emptyDict).push (instObj T hh.objs.size)).get? b = some o := fun b o e => Heap.get?_push_of_some _ (Heap.get?_push_of_some _ e)
  refine codeAny_mono (h (hh.objs.size + 1) hh.objs.size n2' n1 (Nat.succ_ne_self _) _ ⟨(hh.push emptyDict).push (instObj T hh.objs.size), g, d, t, os⟩ (.ref (hh.objs.size + 1) :: vs) hA.make R2 (by rw [Heap.size_push, Heap.size_push]; omega) (.cons (.ref _) (hv.keep fun b o e _ => k b o e))) ?_
  intro r s' z
  cases r with
  | error e => exact z.elim
  | ok f =>
    cases f with
    | ret v =>
      obtain ⟨d', ν', rv, R', x', rfl, q⟩ := z
      cases rv
      refine ⟨rfl, .ref _, ν', .ref _, R', ?_, q⟩
      obtain ⟨⟨h', t', rfl⟩, a, b, c⟩ := x'
      have key : ∀ b o, hh.get? b = some o → ν b = none → upd (upd ν hh.objs.size (.ns [])) (hh.objs.size + 1) (.inst T hh.objs.size) b = none := fun b o e hn => by
        have := Heap.lt_size e
        unfold upd; rw [if_neg (Nat.ne_of_lt (Nat.lt_succ_of_lt this)), if_neg (Nat.ne_of_lt this)]; exact hn
      exact ⟨⟨h', t', rfl⟩, fun b o e hn ho => a b o (k b o e) (key b o e hn) ho, fun p o e hn => b p o (k p o e) (key p o e hn), fun b o e hn => c b o (k b o e) (key b o e hn)⟩
    | _ => exact z.elim

/-- the call of a class of the text by its name -/
theorem TE_callC {x : Str} {p pos : Pos} {args : List Expr} {T : Addr} (hk : sc.names.lookup x = some .globalImplicit) (hg : C.G x (.ref T)) (I : IsCls C T)
    (h : TL C n sc args l ν (fun ds ν₁ => TC C n (.ref T) ds ν₁ Q)) (hx : (x == ("__debug__" : Str)) = false) (hst : noSt args = true) : TE C n sc (.Call (.Name x p) args [] pos) l ν Q := by
  intro A env s hA R F
  show wpAny _ A (eval (.Name x p) env >>= fun f => callWith pos f [] (backTo pos (starEach args env)) (backToKw pos (keywordEach [] env))) _ _ s
  refine wpAny_bind (wpAny_mono (TE_glob (C := C) (n := n) (Q := fun d ν' => d = .val (.ref T) ∧ ν' = ν) hk hg ⟨rfl, rfl⟩ hx A env s hA R F) ?_ fun _ _ x => x)
  rintro v s₁ ⟨d, ν₁, hv, R₁, x₁, rfl, rfl⟩
  cases hv
  have F₁ := F.fro R x₁
  refine callWith_of (P := fun h => Frag.In C.K h) (by show (_ || false) = false; rw [noSt_any hst, Bool.or_false]) (fun h X => keeps_K I.keep h X) (evalArgs_any hst (wpAny_mono (h A env s₁ pos hA R₁ F₁) ?_ fun _ _ x => x))
  rintro vs s₂ ⟨ds, ν₂, hvs, R₂, x₂, hq⟩
  exact ⟨C.KIn R₂.keep, wpAny_mono (hq A s₂ vs hA R₂ (F₁.fro R₁ x₂).baseLe hvs) (fun _ _ p => (p.after x₂).after x₁) fun _ _ x => x⟩
end
end Mine

namespace Mine
open PySem PyProof.Rows PySem.W

theorem Cx.notSys (C : Cx) {a : Addr} (h : C.base.objs.size ≤ a) : (a == sysModules) = false := by
  have := C.g.lt
  have h2 : (3 : Nat) < C.base.objs.size := this
  have h3 : (1 : Nat) < a := Nat.lt_of_lt_of_le (by omega) h
  exact beq_eq_false_iff_ne.mpr fun e => by rw [e] at h3; exact absurd h3 (by decide)

def nu0 (a : Addr) (ns : List Int) : Nu := fun b => if b = a then some (.scr (ns.map .int)) else none

theorem ints_rvs {h : Heap} {vs : List Value} {ns : List Int} (x : IntsAre vs ns) : RVs h vs (ns.map .int) := by
  induction x with
  | nil => exact .nil
  | cons i t _ ih => exact .cons (.int i t) ih

/-- the call of law, from its contract -/
theorem law_call {C : Cx} {s₁ : Shared} {a fa : Addr} {vs : List Value} {ns : List Int} {n : Nat} (hb : C.base = s₁.heap) (hL : s₁.heap.get? a = some (lstObj vs 0)) (hI : IntsAre vs ns) (hg : s₁.gens = #[]) (hn : n ≤ 200)
    {c : ClaimW} {cl : Str → Option Addr} {mean : ExcName → Option Value} {args : List WData} (hr : ∀ cls, c.raises args cls = false) (hp : c.post args (.bool true) args = true)
    (h : TK C n (.ref fa) [.ref a] (nu0 a ns) (fun d _ => d = .bool true)) : codeAny (model C.prog C.w) callerA (.call (.ref fa) ⟨[.ref a], []⟩) (GoodWG c cl mean args s₁) s₁ := by
  have R : Ref C (nu0 a ns) s₁.heap := by
    refine ⟨fun b o e => hb ▸ e, fun b o e => ?_, fun b o e hs => ?_⟩
    · unfold nu0 at e; split at e
      · rename_i q; subst q; cases e; exact ⟨vs, 0, hL, ints_rvs hI⟩
      · cases e
    · unfold nu0 at e; split at e
      · cases e; exact absurd rfl (hs _)
      · cases e
  refine codeAny_mono (h callerA s₁ [.ref a] ⟨rfl, by show 1 + claimMargin + n < 990; unfold claimMargin; omega, by show 4 + 30 * n < 9800; omega⟩ R (by rw [hb]; exact Nat.le_refl _) (.cons (.ref a) .nil)) fun r s' z => GoodW.toG ?_
  cases r with
  | error e => exact z.elim
  | ok f =>
    cases f with
    | ret v =>
      obtain ⟨d, ν', rv, R', x', rfl⟩ := z
      cases rv
      obtain ⟨h', t', rfl⟩ := x'.eq
      exact ⟨.inl ⟨.bool true, .bool true, [], rfl, hr, .bool true, hp, fun _ => ⟨.nil, fun _ h => nomatch h⟩⟩, fun b o e => R'.keep b o (hb ▸ e), rfl, hg⟩
    | _ => exact z.elim
end Mine

namespace Mine
open PySem PyProof.Rows PySem.W

theorem ofString_inj {a b : String} (h : Str.ofString a = Str.ofString b) : a = b := by
  rw [Str.ofString_eq_toList, Str.ofString_eq_toList] at h
  have h1 : a.toList.map Char.toNat = b.toList.map Char.toNat := by simpa using h
  have h2 : a.toList = b.toList := by
    refine (List.map_inj_right fun x y e => ?_).mp h1
    exact Char.toNat_inj.mp e
  exact String.toList_injective h2
theorem ofString_ne {a b : String} (h : a ≠ b) : Str.ofString a ≠ Str.ofString b := fun e => h (ofString_inj e)
theorem ofString_beq {a b : String} (h : a ≠ b) : (Str.ofString a == Str.ofString b) = false := beq_eq_false_iff_ne.mpr (ofString_ne h)

theorem lk_here {l : Loc} {x : Str} {d : D} : lk ((x, d) :: l) x = some d := by simp [lk]
theorem lk_there {l : Loc} {x y : Str} {d e : D} (h : x ≠ y) (q : lk l x = some d) : lk ((y, e) :: l) x = some d := by simp [lk, h, q]
theorem lk_same {l : Loc} {x : Str} {d : D} : lk (put l x d) x = some d := by simp [lk_put]
theorem lk_other {l : Loc} {x y : Str} {d e : D} (h : x ≠ y) (q : lk l x = some d) : lk (put l y e) x = some d := by simp [lk_put, h, q]
theorem lkn_nil {x : Str} : lk [] x = none := rfl
theorem lkn_there {l : Loc} {x y : Str} {e : D} (h : x ≠ y) (q : lk l x = none) : lk ((y, e) :: l) x = none := by simp [lk, h, q]
theorem Sub_nil {l : Loc} : Sub [] l := fun x d e => by simp [lk] at e
theorem Sub_cons {l l' : Loc} {x : Str} {d : D} (h : lk l x = some d) (s : Sub l' l) : Sub ((x, d) :: l') l := fun y e q => by
  unfold lk at q
  split at q
  · rename_i z; subst z; cases q; exact h
  · exact s y e q
theorem Sub_refl {l : Loc} : Sub l l := fun _ _ h => h
theorem ite_dec {p : Prop} [Decidable p] {A B : Prop} (h1 : p → A) (h2 : ¬ p → B) : if decide p = true then A else B := by
  by_cases h : p
  · simp [h]; exact h1 h
  · simp [h]; exact h2 h
theorem ite_t {A B : Prop} (h : A) : if true = true then A else B := by simpa using h
theorem ite_f {A B : Prop} (h : B) : if false = true then A else B := by simpa using h

section
variable {C : Cx} {n : Nat} {sc : Scope} {l : Loc} {ν : Nu} {Q : D → Nu → Prop}
/-- a def of the text by its name -/
def DefN (C : Cx) (x : Str) (names : List Str) (body : List Stmt) (sc : Scope) : Prop := ∃ f, C.mg x = some (.ref f) ∧ IsDef C f names body sc
def TN (C : Cx) (n : Nat) (x : Str) (ds : List D) (ν : Nu) (Q : D → Nu → Prop) : Prop := ∀ f, C.mg x = some (.ref f) → TK C n (.ref f) ds ν Q
theorem TN_def {x : Str} {names : List Str} {body : List Stmt} {ds : List D} (I : DefN C x names body sc) (hlen : ds.length = names.length)
    (h : TSs C n sc body (names.zip ds) ν (FunK Q)) : TN C (n + 1) x ds ν Q := by
  intro f hf
  obtain ⟨f', hf', I⟩ := I
  rw [hf] at hf'; cases hf'
  exact TK_def I hlen h
def IsFn (C : Cx) (x : Str) : Prop := ∃ f, C.mg x = some (.ref f) ∧ ∃ o fd, C.K.lookup f = some o ∧ o.data = .func fd
theorem TE_callN {x : Str} {p pos : Pos} {args : List Expr} (hk : sc.names.lookup x = some .globalImplicit) (hf : IsFn C x)
    (h : TL C n sc args l ν (fun ds ν₁ => TN C n x ds ν₁ Q)) (hx : (x == ("__debug__" : Str)) = false) (hst : noSt args = true) : TE C n sc (.Call (.Name x p) args [] pos) l ν Q := by
  obtain ⟨f, hf, ho⟩ := hf
  exact TE_call hk (.inl hf) ho (fun A env s pos hA R F => wpAny_mono (h A env s pos hA R F) (fun vs s' ⟨ds, ν', a, b, c, q⟩ => ⟨ds, ν', a, b, c, TC_of (q f hf)⟩) fun _ _ x => x) hx hst
theorem TS_expr {e : Expr} {pos} {Q : Fl → Loc → Nu → Prop} (h : TE C n sc e l ν (fun _ ν₁ => Q .next l ν₁)) (hs : ∀ env, swapsWith e none pos.line env = pure false) : TS C n sc (.Expr e pos) l ν Q := by
  intro A env s hA R F
  refine wpAny_Expr_any (wpAny_mono (h A env s hA R F) ?_ fun _ _ x => x) ?_ (hs env)
  · rintro v s₁ ⟨d, ν₁, hv, R₁, x₁, hq⟩
    exact ⟨.next, l, ν₁, .next, R₁, F.fro R x₁, x₁.toFr, hq⟩
  · unfold interactive; rw [F.scope, F.kind]; rfl
theorem mg_is {x : Str} {v : Value} (e : nsIn C.K mainGlobals x = some (some v)) : C.mg x = some v := mg_of (fun a o e => C.inK a o e) C.g e
theorem mg_isNone {x : Str} (e : nsIn C.K mainGlobals x = some none) : C.mg x = none := mg_none_of (fun a o e => C.inK a o e) C.g e
theorem len1 {α : Type} {vs : List α} (h : vs.length = 1) : ∃ a, vs = [a] := List.length_eq_one_iff.mp h
theorem len2 {α : Type} {vs : List α} (h : vs.length = 2) : ∃ a b, vs = [a, b] := by
  match vs, h with | [a, b], _ => exact ⟨a, b, rfl⟩
theorem len3 {α : Type} {vs : List α} (h : vs.length = 3) : ∃ a b c, vs = [a, b, c] := by
  match vs, h with | [a, b, c], _ => exact ⟨a, b, c, rfl⟩
theorem G_blt {K' : Frag} (hK : C.K = K') {x : Str} {v : Value} (e : nsIn K' mainGlobals x = some none) (hv : bootBuiltins x = some v) (hn : x ≠ "__name__") : C.G x v := .inr ⟨mg_isNone (hK ▸ e), (C.blts x hn).trans hv⟩
theorem bb_len : bootBuiltins "len" = some (.builtin "len") := by decide +kernel
theorem bb_isinstance : bootBuiltins "isinstance" = some (.builtin "isinstance") := by decide +kernel
theorem bb_range : bootBuiltins "range" = some (.type "range") := by decide +kernel
theorem bb_int : bootBuiltins "int" = some (.type "int") := by decide +kernel
theorem bb_bool : bootBuiltins "bool" = some (.type "bool") := by decide +kernel
theorem bb_str : bootBuiltins "str" = some (.type "str") := by decide +kernel
theorem bb_tuple : bootBuiltins "tuple" = some (.type "tuple") := by decide +kernel
theorem bb_list : bootBuiltins "list" = some (.type "list") := by decide +kernel
theorem bb_min : bootBuiltins "min" = some (.builtin "min") := by decide +kernel
theorem bb_sorted : bootBuiltins "sorted" = some (.builtin "sorted") := by decide +kernel
theorem mkFn {K' : Frag} (hK : C.K = K') {x : Str} {f : Addr} {oc : Value} {od : Option Addr} {fd : FuncData} {osl : Array (Option Value)} (h1 : nsIn K' mainGlobals x = some (some (.ref f))) (h2 : K'.lookup f = some ⟨oc, od, .func fd, osl⟩) : IsFn C x :=
  ⟨f, mg_is (hK ▸ h1), _, fd, hK ▸ h2, rfl⟩
theorem mkDef {K' : Frag} (hK : C.K = K') {x : Str} {f : Addr} {oc : Value} {od : Option Addr} {osl : Array (Option Value)} {name qual : Str} {params : Arguments} {body : List Stmt} {scope : Scope} {dV kV doc pm : Value} {an : Option Addr} {cdv ct : Value} {names : List Str}
    (h1 : nsIn K' mainGlobals x = some (some (.ref f))) (h2 : K'.lookup f = some ⟨oc, od, .func (fnOf name qual params body scope dV kV doc pm an cdv ct), osl⟩) (h3 : codeIn K' cdv qual = true)
    (hb : ∀ vs : List Value, vs.length = names.length → bindArgs (fnOf name qual params body scope dV kV doc pm an cdv ct) ⟨vs, []⟩ = pure (names.zip vs)) (co : scope.isCoroutine = false) (gen : scope.isGenerator = false) (kind : scope.kind = .function) (nd : names.Nodup) (kd : ∀ x ∈ names, storable scope x) : DefN C x names body scope :=
  ⟨f, mg_is (hK ▸ h1), ⟨_, _, hK ▸ h2, rfl, rfl, rfl, rfl, rfl, rfl, codeRec_of (fun a o e => C.inK a o e) (hK ▸ h3), hb⟩, co, gen, kind, nd, kd⟩
end
end Mine

namespace Mine
open PySem PyProof.Rows PySem.W

theorem fdivN (a b : Nat) : (a : Int).fdiv (b : Int) = ((a / b : Nat) : Int) := by
  rw [Int.fdiv_eq_ediv_of_nonneg _ (by omega)]; rfl
theorem fmodN (a b : Nat) : (a : Int).fmod (b : Int) = ((a % b : Nat) : Int) := by
  rw [Int.fmod_eq_emod_of_nonneg _ (by omega)]; rfl
/-- a rest by a positive divisor -/
theorem fmod_pos (a : Int) {b : Int} (hb : 0 < b) : 0 ≤ a.fmod b ∧ a.fmod b < b := ⟨Int.fmod_nonneg_of_pos a hb, Int.fmod_lt_of_pos a hb⟩
theorem mulOk {a b : Int} (ha : a.natAbs < 2 ^ 10000) (hb : b.natAbs < 2 ^ 10000) : IntMulOk a b := by
  have key : ∀ x : Int, x.natAbs < 2 ^ 10000 → Builtin.Int.intBits x ≤ 10000 := fun x hx => by
    unfold Builtin.Int.intBits
    split
    · exact Nat.zero_le _
    · have : x.natAbs.log2 < 10000 := by
        rcases Nat.eq_zero_or_pos x.natAbs with h0 | hp
        · rw [h0]; decide
        · exact (Nat.log2_lt (Nat.ne_of_gt hp)).mpr hx
      omega
  have h1 := key a ha
  have h2 := key b hb
  have : Builtin.Int.intTooBig (Builtin.Int.intBits a + Builtin.Int.intBits b) = false := by
    unfold Builtin.Int.intTooBig
    simp only [decide_eq_false_iff_not]
    first | omega | (simp only [bitsLine]; omega)
  unfold IntMulOk
  rw [this]; simp

/-- at which place two numbers part -/
def partN (b x y : Nat) : Nat := if h : 2 ≤ b ∧ x ≠ y then partN b (x / b) (y / b) + 1 else 0
termination_by x + y
decreasing_by
  have h1 : 0 < x ∨ 0 < y := by omega
  have hx : x / b ≤ x := Nat.div_le_self _ _
  have hy : y / b ≤ y := Nat.div_le_self _ _
  rcases h1 with h1 | h1
  · have := Nat.div_lt_self h1 (show 1 < b by omega); omega
  · have := Nat.div_lt_self h1 (show 1 < b by omega); omega
theorem partN_self (b x : Nat) : partN b x x = 0 := by unfold partN; simp
theorem partN_ne {b x y : Nat} (hb : 2 ≤ b) (h : x ≠ y) : partN b x y = partN b (x / b) (y / b) + 1 := by
  conv => lhs; unfold partN
  rw [dif_pos ⟨hb, h⟩]
end Mine
namespace Mine
open PySem PyProof.Rows PySem.W
/-- all that ν knows ν' knows too -/
def Ext (ν ν' : Nu) : Prop := ∀ a o, ν a = some o → ν' a = some o
theorem Ext.refl {ν : Nu} : Ext ν ν := fun _ _ h => h
theorem Ext.trans {ν ν' ν'' : Nu} (x : Ext ν ν') (y : Ext ν' ν'') : Ext ν ν'' := fun a o h => y a o (x a o h)
theorem Ext.upd {ν ν' : Nu} {r : Addr} {o : AObj} (x : Ext ν ν') (h : ν' r = none) : Ext ν (Mine.upd ν' r o) := fun a o' e => by
  unfold Mine.upd
  rw [if_neg fun q => ?_]
  · exact x a o' e
  · have := x a o' e
    rw [q, h] at this; cases this
theorem upd_same {ν : Nu} {r : Addr} {o : AObj} : upd ν r o r = some o := if_pos rfl
theorem upd_other {ν : Nu} {r a : Addr} {o : AObj} (h : a ≠ r) : upd ν r o a = ν a := if_neg h
section
variable {C : Cx} {n : Nat} {ν : Nu} {Q : D → Nu → Prop}
theorem Ref.sub {ν ν' : Nu} {h : Heap} (R : Ref C ν' h) (x : Ext ν ν') : Ref C ν h := ⟨R.keep, fun a o e => R.at_ a o (x a o e), fun a o e => R.own a o (x a o e)⟩
theorem PostV.drop {s s' : Shared} {v : Value} {ν₀ : Nu} (h : PostV C ν s (fun d ν' => ∃ ν₀, Ext ν₀ ν' ∧ (∀ a, ν a = none → ν₀ a = none) ∧ Q d ν₀) v s') : PostV C ν s Q v s' := by
  obtain ⟨d, ν', rv, R', x', ν₀, hx, hd, q⟩ := h
  exact ⟨d, ν₀, rv, R'.sub hx, ⟨x'.eq, x'.keep, x'.alive, fun b o _ hn => hd b hn⟩, q⟩
/-- what a call has made besides is forgotten -/
theorem TN_drop {x : Str} {ds : List D} (h : TN C n x ds ν (fun d ν' => Ext ν ν' ∧ Q d ν)) : TN C n x ds ν Q := fun f hf A s vs hA R hz hv => codeAny_mono (h f hf A s vs hA R hz hv) fun r s' z => by
  cases r with
  | error e => exact z
  | ok f =>
    cases f with
    | ret v => exact PostV.drop (ν₀ := ν) (let ⟨d, ν', a, b, c, q⟩ := z; ⟨d, ν', a, b, c, ν, q.1, fun _ h => h, q.2⟩)
    | _ => exact z
end
theorem toN {a : Int} (h : 0 ≤ a) : ∃ m : Nat, a = m := ⟨a.toNat, by omega⟩
def cellD (ns : List Int) (k : Nat) : Int := ns.getD k 0
end Mine
namespace Mine
open PySem PyProof.Rows PySem.W
section
variable {C : Cx} {n : Nat} {ν : Nu} {Q : D → Nu → Prop}
theorem T2_powN {b : Int} (k : Nat) (hk : b = (k : Int)) (hk' : k ≤ 100) (h : Q (.int (10 ^ k)) ν) : T2 C n (binaryOp .Pow) (.int 10) (.int b) ν Q := by
  subst hk
  refine T2_pow (by omega) ?_ (by rw [Int.toNat_natCast]; exact h)
  have : (Builtin.Int.intBits 10 : Int) = 4 := by decide +kernel
  rw [this]; omega
end
theorem mulOk' {a b : Int} (ha : -(2 ^ 5000) < a) (ha' : a < 2 ^ 5000) (hb : -(2 ^ 5000) < b) (hb' : b < 2 ^ 5000) : IntMulOk a b := by
  have key : ∀ x : Int, -(2 ^ 5000) < x → x < 2 ^ 5000 → x.natAbs < 2 ^ 10000 := fun x h1 h2 => by
    have e : ((2 ^ 5000 : Nat) : Int) = (2 : Int) ^ 5000 := by push_cast; rfl
    have h3 : x.natAbs < 2 ^ 5000 := by
      generalize hN : (2 ^ 5000 : Nat) = N at e ⊢
      rw [← e] at h1 h2
      omega
    exact Nat.lt_of_lt_of_le h3 (Nat.pow_le_pow_right (by omega) (by omega))
  exact mulOk (key a ha ha') (key b hb hb')
end Mine
namespace Mine
open PySem PyProof.Rows PySem.W
theorem mulOk10 {a b : Int} (k m : Nat) (ha : 0 ≤ a) (ha' : a ≤ 10 ^ k) (hb : 0 ≤ b) (hb' : b ≤ 10 ^ m) (hk : k ≤ 1000 := by decide) (hm : m ≤ 1000 := by decide) : IntMulOk a b := by
  have key : ∀ (x : Int) (j : Nat), j ≤ 1000 → x ≤ 10 ^ j → x < 2 ^ 5000 := fun x j hj hx => by
    have e1 : (10 : Int) ^ j = ((10 ^ j : Nat) : Int) := by push_cast; rfl
    have e2 : ((2 ^ 5000 : Nat) : Int) = (2 : Int) ^ 5000 := by push_cast; rfl
    have h1 : (10 ^ j : Nat) ≤ 10 ^ 1000 := Nat.pow_le_pow_right (by omega) hj
    have h2 : (10 ^ 1000 : Nat) < 2 ^ 5000 := by decide +kernel
    have h3 : (10 ^ j : Nat) < 2 ^ 5000 := Nat.lt_of_le_of_lt h1 h2
    rw [← e2]
    rw [e1] at hx
    exact Int.lt_of_le_of_lt hx (Int.ofNat_lt.mpr h3)
  have neg : ∀ x : Int, 0 ≤ x → -(2 ^ 5000) < x := fun x hx => by
    have e2 : ((2 ^ 5000 : Nat) : Int) = (2 : Int) ^ 5000 := by push_cast; rfl
    have : (0 : Nat) < 2 ^ 5000 := Nat.two_pow_pos _
    rw [← e2]
    generalize (2 ^ 5000 : Nat) = N at this
    omega
  exact mulOk' (neg a ha) (key a k hk ha') (neg b hb) (key b m hm hb')
end Mine
namespace Mine
open PySem PyProof.Rows PySem.W
section
variable {C : Cx} {n : Nat} {sc : Scope} {l : Loc} {ν : Nu}
abbrev MidK (P : Loc → Nu → Prop) (Q : Fl → Loc → Nu → Prop) (fl : Fl) (l₁ : Loc) (ν₁ : Nu) : Prop := match fl with | .next => ∃ l₂, Sub l₂ l₁ ∧ P l₂ ν₁ | fl => Q fl l₁ ν₁
/-- a statement by what holds behind it -/
theorem TSs_mid {st : Stmt} {rest : List Stmt} {Q : Fl → Loc → Nu → Prop} (P : Loc → Nu → Prop) (h1 : TS C n sc st l ν (MidK P Q)) (h2 : ∀ l₁ ν₁, P l₁ ν₁ → TSs C n sc rest l₁ ν₁ Q) : TSs C n sc (st :: rest) l ν Q := by
  intro A env s hA R F
  refine wpAny_execs_cons (wpAny_mono (h1 A env s hA R F) ?_ fun _ _ x => x)
  rintro f s₁ ⟨fl, l₁, ν₁, hf, R₁, F₁, x₁, hq⟩
  cases hf with
  | next => obtain ⟨l₂, hs, hp⟩ := hq; exact wpAny_mono (h2 l₂ ν₁ hp A env s₁ hA R₁ (F₁.sub hs)) (fun _ _ p => p.after x₁) fun _ _ x => x
  | brk => exact ⟨.brk, l₁, ν₁, .brk, R₁, F₁, x₁, hq⟩
  | cont => exact ⟨.cont, l₁, ν₁, .cont, R₁, F₁, x₁, hq⟩
  | ret r => exact ⟨.ret _, l₁, ν₁, .ret r, R₁, F₁, x₁, hq⟩
end
end Mine
namespace Mine
open PySem PyProof.Rows PySem.W
section
variable {C : Cx} {n : Nat} {sc : Scope} {l l₀ : Loc} {ν : Nu}
theorem TS_sub {st : Stmt} {Q : Fl → Loc → Nu → Prop} (hs : Sub l₀ l) (h : TS C n sc st l₀ ν Q) : TS C n sc st l ν Q := fun A env s hA R F => h A env s hA R (F.sub hs)
theorem TF_sub {t : Expr} {body : List Stmt} {d : D} {Q : Fl → Loc → Nu → Prop} (hs : Sub l₀ l) (h : TF C n sc t body d l₀ ν Q) : TF C n sc t body d l ν Q := fun A env s v hA R F hv => h A env s v hA R (F.sub hs) hv
end
end Mine
namespace Mine
end Mine

namespace Mine
open PySem PyProof.Rows PySem.W
open Builtin Builtin.Str

section
variable {C : Cx} {n : Nat} {sc : Scope} {l : Loc} {ν : Nu} {Q : D → Nu → Prop}

-- for over an ascii text
-- methods of texts
structure SM (name : Str) (id : String) : Prop where
  slot : Slot "str" name id
  type : typeOf (.builtin id) = pure (.type "method_descriptor")
theorem SM_join : SM "join" "str.join" := ⟨F.slot_str_join, F.type_str_join⟩
def isS : D → Option Str
  | .str x => some x
  | _ => none
theorem TE_methS {o : Expr} {name : Str} {id : String} {apos pos : Pos} {args : List Expr} (M : SM name id)
    (h : TE C n sc o l ν (fun d ν₁ => ∃ x, isS d = some x ∧ TL C n sc args l ν₁ (fun ds ν₂ => TC C n (.builtin id) (d :: ds) ν₂ Q)))
    (ha : ∀ env whole, attributeBase o name env whole = whole) (hst : noSt args = true) (hlen : args.length < 30) (hp : (apos.endLine == pos.line) = true) : TE C n sc (.Call (.Attribute o name apos) args [] pos) l ν Q := by
  refine TE_meth (fun d ν => (isS d).map fun _ => .builtin id) ?_ ?_ (TE_mono h fun d ν' ⟨a, e, q⟩ => ⟨.builtin id, by rw [e]; rfl, q⟩) ha hst hlen hp
  · intro A s v d ν g pl Q E e R hv q
    obtain ⟨a, e1, e2⟩ := Option.map_eq_some_iff.mp e
    subst e2
    cases d <;> simp only [isS, reduceCtorEq] at e1
    cases hv with
    | str _ tk => with_reducible exact GM.of (.str _ tk) (typeIs_str _ _ _) M.slot M.type GM.noRef q
  · intro d ν g h e _
    obtain ⟨a, e1, e2⟩ := Option.map_eq_some_iff.mp e
    subst e2
    exact keep_builtin h
theorem carried_of {h : Heap} : ∀ {vs : List Value} {xs : List Str}, RVs h vs (xs.map .str) → CarriedAll vs (xs.map PyData.str)
  | _, [], r => by cases r; exact .nil
  | _, x :: xs, r => by cases r with | cons a b => cases a; exact .cons (.str _ _) (carried_of b)
theorem join_cps : ∀ cs : List Nat, Str.join (Str.ofString "") (cs.map fun c => (⟨#[c]⟩ : Str)) = ⟨cs.toArray⟩
  | [] => rfl
  | [c] => rfl
  | c :: d :: r => by
    have ih := join_cps (d :: r)
    show (⟨#[c]⟩ : Str) ++ Str.ofString "" ++ Str.join (Str.ofString "") ((d :: r).map fun c => (⟨#[c]⟩ : Str)) = _
    rw [ih]
    apply Str.ext'
    rw [Str.cps_append, Str.cps_append]
    show #[c] ++ (Str.ofString "").cps ++ (d :: r).toArray = (c :: d :: r).toArray
    have : (Str.ofString "").cps = #[] := by decide
    rw [this]; simp
theorem TC_join {a : Addr} {cs : List Nat} (e : ν a = some (.lst (cs.map fun c => .str ⟨#[c]⟩))) (hz : cs.length ≤ 100000) (h : Q (.str ⟨cs.toArray⟩) ν) : TC C n (.builtin "str.join") [.str (Str.ofString ""), .ref a] ν Q := by
  intro A s vs hA R hb hv
  have hq := RVs.cons_inv hv; clear hv; obtain ⟨_, _, rfl, hv, hr⟩ := hq
  have hq := RVs.cons_inv hr; clear hr; obtain ⟨_, _, rfl, hx, hr⟩ := hq
  have hq := RVs.nil_inv hr; clear hr; subst hq; (first | (have hq := RV.int_inv hv; clear hv; obtain ⟨_, rfl⟩ := hq) | (have hq := RV.str_inv hv; clear hv; obtain ⟨_, rfl⟩ := hq) | (have hq := RV.ref_inv hv; clear hv; subst hq) | (have hq := RV.val_inv hv; clear hv; subst hq) | (have hq := RV.bool_inv hv; clear hv; subst hq) | cases hv); (first | (have hq := RV.int_inv hx; clear hx; obtain ⟨_, rfl⟩ := hq) | (have hq := RV.str_inv hx; clear hx; obtain ⟨_, rfl⟩ := hq) | (have hq := RV.ref_inv hx; clear hx; subst hq) | (have hq := RV.val_inv hx; clear hx; subst hq) | (have hq := RV.bool_inv hx; clear hx; subst hq) | cases hx)
  obtain ⟨us, m, ho, r⟩ := R.at_ a _ e
  have r' : RVs s.heap us ((cs.map fun c => (⟨#[c]⟩ : Str)).map .str) := by rw [List.map_map]; exact r
  refine join_madeW (l := cs) (g := fun c => (⟨#[c]⟩ : Str)) 1 (items := us.toArray) ⟨_, ho, rfl, m, rfl⟩ (by simpa using carried_of r') (fun _ _ => by show 1 ≤ 1; omega) (by omega) (by decide) fun t' k => ?_
  have : Txt.join (Str.ofString "") (cs.map fun c => (⟨#[c]⟩ : Str)) = ⟨cs.toArray⟩ := (StrLaws.glued_eq_join _ _).trans (join_cps cs)
  rw [this]
  exact ⟨_, ν, .str _ _, R, Fro.toks, h⟩
theorem T2_itemS {value slice : Expr} {x : Str} {k : Nat} {c : Nat} (hd : x.cps[k]? = some c) (hk : k < 2 ^ 62) (h : Q (.str ⟨#[c]⟩) ν) (hsl : isSl slice = false) :
    T2 C n (subscriptTail value slice) (.str x) (.int k) ν Q := by
  intro A s v u hA R hz hv hu
  (first | (have hq := RV.int_inv hv; clear hv; obtain ⟨_, rfl⟩ := hq) | (have hq := RV.str_inv hv; clear hv; obtain ⟨_, rfl⟩ := hq) | (have hq := RV.ref_inv hv; clear hv; subst hq) | (have hq := RV.val_inv hv; clear hv; subst hq) | (have hq := RV.bool_inv hv; clear hv; subst hq) | cases hv); (first | (have hq := RV.int_inv hu; clear hu; obtain ⟨_, rfl⟩ := hq) | (have hq := RV.str_inv hu; clear hu; obtain ⟨_, rfl⟩ := hq) | (have hq := RV.ref_inv hu; clear hu; subst hq) | (have hq := RV.val_inv hu; clear hu; subst hq) | (have hq := RV.bool_inv hu; clear hu; subst hq) | cases hu)
  have hlt : k < x.length := by
    rcases Nat.lt_or_ge k x.cps.size with q | q
    · exact q
    · rw [Array.getElem?_eq_none q] at hd; cases hd
  refine tail_any (typeIs_str _ _ _) F.slot_str_getitem.lookup (P.getItem_str (c := c) ?_ ?_ ⟨_, ν, .str _ _, R, Fro.toks, h⟩) (subscripted_plain hsl _ _)
  · simp; omega
  · have : seqIndex? (k : Int) x.length = some k := by
      unfold seqIndex?
      simp; omega
    rw [this]; exact hd
-- slices
theorem TP_run {e : Option Expr} {Q : Option Int → Nu → Prop} {A : Around} {env : Env} {s : Shared} (h : TP C n sc e l ν Q) (hA : Aok n A) (R : Ref C ν s.heap) (F : Frm C env sc l ν s.heap) :
    wpAny (model C.prog C.w) A (evalPart e env) (fun v s' => ∃ (p : Option (Int × Tok)) (ν' : Nu), v = partValue p ∧ Ref C ν' s'.heap ∧ Fro no ν ν' s s' ∧ Q (p.map (·.1)) ν') nev s := by
  cases e with
  | none => rw [evalPart_none]; exact wpAny_pure ⟨none, ν, rfl, R, .refl, h⟩
  | some e =>
    rw [evalPart_some]
    refine wpAny_mono (h A env s hA R F) ?_ fun _ _ x => x
    rintro v s₁ ⟨d, ν₁, hv, R₁, x₁, i, rfl, q⟩
    cases hv with
    | int _ t => exact ⟨some (i, t), ν₁, rfl, R₁, x₁, q⟩
theorem isPart_of (p : Option (Int × Tok)) : IsPart (partValue p) (p.map (·.1)) := by
  cases p with
  | none => exact .none
  | some q => exact .int _ _
/-- an item by a slice of two parts -/
def TSl (C : Cx) (n : Nat) (T : String) (o : D) (lo hi : Option Int) (ν : Nu) (Q : D → Nu → Prop) : Prop :=
  ∀ A s v a p q, Aok n A → Ref C ν s.heap → C.base.objs.size ≤ s.heap.objs.size → RV s.heap v o → s.heap.get? a = some { cls := .type "slice", data := .fields #[partValue p, partValue q, .none] } → p.map (·.1) = lo → q.map (·.1) = hi →
    s.TypeIs v T ∧ wpAny (model C.prog C.w) A (getItem v (.ref a)) (PostV C ν s Q) nev s
theorem TE_slice (T : String) {id : String} {value : Expr} {lower upper : Option Expr} {p pos : Pos} (hl : typeLookup (.type T) "__getitem__" = pure (some (.builtin id)))
    (h : TE C n sc value l ν (fun o ν₁ => TP C n sc lower l ν₁ (fun lo ν₂ => TP C n sc upper l ν₂ (fun hi ν₃ => TSl C n T o lo hi ν₃ Q))))
    (ht : ∀ o r, letTemporaryGo value o r = pure ()) : TE C n sc (.Subscript value (.Slice lower upper none p) pos) l ν Q := by
  intro A env s hA R F
  refine wpAny_Subscript_Slice (T := T) hl (wpAny_mono (h A env s hA R F) ?_ fun _ _ x => x) ht
  rintro v s₁ ⟨d, ν₁, hv, R₁, x₁, q1⟩
  have F₁ := F.fro R x₁
  refine wpAny_Slice (wpAny_mono (TP_run q1 hA R₁ F₁) ?_ fun _ _ x => x)
  rintro _ s₂ ⟨p, ν₂, rfl, R₂, x₂, q2⟩
  have F₂ := F₁.fro R₁ x₂
  refine wpAny_mono (TP_run q2 hA R₂ F₂) ?_ fun _ _ x => x
  rintro _ s₃ ⟨p', ν₃, rfl, R₃, x₃, q3⟩
  have F₃ := F₂.fro R₂ x₃
  rw [evalPart_none]
  refine wpAny_pure ?_
  have x₄ : Fro no ν₃ ν₃ s₃ { s₃ with heap := s₃.heap.push { cls := .type "slice", data := .fields #[partValue p, partValue p', .none] } } := Fro.push _ _
  have R₄ : Ref C ν₃ (s₃.heap.push { cls := .type "slice", data := .fields #[partValue p, partValue p', .none] }) := R₃.push _
  obtain ⟨ty, g⟩ := q3 A { s₃ with heap := s₃.heap.push { cls := .type "slice", data := .fields #[partValue p, partValue p', .none] } } v s₃.heap.objs.size p p' hA R₄ (F₃.fro R₃ x₄).baseLe (((hv.fro R₁ x₂).fro R₂ x₃).fro R₃ x₄) (Heap.get?_push_size _ rfl) rfl rfl
  exact ⟨ty, wpAny_mono g (fun _ _ p => (((p.after x₄).after x₃).after x₂).after x₁) fun _ _ x => x⟩
theorem TSl_list {a : Addr} {ds : List D} {lo hi : Option Int} (e : seqOf (ν a) = some ds) (hz : ds.length ≤ 100000) (h1 : pos0 lo) (h2 : pos0 hi) (h : ∀ r, ν r = none → Q (.ref r) (upd ν r (.lst (cut lo hi ds)))) : TSl C n "list" (.ref a) lo hi ν Q := by
  intro A s v sa p q hA R hb hv ho hp hq
  subst hp hq
  (first | (have hq := RV.int_inv hv; clear hv; obtain ⟨_, rfl⟩ := hq) | (have hq := RV.str_inv hv; clear hv; obtain ⟨_, rfl⟩ := hq) | (have hq := RV.ref_inv hv; clear hv; subst hq) | (have hq := RV.val_inv hv; clear hv; subst hq) | (have hq := RV.bool_inv hv; clear hv; subst hq) | cases hv)
  obtain ⟨us, m, hl, r⟩ := R.seq e
  have il : s.heap.IsList a us.toArray := ⟨_, hl, rfl, m, rfl⟩
  refine ⟨il.typeIs, wpAny_getItem_list_slice il ⟨_, ho, rfl, rfl⟩ (isPart_of p) (isPart_of q) .none (by simp) ?_ (by rw [sizeLine_eq]; simp [r.length]; omega)⟩
  refine post_new (o := .lst (cut (p.map (·.1)) (q.map (·.1)) ds)) R (getNone s) R.fresh hb (fun b o e => Heap.get?_push_of_some _ e) ⟨(slicePick us.toArray (p.map (·.1)) (q.map (·.1)) none).toList, 0, ?_, (cut_vals r h1 h2).keep (TupKeep.push _)⟩ (h _ R.fresh)
  rw [Heap.get?_push_size _ rfl]; unfold lstObj; simp
end
end Mine

namespace Mine
open PySem PyProof.Rows PySem.W
theorem upd_upd {ν : Nu} {r : Addr} {o o' : AObj} : upd (upd ν r o) r o' = upd ν r o' := by
  funext a; unfold upd; split <;> rfl
theorem ite_nt {A B : Prop} (h : B) : if (!true) = true then A else B := by simpa using h
theorem ite_nf {A B : Prop} (h : A) : if (!false) = true then A else B := by simpa using h
theorem TE_sub' {C : Cx} {n : Nat} {sc : Scope} {l : Loc} {ν : Nu} {Q : D → Nu → Prop} {value slice : Expr} {pos} (h : TE C n sc value l ν (fun o ν₁ => TE C n sc slice l ν₁ (fun i ν₂ => T2 C n (subscriptTail value slice) o i ν₂ Q))) (_ : isSl slice = false) : TE C n sc (.Subscript value slice pos) l ν Q := TE_sub h
end Mine

namespace Mine
open PySem PyProof.Rows PySem.W

section
variable {C : Cx} {n : Nat} {sc : Scope} {l : Loc} {ν : Nu}

/-- the scope of a list display by a for, inside sc -/
def relS (scope sc : Scope) : Scope := { scope with names := scope.names.map fun (m, k) => if (k == .free && sc.kind == .function && sc.names.lookup m == some .cell) then (m, .cell) else (m, k) }
theorem relabel_eq {scope : Scope} {env : Env} (h : env.scope = sc) : relabel scope env = relS scope sc := by subst h; rfl
theorem relS_lookup (scope sc : Scope) (y : Str) : (relS scope sc).names.lookup y = (scope.names.lookup y).map fun k => if (k == .free && sc.kind == .function && sc.names.lookup y == some .cell) then .cell else k := by
  unfold relS
  dsimp only
  induction scope.names with
  | nil => rfl
  | cons p r ih =>
    obtain ⟨m, k⟩ := p
    rw [List.map_cons]
    by_cases hy : y = m
    · subst hy
      dsimp only
      by_cases hc : (k == NameKind.free && sc.kind == ScopeKind.function && List.lookup y sc.names == some NameKind.cell) = true
      · rw [if_pos hc]; simp only [List.lookup_cons, beq_self_eq_true, Option.map_some]; rw [if_pos hc]
      · rw [if_neg hc]; simp only [List.lookup_cons, beq_self_eq_true, Option.map_some]; rw [if_neg hc]
    · have hb : (y == m) = false := by simpa using hy
      dsimp only
      by_cases hc : (k == NameKind.free && sc.kind == ScopeKind.function && List.lookup m sc.names == some NameKind.cell) = true
      · rw [if_pos hc]; simp only [List.lookup_cons, hb]; exact ih
      · rw [if_neg hc]; simp only [List.lookup_cons, hb]; exact ih
theorem clos_ok {env : Env} {scope : Scope} (h : ∀ p ∈ scope.names, p.2 = .free → ∃ c, env.cells.lookup p.1 = some c) :
    ∃ cl, closureFor scope env = pure cl ∧ (∀ y c, cl.lookup y = some c → env.cells.lookup y = some c) ∧ ∀ y, scope.names.lookup y = some .free → ∃ c, cl.lookup y = some c := by
  have key : ∀ (names : List (Str × NameKind)) (acc : List (Str × Addr)), (∀ p ∈ names, p.2 = .free → ∃ c, env.cells.lookup p.1 = some c) → (∀ y c, acc.lookup y = some c → env.cells.lookup y = some c) →
      ∃ cl, (forIn names acc fun (p : Str × NameKind) cs => (match p with | (name, kind) => if (kind == .free) = true then cellOf env name >>= fun a => pure (ForInStep.yield ((name, a) :: cs)) else pure (ForInStep.yield cs)) : Sem (List (Str × Addr))) = pure cl ∧
        (∀ y c, cl.lookup y = some c → env.cells.lookup y = some c) ∧ ∀ y, (names.lookup y = some .free ∨ ∃ c, acc.lookup y = some c) → ∃ c, cl.lookup y = some c := by
    intro names
    induction names with
    | nil => intro acc _ ha; exact ⟨acc, rfl, ha, fun y hy => hy.elim (fun q => by simp at q) id⟩
    | cons p r ih =>
      intro acc hn ha
      obtain ⟨m, k⟩ := p
      rw [List.forIn_cons]
      by_cases hk : k = .free
      · subst hk
        obtain ⟨c, hc⟩ := hn _ (List.mem_cons_self ..) rfl
        dsimp only at hc
        obtain ⟨cl, e, a, b⟩ := ih ((m, c) :: acc) (fun p hp => hn p (List.mem_cons_of_mem _ hp)) (fun y c' e => by
          by_cases hy : y = m
          · subst hy; simp at e; subst e; exact hc
          · have hb : (y == m) = false := by simpa using hy
            simp [List.lookup_cons, hb] at e; exact ha y c' e)
        refine ⟨cl, ?_, a, fun y hy => b y ?_⟩
        · show (cellOf env m >>= _) >>= _ = _
          unfold cellOf
          rw [hc]
          exact e
        · by_cases hy' : y = m
          · subst hy'; exact .inr ⟨c, by simp⟩
          · have hb : (y == m) = false := by simpa using hy'
            simp only [List.lookup_cons, hb] at hy ⊢
            exact hy
      · have hb : (k == NameKind.free) = false := by simpa using hk
        obtain ⟨cl, e, a, b⟩ := ih acc (fun p hp => hn p (List.mem_cons_of_mem _ hp)) ha
        refine ⟨cl, ?_, a, fun y hy => b y ?_⟩
        · dsimp only
          rw [hb]
          exact e
        · by_cases hy' : y = m
          · subst hy'; exact hy.elim (fun q => by simp at q; exact absurd q hk) .inr
          · have hb : (y == m) = false := by simpa using hy'
            simp only [List.lookup_cons, hb] at hy
            exact hy
  obtain ⟨cl, e, a, b⟩ := key scope.names [] h (fun y c e => by simp at e)
  refine ⟨cl, ?_, a, fun y hy => b y (.inl hy)⟩
  unfold closureFor
  exact (congrArg (fun m : Sem (List (Str × Addr)) => m >>= fun cs => pure cs) e).trans rfl

theorem Ref.keepAll {h h' : Heap} (R : Ref C ν h) (k : ∀ b o, h.get? b = some o → h'.get? b = some o) : Ref C ν h' :=
  ⟨fun b o e => k b o (R.keep b o e), fun a o e => by
    obtain ⟨ob, hob, _⟩ := (R.at_ a o e).get
    exact (R.at_ a o e).keep (fun a o e _ => k a o e) ((k _ _ hob).trans hob.symm), R.own⟩
theorem Fro.thenOwn {own : Addr → Prop} {ν₁ ν₂ : Nu} {s s₁ s₂ : Shared} (x : Fro no ν ν₁ s s₁) (y : Fro own ν₁ ν₂ s₁ s₂) (h : ∀ b o, own b → s.heap.get? b = some o → False) : Fro no ν ν₂ s s₂ := by
  obtain ⟨⟨h1, t1, rfl⟩, a1, a2, a3⟩ := x
  obtain ⟨⟨h2, t2, rfl⟩, b1, b2, b3⟩ := y
  exact ⟨⟨h2, t2, rfl⟩, fun b o e hn _ => b1 b o (a1 b o e hn id) (a3 b o e hn) fun q => h b o q e, fun b o e hn => let ⟨o', e'⟩ := a2 b o e hn; b2 b o' e' (a3 b o e hn), fun b o e hn => let ⟨o', e'⟩ := a2 b o e hn; b3 b o' e' (a3 b o e hn)⟩

/-- a local name takes a value -/
theorem store_local {A : Around} {env : Env} {s : Shared} {x : Str} {v : Value} {d : D} {Q : Unit → Shared → Prop} {E : Value → Shared → Prop} {M : Model} (R : Ref C ν s.heap) (F : Frm C env sc l ν s.heap) (hx : sc.names.lookup x = some .local) (hv : RV s.heap v d)
    (h : ∀ s', Ref C ν s'.heap → Frm C env sc (put l x d) ν s'.heap → Fro (fun b => b = env.locals) ν ν s s' → Q () s') : wpAny M A (storeName env x v) Q E s := by
  have hk : env.scope.kind = .function := F.scope ▸ F.kind
  obtain ⟨m, hn, hm⟩ := F.ns
  refine wpAny_storeName_local (by unfold Env.kindOf; rw [F.scope]; exact hx) hn (fun h' hn' sb => ?_) (by rw [hk]; rfl)
  have k : TupKeep s.heap h' := fun a o e hi => (sb.2 a fun q => F.notTup a o (.inl q) e hi).trans e
  have R' : Ref C ν h' := ⟨fun b o e => (sb.2 b (Nat.ne_of_lt (Nat.lt_of_lt_of_le (Heap.lt_size e) F.above))).trans (R.keep b o e), fun a o e => (R.at_ a o e).keep k (sb.2 a fun q => by rw [q, F.nuL] at e; cases e), R.own⟩
  have X' : Fro (fun b => b = env.locals) ν ν s { s with heap := h', toks := s.toks + 1 } := ⟨⟨h', _, rfl⟩, fun b o e _ ho => (sb.2 b ho).trans e, fun b o e _ => if q : b = env.locals then q ▸ (let ⟨o, _, _, e, _⟩ := hn'; ⟨o, e⟩) else ⟨o, (sb.2 b q).trans e⟩, fun _ _ _ q => q⟩
  refine h _ R' ⟨F.scope, F.kind, F.glob, F.blt, ⟨_, hn', fun y e h1 h2 => ?_⟩, fun y c hc => ?_, fun y e h1 => ?_, F.cells, F.nuL, F.nuC, F.apart, F.above, F.aboveC⟩ X'
  · rw [lk_put] at h1
    by_cases hy : y = x
    · subst hy; rw [if_pos rfl] at h1; cases h1; exact ⟨v, if_pos rfl, hv.keep k⟩
    · rw [if_neg hy] at h1; obtain ⟨u, e1, e2⟩ := hm y e h1 h2; exact ⟨u, (if_neg hy).trans e1, e2.keep k⟩
  · obtain ⟨u, ⟨o, ho, hd⟩, r⟩ := F.cell y c hc
    refine ⟨u, ⟨o, (sb.2 c (F.neC hc)).trans ho, hd⟩, fun e h1 h2 => ?_⟩
    rw [lk_put] at h1
    by_cases hy : y = x
    · subst hy; exact absurd hx h2
    · rw [if_neg hy] at h1; obtain ⟨z, e1, e2⟩ := r e h1 h2; exact ⟨z, e1, e2.keep k⟩
  · rw [lk_put] at h1
    by_cases hy : y = x
    · subst hy; exact .inl hx
    · rw [if_neg hy] at h1; exact F.kinds y e h1
/-- a target of local names -/
def TGl (C : Cx) (n : Nat) (sc : Scope) (t : Expr) (d : D) (l : Loc) (ν : Nu) (Q : Loc → Prop) : Prop :=
  ∀ A env s v, Aok n A → Ref C ν s.heap → Frm C env sc l ν s.heap → RV s.heap v d → wpAny (model C.prog C.w) A (assign t env v) (fun _ s' => ∃ l', Ref C ν s'.heap ∧ Frm C env sc l' ν s'.heap ∧ Fro (fun b => b = env.locals) ν ν s s' ∧ Q l') nev s
theorem TGl_name {x : Str} {pos} {d : D} {Q : Loc → Prop} (hx : sc.names.lookup x = some .local) (h : Q (put l x d)) : TGl C n sc (.Name x pos) d l ν Q := fun _ _ _ _ _ R F hv =>
  wpAny_assign_Name (store_local R F hx hv fun _ R' F' X' => ⟨_, R', F', X', h⟩)
def TIfs (C : Cx) (n : Nat) (sc : Scope) (ifs : List Expr) (l : Loc) (ν : Nu) (Q : Bool → Nu → Prop) : Prop :=
  match ifs with
  | [] => Q true ν
  | [c] => TB C n sc c l ν Q
  | _ => False
theorem TIfs_run {ifs : List Expr} {Q : Bool → Nu → Prop} (h : TIfs C n sc ifs l ν Q) {A : Around} {env : Env} {s : Shared} (hA : Aok n A) (R : Ref C ν s.heap) (F : Frm C env sc l ν s.heap) {E : Value → Shared → Prop} :
    wpAny (model C.prog C.w) A (forIn ifs true fun c r => if r = true then do let ok ← isTrue c env (eval c env); pure (ForInStep.yield ok) else pure (ForInStep.yield r)) (PostB C ν s Q) E s := by
  match ifs, h with
  | [], h => exact wpAny_tests_nil (postB_here R h)
  | [c], h => exact wpAny_tests_one (wpAny_mono (h A env s hA R F) (fun _ _ x => x) fun _ _ x => x.elim)

/-- what can be iterated -/
def Itb (C : Cx) (n : Nat) (d : D) (ν : Nu) (N : Nat) (item : Nat → D) : Prop :=
  ∃ src : Nu → Prop, (∀ r o, ν r = none → src (upd ν r o)) ∧ ∀ A s v, Aok n A → Ref C ν s.heap → RV s.heap v d → ∃ At : Nat → Obj → Prop, (∀ I, ItOk C I N item src At) ∧
    (∀ (A : Around) (s : Shared) (I : Addr) (o : Obj) (Q : Value → Shared → Prop) (E : Value → Shared → Prop), s.heap.get? I = some o → At 0 o → Q (.ref I) s → wpAny (model C.prog C.w) A (pyIter (.ref I)) Q E s) ∧
    ∀ (Q : Value → Shared → Prop) (E : Value → Shared → Prop), (∀ o, o.isFreed = false → At 0 o → Q (.ref s.heap.objs.size) { s with heap := s.heap.push o }) → wpAny (model C.prog C.w) A (pyIter v) Q E s
theorem Itb_list {a : Addr} {ds : List D} (hs : seqOf (ν a) = some ds) : Itb C n (.ref a) ν ds.length (fun i => ds.getD i .none) := by
  refine ⟨fun ν => seqOf (ν a) = some ds, fun r o hr => ?_, fun A s v hA R hv => ⟨lstIter a, fun I => itOk_list, ?_, ?_⟩⟩
  · have ne : a ≠ r := fun q => by subst q; rw [hr] at hs; cases hs
    show seqOf (upd ν r o a) = some ds
    rw [upd_other ne]; exact hs
  · intro A s I o Q E ho hAt q
    exact wpAny_pyIter_listiter (l := a) (i := 0) ⟨o, ho, hAt.1, hAt.2⟩ q
  · intro Q E h
    cases hv
    obtain ⟨vs, m, e, r⟩ := R.seq hs
    exact wpAny_pyIter_list (items := vs.toArray) ⟨_, e, rfl, m, rfl⟩ (h _ rfl ⟨rfl, rfl⟩)
theorem Itb_rng {m : Int} (hm : -(2 ^ 62) ≤ m) (hm' : m < 2 ^ 62) : Itb C n (.rng m) ν m.toNat (fun i => .int (i : Int)) := by
  refine ⟨fun _ => True, fun _ _ _ => trivial, fun A s v hA R hv => ⟨rngIter m.toNat, fun I => itOk_rng, ?_, ?_⟩⟩
  · intro A s I o Q E ho hAt q
    subst hAt
    exact wpAny_pyIter_rangeiter ho q
  · intro Q E h
    cases hv with
    | rng e =>
    have sm := small_one (a := 0) (b := m) (by decide) (by decide) hm hm'
    refine wpAny_pyIter_range e sm ?_
    have e3 : Builtin.Range.rangeSize 0 m 1 = ((m.toNat : Nat) : Int) := by rw [rangeSize_one]; split <;> omega
    rw [e3]
    exact h _ rfl (by unfold rngIter; simp)

theorem compLoop_mine {A : Around} {R : Result → Shared → Prop} {s : Shared} {elt target iter : Expr} {ifs : List Expr} {scope : Scope} {pos : Pos} {it acc : Value} {env : Env} (I : Nat → Shared → Prop)
    (turn : ∀ k s, I k s → wpAny (model C.prog C.w) A (pyNext it) (fun r s₁ => match r with
      | none => R (.ok .next) s₁
      | some v => wpAny (model C.prog C.w) A (letOwnedTupleGo target it v) (fun _ s₁' => wpAny (model C.prog C.w) A (assign target env v) (fun _ s₂ =>
          wpAny (model C.prog C.w) A (forIn ifs true fun c r => if r = true then do let ok ← isTrue c env (eval c env); pure (ForInStep.yield ok) else pure (ForInStep.yield r)) (fun ok s₃ =>
            if ok = true then wpAny (model C.prog C.w) A (eval elt env) (fun x s₄ =>
              wpAny (model C.prog C.w) A (call (.builtin "list.append") [acc, x]) (fun _ s₅ => ∃ m, m < k ∧ I m s₅) nev s₄) nev s₃
            else ∃ m, m < k ∧ I m s₃) nev s₂) nev s₁') nev s₁) nev s)
    (k : Nat) (h : I k s) : codeAny (model C.prog C.w) A (.compLoop (.ListComp elt [⟨target, iter, ifs, 0⟩] scope pos) 0 it acc env) R s := by
  refine codeAny_loop rfl I (fun k s hI => ?_) k h
  show wpAny _ A ((compTurn (.ListComp elt [⟨target, iter, ifs, 0⟩] scope pos) 0 it acc env).onRaise (fun x => do noteFrame x env; theTreesLotGoes x)) _ _ s
  refine wpAny_noted ?_
  rw [compTurn_list]
  refine wpAny_bind (wpAny_standAt (wpAny_bind (wpAny_mono (turn k s hI) (fun r s₁ h₁ => ?_) fun _ _ h' => h'.elim)))
  cases r with
  | none => exact wpAny_pure h₁
  | some v =>
    refine wpAny_bind (wpAny_mono h₁ (fun _ s₁' h₁' => ?_) fun _ _ h' => h'.elim)
    refine wpAny_bind (wpAny_mono h₁' (fun _ s₂ h₂ => wpAny_bind (wpAny_mono h₂ (fun ok s₃ h₃ => ?_) fun _ _ h' => h'.elim)) fun _ _ h' => h'.elim)
    cases ok with
    | false => exact wpAny_pure ⟨rfl, h₃⟩
    | true =>
      exact wpAny_bind (wpAny_bind (wpAny_mono h₃ (fun x s₄ h₄ => wpAny_bind (wpAny_mono h₄ (fun _ s₅ h₅ => wpAny_pure (wpAny_pure ⟨rfl, h₅⟩)) fun _ _ h' => h'.elim)) fun _ _ h' => h'.elim))

inductive CoI (C : Cx) (cenv : Env) (sc : Scope) (lc : Loc) (ν₁ : Nu) (s₁ : Shared) (I : Addr) (N : Nat) (At : Nat → Obj → Prop) (g : Nat → Option D) (k : Nat) (s' : Shared) : Prop
  | mk (i : Nat) (o : Obj) (hk : k = N - i) (hi : i ≤ N) (R : Ref C (upd ν₁ (I + 1) (.lst ((List.range i).filterMap g))) s'.heap) (F : Frm C cenv sc lc (upd ν₁ (I + 1) (.lst ((List.range i).filterMap g))) s'.heap) (hI : s'.heap.get? I = some o) (hA : At i o) (x : Fro no ν₁ (upd ν₁ (I + 1) (.lst ((List.range i).filterMap g))) s₁ s') : CoI C cenv sc lc ν₁ s₁ I N At g k s'
/-- a list of what a for yields -/
theorem TE_comp {elt target iter : Expr} {ifs : List Expr} {scope : Scope} {pos} {Q : D → Nu → Prop} (lc : Loc)
    (hlc : ∀ y d, lk lc y = some d → lk l y = some d ∧ scope.names.lookup y = some .free)
    (hcell : ∀ y ∈ scope.names, y.2 ≠ .cell) (hfree : ∀ y ∈ scope.names, y.2 = .free → sc.names.lookup y.1 = some .cell) (hkind : scope.kind = .function)
    (hnames : ∀ y ∈ scope.names, y.2 = .local → scope.names.lookup y.1 = some .local)
    (h : TE C n sc iter l ν (fun d ν₁ => ∃ N item, Itb C n d ν₁ N item ∧ N ≤ 100000 ∧ ∃ g : Nat → Option D,
      (∀ i, i < N → ∀ r xs, ν₁ r = none → TGl C n (relS scope sc) target (item i) lc (upd ν₁ r (.lst xs)) (fun l₁ => Sub lc l₁ ∧ TIfs C n (relS scope sc) ifs l₁ (upd ν₁ r (.lst xs)) (fun b ν₂ => ν₂ = upd ν₁ r (.lst xs) ∧
        if b = true then TE C n (relS scope sc) elt l₁ (upd ν₁ r (.lst xs)) (fun y ν₃ => ν₃ = upd ν₁ r (.lst xs) ∧ g i = some y) else g i = none))) ∧
      ∀ r, ν₁ r = none → Q (.ref r) (upd ν₁ r (.lst ((List.range N).filterMap g)))))
    (hs : ∀ env x, foldedSetIterable iter env x = pure x) : TE C n sc (.ListComp elt [⟨target, iter, ifs, 0⟩] scope pos) l ν Q := by
  intro A env s hA R F
  rw [eval_ListComp]
  obtain ⟨cl, hcl, c1, c2⟩ := clos_ok (env := env) (scope := scope) (fun p hp hk => F.cells p.1 (hfree p hp hk))
  refine wpAny_comprehension_free (use := none) rfl (hs env) hcl hkind hnames (wpAny_mono (h A env s hA R F) ?_ fun _ _ x => x)
  rintro v s₁ ⟨d, ν₁, hv, R₁, x₁, N, item, ⟨src, hsrc, hit⟩, hN, g, turn, fin⟩
  have F₁ := F.fro R x₁
  obtain ⟨At, W, self, it⟩ := hit A s₁ v hA R₁ hv
  refine it _ _ fun o hfr hAt => ?_
  refine wpAny_newObj_type (wpAny_newFunctionEnv hcell (by intro y hy; simp at hy) (fun h₁ hns hsb => ?_) hkind)
  dsimp only at hns hsb ⊢
  generalize hI : s₁.heap.objs.size = I at *
  generalize hH1 : s₁.heap.push o = H1 at *
  have sI : H1.objs.size = I + 1 := by rw [← hH1, Heap.size_push, hI]
  generalize hH2 : H1.push { cls := .type "list", dict := none, data := .seq ([] : List Value).toArray } = H2 at *
  have sD : H2.objs.size = I + 2 := by rw [← hH2, Heap.size_push, sI]
  have gI : H1.get? I = some o := by rw [← hH1, ← hI]; exact Heap.get?_push_size _ hfr
  have R₂ : Ref C ν₁ H1 := hH1 ▸ R₁.push o
  have hz : C.base.objs.size ≤ I := hI ▸ F₁.baseLe
  have R₃ : Ref C (upd ν₁ (I + 1) (.lst [])) H2 := by
    have := R₂.alloc (o := .lst []) (ob := { cls := .type "list", dict := none, data := .seq ([] : List Value).toArray }) ⟨[], 0, Heap.get?_push_size _ rfl, .nil⟩ (by rw [sI]; omega)
    rw [sI, hH2] at this; exact this
  rw [sD] at hns hsb
  rw [sD, sI]
  have old2 : ∀ b o, H2.get? b = some o → h₁.get? b = some o := fun b o e => hsb.extBut b o (Nat.ne_of_lt (Nat.lt_of_lt_of_eq (Heap.lt_size e) sD)) (Heap.get?_push_of_some _ e)
  have old1 : ∀ b o, H1.get? b = some o → h₁.get? b = some o := fun b o e => old2 b o (hH2 ▸ Heap.get?_push_of_some _ e)
  have old0 : ∀ b o, s₁.heap.get? b = some o → h₁.get? b = some o := fun b o e => old1 b o (hH1 ▸ Heap.get?_push_of_some _ e)
  have dead : ∀ b, I ≤ b → s₁.heap.get? b = none := fun b hb => by
    cases q : s₁.heap.get? b with
    | none => rfl
    | some o => exact absurd (Heap.lt_size q) (by rw [hI]; exact Nat.not_lt.mpr hb)
  have nuN : ∀ b, I ≤ b → ν₁ b = none := fun b hb => by
    cases q : ν₁ b with
    | none => rfl
    | some o => exact absurd (R₁.at_ _ _ q).lt (by rw [hI]; exact Nat.not_lt.mpr hb)
  have R₄ : Ref C (upd ν₁ (I + 1) (.lst [])) h₁ := R₃.keepAll old2
  have nuR : ∀ (xs : List D) b, I ≤ b → b ≠ I + 1 → upd ν₁ (I + 1) (.lst xs) b = none := fun xs b hb hne => by rw [upd_other hne]; exact nuN b hb
  obtain ⟨cenv, hce⟩ : ∃ e, e = compEnvC scope cl (I + 2) env := ⟨_, rfl⟩
  have eL : cenv.locals = I + 2 := by rw [hce]; rfl
  have eS : cenv.scope = relS scope sc := by rw [hce]; exact relabel_eq F.scope
  have eG : cenv.globals = mainGlobals := by rw [hce]; exact F.glob
  have eC : cenv.cells = cl := by rw [hce]; rfl
  have eB : cenv.builtins = builtinsNs := by rw [hce]; exact F.blt
  have lcs : ∀ y d, lk lc y = some d → (relS scope sc).names.lookup y = some .cell ∧ ∃ c, cl.lookup y = some c := fun y d e => by
    obtain ⟨e1, e2⟩ := hlc y d e
    refine ⟨?_, c2 y e2⟩
    rw [relS_lookup, e2]
    have : sc.names.lookup y = some .cell := by
      have hm : (y, NameKind.free) ∈ scope.names := mem_of_lookup e2
      exact hfree _ hm rfl
    simp [this, F.kind]
  have F₄ : ∀ xs, Frm C cenv (relS scope sc) lc (upd ν₁ (I + 1) (.lst xs)) h₁ := fun xs => by
    refine ⟨eS, hkind, eG, eB, ⟨_, eL ▸ hns, fun y d e hk => ?_⟩, fun y c hc => ?_, fun y d e => .inr ⟨.inl (lcs y d e).1, eC ▸ (lcs y d e).2⟩, fun y hy => ?_, by rw [eL]; exact nuR xs _ (by omega) (by omega), fun y c hc => ?_, fun y z c h1 h2 => ?_, by rw [eL]; omega, fun y c hc => ?_⟩
    · rw [(lcs y d e).1] at hk; cases hk
    · rw [eC] at hc
      obtain ⟨v, ⟨oc, hoc, hdc⟩, q⟩ := F₁.cell y c (c1 y c hc)
      refine ⟨v, ⟨oc, old0 _ _ hoc, hdc⟩, fun d e _ => ?_⟩
      obtain ⟨e1, e2⟩ := hlc y d e
      have hc' : sc.names.lookup y = some .cell := hfree _ (mem_of_lookup e2) rfl
      obtain ⟨u, e3, e4⟩ := q d e1 (by rw [hc']; simp)
      exact ⟨u, e3, e4.keep fun a o e _ => old0 a o e⟩
    · rw [eC]
      rw [relS_lookup] at hy
      cases q : scope.names.lookup y with
      | none => rw [q] at hy; cases hy
      | some k =>
        rw [q] at hy
        by_cases hk : k = .free
        · subst hk; exact c2 y q
        · exact absurd (show k = .cell by simpa [hk] using hy) (hcell _ (mem_of_lookup q))
    · rw [eC] at hc
      rw [upd_other]
      · exact F₁.nuC y c (c1 y c hc)
      · exact Nat.ne_of_lt (Nat.lt_succ_of_lt (Nat.lt_of_lt_of_eq (F₁.ltC (c1 y c hc)) hI))
    · rw [eC] at h1 h2; exact F₁.apart y z c (c1 y c h1) (c1 z c h2)
    · rw [eC] at hc; exact F₁.aboveC y c (c1 y c hc)
  have nfI : ¬ fr cenv I := by
    rintro (q | ⟨y, hy⟩)
    · rw [eL] at q; exact Nat.ne_of_lt (Nat.lt_add_of_pos_right (by decide : 0 < 2)) q
    · rw [eC] at hy; exact absurd (F₁.ltC (c1 y I hy)) (by rw [hI]; exact Nat.lt_irrefl _)
  have dI : s₁.heap.get? I = none := dead I (Nat.le_refl _)
  have loop : codeAny (model C.prog C.w) A (.compLoop (.ListComp elt [⟨target, iter, ifs, 0⟩] scope pos) 0 (.ref I) (.ref (I + 1)) cenv) (compPost (model C.prog C.w) A nev none (PostV C ν s Q) (.ref (I + 1)) (I + 2)) { s₁ with heap := h₁, toks := s₁.toks + ([] : List (Str × Value)).length } := by
    refine compLoop_mine (C := C) (CoI C cenv (relS scope sc) lc ν₁ s₁ I N At g) ?_ N ⟨0, o, by omega, Nat.zero_le _, R₄, F₄ [], old1 _ _ gI, hAt, ⟨⟨_, _, rfl⟩, fun b o e _ _ => old0 b o e, fun b o e _ => ⟨o, old0 b o e⟩, fun b o e hn => ?_⟩⟩
    rotate_left
    · rw [upd_other]
      · exact hn
      · exact Nat.ne_of_lt (Nat.lt_succ_of_lt (Nat.lt_of_lt_of_eq (Heap.lt_size e) hI))
    rintro k s' ⟨i, oi, rfl, hi, R', F', gI', hAt', X'⟩
    have nI : upd ν₁ (I + 1) (.lst ((List.range i).filterMap g)) I = none := nuR _ I (Nat.le_refl _) (by omega)
    have nt : ∀ o, s'.heap.get? I = some o → ¬ Imm o := fun o e => by rw [gI'] at e; cases e; exact (W I).tup _ _ hAt'
    by_cases hlt : i < N
    · refine (W I).next A i s' oi _ _ _ hA.1 hlt R' gI' hAt' (hsrc _ _ (nuN _ (by omega))) fun v h' tk o' hv' kk gI2 hAt2 => ?_
      have R2 := R'.sameBut kk nI hz nt
      have F2 := F'.sameBut kk nfI nt
      have X2 : Fro no ν₁ _ s₁ { s' with heap := h', toks := tk } := X'.iter dI kk
      refine (W I).own A _ (i + 1) _ o' _ _ target v gI2 hAt2 ?_
      refine wpAny_mono (turn i hlt (I + 1) ((List.range i).filterMap g) (nuN _ (by omega)) A cenv { s' with heap := h', toks := tk } v hA R2 F2 hv') ?_ fun _ _ x => x
      rintro _ s3 ⟨l3, R3, F3, X3, hsub, q3⟩
      have X3' := X2.thenOwn X3 (fun b o q e => by rw [q, eL, dead _ (by omega)] at e; cases e)
      have gI3 : s3.heap.get? I = some o' := X3.keep I o' gI2 nI (fun q => Nat.ne_of_lt (Nat.lt_add_of_pos_right (by decide : 0 < 2)) (q.trans eL))
      refine wpAny_mono (TIfs_run q3 hA R3 F3) ?_ fun _ _ x => x
      rintro b s4 ⟨_, R4, X4, rfl, q4⟩
      have F4 := F3.fro R3 X4
      have gI4 := X4.keep I o' gI3 nI id
      cases b with
      | false =>
        simp only [Bool.false_eq_true, if_false] at q4 ⊢
        have e5 : (List.range (i + 1)).filterMap g = (List.range i).filterMap g := by rw [List.range_succ, List.filterMap_append]; simp [q4]
        refine ⟨N - (i + 1), by omega, i + 1, o', rfl, hlt, ?_, ?_, gI4, hAt2, ?_⟩
        · rw [e5]; exact R4
        · rw [e5]; exact F4.sub hsub
        · rw [e5]; exact X3'.trans X4
      | true =>
        simp only [if_true] at q4 ⊢
        refine wpAny_mono (q4 A cenv s4 hA R4 F4) ?_ fun _ _ x => x
        rintro y s5 ⟨dy, _, hy, R5, X5, rfl, q5⟩
        have F5 := F4.fro R4 X5
        have gI5 := X5.keep I o' gI4 nI id
        have len : ((List.range i).filterMap g).length ≤ 100000 := by
          have := List.length_filterMap_le g (List.range i)
          simp at this; omega
        refine wpAny_mono (TC_append (C := C) (n := n) (Q := fun _ ν' => ν' = upd ν₁ (I + 1) (.lst ((List.range i).filterMap g ++ [dy]))) upd_same len upd_upd A s5 [.ref (I + 1), y] hA R5 F5.baseLe (.cons (.ref _) (.cons hy .nil))) ?_ fun _ _ x => x
        rintro _ s6 ⟨_, _, _, R6, X6, rfl⟩
        have e6 : (List.range (i + 1)).filterMap g = (List.range i).filterMap g ++ [dy] := by rw [List.range_succ, List.filterMap_append]; simp [q5]
        refine ⟨N - (i + 1), by omega, i + 1, o', rfl, hlt, ?_, ?_, X6.keep I o' gI5 nI id, hAt2, ?_⟩
        · rw [e6]; exact R6
        · rw [e6]; exact (F5.fro R5 X6).sub hsub
        · rw [e6]; exact ((X3'.trans X4).trans X5).trans X6
    · have hiN : i = N := by omega
      subst hiN
      refine (W I).done A s' oi _ _ _ hA.1 R' gI' hAt' (hsrc _ _ (nuN _ (by omega))) fun h' tk kk => ?_
      have R2 := R'.sameBut kk nI hz nt
      have F2 := F'.sameBut kk nfI nt
      have X2 : Fro no ν₁ _ s₁ { s' with heap := h', toks := tk } := X'.iter dI kk
      obtain ⟨m2, hn2, _⟩ := F2.ns
      refine ⟨m2, eL ▸ hn2, fun h'' sb => ?_⟩
      have nt2 : ∀ o, h'.get? (I + 2) = some o → ¬ Imm o := fun o e => F2.notTup _ o (.inl eL.symm) e
      have k2 : ∀ b o, b ≠ I + 2 → h'.get? b = some o → h''.get? b = some o := fun b o hb e => (sb.2 b hb).trans e
      refine PostV.after x₁ ⟨.ref (I + 1), _, .ref _, R2.sameBut k2 (nuR _ _ (by omega) (by omega)) (by omega) nt2, X2.iter (dead _ (by omega)) k2, fin _ (nuN _ (by omega))⟩
  show codeAny _ _ (.compStart _ 0 (.ref I) (.ref (I + 1)) (compEnvC scope cl (I + 2) env)) (compPost (model C.prog C.w) A nev none (PostV C ν s Q) (.ref (I + 1)) (I + 2)) _
  rw [← hce]
  exact codeAny_compStart_list loop (self _ _ I o _ _ (old1 _ _ gI) hAt loop)
end
end Mine

namespace Mine
open PySem PyProof.Rows PySem.W

section
variable {C : Cx} {n : Nat} {sc : Scope} {l : Loc} {ν : Nu} {Q : D → Nu → Prop}

theorem empty_of {K : Type} [DecidableEq K] {knd : KeyKind C.prog C.w K} {h : Heap} : (h.push { cls := .type "dict", data := .dict #[] }).DictOf knd h.objs.size [] :=
  ⟨_, #[], _, Heap.get?_push_size _ rfl, ⟨rfl, rfl, rfl⟩, rfl, fun e he => by simp at he, .nil, by simp⟩
theorem TE_dictI {pos} (h : ∀ r, ν r = none → Q (.ref r) (upd ν r (.dI []))) : TE C n sc (.Dict [] [] pos) l ν Q := by
  intro A env s hA R F
  refine wpAny_Dict_empty ?_
  exact post_new (o := .dI []) R (getNone s) R.fresh F.baseLe (fun b o e => Heap.get?_push_of_some _ e) ⟨[], empty_of, .nil⟩ (h _ R.fresh)
theorem isSome_at {K : Type} [DecidableEq K] {h : Heap} {r : List (K × Value)} {s : List (K × D)} (x : KVs h r s) (k : K) : (valueAt r k).isSome = (valAt s k).isSome := by
  cases q : valAt s k with
  | none => rw [x.at_none q]; rfl
  | some d => obtain ⟨v, hv, _⟩ := x.at_some q; rw [hv]; rfl
theorem T2_inI {a : Addr} {k : Int} {es : List (Int × D)} (e : ν a = some (.dI es)) (h : Q (.bool (valAt es k).isSome) ν) : T2 C n (compareOp .In) (.int k) (.ref a) ν Q := by
  intro A s v u hA R hz hv hu; (first | (have hq := RV.int_inv hv; clear hv; obtain ⟨_, rfl⟩ := hq) | (have hq := RV.str_inv hv; clear hv; obtain ⟨_, rfl⟩ := hq) | (have hq := RV.ref_inv hv; clear hv; subst hq) | (have hq := RV.val_inv hv; clear hv; subst hq) | (have hq := RV.bool_inv hv; clear hv; subst hq) | cases hv); (first | (have hq := RV.int_inv hu; clear hu; obtain ⟨_, rfl⟩ := hq) | (have hq := RV.str_inv hu; clear hu; obtain ⟨_, rfl⟩ := hq) | (have hq := RV.ref_inv hu; clear hu; subst hq) | (have hq := RV.val_inv hu; clear hu; subst hq) | (have hq := RV.bool_inv hu; clear hu; subst hq) | cases hu)
  obtain ⟨kvs, hD, hK⟩ := R.at_ a _ e
  refine wpAny_in_of (knd := intKind C.prog C.w) (k := k) (by simp [intKind, Value.isInt]) (C.notSys (R.own a _ e fun _ => nofun)) hD.mapOf ?_
  rw [isSome_at hK]; exact ⟨_, ν, .bool _, R, Fro.toks, h⟩
theorem T2_notInI {a : Addr} {k : Int} {es : List (Int × D)} (e : ν a = some (.dI es)) (h : Q (.bool (!(valAt es k).isSome)) ν) : T2 C n (compareOp .NotIn) (.int k) (.ref a) ν Q := by
  intro A s v u hA R hz hv hu; (first | (have hq := RV.int_inv hv; clear hv; obtain ⟨_, rfl⟩ := hq) | (have hq := RV.str_inv hv; clear hv; obtain ⟨_, rfl⟩ := hq) | (have hq := RV.ref_inv hv; clear hv; subst hq) | (have hq := RV.val_inv hv; clear hv; subst hq) | (have hq := RV.bool_inv hv; clear hv; subst hq) | cases hv); (first | (have hq := RV.int_inv hu; clear hu; obtain ⟨_, rfl⟩ := hq) | (have hq := RV.str_inv hu; clear hu; obtain ⟨_, rfl⟩ := hq) | (have hq := RV.ref_inv hu; clear hu; subst hq) | (have hq := RV.val_inv hu; clear hu; subst hq) | (have hq := RV.bool_inv hu; clear hu; subst hq) | cases hu)
  obtain ⟨kvs, hD, hK⟩ := R.at_ a _ e
  refine wpAny_notIn_of (knd := intKind C.prog C.w) (k := k) (by simp [intKind, Value.isInt]) (C.notSys (R.own a _ e fun _ => nofun)) hD.mapOf ?_
  rw [isSome_at hK]; exact ⟨_, ν, .bool _, R, Fro.toks, h⟩
/-- an item is set -/
def TX (C : Cx) (n : Nat) (o i v : D) (ν : Nu) (Q : Nu → Prop) : Prop :=
  ∀ A s ov iv vv, Aok n A → Ref C ν s.heap → C.base.objs.size ≤ s.heap.objs.size → RV s.heap ov o → RV s.heap iv i → RV s.heap vv v → wpAny (model C.prog C.w) A (setItem ov iv vv) (fun _ s' => ∃ ν', Ref C ν' s'.heap ∧ Fro no ν ν' s s' ∧ Q ν') nev s
theorem TS_setitem {o i value : Expr} {pos' pos : Pos} {Q : Fl → Loc → Nu → Prop}
    (h : TE C n sc value l ν (fun v ν₁ => TE C n sc o l ν₁ (fun ov ν₂ => TE C n sc i l ν₂ (fun iv ν₃ => TX C n ov iv v ν₃ (fun ν₄ => Q .next l ν₄)))))
    (hs : ∀ env, swapsWith value (some (.Subscript o i pos')) pos.line env = pure false) : TS C n sc (.Assign [.Subscript o i pos'] value pos) l ν Q := by
  intro A env s hA R F
  refine wpAny_Assign_Subscript (wpAny_mono (h A env s hA R F) ?_ fun _ _ x => x) (hs env)
  rintro v s₁ ⟨dv, ν₁, hv, R₁, x₁, q1⟩
  have F₁ := F.fro R x₁
  refine wpAny_mono (q1 A env s₁ hA R₁ F₁) ?_ fun _ _ x => x
  rintro ov s₂ ⟨do_, ν₂, ho, R₂, x₂, q2⟩
  have F₂ := F₁.fro R₁ x₂
  refine wpAny_mono (q2 A env s₂ hA R₂ F₂) ?_ fun _ _ x => x
  rintro iv s₃ ⟨di, ν₃, hi, R₃, x₃, q3⟩
  have F₃ := F₂.fro R₂ x₃
  refine wpAny_mono (q3 A s₃ ov iv v hA R₃ F₃.baseLe (ho.fro R₂ x₃) hi ((hv.fro R₁ x₂).fro R₂ x₃)) ?_ fun _ _ x => x
  rintro _ s₄ ⟨ν₄, R₄, x₄, q4⟩
  exact ⟨.next, l, ν₄, .next, R₄, F₃.fro R₃ x₄, (((x₁.trans x₂).trans x₃).trans x₄).toFr, q4⟩
theorem nodup_of {K : Type} [DecidableEq K] {knd : KeyKind C.prog C.w K} {h : Heap} {a : Addr} {kvs : List (K × Value)} (x : h.DictOf knd a kvs) : (kvs.map (·.1)).Nodup := let ⟨_, _, _, _, _, _, _, _, q⟩ := x; q
theorem TX_dI {a : Addr} {k : Int} {es : List (Int × D)} {d : D} {Q : Nu → Prop} (e : ν a = some (.dI es)) (hz : es.length ≤ 100000) (h : Q (upd ν a (.dI (setAt es k d)))) : TX C n (.ref a) (.int k) d ν Q := by
  intro A s ov iv vv hA R hb ho hi hv
  (first | (have hq := RV.int_inv ho; clear ho; obtain ⟨_, rfl⟩ := hq) | (have hq := RV.str_inv ho; clear ho; obtain ⟨_, rfl⟩ := hq) | (have hq := RV.ref_inv ho; clear ho; subst hq) | (have hq := RV.val_inv ho; clear ho; subst hq) | (have hq := RV.bool_inv ho; clear ho; subst hq) | cases ho); (first | (have hq := RV.int_inv hi; clear hi; obtain ⟨_, rfl⟩ := hq) | (have hq := RV.str_inv hi; clear hi; obtain ⟨_, rfl⟩ := hq) | (have hq := RV.ref_inv hi; clear hi; subst hq) | (have hq := RV.val_inv hi; clear hi; subst hq) | (have hq := RV.bool_inv hi; clear hi; subst hq) | cases hi)
  obtain ⟨kvs, hD, hK⟩ := R.at_ a _ e
  refine wpAny_setItem_pairs (knd := intKind C.prog C.w) (k := k) (by simp [intKind, Value.isInt]) hD (fun h' hD' sb => ?_) (by rw [hK.length, sizeLine_eq]; omega)
  obtain ⟨R', kt⟩ := R.change (o := .dI (setAt es k d)) e (fun _ => nofun) sb fun kt => ⟨_, hD', (hK.stored (nodup_of hD) hv).keep kt⟩
  exact ⟨_, R', Fro.change e sb, h⟩
theorem ints_of {h : Heap} : ∀ {vs : List Value} {ns : List Int}, RVs h vs (ns.map .int) → IntsAre vs ns
  | _, [], r => by cases r; exact .nil
  | _, x :: xs, r => by cases r with | cons a b => cases a; exact .cons _ _ (ints_of b)
theorem of_ints {h : Heap} : ∀ {vs : List Value} {ns : List Int}, IntsAre vs ns → RVs h vs (ns.map .int)
  | _, _, .nil => .nil
  | _, _, .cons _ _ r => .cons (.int _ _) (of_ints r)
theorem RVs.ofAt {h : Heap} : ∀ {vs : List Value} {ds : List D}, vs.length = ds.length → (∀ (j : Nat) (v : Value) (d : D), vs[j]? = some v → ds[j]? = some d → RV h v d) → RVs h vs ds
  | [], [], _, _ => .nil
  | v :: vs, d :: ds, hl, h => .cons (h 0 v d rfl rfl) (RVs.ofAt (by simpa using hl) fun j v d h1 h2 => h (j + 1) v d (by simpa using h1) (by simpa using h2))
theorem TC_min {a : Addr} {ns : List Int} (e : seqOf (ν a) = some (ns.map .int)) (hne : ns ≠ []) (h : ∀ m, m ∈ ns → (∀ x ∈ ns, m ≤ x) → Q (.int m) ν) : TC C n (.builtin "min") [.ref a] ν Q := by
  intro A s vs hA R hb hv
  have hq := RVs.cons_inv hv; clear hv; obtain ⟨_, _, rfl, hv, hr⟩ := hq
  have hq := RVs.nil_inv hr; clear hr; subst hq; (first | (have hq := RV.int_inv hv; clear hv; obtain ⟨_, rfl⟩ := hq) | (have hq := RV.str_inv hv; clear hv; obtain ⟨_, rfl⟩ := hq) | (have hq := RV.ref_inv hv; clear hv; subst hq) | (have hq := RV.val_inv hv; clear hv; subst hq) | (have hq := RV.bool_inv hv; clear hv; subst hq) | cases hv)
  obtain ⟨us, m, ho, r⟩ := R.seq e
  have hi := ints_of r
  obtain ⟨xs, hxs⟩ := (hi.allInts).items
  have hl : s.heap.IsList a (intItems xs) := hxs ▸ ⟨_, ho, rfl, m, rfl⟩
  have hnum : numsOf (intItems xs).toList = ns := by rw [← hxs]; exact hi.numsOf
  rw [nums_intItems] at hnum
  have hlen : xs.size = ns.length := by rw [← hnum]; simp
  have hpos : 0 < ns.length := List.length_pos_iff.mpr hne
  refine min_intList hA.1 hl (by omega) fun v h' tk hv' hk => ?_
  obtain ⟨t, rfl⟩ := intItems_at hv'
  obtain ⟨h1, h2⟩ := argBest_lt (numAt xs) (xs.size - 1)
  refine ⟨_, ν, .int _ _, R.keepAll hk, Fro.ofKeep hk, h _ ?_ fun x hx => ?_⟩
  · rw [numAt_eq, hnum]; exact getD_mem (by omega)
  · rw [← hnum] at hx
    obtain ⟨j, hj, rfl⟩ := mem_getD hx
    rw [List.length_map, Array.length_toList] at hj
    rw [← numAt_eq]; exact h2 j (by omega)
theorem TC_sorted {a : Addr} {ns : List Int} (e : seqOf (ν a) = some (ns.map .int)) (hz : ns.length < 64) (h : ∀ (r : Addr) (ns' : List Int), ν r = none → ns'.Perm ns → ns'.Pairwise (· ≤ ·) → Q (.ref r) (upd ν r (.lst (ns'.map .int)))) : TC C n (.builtin "sorted") [.ref a] ν Q := by
  intro A s vs hA R hb hv
  have hq := RVs.cons_inv hv; clear hv; obtain ⟨_, _, rfl, hv, hr⟩ := hq
  have hq := RVs.nil_inv hr; clear hr; subst hq; (first | (have hq := RV.int_inv hv; clear hv; obtain ⟨_, rfl⟩ := hq) | (have hq := RV.str_inv hv; clear hv; obtain ⟨_, rfl⟩ := hq) | (have hq := RV.ref_inv hv; clear hv; subst hq) | (have hq := RV.val_inv hv; clear hv; subst hq) | (have hq := RV.bool_inv hv; clear hv; subst hq) | cases hv)
  obtain ⟨us, m, ho, r⟩ := R.seq e
  have hi := ints_of r
  refine sorted_ints (l := a) ⟨_, ho, rfl, m, rfl⟩ hi (by rw [r.length]; simpa using hz) fun out ns' ho' hp hs => ?_
  obtain ⟨c, hc⟩ := sortedAll_at s.heap us out
  have hn : s.heap.get? (s.heap.objs.size + 1) = none := by
    cases q : s.heap.get? (s.heap.objs.size + 1) with
    | none => rfl
    | some o => exact absurd (Heap.lt_size q) (Nat.not_lt.mpr (Nat.le_succ _))
  have hν : ν (s.heap.objs.size + 1) = none := by
    cases q : ν (s.heap.objs.size + 1) with
    | none => rfl
    | some o => exact absurd (R.at_ _ _ q).lt (Nat.not_lt.mpr (Nat.le_succ _))
  refine post_new (o := .lst (ns'.map .int)) R hn hν (Nat.le_succ_of_le hb) (fun b o e => sortedAll_old e) ⟨out.toList, c, ?_, of_ints ho'⟩ (h _ _ hν hp hs)
  rw [hc]; unfold lstObj seqObj; simp
theorem TC_listDI {a : Addr} {es : List (Int × D)} (e : ν a = some (.dI es)) (hz : es.length ≤ 100000) (h : ∀ r, ν r = none → Q (.ref r) (upd ν r (.lst ((es.map (·.1)).map .int)))) : TC C n (.type "list") [.ref a] ν Q := by
  intro A s vs hA R hb hv
  have hq := RVs.cons_inv hv; clear hv; obtain ⟨_, _, rfl, hv, hr⟩ := hq
  have hq := RVs.nil_inv hr; clear hr; subst hq; (first | (have hq := RV.int_inv hv; clear hv; obtain ⟨_, rfl⟩ := hq) | (have hq := RV.str_inv hv; clear hv; obtain ⟨_, rfl⟩ := hq) | (have hq := RV.ref_inv hv; clear hv; subst hq) | (have hq := RV.val_inv hv; clear hv; subst hq) | (have hq := RV.bool_inv hv; clear hv; subst hq) | cases hv)
  obtain ⟨kvs, hD, hK⟩ := R.at_ a _ e
  obtain ⟨ep, hat⟩ := hD.dictAt
  refine kdl_call (kdl_dict (knd := intKind C.prog C.w) (ep := ep) (C.notSys (R.own a _ e fun _ => nofun))) hA.1 hat (by rw [hK.length, sizeLine_eq]; omega) fun h' tk acc' c' k ho hP => ?_
  refine post_new (o := .lst ((es.map (·.1)).map .int)) R (getNone s) R.fresh hb k ⟨acc'.toList, c', ?_, ?_⟩ (h _ R.fresh)
  · rw [ho]; unfold lstObj; simp
  · rw [← hK.keys]
    refine RVs.ofAt (by simp [hP.1]) fun j v d hv hd => ?_
    obtain ⟨k, x, hk, hi⟩ := hP.2 j v (by simpa using hv)
    have : d = .int k := by simpa [hk] using hd.symm
    subst this
    have hi' : Value.isInt k v = true := by simpa [intKind] using hi
    cases v <;> simp [Value.isInt] at hi'
    subst hi'; exact .int _ _
end
end Mine

namespace Mine
open PySem PyProof.Rows PySem.W

section
variable {C : Cx} {n : Nat} {sc : Scope} {l : Loc} {ν : Nu} {Q : D → Nu → Prop}

/-- the class of the text -/
def IsT (C : Cx) (T : Addr) : Prop := C.mg (Str.ofString "Store") = some (.ref T)
structure IsStore (C : Cx) (T : Addr) : Prop where
  cls : IsCls C T
  base : isField C T (Str.ofString "base")
  last : isField C T (Str.ofString "last")
  many : isField C T (Str.ofString "many")
  moves : isField C T (Str.ofString "moves")
  buckets : isField C T (Str.ofString "buckets")
def TM (C : Cx) (n : Nat) (m : Str) (ds : List D) (ν : Nu) (Q : D → Nu → Prop) : Prop := ∀ T f, IsT C T → isMeth C T m f → TK C n (.ref f) ds ν Q
def DefM (C : Cx) (m : Str) (names : List Str) (body : List Stmt) (sc : Scope) : Prop := ∃ T f, IsT C T ∧ isMeth C T m f ∧ IsDef C f names body sc
theorem IsT.inj {T T' : Addr} (h : IsT C T) (h' : IsT C T') : T = T' := by
  unfold IsT at h h'; rw [h] at h'; cases h'; rfl
theorem isMeth.inj {T f f' : Addr} {m : Str} (h : isMeth C T m f) (h' : isMeth C T m f') : f = f' := by
  have := h.1.symm.trans h'.1; cases this; rfl
theorem TM_def {m : Str} {names : List Str} {body : List Stmt} {ds : List D} (I : DefM C m names body sc) (hlen : ds.length = names.length)
    (h : TSs C n sc body (names.zip ds) ν (FunK Q)) : TM C (n + 1) m ds ν Q := by
  intro T f hT hm
  obtain ⟨T', f', hT', hm', I⟩ := I
  obtain rfl := hT.inj hT'
  obtain rfl := hm.inj hm'
  exact TK_def I hlen h
/-- a method that stands -/
def IsM (C : Cx) (m : Str) : Prop := ∃ T f, IsT C T ∧ isMeth C T m f
theorem TE_methM {o : Expr} {name : Str} {apos pos : Pos} {args : List Expr} (hS : ∀ T, IsT C T → IsStore C T) (hm : IsM C name)
    (h : TE C n sc o l ν (fun d ν₁ => ∃ x T dx fs, d = .ref x ∧ IsT C T ∧ ν₁ x = some (.inst T dx) ∧ ν₁ dx = some (.ns fs) ∧ lk fs name = none ∧ TL C n sc args l ν₁ (fun ds ν₂ => TM C n name (.ref x :: ds) ν₂ Q)))
    (ha : ∀ env whole, attributeBase o name env whole = whole) (hst : noSt args = true) (hlen : args.length < 30) (hp : (apos.endLine == pos.line) = true) : TE C n sc (.Call (.Attribute o name apos) args [] pos) l ν Q := by
  obtain ⟨T, f, hT, hm⟩ := hm
  refine TE_methI T f (hS T hT).cls hm (TE_mono h fun d ν' ⟨x, T', dx, fs, e, hT', e1, e2, e3, q⟩ => ?_) ha hst hlen hp
  obtain rfl := hT.inj hT'
  exact ⟨x, dx, fs, e, e1, e2, e3, fun A env s pos hA R F => wpAny_mono (q A env s pos hA R F) (fun _ _ ⟨ds, ν', a, b, c, q⟩ => ⟨ds, ν', a, b, c, TC_of (q T f hT hm)⟩) fun _ _ x => x⟩
theorem TE_new {p pos : Pos} {args : List Expr} (hS : ∀ T, IsT C T → IsStore C T) (hm : IsM C (Str.ofString "__init__")) (hk : sc.names.lookup (Str.ofString "Store") = some .globalImplicit)
    (h : TL C (n + 2) sc args l ν (fun ds ν₁ => ∀ T x dx, IsT C T → ν₁ x = none → ν₁ dx = none → x ≠ dx → TM C n (Str.ofString "__init__") (.ref x :: ds) (upd (upd ν₁ dx (.ns [])) x (.inst T dx)) (fun d ν' => d = .none ∧ Q (.ref x) ν'))) (hst : noSt args = true) : TE C (n + 2) sc (.Call (.Name (Str.ofString "Store") p) args [] pos) l ν Q := by
  obtain ⟨T, f, hT, hm⟩ := hm
  refine TE_callC hk (.inl hT) (hS T hT).cls (fun A env s pos hA R F => wpAny_mono (h A env s pos hA R F) (fun _ _ ⟨ds, ν', a, b, c, q⟩ => ⟨ds, ν', a, b, c, TC_new (hS T hT).cls hm fun x dx h1 h2 h3 => q T x dx hT h1 h2 h3 T f hT hm⟩) fun _ _ x => x) (by decide) hst
theorem mkM {K' : Frag} (hK : C.K = K') {m : Str} {T f : Addr} (h1 : nsIn K' mainGlobals (Str.ofString "Store") = some (some (.ref T))) (h2 : findIn K' (.ref T) m = some (some (.ref f))) (h3 : isFn K' (.ref f) = true) (h4 : keepIn K' (.ref f) = true) : IsM C m :=
  ⟨T, f, mg_is (hK ▸ h1), hK ▸ h2, hK ▸ h3, hK ▸ h4⟩
theorem mkStore {K' : Frag} (hK : C.K = K') {T : Addr} (h1 : nsIn K' mainGlobals (Str.ofString "Store") = some (some (.ref T))) (h2 : plainGet K' T "" = true) (h3 : findIn K' (.ref T) "__setattr__" = some (some (.builtin "object.__setattr__")))
    (h4 : plainOver K' T = true) (h5 : hasDictIn K' T = true) (h6 : makesIn K' T = true) (h7 : keepIn K' (.ref T) = true)
    (f1 : findIn K' (.ref T) (Str.ofString "base") = some none) (f2 : findIn K' (.ref T) (Str.ofString "last") = some none) (f3 : findIn K' (.ref T) (Str.ofString "many") = some none) (f4 : findIn K' (.ref T) (Str.ofString "moves") = some none) (f5 : findIn K' (.ref T) (Str.ofString "buckets") = some none) :
    ∀ T, IsT C T → IsStore C T := by
  intro T' hT'
  have hT : IsT C T := mg_is (hK ▸ h1)
  obtain rfl := hT.inj hT'
  subst hK
  exact ⟨⟨h2, h3, h4, h5, h6, h7⟩, f1, f2, f3, f4, f5⟩
theorem mkDefM {K' : Frag} (hK : C.K = K') {m : Str} {T f : Addr} {oc : Value} {od : Option Addr} {osl : Array (Option Value)} {name qual : Str} {params : Arguments} {body : List Stmt} {scope : Scope} {dV kV doc pm : Value} {an : Option Addr} {cdv ct : Value} {names : List Str}
    (h1 : nsIn K' mainGlobals (Str.ofString "Store") = some (some (.ref T))) (h1b : findIn K' (.ref T) m = some (some (.ref f))) (h1c : isFn K' (.ref f) = true) (h1d : keepIn K' (.ref f) = true)
    (h2 : K'.lookup f = some ⟨oc, od, .func (fnOf name qual params body scope dV kV doc pm an cdv ct), osl⟩) (h3 : codeIn K' cdv qual = true)
    (hb : ∀ vs : List Value, vs.length = names.length → bindArgs (fnOf name qual params body scope dV kV doc pm an cdv ct) ⟨vs, []⟩ = pure (names.zip vs)) (co : scope.isCoroutine = false) (gen : scope.isGenerator = false) (kind : scope.kind = .function) (nd : names.Nodup) (kd : ∀ x ∈ names, storable scope x) : DefM C m names body scope :=
  ⟨T, f, mg_is (hK ▸ h1), ⟨hK ▸ h1b, hK ▸ h1c, hK ▸ h1d⟩, ⟨_, _, hK ▸ h2, rfl, rfl, rfl, rfl, rfl, rfl, codeRec_of (fun a o e => C.inK a o e) (hK ▸ h3), hb⟩, co, gen, kind, nd, kd⟩

theorem TE_attrM {value : Expr} {attr : Str} {pos} (hS : ∀ T, IsT C T → isField C T attr ∧ IsCls C T) (hM : IsM C (Str.ofString "__init__"))
    (h : TE C n sc value l ν (fun d ν₁ => ∃ x T dx fs r, d = .ref x ∧ IsT C T ∧ ν₁ x = some (.inst T dx) ∧ ν₁ dx = some (.ns fs) ∧ lk fs attr = some r ∧ (∀ u, r ≠ .val u) ∧ Q r ν₁))
    (ha : ∀ env whole, attributeBase value attr env whole = whole) : TE C n sc (.Attribute value attr pos) l ν Q := by
  obtain ⟨T, _, hT, _⟩ := hM
  refine TE_attr T (hS T hT).2 (hS T hT).1 (TE_mono h fun d ν' ⟨x, T', dx, fs, r, e, hT', q⟩ => ?_) ha
  obtain rfl := hT.inj hT'
  exact ⟨x, dx, fs, r, e, q⟩
theorem TS_setattrM {o value : Expr} {attr : Str} {pos' pos} {Q : Fl → Loc → Nu → Prop} (hS : ∀ T, IsT C T → isField C T attr ∧ IsCls C T) (hM : IsM C (Str.ofString "__init__"))
    (h : TE C n sc value l ν (fun d ν₁ => TE C n sc o l ν₁ (fun e ν₂ => ∃ x T dx fs, e = .ref x ∧ IsT C T ∧ ν₂ x = some (.inst T dx) ∧ ν₂ dx = some (.ns fs) ∧ fs.length < 100 ∧ Q .next l (upd ν₂ dx (.ns (put fs attr d))))))
    (hs : ∀ env, swapsWith value (some (.Attribute o attr pos')) pos.line env = pure false) : TS C n sc (.Assign [.Attribute o attr pos'] value pos) l ν Q := by
  obtain ⟨T, _, hT, _⟩ := hM
  refine TS_setattr T (hS T hT).2 (hS T hT).1 (TE_mono h fun d ν' q => TE_mono q fun e ν'' ⟨x, T', dx, fs, e, hT', q⟩ => ?_) hs
  obtain rfl := hT.inj hT'
  exact ⟨x, dx, fs, e, q⟩
end

/-- a thing: its number, its name, how often it was moved -/
abbrev Thing := Nat × Str × Nat
def thD (t : Thing) : D := .tup [.int t.1, .str t.2.1, .int t.2.2]
/-- what a store holds -/
structure SV where
  base : Nat
  last : Nat
  many : Nat
  moves : Nat
  B : Nat → List Thing
  keys : List Nat
def fldD (S : SV) (bk : Addr) : List (Str × D) := [(Str.ofString "base", .int S.base), (Str.ofString "last", .int S.last), (Str.ofString "many", .int S.many), (Str.ofString "moves", .int S.moves), (Str.ofString "buckets", .ref bk)]
def dctD (keys : List Nat) (adr : Nat → Addr) : List (Int × D) := keys.map fun (k : Nat) => ((k : Int), .ref (adr k))
/-- a store at st: its namespace at dd, its buckets' dict at bk, its buckets' lists at adr -/
structure StoreAs (C : Cx) (ν : Nu) (st dd bk : Addr) (adr : Nat → Addr) (S : SV) : Prop where
  inst : ∃ T, IsT C T ∧ ν st = some (.inst T dd)
  ns : ν dd = some (.ns (fldD S bk))
  dict : ν bk = some (.dI (dctD S.keys adr))
  lists : ∀ k ∈ S.keys, ν (adr k) = some (.lst ((S.B k).map thD))
  adrs : (S.keys.map adr).Nodup
  nodup : S.keys.Nodup
  empt : ∀ k, k ∉ S.keys → S.B k = []
def fpOf (dd bk : Addr) (adr : Nat → Addr) (S : SV) : List Addr := dd :: bk :: S.keys.map adr
def StoreAt (C : Cx) (ν : Nu) (st : Addr) (fp : List Addr) (S : SV) : Prop := ∃ dd bk adr, fp = fpOf dd bk adr S ∧ StoreAs C ν st dd bk adr S
/-- ν' comes of ν by work on fp alone -/
structure Frame (ν : Nu) (fp : List Addr) (ν' : Nu) (fp' : List Addr) : Prop where
  keep : ∀ a, a ∉ fp → ν a ≠ none → ν' a = ν a
  own : ∀ a ∈ fp', a ∈ fp ∨ ν a = none
  live : ∀ a, ν a ≠ none → ν' a ≠ none
theorem Frame.refl {ν : Nu} {fp : List Addr} : Frame ν fp ν fp := ⟨fun _ _ _ => rfl, fun _ h => .inl h, fun _ h => h⟩
theorem Frame.trans {ν ν' ν'' : Nu} {fp fp' fp'' : List Addr} (x : Frame ν fp ν' fp') (y : Frame ν' fp' ν'' fp'') : Frame ν fp ν'' fp'' := by
  refine ⟨fun a h1 h2 => ?_, fun a h => ?_, fun a h => y.live a (x.live a h)⟩
  · have e := x.keep a h1 h2
    rw [y.keep a (fun q => (x.own a q).elim h1 h2) (e ▸ h2), e]
  · rcases y.own a h with q | q
    · exact x.own a q
    · exact .inr (Classical.byContradiction fun z => x.live a z q)
def upB (B : Nat → List Thing) (k : Nat) (ts : List Thing) : Nat → List Thing := fun j => if j = k then ts else B j
theorem upB_same {B : Nat → List Thing} {k : Nat} {ts : List Thing} : upB B k ts k = ts := if_pos rfl
theorem upB_other {B : Nat → List Thing} {k j : Nat} {ts : List Thing} (h : j ≠ k) : upB B k ts j = B j := if_neg h
def addK (keys : List Nat) (k : Nat) : List Nat := if k ∈ keys then keys else keys ++ [k]
def SV.laid (S : SV) (k : Nat) (t : Thing) : SV := { S with B := upB S.B k (S.B k ++ [t]), keys := addK S.keys k }
theorem dctD_at {keys : List Nat} {adr : Nat → Addr} {k : Nat} : valAt (dctD keys adr) (k : Int) = if k ∈ keys then some (.ref (adr k)) else none := by
  unfold dctD
  induction keys with
  | nil => rfl
  | cons j r ih =>
    rw [List.map_cons]
    unfold valAt
    by_cases h : j = k
    · subst h; simp
    · have h1 : ¬ ((j : Int) = (k : Int)) := by omega
      have h2 : ¬ k = j := fun e => h e.symm
      rw [if_neg h1, ih]
      simp [h2]
theorem dctD_set_new {keys : List Nat} {adr : Nat → Addr} {k : Nat} {r : Addr} (h : k ∉ keys) : setAt (dctD keys adr) (k : Int) (.ref r) = dctD (keys ++ [k]) (fun j => if j = k then r else adr j) := by
  unfold dctD
  induction keys with
  | nil => simp [setAt]
  | cons j t ih =>
    simp only [List.mem_cons, not_or] at h
    rw [List.map_cons]
    unfold setAt
    have h1 : ¬ ((j : Int) = (k : Int)) := by have := h.1; omega
    have h2 : ¬ j = k := fun e => h.1 e.symm
    rw [if_neg h1, ih h.2]
    simp [h2]
theorem dctD_set_old {keys : List Nat} {adr : Nat → Addr} {k : Nat} {r : Addr} (h : k ∈ keys) (nd : keys.Nodup) : setAt (dctD keys adr) (k : Int) (.ref r) = dctD keys (fun j => if j = k then r else adr j) := by
  unfold dctD
  induction keys with
  | nil => simp at h
  | cons j t ih =>
    rw [List.map_cons]
    unfold setAt
    rw [List.nodup_cons] at nd
    by_cases h1 : j = k
    · subst h1
      rw [if_pos rfl]
      simp only [List.map_cons, if_true]
      congr 1
      refine List.map_congr_left fun x hx => ?_
      rw [if_neg fun e => nd.1 (by subst e; exact hx)]
    · have h2 : ¬ ((j : Int) = (k : Int)) := by omega
      rw [if_neg h2, ih ((List.mem_cons.mp h).resolve_left fun e => h1 e.symm) nd.2]
      simp [h1]

section
variable {C : Cx} {ν : Nu} {st dd bk : Addr} {adr : Nat → Addr} {S : SV}
theorem nodup_at {keys : List Nat} {adr : Nat → Addr} (h : (keys.map adr).Nodup) {j k : Nat} (hj : j ∈ keys) (hk : k ∈ keys) (e : adr j = adr k) : j = k := by
  induction keys with
  | nil => simp at hj
  | cons x r ih =>
    rw [List.map_cons, List.nodup_cons] at h
    rcases List.mem_cons.mp hj with rfl | hj' <;> rcases List.mem_cons.mp hk with rfl | hk'
    · rfl
    · exact absurd (List.mem_map.mpr ⟨k, hk', e.symm⟩) h.1
    · exact absurd (List.mem_map.mpr ⟨j, hj', e⟩) h.1
    · exact ih h.2 hj' hk'
theorem StoreAs.ne_of {a b : Addr} {o o' : AObj} (h : ν a = some o) (h' : ν b = some o') (hn : o ≠ o') : a ≠ b := fun e => by subst e; rw [h] at h'; cases h'; exact hn rfl
theorem StoreAs.append (H : StoreAs C ν st dd bk adr S) {k : Nat} (hk : k ∈ S.keys) (t : Thing) :
    StoreAs C (upd ν (adr k) (.lst ((S.B k).map thD ++ [thD t]))) st dd bk adr (S.laid k t) ∧ Frame ν (fpOf dd bk adr S) (upd ν (adr k) (.lst ((S.B k).map thD ++ [thD t]))) (fpOf dd bk adr (S.laid k t)) := by
  have hl := H.lists k hk
  obtain ⟨T, hT, hst⟩ := H.inst
  have ek : addK S.keys k = S.keys := if_pos hk
  refine ⟨⟨⟨T, hT, ?_⟩, ?_, ?_, fun j hj => ?_, ?_, ?_, fun j hj => ?_⟩, ⟨fun a ha hn => ?_, fun a ha => .inl ?_, fun a hn => ?_⟩⟩
  · rw [upd_other (StoreAs.ne_of hst hl nofun)]; exact hst
  · rw [upd_other (StoreAs.ne_of H.ns hl nofun)]; exact H.ns
  · show _ = some (AObj.dI (dctD (addK S.keys k) adr))
    rw [upd_other (StoreAs.ne_of H.dict hl nofun), ek]; exact H.dict
  · change j ∈ addK S.keys k at hj
    rw [ek] at hj
    show _ = some (AObj.lst ((upB S.B k (S.B k ++ [t]) j).map thD))
    by_cases e : j = k
    · subst e; rw [upd_same, upB_same, List.map_append]; rfl
    · rw [upd_other fun q => e (nodup_at H.adrs hj hk q), upB_other e]; exact H.lists j hj
  · show ((addK S.keys k).map adr).Nodup; rw [ek]; exact H.adrs
  · show (addK S.keys k).Nodup; rw [ek]; exact H.nodup
  · change j ∉ addK S.keys k at hj
    rw [ek] at hj
    show upB _ _ _ j = []
    rw [upB_other fun e : j = k => hj (by rw [e]; exact hk)]; exact H.empt j hj
  · exact upd_other fun e => ha (by subst e; exact .tail _ (.tail _ (List.mem_map.mpr ⟨k, hk, rfl⟩)))
  · unfold fpOf at ha ⊢; change a ∈ dd :: bk :: (addK S.keys k).map adr at ha; rw [ek] at ha; exact ha
  · unfold upd; split
    · simp
    · exact hn
/-- a bucket that is new -/
theorem StoreAs.newKey (H : StoreAs C ν st dd bk adr S) {k : Nat} (hk : k ∉ S.keys) {r : Addr} (hr : ν r = none) :
    StoreAs C (upd (upd ν r (.lst [])) bk (.dI (setAt (dctD S.keys adr) (k : Int) (.ref r)))) st dd bk (fun j => if j = k then r else adr j) { S with keys := S.keys ++ [k] } ∧
    Frame ν (fpOf dd bk adr S) (upd (upd ν r (.lst [])) bk (.dI (setAt (dctD S.keys adr) (k : Int) (.ref r)))) (fpOf dd bk (fun j => if j = k then r else adr j) { S with keys := S.keys ++ [k] }) := by
  obtain ⟨T, hT, hst⟩ := H.inst
  have nr : ∀ a o, ν a = some o → a ≠ r := fun a o e q => by rw [q, hr] at e; cases e
  have old : ∀ j ∈ S.keys, (if j = k then r else adr j) = adr j := fun j hj => if_neg fun (e : j = k) => hk (by rw [← e]; exact hj)
  have em : S.keys.map (fun j => if j = k then r else adr j) = S.keys.map adr := List.map_congr_left old
  refine ⟨⟨⟨T, hT, ?_⟩, ?_, ?_, fun j hj => ?_, ?_, ?_, fun j hj => ?_⟩, ⟨fun a ha hn => ?_, fun a ha => ?_, fun a hn => ?_⟩⟩
  · rw [upd_other (StoreAs.ne_of hst H.dict nofun), upd_other (nr _ _ hst)]; exact hst
  · rw [upd_other (StoreAs.ne_of H.ns H.dict nofun), upd_other (nr _ _ H.ns)]; exact H.ns
  · rw [upd_same, dctD_set_new hk]
  · rcases List.mem_append.mp hj with hj | hj
    · show upd _ _ _ (if j = k then r else adr j) = _
      rw [old j hj, upd_other (StoreAs.ne_of (H.lists j hj) H.dict nofun), upd_other (nr _ _ (H.lists j hj))]
      exact H.lists j hj
    · have : j = k := by simpa using hj
      subst this
      show upd _ _ _ (if j = j then r else adr j) = some (AObj.lst ((S.B j).map thD))
      rw [if_pos rfl, upd_other (nr _ _ H.dict).symm, upd_same, H.empt j hk]; rfl
  · show ((S.keys ++ [k]).map (fun j => if j = k then r else adr j)).Nodup
    rw [List.map_append, em, List.nodup_append]
    refine ⟨H.adrs, by simp, fun a ha b hb => ?_⟩
    have : b = r := by simpa using hb
    subst this
    obtain ⟨j, hj, rfl⟩ := List.mem_map.mp ha
    exact nr _ _ (H.lists j hj)
  · show (S.keys ++ [k]).Nodup
    rw [List.nodup_append]
    refine ⟨H.nodup, by simp, fun a ha b hb => ?_⟩
    have : b = k := by simpa using hb
    subst this
    exact fun e => hk (e ▸ ha)
  · exact H.empt j fun q => hj (List.mem_append.mpr (.inl q))
  · rw [upd_other, upd_other]
    · exact fun q => hn (q ▸ hr)
    · exact fun q => ha (by subst q; exact .tail _ (.head _))
  · unfold fpOf at ha ⊢
    change a ∈ dd :: bk :: (S.keys ++ [k]).map (fun j => if j = k then r else adr j) at ha
    rw [List.map_append, em] at ha
    rcases List.mem_cons.mp ha with rfl | ha
    · exact .inl (.head _)
    rcases List.mem_cons.mp ha with rfl | ha
    · exact .inl (.tail _ (.head _))
    rcases List.mem_append.mp ha with ha | ha
    · exact .inl (.tail _ (.tail _ ha))
    · have : a = r := by simpa using ha
      subst this; exact .inr hr
  · unfold upd; split
    · simp
    · split
      · simp
      · exact hn
end

section
variable {C : Cx} {n : Nat} {sc : Scope} {l : Loc} {ν : Nu} {Q : D → Nu → Prop} {st dd bk : Addr} {adr : Nat → Addr} {S : SV}
theorem fields_ok (hS : ∀ T, IsT C T → IsStore C T) {attr : Str} (h : attr = Str.ofString "base" ∨ attr = Str.ofString "last" ∨ attr = Str.ofString "many" ∨ attr = Str.ofString "moves" ∨ attr = Str.ofString "buckets") : ∀ T, IsT C T → isField C T attr ∧ IsCls C T := by
  intro T hT
  have := hS T hT
  rcases h with rfl | rfl | rfl | rfl | rfl
  · exact ⟨this.base, this.cls⟩
  · exact ⟨this.last, this.cls⟩
  · exact ⟨this.many, this.cls⟩
  · exact ⟨this.moves, this.cls⟩
  · exact ⟨this.buckets, this.cls⟩
theorem TE_fld {value : Expr} {attr : Str} {pos} (hS : ∀ T, IsT C T → IsStore C T) (hM : IsM C (Str.ofString "__init__")) (H : StoreAs C ν st dd bk adr S) {r : D} (hl : lk (fldD S bk) attr = some r)
    (h : TE C n sc value l ν (fun d ν₁ => d = .ref st ∧ ν₁ = ν ∧ Q r ν)) (ha : ∀ env whole, attributeBase value attr env whole = whole) : TE C n sc (.Attribute value attr pos) l ν Q := by
  have hm : attr = Str.ofString "base" ∨ attr = Str.ofString "last" ∨ attr = Str.ofString "many" ∨ attr = Str.ofString "moves" ∨ attr = Str.ofString "buckets" := by
    simp only [fldD, lk] at hl
    repeat (split at hl; · first | exact .inl ‹_› | exact .inr (.inl ‹_›) | exact .inr (.inr (.inl ‹_›)) | exact .inr (.inr (.inr (.inl ‹_›))) | exact .inr (.inr (.inr (.inr ‹_›))))
    cases hl
  have hr : ∀ u, r ≠ .val u := by
    simp only [fldD, lk] at hl
    repeat (split at hl; · cases hl; exact fun _ => nofun)
    cases hl
  obtain ⟨T, hT, hst⟩ := H.inst
  refine TE_attrM (fields_ok hS hm) hM (TE_mono h fun d ν' ⟨e1, e2, q⟩ => ?_) ha
  subst e2
  exact ⟨st, T, dd, fldD S bk, r, e1, hT, hst, H.ns, hl, hr, q⟩
end

section
variable {C : Cx} {ν ν' : Nu} {st dd bk : Addr} {adr : Nat → Addr} {S : SV}
theorem StoreAs.ext (H : StoreAs C ν st dd bk adr S) (x : Ext ν ν') : StoreAs C ν' st dd bk adr S :=
  ⟨let ⟨T, a, b⟩ := H.inst; ⟨T, a, x _ _ b⟩, x _ _ H.ns, x _ _ H.dict, fun k hk => x _ _ (H.lists k hk), H.adrs, H.nodup, H.empt⟩
theorem addK_mem {keys : List Nat} {k : Nat} : k ∈ addK keys k := by unfold addK; split <;> simp_all
theorem addK_addK {keys : List Nat} {k : Nat} : addK (addK keys k) k = addK keys k := if_pos addK_mem
theorem laid_addK {k : Nat} {t : Thing} : SV.laid { S with keys := addK S.keys k } k t = S.laid k t := by
  unfold SV.laid; dsimp only; rw [addK_addK]
theorem dctD_len {keys : List Nat} {adr : Nat → Addr} : (dctD keys adr).length = keys.length := by simp [dctD]
end

section
variable {C : Cx} {ν : Nu} {st dd bk : Addr} {adr : Nat → Addr} {S : SV}
/-- a field is set -/
theorem StoreAs.field (H : StoreAs C ν st dd bk adr S) {fs : List (Str × D)} {S' : SV} (e : fs = fldD S' bk) (hB : S'.B = S.B) (hk : S'.keys = S.keys) :
    StoreAs C (upd ν dd (.ns fs)) st dd bk adr S' ∧ Frame ν (fpOf dd bk adr S) (upd ν dd (.ns fs)) (fpOf dd bk adr S') := by
  obtain ⟨T, hT, hst⟩ := H.inst
  refine ⟨⟨⟨T, hT, ?_⟩, ?_, ?_, fun j hj => ?_, ?_, ?_, fun j hj => ?_⟩, ⟨fun a ha hn => ?_, fun a ha => .inl ?_, fun a hn => ?_⟩⟩
  · rw [upd_other (StoreAs.ne_of hst H.ns nofun)]; exact hst
  · rw [upd_same, e]
  · rw [upd_other (StoreAs.ne_of H.dict H.ns nofun), hk]; exact H.dict
  · rw [hk] at hj; rw [upd_other (StoreAs.ne_of (H.lists j hj) H.ns nofun), hB]; exact H.lists j hj
  · rw [hk]; exact H.adrs
  · rw [hk]; exact H.nodup
  · rw [hk] at hj; rw [hB]; exact H.empt j hj
  · exact upd_other fun q => ha (by subst q; exact .head _)
  · unfold fpOf at ha ⊢; rw [hk] at ha; exact ha
  · unfold upd; split
    · simp
    · exact hn
def SV.put (S : SV) (x : Nat) (nm : Str) : SV := { S.laid (partN S.base x S.last) (x, nm, 0) with many := S.many + 1 }
theorem StoreAt.it {fp : List Addr} (H : StoreAt C ν st fp S) : ∃ T dd, IsT C T ∧ ν st = some (.inst T dd) ∧ ∃ bk, ν dd = some (.ns (fldD S bk)) := by
  obtain ⟨dd, bk, adr, _, H⟩ := H
  obtain ⟨T, hT, hst⟩ := H.inst
  exact ⟨T, dd, hT, hst, bk, H.ns⟩
end

section
variable {C : Cx} {n : Nat} {sc : Scope} {l : Loc} {ν : Nu} {Q : D → Nu → Prop}
theorem PostV.sub {s s' : Shared} {v : Value} (h : PostV C ν s (fun d ν' => ∃ ν₀, Ext ν₀ ν' ∧ Q d ν₀) v s') : PostV C ν s Q v s' := by
  obtain ⟨d, ν', rv, R', x', ν₀, hx, q⟩ := h
  refine ⟨d, ν₀, rv, R'.sub hx, ⟨x'.eq, x'.keep, x'.alive, fun b o e hn => ?_⟩, q⟩
  have := x'.dom b o e hn
  cases z : ν₀ b with
  | none => rfl
  | some o' => rw [hx b o' z] at this; cases this
theorem TK_forget {f : Value} {ds : List D} (h : TK C n f ds ν (fun d ν' => ∃ ν₀, Ext ν₀ ν' ∧ Q d ν₀)) : TK C n f ds ν Q := fun A s vs hA R hz hv => codeAny_mono (h A s vs hA R hz hv) fun r s' z => by
  cases r with
  | error e => exact z
  | ok f =>
    cases f with
    | ret v => exact PostV.sub z
    | _ => exact z
theorem TM_forget {m : Str} {ds : List D} (h : TM C n m ds ν (fun d ν' => ∃ ν₀, Ext ν₀ ν' ∧ Q d ν₀)) : TM C n m ds ν Q := fun T f hT hm => TK_forget (h T f hT hm)
end
def SV.new (b : Nat) : SV := ⟨b, 0, 0, 0, fun _ => [], []⟩
theorem upd_three {ν : Nu} {dx r : Addr} {a o b : AObj} : upd (upd (upd ν dx a) r o) dx b = upd (upd ν r o) dx b := by
  funext x; unfold upd; split
  · rfl
  · split
    · rfl
    · rename_i h _; rfl
def rowD (k : Nat) (t : Thing) : D := .tup [.int k, .int t.1, .str t.2.1, .int t.2.2]
def rowsD (B : Nat → List Thing) (ks : List Nat) : List D := ks.flatMap fun k => (B k).map (rowD k)
theorem rowsD_snoc {B : Nat → List Thing} {ks : List Nat} {k : Nat} : rowsD B (ks ++ [k]) = rowsD B ks ++ (B k).map (rowD k) := by simp [rowsD]
theorem upd_id {ν : Nu} {a : Addr} {o : AObj} (h : ν a = some o) : upd ν a o = ν := by
  funext x; unfold upd; split
  · rename_i e; subst e; exact h.symm
  · rfl
theorem nat_list {ns : List Int} {keys : List Nat} (h : ns.Perm (keys.map fun (k : Nat) => (k : Int))) (hs : ns.Pairwise (· ≤ ·)) : ∃ ks : List Nat, ns = ks.map (fun (k : Nat) => (k : Int)) ∧ ks.Perm keys ∧ ks.Pairwise (· ≤ ·) := by
  have e : ns = (ns.map Int.toNat).map (fun (k : Nat) => (k : Int)) := by
    rw [List.map_map]
    conv => lhs; rw [← List.map_id ns]
    refine List.map_congr_left fun x hx => ?_
    obtain ⟨k, _, hk⟩ := List.mem_map.mp (h.mem_iff.mp hx)
    simp only [Function.comp, id]; omega
  refine ⟨ns.map Int.toNat, e, ?_, ?_⟩
  · have := h.map Int.toNat
    rw [List.map_map] at this
    have e2 : keys.map (Int.toNat ∘ fun (k : Nat) => (k : Int)) = keys := by
      conv => rhs; rw [← List.map_id keys]
      exact List.map_congr_left fun x _ => by simp
    rw [e2] at this; exact this
  · rw [List.pairwise_map]
    exact hs.imp fun {a b} hab => Int.toNat_le_toNat hab
theorem lk_mem {lc : Loc} {y : Str} {d : D} (h : lk lc y = some d) : (y, d) ∈ lc := by
  induction lc with
  | nil => simp [lk] at h
  | cons p r ih =>
    obtain ⟨z, e⟩ := p
    unfold lk at h
    split at h
    · rename_i q; subst q; cases h; exact .head _
    · exact .tail _ (ih h)
theorem hlc_of {lc l : Loc} {scope : Scope} (h : ∀ p ∈ lc, lk l p.1 = some p.2 ∧ scope.names.lookup p.1 = some .free) : ∀ y d, lk lc y = some d → lk l y = some d ∧ scope.names.lookup y = some .free := fun _ _ e => h _ (lk_mem e)
/-- a number and a name -/
def prD (t : Nat × Str) : D := .tup [.int t.1, .str t.2]
end Mine

namespace Mine
open PySem PyProof.Rows PySem.W

section
variable {C : Cx} {n : Nat} {ν : Nu} {Q : D → Nu → Prop}
/-- a datum, read through the abstract heap -/
def PD (C : Cx) (ν : Nu) (d : D) (p : PyData) : Prop := ∀ h v, Ref C ν h → RV h v d → ∃ as, Reads h v p as
def PDs (C : Cx) (ν : Nu) (ds : List D) (ps : List PyData) : Prop := ∀ h vs, Ref C ν h → RVs h vs ds → ∃ as, ReadsAll h vs ps as
theorem PD.int (i : Int) : PD C ν (.int i) (.int i) := fun _ _ _ r => by cases r; exact ⟨_, .int _ _⟩
theorem PD.str (x : Str) : PD C ν (.str x) (.str x) := fun _ _ _ r => by cases r; exact ⟨_, .str _ _⟩
theorem PD.tup {ds : List D} {ps : List PyData} (q : PDs C ν ds ps) : PD C ν (.tup ds) (.tuple ps) := fun h v R r => by
  cases r with | tup e r => obtain ⟨_, z⟩ := q h _ R r; exact ⟨_, .tuple e rfl rfl z⟩
theorem PD.lst {a : Addr} {ds : List D} {ps : List PyData} (e : seqOf (ν a) = some ds) (q : PDs C ν ds ps) : PD C ν (.ref a) (.list ps) := fun h v R r => by
  cases r
  obtain ⟨_, _, e', r⟩ := R.seq e
  obtain ⟨_, z⟩ := q h _ R r
  exact ⟨_, .list e' rfl rfl z⟩
theorem PDs.nil : PDs C ν [] [] := fun _ _ _ r => by cases r; exact ⟨_, .nil⟩
theorem PDs.cons {d : D} {ds : List D} {p : PyData} {ps : List PyData} (x : PD C ν d p) (y : PDs C ν ds ps) : PDs C ν (d :: ds) (p :: ps) := fun h _ R r => by
  cases r with | cons a b => obtain ⟨_, x⟩ := x h _ R a; obtain ⟨_, y⟩ := y h _ R b; exact ⟨_, .cons x y⟩
theorem T2_eqP {d e : D} {p q : PyData} (hd : PD C ν d p) (he : PD C ν e q) (hp : p.canLay0 = true) (hq : q.canLay0 = true) (hh : min p.depth q.depth ≤ 90) (h : Q (.bool (PyData.eqv p q)) ν) : T2 C n (compareOp .Eq) d e ν Q := by
  intro A s v u hA R hz hv hu
  obtain ⟨as, ra⟩ := hd _ _ R hv
  obtain ⟨bs, rb⟩ := he _ _ R hu
  exact SeqAt.compareEq_reads ra rb hp hq (by have := hA.2.2; unfold cLine; omega) (postV_here R (.bool _) h)
theorem T2_neP {d e : D} {p q : PyData} (hd : PD C ν d p) (he : PD C ν e q) (hp : p.canLay0 = true) (hq : q.canLay0 = true) (hh : min p.depth q.depth ≤ 90) (h : Q (.bool (!PyData.eqv p q)) ν) : T2 C n (compareOp .NotEq) d e ν Q := by
  intro A s v u hA R hz hv hu
  obtain ⟨as, ra⟩ := hd _ _ R hv
  obtain ⟨bs, rb⟩ := he _ _ R hu
  exact SeqAt.compareNe_reads ra rb hp hq (by have := hA.2.2; unfold cLine; omega) (postV_here R (.bool _) h)
end
mutual
theorem eqv_refl : ∀ {p : PyData}, p.canLay0 = true → PyData.eqv p p = true
  | .none, _ => rfl
  | .bool _, _ => by simp [PyData.eqv]
  | .int _, _ => by simp [PyData.eqv]
  | .str _, _ => by simp [PyData.eqv]
  | .list xs, h => by simpa [PyData.eqv] using eqvAll_refl (ps := xs) (by simpa [PyData.canLay0] using h)
  | .tuple xs, h => by simpa [PyData.eqv] using eqvAll_refl (ps := xs) (by simpa [PyData.canLay0] using h)
  | .dict _, h => by simp [PyData.canLay0] at h
theorem eqvAll_refl : ∀ {ps : List PyData}, PyData.canLayAll0 ps = true → PyData.eqvAll ps ps = true
  | [], _ => rfl
  | p :: ps, h => by
    simp only [PyData.canLayAll0, Bool.and_eq_true] at h
    simp [PyData.eqvAll, eqv_refl h.1, eqvAll_refl h.2]
end
theorem eqv_nil {ps : List PyData} : PyData.eqv (.list ps) (.list []) = decide (ps = []) := by
  cases ps <;> simp [PyData.eqv, PyData.eqvAll]

section
variable {C : Cx} {n : Nat} {sc : Scope} {l : Loc} {ν : Nu}
end
end Mine

namespace Mine
open PySem PyProof.Rows PySem.W

section
variable {prog : Program} {w : World} {A : Around} {R : Result → Shared → Prop} {I : Addr} {fp wr : List Addr} {n : Nat} {P : Nat → Value → Prop} {St : Nat → Heap → Prop}
end
section
variable {C : Cx} {n : Nat} {sc : Scope} {l : Loc} {ν : Nu} {Q : D → Nu → Prop}
end
end Mine

namespace Mine
open PySem PyProof.Rows PySem.W
/-- a text that can be compared -/
def NmOk (x : Str) : Prop := (PyData.str x).canLay0 = true
theorem strOk_of {sm : Str} (h : sm.cps.all (· < 128) = true) (N : Nat) (f : Nat → Nat) : NmOk ⟨((List.range N).map fun i => sm.cps.getD (f i) 0).toArray⟩ := by
  unfold NmOk
  change (Array.all (((List.range N).map fun i => sm.cps.getD (f i) 0).toArray) fun x => decide (x < 0x110000)) = true
  rw [Array.all_eq_true']
  intro c hc
  have : c ∈ (List.range N).map fun i => sm.cps.getD (f i) 0 := by simpa using hc
  obtain ⟨i, _, rfl⟩ := List.mem_map.mp this
  have hlt : sm.cps.getD (f i) 0 < 128 := by
    rw [Array.all_eq_true'] at h
    by_cases q : f i < sm.cps.size
    · have := h (sm.cps[f i]) (Array.getElem_mem q)
      simp only [Array.getD, q, dite_true]
      simpa using this
    · simp [Array.getD, q]
  exact decide_eq_true (by omega)
section
variable {C : Cx} {ν ν' : Nu} {st : Addr} {fp fp' : List Addr} {S : SV}
theorem Frame.out {x : Addr} {o : AObj} (F : Frame ν fp ν' fp') (hx : x ∉ fp) (e : ν x = some o) : ν' x = some o ∧ x ∉ fp' :=
  ⟨(F.keep x hx (by rw [e]; simp)).trans e, fun q => (F.own x q).elim hx fun z => by rw [e] at z; cases z⟩
theorem StoreAt.upd {x : Addr} {o : AObj} (H : StoreAt C ν st fp S) (h1 : x ≠ st) (h2 : x ∉ fp) : StoreAt C (Mine.upd ν x o) st fp S := by
  obtain ⟨dd, bk, adr, rfl, H⟩ := H
  have n1 : dd ≠ x := fun q => h2 (q ▸ .head _)
  have n2 : bk ≠ x := fun q => h2 (q ▸ .tail _ (.head _))
  have n3 : ∀ k ∈ S.keys, adr k ≠ x := fun k hk q => h2 (q ▸ .tail _ (.tail _ (List.mem_map.mpr ⟨k, hk, rfl⟩)))
  obtain ⟨T, hT, hst⟩ := H.inst
  exact ⟨dd, bk, adr, rfl, ⟨T, hT, by rw [upd_other h1.symm]; exact hst⟩, by rw [upd_other n1]; exact H.ns, by rw [upd_other n2]; exact H.dict, fun k hk => by rw [upd_other (n3 k hk)]; exact H.lists k hk, H.adrs, H.nodup, H.empt⟩
theorem StoreAt.alive (H : StoreAt C ν st fp S) : ∀ x ∈ fp, ν x ≠ none := by
  obtain ⟨dd, bk, adr, rfl, H⟩ := H
  intro x hx
  rcases List.mem_cons.mp hx with rfl | hx
  · rw [H.ns]; simp
  rcases List.mem_cons.mp hx with rfl | hx
  · rw [H.dict]; simp
  obtain ⟨k, hk, rfl⟩ := List.mem_map.mp hx
  rw [H.lists k hk]; simp
end
theorem range_filterMap {α β : Type} (f : α → β) (l : List α) : (List.range l.length).filterMap (fun i => (l[i]?).map f) = l.map f := by
  have key : ∀ m, m ≤ l.length → (List.range m).filterMap (fun i => (l[i]?).map f) = (l.take m).map f := fun m => by
    induction m with
    | zero => intro _; rfl
    | succ m ih =>
      intro hm
      rw [List.range_succ, List.filterMap_append, ih (by omega), List.take_add_one, List.map_append]
      have : l[m]? = some l[m] := by simp [show m < l.length by omega]
      simp [this]
  rw [key l.length (Nat.le_refl _), List.take_length]
theorem StoreAt.ext {C : Cx} {ν ν' : Nu} {st : Addr} {fp : List Addr} {S : SV} (H : StoreAt C ν st fp S) (x : Ext ν ν') : StoreAt C ν' st fp S := let ⟨dd, bk, adr, e, H⟩ := H; ⟨dd, bk, adr, e, H.ext x⟩
end Mine

namespace Mine
open PySem PyProof.Rows PySem.W
theorem partN_le {b : Nat} (hb : 2 ≤ b) : ∀ (k x y : Nat), partN b x y ≤ k ↔ x / b ^ k = y / b ^ k
  | 0, x, y => by
    rw [Nat.pow_zero, Nat.div_one, Nat.div_one]
    by_cases h : x = y
    · subst h; simp [partN_self]
    · rw [partN_ne hb h]; omega
  | k + 1, x, y => by
    by_cases h : x = y
    · subst h; simp [partN_self]
    · rw [partN_ne hb h, Nat.pow_succ, Nat.mul_comm, ← Nat.div_div_eq_div_mul, ← Nat.div_div_eq_div_mul, ← partN_le hb k]; omega
theorem partN_div {b k j x y : Nat} (hb : 2 ≤ b) (h : partN b x y ≤ k) (hj : k ≤ j) : x / b ^ j = y / b ^ j := (partN_le hb j x y).mp (by omega)
/-- both part from w at p at most: they part at p at most -/
theorem partN_both {b p x y w : Nat} (hb : 2 ≤ b) (hx : partN b x w ≤ p) (hy : partN b y w ≤ p) : partN b x y ≤ p := by
  rw [partN_le hb] at *; rw [hx, hy]
/-- a nearer last one does not matter beyond p -/
theorem partN_far {b p k t m w : Nat} (hb : 2 ≤ b) (hm : partN b m w ≤ p) (ht : partN b t w = k) (hk : p < k) : partN b t m = k := by
  have h1 : partN b t m ≤ k := partN_both (w := w) hb (by omega) (by omega)
  have h2 : ¬ partN b t m ≤ k - 1 := fun q => by
    rw [partN_le hb] at q
    have h3 := partN_div hb hm (show p ≤ k - 1 by omega)
    have : partN b t w ≤ k - 1 := by rw [partN_le hb, q, h3]
    omega
  omega
theorem partN_lt {b p k t m w : Nat} (hb : 2 ≤ b) (hm : partN b m w ≤ p) (ht : partN b t w = k) (hk : p < k) (hw : w ≤ t) : m < t := by
  have h3 := partN_div hb hm (show p ≤ k - 1 by omega)
  have h4 : ¬ t / b ^ (k - 1) = w / b ^ (k - 1) := fun q => by
    have := (partN_le hb (k - 1) t w).mpr q
    omega
  have h5 : w / b ^ (k - 1) ≤ t / b ^ (k - 1) := Nat.div_le_div_right hw
  have h6 : ¬ t ≤ m := fun q => by
    have : t / b ^ (k - 1) ≤ m / b ^ (k - 1) := Nat.div_le_div_right q
    omega
  omega
theorem partN_eq {b x y : Nat} (hb : 2 ≤ b) (h : partN b x y = 0) : x = y := by
  have := (partN_le hb 0 x y).mp (by omega)
  simpa using this

def minN : List Nat → Nat
  | [] => 0
  | [a] => a
  | a :: b :: l => min a (minN (b :: l))
theorem minN_mem : ∀ {l : List Nat}, l ≠ [] → minN l ∈ l
  | [a], _ => by simp [minN]
  | a :: b :: l, _ => by
    have := minN_mem (l := b :: l) (by simp)
    unfold minN
    rcases Nat.le_total a (minN (b :: l)) with q | q
    · rw [Nat.min_eq_left q]; simp
    · rw [Nat.min_eq_right q]; exact List.mem_cons_of_mem _ this
theorem minN_le : ∀ {l : List Nat} {x : Nat}, x ∈ l → minN l ≤ x
  | [a], x, h => by simp at h; subst h; simp [minN]
  | a :: b :: l, x, h => by
    unfold minN
    rcases List.mem_cons.mp h with q | q
    · subst q; omega
    · have := minN_le q; omega
theorem minN_uniq {l : List Nat} {x : Nat} (h1 : x ∈ l) (h2 : ∀ y ∈ l, x ≤ y) : minN l = x := by
  have a := minN_le h1
  have b := h2 _ (minN_mem (List.ne_nil_of_mem h1))
  omega

theorem addK_iff {keys : List Nat} {k j : Nat} : j ∈ addK keys k ↔ j ∈ keys ∨ j = k := by
  unfold addK; split
  · rename_i h; exact ⟨.inl, fun q => q.elim id fun e => e ▸ h⟩
  · simp
theorem addK_nodup {keys : List Nat} {k : Nat} (h : keys.Nodup) : (addK keys k).Nodup := by
  unfold addK; split
  · exact h
  · rename_i q
    rw [List.nodup_append]
    refine ⟨h, by simp, fun a ha b hb => ?_⟩
    have : b = k := by simpa using hb
    subst this; exact fun e => q (e ▸ ha)

def SV.low (S : SV) : Nat := minN (S.keys.filter fun k => !(S.B k).isEmpty)
def bump (t : Thing) : Thing := (t.1, t.2.1, t.2.2 + 1)
def SV.fstep (p : Nat) (S : SV) (t : Thing) : SV :=
  if partN S.base t.1 S.last < p then SV.laid { S with moves := S.moves + 1 } (partN S.base t.1 S.last) (bump t) else { S with B := upB S.B p (S.B p ++ [t]) }
def SV.start (S : SV) (p : Nat) : SV := { S with last := minN ((S.B p).map (·.1)), B := upB S.B p [] }
def SV.fallen (S : SV) (p : Nat) : SV := (S.B p).foldl (SV.fstep p) (S.start p)
def SV.fall (S : SV) : SV := if 0 < S.low then S.fallen S.low else S
def SV.pop (S : SV) : SV := { S with many := S.many - 1, B := upB S.B 0 (S.B 0).tail }
def SV.take (S : SV) : SV := S.fall.pop

/-- the least place at which a thing lies -/
structure IsLow (S : SV) (p : Nat) : Prop where
  mem : p ∈ S.keys
  ne : S.B p ≠ []
  le : ∀ k ∈ S.keys, S.B k ≠ [] → p ≤ k
theorem low_is {S : SV} (h : ∃ k ∈ S.keys, S.B k ≠ []) : IsLow S S.low := by
  have hne : (S.keys.filter fun k => !(S.B k).isEmpty) ≠ [] := by
    obtain ⟨k, h1, h2⟩ := h
    have : k ∈ S.keys.filter fun k => !(S.B k).isEmpty := List.mem_filter.mpr ⟨h1, by simpa using h2⟩
    exact List.ne_nil_of_mem this
  have := List.mem_filter.mp (minN_mem hne)
  refine ⟨this.1, by simpa [SV.low] using this.2, fun k h1 h2 => minN_le (List.mem_filter.mpr ⟨h1, by simpa using h2⟩)⟩
/-- what the fall of a row does -/
structure Fell (p : Nat) (S : SV) (r : List Thing) (S' : SV) : Prop where
  base : S'.base = S.base
  last : S'.last = S.last
  many : S'.many = S.many
  moves : S'.moves = S.moves + (r.filter fun t => decide (partN S.base t.1 S.last < p)).length
  same : S'.B p = S.B p ++ r.filter fun t => !decide (partN S.base t.1 S.last < p)
  other : ∀ k, k ≠ p → S'.B k = S.B k ++ (r.filter fun t => decide (partN S.base t.1 S.last < p) && decide (partN S.base t.1 S.last = k)).map bump
  keys : ∀ k, k ∈ S'.keys ↔ k ∈ S.keys ∨ ∃ t ∈ r, partN S.base t.1 S.last < p ∧ partN S.base t.1 S.last = k
  nodup : S.keys.Nodup → S'.keys.Nodup
  len : S'.keys.length ≤ S.keys.length + r.length
theorem fell_step {p : Nat} {S S' : SV} {r : List Thing} (h : Fell p S r S') (t : Thing) : Fell p S (r ++ [t]) (S'.fstep p t) := by
  unfold SV.fstep
  rw [h.base, h.last]
  by_cases q : partN S.base t.1 S.last < p
  · rw [if_pos q]
    have qp : p ≠ partN S.base t.1 S.last := by omega
    refine ⟨rfl, rfl, h.many, ?_, ?_, fun k hk => ?_, fun k => ?_, fun nd => addK_nodup (h.nodup nd), ?_⟩
    · show S'.moves + 1 = _; rw [h.moves]; simp [q]; omega
    · show upB S'.B _ _ p = _; rw [upB_other qp, h.same]; simp [q]
    · show upB S'.B _ _ k = _
      by_cases e : k = partN S.base t.1 S.last
      · subst e; rw [upB_same, h.other _ hk]; simp [q]
      · have e' : ¬ partN S.base t.1 S.last = k := fun z => e z.symm
        rw [upB_other e, h.other k hk]; simp [e']
    · show k ∈ addK S'.keys _ ↔ _
      rw [addK_iff, h.keys]
      constructor
      · rintro ((a | ⟨t', a, b, c⟩) | rfl)
        · exact .inl a
        · exact .inr ⟨t', by simp [a], b, c⟩
        · exact .inr ⟨t, by simp, q, rfl⟩
      · rintro (a | ⟨t', a, b, c⟩)
        · exact .inl (.inl a)
        · rcases List.mem_append.mp a with a | a
          · exact .inl (.inr ⟨t', a, b, c⟩)
          · have : t' = t := by simpa using a
            subst this; exact .inr c.symm
    · show (addK S'.keys _).length ≤ _
      have := h.len
      have : (addK S'.keys (partN S.base t.1 S.last)).length ≤ S'.keys.length + 1 := by unfold addK; split <;> simp
      simp; omega
  · rw [if_neg q]
    refine ⟨rfl, rfl, h.many, ?_, ?_, fun k hk => ?_, fun k => ?_, h.nodup, ?_⟩
    · rw [List.filter_append]; simp [q, h.moves]
    · show upB S'.B p _ p = _; rw [upB_same, h.same]; simp [q]
    · show upB S'.B p _ k = _; rw [upB_other hk, h.other k hk]; simp [q]
    · show k ∈ S'.keys ↔ _
      rw [h.keys]
      constructor
      · rintro (a | ⟨t', a, b, c⟩)
        · exact .inl a
        · exact .inr ⟨t', by simp [a], b, c⟩
      · rintro (a | ⟨t', a, b, c⟩)
        · exact .inl a
        · rcases List.mem_append.mp a with a | a
          · exact .inr ⟨t', a, b, c⟩
          · have : t' = t := by simpa using a
            subst this; exact absurd b q
    · have := h.len
      show S'.keys.length ≤ _
      simp; omega
theorem fell {p : Nat} {S : SV} : ∀ (m : Nat) (r : List Thing), m ≤ r.length → Fell p S (r.take m) ((r.take m).foldl (SV.fstep p) S)
  | 0, r, _ => ⟨rfl, rfl, rfl, by simp, by simp, fun k _ => by simp, fun k => by simp, id, by simp⟩
  | m + 1, r, h => by
    have e : r.take (m + 1) = r.take m ++ [r[m]] := by rw [List.take_add_one]; simp [show m < r.length by omega]
    rw [e, List.foldl_append]
    exact fell_step (fell m r (by omega)) _
theorem fallen_is (S : SV) (p : Nat) : Fell p (S.start p) (S.B p) (S.fallen p) := by
  have := fell (S := S.start p) (p := p) (S.B p).length (S.B p) (Nat.le_refl _)
  rwa [List.take_length] at this

abbrev Pr := Nat × Str
/-- the store holds the things of L, in this order as far as numbers agree -/
structure Inv (S : SV) (L : List Pr) : Prop where
  base : 2 ≤ S.base
  at_ : ∀ k, ∀ t ∈ S.B k, partN S.base t.1 S.last = k ∧ S.last ≤ t.1
  empt : ∀ k, k ∉ S.keys → S.B k = []
  fifo : ∀ x, ((S.B (partN S.base x S.last)).filter fun t => decide (t.1 = x)).map (fun t => t.2.1) = (L.filter fun t => decide (t.1 = x)).map (fun t => t.2)
  many : S.many = L.length
theorem Inv.toB {S : SV} {L : List Pr} (I : Inv S L) {t : Pr} (h : t ∈ L) : ∃ c, (t.1, t.2, c) ∈ S.B (partN S.base t.1 S.last) := by
  have h1 : t.2 ∈ (L.filter fun t' => decide (t'.1 = t.1)).map (fun t => t.2) := List.mem_map.mpr ⟨t, List.mem_filter.mpr ⟨h, by simp⟩, rfl⟩
  rw [← I.fifo] at h1
  obtain ⟨⟨x, nm, c⟩, h2, h3⟩ := List.mem_map.mp h1
  obtain ⟨h4, h5⟩ := List.mem_filter.mp h2
  simp at h3 h5
  exact ⟨c, by rw [← h5, ← h3]; rw [← h5] at h4; exact h4⟩
theorem Inv.toL {S : SV} {L : List Pr} (I : Inv S L) {k : Nat} {t : Thing} (h : t ∈ S.B k) : (t.1, t.2.1) ∈ L := by
  obtain ⟨h1, _⟩ := I.at_ k t h
  have h2 : t.2.1 ∈ ((S.B (partN S.base t.1 S.last)).filter fun t' => decide (t'.1 = t.1)).map (fun t => t.2.1) := List.mem_map.mpr ⟨t, List.mem_filter.mpr ⟨by rw [h1]; exact h, by simp⟩, rfl⟩
  rw [I.fifo] at h2
  obtain ⟨⟨x, nm⟩, h2, h3⟩ := List.mem_map.mp h2
  obtain ⟨h4, h5⟩ := List.mem_filter.mp h2
  simp at h3 h5
  rw [← h5, ← h3]; exact h4
theorem Inv.last_le {S : SV} {L : List Pr} (I : Inv S L) {t : Pr} (h : t ∈ L) : S.last ≤ t.1 := by
  obtain ⟨c, h⟩ := I.toB h
  exact (I.at_ _ _ h).2
theorem Inv.some {S : SV} {L : List Pr} (I : Inv S L) (h : L ≠ []) : ∃ k ∈ S.keys, S.B k ≠ [] := by
  obtain ⟨t, ht⟩ := List.exists_mem_of_ne_nil _ h
  obtain ⟨c, h⟩ := I.toB ht
  refine ⟨_, Classical.byContradiction fun q => ?_, List.ne_nil_of_mem h⟩
  rw [I.empt _ q] at h; cases h
theorem Inv.low {S : SV} {L : List Pr} (I : Inv S L) (h : L ≠ []) : IsLow S S.low := low_is (I.some h)
theorem Inv.below {S : SV} {L : List Pr} (I : Inv S L) {p : Nat} (hp : IsLow S p) {k : Nat} (hk : k < p) : S.B k = [] := Classical.byContradiction fun q => by
  have := hp.le k (Classical.byContradiction fun z => q (I.empt k z)) q
  omega
theorem Inv.new {b : Nat} (hb : 2 ≤ b) : Inv (SV.new b) [] := ⟨hb, fun k t h => by simp [SV.new] at h, fun _ _ => rfl, fun x => rfl, rfl⟩
theorem Inv.put {S : SV} {L : List Pr} (I : Inv S L) {x : Nat} {nm : Str} (hx : S.last ≤ x) : Inv (S.put x nm) (L ++ [(x, nm)]) := by
  refine ⟨I.base, fun k t h => ?_, fun k h => ?_, fun y => ?_, ?_⟩
  · change t ∈ upB S.B (partN S.base x S.last) (S.B (partN S.base x S.last) ++ [(x, nm, 0)]) k at h
    show partN S.base t.1 S.last = k ∧ S.last ≤ t.1
    by_cases q : k = partN S.base x S.last
    · subst q
      rw [upB_same] at h
      rcases List.mem_append.mp h with h | h
      · exact I.at_ _ t h
      · have : t = (x, nm, 0) := by simpa using h
        subst this; exact ⟨rfl, hx⟩
    · rw [upB_other q] at h; exact I.at_ k t h
  · change k ∉ addK S.keys _ at h
    show upB S.B (partN S.base x S.last) (S.B (partN S.base x S.last) ++ [(x, nm, 0)]) k = []
    rw [addK_iff, not_or] at h
    rw [upB_other h.2]; exact I.empt k h.1
  · show ((upB S.B (partN S.base x S.last) (S.B (partN S.base x S.last) ++ [(x, nm, 0)]) (partN S.base y S.last)).filter _).map _ = _
    rw [List.filter_append, List.map_append, ← I.fifo y]
    by_cases e : x = y
    · subst e; rw [upB_same]; simp
    · have e' : ¬ ((x, nm) : Pr).1 = y := e
      by_cases q : partN S.base y S.last = partN S.base x S.last
      · rw [← q, upB_same]; simp [e]
      · rw [upB_other q]; simp [e]
  · show S.many + 1 = _; rw [I.many]; simp
/-- after the fall -/
theorem Inv.fallen {S : SV} {L : List Pr} (I : Inv S L) {p : Nat} (hp : IsLow S p) : Inv (S.fallen p) L ∧ (0 < p → (S.fallen p).B 0 ≠ []) := by
  have F := fallen_is S p
  have hb := I.base
  obtain ⟨m, hm⟩ : ∃ m, m = minN ((S.B p).map (·.1)) := ⟨_, rfl⟩
  have e1 : (S.start p).last = m := hm.symm
  have e2 : (S.start p).base = S.base := rfl
  have ne : (S.B p).map (·.1) ≠ [] := by simpa using hp.ne
  obtain ⟨tm, htm, em⟩ := List.mem_map.mp (hm ▸ minN_mem ne)
  have hmp : partN S.base m S.last = p := by rw [← em]; exact (I.at_ p tm htm).1
  have hle : ∀ t ∈ S.B p, m ≤ t.1 := fun t ht => hm ▸ minN_le (List.mem_map.mpr ⟨t, ht, rfl⟩)
  have hpp : ∀ t ∈ S.B p, partN S.base t.1 m ≤ p := fun t ht => partN_both hb (Nat.le_of_eq (I.at_ p t ht).1) (Nat.le_of_eq hmp)
  have hsame : (S.fallen p).B p = (S.B p).filter fun t => !decide (partN S.base t.1 m < p) := by
    have := F.same; rw [e1, e2] at this; rw [this]; show upB S.B p [] p ++ _ = _; rw [upB_same]; rfl
  have hother : ∀ k, k ≠ p → (S.fallen p).B k = S.B k ++ ((S.B p).filter fun t => decide (partN S.base t.1 m < p) && decide (partN S.base t.1 m = k)).map bump := fun k hk => by
    have := F.other k hk; rw [e1, e2] at this; rw [this]; show upB S.B p [] k ++ _ = _; rw [upB_other hk]
  have hlast : (S.fallen p).last = m := F.last.trans e1
  have hbase : (S.fallen p).base = S.base := F.base
  have hat : ∀ k, ∀ t ∈ (S.fallen p).B k, (partN S.base t.1 m = k ∧ m ≤ t.1) ∧ ∃ c, (t.1, t.2.1, c) ∈ S.B (partN S.base t.1 S.last) := fun k t ht => by
    by_cases q : k = p
    · subst q
      rw [hsame] at ht
      obtain ⟨h1, h2⟩ := List.mem_filter.mp ht
      have h3 := hpp t h1
      have h4 : ¬ partN S.base t.1 m < k := by simpa using h2
      exact ⟨⟨by omega, hle t h1⟩, t.2.2, by rw [(I.at_ k t h1).1]; exact h1⟩
    · rw [hother k q] at ht
      rcases List.mem_append.mp ht with h | h
      · have hk : p < k := by
          rcases Nat.lt_or_ge p k with z | z
          · exact z
          · rw [I.below hp (k := k) (by omega)] at h; cases h
        have h5 := I.at_ k t h
        exact ⟨⟨partN_far hb (Nat.le_of_eq hmp) h5.1 hk, Nat.le_of_lt (partN_lt hb (Nat.le_of_eq hmp) h5.1 hk h5.2)⟩, t.2.2, by rw [h5.1]; exact h⟩
      · obtain ⟨t', h1, rfl⟩ := List.mem_map.mp h
        obtain ⟨h1, h2⟩ := List.mem_filter.mp h1
        rw [Bool.and_eq_true, decide_eq_true_eq, decide_eq_true_eq] at h2
        exact ⟨⟨h2.2, hle t' h1⟩, t'.2.2, by show _ ∈ S.B (partN S.base t'.1 S.last); rw [(I.at_ p t' h1).1]; exact h1⟩
  refine ⟨⟨by rw [hbase]; exact hb, fun k t ht => by rw [hlast, hbase]; exact (hat k t ht).1, fun k hk => ?_, fun x => ?_, F.many.trans I.many⟩, fun h0 => ?_⟩
  · have h1 := (not_congr (F.keys k)).mp hk
    rw [not_or, e1, e2] at h1
    have h2 : S.B k = [] := I.empt k h1.1
    have h3 : k ≠ p := fun e => hp.ne (e ▸ h2)
    rw [hother k h3, h2, List.nil_append, List.map_eq_nil_iff, List.filter_eq_nil_iff]
    intro t ht q
    rw [Bool.and_eq_true, decide_eq_true_eq, decide_eq_true_eq] at q
    exact h1.2 ⟨t, ht, q.1, q.2⟩
  · rw [hlast, hbase, ← I.fifo x]
    by_cases hx : partN S.base x S.last = p
    · rw [hx]
      have hxm : partN S.base x m ≤ p := partN_both hb (Nat.le_of_eq hx) (Nat.le_of_eq hmp)
      by_cases q : partN S.base x m = p
      · rw [q, hsame, List.filter_filter]
        congr 1
        refine List.filter_congr fun t _ => ?_
        by_cases e : t.1 = x
        · rw [e]; simp [q]
        · simp [e]
      · have h0 : S.B (partN S.base x m) = [] := I.below hp (by omega)
        rw [hother _ q, h0, List.nil_append, List.filter_map, List.map_map, List.filter_filter]
        show ((S.B p).filter _).map (fun t => t.2.1) = _
        congr 1
        refine List.filter_congr fun t _ => ?_
        show (decide (t.1 = x) && _) = _
        by_cases e : t.1 = x
        · rw [e]; simp; omega
        · simp [e]
    · rcases Nat.lt_or_ge p (partN S.base x S.last) with z | z
      · have h1 := partN_far hb (Nat.le_of_eq hmp) rfl z
        rw [h1, hother _ (by omega)]
        have : ((S.B p).filter fun t => decide (partN S.base t.1 m < p) && decide (partN S.base t.1 m = partN S.base x S.last)) = [] := by
          rw [List.filter_eq_nil_iff]
          intro t ht q
          rw [Bool.and_eq_true, decide_eq_true_eq, decide_eq_true_eq] at q
          omega
        rw [this]; simp
      · have h0 : S.B (partN S.base x S.last) = [] := I.below hp (by omega)
        rw [h0]
        show _ = []
        rw [List.map_eq_nil_iff, List.filter_eq_nil_iff]
        intro t ht q
        have e : t.1 = x := by simpa using q
        obtain ⟨c, h9⟩ := (hat _ t ht).2
        rw [e, h0] at h9; cases h9
  · rw [hother 0 (by omega)]
    have : bump tm ∈ S.B 0 ++ ((S.B p).filter fun t => decide (partN S.base t.1 m < p) && decide (partN S.base t.1 m = 0)).map bump := by
      refine List.mem_append.mpr (.inr (List.mem_map.mpr ⟨tm, List.mem_filter.mpr ⟨htm, ?_⟩, rfl⟩))
      rw [em, partN_self]; simp [h0]
    exact List.ne_nil_of_mem this
theorem Inv.fall {S : SV} {L : List Pr} (I : Inv S L) (h : L ≠ []) : Inv S.fall L ∧ S.fall.B 0 ≠ [] := by
  have hp := I.low h
  unfold SV.fall
  split
  · rename_i q
    have := I.fallen hp
    exact ⟨this.1, this.2 q⟩
  · rename_i q
    refine ⟨I, ?_⟩
    have := hp.ne
    rwa [show S.low = 0 by omega] at this
/-- the thing that goes is the first of the least ones -/
theorem Inv.take {S : SV} {A R : List Pr} {x : Nat} {nm : Str} (I : Inv S (A ++ (x, nm) :: R)) (hA : ∀ t ∈ A, x < t.1) (hR : ∀ t ∈ R, x ≤ t.1) :
    ∃ c rest, S.fall.B 0 = (x, nm, c) :: rest ∧ Inv S.take (A ++ R) ∧ S.fall.last = x := by
  obtain ⟨I', hne⟩ := I.fall (by simp)
  have hl : S.fall.last = x := by
    have h1 : S.fall.last ≤ x := I'.last_le (t := (x, nm)) (by simp)
    obtain ⟨t, ht⟩ := List.exists_mem_of_ne_nil _ hne
    have h2 := partN_eq I'.base (I'.at_ 0 t ht).1
    have h3 := I'.toL ht
    rcases List.mem_append.mp h3 with h3 | h3
    · have := hA _ h3; simp at this; omega
    · rcases List.mem_cons.mp h3 with h3 | h3
      · have : t.1 = x := congrArg Prod.fst h3
        omega
      · have := hR _ h3; simp at this; omega
  have e0 : partN S.fall.base x S.fall.last = 0 := by rw [hl, partN_self]
  have hall : (S.fall.B 0).filter (fun t => decide (t.1 = x)) = S.fall.B 0 := by
    rw [List.filter_eq_self]
    intro t ht
    have := partN_eq I'.base (I'.at_ 0 t ht).1
    simp; omega
  have hA' : A.filter (fun t => decide (t.1 = x)) = [] := by
    rw [List.filter_eq_nil_iff]; intro t ht; have := hA t ht; simp; omega
  have hf := I'.fifo x
  rw [e0, hall, List.filter_append, hA'] at hf
  simp at hf
  cases q : S.fall.B 0 with
  | nil => exact absurd q hne
  | cons t rest =>
    rw [q] at hf hall
    simp at hf
    have ht1 : t.1 = x := by
      have := List.filter_eq_self.mp hall t (by simp)
      simpa using this
    refine ⟨t.2.2, rest, ?_, ⟨I'.base, fun k t' ht' => ?_, fun k hk => ?_, fun y => ?_, ?_⟩, hl⟩
    · rw [← ht1, ← hf.1]
    · change t' ∈ upB S.fall.B 0 (S.fall.B 0).tail k at ht'
      by_cases z : k = 0
      · subst z; rw [upB_same] at ht'; exact I'.at_ 0 t' (List.mem_of_mem_tail ht')
      · rw [upB_other z] at ht'; exact I'.at_ k t' ht'
    · change k ∉ S.fall.keys at hk
      show upB S.fall.B 0 (S.fall.B 0).tail k = []
      by_cases z : k = 0
      · subst z; rw [upB_same, I'.empt 0 hk]; rfl
      · rw [upB_other z]; exact I'.empt k hk
    · show ((upB S.fall.B 0 (S.fall.B 0).tail (partN S.fall.base y S.fall.last)).filter _).map _ = _
      have hy := I'.fifo y
      by_cases z : y = x
      · subst z
        rw [e0, upB_same, q, List.filter_append, hA']
        have hrest : rest.filter (fun t => decide (t.1 = y)) = rest := by
          rw [List.filter_eq_self]; intro t' ht'; exact List.filter_eq_self.mp hall t' (by simp [ht'])
        show (rest.filter _).map _ = _
        rw [hrest, hf.2]; simp
      · have z' : partN S.fall.base y S.fall.last ≠ 0 := fun e => z (by rw [partN_eq I'.base e, hl])
        have hx' : ¬ x = y := fun e => z e.symm
        rw [upB_other z', hy]
        simp [hx']
    · show S.fall.many - 1 = _
      rw [I'.many]; simp
def wt (B : Nat → List Thing) (k : Nat) : Nat := if k = 0 then (B k).length else max 1 (B k).length
def phi (S : SV) : Nat := (S.keys.map (wt S.B)).sum
theorem sum_upd {f g : Nat → Nat} {k : Nat} : ∀ {keys : List Nat}, keys.Nodup → k ∈ keys → (∀ j ∈ keys, j ≠ k → f j = g j) → (keys.map f).sum + g k = (keys.map g).sum + f k
  | a :: r, nd, hk, h => by
    rw [List.nodup_cons] at nd
    simp only [List.map_cons, List.sum_cons]
    by_cases e : a = k
    · subst e
      have : r.map f = r.map g := List.map_congr_left fun j hj => h j (List.mem_cons_of_mem _ hj) fun q => nd.1 (q ▸ hj)
      rw [this]; omega
    · have hk' : k ∈ r := by rcases List.mem_cons.mp hk with q | q
                             · exact absurd q.symm e
                             · exact q
      have := sum_upd (f := f) (g := g) nd.2 hk' fun j hj => h j (List.mem_cons_of_mem _ hj)
      rw [h a (List.mem_cons_self ..) e]; omega
theorem sum_mem {f : Nat → Nat} {k : Nat} : ∀ {keys : List Nat}, k ∈ keys → f k ≤ (keys.map f).sum
  | a :: r, hk => by
    simp only [List.map_cons, List.sum_cons]
    rcases List.mem_cons.mp hk with q | q
    · subst q; omega
    · have := sum_mem (f := f) q; omega
/-- how large a store is -/
structure Sz (S : SV) (N : Nat) : Prop where
  nodup : S.keys.Nodup
  empt : ∀ k, k ∉ S.keys → S.B k = []
  le : phi S ≤ N
theorem Sz.len {S : SV} {N : Nat} (z : Sz S N) (k : Nat) : (S.B k).length ≤ N := by
  by_cases h : k ∈ S.keys
  · have h1 : wt S.B k ≤ phi S := sum_mem h
    have h2 := z.le
    unfold wt at h1; split at h1 <;> omega
  · rw [z.empt k h]; simp
theorem len_sum {f : Nat → Nat} : ∀ {keys : List Nat}, keys.Nodup → (∀ k ∈ keys, k ≠ 0 → 1 ≤ f k) → keys.length ≤ (keys.map f).sum + 1
  | [], _, _ => by simp
  | a :: r, nd, h => by
    rw [List.nodup_cons] at nd
    simp only [List.map_cons, List.sum_cons, List.length_cons]
    by_cases e : a = 0
    · subst e
      have : ∀ (r : List Nat), 0 ∉ r → (∀ k ∈ r, k ≠ 0 → 1 ≤ f k) → r.length ≤ (r.map f).sum := fun r => by
        induction r with
        | nil => simp
        | cons b r ih =>
          intro h0 h1
          simp only [List.map_cons, List.sum_cons, List.length_cons]
          have := h1 b (List.mem_cons_self ..) fun q => h0 (q ▸ List.mem_cons_self ..)
          have := ih (fun q => h0 (List.mem_cons_of_mem _ q)) fun k hk => h1 k (List.mem_cons_of_mem _ hk)
          omega
      have := this r nd.1 fun k hk => h k (List.mem_cons_of_mem _ hk)
      omega
    · have := h a (List.mem_cons_self ..) e
      have := len_sum nd.2 fun k hk => h k (List.mem_cons_of_mem _ hk)
      omega
theorem Sz.keys {S : SV} {N : Nat} (z : Sz S N) : S.keys.length ≤ N + 1 := by
  have := len_sum (f := wt S.B) z.nodup fun k _ hk => by unfold wt; rw [if_neg hk]; omega
  have := z.le
  unfold phi at this; omega
theorem Sz.new {b : Nat} : Sz (SV.new b) 0 := ⟨by simp [SV.new], fun _ _ => rfl, by simp [phi, SV.new]⟩
/-- a change at one place that is there -/
theorem Sz.upd {S S' : SV} {N k : Nat} (z : Sz S N) (hk : k ∈ S.keys) (hK : S'.keys = S.keys) (hB : ∀ j, j ≠ k → S'.B j = S.B j) {M : Nat} (hM : N + wt S'.B k ≤ M + wt S.B k) : Sz S' M := by
  refine ⟨hK ▸ z.nodup, fun j hj => ?_, ?_⟩
  · rw [hK] at hj
    rw [hB j fun e => hj (e ▸ hk)]; exact z.empt j hj
  · have h1 := sum_upd (f := wt S'.B) (g := wt S.B) z.nodup hk fun j _ hj => by unfold wt; rw [hB j hj]
    have := z.le
    unfold phi at this ⊢
    rw [hK]; omega
theorem Sz.laid {S S' : SV} {N k : Nat} {t : Thing} (z : Sz S N) (hK : S'.keys = addK S.keys k) (hB : S'.B = upB S.B k (S.B k ++ [t])) : Sz S' (N + 1) := by
  by_cases hk : k ∈ S.keys
  · refine z.upd hk (by rw [hK]; exact if_pos hk) (fun j hj => by rw [hB, upB_other hj]) ?_
    unfold wt; rw [hB, upB_same]; simp; split <;> omega
  · have ek : addK S.keys k = S.keys ++ [k] := if_neg hk
    refine ⟨hK ▸ addK_nodup z.nodup, fun j hj => ?_, ?_⟩
    · rw [hK, addK_iff, not_or] at hj
      rw [hB, upB_other hj.2]; exact z.empt j hj.1
    · unfold phi
      rw [hK, ek, List.map_append, List.sum_append, hB]
      have h1 : S.keys.map (wt (upB S.B k (S.B k ++ [t]))) = S.keys.map (wt S.B) := List.map_congr_left fun j hj => by
        have n : j ≠ k := fun e => hk (e ▸ hj)
        unfold wt; rw [upB_other n]
      have h2 : wt (upB S.B k (S.B k ++ [t])) k = 1 := by
        unfold wt; rw [upB_same, z.empt k hk]; simp
      have := z.le
      unfold phi at this
      rw [h1]; simp [h2]; omega
theorem Sz.put {S : SV} {N x : Nat} {nm : Str} (z : Sz S N) : Sz (S.put x nm) (N + 1) := z.laid (S' := S.put x nm) rfl rfl
theorem Sz.fstep {S : SV} {N p : Nat} {t : Thing} (z : Sz S N) (hp : p ∈ S.keys) : Sz (S.fstep p t) (N + 1) ∧ p ∈ (S.fstep p t).keys := by
  unfold SV.fstep
  split
  · exact ⟨z.laid (t := bump t) rfl rfl, addK_iff.mpr (.inl hp)⟩
  · refine ⟨z.upd (S' := { S with B := upB S.B p (S.B p ++ [t]) }) hp rfl (fun j hj => upB_other hj) ?_, hp⟩
    show N + wt (upB S.B p (S.B p ++ [t])) p ≤ _
    unfold wt; rw [upB_same]; simp; split <;> omega
theorem Sz.fold {p : Nat} : ∀ (r : List Thing) {S : SV} {N : Nat}, Sz S N → p ∈ S.keys → Sz (r.foldl (SV.fstep p) S) (N + r.length)
  | [], _, _, z, _ => z
  | t :: r, S, N, z, hp => by
    have h1 := z.fstep (t := t) hp
    have := Sz.fold r h1.1 h1.2
    rw [List.foldl_cons, List.length_cons, show N + (r.length + 1) = N + 1 + r.length by omega]; exact this
theorem Sz.start {S : SV} {N p : Nat} (z : Sz S N) (hp : IsLow S p) (h0 : 0 < p) : Sz (S.start p) (N + 1 - (S.B p).length) ∧ p ∈ (S.start p).keys := by
  refine ⟨z.upd (S' := S.start p) hp.mem rfl (fun j hj => upB_other hj) ?_, hp.mem⟩
  have h1 := z.len p
  show N + wt (upB S.B p []) p ≤ _
  have : 0 < (S.B p).length := List.length_pos_iff.mpr hp.ne
  unfold wt; rw [upB_same, if_neg (by omega), if_neg (by omega)]; simp; omega
theorem Sz.fallen {S : SV} {N p : Nat} (z : Sz S N) (hp : IsLow S p) (h0 : 0 < p) : Sz (S.fallen p) (N + 1) := by
  have h1 := z.start hp h0
  have := Sz.fold (S.B p) h1.1 h1.2
  have h2 := z.len p
  rw [show N + 1 - (S.B p).length + (S.B p).length = N + 1 by omega] at this
  exact this
theorem Sz.pop {S : SV} {N : Nat} (z : Sz S N) (h : S.B 0 ≠ []) : Sz S.pop (N - 1) := by
  have h0 : 0 ∈ S.keys := Classical.byContradiction fun q => h (z.empt 0 q)
  have h1 : 0 < (S.B 0).length := List.length_pos_iff.mpr h
  have h2 := z.len 0
  refine z.upd (S' := S.pop) h0 rfl (fun j hj => upB_other hj) ?_
  show N + wt (upB S.B 0 (S.B 0).tail) 0 ≤ _
  unfold wt; rw [upB_same, if_pos rfl, if_pos rfl, List.length_tail]; omega
theorem Sz.mono {S : SV} {N M : Nat} (z : Sz S N) (h : N ≤ M) : Sz S M := ⟨z.nodup, z.empt, Nat.le_trans z.le h⟩
theorem Sz.take {S : SV} {N : Nat} {L : List Pr} (z : Sz S N) (I : Inv S L) (h : L ≠ []) : Sz S.take N := by
  have h1 := (I.fall h).2
  have hp := I.low h
  unfold SV.take
  by_cases q : 0 < S.low
  · have e : S.fall = S.fallen S.low := if_pos q
    rw [e] at h1 ⊢
    exact ((z.fallen hp q).pop h1).mono (by omega)
  · have e : S.fall = S := if_neg q
    rw [e] at h1 ⊢
    exact (z.pop h1).mono (by omega)

theorem Inv.least {S : SV} {A R : List Pr} {x : Nat} {nm : Str} (I : Inv S (A ++ (x, nm) :: R)) (hA : ∀ t ∈ A, x < t.1) (hR : ∀ t ∈ R, x ≤ t.1) {A' R' : List Thing} {t : Thing} (e : S.B S.low = A' ++ t :: R') (hA' : ∀ a ∈ A', t.1 < a.1) (hR' : ∀ a ∈ R', t.1 ≤ a.1) : t.1 = x ∧ t.2.1 = nm := by
  have hp := I.low (by simp)
  have hb := I.base
  have ht : t ∈ S.B S.low := by rw [e]; simp
  have h1 := I.at_ _ t ht
  obtain ⟨c, hx⟩ := I.toB (t := (x, nm)) (by simp)
  have h2 := I.at_ _ _ hx
  have hxt : x ≤ t.1 := by
    have h3 := I.toL ht
    rcases List.mem_append.mp h3 with h3 | h3
    · have := hA _ h3; (try simp at this); omega
    · rcases List.mem_cons.mp h3 with h3 | h3
      · have : t.1 = x := congrArg Prod.fst h3
        omega
      · have := hR _ h3; (try simp at this); omega
  have hk : partN S.base x S.last = S.low := by
    have h4 : S.low ≤ partN S.base x S.last := hp.le _ (Classical.byContradiction fun z => by rw [I.empt _ z] at hx; cases hx) (List.ne_nil_of_mem hx)
    rcases Nat.lt_or_ge S.low (partN S.base x S.last) with z | z
    · have := partN_lt hb (Nat.le_of_eq h1.1) rfl z h2.2
      (try simp at this); omega
    · omega
  have htx : t.1 ≤ x := by
    change (x, nm, c) ∈ S.B (partN S.base x S.last) at hx
    rw [hk, e] at hx
    rcases List.mem_append.mp hx with z | z
    · have := hA' _ z; (try simp at this); omega
    · rcases List.mem_cons.mp z with z | z
      · have : x = t.1 := congrArg Prod.fst z
        omega
      · have := hR' _ z; (try simp at this); omega
  have ex : t.1 = x := by omega
  refine ⟨ex, ?_⟩
  have hf := I.fifo x
  have z1 : A'.filter (fun t => decide (t.1 = x)) = [] := by
    rw [List.filter_eq_nil_iff]; intro a ha; have := hA' a ha; simp; omega
  have z2 : A.filter (fun t => decide (t.1 = x)) = [] := by
    rw [List.filter_eq_nil_iff]; intro a ha; have := hA a ha; simp; omega
  rw [hk, e, List.filter_append, List.filter_append, z1, z2, List.filter_cons, List.filter_cons] at hf
  simp [ex] at hf
  exact hf.1
theorem range_bind {α β : Type} (f : α → Option β) : ∀ l : List α, (List.range l.length).filterMap (fun i => (l[i]?).bind f) = l.filterMap f
  | [] => rfl
  | a :: l => by
    have ih := range_bind f l
    rw [List.length_cons, List.range_succ_eq_map, List.filterMap_cons, List.filterMap_map, List.filterMap_cons]
    have e : (fun i => ((a :: l)[i]?).bind f) ∘ Nat.succ = fun i => (l[i]?).bind f := by funext i; simp
    rw [e, ih]; simp
theorem fall_many (S : SV) : S.fall.many = S.many := by
  unfold SV.fall; split
  · exact (fallen_is S S.low).many
  · rfl
theorem fall_base (S : SV) : S.fall.base = S.base := by
  unfold SV.fall; split
  · exact (fallen_is S S.low).base
  · rfl
theorem fallen_len {S : SV} {N p : Nat} (hz : ∀ k, (S.B k).length ≤ N) (k : Nat) : ((S.fallen p).B k).length ≤ N + N := by
  have FE := fallen_is S p
  have h9 := hz k
  have h8 := hz p
  have hS0 : ((S.start p).B k).length ≤ (S.B k).length := by
    show (upB S.B p [] k).length ≤ _
    by_cases q : k = p
    · rw [q, upB_same]; simp
    · rw [upB_other q]; omega
  have hf : ∀ f : Thing → Bool, ((S.B p).filter f).length ≤ (S.B p).length := fun f => List.length_filter_le _ _
  by_cases q : k = p
  · rw [q, FE.same, List.length_append]
    have := hf fun t => !decide (partN (S.start p).base t.1 (S.start p).last < p)
    rw [q] at hS0; omega
  · rw [FE.other k q, List.length_append, List.length_map]
    have := hf fun t => decide (partN (S.start p).base t.1 (S.start p).last < p) && decide (partN (S.start p).base t.1 (S.start p).last = k)
    omega
theorem fall_len {S : SV} {N : Nat} (hz : ∀ k, (S.B k).length ≤ N) (k : Nat) : (S.fall.B k).length ≤ N + N := by
  unfold SV.fall; split
  · exact fallen_len hz k
  · have := hz k; omega
theorem low_filter {β : Type} (B : Nat → List Thing) (f : Nat → β) (keys : List Nat) : ((List.range keys.length).filterMap fun i => (keys[i]?).bind fun k => if B k = [] then none else some (f k)) = (keys.filter fun k => !(B k).isEmpty).map f := by
  rw [range_bind]
  induction keys with
  | nil => rfl
  | cons a l ih =>
    rw [List.filterMap_cons, List.filter_cons, ih]
    by_cases q : B a = [] <;> simp [q]
theorem Frame.ofExt {ν ν' : Nu} {fp : List Addr} (x : Ext ν ν') : Frame ν fp ν' fp := ⟨fun a _ hn => by
  cases q : ν a with
  | none => exact absurd q hn
  | some o => exact x a o q, fun _ h => .inl h, fun a hn => by
  cases q : ν a with
  | none => exact absurd q hn
  | some o => rw [x a o q]; simp⟩
theorem low_list (B : Nat → List Thing) (keys : List Nat) : ((List.range keys.length).filterMap fun i => (keys[i]?).bind fun k => if B k = [] then none else some (D.int k)) = (keys.filter fun k => !(B k).isEmpty).map (D.int ∘ fun (k : Nat) => (k : Int)) := low_filter B (fun (k : Nat) => D.int k) keys

section
variable {C : Cx} {ν : Nu} {st dd bk : Addr} {adr : Nat → Addr} {S : SV}
/-- a bucket's list changed where it lies -/
theorem StoreAs.setList (H : StoreAs C ν st dd bk adr S) {k : Nat} (hk : k ∈ S.keys) (ts : List Thing) :
    StoreAs C (upd ν (adr k) (.lst (ts.map thD))) st dd bk adr { S with B := upB S.B k ts } ∧ Frame ν (fpOf dd bk adr S) (upd ν (adr k) (.lst (ts.map thD))) (fpOf dd bk adr { S with B := upB S.B k ts }) := by
  have hl := H.lists k hk
  obtain ⟨T, hT, hst⟩ := H.inst
  refine ⟨⟨⟨T, hT, ?_⟩, ?_, ?_, fun j hj => ?_, H.adrs, H.nodup, fun j hj => ?_⟩, ⟨fun a ha hn => ?_, fun a ha => .inl ha, fun a hn => ?_⟩⟩
  · rw [upd_other (StoreAs.ne_of hst hl nofun)]; exact hst
  · rw [upd_other (StoreAs.ne_of H.ns hl nofun)]; exact H.ns
  · rw [upd_other (StoreAs.ne_of H.dict hl nofun)]; exact H.dict
  · show _ = some (AObj.lst ((upB S.B k ts j).map thD))
    by_cases e : j = k
    · subst e; rw [upd_same, upB_same]
    · rw [upd_other fun q => e (nodup_at H.adrs hj hk q), upB_other e]; exact H.lists j hj
  · show upB _ _ _ j = []
    rw [upB_other fun e : j = k => hj (by rw [e]; exact hk)]; exact H.empt j hj
  · exact upd_other fun e => ha (by subst e; exact .tail _ (.tail _ (List.mem_map.mpr ⟨k, hk, rfl⟩)))
  · unfold upd; split
    · simp
    · exact hn
/-- a bucket's list put new in its place -/
theorem StoreAs.setKey (H : StoreAs C ν st dd bk adr S) {k : Nat} (hk : k ∈ S.keys) {r : Addr} (hr : ν r = none) :
    StoreAs C (upd (upd ν r (.lst [])) bk (.dI (setAt (dctD S.keys adr) (k : Int) (.ref r)))) st dd bk (fun j => if j = k then r else adr j) { S with B := upB S.B k [] } ∧
    Frame ν (fpOf dd bk adr S) (upd (upd ν r (.lst [])) bk (.dI (setAt (dctD S.keys adr) (k : Int) (.ref r)))) (fpOf dd bk (fun j => if j = k then r else adr j) { S with B := upB S.B k [] }) ∧
    upd (upd ν r (.lst [])) bk (.dI (setAt (dctD S.keys adr) (k : Int) (.ref r))) (adr k) = some (.lst ((S.B k).map thD)) ∧ adr k ∉ fpOf dd bk (fun j => if j = k then r else adr j) { S with B := upB S.B k [] } := by
  obtain ⟨T, hT, hst⟩ := H.inst
  have nr : ∀ a o, ν a = some o → a ≠ r := fun a o e q => by rw [q, hr] at e; cases e
  have hl := H.lists k hk
  refine ⟨⟨⟨T, hT, ?_⟩, ?_, ?_, fun j hj => ?_, ?_, H.nodup, fun j hj => ?_⟩, ⟨fun a ha hn => ?_, fun a ha => ?_, fun a hn => ?_⟩, ?_, fun ha => ?_⟩
  · rw [upd_other (StoreAs.ne_of hst H.dict nofun), upd_other (nr _ _ hst)]; exact hst
  · rw [upd_other (StoreAs.ne_of H.ns H.dict nofun), upd_other (nr _ _ H.ns)]; exact H.ns
  · rw [upd_same, dctD_set_old hk H.nodup]
  · show upd _ _ _ (if j = k then r else adr j) = some (AObj.lst ((upB S.B k [] j).map thD))
    by_cases e : j = k
    · subst e
      rw [if_pos rfl, upd_other (nr _ _ H.dict).symm, upd_same, upB_same]; rfl
    · rw [if_neg e, upd_other (StoreAs.ne_of (H.lists j hj) H.dict nofun), upd_other (nr _ _ (H.lists j hj)), upB_other e]
      exact H.lists j hj
  · show (S.keys.map (fun j => if j = k then r else adr j)).Nodup
    have : ∀ (ks : List Nat), (∀ j ∈ ks, j ∈ S.keys) → ks.Nodup → (ks.map (fun j => if j = k then r else adr j)).Nodup := fun ks => by
      induction ks with
      | nil => intro _ _; simp
      | cons x xs ih =>
        intro hin nd
        rw [List.nodup_cons] at nd
        rw [List.map_cons, List.nodup_cons]
        refine ⟨fun q => ?_, ih (fun j hj => hin j (List.mem_cons_of_mem _ hj)) nd.2⟩
        obtain ⟨j, hj, e⟩ := List.mem_map.mp q
        have hxs := hin x (List.mem_cons_self ..)
        have hjs := hin j (List.mem_cons_of_mem _ hj)
        have hjx : j ≠ x := fun z => nd.1 (z ▸ hj)
        by_cases e1 : j = k
        · have e2 : ¬ x = k := fun z => hjx (e1.trans z.symm)
          rw [if_pos e1, if_neg e2] at e
          exact nr _ _ (H.lists x hxs) e.symm
        · rw [if_neg e1] at e
          by_cases e2 : x = k
          · rw [if_pos e2] at e; exact nr _ _ (H.lists j hjs) e
          · rw [if_neg e2] at e; exact hjx (nodup_at H.adrs hjs hxs e)
    exact this S.keys (fun _ h => h) H.nodup
  · show upB _ _ _ j = []
    rw [upB_other fun e : j = k => hj (by rw [e]; exact hk)]; exact H.empt j hj
  · rw [upd_other, upd_other]
    · exact fun q => hn (q ▸ hr)
    · exact fun q => ha (by subst q; exact .tail _ (.head _))
  · unfold fpOf at ha ⊢
    rcases List.mem_cons.mp ha with rfl | ha
    · exact .inl (.head _)
    rcases List.mem_cons.mp ha with rfl | ha
    · exact .inl (.tail _ (.head _))
    obtain ⟨j, hj, e⟩ := List.mem_map.mp ha
    by_cases e1 : j = k
    · have e2 : r = a := by simpa [e1] using e
      exact .inr (e2 ▸ hr)
    · have e2 : adr j = a := by simpa [e1] using e
      exact .inl (.tail _ (.tail _ (List.mem_map.mpr ⟨j, hj, e2⟩)))
  · unfold upd; split
    · simp
    · split
      · simp
      · exact hn
  · rw [upd_other (StoreAs.ne_of hl H.dict nofun), upd_other (nr _ _ hl)]; exact hl
  · unfold fpOf at ha
    rcases List.mem_cons.mp ha with e | ha
    · exact StoreAs.ne_of hl H.ns nofun e
    rcases List.mem_cons.mp ha with e | ha
    · exact StoreAs.ne_of hl H.dict nofun e
    obtain ⟨j, hj, e⟩ := List.mem_map.mp ha
    by_cases e1 : j = k
    · have e2 : r = adr k := by simpa [e1] using e
      exact nr _ _ hl e2.symm
    · have e2 : adr j = adr k := by simpa [e1] using e
      exact e1 (nodup_at H.adrs hj hk e2)
end
section
variable {C : Cx} {n : Nat} {ν : Nu} {Q : D → Nu → Prop}
theorem T2_eqSame {d : D} {p : PyData} (hd : PD C ν d p) (hp : p.canLay0 = true) (hh : p.depth ≤ 90) (h : Q (.bool true) ν) : T2 C n (compareOp .Eq) d d ν Q := T2_eqP hd hd hp hp (by omega) (by rw [eqv_refl hp]; exact h)
theorem T2_neSame {d : D} {p : PyData} (hd : PD C ν d p) (hp : p.canLay0 = true) (hh : p.depth ≤ 90) (h : Q (.bool false) ν) : T2 C n (compareOp .NotEq) d d ν Q := T2_neP hd hd hp hp (by omega) (by rw [eqv_refl hp]; exact h)
theorem pd_pair {x : Int} {nm : Str} : PD C ν (.tup [.int x, .str nm]) (.tuple [.int x, .str nm]) := .tup (.cons (.int _) (.cons (.str _) .nil))
theorem lay_pair {x : Int} {nm : Str} (h : NmOk nm) : (PyData.tuple [.int x, .str nm]).canLay0 = true := by
  unfold NmOk at h
  simp [PyData.canLay0, PyData.canLayAll0] at h ⊢
  exact h
theorem dep_pair {x : Int} {nm : Str} : (PyData.tuple [.int x, .str nm]).depth ≤ 90 := by
  simp [PyData.depth, PyData.depthAll]
/-- a list of pairs as data -/
def pairsP (ts : List Pr) : List PyData := ts.map fun t => .tuple [.int t.1, .str t.2]
theorem pds_pairs : ∀ {ts : List Pr}, PDs C ν (ts.map prD) (pairsP ts)
  | [] => .nil
  | _ :: _ => .cons pd_pair pds_pairs
theorem lay_pairs {ts : List Pr} (h : ∀ t ∈ ts, NmOk t.2) : PyData.canLayAll0 (pairsP ts) = true := by
  induction ts with
  | nil => rfl
  | cons t ts ih =>
    show (PyData.canLay0 _ && PyData.canLayAll0 (pairsP ts)) = true
    rw [lay_pair (h t (List.mem_cons_self ..)), ih fun t ht => h t (List.mem_cons_of_mem _ ht)]; rfl
/-- things != [] -/
theorem T2_neNil {a b : Addr} {ts : List Pr} (ha : seqOf (ν a) = some (ts.map prD)) (hb : seqOf (ν b) = some []) (hn : ∀ t ∈ ts, NmOk t.2) (h : Q (.bool (!decide (ts = []))) ν) : T2 C n (compareOp .NotEq) (.ref a) (.ref b) ν Q := by
  refine T2_neP (p := .list (pairsP ts)) (q := .list []) (.lst ha pds_pairs) (.lst hb .nil) (by simpa [PyData.canLay0] using lay_pairs hn) rfl ?_ ?_
  · have : (PyData.list []).depth ≤ 90 := by simp [PyData.depth, PyData.depthAll]
    omega
  · rw [eqv_nil]
    have : decide (pairsP ts = []) = decide (ts = []) := by cases ts <;> simp [pairsP]
    rw [this]; exact h
theorem T2_eqNil {a b : Addr} {ts : List Pr} (ha : seqOf (ν a) = some (ts.map prD)) (hb : seqOf (ν b) = some []) (hn : ∀ t ∈ ts, NmOk t.2) (h : Q (.bool (decide (ts = []))) ν) : T2 C n (compareOp .Eq) (.ref a) (.ref b) ν Q := by
  refine T2_eqP (p := .list (pairsP ts)) (q := .list []) (.lst ha pds_pairs) (.lst hb .nil) (by simpa [PyData.canLay0] using lay_pairs hn) rfl ?_ ?_
  · have : (PyData.list []).depth ≤ 90 := by simp [PyData.depth, PyData.depthAll]
    omega
  · rw [eqv_nil]
    have : decide (pairsP ts = []) = decide (ts = []) := by cases ts <;> simp [pairsP]
    rw [this]; exact h
theorem cutA {A R : List Pr} {t : Pr} : cut none (some (A.length : Int)) ((A ++ t :: R).map prD) = A.map prD := by simp [cut]
theorem cutR {A R : List Pr} {t : Pr} : cut (some ((A.length : Int) + 1)) none ((A ++ t :: R).map prD) = R.map prD := by
  have : ((A.length : Int) + 1).toNat = A.length + 1 := by omega
  simp [cut, this, List.drop_append]
theorem atA {A R : List Pr} {t : Pr} : ((A ++ t :: R).map prD)[((A.length : Int)).toNat]? = some (prD t) := by simp
theorem Inv.nilB {S : SV} (I : Inv S []) (k : Nat) : S.B k = [] := Classical.byContradiction fun q => by
  obtain ⟨t, ht⟩ := List.exists_mem_of_ne_nil _ q
  have := I.toL ht
  cases this
theorem rowsD_nil {B : Nat → List Thing} (h : ∀ k, B k = []) (ks : List Nat) : rowsD B ks = [] := by
  unfold rowsD
  induction ks with
  | nil => rfl
  | cons k ks ih => rw [List.flatMap_cons, h, ih]; rfl
end
end Mine

namespace Mine
open PySem PyProof.Rows PySem.W
section
variable {C : Cx} {n : Nat} {ν : Nu} {Q : D → Nu → Prop}
end
end Mine

namespace Mine
open PySem PyProof.Rows PySem.W
section
variable {C : Cx} {n : Nat} {ν : Nu} {Q : D → Nu → Prop}
end
end Mine

namespace Mine
open PySem PyProof.Rows PySem.W
section
variable {C : Cx} {n : Nat} {ν : Nu} {Q : D → Nu → Prop}
theorem TB_mono {sc : Scope} {l : Loc} {e : Expr} {P P' : Bool → Nu → Prop} (h : TB C n sc e l ν P) (hq : ∀ b ν', P b ν' → P' b ν') : TB C n sc e l ν P' := fun A env s hA R F => wpAny_mono (h A env s hA R F) (fun _ _ ⟨a, b, c, q⟩ => ⟨a, b, c, hq _ _ q⟩) fun _ _ x => x
/-- things[:k] + things[k + 1:], with the sum opened -/
theorem TE_cut2 {sc : Scope} {l : Loc} {ex ek ex' ek' : Expr} {p p' q q' : Pos} {th : Addr} {A R : List Pr} {t : Pr} (e : ν th = some (.lst ((A ++ t :: R).map prD))) (hz : A.length + R.length ≤ 10000)
    (h1 : ∀ ν Q, Q (.ref th) ν → TE C n sc ex l ν Q) (h2 : ∀ ν Q, Q (.int A.length) ν → TE C n sc ek l ν Q) (h3 : ∀ ν Q, Q (.ref th) ν → TE C n sc ex' l ν Q) (h4 : ∀ ν Q, Q (.int ((A.length : Int) + 1)) ν → TE C n sc ek' l ν Q)
    (h : ∀ ν' r, Ext ν ν' → ν r = none → ν' r = some (.lst ((A ++ R).map prD)) → Q (.ref r) ν')
    (ht : ∀ o r, letTemporaryGo ex o r = pure ()) (ht' : ∀ o r, letTemporaryGo ex' o r = pure ()) : TE C n sc (.Subscript ex (.Slice none (some ek) none p) p') l ν (fun d ν₁ => TE C n sc (.Subscript ex' (.Slice (some ek') none none q) q') l ν₁ (fun d' ν₂ => T2 C n (binaryOp .Add) d d' ν₂ Q)) := by
  refine TE_slice "list" slot_list_getitem.lookup (h1 _ _ ?_) ht
  show TE _ _ _ _ _ _ _
  refine h2 _ _ ⟨_, rfl, TSl_list (ds := (A ++ t :: R).map prD) (by rw [e]; rfl) (by simp; omega) (fun _ => nofun) (fun i hi => by cases hi; omega) fun r1 hr1 => ?_⟩
  rw [cutA]
  have Xa : Ext ν (upd ν r1 (.lst (A.map prD))) := Ext.refl.upd hr1
  have w1 : upd ν r1 (.lst (A.map prD)) r1 = some (.lst (A.map prD)) := upd_same
  obtain ⟨νa, ea⟩ : ∃ νa, νa = upd ν r1 (.lst (A.map prD)) := ⟨_, rfl⟩
  rw [← ea] at Xa w1 ⊢
  refine TE_slice "list" slot_list_getitem.lookup (h3 _ _ ?_) ht'
  show TE _ _ _ _ _ _ _
  refine h4 _ _ ⟨_, rfl, ?_⟩
  show TSl _ _ _ _ _ _ _ _
  refine TSl_list (ds := (A ++ t :: R).map prD) (by rw [Xa _ _ e]; rfl) (by simp; omega) (fun i hi => by cases hi; omega) (fun _ => nofun) fun r2 hr2 => ?_
  rw [cutR]
  have Xb : Ext νa (upd νa r2 (.lst (R.map prD))) := Ext.refl.upd hr2
  have w2 : upd νa r2 (.lst (R.map prD)) r2 = some (.lst (R.map prD)) := upd_same
  obtain ⟨νb, eb⟩ : ∃ νb, νb = upd νa r2 (.lst (R.map prD)) := ⟨_, rfl⟩
  rw [← eb] at Xb w2 ⊢
  refine T2_addL (xs := A.map prD) (ys := R.map prD) (by rw [Xb _ _ w1]; rfl) (by rw [w2]; rfl) (by simp; omega) fun r3 hr3 => ?_
  rw [← List.map_append]
  have Xc : Ext νb (upd νb r3 (.lst ((A ++ R).map prD))) := Ext.refl.upd hr3
  refine h _ r3 (Xa.trans (Xb.trans Xc)) ?_ upd_same
  cases z : ν r3 with
  | none => rfl
  | some o => rw [(Xa.trans Xb) _ _ z] at hr3; cases hr3
end
end Mine

namespace Mine
open PySem PyProof.Rows PySem.W
-- what holds in the loops of the laws; a constructor each, which keeps the terms small
inductive K1 (C : Cx) (st : Addr) (b N : Nat) (l' : Loc) (ν' : Nu) : Prop
  | mk (fp : List Addr) (th : Addr) (S : SV) (ts : List Pr) (H : StoreAt C ν' st fp S) (hb : S.base = b) (I : Inv S ts) (Z : Sz S N) (ht : ν' th = some (.lst (ts.map prD))) (o1 : th ∉ fp) (hn : ∀ t ∈ ts, NmOk t.2) (hl : ts.length ≤ N) (e : l' = [(Str.ofString "_law_store", .ref st), (Str.ofString "_law_things", .ref th)]) : K1 C st b N l' ν'
inductive K2 (C : Cx) (st sl : Addr) (b : Nat) (fr : Bool) (cs : List Int) (i : Nat) (l' : Loc) (ν' : Nu) : Prop
  | mk (fp : List Addr) (th : Addr) (S : SV) (ts : List Pr) (H : StoreAt C ν' st fp S) (hb : S.base = b) (I : Inv S ts) (Z : Sz S i) (ht : ν' th = some (.lst (ts.map prD))) (o1 : th ∉ fp) (nts : th ≠ sl) (hn : ∀ t ∈ ts, NmOk t.2) (hl : ts.length ≤ i) (hs : ν' sl = some (.lst (cs.map .int))) (o2 : sl ∉ fp) (e : l' = [(Str.ofString "_law_far", .bool fr), (Str.ofString "_law_store", .ref st), (Str.ofString "_law_things", .ref th), (Str.ofString "_law_last", .int S.last)]) : K2 C st sl b fr cs i l' ν'
inductive K3 (C : Cx) (st : Addr) (b N k : Nat) (l' : Loc) (ν' : Nu) : Prop
  | mk (fp : List Addr) (th : Addr) (S : SV) (ts : List Pr) (H : StoreAt C ν' st fp S) (hb : S.base = b) (I : Inv S ts) (Z : Sz S N) (ht : ν' th = some (.lst (ts.map prD))) (o1 : th ∉ fp) (hn : ∀ t ∈ ts, NmOk t.2) (hl : ts.length ≤ N) (hk : k = ts.length) (e : l' = [(Str.ofString "_law_store", .ref st), (Str.ofString "_law_things", .ref th)]) : K3 C st b N k l' ν'
inductive F1 (C : Cx) (ν : Nu) (st rw : Addr) (fp₀ : List Addr) (S : SV) (p i : Nat) (l' : Loc) (ν' : Nu) : Prop
  | mk (fp' : List Addr) (F' : Frame ν fp₀ ν' fp') (H' : StoreAt C ν' st fp' (((S.B p).take i).foldl (SV.fstep p) (S.start p))) (w' : ν' rw = some (.lst ((S.B p).map thD))) (o' : rw ∉ fp') (e : l' = [(Str.ofString "self", .ref st), (Str.ofString "place", .int p), (Str.ofString "row", .ref rw)]) : F1 C ν st rw fp₀ S p i l' ν'
inductive PW (ν : Nu) (b x y k : Nat) (l : Loc) (ν' : Nu) : Prop
  | mk (f p u v : Nat) (hk : k = u + v) (e : ν' = ν) (hi : (if u = v then f else p + partN b u v) = partN b x y) (hl : l = [(Str.ofString "base", .int b), (Str.ofString "found", .int f), (Str.ofString "place", .int p), (Str.ofString "left", .int u), (Str.ofString "right", .int v)]) : PW ν b x y k l ν'
theorem part_lt {b u v : Nat} (hb : 2 ≤ b) (h : 0 < u ∨ 0 < v) : u / b + v / b < u + v := by
  have hx : u / b ≤ u := Nat.div_le_self _ _
  have hy : v / b ≤ v := Nat.div_le_self _ _
  rcases h with q | q
  · have := Nat.div_lt_self q (show 1 < b by omega); omega
  · have := Nat.div_lt_self q (show 1 < b by omega); omega
theorem part_key {b x y u v f p f' : Nat} (h1 : 2 ≤ b) (hi : (if u = v then f else p + partN b u v) = partN b x y) (g1 : u % b ≠ v % b → f' = p + 1) (g2 : u % b = v % b → f' = f) : (if u / b = v / b then f' else p + 1 + partN b (u / b) (v / b)) = partN b x y := by
  rw [← hi]
  by_cases q : u = v
  · subst q; simp [g2]
  · rw [if_neg q, partN_ne h1 q]
    by_cases q2 : u / b = v / b
    · rw [if_pos q2, q2, partN_self]
      refine g1 fun q3 => q ?_
      rw [← Nat.div_add_mod u b, ← Nat.div_add_mod v b, q2, q3]
    · rw [if_neg q2]; omega
end Mine

open PySem PySem.W PyProof.Rows
set_option maxRecDepth 100000
set_option maxHeartbeats 8000000
namespace Mine
open PySem PySem.W PyProof.Rows
noncomputable def clsB (s : Stmt) : List Stmt := match s with
  | .ClassDef _ _ _ b _ _ _ _ _ _ _ => b
  | _ => []
noncomputable def st (i : Nat) : Stmt := (PySem.Challenge.pw_uf060022_10.main.body.drop i).headD (.Pass ⟨0, 0, 0, 0⟩)
noncomputable def mt (i j : Nat) : Stmt := ((clsB (st i)).drop j).headD (.Pass ⟨0, 0, 0, 0⟩)
noncomputable def fnW (s : Stmt) (f : Str → Arguments → List Stmt → Scope → Obj) : Obj := Option.rec (motive := fun _ => Obj) ⟨.none, none, .plain, List.toArray []⟩ (fun d => DefRec.rec (motive := fun _ => Obj) (fun n p b sc _ => f n p b sc) d) (DefRec.ofStmt? s)
noncomputable def fnO (s : Stmt) (qual : Str) (pm cdv : Value) : Obj := fnW s fun n p b sc => ⟨.type "function", none, .func (fnOf n qual p b sc .none .none .none pm none cdv .none), List.toArray []⟩
noncomputable def fnZ (s : Stmt) (qual : Str) : Obj := fnW s fun n p b sc => ⟨.none, none, .func (FuncData.mk n qual p (.stmts b) sc 0 [] .none .none .none .none none .none .none 0), List.toArray []⟩
noncomputable def o0 (P : Params) : Obj := (Obj.mk (Value.type "dict") none (Data.dict (List.toArray [(DictEntry.mk (PyData.keyHash P (Str.ofString "__name__")) (Value.str (Str.ofString "__name__") 1) (Value.str (Str.ofString "builtins") 160)), (DictEntry.mk (PyData.keyHash P (Str.ofString "__doc__")) (Value.str (Str.ofString "__doc__") 2) (Value.builtin "builtins.__doc__:str#opaque")), (DictEntry.mk (PyData.keyHash P (Str.ofString "__package__")) (Value.str (Str.ofString "__package__") 3) (Value.builtin "builtins.__package__:str#opaque")), (DictEntry.mk (PyData.keyHash P (Str.ofString "__loader__")) (Value.str (Str.ofString "__loader__") 4) (Value.builtin "builtins.__loader__:shared#opaque")), (DictEntry.mk (PyData.keyHash P (Str.ofString "__spec__")) (Value.str (Str.ofString "__spec__") 5) (Value.builtin "builtins.__spec__#opaque")), (DictEntry.mk (PyData.keyHash P (Str.ofString "__build_class__")) (Value.str (Str.ofString "__build_class__") 6) (Value.builtin "__build_class__")), (DictEntry.mk (PyData.keyHash P (Str.ofString "__import__")) (Value.str (Str.ofString "__import__") 7) (Value.builtin "__import__")), (DictEntry.mk (PyData.keyHash P (Str.ofString "abs")) (Value.str (Str.ofString "abs") 8) (Value.builtin "abs")), (DictEntry.mk (PyData.keyHash P (Str.ofString "all")) (Value.str (Str.ofString "all") 9) (Value.builtin "all")), (DictEntry.mk (PyData.keyHash P (Str.ofString "any")) (Value.str (Str.ofString "any") 10) (Value.builtin "any")), (DictEntry.mk (PyData.keyHash P (Str.ofString "ascii")) (Value.str (Str.ofString "ascii") 11) (Value.builtin "ascii")), (DictEntry.mk (PyData.keyHash P (Str.ofString "bin")) (Value.str (Str.ofString "bin") 12) (Value.builtin "bin")), (DictEntry.mk (PyData.keyHash P (Str.ofString "breakpoint")) (Value.str (Str.ofString "breakpoint") 13) (Value.builtin "breakpoint")), (DictEntry.mk (PyData.keyHash P (Str.ofString "callable")) (Value.str (Str.ofString "callable") 14) (Value.builtin "callable")), (DictEntry.mk (PyData.keyHash P (Str.ofString "chr")) (Value.str (Str.ofString "chr") 15) (Value.builtin "chr")), (DictEntry.mk (PyData.keyHash P (Str.ofString "compile")) (Value.str (Str.ofString "compile") 16) (Value.builtin "compile")), (DictEntry.mk (PyData.keyHash P (Str.ofString "delattr")) (Value.str (Str.ofString "delattr") 17) (Value.builtin "delattr")), (DictEntry.mk (PyData.keyHash P (Str.ofString "dir")) (Value.str (Str.ofString "dir") 18) (Value.builtin "dir")), (DictEntry.mk (PyData.keyHash P (Str.ofString "divmod")) (Value.str (Str.ofString "divmod") 19) (Value.builtin "divmod")), (DictEntry.mk (PyData.keyHash P (Str.ofString "eval")) (Value.str (Str.ofString "eval") 20) (Value.builtin "eval")), (DictEntry.mk (PyData.keyHash P (Str.ofString "exec")) (Value.str (Str.ofString "exec") 21) (Value.builtin "exec")), (DictEntry.mk (PyData.keyHash P (Str.ofString "format")) (Value.str (Str.ofString "format") 22) (Value.builtin "format")), (DictEntry.mk (PyData.keyHash P (Str.ofString "getattr")) (Value.str (Str.ofString "getattr") 23) (Value.builtin "getattr")), (DictEntry.mk (PyData.keyHash P (Str.ofString "globals")) (Value.str (Str.ofString "globals") 24) (Value.builtin "globals")), (DictEntry.mk (PyData.keyHash P (Str.ofString "hasattr")) (Value.str (Str.ofString "hasattr") 25) (Value.builtin "hasattr")), (DictEntry.mk (PyData.keyHash P (Str.ofString "hash")) (Value.str (Str.ofString "hash") 26) (Value.builtin "hash")), (DictEntry.mk (PyData.keyHash P (Str.ofString "hex")) (Value.str (Str.ofString "hex") 27) (Value.builtin "hex")), (DictEntry.mk (PyData.keyHash P (Str.ofString "id")) (Value.str (Str.ofString "id") 28) (Value.builtin "id")), (DictEntry.mk (PyData.keyHash P (Str.ofString "input")) (Value.str (Str.ofString "input") 29) (Value.builtin "input")), (DictEntry.mk (PyData.keyHash P (Str.ofString "isinstance")) (Value.str (Str.ofString "isinstance") 30) (Value.builtin "isinstance")), (DictEntry.mk (PyData.keyHash P (Str.ofString "issubclass")) (Value.str (Str.ofString "issubclass") 31) (Value.builtin "issubclass")), (DictEntry.mk (PyData.keyHash P (Str.ofString "iter")) (Value.str (Str.ofString "iter") 32) (Value.builtin "iter")), (DictEntry.mk (PyData.keyHash P (Str.ofString "aiter")) (Value.str (Str.ofString "aiter") 33) (Value.builtin "aiter")), (DictEntry.mk (PyData.keyHash P (Str.ofString "len")) (Value.str (Str.ofString "len") 34) (Value.builtin "len")), (DictEntry.mk (PyData.keyHash P (Str.ofString "locals")) (Value.str (Str.ofString "locals") 35) (Value.builtin "locals")), (DictEntry.mk (PyData.keyHash P (Str.ofString "max")) (Value.str (Str.ofString "max") 36) (Value.builtin "max")), (DictEntry.mk (PyData.keyHash P (Str.ofString "min")) (Value.str (Str.ofString "min") 37) (Value.builtin "min")), (DictEntry.mk (PyData.keyHash P (Str.ofString "next")) (Value.str (Str.ofString "next") 38) (Value.builtin "next")), (DictEntry.mk (PyData.keyHash P (Str.ofString "anext")) (Value.str (Str.ofString "anext") 39) (Value.builtin "anext")), (DictEntry.mk (PyData.keyHash P (Str.ofString "oct")) (Value.str (Str.ofString "oct") 40) (Value.builtin "oct")), (DictEntry.mk (PyData.keyHash P (Str.ofString "ord")) (Value.str (Str.ofString "ord") 41) (Value.builtin "ord")), (DictEntry.mk (PyData.keyHash P (Str.ofString "pow")) (Value.str (Str.ofString "pow") 42) (Value.builtin "pow")), (DictEntry.mk (PyData.keyHash P (Str.ofString "print")) (Value.str (Str.ofString "print") 43) (Value.builtin "print")), (DictEntry.mk (PyData.keyHash P (Str.ofString "repr")) (Value.str (Str.ofString "repr") 44) (Value.builtin "repr")), (DictEntry.mk (PyData.keyHash P (Str.ofString "round")) (Value.str (Str.ofString "round") 45) (Value.builtin "round")), (DictEntry.mk (PyData.keyHash P (Str.ofString "setattr")) (Value.str (Str.ofString "setattr") 46) (Value.builtin "setattr")), (DictEntry.mk (PyData.keyHash P (Str.ofString "sorted")) (Value.str (Str.ofString "sorted") 47) (Value.builtin "sorted")), (DictEntry.mk (PyData.keyHash P (Str.ofString "sum")) (Value.str (Str.ofString "sum") 48) (Value.builtin "sum")), (DictEntry.mk (PyData.keyHash P (Str.ofString "vars")) (Value.str (Str.ofString "vars") 49) (Value.builtin "vars")), (DictEntry.mk (PyData.keyHash P (Str.ofString "None")) (Value.str (Str.ofString "None") 50) Value.none), (DictEntry.mk (PyData.keyHash P (Str.ofString "Ellipsis")) (Value.str (Str.ofString "Ellipsis") 51) Value.ellipsis), (DictEntry.mk (PyData.keyHash P (Str.ofString "NotImplemented")) (Value.str (Str.ofString "NotImplemented") 52) Value.notImplemented), (DictEntry.mk (PyData.keyHash P (Str.ofString "False")) (Value.str (Str.ofString "False") 53) (Value.bool Bool.false)), (DictEntry.mk (PyData.keyHash P (Str.ofString "True")) (Value.str (Str.ofString "True") 54) (Value.bool Bool.true)), (DictEntry.mk (PyData.keyHash P (Str.ofString "bool")) (Value.str (Str.ofString "bool") 55) (Value.type "bool")), (DictEntry.mk (PyData.keyHash P (Str.ofString "memoryview")) (Value.str (Str.ofString "memoryview") 56) (Value.type "memoryview")), (DictEntry.mk (PyData.keyHash P (Str.ofString "bytearray")) (Value.str (Str.ofString "bytearray") 57) (Value.type "bytearray")), (DictEntry.mk (PyData.keyHash P (Str.ofString "bytes")) (Value.str (Str.ofString "bytes") 58) (Value.type "bytes")), (DictEntry.mk (PyData.keyHash P (Str.ofString "classmethod")) (Value.str (Str.ofString "classmethod") 59) (Value.type "classmethod")), (DictEntry.mk (PyData.keyHash P (Str.ofString "complex")) (Value.str (Str.ofString "complex") 60) (Value.type "complex")), (DictEntry.mk (PyData.keyHash P (Str.ofString "dict")) (Value.str (Str.ofString "dict") 61) (Value.type "dict")), (DictEntry.mk (PyData.keyHash P (Str.ofString "enumerate")) (Value.str (Str.ofString "enumerate") 62) (Value.type "enumerate")), (DictEntry.mk (PyData.keyHash P (Str.ofString "filter")) (Value.str (Str.ofString "filter") 63) (Value.type "filter")), (DictEntry.mk (PyData.keyHash P (Str.ofString "float")) (Value.str (Str.ofString "float") 64) (Value.type "float")), (DictEntry.mk (PyData.keyHash P (Str.ofString "frozenset")) (Value.str (Str.ofString "frozenset") 65) (Value.type "frozenset")), (DictEntry.mk (PyData.keyHash P (Str.ofString "property")) (Value.str (Str.ofString "property") 66) (Value.type "property")), (DictEntry.mk (PyData.keyHash P (Str.ofString "int")) (Value.str (Str.ofString "int") 67) (Value.type "int")), (DictEntry.mk (PyData.keyHash P (Str.ofString "list")) (Value.str (Str.ofString "list") 68) (Value.type "list")), (DictEntry.mk (PyData.keyHash P (Str.ofString "map")) (Value.str (Str.ofString "map") 69) (Value.type "map")), (DictEntry.mk (PyData.keyHash P (Str.ofString "object")) (Value.str (Str.ofString "object") 70) (Value.type "object")), (DictEntry.mk (PyData.keyHash P (Str.ofString "range")) (Value.str (Str.ofString "range") 71) (Value.type "range")), (DictEntry.mk (PyData.keyHash P (Str.ofString "reversed")) (Value.str (Str.ofString "reversed") 72) (Value.type "reversed")), (DictEntry.mk (PyData.keyHash P (Str.ofString "set")) (Value.str (Str.ofString "set") 73) (Value.type "set")), (DictEntry.mk (PyData.keyHash P (Str.ofString "slice")) (Value.str (Str.ofString "slice") 74) (Value.type "slice")), (DictEntry.mk (PyData.keyHash P (Str.ofString "staticmethod")) (Value.str (Str.ofString "staticmethod") 75) (Value.type "staticmethod")), (DictEntry.mk (PyData.keyHash P (Str.ofString "str")) (Value.str (Str.ofString "str") 76) (Value.type "str")), (DictEntry.mk (PyData.keyHash P (Str.ofString "super")) (Value.str (Str.ofString "super") 77) (Value.type "super")), (DictEntry.mk (PyData.keyHash P (Str.ofString "tuple")) (Value.str (Str.ofString "tuple") 78) (Value.type "tuple")), (DictEntry.mk (PyData.keyHash P (Str.ofString "type")) (Value.str (Str.ofString "type") 79) (Value.type "type")), (DictEntry.mk (PyData.keyHash P (Str.ofString "zip")) (Value.str (Str.ofString "zip") 80) (Value.type "zip")), (DictEntry.mk (PyData.keyHash P (Str.ofString "__debug__")) (Value.str (Str.ofString "__debug__") 81) (Value.bool Bool.true)), (DictEntry.mk (PyData.keyHash P (Str.ofString "BaseException")) (Value.str (Str.ofString "BaseException") 82) (Value.type "BaseException")), (DictEntry.mk (PyData.keyHash P (Str.ofString "BaseExceptionGroup")) (Value.str (Str.ofString "BaseExceptionGroup") 83) (Value.type "BaseExceptionGroup")), (DictEntry.mk (PyData.keyHash P (Str.ofString "Exception")) (Value.str (Str.ofString "Exception") 84) (Value.type "Exception")), (DictEntry.mk (PyData.keyHash P (Str.ofString "GeneratorExit")) (Value.str (Str.ofString "GeneratorExit") 85) (Value.type "GeneratorExit")), (DictEntry.mk (PyData.keyHash P (Str.ofString "KeyboardInterrupt")) (Value.str (Str.ofString "KeyboardInterrupt") 86) (Value.type "KeyboardInterrupt")), (DictEntry.mk (PyData.keyHash P (Str.ofString "SystemExit")) (Value.str (Str.ofString "SystemExit") 87) (Value.type "SystemExit")), (DictEntry.mk (PyData.keyHash P (Str.ofString "ArithmeticError")) (Value.str (Str.ofString "ArithmeticError") 88) (Value.type "ArithmeticError")), (DictEntry.mk (PyData.keyHash P (Str.ofString "AssertionError")) (Value.str (Str.ofString "AssertionError") 89) (Value.type "AssertionError")), (DictEntry.mk (PyData.keyHash P (Str.ofString "AttributeError")) (Value.str (Str.ofString "AttributeError") 90) (Value.type "AttributeError")), (DictEntry.mk (PyData.keyHash P (Str.ofString "BufferError")) (Value.str (Str.ofString "BufferError") 91) (Value.type "BufferError")), (DictEntry.mk (PyData.keyHash P (Str.ofString "EOFError")) (Value.str (Str.ofString "EOFError") 92) (Value.type "EOFError")), (DictEntry.mk (PyData.keyHash P (Str.ofString "ImportError")) (Value.str (Str.ofString "ImportError") 93) (Value.type "ImportError")), (DictEntry.mk (PyData.keyHash P (Str.ofString "LookupError")) (Value.str (Str.ofString "LookupError") 94) (Value.type "LookupError")), (DictEntry.mk (PyData.keyHash P (Str.ofString "MemoryError")) (Value.str (Str.ofString "MemoryError") 95) (Value.type "MemoryError")), (DictEntry.mk (PyData.keyHash P (Str.ofString "NameError")) (Value.str (Str.ofString "NameError") 96) (Value.type "NameError")), (DictEntry.mk (PyData.keyHash P (Str.ofString "OSError")) (Value.str (Str.ofString "OSError") 97) (Value.type "OSError")), (DictEntry.mk (PyData.keyHash P (Str.ofString "ReferenceError")) (Value.str (Str.ofString "ReferenceError") 98) (Value.type "ReferenceError")), (DictEntry.mk (PyData.keyHash P (Str.ofString "RuntimeError")) (Value.str (Str.ofString "RuntimeError") 99) (Value.type "RuntimeError")), (DictEntry.mk (PyData.keyHash P (Str.ofString "StopAsyncIteration")) (Value.str (Str.ofString "StopAsyncIteration") 100) (Value.type "StopAsyncIteration")), (DictEntry.mk (PyData.keyHash P (Str.ofString "StopIteration")) (Value.str (Str.ofString "StopIteration") 101) (Value.type "StopIteration")), (DictEntry.mk (PyData.keyHash P (Str.ofString "SyntaxError")) (Value.str (Str.ofString "SyntaxError") 102) (Value.type "SyntaxError")), (DictEntry.mk (PyData.keyHash P (Str.ofString "SystemError")) (Value.str (Str.ofString "SystemError") 103) (Value.type "SystemError")), (DictEntry.mk (PyData.keyHash P (Str.ofString "TypeError")) (Value.str (Str.ofString "TypeError") 104) (Value.type "TypeError")), (DictEntry.mk (PyData.keyHash P (Str.ofString "ValueError")) (Value.str (Str.ofString "ValueError") 105) (Value.type "ValueError")), (DictEntry.mk (PyData.keyHash P (Str.ofString "Warning")) (Value.str (Str.ofString "Warning") 106) (Value.type "Warning")), (DictEntry.mk (PyData.keyHash P (Str.ofString "FloatingPointError")) (Value.str (Str.ofString "FloatingPointError") 107) (Value.type "FloatingPointError")), (DictEntry.mk (PyData.keyHash P (Str.ofString "OverflowError")) (Value.str (Str.ofString "OverflowError") 108) (Value.type "OverflowError")), (DictEntry.mk (PyData.keyHash P (Str.ofString "ZeroDivisionError")) (Value.str (Str.ofString "ZeroDivisionError") 109) (Value.type "ZeroDivisionError")), (DictEntry.mk (PyData.keyHash P (Str.ofString "BytesWarning")) (Value.str (Str.ofString "BytesWarning") 110) (Value.type "BytesWarning")), (DictEntry.mk (PyData.keyHash P (Str.ofString "DeprecationWarning")) (Value.str (Str.ofString "DeprecationWarning") 111) (Value.type "DeprecationWarning")), (DictEntry.mk (PyData.keyHash P (Str.ofString "EncodingWarning")) (Value.str (Str.ofString "EncodingWarning") 112) (Value.type "EncodingWarning")), (DictEntry.mk (PyData.keyHash P (Str.ofString "FutureWarning")) (Value.str (Str.ofString "FutureWarning") 113) (Value.type "FutureWarning")), (DictEntry.mk (PyData.keyHash P (Str.ofString "ImportWarning")) (Value.str (Str.ofString "ImportWarning") 114) (Value.type "ImportWarning")), (DictEntry.mk (PyData.keyHash P (Str.ofString "PendingDeprecationWarning")) (Value.str (Str.ofString "PendingDeprecationWarning") 115) (Value.type "PendingDeprecationWarning")), (DictEntry.mk (PyData.keyHash P (Str.ofString "ResourceWarning")) (Value.str (Str.ofString "ResourceWarning") 116) (Value.type "ResourceWarning")), (DictEntry.mk (PyData.keyHash P (Str.ofString "RuntimeWarning")) (Value.str (Str.ofString "RuntimeWarning") 117) (Value.type "RuntimeWarning")), (DictEntry.mk (PyData.keyHash P (Str.ofString "SyntaxWarning")) (Value.str (Str.ofString "SyntaxWarning") 118) (Value.type "SyntaxWarning")), (DictEntry.mk (PyData.keyHash P (Str.ofString "UnicodeWarning")) (Value.str (Str.ofString "UnicodeWarning") 119) (Value.type "UnicodeWarning")), (DictEntry.mk (PyData.keyHash P (Str.ofString "UserWarning")) (Value.str (Str.ofString "UserWarning") 120) (Value.type "UserWarning")), (DictEntry.mk (PyData.keyHash P (Str.ofString "BlockingIOError")) (Value.str (Str.ofString "BlockingIOError") 121) (Value.type "BlockingIOError")), (DictEntry.mk (PyData.keyHash P (Str.ofString "ChildProcessError")) (Value.str (Str.ofString "ChildProcessError") 122) (Value.type "ChildProcessError")), (DictEntry.mk (PyData.keyHash P (Str.ofString "ConnectionError")) (Value.str (Str.ofString "ConnectionError") 123) (Value.type "ConnectionError")), (DictEntry.mk (PyData.keyHash P (Str.ofString "FileExistsError")) (Value.str (Str.ofString "FileExistsError") 124) (Value.type "FileExistsError")), (DictEntry.mk (PyData.keyHash P (Str.ofString "FileNotFoundError")) (Value.str (Str.ofString "FileNotFoundError") 125) (Value.type "FileNotFoundError")), (DictEntry.mk (PyData.keyHash P (Str.ofString "InterruptedError")) (Value.str (Str.ofString "InterruptedError") 126) (Value.type "InterruptedError")), (DictEntry.mk (PyData.keyHash P (Str.ofString "IsADirectoryError")) (Value.str (Str.ofString "IsADirectoryError") 127) (Value.type "IsADirectoryError")), (DictEntry.mk (PyData.keyHash P (Str.ofString "NotADirectoryError")) (Value.str (Str.ofString "NotADirectoryError") 128) (Value.type "NotADirectoryError")), (DictEntry.mk (PyData.keyHash P (Str.ofString "PermissionError")) (Value.str (Str.ofString "PermissionError") 129) (Value.type "PermissionError")), (DictEntry.mk (PyData.keyHash P (Str.ofString "ProcessLookupError")) (Value.str (Str.ofString "ProcessLookupError") 130) (Value.type "ProcessLookupError")), (DictEntry.mk (PyData.keyHash P (Str.ofString "TimeoutError")) (Value.str (Str.ofString "TimeoutError") 131) (Value.type "TimeoutError")), (DictEntry.mk (PyData.keyHash P (Str.ofString "IndentationError")) (Value.str (Str.ofString "IndentationError") 132) (Value.type "IndentationError")), (DictEntry.mk (PyData.keyHash P (Str.ofString "_IncompleteInputError")) (Value.str (Str.ofString "_IncompleteInputError") 133) (Value.type "_IncompleteInputError")), (DictEntry.mk (PyData.keyHash P (Str.ofString "IndexError")) (Value.str (Str.ofString "IndexError") 134) (Value.type "IndexError")), (DictEntry.mk (PyData.keyHash P (Str.ofString "KeyError")) (Value.str (Str.ofString "KeyError") 135) (Value.type "KeyError")), (DictEntry.mk (PyData.keyHash P (Str.ofString "ModuleNotFoundError")) (Value.str (Str.ofString "ModuleNotFoundError") 136) (Value.type "ModuleNotFoundError")), (DictEntry.mk (PyData.keyHash P (Str.ofString "NotImplementedError")) (Value.str (Str.ofString "NotImplementedError") 137) (Value.type "NotImplementedError")), (DictEntry.mk (PyData.keyHash P (Str.ofString "PythonFinalizationError")) (Value.str (Str.ofString "PythonFinalizationError") 138) (Value.type "PythonFinalizationError")), (DictEntry.mk (PyData.keyHash P (Str.ofString "RecursionError")) (Value.str (Str.ofString "RecursionError") 139) (Value.type "RecursionError")), (DictEntry.mk (PyData.keyHash P (Str.ofString "UnboundLocalError")) (Value.str (Str.ofString "UnboundLocalError") 140) (Value.type "UnboundLocalError")), (DictEntry.mk (PyData.keyHash P (Str.ofString "UnicodeError")) (Value.str (Str.ofString "UnicodeError") 141) (Value.type "UnicodeError")), (DictEntry.mk (PyData.keyHash P (Str.ofString "BrokenPipeError")) (Value.str (Str.ofString "BrokenPipeError") 142) (Value.type "BrokenPipeError")), (DictEntry.mk (PyData.keyHash P (Str.ofString "ConnectionAbortedError")) (Value.str (Str.ofString "ConnectionAbortedError") 143) (Value.type "ConnectionAbortedError")), (DictEntry.mk (PyData.keyHash P (Str.ofString "ConnectionRefusedError")) (Value.str (Str.ofString "ConnectionRefusedError") 144) (Value.type "ConnectionRefusedError")), (DictEntry.mk (PyData.keyHash P (Str.ofString "ConnectionResetError")) (Value.str (Str.ofString "ConnectionResetError") 145) (Value.type "ConnectionResetError")), (DictEntry.mk (PyData.keyHash P (Str.ofString "TabError")) (Value.str (Str.ofString "TabError") 146) (Value.type "TabError")), (DictEntry.mk (PyData.keyHash P (Str.ofString "UnicodeDecodeError")) (Value.str (Str.ofString "UnicodeDecodeError") 147) (Value.type "UnicodeDecodeError")), (DictEntry.mk (PyData.keyHash P (Str.ofString "UnicodeEncodeError")) (Value.str (Str.ofString "UnicodeEncodeError") 148) (Value.type "UnicodeEncodeError")), (DictEntry.mk (PyData.keyHash P (Str.ofString "UnicodeTranslateError")) (Value.str (Str.ofString "UnicodeTranslateError") 149) (Value.type "UnicodeTranslateError")), (DictEntry.mk (PyData.keyHash P (Str.ofString "ExceptionGroup")) (Value.str (Str.ofString "ExceptionGroup") 150) (Value.type "ExceptionGroup")), (DictEntry.mk (PyData.keyHash P (Str.ofString "EnvironmentError")) (Value.str (Str.ofString "EnvironmentError") 151) (Value.type "OSError")), (DictEntry.mk (PyData.keyHash P (Str.ofString "IOError")) (Value.str (Str.ofString "IOError") 152) (Value.type "OSError")), (DictEntry.mk (PyData.keyHash P (Str.ofString "open")) (Value.str (Str.ofString "open") 153) (Value.builtin "open")), (DictEntry.mk (PyData.keyHash P (Str.ofString "quit")) (Value.str (Str.ofString "quit") 154) (Value.builtin "builtins.quit#opaque")), (DictEntry.mk (PyData.keyHash P (Str.ofString "exit")) (Value.str (Str.ofString "exit") 155) (Value.builtin "builtins.exit#opaque")), (DictEntry.mk (PyData.keyHash P (Str.ofString "copyright")) (Value.str (Str.ofString "copyright") 156) (Value.builtin "builtins.copyright#opaque")), (DictEntry.mk (PyData.keyHash P (Str.ofString "credits")) (Value.str (Str.ofString "credits") 157) (Value.builtin "builtins.credits#opaque")), (DictEntry.mk (PyData.keyHash P (Str.ofString "license")) (Value.str (Str.ofString "license") 158) (Value.builtin "builtins.license#opaque")), (DictEntry.mk (PyData.keyHash P (Str.ofString "help")) (Value.str (Str.ofString "help") 159) (Value.builtin "builtins.help#opaque"))]) 159) (List.toArray []))
noncomputable def o1 (P : Params) : Obj := (Obj.mk (Value.type "dict") none (Data.dict (List.toArray [(DictEntry.mk (PyData.keyHash P (Str.ofString "builtins")) (Value.str (Str.ofString "builtins") 162) (Value.ref 4)), (DictEntry.mk (PyData.keyHash P (Str.ofString "__main__")) (Value.str (Str.ofString "__main__") 163) (Value.ref 5))]) 2) (List.toArray []))
noncomputable def o2 (_ : Params) : Obj := (Obj.mk Value.none none (Data.dict (List.toArray []) 0) (List.toArray []))
noncomputable def o3 (P : Params) : Obj := (Obj.mk (Value.type "dict") none (Data.dict (List.toArray [(DictEntry.mk (PyData.keyHash P (Str.ofString "__name__")) (Value.str (Str.ofString "__name__") 165) (Value.str (Str.ofString "__main__") 164)), (DictEntry.mk (PyData.keyHash P (Str.ofString "__doc__")) (Value.str (Str.ofString "__doc__") 166) Value.none), (DictEntry.mk (PyData.keyHash P (Str.ofString "__package__")) (Value.str (Str.ofString "__package__") 167) Value.none), (DictEntry.mk (PyData.keyHash P (Str.ofString "__loader__")) (Value.str (Str.ofString "__loader__") 168) (Value.builtin "__main__.__loader__#opaque")), (DictEntry.mk (PyData.keyHash P (Str.ofString "__spec__")) (Value.str (Str.ofString "__spec__") 169) Value.none), (DictEntry.mk (PyData.keyHash P (Str.ofString "__annotations__")) (Value.str (Str.ofString "__annotations__") 170) (Value.ref 6)), (DictEntry.mk (PyData.keyHash P (Str.ofString "__builtins__")) (Value.str (Str.ofString "__builtins__") 171) (Value.ref 4)), (DictEntry.mk (PyData.keyHash P (Str.ofString "__file__")) (Value.str (Str.ofString "__file__") 173) (Value.str (Str.ofString "/claim/cut.py") 172)), (DictEntry.mk (PyData.keyHash P (Str.ofString "__cached__")) (Value.str (Str.ofString "__cached__") 174) Value.none)]) 9) (List.toArray []))
noncomputable def o4 (_ : Params) : Obj := (Obj.mk (Value.type "module") (some 0) Data.plain (List.toArray []))
noncomputable def o5 (_ : Params) : Obj := (Obj.mk (Value.type "module") (some 3) Data.plain (List.toArray []))
noncomputable def o6 (_ : Params) : Obj := (Obj.mk (Value.type "dict") none (Data.dict (List.toArray []) 0) (List.toArray []))
noncomputable def o7 (_ : Params) : Obj := (Obj.mk (Value.type "tuple") none (Data.seq (List.toArray []) 0) (List.toArray []))
noncomputable def o8 (_ : Params) : Obj := (Obj.mk Value.none none (Data.fields (List.toArray [])) (List.toArray []))
noncomputable def o9 (_ : Params) : Obj := (Obj.mk (Value.type "code") none (Data.fields (List.toArray [(Value.str (Str.ofString "<module>") 176), (Value.str (Str.ofString "<module>") 177), (Value.str (Str.ofString "/claim/cut.py") 178), (Value.int (1 : Int) 0), (Value.int (0 : Int) 0), (Value.int (0 : Int) 0), (Value.int (0 : Int) 0), (Value.int (0 : Int) 0), (Value.ref 7), (Value.bool Bool.false), (Value.int (175 : Int) 0), (Value.ref 8), Value.none, Value.none, Value.none, Value.none, (Value.int (179 : Int) 0), (Value.int (1 : Int) 0), (Value.str (Str.ofString "/claim/cut.py") 180)])) (List.toArray []))
noncomputable def o10 (_ : Params) : Obj := (Obj.mk (Value.type "frame") none Data.plain (List.toArray [(some (Value.ref 9)), (some (Value.ref 3)), (some (Value.ref 3)), none, (some (Value.str (Str.ofString "__main__") 164)), none, (some (Value.ref 0))]))
noncomputable def o11 (_ : Params) : Obj := (Obj.mk (Value.type "code") none (Data.fields (List.toArray [(Value.str (Str.ofString "<module>") 182), (Value.str (Str.ofString "<module>") 183), (Value.str (Str.ofString "/claim/cut.py") 184), (Value.int (1 : Int) 0), (Value.int (0 : Int) 0), (Value.int (0 : Int) 0), (Value.int (0 : Int) 0), (Value.int (0 : Int) 0), (Value.ref 11), (Value.bool Bool.false), (Value.int (181 : Int) 0), (Value.ref 12), Value.none, Value.none, Value.none, Value.none, (Value.int (185 : Int) 0), (Value.int (1 : Int) 0), (Value.str (Str.ofString "/claim/cut.py") 186)])) (List.toArray []))
noncomputable def o12 (_ : Params) : Obj := (Obj.mk (Value.type "frame") none Data.plain (List.toArray [(some (Value.ref 13)), (some (Value.ref 3)), (some (Value.ref 3)), none, (some (Value.str (Str.ofString "__main__") 164)), none, (some (Value.ref 0))]))
noncomputable def HSa (P : Params) : Heap := ⟨⟨o0 P :: o1 P :: o2 P :: o3 P :: o4 P :: o5 P :: o6 P :: o7 P :: o8 P :: o9 P :: o10 P :: o7 P :: o8 P :: o11 P :: o12 P :: []⟩, (Life.mk [] [] [] 0 [] [] Bool.false (List.toArray []) [] 0 Bool.false Bool.false Bool.false (0 : Int) [(2000 : Int), (10 : Int), (10 : Int)] Bool.false 0 Bool.true [] [] 0 Bool.false)⟩
noncomputable abbrev Sa (w : World) (os : OsState) : Shared := ⟨HSa w.params, Array.mk [], (Drawn.mk 0 0 0 0), 187, os⟩
noncomputable def o13 (P : Params) : Obj := (Obj.mk (Value.type "dict") none (Data.dict (List.toArray [(DictEntry.mk (PyData.keyHash P (Str.ofString "__name__")) (Value.str (Str.ofString "__name__") 165) (Value.str (Str.ofString "bucketfall.errors") 187)), (DictEntry.mk (PyData.keyHash P (Str.ofString "__doc__")) (Value.str (Str.ofString "__doc__") 166) Value.none), (DictEntry.mk (PyData.keyHash P (Str.ofString "__package__")) (Value.str (Str.ofString "__package__") 167) Value.none), (DictEntry.mk (PyData.keyHash P (Str.ofString "__loader__")) (Value.str (Str.ofString "__loader__") 168) (Value.builtin "__main__.__loader__#opaque")), (DictEntry.mk (PyData.keyHash P (Str.ofString "__spec__")) (Value.str (Str.ofString "__spec__") 169) Value.none), (DictEntry.mk (PyData.keyHash P (Str.ofString "__annotations__")) (Value.str (Str.ofString "__annotations__") 170) (Value.ref 6)), (DictEntry.mk (PyData.keyHash P (Str.ofString "__builtins__")) (Value.str (Str.ofString "__builtins__") 171) (Value.ref 4)), (DictEntry.mk (PyData.keyHash P (Str.ofString "__file__")) (Value.str (Str.ofString "__file__") 173) (Value.str (Str.ofString "/claim/cut.py") 172)), (DictEntry.mk (PyData.keyHash P (Str.ofString "__cached__")) (Value.str (Str.ofString "__cached__") 174) Value.none), (DictEntry.mk (PyData.keyHash P (Str.ofString "FallError")) (Value.str (Str.ofString "FallError") 206) (Value.ref 24)), (DictEntry.mk (PyData.keyHash P (Str.ofString "NoBase")) (Value.str (Str.ofString "NoBase") 222) (Value.ref 37))]) 11) (List.toArray []))
noncomputable def o14 (_ : Params) : Obj := (Obj.mk Value.none none (Data.fields (List.toArray [(Value.int (2 : Int) 0), (Value.int (0 : Int) 0), (Value.ref 20), (Value.int (4 : Int) 0), (Value.int (0 : Int) 0), (Value.ref 33)])) (List.toArray []))
noncomputable def o15 (_ : Params) : Obj := (Obj.mk (Value.type "tuple") none (Data.seq (List.toArray [(Value.type "ValueError")]) 0) (List.toArray []))
noncomputable def o16 (_ : Params) : Obj := (Obj.mk (Value.type "builtin_function_or_method") none (Data.fields (List.toArray [(Value.builtin "type.__prepare__"), (Value.type "type")])) (List.toArray []))
noncomputable def o17 (P : Params) : Obj := (Obj.mk (Value.type "dict") none (Data.dict (List.toArray [(DictEntry.mk (PyData.keyHash P (Str.ofString "__module__")) (Value.str (Str.ofString "__module__") 196) (Value.str (Str.ofString "bucketfall.errors") 187)), (DictEntry.mk (PyData.keyHash P (Str.ofString "__qualname__")) (Value.str (Str.ofString "__qualname__") 198) (Value.str (Str.ofString "FallError") 197)), (DictEntry.mk (PyData.keyHash P (Str.ofString "__firstlineno__")) (Value.str (Str.ofString "__firstlineno__") 200) (Value.int (2 : Int) 199)), (DictEntry.mk (PyData.keyHash P (Str.ofString "__static_attributes__")) (Value.str (Str.ofString "__static_attributes__") 201) (Value.ref 22))]) 4) (List.toArray []))
noncomputable def o18 (_ : Params) : Obj := (Obj.mk (Value.type "code") none (Data.fields (List.toArray [(Value.str (Str.ofString "FallError") 191), (Value.str (Str.ofString "FallError") 192), (Value.str (Str.ofString "/claim/cut.py") 193), (Value.int (2 : Int) 0), (Value.int (0 : Int) 0), (Value.int (0 : Int) 0), (Value.int (0 : Int) 0), (Value.int (0 : Int) 0), (Value.ref 18), (Value.bool Bool.false), (Value.int (181 : Int) 0), (Value.ref 19), Value.none, Value.none, Value.none, Value.none, (Value.int (194 : Int) 0), (Value.int (2 : Int) 0), (Value.str (Str.ofString "/claim/cut.py") 195)])) (List.toArray []))
noncomputable def o19 (_ : Params) : Obj := (Obj.mk (Value.type "frame") none Data.plain (List.toArray [(some (Value.ref 20)), (some (Value.ref 3)), (some (Value.ref 17)), none, (some (Value.str (Str.ofString "bucketfall.errors") 187)), none, (some (Value.ref 0))]))
noncomputable def o20 (P : Params) : Obj := (Obj.mk (Value.type "dict") none (Data.dict (List.toArray [(DictEntry.mk (PyData.keyHash P (Str.ofString "__module__")) (Value.str (Str.ofString "__module__") 196) (Value.str (Str.ofString "bucketfall.errors") 187)), (DictEntry.mk (PyData.keyHash P (Str.ofString "__firstlineno__")) (Value.str (Str.ofString "__firstlineno__") 200) (Value.int (2 : Int) 199)), (DictEntry.mk (PyData.keyHash P (Str.ofString "__static_attributes__")) (Value.str (Str.ofString "__static_attributes__") 201) (Value.ref 22)), (DictEntry.mk (PyData.keyHash P (Str.ofString "__weakref__")) (Value.str (Str.ofString "__weakref__") 203) (Value.ref 25)), (DictEntry.mk (PyData.keyHash P (Str.ofString "__doc__")) (Value.str (Str.ofString "__doc__") 204) Value.none)]) 3) (List.toArray []))
noncomputable def o21 (_ : Params) : Obj := (Obj.mk (Value.type "type") none (Data.cls (ClassData.mk (Str.ofString "FallError") [(Value.type "ValueError")] [(Value.ref 24), (Value.type "ValueError"), (Value.type "Exception"), (Value.type "BaseException"), (Value.type "object")] 23 (Str.ofString "FallError") Bool.true [] [(Value.ref 37)] Bool.false none Bool.false)) (List.toArray [(some (Value.ref 15)), none, (some (Value.str (Str.ofString "FallError") 189)), (some (Value.str (Str.ofString "FallError") 197)), (some (Value.builtin "ValueError.__new__")), (some (Value.bool Bool.true))]))
noncomputable def o22 (_ : Params) : Obj := (Obj.mk (Value.type "getset_descriptor") none (Data.fields (List.toArray [(Value.str (Str.ofString "__weakref__") 202), (Value.ref 24), (Value.builtin "ExceptionGroup.__weakref__"), Value.none])) (List.toArray []))
noncomputable def o23 (_ : Params) : Obj := (Obj.mk (Value.type "super") none (Data.fields (List.toArray [(Value.ref 24), (Value.ref 24), (Value.ref 24)])) (List.toArray []))
noncomputable def o24 (_ : Params) : Obj := (Obj.mk (Value.type "builtin_function_or_method") none (Data.fields (List.toArray [(Value.builtin "object.__init_subclass__"), (Value.ref 24)])) (List.toArray []))
noncomputable def o25 (_ : Params) : Obj := (Obj.mk (Value.type "tuple") none (Data.seq (List.toArray [(Value.ref 24)]) 0) (List.toArray []))
noncomputable def o26 (P : Params) : Obj := (Obj.mk (Value.type "dict") none (Data.dict (List.toArray [(DictEntry.mk (PyData.keyHash P (Str.ofString "__module__")) (Value.str (Str.ofString "__module__") 214) (Value.str (Str.ofString "bucketfall.errors") 187)), (DictEntry.mk (PyData.keyHash P (Str.ofString "__qualname__")) (Value.str (Str.ofString "__qualname__") 216) (Value.str (Str.ofString "NoBase") 215)), (DictEntry.mk (PyData.keyHash P (Str.ofString "__firstlineno__")) (Value.str (Str.ofString "__firstlineno__") 218) (Value.int (4 : Int) 217)), (DictEntry.mk (PyData.keyHash P (Str.ofString "__static_attributes__")) (Value.str (Str.ofString "__static_attributes__") 219) (Value.ref 35))]) 4) (List.toArray []))
noncomputable def o27 (_ : Params) : Obj := (Obj.mk (Value.type "code") none (Data.fields (List.toArray [(Value.str (Str.ofString "NoBase") 209), (Value.str (Str.ofString "NoBase") 210), (Value.str (Str.ofString "/claim/cut.py") 211), (Value.int (4 : Int) 0), (Value.int (0 : Int) 0), (Value.int (0 : Int) 0), (Value.int (0 : Int) 0), (Value.int (0 : Int) 0), (Value.ref 31), (Value.bool Bool.false), (Value.int (181 : Int) 0), (Value.ref 32), Value.none, Value.none, Value.none, Value.none, (Value.int (212 : Int) 0), (Value.int (4 : Int) 0), (Value.str (Str.ofString "/claim/cut.py") 213)])) (List.toArray []))
noncomputable def o28 (_ : Params) : Obj := (Obj.mk (Value.type "frame") none Data.plain (List.toArray [(some (Value.ref 33)), (some (Value.ref 3)), (some (Value.ref 30)), none, (some (Value.str (Str.ofString "bucketfall.errors") 187)), none, (some (Value.ref 0))]))
noncomputable def o29 (P : Params) : Obj := (Obj.mk (Value.type "dict") none (Data.dict (List.toArray [(DictEntry.mk (PyData.keyHash P (Str.ofString "__module__")) (Value.str (Str.ofString "__module__") 214) (Value.str (Str.ofString "bucketfall.errors") 187)), (DictEntry.mk (PyData.keyHash P (Str.ofString "__firstlineno__")) (Value.str (Str.ofString "__firstlineno__") 218) (Value.int (4 : Int) 217)), (DictEntry.mk (PyData.keyHash P (Str.ofString "__static_attributes__")) (Value.str (Str.ofString "__static_attributes__") 219) (Value.ref 35)), (DictEntry.mk (PyData.keyHash P (Str.ofString "__doc__")) (Value.str (Str.ofString "__doc__") 220) Value.none)]) 2) (List.toArray []))
noncomputable def o30 (_ : Params) : Obj := (Obj.mk (Value.type "type") none (Data.cls (ClassData.mk (Str.ofString "NoBase") [(Value.ref 24)] [(Value.ref 37), (Value.ref 24), (Value.type "ValueError"), (Value.type "Exception"), (Value.type "BaseException"), (Value.type "object")] 36 (Str.ofString "NoBase") Bool.true [] [] Bool.false none Bool.false)) (List.toArray [(some (Value.ref 28)), none, (some (Value.str (Str.ofString "NoBase") 207)), (some (Value.str (Str.ofString "NoBase") 215)), (some (Value.builtin "ValueError.__new__")), (some (Value.bool Bool.true))]))
noncomputable def o31 (_ : Params) : Obj := (Obj.mk (Value.type "super") none (Data.fields (List.toArray [(Value.ref 37), (Value.ref 37), (Value.ref 37)])) (List.toArray []))
noncomputable def o32 (_ : Params) : Obj := (Obj.mk (Value.type "builtin_function_or_method") none (Data.fields (List.toArray [(Value.builtin "object.__init_subclass__"), (Value.ref 37)])) (List.toArray []))
noncomputable def HS3 (P : Params) : Heap := ⟨⟨o0 P :: o1 P :: o2 P :: o13 P :: o4 P :: o5 P :: o6 P :: o7 P :: o8 P :: o9 P :: o10 P :: o7 P :: o14 P :: o11 P :: o12 P :: o15 P :: o16 P :: o17 P :: o7 P :: o8 P :: o18 P :: o19 P :: o7 P :: o20 P :: o21 P :: o22 P :: o23 P :: o24 P :: o25 P :: o16 P :: o26 P :: o7 P :: o8 P :: o27 P :: o28 P :: o7 P :: o29 P :: o30 P :: o31 P :: o32 P :: []⟩, (Life.mk [] [] [] 0 [] [] Bool.false (List.toArray []) [] 0 Bool.false Bool.false Bool.false (0 : Int) [(2000 : Int), (10 : Int), (10 : Int)] Bool.false 0 Bool.true [] [] 0 Bool.false)⟩
noncomputable abbrev S3 (w : World) (os : OsState) : Shared := ⟨HS3 w.params, Array.mk [], (Drawn.mk 0 0 0 0), 223, os⟩
noncomputable def o33 (P : Params) : Obj := (Obj.mk (Value.type "dict") none (Data.dict (List.toArray [(DictEntry.mk (PyData.keyHash P (Str.ofString "__name__")) (Value.str (Str.ofString "__name__") 165) (Value.str (Str.ofString "bucketfall.errors") 187)), (DictEntry.mk (PyData.keyHash P (Str.ofString "__doc__")) (Value.str (Str.ofString "__doc__") 166) Value.none), (DictEntry.mk (PyData.keyHash P (Str.ofString "__package__")) (Value.str (Str.ofString "__package__") 167) Value.none), (DictEntry.mk (PyData.keyHash P (Str.ofString "__loader__")) (Value.str (Str.ofString "__loader__") 168) (Value.builtin "__main__.__loader__#opaque")), (DictEntry.mk (PyData.keyHash P (Str.ofString "__spec__")) (Value.str (Str.ofString "__spec__") 169) Value.none), (DictEntry.mk (PyData.keyHash P (Str.ofString "__annotations__")) (Value.str (Str.ofString "__annotations__") 170) (Value.ref 6)), (DictEntry.mk (PyData.keyHash P (Str.ofString "__builtins__")) (Value.str (Str.ofString "__builtins__") 171) (Value.ref 4)), (DictEntry.mk (PyData.keyHash P (Str.ofString "__file__")) (Value.str (Str.ofString "__file__") 173) (Value.str (Str.ofString "/claim/cut.py") 172)), (DictEntry.mk (PyData.keyHash P (Str.ofString "__cached__")) (Value.str (Str.ofString "__cached__") 174) Value.none), (DictEntry.mk (PyData.keyHash P (Str.ofString "FallError")) (Value.str (Str.ofString "FallError") 206) (Value.ref 24)), (DictEntry.mk (PyData.keyHash P (Str.ofString "NoBase")) (Value.str (Str.ofString "NoBase") 222) (Value.ref 37)), (DictEntry.mk (PyData.keyHash P (Str.ofString "NoNumber")) (Value.str (Str.ofString "NoNumber") 238) (Value.ref 49)), (DictEntry.mk (PyData.keyHash P (Str.ofString "Late")) (Value.str (Str.ofString "Late") 254) (Value.ref 61))]) 13) (List.toArray []))
noncomputable def o34 (_ : Params) : Obj := (Obj.mk Value.none none (Data.fields (List.toArray [(Value.int (2 : Int) 0), (Value.int (0 : Int) 0), (Value.ref 20), (Value.int (4 : Int) 0), (Value.int (0 : Int) 0), (Value.ref 33), (Value.int (6 : Int) 0), (Value.int (0 : Int) 0), (Value.ref 45), (Value.int (8 : Int) 0), (Value.int (0 : Int) 0), (Value.ref 57)])) (List.toArray []))
noncomputable def o35 (_ : Params) : Obj := (Obj.mk (Value.type "type") none (Data.cls (ClassData.mk (Str.ofString "FallError") [(Value.type "ValueError")] [(Value.ref 24), (Value.type "ValueError"), (Value.type "Exception"), (Value.type "BaseException"), (Value.type "object")] 23 (Str.ofString "FallError") Bool.true [] [(Value.ref 37), (Value.ref 49), (Value.ref 61)] Bool.false none Bool.false)) (List.toArray [(some (Value.ref 15)), none, (some (Value.str (Str.ofString "FallError") 189)), (some (Value.str (Str.ofString "FallError") 197)), (some (Value.builtin "ValueError.__new__")), (some (Value.bool Bool.true))]))
noncomputable def o36 (P : Params) : Obj := (Obj.mk (Value.type "dict") none (Data.dict (List.toArray [(DictEntry.mk (PyData.keyHash P (Str.ofString "__module__")) (Value.str (Str.ofString "__module__") 230) (Value.str (Str.ofString "bucketfall.errors") 187)), (DictEntry.mk (PyData.keyHash P (Str.ofString "__qualname__")) (Value.str (Str.ofString "__qualname__") 232) (Value.str (Str.ofString "NoNumber") 231)), (DictEntry.mk (PyData.keyHash P (Str.ofString "__firstlineno__")) (Value.str (Str.ofString "__firstlineno__") 234) (Value.int (6 : Int) 233)), (DictEntry.mk (PyData.keyHash P (Str.ofString "__static_attributes__")) (Value.str (Str.ofString "__static_attributes__") 235) (Value.ref 47))]) 4) (List.toArray []))
noncomputable def o37 (_ : Params) : Obj := (Obj.mk (Value.type "code") none (Data.fields (List.toArray [(Value.str (Str.ofString "NoNumber") 225), (Value.str (Str.ofString "NoNumber") 226), (Value.str (Str.ofString "/claim/cut.py") 227), (Value.int (6 : Int) 0), (Value.int (0 : Int) 0), (Value.int (0 : Int) 0), (Value.int (0 : Int) 0), (Value.int (0 : Int) 0), (Value.ref 43), (Value.bool Bool.false), (Value.int (181 : Int) 0), (Value.ref 44), Value.none, Value.none, Value.none, Value.none, (Value.int (228 : Int) 0), (Value.int (6 : Int) 0), (Value.str (Str.ofString "/claim/cut.py") 229)])) (List.toArray []))
noncomputable def o38 (_ : Params) : Obj := (Obj.mk (Value.type "frame") none Data.plain (List.toArray [(some (Value.ref 45)), (some (Value.ref 3)), (some (Value.ref 42)), none, (some (Value.str (Str.ofString "bucketfall.errors") 187)), none, (some (Value.ref 0))]))
noncomputable def o39 (P : Params) : Obj := (Obj.mk (Value.type "dict") none (Data.dict (List.toArray [(DictEntry.mk (PyData.keyHash P (Str.ofString "__module__")) (Value.str (Str.ofString "__module__") 230) (Value.str (Str.ofString "bucketfall.errors") 187)), (DictEntry.mk (PyData.keyHash P (Str.ofString "__firstlineno__")) (Value.str (Str.ofString "__firstlineno__") 234) (Value.int (6 : Int) 233)), (DictEntry.mk (PyData.keyHash P (Str.ofString "__static_attributes__")) (Value.str (Str.ofString "__static_attributes__") 235) (Value.ref 47)), (DictEntry.mk (PyData.keyHash P (Str.ofString "__doc__")) (Value.str (Str.ofString "__doc__") 236) Value.none)]) 2) (List.toArray []))
noncomputable def o40 (_ : Params) : Obj := (Obj.mk (Value.type "type") none (Data.cls (ClassData.mk (Str.ofString "NoNumber") [(Value.ref 24)] [(Value.ref 49), (Value.ref 24), (Value.type "ValueError"), (Value.type "Exception"), (Value.type "BaseException"), (Value.type "object")] 48 (Str.ofString "NoNumber") Bool.true [] [] Bool.false none Bool.false)) (List.toArray [(some (Value.ref 40)), none, (some (Value.str (Str.ofString "NoNumber") 223)), (some (Value.str (Str.ofString "NoNumber") 231)), (some (Value.builtin "ValueError.__new__")), (some (Value.bool Bool.true))]))
noncomputable def o41 (_ : Params) : Obj := (Obj.mk (Value.type "super") none (Data.fields (List.toArray [(Value.ref 49), (Value.ref 49), (Value.ref 49)])) (List.toArray []))
noncomputable def o42 (_ : Params) : Obj := (Obj.mk (Value.type "builtin_function_or_method") none (Data.fields (List.toArray [(Value.builtin "object.__init_subclass__"), (Value.ref 49)])) (List.toArray []))
noncomputable def o43 (P : Params) : Obj := (Obj.mk (Value.type "dict") none (Data.dict (List.toArray [(DictEntry.mk (PyData.keyHash P (Str.ofString "__module__")) (Value.str (Str.ofString "__module__") 246) (Value.str (Str.ofString "bucketfall.errors") 187)), (DictEntry.mk (PyData.keyHash P (Str.ofString "__qualname__")) (Value.str (Str.ofString "__qualname__") 248) (Value.str (Str.ofString "Late") 247)), (DictEntry.mk (PyData.keyHash P (Str.ofString "__firstlineno__")) (Value.str (Str.ofString "__firstlineno__") 250) (Value.int (8 : Int) 249)), (DictEntry.mk (PyData.keyHash P (Str.ofString "__static_attributes__")) (Value.str (Str.ofString "__static_attributes__") 251) (Value.ref 59))]) 4) (List.toArray []))
noncomputable def o44 (_ : Params) : Obj := (Obj.mk (Value.type "code") none (Data.fields (List.toArray [(Value.str (Str.ofString "Late") 241), (Value.str (Str.ofString "Late") 242), (Value.str (Str.ofString "/claim/cut.py") 243), (Value.int (8 : Int) 0), (Value.int (0 : Int) 0), (Value.int (0 : Int) 0), (Value.int (0 : Int) 0), (Value.int (0 : Int) 0), (Value.ref 55), (Value.bool Bool.false), (Value.int (181 : Int) 0), (Value.ref 56), Value.none, Value.none, Value.none, Value.none, (Value.int (244 : Int) 0), (Value.int (8 : Int) 0), (Value.str (Str.ofString "/claim/cut.py") 245)])) (List.toArray []))
noncomputable def o45 (_ : Params) : Obj := (Obj.mk (Value.type "frame") none Data.plain (List.toArray [(some (Value.ref 57)), (some (Value.ref 3)), (some (Value.ref 54)), none, (some (Value.str (Str.ofString "bucketfall.errors") 187)), none, (some (Value.ref 0))]))
noncomputable def o46 (P : Params) : Obj := (Obj.mk (Value.type "dict") none (Data.dict (List.toArray [(DictEntry.mk (PyData.keyHash P (Str.ofString "__module__")) (Value.str (Str.ofString "__module__") 246) (Value.str (Str.ofString "bucketfall.errors") 187)), (DictEntry.mk (PyData.keyHash P (Str.ofString "__firstlineno__")) (Value.str (Str.ofString "__firstlineno__") 250) (Value.int (8 : Int) 249)), (DictEntry.mk (PyData.keyHash P (Str.ofString "__static_attributes__")) (Value.str (Str.ofString "__static_attributes__") 251) (Value.ref 59)), (DictEntry.mk (PyData.keyHash P (Str.ofString "__doc__")) (Value.str (Str.ofString "__doc__") 252) Value.none)]) 2) (List.toArray []))
noncomputable def o47 (_ : Params) : Obj := (Obj.mk (Value.type "type") none (Data.cls (ClassData.mk (Str.ofString "Late") [(Value.ref 24)] [(Value.ref 61), (Value.ref 24), (Value.type "ValueError"), (Value.type "Exception"), (Value.type "BaseException"), (Value.type "object")] 60 (Str.ofString "Late") Bool.true [] [] Bool.false none Bool.false)) (List.toArray [(some (Value.ref 52)), none, (some (Value.str (Str.ofString "Late") 239)), (some (Value.str (Str.ofString "Late") 247)), (some (Value.builtin "ValueError.__new__")), (some (Value.bool Bool.true))]))
noncomputable def o48 (_ : Params) : Obj := (Obj.mk (Value.type "super") none (Data.fields (List.toArray [(Value.ref 61), (Value.ref 61), (Value.ref 61)])) (List.toArray []))
noncomputable def o49 (_ : Params) : Obj := (Obj.mk (Value.type "builtin_function_or_method") none (Data.fields (List.toArray [(Value.builtin "object.__init_subclass__"), (Value.ref 61)])) (List.toArray []))
noncomputable def HS5 (P : Params) : Heap := ⟨⟨o0 P :: o1 P :: o2 P :: o33 P :: o4 P :: o5 P :: o6 P :: o7 P :: o8 P :: o9 P :: o10 P :: o7 P :: o34 P :: o11 P :: o12 P :: o15 P :: o16 P :: o17 P :: o7 P :: o8 P :: o18 P :: o19 P :: o7 P :: o20 P :: o35 P :: o22 P :: o23 P :: o24 P :: o25 P :: o16 P :: o26 P :: o7 P :: o8 P :: o27 P :: o28 P :: o7 P :: o29 P :: o30 P :: o31 P :: o32 P :: o25 P :: o16 P :: o36 P :: o7 P :: o8 P :: o37 P :: o38 P :: o7 P :: o39 P :: o40 P :: o41 P :: o42 P :: o25 P :: o16 P :: o43 P :: o7 P :: o8 P :: o44 P :: o45 P :: o7 P :: o46 P :: o47 P :: o48 P :: o49 P :: []⟩, (Life.mk [] [] [] 0 [] [] Bool.false (List.toArray []) [] 0 Bool.false Bool.false Bool.false (0 : Int) [(2000 : Int), (10 : Int), (10 : Int)] Bool.false 0 Bool.true [] [] 0 Bool.false)⟩
noncomputable abbrev S5 (w : World) (os : OsState) : Shared := ⟨HS5 w.params, Array.mk [], (Drawn.mk 0 0 0 0), 255, os⟩
noncomputable def o50 (P : Params) : Obj := (Obj.mk (Value.type "dict") none (Data.dict (List.toArray [(DictEntry.mk (PyData.keyHash P (Str.ofString "__name__")) (Value.str (Str.ofString "__name__") 165) (Value.str (Str.ofString "bucketfall.store") 300)), (DictEntry.mk (PyData.keyHash P (Str.ofString "__doc__")) (Value.str (Str.ofString "__doc__") 166) Value.none), (DictEntry.mk (PyData.keyHash P (Str.ofString "__package__")) (Value.str (Str.ofString "__package__") 167) Value.none), (DictEntry.mk (PyData.keyHash P (Str.ofString "__loader__")) (Value.str (Str.ofString "__loader__") 168) (Value.builtin "__main__.__loader__#opaque")), (DictEntry.mk (PyData.keyHash P (Str.ofString "__spec__")) (Value.str (Str.ofString "__spec__") 169) Value.none), (DictEntry.mk (PyData.keyHash P (Str.ofString "__annotations__")) (Value.str (Str.ofString "__annotations__") 170) (Value.ref 6)), (DictEntry.mk (PyData.keyHash P (Str.ofString "__builtins__")) (Value.str (Str.ofString "__builtins__") 171) (Value.ref 4)), (DictEntry.mk (PyData.keyHash P (Str.ofString "__file__")) (Value.str (Str.ofString "__file__") 173) (Value.str (Str.ofString "/claim/cut.py") 172)), (DictEntry.mk (PyData.keyHash P (Str.ofString "__cached__")) (Value.str (Str.ofString "__cached__") 174) Value.none), (DictEntry.mk (PyData.keyHash P (Str.ofString "FallError")) (Value.str (Str.ofString "FallError") 206) (Value.ref 24)), (DictEntry.mk (PyData.keyHash P (Str.ofString "NoBase")) (Value.str (Str.ofString "NoBase") 222) (Value.ref 37)), (DictEntry.mk (PyData.keyHash P (Str.ofString "NoNumber")) (Value.str (Str.ofString "NoNumber") 238) (Value.ref 49)), (DictEntry.mk (PyData.keyHash P (Str.ofString "Late")) (Value.str (Str.ofString "Late") 254) (Value.ref 61)), (DictEntry.mk (PyData.keyHash P (Str.ofString "Bare")) (Value.str (Str.ofString "Bare") 270) (Value.ref 73)), (DictEntry.mk (PyData.keyHash P (Str.ofString "need_base")) (Value.str (Str.ofString "need_base") 279) (Value.ref 82)), (DictEntry.mk (PyData.keyHash P (Str.ofString "need_number")) (Value.str (Str.ofString "need_number") 286) (Value.ref 89)), (DictEntry.mk (PyData.keyHash P (Str.ofString "parting")) (Value.str (Str.ofString "parting") 299) (Value.ref 96))]) 17) (List.toArray []))
noncomputable def o51 (_ : Params) : Obj := (Obj.mk Value.none none (Data.fields (List.toArray [(Value.int (2 : Int) 0), (Value.int (0 : Int) 0), (Value.ref 20), (Value.int (4 : Int) 0), (Value.int (0 : Int) 0), (Value.ref 33), (Value.int (6 : Int) 0), (Value.int (0 : Int) 0), (Value.ref 45), (Value.int (8 : Int) 0), (Value.int (0 : Int) 0), (Value.ref 57), (Value.int (10 : Int) 0), (Value.int (0 : Int) 0), (Value.ref 69), (Value.int (13 : Int) 0), (Value.int (0 : Int) 0), (Value.ref 81), (Value.int (16 : Int) 0), (Value.int (0 : Int) 0), (Value.ref 88), (Value.int (19 : Int) 0), (Value.int (0 : Int) 0), (Value.ref 95)])) (List.toArray []))
noncomputable def o52 (_ : Params) : Obj := (Obj.mk (Value.type "type") none (Data.cls (ClassData.mk (Str.ofString "FallError") [(Value.type "ValueError")] [(Value.ref 24), (Value.type "ValueError"), (Value.type "Exception"), (Value.type "BaseException"), (Value.type "object")] 23 (Str.ofString "FallError") Bool.true [] [(Value.ref 37), (Value.ref 49), (Value.ref 61), (Value.ref 73)] Bool.false none Bool.false)) (List.toArray [(some (Value.ref 15)), none, (some (Value.str (Str.ofString "FallError") 189)), (some (Value.str (Str.ofString "FallError") 197)), (some (Value.builtin "ValueError.__new__")), (some (Value.bool Bool.true))]))
noncomputable def o53 (P : Params) : Obj := (Obj.mk (Value.type "dict") none (Data.dict (List.toArray [(DictEntry.mk (PyData.keyHash P (Str.ofString "__module__")) (Value.str (Str.ofString "__module__") 262) (Value.str (Str.ofString "bucketfall.errors") 187)), (DictEntry.mk (PyData.keyHash P (Str.ofString "__qualname__")) (Value.str (Str.ofString "__qualname__") 264) (Value.str (Str.ofString "Bare") 263)), (DictEntry.mk (PyData.keyHash P (Str.ofString "__firstlineno__")) (Value.str (Str.ofString "__firstlineno__") 266) (Value.int (10 : Int) 265)), (DictEntry.mk (PyData.keyHash P (Str.ofString "__static_attributes__")) (Value.str (Str.ofString "__static_attributes__") 267) (Value.ref 71))]) 4) (List.toArray []))
noncomputable def o54 (_ : Params) : Obj := (Obj.mk (Value.type "code") none (Data.fields (List.toArray [(Value.str (Str.ofString "Bare") 257), (Value.str (Str.ofString "Bare") 258), (Value.str (Str.ofString "/claim/cut.py") 259), (Value.int (10 : Int) 0), (Value.int (0 : Int) 0), (Value.int (0 : Int) 0), (Value.int (0 : Int) 0), (Value.int (0 : Int) 0), (Value.ref 67), (Value.bool Bool.false), (Value.int (181 : Int) 0), (Value.ref 68), Value.none, Value.none, Value.none, Value.none, (Value.int (260 : Int) 0), (Value.int (10 : Int) 0), (Value.str (Str.ofString "/claim/cut.py") 261)])) (List.toArray []))
noncomputable def o55 (_ : Params) : Obj := (Obj.mk (Value.type "frame") none Data.plain (List.toArray [(some (Value.ref 69)), (some (Value.ref 3)), (some (Value.ref 66)), none, (some (Value.str (Str.ofString "bucketfall.errors") 187)), none, (some (Value.ref 0))]))
noncomputable def o56 (P : Params) : Obj := (Obj.mk (Value.type "dict") none (Data.dict (List.toArray [(DictEntry.mk (PyData.keyHash P (Str.ofString "__module__")) (Value.str (Str.ofString "__module__") 262) (Value.str (Str.ofString "bucketfall.errors") 187)), (DictEntry.mk (PyData.keyHash P (Str.ofString "__firstlineno__")) (Value.str (Str.ofString "__firstlineno__") 266) (Value.int (10 : Int) 265)), (DictEntry.mk (PyData.keyHash P (Str.ofString "__static_attributes__")) (Value.str (Str.ofString "__static_attributes__") 267) (Value.ref 71)), (DictEntry.mk (PyData.keyHash P (Str.ofString "__doc__")) (Value.str (Str.ofString "__doc__") 268) Value.none)]) 2) (List.toArray []))
noncomputable def o57 (_ : Params) : Obj := (Obj.mk (Value.type "type") none (Data.cls (ClassData.mk (Str.ofString "Bare") [(Value.ref 24)] [(Value.ref 73), (Value.ref 24), (Value.type "ValueError"), (Value.type "Exception"), (Value.type "BaseException"), (Value.type "object")] 72 (Str.ofString "Bare") Bool.true [] [] Bool.false none Bool.false)) (List.toArray [(some (Value.ref 64)), none, (some (Value.str (Str.ofString "Bare") 255)), (some (Value.str (Str.ofString "Bare") 263)), (some (Value.builtin "ValueError.__new__")), (some (Value.bool Bool.true))]))
noncomputable def o58 (_ : Params) : Obj := (Obj.mk (Value.type "super") none (Data.fields (List.toArray [(Value.ref 73), (Value.ref 73), (Value.ref 73)])) (List.toArray []))
noncomputable def o59 (_ : Params) : Obj := (Obj.mk (Value.type "builtin_function_or_method") none (Data.fields (List.toArray [(Value.builtin "object.__init_subclass__"), (Value.ref 73)])) (List.toArray []))
noncomputable def o60 (_ : Params) : Obj := (Obj.mk (Value.type "tuple") none (Data.seq (List.toArray [(Value.str (Str.ofString "base") 276)]) 0) (List.toArray []))
noncomputable def o61 (_ : Params) : Obj := fnZ (st 7) (Str.ofString "need_base")
noncomputable def o62 (_ : Params) : Obj := (Obj.mk (Value.type "code") none (Data.fields (List.toArray [(Value.str (Str.ofString "need_base") 273), (Value.str (Str.ofString "need_base") 274), (Value.str (Str.ofString "/claim/cut.py") 275), (Value.int (13 : Int) 0), (Value.int (1 : Int) 0), (Value.int (0 : Int) 0), (Value.int (0 : Int) 0), (Value.int (3 : Int) 0), (Value.ref 76), (Value.bool Bool.true), (Value.int (181 : Int) 0), (Value.ref 77), Value.none, (Value.ref 78), (Value.ref 79), (Value.ref 80), (Value.int (277 : Int) 0), (Value.int (13 : Int) 0), (Value.str (Str.ofString "/claim/cut.py") 278)])) (List.toArray []))
noncomputable def o63 (_ : Params) : Obj := fnO (st 7) (Str.ofString "need_base") (Value.str (Str.ofString "bucketfall.figures") 271) (Value.ref 81)
noncomputable def o64 (_ : Params) : Obj := (Obj.mk (Value.type "tuple") none (Data.seq (List.toArray [(Value.str (Str.ofString "number") 283)]) 0) (List.toArray []))
noncomputable def o65 (_ : Params) : Obj := fnZ (st 8) (Str.ofString "need_number")
noncomputable def o66 (_ : Params) : Obj := (Obj.mk (Value.type "code") none (Data.fields (List.toArray [(Value.str (Str.ofString "need_number") 280), (Value.str (Str.ofString "need_number") 281), (Value.str (Str.ofString "/claim/cut.py") 282), (Value.int (16 : Int) 0), (Value.int (1 : Int) 0), (Value.int (0 : Int) 0), (Value.int (0 : Int) 0), (Value.int (3 : Int) 0), (Value.ref 83), (Value.bool Bool.true), (Value.int (181 : Int) 0), (Value.ref 84), Value.none, (Value.ref 85), (Value.ref 86), (Value.ref 87), (Value.int (284 : Int) 0), (Value.int (16 : Int) 0), (Value.str (Str.ofString "/claim/cut.py") 285)])) (List.toArray []))
noncomputable def o67 (_ : Params) : Obj := fnO (st 8) (Str.ofString "need_number") (Value.str (Str.ofString "bucketfall.figures") 271) (Value.ref 88)
noncomputable def o68 (_ : Params) : Obj := (Obj.mk (Value.type "tuple") none (Data.seq (List.toArray [(Value.str (Str.ofString "one") 290), (Value.str (Str.ofString "other") 291), (Value.str (Str.ofString "base") 292), (Value.str (Str.ofString "found") 293), (Value.str (Str.ofString "place") 294), (Value.str (Str.ofString "left") 295), (Value.str (Str.ofString "right") 296)]) 0) (List.toArray []))
noncomputable def o69 (_ : Params) : Obj := fnZ (st 9) (Str.ofString "parting")
noncomputable def o70 (_ : Params) : Obj := (Obj.mk (Value.type "code") none (Data.fields (List.toArray [(Value.str (Str.ofString "parting") 287), (Value.str (Str.ofString "parting") 288), (Value.str (Str.ofString "/claim/cut.py") 289), (Value.int (19 : Int) 0), (Value.int (3 : Int) 0), (Value.int (0 : Int) 0), (Value.int (0 : Int) 0), (Value.int (3 : Int) 0), (Value.ref 90), (Value.bool Bool.true), (Value.int (181 : Int) 0), (Value.ref 91), Value.none, (Value.ref 92), (Value.ref 93), (Value.ref 94), (Value.int (297 : Int) 0), (Value.int (19 : Int) 0), (Value.str (Str.ofString "/claim/cut.py") 298)])) (List.toArray []))
noncomputable def o71 (_ : Params) : Obj := fnO (st 9) (Str.ofString "parting") (Value.str (Str.ofString "bucketfall.figures") 271) (Value.ref 95)
noncomputable def HS11 (P : Params) : Heap := ⟨⟨o0 P :: o1 P :: o2 P :: o50 P :: o4 P :: o5 P :: o6 P :: o7 P :: o8 P :: o9 P :: o10 P :: o7 P :: o51 P :: o11 P :: o12 P :: o15 P :: o16 P :: o17 P :: o7 P :: o8 P :: o18 P :: o19 P :: o7 P :: o20 P :: o52 P :: o22 P :: o23 P :: o24 P :: o25 P :: o16 P :: o26 P :: o7 P :: o8 P :: o27 P :: o28 P :: o7 P :: o29 P :: o30 P :: o31 P :: o32 P :: o25 P :: o16 P :: o36 P :: o7 P :: o8 P :: o37 P :: o38 P :: o7 P :: o39 P :: o40 P :: o41 P :: o42 P :: o25 P :: o16 P :: o43 P :: o7 P :: o8 P :: o44 P :: o45 P :: o7 P :: o46 P :: o47 P :: o48 P :: o49 P :: o25 P :: o16 P :: o53 P :: o7 P :: o8 P :: o54 P :: o55 P :: o7 P :: o56 P :: o57 P :: o58 P :: o59 P :: o7 P :: o8 P :: o60 P :: o7 P :: o61 P :: o62 P :: o63 P :: o7 P :: o8 P :: o64 P :: o7 P :: o65 P :: o66 P :: o67 P :: o7 P :: o8 P :: o68 P :: o7 P :: o69 P :: o70 P :: o71 P :: []⟩, (Life.mk [] [] [] 0 [] [] Bool.false (List.toArray []) [] 0 Bool.false Bool.false Bool.false (0 : Int) [(2000 : Int), (10 : Int), (10 : Int)] Bool.false 0 Bool.true [] [] 0 Bool.false)⟩
noncomputable abbrev S11 (w : World) (os : OsState) : Shared := ⟨HS11 w.params, Array.mk [], (Drawn.mk 0 0 0 0), 302, os⟩
noncomputable def o72 (P : Params) : Obj := (Obj.mk (Value.type "dict") none (Data.dict (List.toArray [(DictEntry.mk (PyData.keyHash P (Str.ofString "__name__")) (Value.str (Str.ofString "__name__") 165) (Value.str (Str.ofString "law_uf060022_10") 393)), (DictEntry.mk (PyData.keyHash P (Str.ofString "__doc__")) (Value.str (Str.ofString "__doc__") 166) Value.none), (DictEntry.mk (PyData.keyHash P (Str.ofString "__package__")) (Value.str (Str.ofString "__package__") 167) Value.none), (DictEntry.mk (PyData.keyHash P (Str.ofString "__loader__")) (Value.str (Str.ofString "__loader__") 168) (Value.builtin "__main__.__loader__#opaque")), (DictEntry.mk (PyData.keyHash P (Str.ofString "__spec__")) (Value.str (Str.ofString "__spec__") 169) Value.none), (DictEntry.mk (PyData.keyHash P (Str.ofString "__annotations__")) (Value.str (Str.ofString "__annotations__") 170) (Value.ref 6)), (DictEntry.mk (PyData.keyHash P (Str.ofString "__builtins__")) (Value.str (Str.ofString "__builtins__") 171) (Value.ref 4)), (DictEntry.mk (PyData.keyHash P (Str.ofString "__file__")) (Value.str (Str.ofString "__file__") 173) (Value.str (Str.ofString "/claim/cut.py") 172)), (DictEntry.mk (PyData.keyHash P (Str.ofString "__cached__")) (Value.str (Str.ofString "__cached__") 174) Value.none), (DictEntry.mk (PyData.keyHash P (Str.ofString "FallError")) (Value.str (Str.ofString "FallError") 206) (Value.ref 24)), (DictEntry.mk (PyData.keyHash P (Str.ofString "NoBase")) (Value.str (Str.ofString "NoBase") 222) (Value.ref 37)), (DictEntry.mk (PyData.keyHash P (Str.ofString "NoNumber")) (Value.str (Str.ofString "NoNumber") 238) (Value.ref 49)), (DictEntry.mk (PyData.keyHash P (Str.ofString "Late")) (Value.str (Str.ofString "Late") 254) (Value.ref 61)), (DictEntry.mk (PyData.keyHash P (Str.ofString "Bare")) (Value.str (Str.ofString "Bare") 270) (Value.ref 73)), (DictEntry.mk (PyData.keyHash P (Str.ofString "need_base")) (Value.str (Str.ofString "need_base") 279) (Value.ref 82)), (DictEntry.mk (PyData.keyHash P (Str.ofString "need_number")) (Value.str (Str.ofString "need_number") 286) (Value.ref 89)), (DictEntry.mk (PyData.keyHash P (Str.ofString "parting")) (Value.str (Str.ofString "parting") 299) (Value.ref 96)), (DictEntry.mk (PyData.keyHash P (Str.ofString "Store")) (Value.str (Str.ofString "Store") 392) (Value.ref 158)), (DictEntry.mk (PyData.keyHash P (Str.ofString "_law_cell_at")) (Value.str (Str.ofString "_law_cell_at") 402) (Value.ref 169)), (DictEntry.mk (PyData.keyHash P (Str.ofString "_law_room")) (Value.str (Str.ofString "_law_room") 410) (Value.ref 176)), (DictEntry.mk (PyData.keyHash P (Str.ofString "_law_whole")) (Value.str (Str.ofString "_law_whole") 417) (Value.ref 183)), (DictEntry.mk (PyData.keyHash P (Str.ofString "_law_name_by")) (Value.str (Str.ofString "_law_name_by") 423) (Value.ref 188)), (DictEntry.mk (PyData.keyHash P (Str.ofString "_law_first")) (Value.str (Str.ofString "_law_first") 432) (Value.ref 195))]) 23) (List.toArray []))
noncomputable def o73 (_ : Params) : Obj := (Obj.mk Value.none none (Data.fields (List.toArray [(Value.int (2 : Int) 0), (Value.int (0 : Int) 0), (Value.ref 20), (Value.int (4 : Int) 0), (Value.int (0 : Int) 0), (Value.ref 33), (Value.int (6 : Int) 0), (Value.int (0 : Int) 0), (Value.ref 45), (Value.int (8 : Int) 0), (Value.int (0 : Int) 0), (Value.ref 57), (Value.int (10 : Int) 0), (Value.int (0 : Int) 0), (Value.ref 69), (Value.int (13 : Int) 0), (Value.int (0 : Int) 0), (Value.ref 81), (Value.int (16 : Int) 0), (Value.int (0 : Int) 0), (Value.ref 88), (Value.int (19 : Int) 0), (Value.int (0 : Int) 0), (Value.ref 95), (Value.int (35 : Int) 0), (Value.int (0 : Int) 0), (Value.ref 102), (Value.int (96 : Int) 0), (Value.int (0 : Int) 0), (Value.ref 168), (Value.int (100 : Int) 0), (Value.int (0 : Int) 0), (Value.ref 175), (Value.int (106 : Int) 0), (Value.int (0 : Int) 0), (Value.ref 182), (Value.int (108 : Int) 0), (Value.int (0 : Int) 0), (Value.ref 187), (Value.int (112 : Int) 0), (Value.int (0 : Int) 0), (Value.ref 194)])) (List.toArray []))
noncomputable def o74 (P : Params) : Obj := (Obj.mk (Value.type "dict") none (Data.dict (List.toArray [(DictEntry.mk (PyData.keyHash P (Str.ofString "__module__")) (Value.str (Str.ofString "__module__") 309) (Value.str (Str.ofString "bucketfall.store") 300)), (DictEntry.mk (PyData.keyHash P (Str.ofString "__qualname__")) (Value.str (Str.ofString "__qualname__") 311) (Value.str (Str.ofString "Store") 310)), (DictEntry.mk (PyData.keyHash P (Str.ofString "__firstlineno__")) (Value.str (Str.ofString "__firstlineno__") 313) (Value.int (35 : Int) 312)), (DictEntry.mk (PyData.keyHash P (Str.ofString "__init__")) (Value.str (Str.ofString "__init__") 321) (Value.ref 110)), (DictEntry.mk (PyData.keyHash P (Str.ofString "laid")) (Value.str (Str.ofString "laid") 330) (Value.ref 117)), (DictEntry.mk (PyData.keyHash P (Str.ofString "put")) (Value.str (Str.ofString "put") 339) (Value.ref 124)), (DictEntry.mk (PyData.keyHash P (Str.ofString "lowest")) (Value.str (Str.ofString "lowest") 345) (Value.ref 129)), (DictEntry.mk (PyData.keyHash P (Str.ofString "fallen")) (Value.str (Str.ofString "fallen") 351) (Value.ref 134)), (DictEntry.mk (PyData.keyHash P (Str.ofString "take")) (Value.str (Str.ofString "take") 359) (Value.ref 141)), (DictEntry.mk (PyData.keyHash P (Str.ofString "least")) (Value.str (Str.ofString "least") 369) (Value.ref 148)), (DictEntry.mk (PyData.keyHash P (Str.ofString "rows")) (Value.str (Str.ofString "rows") 379) (Value.ref 155)), (DictEntry.mk (PyData.keyHash P (Str.ofString "__static_attributes__")) (Value.str (Str.ofString "__static_attributes__") 385) (Value.ref 156))]) 12) (List.toArray []))
noncomputable def o75 (_ : Params) : Obj := (Obj.mk Value.none none (Data.fields (List.toArray [(Value.int (37 : Int) 0), (Value.int (4 : Int) 0), (Value.ref 109), (Value.int (45 : Int) 0), (Value.int (4 : Int) 0), (Value.ref 116), (Value.int (51 : Int) 0), (Value.int (4 : Int) 0), (Value.ref 123), (Value.int (58 : Int) 0), (Value.int (4 : Int) 0), (Value.ref 128), (Value.int (63 : Int) 0), (Value.int (4 : Int) 0), (Value.ref 133), (Value.int (74 : Int) 0), (Value.int (4 : Int) 0), (Value.ref 140), (Value.int (81 : Int) 0), (Value.int (4 : Int) 0), (Value.ref 147), (Value.int (89 : Int) 0), (Value.int (4 : Int) 0), (Value.ref 154)])) (List.toArray []))
noncomputable def o76 (_ : Params) : Obj := (Obj.mk (Value.type "code") none (Data.fields (List.toArray [(Value.str (Str.ofString "Store") 304), (Value.str (Str.ofString "Store") 305), (Value.str (Str.ofString "/claim/cut.py") 306), (Value.int (35 : Int) 0), (Value.int (0 : Int) 0), (Value.int (0 : Int) 0), (Value.int (0 : Int) 0), (Value.int (0 : Int) 0), (Value.ref 100), (Value.bool Bool.false), (Value.int (181 : Int) 0), (Value.ref 101), Value.none, Value.none, Value.none, Value.none, (Value.int (307 : Int) 0), (Value.int (35 : Int) 0), (Value.str (Str.ofString "/claim/cut.py") 308)])) (List.toArray []))
noncomputable def o77 (_ : Params) : Obj := (Obj.mk (Value.type "frame") none Data.plain (List.toArray [(some (Value.ref 102)), (some (Value.ref 3)), (some (Value.ref 99)), none, (some (Value.str (Str.ofString "bucketfall.store") 300)), none, (some (Value.ref 0))]))
noncomputable def o78 (_ : Params) : Obj := (Obj.mk (Value.type "tuple") none (Data.seq (List.toArray [(Value.str (Str.ofString "self") 317), (Value.str (Str.ofString "base") 318)]) 0) (List.toArray []))
noncomputable def o79 (_ : Params) : Obj := fnZ (mt 11 0) (Str.ofString "Store.__init__")
noncomputable def o80 (_ : Params) : Obj := (Obj.mk (Value.type "code") none (Data.fields (List.toArray [(Value.str (Str.ofString "__init__") 314), (Value.str (Str.ofString "Store.__init__") 315), (Value.str (Str.ofString "/claim/cut.py") 316), (Value.int (37 : Int) 0), (Value.int (2 : Int) 0), (Value.int (0 : Int) 0), (Value.int (0 : Int) 0), (Value.int (3 : Int) 0), (Value.ref 104), (Value.bool Bool.true), (Value.int (181 : Int) 0), (Value.ref 105), Value.none, (Value.ref 106), (Value.ref 107), (Value.ref 108), (Value.int (319 : Int) 0), (Value.int (37 : Int) 0), (Value.str (Str.ofString "/claim/cut.py") 320)])) (List.toArray []))
noncomputable def o81 (_ : Params) : Obj := fnO (mt 11 0) (Str.ofString "Store.__init__") (Value.str (Str.ofString "bucketfall.store") 300) (Value.ref 109)
noncomputable def o82 (_ : Params) : Obj := (Obj.mk (Value.type "tuple") none (Data.seq (List.toArray [(Value.str (Str.ofString "self") 325), (Value.str (Str.ofString "thing") 326), (Value.str (Str.ofString "place") 327)]) 0) (List.toArray []))
noncomputable def o83 (_ : Params) : Obj := fnZ (mt 11 1) (Str.ofString "Store.laid")
noncomputable def o84 (_ : Params) : Obj := (Obj.mk (Value.type "code") none (Data.fields (List.toArray [(Value.str (Str.ofString "laid") 322), (Value.str (Str.ofString "Store.laid") 323), (Value.str (Str.ofString "/claim/cut.py") 324), (Value.int (45 : Int) 0), (Value.int (2 : Int) 0), (Value.int (0 : Int) 0), (Value.int (0 : Int) 0), (Value.int (3 : Int) 0), (Value.ref 111), (Value.bool Bool.true), (Value.int (181 : Int) 0), (Value.ref 112), Value.none, (Value.ref 113), (Value.ref 114), (Value.ref 115), (Value.int (328 : Int) 0), (Value.int (45 : Int) 0), (Value.str (Str.ofString "/claim/cut.py") 329)])) (List.toArray []))
noncomputable def o85 (_ : Params) : Obj := fnO (mt 11 1) (Str.ofString "Store.laid") (Value.str (Str.ofString "bucketfall.store") 300) (Value.ref 116)
noncomputable def o86 (_ : Params) : Obj := (Obj.mk (Value.type "tuple") none (Data.seq (List.toArray [(Value.str (Str.ofString "self") 334), (Value.str (Str.ofString "number") 335), (Value.str (Str.ofString "name") 336)]) 0) (List.toArray []))
noncomputable def o87 (_ : Params) : Obj := fnZ (mt 11 2) (Str.ofString "Store.put")
noncomputable def o88 (_ : Params) : Obj := (Obj.mk (Value.type "code") none (Data.fields (List.toArray [(Value.str (Str.ofString "put") 331), (Value.str (Str.ofString "Store.put") 332), (Value.str (Str.ofString "/claim/cut.py") 333), (Value.int (51 : Int) 0), (Value.int (3 : Int) 0), (Value.int (0 : Int) 0), (Value.int (0 : Int) 0), (Value.int (3 : Int) 0), (Value.ref 118), (Value.bool Bool.true), (Value.int (181 : Int) 0), (Value.ref 119), Value.none, (Value.ref 120), (Value.ref 121), (Value.ref 122), (Value.int (337 : Int) 0), (Value.int (51 : Int) 0), (Value.str (Str.ofString "/claim/cut.py") 338)])) (List.toArray []))
noncomputable def o89 (_ : Params) : Obj := fnO (mt 11 2) (Str.ofString "Store.put") (Value.str (Str.ofString "bucketfall.store") 300) (Value.ref 123)
noncomputable def o90 (_ : Params) : Obj := fnZ (mt 11 3) (Str.ofString "Store.lowest")
noncomputable def o91 (_ : Params) : Obj := (Obj.mk (Value.type "code") none (Data.fields (List.toArray [(Value.str (Str.ofString "lowest") 340), (Value.str (Str.ofString "Store.lowest") 341), (Value.str (Str.ofString "/claim/cut.py") 342), (Value.int (58 : Int) 0), (Value.int (1 : Int) 0), (Value.int (0 : Int) 0), (Value.int (0 : Int) 0), (Value.int (3 : Int) 0), (Value.ref 125), (Value.bool Bool.true), (Value.int (181 : Int) 0), (Value.ref 126), Value.none, Value.none, Value.none, (Value.ref 127), (Value.int (343 : Int) 0), (Value.int (58 : Int) 0), (Value.str (Str.ofString "/claim/cut.py") 344)])) (List.toArray []))
noncomputable def o92 (_ : Params) : Obj := fnO (mt 11 3) (Str.ofString "Store.lowest") (Value.str (Str.ofString "bucketfall.store") 300) (Value.ref 128)
noncomputable def o93 (_ : Params) : Obj := fnZ (mt 11 4) (Str.ofString "Store.fallen")
noncomputable def o94 (_ : Params) : Obj := (Obj.mk (Value.type "code") none (Data.fields (List.toArray [(Value.str (Str.ofString "fallen") 346), (Value.str (Str.ofString "Store.fallen") 347), (Value.str (Str.ofString "/claim/cut.py") 348), (Value.int (63 : Int) 0), (Value.int (2 : Int) 0), (Value.int (0 : Int) 0), (Value.int (0 : Int) 0), (Value.int (3 : Int) 0), (Value.ref 130), (Value.bool Bool.true), (Value.int (181 : Int) 0), (Value.ref 131), Value.none, Value.none, Value.none, (Value.ref 132), (Value.int (349 : Int) 0), (Value.int (63 : Int) 0), (Value.str (Str.ofString "/claim/cut.py") 350)])) (List.toArray []))
noncomputable def o95 (_ : Params) : Obj := fnO (mt 11 4) (Str.ofString "Store.fallen") (Value.str (Str.ofString "bucketfall.store") 300) (Value.ref 133)
noncomputable def o96 (_ : Params) : Obj := (Obj.mk (Value.type "tuple") none (Data.seq (List.toArray [(Value.str (Str.ofString "self") 355), (Value.str (Str.ofString "place") 356)]) 0) (List.toArray []))
noncomputable def o97 (_ : Params) : Obj := fnZ (mt 11 5) (Str.ofString "Store.take")
noncomputable def o98 (_ : Params) : Obj := (Obj.mk (Value.type "code") none (Data.fields (List.toArray [(Value.str (Str.ofString "take") 352), (Value.str (Str.ofString "Store.take") 353), (Value.str (Str.ofString "/claim/cut.py") 354), (Value.int (74 : Int) 0), (Value.int (1 : Int) 0), (Value.int (0 : Int) 0), (Value.int (0 : Int) 0), (Value.int (3 : Int) 0), (Value.ref 135), (Value.bool Bool.true), (Value.int (181 : Int) 0), (Value.ref 136), Value.none, (Value.ref 137), (Value.ref 138), (Value.ref 139), (Value.int (357 : Int) 0), (Value.int (74 : Int) 0), (Value.str (Str.ofString "/claim/cut.py") 358)])) (List.toArray []))
noncomputable def o99 (_ : Params) : Obj := fnO (mt 11 5) (Str.ofString "Store.take") (Value.str (Str.ofString "bucketfall.store") 300) (Value.ref 140)
noncomputable def o100 (_ : Params) : Obj := (Obj.mk (Value.type "tuple") none (Data.seq (List.toArray [(Value.str (Str.ofString "self") 363), (Value.str (Str.ofString "row") 364), (Value.str (Str.ofString "found") 365), (Value.str (Str.ofString "thing") 366)]) 0) (List.toArray []))
noncomputable def o101 (_ : Params) : Obj := fnZ (mt 11 6) (Str.ofString "Store.least")
noncomputable def o102 (_ : Params) : Obj := (Obj.mk (Value.type "code") none (Data.fields (List.toArray [(Value.str (Str.ofString "least") 360), (Value.str (Str.ofString "Store.least") 361), (Value.str (Str.ofString "/claim/cut.py") 362), (Value.int (81 : Int) 0), (Value.int (1 : Int) 0), (Value.int (0 : Int) 0), (Value.int (0 : Int) 0), (Value.int (3 : Int) 0), (Value.ref 142), (Value.bool Bool.true), (Value.int (181 : Int) 0), (Value.ref 143), Value.none, (Value.ref 144), (Value.ref 145), (Value.ref 146), (Value.int (367 : Int) 0), (Value.int (81 : Int) 0), (Value.str (Str.ofString "/claim/cut.py") 368)])) (List.toArray []))
noncomputable def o103 (_ : Params) : Obj := fnO (mt 11 6) (Str.ofString "Store.least") (Value.str (Str.ofString "bucketfall.store") 300) (Value.ref 147)
noncomputable def o104 (_ : Params) : Obj := (Obj.mk (Value.type "tuple") none (Data.seq (List.toArray [(Value.str (Str.ofString "self") 373), (Value.str (Str.ofString "found") 374), (Value.str (Str.ofString "place") 375), (Value.str (Str.ofString "thing") 376)]) 0) (List.toArray []))
noncomputable def o105 (_ : Params) : Obj := fnZ (mt 11 7) (Str.ofString "Store.rows")
noncomputable def o106 (_ : Params) : Obj := (Obj.mk (Value.type "code") none (Data.fields (List.toArray [(Value.str (Str.ofString "rows") 370), (Value.str (Str.ofString "Store.rows") 371), (Value.str (Str.ofString "/claim/cut.py") 372), (Value.int (89 : Int) 0), (Value.int (1 : Int) 0), (Value.int (0 : Int) 0), (Value.int (0 : Int) 0), (Value.int (3 : Int) 0), (Value.ref 149), (Value.bool Bool.true), (Value.int (181 : Int) 0), (Value.ref 150), Value.none, (Value.ref 151), (Value.ref 152), (Value.ref 153), (Value.int (377 : Int) 0), (Value.int (89 : Int) 0), (Value.str (Str.ofString "/claim/cut.py") 378)])) (List.toArray []))
noncomputable def o107 (_ : Params) : Obj := fnO (mt 11 7) (Str.ofString "Store.rows") (Value.str (Str.ofString "bucketfall.store") 300) (Value.ref 154)
noncomputable def o108 (_ : Params) : Obj := (Obj.mk (Value.type "tuple") none (Data.seq (List.toArray [(Value.str (Str.ofString "base") 380), (Value.str (Str.ofString "buckets") 381), (Value.str (Str.ofString "last") 382), (Value.str (Str.ofString "many") 383), (Value.str (Str.ofString "moves") 384)]) 0) (List.toArray []))
noncomputable def o109 (P : Params) : Obj := (Obj.mk (Value.type "dict") none (Data.dict (List.toArray [(DictEntry.mk (PyData.keyHash P (Str.ofString "__module__")) (Value.str (Str.ofString "__module__") 309) (Value.str (Str.ofString "bucketfall.store") 300)), (DictEntry.mk (PyData.keyHash P (Str.ofString "__firstlineno__")) (Value.str (Str.ofString "__firstlineno__") 313) (Value.int (35 : Int) 312)), (DictEntry.mk (PyData.keyHash P (Str.ofString "__init__")) (Value.str (Str.ofString "__init__") 321) (Value.ref 110)), (DictEntry.mk (PyData.keyHash P (Str.ofString "laid")) (Value.str (Str.ofString "laid") 330) (Value.ref 117)), (DictEntry.mk (PyData.keyHash P (Str.ofString "put")) (Value.str (Str.ofString "put") 339) (Value.ref 124)), (DictEntry.mk (PyData.keyHash P (Str.ofString "lowest")) (Value.str (Str.ofString "lowest") 345) (Value.ref 129)), (DictEntry.mk (PyData.keyHash P (Str.ofString "fallen")) (Value.str (Str.ofString "fallen") 351) (Value.ref 134)), (DictEntry.mk (PyData.keyHash P (Str.ofString "take")) (Value.str (Str.ofString "take") 359) (Value.ref 141)), (DictEntry.mk (PyData.keyHash P (Str.ofString "least")) (Value.str (Str.ofString "least") 369) (Value.ref 148)), (DictEntry.mk (PyData.keyHash P (Str.ofString "rows")) (Value.str (Str.ofString "rows") 379) (Value.ref 155)), (DictEntry.mk (PyData.keyHash P (Str.ofString "__static_attributes__")) (Value.str (Str.ofString "__static_attributes__") 385) (Value.ref 156)), (DictEntry.mk (PyData.keyHash P (Str.ofString "__dict__")) (Value.str (Str.ofString "__dict__") 387) (Value.ref 159)), (DictEntry.mk (PyData.keyHash P (Str.ofString "__weakref__")) (Value.str (Str.ofString "__weakref__") 389) (Value.ref 160)), (DictEntry.mk (PyData.keyHash P (Str.ofString "__doc__")) (Value.str (Str.ofString "__doc__") 390) Value.none)]) 4) (List.toArray []))
noncomputable def o110 (_ : Params) : Obj := (Obj.mk (Value.type "type") none (Data.cls (ClassData.mk (Str.ofString "Store") [(Value.type "object")] [(Value.ref 158), (Value.type "object")] 157 (Str.ofString "Store") Bool.true [] [] Bool.false none Bool.false)) (List.toArray [none, none, (some (Value.str (Str.ofString "Store") 302)), (some (Value.str (Str.ofString "Store") 310)), (some (Value.builtin "object.__new__")), (some (Value.bool Bool.true))]))
noncomputable def o111 (_ : Params) : Obj := (Obj.mk (Value.type "getset_descriptor") none (Data.fields (List.toArray [(Value.str (Str.ofString "__dict__") 386), (Value.ref 158), (Value.builtin "function.__dict__"), (Value.builtin "function.__dict__#set")])) (List.toArray []))
noncomputable def o112 (_ : Params) : Obj := (Obj.mk (Value.type "getset_descriptor") none (Data.fields (List.toArray [(Value.str (Str.ofString "__weakref__") 388), (Value.ref 158), (Value.builtin "ExceptionGroup.__weakref__"), Value.none])) (List.toArray []))
noncomputable def o113 (_ : Params) : Obj := (Obj.mk (Value.type "super") none (Data.fields (List.toArray [(Value.ref 158), (Value.ref 158), (Value.ref 158)])) (List.toArray []))
noncomputable def o114 (_ : Params) : Obj := (Obj.mk (Value.type "builtin_function_or_method") none (Data.fields (List.toArray [(Value.builtin "object.__init_subclass__"), (Value.ref 158)])) (List.toArray []))
noncomputable def o115 (_ : Params) : Obj := (Obj.mk (Value.type "tuple") none (Data.seq (List.toArray [(Value.str (Str.ofString "_law_script") 398), (Value.str (Str.ofString "_law_k") 399)]) 0) (List.toArray []))
noncomputable def o116 (_ : Params) : Obj := fnZ (st 13) (Str.ofString "_law_cell_at")
noncomputable def o117 (_ : Params) : Obj := (Obj.mk (Value.type "code") none (Data.fields (List.toArray [(Value.str (Str.ofString "_law_cell_at") 395), (Value.str (Str.ofString "_law_cell_at") 396), (Value.str (Str.ofString "/claim/cut.py") 397), (Value.int (96 : Int) 0), (Value.int (2 : Int) 0), (Value.int (0 : Int) 0), (Value.int (0 : Int) 0), (Value.int (3 : Int) 0), (Value.ref 163), (Value.bool Bool.true), (Value.int (181 : Int) 0), (Value.ref 164), Value.none, (Value.ref 165), (Value.ref 166), (Value.ref 167), (Value.int (400 : Int) 0), (Value.int (96 : Int) 0), (Value.str (Str.ofString "/claim/cut.py") 401)])) (List.toArray []))
noncomputable def o118 (_ : Params) : Obj := fnO (st 13) (Str.ofString "_law_cell_at") (Value.str (Str.ofString "law_uf060022_10") 393) (Value.ref 168)
noncomputable def o119 (_ : Params) : Obj := (Obj.mk (Value.type "tuple") none (Data.seq (List.toArray [(Value.str (Str.ofString "_law_script") 406), (Value.str (Str.ofString "_law_far") 407)]) 0) (List.toArray []))
noncomputable def o120 (_ : Params) : Obj := fnZ (st 14) (Str.ofString "_law_room")
noncomputable def o121 (_ : Params) : Obj := (Obj.mk (Value.type "code") none (Data.fields (List.toArray [(Value.str (Str.ofString "_law_room") 403), (Value.str (Str.ofString "_law_room") 404), (Value.str (Str.ofString "/claim/cut.py") 405), (Value.int (100 : Int) 0), (Value.int (2 : Int) 0), (Value.int (0 : Int) 0), (Value.int (0 : Int) 0), (Value.int (3 : Int) 0), (Value.ref 170), (Value.bool Bool.true), (Value.int (181 : Int) 0), (Value.ref 171), Value.none, (Value.ref 172), (Value.ref 173), (Value.ref 174), (Value.int (408 : Int) 0), (Value.int (100 : Int) 0), (Value.str (Str.ofString "/claim/cut.py") 409)])) (List.toArray []))
noncomputable def o122 (_ : Params) : Obj := fnO (st 14) (Str.ofString "_law_room") (Value.str (Str.ofString "law_uf060022_10") 393) (Value.ref 175)
noncomputable def o123 (_ : Params) : Obj := (Obj.mk (Value.type "tuple") none (Data.seq (List.toArray [(Value.str (Str.ofString "_law_found") 414)]) 0) (List.toArray []))
noncomputable def o124 (_ : Params) : Obj := fnZ (st 15) (Str.ofString "_law_whole")
noncomputable def o125 (_ : Params) : Obj := (Obj.mk (Value.type "code") none (Data.fields (List.toArray [(Value.str (Str.ofString "_law_whole") 411), (Value.str (Str.ofString "_law_whole") 412), (Value.str (Str.ofString "/claim/cut.py") 413), (Value.int (106 : Int) 0), (Value.int (1 : Int) 0), (Value.int (0 : Int) 0), (Value.int (0 : Int) 0), (Value.int (3 : Int) 0), (Value.ref 177), (Value.bool Bool.true), (Value.int (181 : Int) 0), (Value.ref 178), Value.none, (Value.ref 179), (Value.ref 180), (Value.ref 181), (Value.int (415 : Int) 0), (Value.int (106 : Int) 0), (Value.str (Str.ofString "/claim/cut.py") 416)])) (List.toArray []))
noncomputable def o126 (_ : Params) : Obj := fnO (st 15) (Str.ofString "_law_whole") (Value.str (Str.ofString "law_uf060022_10") 393) (Value.ref 182)
noncomputable def o127 (_ : Params) : Obj := fnZ (st 16) (Str.ofString "_law_name_by")
noncomputable def o128 (_ : Params) : Obj := (Obj.mk (Value.type "code") none (Data.fields (List.toArray [(Value.str (Str.ofString "_law_name_by") 418), (Value.str (Str.ofString "_law_name_by") 419), (Value.str (Str.ofString "/claim/cut.py") 420), (Value.int (108 : Int) 0), (Value.int (2 : Int) 0), (Value.int (0 : Int) 0), (Value.int (0 : Int) 0), (Value.int (3 : Int) 0), (Value.ref 184), (Value.bool Bool.true), (Value.int (181 : Int) 0), (Value.ref 185), Value.none, Value.none, Value.none, (Value.ref 186), (Value.int (421 : Int) 0), (Value.int (108 : Int) 0), (Value.str (Str.ofString "/claim/cut.py") 422)])) (List.toArray []))
noncomputable def o129 (_ : Params) : Obj := fnO (st 16) (Str.ofString "_law_name_by") (Value.str (Str.ofString "law_uf060022_10") 393) (Value.ref 187)
noncomputable def o130 (_ : Params) : Obj := (Obj.mk (Value.type "tuple") none (Data.seq (List.toArray [(Value.str (Str.ofString "_law_things") 427), (Value.str (Str.ofString "_law_at") 428), (Value.str (Str.ofString "_law_k") 429)]) 0) (List.toArray []))
noncomputable def o131 (_ : Params) : Obj := fnZ (st 17) (Str.ofString "_law_first")
noncomputable def o132 (_ : Params) : Obj := (Obj.mk (Value.type "code") none (Data.fields (List.toArray [(Value.str (Str.ofString "_law_first") 424), (Value.str (Str.ofString "_law_first") 425), (Value.str (Str.ofString "/claim/cut.py") 426), (Value.int (112 : Int) 0), (Value.int (1 : Int) 0), (Value.int (0 : Int) 0), (Value.int (0 : Int) 0), (Value.int (3 : Int) 0), (Value.ref 189), (Value.bool Bool.true), (Value.int (181 : Int) 0), (Value.ref 190), Value.none, (Value.ref 191), (Value.ref 192), (Value.ref 193), (Value.int (430 : Int) 0), (Value.int (112 : Int) 0), (Value.str (Str.ofString "/claim/cut.py") 431)])) (List.toArray []))
noncomputable def o133 (_ : Params) : Obj := fnO (st 17) (Str.ofString "_law_first") (Value.str (Str.ofString "law_uf060022_10") 393) (Value.ref 194)
noncomputable def HS18 (P : Params) : Heap := ⟨⟨o0 P :: o1 P :: o2 P :: o72 P :: o4 P :: o5 P :: o6 P :: o7 P :: o8 P :: o9 P :: o10 P :: o7 P :: o73 P :: o11 P :: o12 P :: o15 P :: o16 P :: o17 P :: o7 P :: o8 P :: o18 P :: o19 P :: o7 P :: o20 P :: o52 P :: o22 P :: o23 P :: o24 P :: o25 P :: o16 P :: o26 P :: o7 P :: o8 P :: o27 P :: o28 P :: o7 P :: o29 P :: o30 P :: o31 P :: o32 P :: o25 P :: o16 P :: o36 P :: o7 P :: o8 P :: o37 P :: o38 P :: o7 P :: o39 P :: o40 P :: o41 P :: o42 P :: o25 P :: o16 P :: o43 P :: o7 P :: o8 P :: o44 P :: o45 P :: o7 P :: o46 P :: o47 P :: o48 P :: o49 P :: o25 P :: o16 P :: o53 P :: o7 P :: o8 P :: o54 P :: o55 P :: o7 P :: o56 P :: o57 P :: o58 P :: o59 P :: o7 P :: o8 P :: o60 P :: o7 P :: o61 P :: o62 P :: o63 P :: o7 P :: o8 P :: o64 P :: o7 P :: o65 P :: o66 P :: o67 P :: o7 P :: o8 P :: o68 P :: o7 P :: o69 P :: o70 P :: o71 P :: o7 P :: o16 P :: o74 P :: o7 P :: o75 P :: o76 P :: o77 P :: o7 P :: o8 P :: o78 P :: o7 P :: o79 P :: o80 P :: o81 P :: o7 P :: o8 P :: o82 P :: o7 P :: o83 P :: o84 P :: o85 P :: o7 P :: o8 P :: o86 P :: o7 P :: o87 P :: o88 P :: o89 P :: o7 P :: o8 P :: o90 P :: o91 P :: o92 P :: o7 P :: o8 P :: o93 P :: o94 P :: o95 P :: o7 P :: o8 P :: o96 P :: o7 P :: o97 P :: o98 P :: o99 P :: o7 P :: o8 P :: o100 P :: o7 P :: o101 P :: o102 P :: o103 P :: o7 P :: o8 P :: o104 P :: o7 P :: o105 P :: o106 P :: o107 P :: o108 P :: o109 P :: o110 P :: o111 P :: o112 P :: o113 P :: o114 P :: o7 P :: o8 P :: o115 P :: o7 P :: o116 P :: o117 P :: o118 P :: o7 P :: o8 P :: o119 P :: o7 P :: o120 P :: o121 P :: o122 P :: o7 P :: o8 P :: o123 P :: o7 P :: o124 P :: o125 P :: o126 P :: o7 P :: o8 P :: o127 P :: o128 P :: o129 P :: o7 P :: o8 P :: o130 P :: o7 P :: o131 P :: o132 P :: o133 P :: []⟩, (Life.mk [] [] [] 0 [] [] Bool.false (List.toArray []) [] 0 Bool.false Bool.false Bool.false (0 : Int) [(2000 : Int), (10 : Int), (10 : Int)] Bool.false 0 Bool.true [] [] 0 Bool.false)⟩
noncomputable abbrev S18 (w : World) (os : OsState) : Shared := ⟨HS18 w.params, Array.mk [], (Drawn.mk 0 0 0 0), 433, os⟩
noncomputable def o134 (P : Params) : Obj := (Obj.mk (Value.type "dict") none (Data.dict (List.toArray [(DictEntry.mk (PyData.keyHash P (Str.ofString "__name__")) (Value.str (Str.ofString "__name__") 165) (Value.str (Str.ofString "law_uf060022_10") 393)), (DictEntry.mk (PyData.keyHash P (Str.ofString "__doc__")) (Value.str (Str.ofString "__doc__") 166) Value.none), (DictEntry.mk (PyData.keyHash P (Str.ofString "__package__")) (Value.str (Str.ofString "__package__") 167) Value.none), (DictEntry.mk (PyData.keyHash P (Str.ofString "__loader__")) (Value.str (Str.ofString "__loader__") 168) (Value.builtin "__main__.__loader__#opaque")), (DictEntry.mk (PyData.keyHash P (Str.ofString "__spec__")) (Value.str (Str.ofString "__spec__") 169) Value.none), (DictEntry.mk (PyData.keyHash P (Str.ofString "__annotations__")) (Value.str (Str.ofString "__annotations__") 170) (Value.ref 6)), (DictEntry.mk (PyData.keyHash P (Str.ofString "__builtins__")) (Value.str (Str.ofString "__builtins__") 171) (Value.ref 4)), (DictEntry.mk (PyData.keyHash P (Str.ofString "__file__")) (Value.str (Str.ofString "__file__") 173) (Value.str (Str.ofString "/claim/cut.py") 172)), (DictEntry.mk (PyData.keyHash P (Str.ofString "__cached__")) (Value.str (Str.ofString "__cached__") 174) Value.none), (DictEntry.mk (PyData.keyHash P (Str.ofString "FallError")) (Value.str (Str.ofString "FallError") 206) (Value.ref 24)), (DictEntry.mk (PyData.keyHash P (Str.ofString "NoBase")) (Value.str (Str.ofString "NoBase") 222) (Value.ref 37)), (DictEntry.mk (PyData.keyHash P (Str.ofString "NoNumber")) (Value.str (Str.ofString "NoNumber") 238) (Value.ref 49)), (DictEntry.mk (PyData.keyHash P (Str.ofString "Late")) (Value.str (Str.ofString "Late") 254) (Value.ref 61)), (DictEntry.mk (PyData.keyHash P (Str.ofString "Bare")) (Value.str (Str.ofString "Bare") 270) (Value.ref 73)), (DictEntry.mk (PyData.keyHash P (Str.ofString "need_base")) (Value.str (Str.ofString "need_base") 279) (Value.ref 82)), (DictEntry.mk (PyData.keyHash P (Str.ofString "need_number")) (Value.str (Str.ofString "need_number") 286) (Value.ref 89)), (DictEntry.mk (PyData.keyHash P (Str.ofString "parting")) (Value.str (Str.ofString "parting") 299) (Value.ref 96)), (DictEntry.mk (PyData.keyHash P (Str.ofString "Store")) (Value.str (Str.ofString "Store") 392) (Value.ref 158)), (DictEntry.mk (PyData.keyHash P (Str.ofString "_law_cell_at")) (Value.str (Str.ofString "_law_cell_at") 402) (Value.ref 169)), (DictEntry.mk (PyData.keyHash P (Str.ofString "_law_room")) (Value.str (Str.ofString "_law_room") 410) (Value.ref 176)), (DictEntry.mk (PyData.keyHash P (Str.ofString "_law_whole")) (Value.str (Str.ofString "_law_whole") 417) (Value.ref 183)), (DictEntry.mk (PyData.keyHash P (Str.ofString "_law_name_by")) (Value.str (Str.ofString "_law_name_by") 423) (Value.ref 188)), (DictEntry.mk (PyData.keyHash P (Str.ofString "_law_first")) (Value.str (Str.ofString "_law_first") 432) (Value.ref 195)), (DictEntry.mk (PyData.keyHash P (Str.ofString "_law_gone")) (Value.str (Str.ofString "_law_gone") 441) (Value.ref 202)), (DictEntry.mk (PyData.keyHash P (Str.ofString "_law_step_by")) (Value.str (Str.ofString "_law_step_by") 449) (Value.ref 209)), (DictEntry.mk (PyData.keyHash P (Str.ofString "law")) (Value.str (Str.ofString "law") 464) (Value.ref 216))]) 26) (List.toArray []))
noncomputable def o135 (_ : Params) : Obj := (Obj.mk Value.none none (Data.fields (List.toArray [(Value.int (2 : Int) 0), (Value.int (0 : Int) 0), (Value.ref 20), (Value.int (4 : Int) 0), (Value.int (0 : Int) 0), (Value.ref 33), (Value.int (6 : Int) 0), (Value.int (0 : Int) 0), (Value.ref 45), (Value.int (8 : Int) 0), (Value.int (0 : Int) 0), (Value.ref 57), (Value.int (10 : Int) 0), (Value.int (0 : Int) 0), (Value.ref 69), (Value.int (13 : Int) 0), (Value.int (0 : Int) 0), (Value.ref 81), (Value.int (16 : Int) 0), (Value.int (0 : Int) 0), (Value.ref 88), (Value.int (19 : Int) 0), (Value.int (0 : Int) 0), (Value.ref 95), (Value.int (35 : Int) 0), (Value.int (0 : Int) 0), (Value.ref 102), (Value.int (96 : Int) 0), (Value.int (0 : Int) 0), (Value.ref 168), (Value.int (100 : Int) 0), (Value.int (0 : Int) 0), (Value.ref 175), (Value.int (106 : Int) 0), (Value.int (0 : Int) 0), (Value.ref 182), (Value.int (108 : Int) 0), (Value.int (0 : Int) 0), (Value.ref 187), (Value.int (112 : Int) 0), (Value.int (0 : Int) 0), (Value.ref 194), (Value.int (118 : Int) 0), (Value.int (0 : Int) 0), (Value.ref 201), (Value.int (127 : Int) 0), (Value.int (0 : Int) 0), (Value.ref 208), (Value.int (131 : Int) 0), (Value.int (0 : Int) 0), (Value.ref 215)])) (List.toArray []))
noncomputable def o136 (_ : Params) : Obj := (Obj.mk (Value.type "tuple") none (Data.seq (List.toArray [(Value.str (Str.ofString "_law_store") 436), (Value.str (Str.ofString "_law_thing") 437), (Value.str (Str.ofString "_law_gone_here") 438)]) 0) (List.toArray []))
noncomputable def o137 (_ : Params) : Obj := fnZ (st 18) (Str.ofString "_law_gone")
noncomputable def o138 (_ : Params) : Obj := (Obj.mk (Value.type "code") none (Data.fields (List.toArray [(Value.str (Str.ofString "_law_gone") 433), (Value.str (Str.ofString "_law_gone") 434), (Value.str (Str.ofString "/claim/cut.py") 435), (Value.int (118 : Int) 0), (Value.int (2 : Int) 0), (Value.int (0 : Int) 0), (Value.int (0 : Int) 0), (Value.int (3 : Int) 0), (Value.ref 196), (Value.bool Bool.true), (Value.int (181 : Int) 0), (Value.ref 197), Value.none, (Value.ref 198), (Value.ref 199), (Value.ref 200), (Value.int (439 : Int) 0), (Value.int (118 : Int) 0), (Value.str (Str.ofString "/claim/cut.py") 440)])) (List.toArray []))
noncomputable def o139 (_ : Params) : Obj := fnO (st 18) (Str.ofString "_law_gone") (Value.str (Str.ofString "law_uf060022_10") 393) (Value.ref 201)
noncomputable def o140 (_ : Params) : Obj := (Obj.mk (Value.type "tuple") none (Data.seq (List.toArray [(Value.str (Str.ofString "_law_cell") 445), (Value.str (Str.ofString "_law_far") 446)]) 0) (List.toArray []))
noncomputable def o141 (_ : Params) : Obj := fnZ (st 19) (Str.ofString "_law_step_by")
noncomputable def o142 (_ : Params) : Obj := (Obj.mk (Value.type "code") none (Data.fields (List.toArray [(Value.str (Str.ofString "_law_step_by") 442), (Value.str (Str.ofString "_law_step_by") 443), (Value.str (Str.ofString "/claim/cut.py") 444), (Value.int (127 : Int) 0), (Value.int (2 : Int) 0), (Value.int (0 : Int) 0), (Value.int (0 : Int) 0), (Value.int (3 : Int) 0), (Value.ref 203), (Value.bool Bool.true), (Value.int (181 : Int) 0), (Value.ref 204), Value.none, (Value.ref 205), (Value.ref 206), (Value.ref 207), (Value.int (447 : Int) 0), (Value.int (127 : Int) 0), (Value.str (Str.ofString "/claim/cut.py") 448)])) (List.toArray []))
noncomputable def o143 (_ : Params) : Obj := fnO (st 19) (Str.ofString "_law_step_by") (Value.str (Str.ofString "law_uf060022_10") 393) (Value.ref 208)
noncomputable def o144 (_ : Params) : Obj := (Obj.mk (Value.type "tuple") none (Data.seq (List.toArray [(Value.str (Str.ofString "_law_script") 453), (Value.str (Str.ofString "_law_far") 454), (Value.str (Str.ofString "_law_store") 455), (Value.str (Str.ofString "_law_things") 456), (Value.str (Str.ofString "_law_last") 457), (Value.str (Str.ofString "_law_cell") 458), (Value.str (Str.ofString "_law_at") 459), (Value.str (Str.ofString "_law_number") 460), (Value.str (Str.ofString "_law_name") 461)]) 0) (List.toArray []))
noncomputable def o145 (_ : Params) : Obj := fnZ (st 20) (Str.ofString "law")
noncomputable def o146 (_ : Params) : Obj := (Obj.mk (Value.type "code") none (Data.fields (List.toArray [(Value.str (Str.ofString "law") 450), (Value.str (Str.ofString "law") 451), (Value.str (Str.ofString "/claim/cut.py") 452), (Value.int (131 : Int) 0), (Value.int (1 : Int) 0), (Value.int (0 : Int) 0), (Value.int (0 : Int) 0), (Value.int (3 : Int) 0), (Value.ref 210), (Value.bool Bool.true), (Value.int (181 : Int) 0), (Value.ref 211), Value.none, (Value.ref 212), (Value.ref 213), (Value.ref 214), (Value.int (462 : Int) 0), (Value.int (131 : Int) 0), (Value.str (Str.ofString "/claim/cut.py") 463)])) (List.toArray []))
noncomputable def o147 (_ : Params) : Obj := fnO (st 20) (Str.ofString "law") (Value.str (Str.ofString "law_uf060022_10") 393) (Value.ref 215)
noncomputable def HS21 (P : Params) : Heap := ⟨⟨o0 P :: o1 P :: o2 P :: o134 P :: o4 P :: o5 P :: o6 P :: o7 P :: o8 P :: o9 P :: o10 P :: o7 P :: o135 P :: o11 P :: o12 P :: o15 P :: o16 P :: o17 P :: o7 P :: o8 P :: o18 P :: o19 P :: o7 P :: o20 P :: o52 P :: o22 P :: o23 P :: o24 P :: o25 P :: o16 P :: o26 P :: o7 P :: o8 P :: o27 P :: o28 P :: o7 P :: o29 P :: o30 P :: o31 P :: o32 P :: o25 P :: o16 P :: o36 P :: o7 P :: o8 P :: o37 P :: o38 P :: o7 P :: o39 P :: o40 P :: o41 P :: o42 P :: o25 P :: o16 P :: o43 P :: o7 P :: o8 P :: o44 P :: o45 P :: o7 P :: o46 P :: o47 P :: o48 P :: o49 P :: o25 P :: o16 P :: o53 P :: o7 P :: o8 P :: o54 P :: o55 P :: o7 P :: o56 P :: o57 P :: o58 P :: o59 P :: o7 P :: o8 P :: o60 P :: o7 P :: o61 P :: o62 P :: o63 P :: o7 P :: o8 P :: o64 P :: o7 P :: o65 P :: o66 P :: o67 P :: o7 P :: o8 P :: o68 P :: o7 P :: o69 P :: o70 P :: o71 P :: o7 P :: o16 P :: o74 P :: o7 P :: o75 P :: o76 P :: o77 P :: o7 P :: o8 P :: o78 P :: o7 P :: o79 P :: o80 P :: o81 P :: o7 P :: o8 P :: o82 P :: o7 P :: o83 P :: o84 P :: o85 P :: o7 P :: o8 P :: o86 P :: o7 P :: o87 P :: o88 P :: o89 P :: o7 P :: o8 P :: o90 P :: o91 P :: o92 P :: o7 P :: o8 P :: o93 P :: o94 P :: o95 P :: o7 P :: o8 P :: o96 P :: o7 P :: o97 P :: o98 P :: o99 P :: o7 P :: o8 P :: o100 P :: o7 P :: o101 P :: o102 P :: o103 P :: o7 P :: o8 P :: o104 P :: o7 P :: o105 P :: o106 P :: o107 P :: o108 P :: o109 P :: o110 P :: o111 P :: o112 P :: o113 P :: o114 P :: o7 P :: o8 P :: o115 P :: o7 P :: o116 P :: o117 P :: o118 P :: o7 P :: o8 P :: o119 P :: o7 P :: o120 P :: o121 P :: o122 P :: o7 P :: o8 P :: o123 P :: o7 P :: o124 P :: o125 P :: o126 P :: o7 P :: o8 P :: o127 P :: o128 P :: o129 P :: o7 P :: o8 P :: o130 P :: o7 P :: o131 P :: o132 P :: o133 P :: o7 P :: o8 P :: o136 P :: o7 P :: o137 P :: o138 P :: o139 P :: o7 P :: o8 P :: o140 P :: o7 P :: o141 P :: o142 P :: o143 P :: o7 P :: o8 P :: o144 P :: o7 P :: o145 P :: o146 P :: o147 P :: []⟩, (Life.mk [] [] [] 0 [] [] Bool.false (List.toArray []) [] 0 Bool.false Bool.false Bool.false (0 : Int) [(2000 : Int), (10 : Int), (10 : Int)] Bool.false 0 Bool.true [] [] 0 Bool.false)⟩
noncomputable abbrev S21 (w : World) (os : OsState) : Shared := ⟨HS21 w.params, Array.mk [], (Drawn.mk 0 0 0 0), 465, os⟩
noncomputable abbrev Sf (w : World) (os : OsState) : Shared := ⟨HS21 w.params, Array.mk [], (Drawn.mk 0 0 0 0), 465, os⟩
noncomputable def K10 : Params → Frag := fun P =>
  (nat_lit 2, o2 P) ::
  (nat_lit 3, o134 P) ::
  (nat_lit 15, o15 P) ::
  (nat_lit 22, o7 P) ::
  (nat_lit 23, o20 P) ::
  (nat_lit 24, o52 P) ::
  (nat_lit 25, o22 P) ::
  (nat_lit 28, o25 P) ::
  (nat_lit 35, o7 P) ::
  (nat_lit 36, o29 P) ::
  (nat_lit 37, o30 P) ::
  (nat_lit 40, o25 P) ::
  (nat_lit 47, o7 P) ::
  (nat_lit 48, o39 P) ::
  (nat_lit 49, o40 P) ::
  (nat_lit 52, o25 P) ::
  (nat_lit 59, o7 P) ::
  (nat_lit 60, o46 P) ::
  (nat_lit 61, o47 P) ::
  (nat_lit 64, o25 P) ::
  (nat_lit 71, o7 P) ::
  (nat_lit 72, o56 P) ::
  (nat_lit 73, o57 P) ::
  (nat_lit 76, o7 P) ::
  (nat_lit 78, o60 P) ::
  (nat_lit 79, o7 P) ::
  (nat_lit 81, o62 P) ::
  (nat_lit 82, o63 P) ::
  (nat_lit 83, o7 P) ::
  (nat_lit 85, o64 P) ::
  (nat_lit 86, o7 P) ::
  (nat_lit 88, o66 P) ::
  (nat_lit 89, o67 P) ::
  (nat_lit 90, o7 P) ::
  (nat_lit 92, o68 P) ::
  (nat_lit 93, o7 P) ::
  (nat_lit 95, o70 P) ::
  (nat_lit 96, o71 P) ::
  (nat_lit 104, o7 P) ::
  (nat_lit 106, o78 P) ::
  (nat_lit 107, o7 P) ::
  (nat_lit 109, o80 P) ::
  (nat_lit 110, o81 P) ::
  (nat_lit 111, o7 P) ::
  (nat_lit 113, o82 P) ::
  (nat_lit 114, o7 P) ::
  (nat_lit 116, o84 P) ::
  (nat_lit 117, o85 P) ::
  (nat_lit 118, o7 P) ::
  (nat_lit 120, o86 P) ::
  (nat_lit 121, o7 P) ::
  (nat_lit 123, o88 P) ::
  (nat_lit 124, o89 P) ::
  (nat_lit 125, o7 P) ::
  (nat_lit 128, o91 P) ::
  (nat_lit 129, o92 P) ::
  (nat_lit 130, o7 P) ::
  (nat_lit 133, o94 P) ::
  (nat_lit 134, o95 P) ::
  (nat_lit 135, o7 P) ::
  (nat_lit 137, o96 P) ::
  (nat_lit 138, o7 P) ::
  (nat_lit 140, o98 P) ::
  (nat_lit 141, o99 P) ::
  (nat_lit 142, o7 P) ::
  (nat_lit 144, o100 P) ::
  (nat_lit 145, o7 P) ::
  (nat_lit 147, o102 P) ::
  (nat_lit 148, o103 P) ::
  (nat_lit 149, o7 P) ::
  (nat_lit 151, o104 P) ::
  (nat_lit 152, o7 P) ::
  (nat_lit 154, o106 P) ::
  (nat_lit 155, o107 P) ::
  (nat_lit 156, o108 P) ::
  (nat_lit 157, o109 P) ::
  (nat_lit 158, o110 P) ::
  (nat_lit 159, o111 P) ::
  (nat_lit 160, o112 P) ::
  (nat_lit 163, o7 P) ::
  (nat_lit 165, o115 P) ::
  (nat_lit 166, o7 P) ::
  (nat_lit 168, o117 P) ::
  (nat_lit 169, o118 P) ::
  (nat_lit 170, o7 P) ::
  (nat_lit 172, o119 P) ::
  (nat_lit 173, o7 P) ::
  (nat_lit 175, o121 P) ::
  (nat_lit 176, o122 P) ::
  (nat_lit 177, o7 P) ::
  (nat_lit 179, o123 P) ::
  (nat_lit 180, o7 P) ::
  (nat_lit 182, o125 P) ::
  (nat_lit 183, o126 P) ::
  (nat_lit 184, o7 P) ::
  (nat_lit 187, o128 P) ::
  (nat_lit 188, o129 P) ::
  (nat_lit 189, o7 P) ::
  (nat_lit 191, o130 P) ::
  (nat_lit 192, o7 P) ::
  (nat_lit 194, o132 P) ::
  (nat_lit 195, o133 P) ::
  (nat_lit 196, o7 P) ::
  (nat_lit 198, o136 P) ::
  (nat_lit 199, o7 P) ::
  (nat_lit 201, o138 P) ::
  (nat_lit 202, o139 P) ::
  (nat_lit 203, o7 P) ::
  (nat_lit 205, o140 P) ::
  (nat_lit 206, o7 P) ::
  (nat_lit 208, o142 P) ::
  (nat_lit 209, o143 P) ::
  (nat_lit 210, o7 P) ::
  (nat_lit 212, o144 P) ::
  (nat_lit 213, o7 P) ::
  (nat_lit 215, o146 P) ::
  (nat_lit 216, o147 P) ::
  []
noncomputable abbrev Hk10 : Hook := kHook K10 [nat_lit 2, nat_lit 3, nat_lit 15, nat_lit 22, nat_lit 23, nat_lit 24, nat_lit 25, nat_lit 28, nat_lit 35, nat_lit 36, nat_lit 37, nat_lit 40, nat_lit 47, nat_lit 48, nat_lit 49, nat_lit 52, nat_lit 59, nat_lit 60, nat_lit 61, nat_lit 64, nat_lit 71, nat_lit 72, nat_lit 73, nat_lit 76, nat_lit 78, nat_lit 79, nat_lit 81, nat_lit 82, nat_lit 83, nat_lit 85, nat_lit 86, nat_lit 88, nat_lit 89, nat_lit 90, nat_lit 92, nat_lit 93, nat_lit 95, nat_lit 96, nat_lit 104, nat_lit 106, nat_lit 107, nat_lit 109, nat_lit 110, nat_lit 111, nat_lit 113, nat_lit 114, nat_lit 116, nat_lit 117, nat_lit 118, nat_lit 120, nat_lit 121, nat_lit 123, nat_lit 124, nat_lit 125, nat_lit 128, nat_lit 129, nat_lit 130, nat_lit 133, nat_lit 134, nat_lit 135, nat_lit 137, nat_lit 138, nat_lit 140, nat_lit 141, nat_lit 142, nat_lit 144, nat_lit 145, nat_lit 147, nat_lit 148, nat_lit 149, nat_lit 151, nat_lit 152, nat_lit 154, nat_lit 155, nat_lit 156, nat_lit 157, nat_lit 158, nat_lit 159, nat_lit 160, nat_lit 163, nat_lit 165, nat_lit 166, nat_lit 168, nat_lit 169, nat_lit 170, nat_lit 172, nat_lit 173, nat_lit 175, nat_lit 176, nat_lit 177, nat_lit 179, nat_lit 180, nat_lit 182, nat_lit 183, nat_lit 184, nat_lit 187, nat_lit 188, nat_lit 189, nat_lit 191, nat_lit 192, nat_lit 194, nat_lit 195, nat_lit 196, nat_lit 198, nat_lit 199, nat_lit 201, nat_lit 202, nat_lit 203, nat_lit 205, nat_lit 206, nat_lit 208, nat_lit 209, nat_lit 210, nat_lit 212, nat_lit 213, nat_lit 215, nat_lit 216] (fun _ => by kernel_rfl)
noncomputable abbrev q10 : Program := view PySem.Challenge.pw_uf060022_10 [1, 2, 3, 4, 5, 7, 8, 9, 11, 13, 14, 15, 16, 17, 18, 19, 20]
noncomputable def ll0 : List Stmt := [st 0, st 1, st 2]
noncomputable def ll3 : List Stmt := [st 3, st 4]
noncomputable def ll5 : List Stmt := [st 5, st 6, st 7, st 8, st 9, st 10]
noncomputable def ll11 : List Stmt := [st 11, st 12, st 13, st 14, st 15, st 16, st 17]
noncomputable def ll18 : List Stmt := [st 18, st 19, st 20]
noncomputable def bd : List Stmt := ll0 ++ (ll3 ++ (ll5 ++ (ll11 ++ (ll18 ++ []))))
noncomputable def ev : Env := { scope := PySem.Challenge.pw_uf060022_10.main.scope, locals := mainNs, globals := mainNs, cells := [], code := (Value.ref 13), frame := some 14 }
noncomputable def cE : Code := .body bd ev
theorem go0 (w : World) (os : OsState) : topGo treeTable PySem.Challenge.pw_uf060022_10 w 11 (some (Value.ref 6)) 12 ⟨boot_heap w.params, Array.mk [], boot_drawn, boot_toks, os⟩ (topStub PySem.Challenge.pw_uf060022_10) = some (Sa w os, ⟨denote treeTable cE, cE, ⟨0, 0, 0, 0⟩, [topFrame ⟨0, 0, 0, 0⟩]⟩) := by
  rw [PySem.W.Fast.te15667345088766844465, PySem.W.Fast.te14364793385576792824, PySem.W.Fast.te11892475500146522536]
  kernel_rfl
theorem go1 (w : World) (os : OsState) : segRun treeTable PySem.Challenge.pw_uf060022_10 w 11 (some (Value.ref 6)) 1 1 (Sa w os) (blockOf bd ev cE ⟨0, 0, 0, 0⟩ [topFrame ⟨0, 0, 0, 0⟩]) = some (.next, Sa w os, cE, ⟨0, 0, 0, 0⟩) := by
  rw [PySem.W.Fast.te14374325043358763698, PySem.W.Fast.te14364793385576792824]
  kernel_rfl
theorem seg0 (w : World) (os : OsState) : segRun treeTable PySem.Challenge.pw_uf060022_10 w 11 (some (Value.ref 6)) 1 409 (Sa w os) ⟨(execs ll0 ev).wrap doneF deadEnd id id, cE, ⟨0, 0, 0, 0⟩, [topFrame ⟨0, 0, 0, 0⟩]⟩ = some (.next, S3 w os, cE, ⟨4, 0, 5, 8⟩) := by
  rw [PySem.W.Fast.te14374325043358763698, PySem.W.Fast.te14364793385576792824, PySem.W.Fast.te12563942051412417395]
  kernel_rfl
theorem seg3 (w : World) (os : OsState) : segRun treeTable PySem.Challenge.pw_uf060022_10 w 11 (some (Value.ref 6)) 1 427 (S3 w os) ⟨(execs ll3 ev).wrap doneF deadEnd id id, cE, ⟨4, 0, 5, 8⟩, [topFrame ⟨0, 0, 0, 0⟩]⟩ = some (.next, S5 w os, cE, ⟨8, 0, 9, 8⟩) := by
  rw [PySem.W.Fast.te14374325043358763698, PySem.W.Fast.te14364793385576792824, PySem.W.Fast.te12563942051412417395]
  kernel_rfl
theorem seg5 (w : World) (os : OsState) : segRun treeTable PySem.Challenge.pw_uf060022_10 w 11 (some (Value.ref 6)) 1 325 (S5 w os) ⟨(execs ll5 ev).wrap doneF deadEnd id id, cE, ⟨8, 0, 9, 8⟩, [topFrame ⟨0, 0, 0, 0⟩]⟩ = some (.next, S11 w os, cE, ⟨34, 0, 34, 8⟩) := by
  rw [PySem.W.Fast.te14374325043358763698, PySem.W.Fast.te14364793385576792824, PySem.W.Fast.te12563942051412417395]
  kernel_rfl
theorem seg11 (w : World) (os : OsState) : segRun treeTable PySem.Challenge.pw_uf060022_10 w 11 (some (Value.ref 6)) 1 604 (S11 w os) ⟨(execs ll11 ev).wrap doneF deadEnd id id, cE, ⟨34, 0, 34, 8⟩, [topFrame ⟨0, 0, 0, 0⟩]⟩ = some (.next, S18 w os, cE, ⟨112, 0, 117, 18⟩) := by
  rw [PySem.W.Fast.te14374325043358763698, PySem.W.Fast.te14364793385576792824, PySem.W.Fast.te12563942051412417395]
  kernel_rfl
theorem seg18 (w : World) (os : OsState) : segRun treeTable PySem.Challenge.pw_uf060022_10 w 11 (some (Value.ref 6)) 1 99 (S18 w os) ⟨(execs ll18 ev).wrap doneF deadEnd id id, cE, ⟨112, 0, 117, 18⟩, [topFrame ⟨0, 0, 0, 0⟩]⟩ = some (.next, S21 w os, cE, ⟨131, 0, 153, 59⟩) := by
  rw [PySem.W.Fast.te14374325043358763698, PySem.W.Fast.te14364793385576792824, PySem.W.Fast.te12563942051412417395]
  kernel_rfl
theorem segE (w : World) (os : OsState) : topRun treeTable PySem.Challenge.pw_uf060022_10 w 11 (some (Value.ref 6)) 2 (S21 w os) ⟨doneF .next, cE, ⟨131, 0, 153, 59⟩, [topFrame ⟨0, 0, 0, 0⟩]⟩ = some (Sf w os) := by
  rw [PySem.W.Fast.te14082659384304107361, PySem.W.Fast.te14364793385576792824]
  kernel_rfl
theorem runAll (w : World) (os : OsState) : topRun treeTable PySem.Challenge.pw_uf060022_10 w 11 (some (Value.ref 6)) (12 + (1 + (409 + (427 + (325 + (604 + (99 + (2)))))))) ⟨boot_heap w.params, Array.mk [], boot_drawn, boot_toks, os⟩ (topStub PySem.Challenge.pw_uf060022_10) = some (Sf w os) :=
  go_top (go0 w os) (piece_block (go1 w os) (piece_app (seg0 w os) (piece_app (seg3 w os) (piece_app (seg5 w os) (piece_app (seg11 w os) (piece_app (seg18 w os) (segE w os)))))))
theorem lookA (w : World) (os : OsState) : (staticsOk (importedModules PySem.Challenge.pw_uf060022_10.main.body) (boot_heap w.params) (HS21 w.params) && namesBound PySem.Challenge.pw_uf060022_10 (HS21 w.params) && gensDone (Sf w os) && laidKept (boot_heap w.params) (HS21 w.params)) = true := by
  rw [PySem.W.Fast.te5923862056798008813]
  kernel_rfl
theorem lookB (w : World) (os : OsState) : openSeen q10 [] (importedModules PySem.Challenge.pw_uf060022_10.main.body) (fun s => xlAt q10 [] s && recOk (RowW.records (OpenLaw.row PySem.Challenge.rw_uf060022_10).toRowW) s) true (Sf w os) = openGood q10 [] := by
  rw [PySem.W.Fast.te4187177175401517315, PySem.W.Fast.te5923862056798008813]
  kernel_rfl
theorem lookY (w : World) (os : OsState) : Hook.obs Hk10 (Sf w os) = Hook.val Hk10 w := by
  kernel_rfl
theorem left10 : LeftO PySem.Challenge.pw_uf060022_10 q10 [] (fun s => xlAt q10 [] s && recOk (RowW.records (OpenLaw.row PySem.Challenge.rw_uf060022_10).toRowW) s) (Hook.obs Hk10) (Hook.val Hk10) 1979 :=
  LeftO.of_pieces (boot_open (by kernel_rfl) (by decide) (fun _ => by kernel_rfl)) (fun _ => by kernel_rfl) runAll (by decide) fun w => funext fun os => Prod.ext (lookA w os) (Prod.ext (lookB w os) (lookY w os))
theorem saidL : looksOpen (OpenLaw.row PySem.Challenge.rw_uf060022_10).prog = true := by
  refine look_both ?_ (by rw [PySem.W.Fast.te17119622794617984870]; decide +kernel)
  refine look_both ?_ (by rw [PySem.W.Fast.te8326940854005059898]; decide +kernel)
  refine look_both ?_ (by decide +kernel)
  refine look_both ?_ (by rw [PySem.W.Fast.te8377067652309620493]; decide +kernel)
  exact look_both (by decide +kernel) (by decide +kernel)
theorem saidP : (OpenLaw.row PySem.Challenge.rw_uf060022_10).partSaid = true := by
  iterate 13 refine look_both ?_ (by decide +kernel)
  exact saidL
theorem saidR : (OpenLaw.row PySem.Challenge.rw_uf060022_10).wellSaid = true := look_both (look_both saidP (by decide +kernel)) (by decide +kernel)
theorem said10 : PySem.Challenge.rw_uf060022_10.wellSaid = true := by
  iterate 18 refine look_both ?_ (by decide +kernel)
  exact saidR
theorem fill10 : PySem.Challenge.rw_uf060022_10 = PySem.Challenge.rw_uf060022_10 → Mine.K10 = Mine.K10 → True := by k_fill; intros; trivial
end Mine

set_option maxRecDepth 100000
set_option maxHeartbeats 4000000
set_option compiler.extract_closed false
namespace Mine
open PySem PyProof.Rows PySem.W
local macro_rules | `(tactic| walk_at "m.ne") => `(tactic| exact ofString_ne (by decide))
local macro_rules | `(tactic| walk_at "m.lk") => `(tactic| first | with_reducible exact lk_here | with_reducible exact lk_same | (with_reducible (apply lk_other); (case h => walk_at "m.ne"); walk_at "m.lk") | (with_reducible (apply lk_there); (case h => walk_at "m.ne"); walk_at "m.lk"))
local macro_rules | `(tactic| walk_at "m.lkn") => `(tactic| first | exact lkn_nil | (refine lkn_other (by walk_at "m.ne") ?_; walk_at "m.lkn") | (refine lkn_there (by walk_at "m.ne") ?_; walk_at "m.lkn"))
local macro_rules | `(tactic| walk_at "m.sub") => `(tactic| first | exact Sub_nil | exact Sub_refl | (refine Sub_cons (by walk_at "m.lk") ?_; walk_at "m.sub"))
local macro_rules | `(tactic| walk_at "m.kinds") => `(tactic| (simp only [List.forall_mem_cons, List.not_mem_nil, false_implies, implies_true, and_true]; first | exact Or.inl rfl | exact Or.inr rfl | exact ⟨by walk_at "m.sto", by walk_at "m.sto"⟩ | exact ⟨by walk_at "m.sto", by walk_at "m.sto", by walk_at "m.sto"⟩ | exact ⟨by walk_at "m.sto", by walk_at "m.sto", by walk_at "m.sto", by walk_at "m.sto"⟩))
local macro_rules | `(tactic| walk_at "m.sto") => `(tactic| first | exact Or.inl rfl | exact Or.inr rfl)
local macro_rules | `(tactic| walk_at "m.name") => `(tactic| first
  | (refine' TE_name ?h1 ?_ ?h2 ?h3; (case h1 => walk_at "m.lk"); (case h2 => exact ofString_beq (by decide)); (case h3 => exact ofString_beq (by decide)))
  | (refine' TE_glob ?h1 ?h2 ?_ ?h3; (case h2 => walk_at "m.glob"); (case h1 => rfl); (case h3 => exact ofString_beq (by decide)))
  | (refine' TE_globS ?h1 (mg_str (by assumption) ?h2) ?_ ?h3; (case h2 => k_is); (case h1 => rfl); (case h3 => exact ofString_beq (by decide))))
local macro_rules | `(tactic| walk_at "m.step") => `(tactic| first
  | (with_reducible first
    | refine TSs_cons ?_
    | refine TSs_nil ?_
    | refine TS_if ?_
    | refine TS_ret ?_
    | refine TE_int ?_
    | refine TE_str ?_
    | refine TE_bool ?_
    | refine TE_none ?_
    | refine TE_bin ?_
    | refine TB_not ?_
    | refine TB_boolop ?_
    | refine TA_and ?_
    | refine TA_or ?_
    | refine TA_and_nil ?_
    | refine TA_or_nil ?_
    | refine TE_boolop ?_
    | refine TO_one ?_
    | refine TO_and ?_
    | refine TO_or ?_
    | refine TE_un ?_
    | refine T1_not ?_
    | refine T1_neg ?_
    | refine TL_nil ?_
    | refine T2_add ?_
    | refine T2_sub ?_
    | refine T2_lt ?_
    | refine T2_gt ?_
    | refine T2_le ?_
    | refine T2_ge ?_
    | refine T2_eq ?_
    | refine T2_ne ?_
    | refine T2_eqS ?_
    | refine T2_neS ?_
    | refine TT_bool ?_
    | refine ite_t ?_
    | refine ite_f ?_
    | refine ite_nt ?_
    | refine ite_nf ?_)
  | ((with_reducible show TE _ _ _ (Expr.Name _ _) _ _ _); walk_at "m.name")
  | ((with_reducible show TE _ _ _ (Expr.Call (Expr.Name _ _) _ [] _) _ _ _); walk_at "m.call")
  | ((with_reducible show TL _ _ _ (_ :: _) _ _ _); refine TL_cons ?_ rfl)
  | ((with_reducible show TS _ _ _ (Stmt.Assign [Expr.Name _ _] _ _) _ _ _); refine TS_assign ?_ (by walk_at "m.sto") (fun _ => rfl))
  | ((with_reducible show TS _ _ _ (Stmt.Expr _ _) _ _ _); refine TS_expr ?_ (fun _ => rfl))
  | ((with_reducible show TB _ _ _ (Expr.Compare _ [_] [_] _) _ _ _); refine TB_cmp ?_ rfl)
  | ((with_reducible show TE _ _ _ (Expr.Compare _ [_] [_] _) _ _ _); refine TE_cmp ?_ rfl)
  | ((with_reducible show TE _ _ _ (Expr.Subscript _ _ _) _ _ _); refine TE_sub' ?_ rfl)
  | ((with_reducible show TB _ _ _ (Expr.Call _ _ _ _) _ _ _); refine TB_val ?_ (fun _ _ => rfl))
  | ((with_reducible show TB _ _ _ (Expr.Name _ _) _ _ _); refine TB_val ?_ (fun _ _ => rfl)))
section
variable {C : Cx} (hK : C.K = Mine.K10 C.w.params) {n : Nat} {ν : Nu} {Q : D → Nu → Prop}
include hK
theorem need_base_ok {b : Int} (h1 : 2 ≤ b) (h2 : b ≤ 16) (h : Q .none ν) : TN C (n + 1) (Str.ofString "need_base") [.int b] ν Q := by
  refine' TN_def (names := [Str.ofString "base"]) ?D rfl ?_
  case D => (refine' mkDef (by assumption) ?zza ?zzb ?zzc ?zzd ?zze ?zzf ?zzg ?zzh ?zzi; (case zza => k_is); (case zzb => k_is); (case zzc => k_is); (case zzd => (intro vs hvs; first | (obtain ⟨a, e⟩ := len1 hvs; subst e; rfl) | (obtain ⟨a, b, e⟩ := len2 hvs; subst e; rfl) | (obtain ⟨a, b, c, e⟩ := len3 hvs; subst e; rfl) | (obtain ⟨a, b, c, d, e⟩ := len4 hvs; subst e; rfl))); (case zze => rfl); (case zzf => rfl); (case zzg => rfl); (case zzh => decide); (case zzi => (simp only [List.forall_mem_cons, List.not_mem_nil, false_implies, implies_true, and_true]; first | exact Or.inl rfl | exact Or.inr rfl | exact ⟨by walk_at "m.sto", by walk_at "m.sto"⟩ | exact ⟨by walk_at "m.sto", by walk_at "m.sto", by walk_at "m.sto"⟩ | exact ⟨by walk_at "m.sto", by walk_at "m.sto", by walk_at "m.sto", by walk_at "m.sto"⟩)))
  dsimp only [List.zip, List.zipWith]
  with_reducible refine TSs_cons ?_
  with_reducible refine TS_if ?_
  with_reducible refine TB_boolop ?_
  with_reducible refine TA_or ?_
  refine TB_cmp ?_ rfl
  (refine' TE_name ?zzh1 ?_ ?zzh2 ?zzh3; (case zzh1 => walk_at "m.lk"); (case zzh2 => exact ofString_beq (by decide)); (case zzh3 => exact ofString_beq (by decide)))
  with_reducible refine TE_int ?_
  with_reducible refine T2_lt ?_
  with_reducible refine TT_bool ?_
  refine ite_dec (fun h => by omega) fun h' => ?_
  with_reducible refine TA_or ?_
  refine TB_cmp ?_ rfl
  (refine' TE_name ?zzh1 ?_ ?zzh2 ?zzh3; (case zzh1 => walk_at "m.lk"); (case zzh2 => exact ofString_beq (by decide)); (case zzh3 => exact ofString_beq (by decide)))
  with_reducible refine TE_int ?_
  with_reducible refine T2_gt ?_
  with_reducible refine TT_bool ?_
  refine ite_dec (fun h => by omega) fun h' => ?_
  with_reducible refine TA_or_nil ?_
  with_reducible refine ite_f ?_
  with_reducible refine TSs_nil ?_
  with_reducible refine TSs_nil ?_
  exact h
theorem need_number_ok {b : Int} (h1 : 0 ≤ b) (h : Q .none ν) : TN C (n + 1) (Str.ofString "need_number") [.int b] ν Q := by
  refine' TN_def (names := [Str.ofString "number"]) ?D rfl ?_
  case D => (refine' mkDef (by assumption) ?zza ?zzb ?zzc ?zzd ?zze ?zzf ?zzg ?zzh ?zzi; (case zza => k_is); (case zzb => k_is); (case zzc => k_is); (case zzd => (intro vs hvs; first | (obtain ⟨a, e⟩ := len1 hvs; subst e; rfl) | (obtain ⟨a, b, e⟩ := len2 hvs; subst e; rfl) | (obtain ⟨a, b, c, e⟩ := len3 hvs; subst e; rfl) | (obtain ⟨a, b, c, d, e⟩ := len4 hvs; subst e; rfl))); (case zze => rfl); (case zzf => rfl); (case zzg => rfl); (case zzh => decide); (case zzi => (simp only [List.forall_mem_cons, List.not_mem_nil, false_implies, implies_true, and_true]; first | exact Or.inl rfl | exact Or.inr rfl | exact ⟨by walk_at "m.sto", by walk_at "m.sto"⟩ | exact ⟨by walk_at "m.sto", by walk_at "m.sto", by walk_at "m.sto"⟩ | exact ⟨by walk_at "m.sto", by walk_at "m.sto", by walk_at "m.sto", by walk_at "m.sto"⟩)))
  dsimp only [List.zip, List.zipWith]
  with_reducible refine TSs_cons ?_
  with_reducible refine TS_if ?_
  refine TB_cmp ?_ rfl
  (refine' TE_name ?zzh1 ?_ ?zzh2 ?zzh3; (case zzh1 => walk_at "m.lk"); (case zzh2 => exact ofString_beq (by decide)); (case zzh3 => exact ofString_beq (by decide)))
  with_reducible refine TE_int ?_
  with_reducible refine T2_lt ?_
  with_reducible refine TT_bool ?_
  refine ite_dec (fun h => by omega) fun h' => ?_
  with_reducible refine TSs_nil ?_
  with_reducible refine TSs_nil ?_
  exact h
theorem cell_ok {a : Addr} {ns : List Int} {k : Nat} (e : ν a = some (.scr (ns.map .int))) (hz : ns.length ≤ 63) (hk : k < 1000) (h : Q (.int (cellD ns k)) ν) : TN C (n + 1) (Str.ofString "_law_cell_at") [.ref a, .int k] ν Q := by
  refine' TN_def (names := [Str.ofString "_law_script", Str.ofString "_law_k"]) ?D rfl ?_
  case D => (refine' mkDef (by assumption) ?zza ?zzb ?zzc ?zzd ?zze ?zzf ?zzg ?zzh ?zzi; (case zza => k_is); (case zzb => k_is); (case zzc => k_is); (case zzd => (intro vs hvs; first | (obtain ⟨a, e⟩ := len1 hvs; subst e; rfl) | (obtain ⟨a, b, e⟩ := len2 hvs; subst e; rfl) | (obtain ⟨a, b, c, e⟩ := len3 hvs; subst e; rfl) | (obtain ⟨a, b, c, d, e⟩ := len4 hvs; subst e; rfl))); (case zze => rfl); (case zzf => rfl); (case zzg => rfl); (case zzh => decide); (case zzi => (simp only [List.forall_mem_cons, List.not_mem_nil, false_implies, implies_true, and_true]; first | exact Or.inl rfl | exact Or.inr rfl | exact ⟨by walk_at "m.sto", by walk_at "m.sto"⟩ | exact ⟨by walk_at "m.sto", by walk_at "m.sto", by walk_at "m.sto"⟩ | exact ⟨by walk_at "m.sto", by walk_at "m.sto", by walk_at "m.sto", by walk_at "m.sto"⟩)))
  dsimp only [List.zip, List.zipWith]
  with_reducible refine TSs_cons ?_
  with_reducible refine TS_if ?_
  refine TB_cmp ?_ rfl
  (refine' TE_name ?zzh1 ?_ ?zzh2 ?zzh3; (case zzh1 => walk_at "m.lk"); (case zzh2 => exact ofString_beq (by decide)); (case zzh3 => exact ofString_beq (by decide)))
  (refine' TE_callB ?zzh1 ?zzh2 ?_ ?zzh3 ?zzh4; (case zzh2 => (refine' G_blt (by assumption) ?zza ?zzb ?zzc; (case zza => k_is); (case zzb => exact bb_len); (case zzc => exact ofString_ne (by decide)))); (case zzh1 => rfl); (case zzh3 => exact ofString_beq (by decide)); (case zzh4 => rfl))
  refine TL_cons ?_ rfl
  (refine' TE_name ?zzh1 ?_ ?zzh2 ?zzh3; (case zzh1 => walk_at "m.lk"); (case zzh2 => exact ofString_beq (by decide)); (case zzh3 => exact ofString_beq (by decide)))
  with_reducible refine TL_nil ?_
  refine TC_lenL (ds := ns.map .int) (by rw [e]; rfl) (by simp; omega) ?_
  with_reducible refine T2_lt ?_
  with_reducible refine TT_bool ?_
  refine ite_dec (fun hr => ?_) fun hr => ?_
  · with_reducible refine TSs_cons ?_
    with_reducible refine TS_ret ?_
    refine TE_sub' ?_ rfl
    (refine' TE_name ?zzh1 ?_ ?zzh2 ?zzh3; (case zzh1 => walk_at "m.lk"); (case zzh2 => exact ofString_beq (by decide)); (case zzh3 => exact ofString_beq (by decide)))
    (refine' TE_name ?zzh1 ?_ ?zzh2 ?zzh3; (case zzh1 => walk_at "m.lk"); (case zzh2 => exact ofString_beq (by decide)); (case zzh3 => exact ofString_beq (by decide)))
    simp only [List.length_map] at hr
    refine T2_itemL (ds := ns.map .int) (d := .int (cellD ns k)) (by rw [e]; rfl) (by omega) (by omega) ?_ h rfl
    have : k < ns.length := by omega
    simp [cellD, this]
  · with_reducible refine TSs_nil ?_
    with_reducible refine TSs_cons ?_
    with_reducible refine TS_ret ?_
    with_reducible refine TE_int ?_
    simp only [List.length_map] at hr
    have : cellD ns k = 0 := by
      unfold cellD
      rw [List.getD_eq_getElem?_getD, List.getElem?_eq_none (by omega)]; rfl
    rw [this] at h
    exact h
theorem whole_ok {i : Int} (h : Q (.bool true) ν) : TN C (n + 1) (Str.ofString "_law_whole") [.int i] ν Q := by
  refine' TN_def (names := [Str.ofString "_law_found"]) ?D rfl ?_
  case D => (refine' mkDef (by assumption) ?zza ?zzb ?zzc ?zzd ?zze ?zzf ?zzg ?zzh ?zzi; (case zza => k_is); (case zzb => k_is); (case zzc => k_is); (case zzd => (intro vs hvs; first | (obtain ⟨a, e⟩ := len1 hvs; subst e; rfl) | (obtain ⟨a, b, e⟩ := len2 hvs; subst e; rfl) | (obtain ⟨a, b, c, e⟩ := len3 hvs; subst e; rfl) | (obtain ⟨a, b, c, d, e⟩ := len4 hvs; subst e; rfl))); (case zze => rfl); (case zzf => rfl); (case zzg => rfl); (case zzh => decide); (case zzi => (simp only [List.forall_mem_cons, List.not_mem_nil, false_implies, implies_true, and_true]; first | exact Or.inl rfl | exact Or.inr rfl | exact ⟨by walk_at "m.sto", by walk_at "m.sto"⟩ | exact ⟨by walk_at "m.sto", by walk_at "m.sto", by walk_at "m.sto"⟩ | exact ⟨by walk_at "m.sto", by walk_at "m.sto", by walk_at "m.sto", by walk_at "m.sto"⟩)))
  dsimp only [List.zip, List.zipWith]
  with_reducible refine TSs_cons ?_
  with_reducible refine TS_ret ?_
  with_reducible refine TE_boolop ?_
  with_reducible refine TO_and ?_
  (refine' TE_callB ?zzh1 ?zzh2 ?_ ?zzh3 ?zzh4; (case zzh2 => (refine' G_blt (by assumption) ?zza ?zzb ?zzc; (case zza => k_is); (case zzb => exact bb_isinstance); (case zzc => exact ofString_ne (by decide)))); (case zzh1 => rfl); (case zzh3 => exact ofString_beq (by decide)); (case zzh4 => rfl))
  refine TL_cons ?_ rfl
  (refine' TE_name ?zzh1 ?_ ?zzh2 ?zzh3; (case zzh1 => walk_at "m.lk"); (case zzh2 => exact ofString_beq (by decide)); (case zzh3 => exact ofString_beq (by decide)))
  refine TL_cons ?_ rfl
  (refine' TE_glob ?zzh1 ?zzh2 ?_ ?zzh3; (case zzh2 => (refine' G_blt (by assumption) ?zza ?zzb ?zzc; (case zza => k_is); (case zzb => exact bb_int); (case zzc => exact ofString_ne (by decide)))); (case zzh1 => rfl); (case zzh3 => exact ofString_beq (by decide)))
  with_reducible refine TL_nil ?_
  refine TC_isi_int ?_
  with_reducible refine TT_bool ?_
  with_reducible refine ite_t ?_
  with_reducible refine TO_one ?_
  with_reducible refine TE_un ?_
  (refine' TE_callB ?zzh1 ?zzh2 ?_ ?zzh3 ?zzh4; (case zzh2 => (refine' G_blt (by assumption) ?zza ?zzb ?zzc; (case zza => k_is); (case zzb => exact bb_isinstance); (case zzc => exact ofString_ne (by decide)))); (case zzh1 => rfl); (case zzh3 => exact ofString_beq (by decide)); (case zzh4 => rfl))
  refine TL_cons ?_ rfl
  (refine' TE_name ?zzh1 ?_ ?zzh2 ?zzh3; (case zzh1 => walk_at "m.lk"); (case zzh2 => exact ofString_beq (by decide)); (case zzh3 => exact ofString_beq (by decide)))
  refine TL_cons ?_ rfl
  (refine' TE_glob ?zzh1 ?zzh2 ?_ ?zzh3; (case zzh2 => (refine' G_blt (by assumption) ?zza ?zzb ?zzc; (case zza => k_is); (case zzb => exact bb_bool); (case zzc => exact ofString_ne (by decide)))); (case zzh1 => rfl); (case zzh3 => exact ofString_beq (by decide)))
  with_reducible refine TL_nil ?_
  refine TC_isi_int_bool ?_
  with_reducible refine T1_not ?_
  with_reducible refine TT_bool ?_
  exact h
theorem parting_ok {x y b : Nat} (h1 : 2 ≤ b) (h2 : b ≤ 16) (h : Q (.int (partN b x y)) ν) : TN C (n + 2) (Str.ofString "parting") [.int x, .int y, .int b] ν Q := by
  refine' TN_def (names := [Str.ofString "one", Str.ofString "other", Str.ofString "base"]) ?D rfl ?_
  case D => (refine' mkDef (by assumption) ?zza ?zzb ?zzc ?zzd ?zze ?zzf ?zzg ?zzh ?zzi; (case zza => k_is); (case zzb => k_is); (case zzc => k_is); (case zzd => (intro vs hvs; first | (obtain ⟨a, e⟩ := len1 hvs; subst e; rfl) | (obtain ⟨a, b, e⟩ := len2 hvs; subst e; rfl) | (obtain ⟨a, b, c, e⟩ := len3 hvs; subst e; rfl) | (obtain ⟨a, b, c, d, e⟩ := len4 hvs; subst e; rfl))); (case zze => rfl); (case zzf => rfl); (case zzg => rfl); (case zzh => decide); (case zzi => (simp only [List.forall_mem_cons, List.not_mem_nil, false_implies, implies_true, and_true]; first | exact Or.inl rfl | exact Or.inr rfl | exact ⟨by walk_at "m.sto", by walk_at "m.sto"⟩ | exact ⟨by walk_at "m.sto", by walk_at "m.sto", by walk_at "m.sto"⟩ | exact ⟨by walk_at "m.sto", by walk_at "m.sto", by walk_at "m.sto", by walk_at "m.sto"⟩)))
  dsimp only [List.zip, List.zipWith]
  with_reducible refine TSs_cons ?_
  refine TS_expr ?_ (fun _ => rfl)
  (refine' TE_callN ?zzh1 ?zzh2 ?_ ?zzh3 ?zzh4; (case zzh2 => (refine' mkFn (by assumption) ?zza ?zzb; (case zza => k_is); (case zzb => k_is))); (case zzh1 => rfl); (case zzh3 => exact ofString_beq (by decide)); (case zzh4 => rfl))
  refine TL_cons ?_ rfl
  (refine' TE_name ?zzh1 ?_ ?zzh2 ?zzh3; (case zzh1 => walk_at "m.lk"); (case zzh2 => exact ofString_beq (by decide)); (case zzh3 => exact ofString_beq (by decide)))
  with_reducible refine TL_nil ?_
  refine need_base_ok (b := (b : Int)) hK (by omega) (by omega) ?_
  with_reducible refine TSs_cons ?_
  refine TS_expr ?_ (fun _ => rfl)
  (refine' TE_callN ?zzh1 ?zzh2 ?_ ?zzh3 ?zzh4; (case zzh2 => (refine' mkFn (by assumption) ?zza ?zzb; (case zza => k_is); (case zzb => k_is))); (case zzh1 => rfl); (case zzh3 => exact ofString_beq (by decide)); (case zzh4 => rfl))
  refine TL_cons ?_ rfl
  (refine' TE_name ?zzh1 ?_ ?zzh2 ?zzh3; (case zzh1 => walk_at "m.lk"); (case zzh2 => exact ofString_beq (by decide)); (case zzh3 => exact ofString_beq (by decide)))
  with_reducible refine TL_nil ?_
  refine need_number_ok (b := (x : Int)) hK (by omega) ?_
  with_reducible refine TSs_cons ?_
  refine TS_expr ?_ (fun _ => rfl)
  (refine' TE_callN ?zzh1 ?zzh2 ?_ ?zzh3 ?zzh4; (case zzh2 => (refine' mkFn (by assumption) ?zza ?zzb; (case zza => k_is); (case zzb => k_is))); (case zzh1 => rfl); (case zzh3 => exact ofString_beq (by decide)); (case zzh4 => rfl))
  refine TL_cons ?_ rfl
  (refine' TE_name ?zzh1 ?_ ?zzh2 ?zzh3; (case zzh1 => walk_at "m.lk"); (case zzh2 => exact ofString_beq (by decide)); (case zzh3 => exact ofString_beq (by decide)))
  with_reducible refine TL_nil ?_
  refine need_number_ok (b := (y : Int)) hK (by omega) ?_
  with_reducible refine TSs_cons ?_
  refine TS_assign ?_ (by walk_at "m.sto") (fun _ => rfl)
  with_reducible refine TE_int ?_
  with_reducible refine TSs_cons ?_
  refine TS_assign ?_ (by walk_at "m.sto") (fun _ => rfl)
  with_reducible refine TE_int ?_
  with_reducible refine TSs_cons ?_
  refine TS_assign ?_ (by walk_at "m.sto") (fun _ => rfl)
  (refine' TE_name ?zzh1 ?_ ?zzh2 ?zzh3; (case zzh1 => walk_at "m.lk"); (case zzh2 => exact ofString_beq (by decide)); (case zzh3 => exact ofString_beq (by decide)))
  with_reducible refine TSs_cons ?_
  refine TS_assign ?_ (by walk_at "m.sto") (fun _ => rfl)
  (refine' TE_name ?zzh1 ?_ ?zzh2 ?zzh3; (case zzh1 => walk_at "m.lk"); (case zzh2 => exact ofString_beq (by decide)); (case zzh3 => exact ofString_beq (by decide)))
  with_reducible refine TSs_cons ?_
  refine TS_sub (l₀ := [(Str.ofString "base", .int b), (Str.ofString "found", .int 0), (Str.ofString "place", .int 0), (Str.ofString "left", .int x), (Str.ofString "right", .int y)]) (by walk_at "m.sub") ?_
  refine TS_while (PW ν b x y) (x + y) ⟨0, 0, x, y, rfl, rfl, ?_, rfl⟩ ?_
  · by_cases q : x = y
    · subst q; simp [partN_self]
    · simp [q]
  · rintro k l ν' ⟨f, p, u, v, rfl, rfl, hi, rfl⟩
    refine TB_mono (P := fun c ν₁ => ν₁ = ν' ∧ (c = true → 0 < u ∨ 0 < v) ∧ (c = false → u = 0 ∧ v = 0)) ?_ ?_
    · with_reducible refine TB_boolop ?_
      with_reducible refine TA_or ?_
      refine TB_cmp ?_ rfl
      (refine' TE_name ?zzh1 ?_ ?zzh2 ?zzh3; (case zzh1 => walk_at "m.lk"); (case zzh2 => exact ofString_beq (by decide)); (case zzh3 => exact ofString_beq (by decide)))
      with_reducible refine TE_int ?_
      with_reducible refine T2_gt ?_
      with_reducible refine TT_bool ?_
      refine ite_dec (fun hr => ?_) fun hr => ?_
      · skip
        exact ⟨rfl, fun _ => .inl (by omega), nofun⟩
      · with_reducible refine TA_or ?_
        refine TB_cmp ?_ rfl
        (refine' TE_name ?zzh1 ?_ ?zzh2 ?zzh3; (case zzh1 => walk_at "m.lk"); (case zzh2 => exact ofString_beq (by decide)); (case zzh3 => exact ofString_beq (by decide)))
        with_reducible refine TE_int ?_
        with_reducible refine T2_gt ?_
        with_reducible refine TT_bool ?_
        refine ite_dec (fun hr' => ?_) fun hr' => ?_
        · skip
          exact ⟨rfl, fun _ => .inr (by omega), nofun⟩
        · with_reducible refine TA_or_nil ?_
          exact ⟨rfl, nofun, fun _ => ⟨by omega, by omega⟩⟩
    · rintro c ν₁ ⟨rfl, ht, hf⟩
      cases c with
      | false =>
        obtain ⟨rfl, rfl⟩ := hf rfl
        with_reducible refine ite_f ?_
        with_reducible refine TSs_cons ?_
        with_reducible refine TS_ret ?_
        (refine' TE_name ?zzh1 ?_ ?zzh2 ?zzh3; (case zzh1 => walk_at "m.lk"); (case zzh2 => exact ofString_beq (by decide)); (case zzh3 => exact ofString_beq (by decide)))
        simp at hi
        rw [hi]
        exact h
      | true =>
        have hpos := ht rfl
        refine ite_t ?_
        refine TSs_cons ?_
        refine TS_assign ?_ (by walk_at "m.sto") (fun _ => rfl)
        refine TE_bin ?_
        refine TE_name (by walk_at "m.lk") ?_ (ofString_beq (by decide)) (ofString_beq (by decide))
        refine TE_int ?_
        refine T2_add ?_
        refine TSs_mid (fun l' ν'' => ν'' = ν₁ ∧ ∃ f' : Nat, (u % b ≠ v % b → f' = p + 1) ∧ (u % b = v % b → f' = f) ∧ l' = [(Str.ofString "base", .int b), (Str.ofString "found", .int f'), (Str.ofString "place", .int ((p : Int) + 1)), (Str.ofString "left", .int u), (Str.ofString "right", .int v)]) ?_ ?_
        · with_reducible refine TS_if ?_
          refine TB_cmp ?_ rfl
          with_reducible refine TE_bin ?_
          (refine' TE_name ?zzh1 ?_ ?zzh2 ?zzh3; (case zzh1 => walk_at "m.lk"); (case zzh2 => exact ofString_beq (by decide)); (case zzh3 => exact ofString_beq (by decide)))
          (refine' TE_name ?zzh1 ?_ ?zzh2 ?zzh3; (case zzh1 => walk_at "m.lk"); (case zzh2 => exact ofString_beq (by decide)); (case zzh3 => exact ofString_beq (by decide)))
          refine T2_mod (by first | decide | omega) ?_
          with_reducible refine TE_bin ?_
          (refine' TE_name ?zzh1 ?_ ?zzh2 ?zzh3; (case zzh1 => walk_at "m.lk"); (case zzh2 => exact ofString_beq (by decide)); (case zzh3 => exact ofString_beq (by decide)))
          (refine' TE_name ?zzh1 ?_ ?zzh2 ?zzh3; (case zzh1 => walk_at "m.lk"); (case zzh2 => exact ofString_beq (by decide)); (case zzh3 => exact ofString_beq (by decide)))
          refine T2_mod (by first | decide | omega) ?_
          rw [fmodN, fmodN]
          with_reducible refine T2_ne ?_
          with_reducible refine TT_bool ?_
          refine ite_dec (fun hr => ?_) fun hr => ?_
          · with_reducible refine TSs_cons ?_
            refine TS_assign ?_ (by walk_at "m.sto") (fun _ => rfl)
            (refine' TE_name ?zzh1 ?_ ?zzh2 ?zzh3; (case zzh1 => walk_at "m.lk"); (case zzh2 => exact ofString_beq (by decide)); (case zzh3 => exact ofString_beq (by decide)))
            with_reducible refine TSs_nil ?_
            exact ⟨[(Str.ofString "base", .int b), (Str.ofString "found", .int ((p : Int) + 1)), (Str.ofString "place", .int ((p : Int) + 1)), (Str.ofString "left", .int u), (Str.ofString "right", .int v)], by walk_at "m.sub", rfl, p + 1, fun _ => rfl, fun e => absurd (by rw [e]) hr, rfl⟩
          · with_reducible refine TSs_nil ?_
            exact ⟨_, by walk_at "m.sub", rfl, f, fun e => absurd (fun q => e (by omega)) hr, fun _ => rfl, rfl⟩
        · rintro l₁ ν'' ⟨rfl, f', g1, g2, rfl⟩
          with_reducible refine TSs_cons ?_
          refine TS_assign ?_ (by walk_at "m.sto") (fun _ => rfl)
          with_reducible refine TE_bin ?_
          (refine' TE_name ?zzh1 ?_ ?zzh2 ?zzh3; (case zzh1 => walk_at "m.lk"); (case zzh2 => exact ofString_beq (by decide)); (case zzh3 => exact ofString_beq (by decide)))
          (refine' TE_name ?zzh1 ?_ ?zzh2 ?zzh3; (case zzh1 => walk_at "m.lk"); (case zzh2 => exact ofString_beq (by decide)); (case zzh3 => exact ofString_beq (by decide)))
          refine T2_div (by first | decide | omega) (by first | decide | omega) ?_
          with_reducible refine TSs_cons ?_
          refine TS_assign ?_ (by walk_at "m.sto") (fun _ => rfl)
          with_reducible refine TE_bin ?_
          (refine' TE_name ?zzh1 ?_ ?zzh2 ?zzh3; (case zzh1 => walk_at "m.lk"); (case zzh2 => exact ofString_beq (by decide)); (case zzh3 => exact ofString_beq (by decide)))
          (refine' TE_name ?zzh1 ?_ ?zzh2 ?zzh3; (case zzh1 => walk_at "m.lk"); (case zzh2 => exact ofString_beq (by decide)); (case zzh3 => exact ofString_beq (by decide)))
          refine T2_div (by first | decide | omega) (by first | decide | omega) ?_
          rw [fdivN, fdivN]
          with_reducible refine TSs_nil ?_
          refine ⟨_, _, part_lt h1 hpos, ?_, f', p + 1, u / b, v / b, rfl, rfl, part_key h1 hi g1 g2, rfl⟩
          walk_at "m.sub"
theorem st_ok : ∀ T, IsT C T → IsStore C T := by
  refine' mkStore hK ?a ?b ?c ?d ?e ?f ?g ?h ?i ?j ?k ?l
  case a => k_is
  case b => k_is
  case c => k_is
  case d => k_is
  case e => k_is
  case f => k_is
  case g => k_is
  case h => k_is
  case i => k_is
  case j => k_is
  case k => k_is
  case l => k_is
theorem m_init : IsM C (Str.ofString "__init__") := by
  refine' mkM hK ?a ?b ?c ?d
  case a => k_is
  case b => k_is
  case c => k_is
  case d => k_is
theorem laid_ok {st : Addr} {fp : List Addr} {S : SV} {x c : Nat} {nm : Str} (H : StoreAt C ν st fp S) (h1 : 2 ≤ S.base) (h2 : S.base ≤ 16) (hz : S.keys.length ≤ 1000) (hz' : ∀ k, (S.B k).length ≤ 1000)
    (h : ∀ ν' fp', Frame ν fp ν' fp' → StoreAt C ν' st fp' (S.laid (partN S.base x S.last) (x, nm, c)) → Q .none ν') : TM C (n + 3) (Str.ofString "laid") [.ref st, thD (x, nm, c)] ν Q := by
  refine' TM_def (names := [Str.ofString "self", Str.ofString "thing"]) ?D rfl ?_
  case D => (refine' mkDefM (by assumption) ?zza1 ?zza2 ?zza3 ?zza4 ?zzb ?zzc ?zzd ?zze ?zzf ?zzg ?zzh ?zzi; (case zza1 => k_is); (case zza2 => k_is); (case zza3 => k_is); (case zza4 => k_is); (case zzb => k_is); (case zzc => k_is); (case zzd => (intro vs hvs; first | (obtain ⟨a, e⟩ := len1 hvs; subst e; rfl) | (obtain ⟨a, b, e⟩ := len2 hvs; subst e; rfl) | (obtain ⟨a, b, c, e⟩ := len3 hvs; subst e; rfl) | (obtain ⟨a, b, c, d, e⟩ := len4 hvs; subst e; rfl))); (case zze => rfl); (case zzf => rfl); (case zzg => rfl); (case zzh => decide); (case zzi => (simp only [List.forall_mem_cons, List.not_mem_nil, false_implies, implies_true, and_true]; first | exact Or.inl rfl | exact Or.inr rfl | exact ⟨by walk_at "m.sto", by walk_at "m.sto"⟩ | exact ⟨by walk_at "m.sto", by walk_at "m.sto", by walk_at "m.sto"⟩ | exact ⟨by walk_at "m.sto", by walk_at "m.sto", by walk_at "m.sto", by walk_at "m.sto"⟩)))
  dsimp only [List.zip, List.zipWith]
  obtain ⟨dd, bk, adr, rfl, H⟩ := H
  have hS := st_ok hK
  have hM := m_init hK
  with_reducible refine TSs_cons ?_
  refine TS_assign ?_ (by walk_at "m.sto") (fun _ => rfl)
  (refine' TE_callN ?zzh1 ?zzh2 ?_ ?zzh3 ?zzh4; (case zzh2 => (refine' mkFn (by assumption) ?zza ?zzb; (case zza => k_is); (case zzb => k_is))); (case zzh1 => rfl); (case zzh3 => exact ofString_beq (by decide)); (case zzh4 => rfl))
  refine TL_cons ?_ rfl
  refine TE_sub' ?_ rfl
  (refine' TE_name ?zzh1 ?_ ?zzh2 ?zzh3; (case zzh1 => walk_at "m.lk"); (case zzh2 => exact ofString_beq (by decide)); (case zzh3 => exact ofString_beq (by decide)))
  with_reducible refine TE_int ?_
  unfold thD
  refine T2_itemT (k := 0) (by decide) (by decide) rfl ?_ rfl
  refine TL_cons ?_ rfl
  refine TE_fld hS hM H rfl ?_ (fun _ _ => rfl)
  (refine' TE_name ?zzh1 ?_ ?zzh2 ?zzh3; (case zzh1 => walk_at "m.lk"); (case zzh2 => exact ofString_beq (by decide)); (case zzh3 => exact ofString_beq (by decide)))
  refine ⟨rfl, rfl, ?_⟩
  refine TL_cons ?_ rfl
  refine TE_fld hS hM H rfl ?_ (fun _ _ => rfl)
  (refine' TE_name ?zzh1 ?_ ?zzh2 ?zzh3; (case zzh1 => walk_at "m.lk"); (case zzh2 => exact ofString_beq (by decide)); (case zzh3 => exact ofString_beq (by decide)))
  refine ⟨rfl, rfl, ?_⟩
  with_reducible refine TL_nil ?_
  refine parting_ok hK h1 h2 ?_
  obtain ⟨k, hk⟩ : ∃ k, k = partN S.base x S.last := ⟨_, rfl⟩
  rw [← hk] at h ⊢
  refine TSs_mid (fun l' ν' => ∃ adr', StoreAs C ν' st dd bk adr' { S with keys := addK S.keys k } ∧ Frame ν (fpOf dd bk adr S) ν' (fpOf dd bk adr' { S with keys := addK S.keys k }) ∧ l' = [(Str.ofString "self", .ref st), (Str.ofString "thing", thD (x, nm, c)), (Str.ofString "place", .int k)]) ?_ ?_
  · with_reducible refine TS_if ?_
    refine TB_cmp ?_ rfl
    (refine' TE_name ?zzh1 ?_ ?zzh2 ?zzh3; (case zzh1 => walk_at "m.lk"); (case zzh2 => exact ofString_beq (by decide)); (case zzh3 => exact ofString_beq (by decide)))
    refine TE_fld hS hM H rfl ?_ (fun _ _ => rfl)
    (refine' TE_name ?zzh1 ?_ ?zzh2 ?zzh3; (case zzh1 => walk_at "m.lk"); (case zzh2 => exact ofString_beq (by decide)); (case zzh3 => exact ofString_beq (by decide)))
    refine ⟨rfl, rfl, ?_⟩
    refine T2_notInI H.dict ?_
    rw [dctD_at]
    by_cases hm : k ∈ S.keys
    · rw [if_pos hm, Option.isSome_some]
      with_reducible refine TT_bool ?_
      with_reducible refine ite_nt ?_
      with_reducible refine TSs_nil ?_
      have ek : addK S.keys k = S.keys := if_pos hm
      refine ⟨_, by walk_at "m.sub", adr, ?_, ?_, rfl⟩
      · rw [ek]; exact H
      · rw [ek]; exact Frame.refl
    · rw [if_neg hm, Option.isSome_none]
      with_reducible refine TT_bool ?_
      with_reducible refine ite_nf ?_
      with_reducible refine TSs_cons ?_
      refine TS_setitem ?_ (fun _ => rfl)
      refine TE_list ?_
      with_reducible refine TL_nil ?_
      refine ⟨by simp, fun r hr => ?_⟩
      have H' := H.ext (Ext.refl.upd (o := .lst []) hr)
      refine TE_fld hS hM H' rfl ?_ (fun _ _ => rfl)
      (refine' TE_name ?zzh1 ?_ ?zzh2 ?zzh3; (case zzh1 => walk_at "m.lk"); (case zzh2 => exact ofString_beq (by decide)); (case zzh3 => exact ofString_beq (by decide)))
      refine ⟨rfl, rfl, ?_⟩
      (refine' TE_name ?zzh1 ?_ ?zzh2 ?zzh3; (case zzh1 => walk_at "m.lk"); (case zzh2 => exact ofString_beq (by decide)); (case zzh3 => exact ofString_beq (by decide)))
      refine TX_dI H'.dict (by rw [dctD_len]; omega) ?_
      with_reducible refine TSs_nil ?_
      obtain ⟨H2, F2⟩ := H.newKey hm hr
      have ek : addK S.keys k = S.keys ++ [k] := if_neg hm
      refine ⟨_, by walk_at "m.sub", fun j => if j = k then r else adr j, ?_, ?_, rfl⟩
      · rw [ek]; exact H2
      · rw [ek]; exact F2
  · rintro l₁ ν₁ ⟨adr', H', F', rfl⟩
    with_reducible refine TSs_cons ?_
    refine TS_expr ?_ (fun _ => rfl)
    refine TE_methL LM_append ?_ (fun _ _ => rfl) rfl (by decide) rfl
    refine TE_sub' ?_ rfl
    refine TE_fld hS hM H' rfl ?_ (fun _ _ => rfl)
    (refine' TE_name ?zzh1 ?_ ?zzh2 ?zzh3; (case zzh1 => walk_at "m.lk"); (case zzh2 => exact ofString_beq (by decide)); (case zzh3 => exact ofString_beq (by decide)))
    refine ⟨rfl, rfl, ?_⟩
    (refine' TE_name ?zzh1 ?_ ?zzh2 ?zzh3; (case zzh1 => walk_at "m.lk"); (case zzh2 => exact ofString_beq (by decide)); (case zzh3 => exact ofString_beq (by decide)))
    refine T2_itemD (d := .ref (adr' k)) H'.dict (by rw [dctD_at, if_pos addK_mem]) ?_ rfl
    have hl := H'.lists k addK_mem
    refine ⟨adr' k, by simp only [isL, hl], ?_⟩
    refine TL_cons ?_ rfl
    (refine' TE_name ?zzh1 ?_ ?zzh2 ?zzh3; (case zzh1 => walk_at "m.lk"); (case zzh2 => exact ofString_beq (by decide)); (case zzh3 => exact ofString_beq (by decide)))
    with_reducible refine TL_nil ?_
    refine TC_append hl (by rw [List.length_map]; have := hz' k; show (S.B k).length ≤ _; omega) ?_
    with_reducible refine TSs_nil ?_
    obtain ⟨H2, F2⟩ := H'.append addK_mem (x, nm, c)
    rw [laid_addK] at H2 F2
    exact h _ _ (F'.trans F2) ⟨dd, bk, adr', rfl, H2⟩
theorem m_laid : IsM C (Str.ofString "laid") := by (refine' mkM (by assumption) ?zza ?zzb ?zzc ?zzd; (case zza => k_is); (case zzb => k_is); (case zzc => k_is); (case zzd => k_is))
theorem put_ok {st : Addr} {fp : List Addr} {S : SV} {x : Nat} {nm : Str} (H : StoreAt C ν st fp S) (h1 : 2 ≤ S.base) (h2 : S.base ≤ 16) (hz : S.keys.length ≤ 1000) (hz' : ∀ k, (S.B k).length ≤ 1000) (hx : S.last ≤ x)
    (h : ∀ ν' fp', Frame ν fp ν' fp' → StoreAt C ν' st fp' (S.put x nm) → Q .none ν') : TM C (n + 4) (Str.ofString "put") [.ref st, .int x, .str nm] ν Q := by
  refine' TM_def (names := [Str.ofString "self", Str.ofString "number", Str.ofString "name"]) ?D rfl ?_
  case D => (refine' mkDefM (by assumption) ?zza1 ?zza2 ?zza3 ?zza4 ?zzb ?zzc ?zzd ?zze ?zzf ?zzg ?zzh ?zzi; (case zza1 => k_is); (case zza2 => k_is); (case zza3 => k_is); (case zza4 => k_is); (case zzb => k_is); (case zzc => k_is); (case zzd => (intro vs hvs; first | (obtain ⟨a, e⟩ := len1 hvs; subst e; rfl) | (obtain ⟨a, b, e⟩ := len2 hvs; subst e; rfl) | (obtain ⟨a, b, c, e⟩ := len3 hvs; subst e; rfl) | (obtain ⟨a, b, c, d, e⟩ := len4 hvs; subst e; rfl))); (case zze => rfl); (case zzf => rfl); (case zzg => rfl); (case zzh => decide); (case zzi => (simp only [List.forall_mem_cons, List.not_mem_nil, false_implies, implies_true, and_true]; first | exact Or.inl rfl | exact Or.inr rfl | exact ⟨by walk_at "m.sto", by walk_at "m.sto"⟩ | exact ⟨by walk_at "m.sto", by walk_at "m.sto", by walk_at "m.sto"⟩ | exact ⟨by walk_at "m.sto", by walk_at "m.sto", by walk_at "m.sto", by walk_at "m.sto"⟩)))
  dsimp only [List.zip, List.zipWith]
  obtain ⟨dd, bk, adr, rfl, H⟩ := H
  have hS := st_ok hK
  have hM := m_init hK
  with_reducible refine TSs_cons ?_
  refine TS_expr ?_ (fun _ => rfl)
  (refine' TE_callN ?zzh1 ?zzh2 ?_ ?zzh3 ?zzh4; (case zzh2 => (refine' mkFn (by assumption) ?zza ?zzb; (case zza => k_is); (case zzb => k_is))); (case zzh1 => rfl); (case zzh3 => exact ofString_beq (by decide)); (case zzh4 => rfl))
  refine TL_cons ?_ rfl
  (refine' TE_name ?zzh1 ?_ ?zzh2 ?zzh3; (case zzh1 => walk_at "m.lk"); (case zzh2 => exact ofString_beq (by decide)); (case zzh3 => exact ofString_beq (by decide)))
  with_reducible refine TL_nil ?_
  refine need_number_ok (b := (x : Int)) hK (by omega) ?_
  with_reducible refine TSs_cons ?_
  with_reducible refine TS_if ?_
  refine TB_cmp ?_ rfl
  (refine' TE_name ?zzh1 ?_ ?zzh2 ?zzh3; (case zzh1 => walk_at "m.lk"); (case zzh2 => exact ofString_beq (by decide)); (case zzh3 => exact ofString_beq (by decide)))
  refine TE_fld hS hM H rfl ?_ (fun _ _ => rfl)
  (refine' TE_name ?zzh1 ?_ ?zzh2 ?zzh3; (case zzh1 => walk_at "m.lk"); (case zzh2 => exact ofString_beq (by decide)); (case zzh3 => exact ofString_beq (by decide)))
  refine ⟨rfl, rfl, ?_⟩
  with_reducible refine T2_lt ?_
  with_reducible refine TT_bool ?_
  refine ite_dec (fun hr => absurd hr (by omega)) fun _ => ?_
  with_reducible refine TSs_nil ?_
  with_reducible refine TSs_cons ?_
  refine TS_expr ?_ (fun _ => rfl)
  refine TE_methM hS (m_laid hK) ?_ (fun _ _ => rfl) rfl (by decide) rfl
  (refine' TE_name ?zzh1 ?_ ?zzh2 ?zzh3; (case zzh1 => walk_at "m.lk"); (case zzh2 => exact ofString_beq (by decide)); (case zzh3 => exact ofString_beq (by decide)))
  obtain ⟨T, hT, hst⟩ := H.inst
  refine ⟨st, T, dd, _, rfl, hT, hst, H.ns, by walk_at "m.lkn", ?_⟩
  refine TL_cons ?_ rfl
  refine TE_tuple ?_
  refine TL_cons ?_ rfl
  (refine' TE_name ?zzh1 ?_ ?zzh2 ?zzh3; (case zzh1 => walk_at "m.lk"); (case zzh2 => exact ofString_beq (by decide)); (case zzh3 => exact ofString_beq (by decide)))
  refine TL_cons ?_ rfl
  (refine' TE_name ?zzh1 ?_ ?zzh2 ?zzh3; (case zzh1 => walk_at "m.lk"); (case zzh2 => exact ofString_beq (by decide)); (case zzh3 => exact ofString_beq (by decide)))
  refine TL_cons ?_ rfl
  with_reducible refine TE_int ?_
  with_reducible refine TL_nil ?_
  refine ⟨by simp, ?_⟩
  with_reducible refine TL_nil ?_
  refine laid_ok (c := 0) hK ⟨dd, bk, adr, rfl, H⟩ h1 h2 hz hz' fun ν₁ fp₁ F₁ H₁ => ?_
  obtain ⟨dd₁, bk₁, adr₁, rfl, H₁⟩ := H₁
  with_reducible refine TSs_cons ?_
  refine TS_setattrM (fields_ok hS (.inr (.inr (.inl rfl)))) hM ?_ (fun _ => rfl)
  with_reducible refine TE_bin ?_
  refine TE_fld hS hM H₁ rfl ?_ (fun _ _ => rfl)
  (refine' TE_name ?zzh1 ?_ ?zzh2 ?zzh3; (case zzh1 => walk_at "m.lk"); (case zzh2 => exact ofString_beq (by decide)); (case zzh3 => exact ofString_beq (by decide)))
  refine ⟨rfl, rfl, ?_⟩
  with_reducible refine TE_int ?_
  with_reducible refine T2_add ?_
  (refine' TE_name ?zzh1 ?_ ?zzh2 ?zzh3; (case zzh1 => walk_at "m.lk"); (case zzh2 => exact ofString_beq (by decide)); (case zzh3 => exact ofString_beq (by decide)))
  obtain ⟨T, hT, hst⟩ := H₁.inst
  refine ⟨st, T, dd₁, _, rfl, hT, hst, H₁.ns, by simp [fldD], ?_⟩
  obtain ⟨H₂, F₂⟩ := H₁.field (S' := S.put x nm) (fs := put (fldD (S.laid (partN S.base x S.last) (x, nm, 0)) bk₁) (Str.ofString "many") (.int ((S.laid (partN S.base x S.last) (x, nm, 0)).many + 1))) (by simp [fldD, put, SV.put, SV.laid, ofString_ne]) rfl rfl
  with_reducible refine TSs_nil ?_
  exact h _ _ (F₁.trans F₂) ⟨dd₁, bk₁, adr₁, rfl, H₂⟩
theorem init_ok {T x dx : Addr} {b : Nat} (hT : IsT C T) (hx : ν x = some (.inst T dx)) (hd : ν dx = some (.ns [])) (h1 : 2 ≤ b) (h2 : b ≤ 16) (h : ∀ r, ν r = none → Q .none (upd (upd ν r (.dI [])) dx (.ns (fldD (SV.new b) r)))) : TM C (n + 2) (Str.ofString "__init__") [.ref x, .int b] ν Q := by
  refine' TM_def (names := [Str.ofString "self", Str.ofString "base"]) ?D rfl ?_
  case D => (refine' mkDefM (by assumption) ?zza1 ?zza2 ?zza3 ?zza4 ?zzb ?zzc ?zzd ?zze ?zzf ?zzg ?zzh ?zzi; (case zza1 => k_is); (case zza2 => k_is); (case zza3 => k_is); (case zza4 => k_is); (case zzb => k_is); (case zzc => k_is); (case zzd => (intro vs hvs; first | (obtain ⟨a, e⟩ := len1 hvs; subst e; rfl) | (obtain ⟨a, b, e⟩ := len2 hvs; subst e; rfl) | (obtain ⟨a, b, c, e⟩ := len3 hvs; subst e; rfl) | (obtain ⟨a, b, c, d, e⟩ := len4 hvs; subst e; rfl))); (case zze => rfl); (case zzf => rfl); (case zzg => rfl); (case zzh => decide); (case zzi => (simp only [List.forall_mem_cons, List.not_mem_nil, false_implies, implies_true, and_true]; first | exact Or.inl rfl | exact Or.inr rfl | exact ⟨by walk_at "m.sto", by walk_at "m.sto"⟩ | exact ⟨by walk_at "m.sto", by walk_at "m.sto", by walk_at "m.sto"⟩ | exact ⟨by walk_at "m.sto", by walk_at "m.sto", by walk_at "m.sto", by walk_at "m.sto"⟩)))
  dsimp only [List.zip, List.zipWith]
  have hS := st_ok hK
  have hM := m_init hK
  have ne : x ≠ dx := StoreAs.ne_of hx hd nofun
  have key : ∀ o, upd ν dx o x = some (.inst T dx) := fun o => by rw [upd_other ne]; exact hx
  with_reducible refine TSs_cons ?_
  refine TS_expr ?_ (fun _ => rfl)
  (refine' TE_callN ?zzh1 ?zzh2 ?_ ?zzh3 ?zzh4; (case zzh2 => (refine' mkFn (by assumption) ?zza ?zzb; (case zza => k_is); (case zzb => k_is))); (case zzh1 => rfl); (case zzh3 => exact ofString_beq (by decide)); (case zzh4 => rfl))
  refine TL_cons ?_ rfl
  (refine' TE_name ?zzh1 ?_ ?zzh2 ?zzh3; (case zzh1 => walk_at "m.lk"); (case zzh2 => exact ofString_beq (by decide)); (case zzh3 => exact ofString_beq (by decide)))
  with_reducible refine TL_nil ?_
  refine need_base_ok (b := (b : Int)) hK (by omega) (by omega) ?_
  with_reducible refine TSs_cons ?_
  refine TS_setattrM (fields_ok hS (.inl rfl)) hM ?_ (fun _ => rfl)
  repeat' (first | (refine' TE_name ?zzh1 ?_ ?zzh2 ?zzh3; (case zzh1 => walk_at "m.lk"); (case zzh2 => exact ofString_beq (by decide)); (case zzh3 => exact ofString_beq (by decide))))
  refine ⟨x, T, dx, _, rfl, hT, hx, hd, by simp, ?_⟩
  with_reducible refine TSs_cons ?_
  refine TS_setattrM (fields_ok hS (.inr (.inl rfl))) hM ?_ (fun _ => rfl)
  with_reducible refine TE_int ?_
  (refine' TE_name ?zzh1 ?_ ?zzh2 ?zzh3; (case zzh1 => walk_at "m.lk"); (case zzh2 => exact ofString_beq (by decide)); (case zzh3 => exact ofString_beq (by decide)))
  refine ⟨x, T, dx, _, rfl, hT, key _, upd_same, by simp [put_len]; repeat (split <;> try omega), ?_⟩
  rw [upd_upd]
  with_reducible refine TSs_cons ?_
  refine TS_setattrM (fields_ok hS (.inr (.inr (.inl rfl)))) hM ?_ (fun _ => rfl)
  with_reducible refine TE_int ?_
  (refine' TE_name ?zzh1 ?_ ?zzh2 ?zzh3; (case zzh1 => walk_at "m.lk"); (case zzh2 => exact ofString_beq (by decide)); (case zzh3 => exact ofString_beq (by decide)))
  refine ⟨x, T, dx, _, rfl, hT, key _, upd_same, by simp [put_len]; repeat (split <;> try omega), ?_⟩
  rw [upd_upd]
  with_reducible refine TSs_cons ?_
  refine TS_setattrM (fields_ok hS (.inr (.inr (.inr (.inl rfl))))) hM ?_ (fun _ => rfl)
  with_reducible refine TE_int ?_
  (refine' TE_name ?zzh1 ?_ ?zzh2 ?zzh3; (case zzh1 => walk_at "m.lk"); (case zzh2 => exact ofString_beq (by decide)); (case zzh3 => exact ofString_beq (by decide)))
  refine ⟨x, T, dx, _, rfl, hT, key _, upd_same, by simp [put_len]; repeat (split <;> try omega), ?_⟩
  rw [upd_upd]
  with_reducible refine TSs_cons ?_
  refine TS_setattrM (fields_ok hS (.inr (.inr (.inr (.inr rfl))))) hM ?_ (fun _ => rfl)
  refine TE_dictI fun r hr => ?_
  have hr' : ν r = none := by
    unfold upd at hr; split at hr
    · cases hr
    · exact hr
  have nx : x ≠ r := fun q => by rw [q, hr'] at hx; cases hx
  have nd : dx ≠ r := fun q => by rw [q, hr'] at hd; cases hd
  (refine' TE_name ?zzh1 ?_ ?zzh2 ?zzh3; (case zzh1 => walk_at "m.lk"); (case zzh2 => exact ofString_beq (by decide)); (case zzh3 => exact ofString_beq (by decide)))
  refine ⟨x, T, dx, _, rfl, hT, by rw [upd_other nx]; exact key _, by rw [upd_other nd]; exact upd_same, by simp [put_len]; repeat (split <;> try omega), ?_⟩
  rw [upd_three]
  with_reducible refine TSs_nil ?_
  have e : put (put (put (put (put [] (Str.ofString "base") (D.int b)) (Str.ofString "last") (D.int 0)) (Str.ofString "many") (D.int 0)) (Str.ofString "moves") (D.int 0)) (Str.ofString "buckets") (D.ref r) = fldD (SV.new b) r := by
    simp [fldD, put, SV.new, ofString_ne]
  rw [e]
  exact h r hr'
theorem new_ok {sc : Scope} {l : Loc} {p pos : Pos} {e : Expr} (hk : sc.names.lookup (Str.ofString "Store") = some .globalImplicit) (hst : noSt [e] = true)
    (h : TL C (n + 4) sc [e] l ν (fun ds ν₁ => ∃ b : Nat, ds = [.int b] ∧ 2 ≤ b ∧ b ≤ 16 ∧ ∀ ν' st fp, ν₁ st = none → Ext ν₁ ν' → (∀ a ∈ fp, ν₁ a = none) → st ∉ fp → StoreAt C ν' st fp (SV.new b) → Q (.ref st) ν')) : TE C (n + 4) sc (.Call (.Name (Str.ofString "Store") p) [e] [] pos) l ν Q := by
  refine TE_new (st_ok hK) (m_init hK) hk (fun A env s pos hA R F => wpAny_mono (h A env s pos hA R F) (fun _ _ ⟨ds, ν', a, b, c, q⟩ => ⟨ds, ν', a, b, c, ?_⟩) fun _ _ x => x) hst
  obtain ⟨b, rfl, h1, h2, q⟩ := q
  intro T x dx hT hx hd hne
  have e1 : upd (upd ν' dx (.ns [])) x (.inst T dx) dx = some (.ns []) := by rw [upd_other hne.symm, upd_same]
  refine init_ok hK hT upd_same e1 h1 h2 fun r hr => ⟨rfl, ?_⟩
  have nrx : r ≠ x := fun z => by subst z; rw [upd_same] at hr; cases hr
  have nrd : r ≠ dx := fun z => by subst z; rw [e1] at hr; cases hr
  have hr' : ν' r = none := by rw [upd_other nrx, upd_other nrd] at hr; exact hr
  refine q _ x (fpOf dx r (fun _ => 0) (SV.new b)) hx (fun a o ha => ?_) (fun a ha => ?_) (fun ha => ?_) ⟨dx, r, fun _ => 0, rfl, ⟨⟨T, hT, ?_⟩, upd_same, ?_, fun k hk => ?_, ?_, ?_, fun _ _ => rfl⟩⟩
  · have n1 : a ≠ dx := fun z => by rw [z, hd] at ha; cases ha
    have n2 : a ≠ r := fun z => by rw [z, hr'] at ha; cases ha
    have n3 : a ≠ x := fun z => by rw [z, hx] at ha; cases ha
    rw [upd_other n1, upd_other n2, upd_other n3, upd_other n1]; exact ha
  · have : a = dx ∨ a = r := by simpa [fpOf, SV.new] using ha
    rcases this with rfl | rfl
    · exact hd
    · exact hr'
  · have : x = dx ∨ x = r := by simpa [fpOf, SV.new] using ha
    rcases this with z | z
    · exact hne z
    · exact nrx z.symm
  · rw [upd_other hne, upd_other nrx.symm, upd_same]
  · rw [upd_other nrd, upd_same]; rfl
  · simp [SV.new] at hk
  · simp [SV.new]
  · simp [SV.new]
theorem rows_ok {st : Addr} {fp : List Addr} {S : SV} (H : StoreAt C ν st fp S) (hz : S.keys.length < 64) (hz' : ∀ k, (S.B k).length ≤ 1000)
    (h : ∀ (r : Addr) (ks : List Nat), ν r = none → ks.Perm S.keys → ks.Pairwise (· ≤ ·) → Q (.ref r) (upd ν r (.lst (rowsD S.B ks)))) : TM C (n + 1) (Str.ofString "rows") [.ref st] ν Q := by
  refine TM_forget ?_
  refine' TM_def (names := [Str.ofString "self"]) ?D rfl ?_
  case D => (refine' mkDefM (by assumption) ?zza1 ?zza2 ?zza3 ?zza4 ?zzb ?zzc ?zzd ?zze ?zzf ?zzg ?zzh ?zzi; (case zza1 => k_is); (case zza2 => k_is); (case zza3 => k_is); (case zza4 => k_is); (case zzb => k_is); (case zzc => k_is); (case zzd => (intro vs hvs; first | (obtain ⟨a, e⟩ := len1 hvs; subst e; rfl) | (obtain ⟨a, b, e⟩ := len2 hvs; subst e; rfl) | (obtain ⟨a, b, c, e⟩ := len3 hvs; subst e; rfl) | (obtain ⟨a, b, c, d, e⟩ := len4 hvs; subst e; rfl))); (case zze => rfl); (case zzf => rfl); (case zzg => rfl); (case zzh => decide); (case zzi => (simp only [List.forall_mem_cons, List.not_mem_nil, false_implies, implies_true, and_true]; first | exact Or.inl rfl | exact Or.inr rfl | exact ⟨by walk_at "m.sto", by walk_at "m.sto"⟩ | exact ⟨by walk_at "m.sto", by walk_at "m.sto", by walk_at "m.sto"⟩ | exact ⟨by walk_at "m.sto", by walk_at "m.sto", by walk_at "m.sto", by walk_at "m.sto"⟩)))
  dsimp only [List.zip, List.zipWith]
  obtain ⟨dd, bk, adr, rfl, H⟩ := H
  have hS := st_ok hK
  have hM := m_init hK
  with_reducible refine TSs_cons ?_
  refine TS_assign ?_ (by walk_at "m.sto") (fun _ => rfl)
  refine TE_list ?_
  with_reducible refine TL_nil ?_
  refine ⟨by simp, fun r hr => ?_⟩
  have H₁ := H.ext (Ext.refl.upd (o := .lst []) hr)
  with_reducible refine TSs_cons ?_
  refine TS_for ?_ (fun _ _ => rfl)
  (refine' TE_callB ?zzh1 ?zzh2 ?_ ?zzh3 ?zzh4; (case zzh2 => (refine' G_blt (by assumption) ?zza ?zzb ?zzc; (case zza => k_is); (case zzb => exact bb_sorted); (case zzc => exact ofString_ne (by decide)))); (case zzh1 => rfl); (case zzh3 => exact ofString_beq (by decide)); (case zzh4 => rfl))
  refine TL_cons ?_ rfl
  (refine' TE_callT ?zzh1 ?zzh2 ?_ ?zzh3 ?zzh4; (case zzh2 => (refine' G_blt (by assumption) ?zza ?zzb ?zzc; (case zza => k_is); (case zzb => exact bb_list); (case zzc => exact ofString_ne (by decide)))); (case zzh1 => rfl); (case zzh3 => exact ofString_beq (by decide)); (case zzh4 => rfl))
  refine TL_cons ?_ rfl
  refine TE_fld hS hM H₁ rfl ?_ (fun _ _ => rfl)
  (refine' TE_name ?zzh1 ?_ ?zzh2 ?zzh3; (case zzh1 => walk_at "m.lk"); (case zzh2 => exact ofString_beq (by decide)); (case zzh3 => exact ofString_beq (by decide)))
  refine ⟨rfl, rfl, ?_⟩
  with_reducible refine TL_nil ?_
  refine TC_listDI H₁.dict (by rw [dctD_len]; omega) fun r₂ hr₂ => ?_
  with_reducible refine TL_nil ?_
  refine TC_sorted (ns := S.keys.map fun (k : Nat) => (k : Int)) (by rw [upd_same]; simp [seqOf, dctD]) (by rw [List.length_map]; omega) fun r₃ ns' hr₃ hp hs => ?_
  obtain ⟨ks, rfl, hp, hs⟩ := nat_list hp hs
  have n2 : r₂ ≠ r := fun q => by subst q; rw [upd_same] at hr₂; cases hr₂
  have n3 : r₃ ≠ r₂ := fun q => by subst q; rw [upd_same] at hr₃; cases hr₃
  have n3r : r₃ ≠ r := fun q => by subst q; rw [upd_other n3, upd_same] at hr₃; cases hr₃
  have v2 : ν r₂ = none := by rw [upd_other n2] at hr₂; exact hr₂
  have v3 : ν r₃ = none := by rw [upd_other n3, upd_other n3r] at hr₃; exact hr₃
  obtain ⟨ν₃, e₃⟩ : ∃ ν₃, ν₃ = upd (upd (upd ν r (.lst [])) r₂ (.lst (((dctD S.keys adr).map (·.1)).map .int))) r₃ (.lst ((ks.map fun (k : Nat) => (k : Int)).map .int)) := ⟨_, rfl⟩
  rw [← e₃]
  have w3 : ν₃ r₃ = some (.lst ((ks.map fun (k : Nat) => (k : Int)).map .int)) := by rw [e₃, upd_same]
  have wr : ν₃ r = some (.lst []) := by rw [e₃, upd_other n3r.symm, upd_other n2.symm, upd_same]
  have X₃ : Ext ν ν₃ := fun a o e => by
    have m1 : a ≠ r := fun q => by rw [q, hr] at e; cases e
    have m2 : a ≠ r₂ := fun q => by rw [q, v2] at e; cases e
    have m3 : a ≠ r₃ := fun q => by rw [q, v3] at e; cases e
    rw [e₃, upd_other m3, upd_other m2, upd_other m1]; exact e
  have X₄ : ∀ o, Ext ν (upd ν₃ r o) := fun o a o' e => by
    have m1 : a ≠ r := fun q => by rw [q, hr] at e; cases e
    rw [upd_other m1]; exact X₃ a o' e
  refine TF_sub (l₀ := [(Str.ofString "self", .ref st), (Str.ofString "found", .ref r)]) (by walk_at "m.sub") ?_
  have hkl : ks.length < 64 := by rw [hp.length_eq]; exact hz
  refine TF_list (ds := (ks.map fun (k : Nat) => (k : Int)).map .int) (by rw [w3]; rfl) (fun i l' ν' => ν' = upd ν₃ r (.lst (rowsD S.B (ks.take i))) ∧ l' = [(Str.ofString "self", .ref st), (Str.ofString "found", .ref r)]) ⟨(upd_id wr).symm, rfl⟩ ?_ ?_ ?_
  · rintro i l' ν' ⟨rfl, rfl⟩; rw [upd_other n3r, w3]; rfl
  · rintro i l' ν' d hd ⟨rfl, rfl⟩
    obtain ⟨k, hk, rfl⟩ : ∃ k, ks[i]? = some k ∧ d = .int (k : Int) := by
      rw [List.getElem?_map, List.getElem?_map] at hd
      cases q : ks[i]? with
      | none => rw [q] at hd; cases hd
      | some k => rw [q] at hd; exact ⟨k, rfl, by simpa using hd.symm⟩
    have hkm : k ∈ S.keys := hp.mem_iff.mp (List.mem_of_getElem? hk)
    have hlen : (rowsD S.B (ks.take i)).length ≤ 64 * 1000 := by
      have : ∀ ms : List Nat, (rowsD S.B ms).length ≤ ms.length * 1000 := fun ms => by
        induction ms with
        | nil => simp [rowsD]
        | cons m ms ih =>
          have := hz' m
          simp only [rowsD, List.flatMap_cons, List.length_append, List.length_map, List.length_cons] at ih ⊢
          omega
      have h9 := this (ks.take i)
      have : (ks.take i).length ≤ 64 := by rw [List.length_take]; omega
      omega
    have H₄ := H.ext (X₄ (.lst (rowsD S.B (ks.take i))))
    refine TG_name (by walk_at "m.sto") ?_
    with_reducible refine TSs_cons ?_
    refine TS_for ?_ (fun _ _ => rfl)
    refine TE_sub' ?_ rfl
    refine TE_fld hS hM H₄ rfl ?_ (fun _ _ => rfl)
    (refine' TE_name ?zzh1 ?_ ?zzh2 ?zzh3; (case zzh1 => walk_at "m.lk"); (case zzh2 => exact ofString_beq (by decide)); (case zzh3 => exact ofString_beq (by decide)))
    refine ⟨rfl, rfl, ?_⟩
    (refine' TE_name ?zzh1 ?_ ?zzh2 ?zzh3; (case zzh1 => walk_at "m.lk"); (case zzh2 => exact ofString_beq (by decide)); (case zzh3 => exact ofString_beq (by decide)))
    refine T2_itemD (d := .ref (adr k)) H₄.dict (by rw [dctD_at, if_pos hkm]) ?_ rfl
    have hl := H₄.lists k hkm
    refine TF_sub (l₀ := [(Str.ofString "self", .ref st), (Str.ofString "found", .ref r), (Str.ofString "place", .int k)]) (by walk_at "m.sub") ?_
    refine TF_list (ds := (S.B k).map thD) (by rw [hl]; rfl) (fun j l' ν' => ν' = upd ν₃ r (.lst (rowsD S.B (ks.take i) ++ ((S.B k).take j).map (rowD k))) ∧ l' = [(Str.ofString "self", .ref st), (Str.ofString "found", .ref r), (Str.ofString "place", .int k)]) ⟨by simp, rfl⟩ ?_ ?_ ?_
    · rintro j l' ν' ⟨rfl, rfl⟩; rw [(H.ext (X₄ _)).lists k hkm]; rfl
    · rintro j l' ν' d hd ⟨rfl, rfl⟩
      obtain ⟨t, ht, rfl⟩ : ∃ t, (S.B k)[j]? = some t ∧ d = thD t := by
        rw [List.getElem?_map] at hd
        cases q : (S.B k)[j]? with
        | none => rw [q] at hd; cases hd
        | some t => rw [q] at hd; exact ⟨t, rfl, by simpa using hd.symm⟩
      refine TG_name (by walk_at "m.sto") ?_
      with_reducible refine TSs_cons ?_
      refine TS_expr ?_ (fun _ => rfl)
      refine TE_methL LM_append ?_ (fun _ _ => rfl) rfl (by decide) rfl
      (refine' TE_name ?zzh1 ?_ ?zzh2 ?zzh3; (case zzh1 => walk_at "m.lk"); (case zzh2 => exact ofString_beq (by decide)); (case zzh3 => exact ofString_beq (by decide)))
      refine ⟨r, by simp only [isL, upd_same], ?_⟩
      refine TL_cons ?_ rfl
      refine TE_tuple ?_
      refine TL_cons ?_ rfl
      (refine' TE_name ?zzh1 ?_ ?zzh2 ?zzh3; (case zzh1 => walk_at "m.lk"); (case zzh2 => exact ofString_beq (by decide)); (case zzh3 => exact ofString_beq (by decide)))
      refine TL_cons ?_ rfl
      refine TE_sub' ?_ rfl
      (refine' TE_name ?zzh1 ?_ ?zzh2 ?zzh3; (case zzh1 => walk_at "m.lk"); (case zzh2 => exact ofString_beq (by decide)); (case zzh3 => exact ofString_beq (by decide)))
      with_reducible refine TE_int ?_
      unfold thD
      refine T2_itemT (k := 0) (by decide) (by decide) rfl ?_ rfl
      refine TL_cons ?_ rfl
      refine TE_sub' ?_ rfl
      (refine' TE_name ?zzh1 ?_ ?zzh2 ?zzh3; (case zzh1 => walk_at "m.lk"); (case zzh2 => exact ofString_beq (by decide)); (case zzh3 => exact ofString_beq (by decide)))
      with_reducible refine TE_int ?_
      refine T2_itemT (k := 1) (by decide) (by decide) rfl ?_ rfl
      refine TL_cons ?_ rfl
      refine TE_sub' ?_ rfl
      (refine' TE_name ?zzh1 ?_ ?zzh2 ?zzh3; (case zzh1 => walk_at "m.lk"); (case zzh2 => exact ofString_beq (by decide)); (case zzh3 => exact ofString_beq (by decide)))
      with_reducible refine TE_int ?_
      refine T2_itemT (k := 2) (by decide) (by decide) rfl ?_ rfl
      with_reducible refine TL_nil ?_
      refine ⟨by simp, ?_⟩
      with_reducible refine TL_nil ?_
      refine TC_append upd_same (by simp only [List.length_append, List.length_map, List.length_take]; have := hz' k; omega) ?_
      rw [upd_upd]
      with_reducible refine TSs_nil ?_
      refine ⟨_, by walk_at "m.sub", ?_, rfl⟩
      rw [List.take_add_one, ht, List.append_assoc]
      simp [rowD]
    · rintro l' ν' ⟨rfl, rfl⟩
      with_reducible refine TSs_nil ?_
      refine ⟨_, by walk_at "m.sub", ?_, rfl⟩
      rw [List.length_map, List.take_length, List.take_add_one, hk]
      show _ = upd ν₃ r (.lst (rowsD S.B (ks.take i ++ [k])))
      rw [rowsD_snoc]
  · rintro l' ν' ⟨rfl, rfl⟩
    rw [List.length_map, List.length_map, List.take_length]
    with_reducible refine TSs_cons ?_
    with_reducible refine TS_ret ?_
    (refine' TE_name ?zzh1 ?_ ?zzh2 ?zzh3; (case zzh1 => walk_at "m.lk"); (case zzh2 => exact ofString_beq (by decide)); (case zzh3 => exact ofString_beq (by decide)))
    refine ⟨upd ν r (.lst (rowsD S.B ks)), fun a o e => ?_, h r ks hr hp hs⟩
    unfold upd at e ⊢
    split at e
    · rename_i q; rw [if_pos q]; exact e
    · rename_i q; rw [if_neg q]; exact X₃ a o e
theorem name_ok {c : Int} {m : Int} (hm : 0 ≤ m) (hm' : m ≤ 1000) (h : ∀ nm : Str, NmOk nm → Q (.str nm) ν) : TN C (n + 1) (Str.ofString "_law_name_by") [.int c, .int m] ν Q := by
  refine TN_drop ?_
  refine' TN_def (names := [Str.ofString "_law_cell", Str.ofString "_law_size"]) ?D rfl ?_
  case D => (refine' mkDef (by assumption) ?zza ?zzb ?zzc ?zzd ?zze ?zzf ?zzg ?zzh ?zzi; (case zza => k_is); (case zzb => k_is); (case zzc => k_is); (case zzd => (intro vs hvs; first | (obtain ⟨a, e⟩ := len1 hvs; subst e; rfl) | (obtain ⟨a, b, e⟩ := len2 hvs; subst e; rfl) | (obtain ⟨a, b, c, e⟩ := len3 hvs; subst e; rfl) | (obtain ⟨a, b, c, d, e⟩ := len4 hvs; subst e; rfl))); (case zze => rfl); (case zzf => rfl); (case zzg => rfl); (case zzh => decide); (case zzi => (simp only [List.forall_mem_cons, List.not_mem_nil, false_implies, implies_true, and_true]; first | exact Or.inl rfl | exact Or.inr rfl | exact ⟨by walk_at "m.sto", by walk_at "m.sto"⟩ | exact ⟨by walk_at "m.sto", by walk_at "m.sto", by walk_at "m.sto"⟩ | exact ⟨by walk_at "m.sto", by walk_at "m.sto", by walk_at "m.sto", by walk_at "m.sto"⟩)))
  dsimp only [List.zip, List.zipWith]
  with_reducible refine TSs_cons ?_
  refine TS_assign ?_ (by walk_at "m.sto") (fun _ => rfl)
  with_reducible refine TE_str ?_
  with_reducible refine TSs_cons ?_
  refine TS_assign ?_ (by walk_at "m.sto") (fun _ => rfl)
  with_reducible refine TE_bin ?_
  (refine' TE_name ?zzh1 ?_ ?zzh2 ?zzh3; (case zzh1 => walk_at "m.lk"); (case zzh2 => exact ofString_beq (by decide)); (case zzh3 => exact ofString_beq (by decide)))
  with_reducible refine TE_str ?_
  refine T2_addS (by decide +kernel) ?_
  have hlen : (Str.ofString "abcdefghijklmnopqrstuvwxyzABCDEFGHIJKLMNOPQRSTUVWXYZ0123456789" ++ Str.ofString " !\"#$&'()*+,-./:;<=>?\x40[\\]^_`{|}~").cps.size = 94 := by decide +kernel
  have hall : (Str.ofString "abcdefghijklmnopqrstuvwxyzABCDEFGHIJKLMNOPQRSTUVWXYZ0123456789" ++ Str.ofString " !\"#$&'()*+,-./:;<=>?\x40[\\]^_`{|}~").cps.all (· < 128) = true := by decide +kernel
  generalize Str.ofString "abcdefghijklmnopqrstuvwxyzABCDEFGHIJKLMNOPQRSTUVWXYZ0123456789" ++ Str.ofString " !\"#$&'()*+,-./:;<=>?\x40[\\]^_`{|}~" = sm at hlen hall ⊢
  with_reducible refine TSs_cons ?_
  with_reducible refine TS_ret ?_
  refine TE_methS SM_join ?_ (fun _ _ => rfl) rfl (by decide) rfl
  with_reducible refine TE_str ?_
  refine ⟨_, rfl, ?_⟩
  refine TL_cons ?_ rfl
  refine TE_comp [(Str.ofString "_law_some", .str sm), (Str.ofString "_law_cell", .int c)] (hlc_of ?_) (by decide +kernel) (by decide +kernel) rfl (by decide +kernel) ?_ (fun _ _ => rfl)
  · simp only [List.forall_mem_cons, List.not_mem_nil, false_implies, implies_true, and_true]
    exact ⟨⟨by walk_at "m.lk", rfl⟩, by walk_at "m.lk", rfl⟩
  (refine' TE_callT ?zzh1 ?zzh2 ?_ ?zzh3 ?zzh4; (case zzh2 => (refine' G_blt (by assumption) ?zza ?zzb ?zzc; (case zza => k_is); (case zzb => exact bb_range); (case zzc => exact ofString_ne (by decide)))); (case zzh1 => rfl); (case zzh3 => exact ofString_beq (by decide)); (case zzh4 => rfl))
  refine TL_cons ?_ rfl
  (refine' TE_name ?zzh1 ?_ ?zzh2 ?zzh3; (case zzh1 => walk_at "m.lk"); (case zzh2 => exact ofString_beq (by decide)); (case zzh3 => exact ofString_beq (by decide)))
  with_reducible refine TL_nil ?_
  refine TC_range ?_
  have f5 := fmod_pos c (b := 5) (by decide)
  refine ⟨_, _, Itb_rng (by omega) (by omega), by omega, fun i => some (.str ⟨#[sm.cps.getD ((c + 13 * (i : Int) * (1 + c.fmod 5)).fmod 94).toNat 0]⟩), fun i hi r xs hr => ?_, fun r hr => ?_⟩
  · refine TGl_name rfl ⟨by walk_at "m.sub", ?_⟩
    refine ⟨rfl, ?_⟩
    rw [if_pos rfl]
    refine TE_sub' ?_ rfl
    (refine' TE_name ?zzh1 ?_ ?zzh2 ?zzh3; (case zzh1 => walk_at "m.lk"); (case zzh2 => exact ofString_beq (by decide)); (case zzh3 => exact ofString_beq (by decide)))
    with_reducible refine TE_bin ?_
    with_reducible refine TE_bin ?_
    (refine' TE_name ?zzh1 ?_ ?zzh2 ?zzh3; (case zzh1 => walk_at "m.lk"); (case zzh2 => exact ofString_beq (by decide)); (case zzh3 => exact ofString_beq (by decide)))
    with_reducible refine TE_bin ?_
    with_reducible refine TE_bin ?_
    with_reducible refine TE_int ?_
    (refine' TE_name ?zzh1 ?_ ?zzh2 ?zzh3; (case zzh1 => walk_at "m.lk"); (case zzh2 => exact ofString_beq (by decide)); (case zzh3 => exact ofString_beq (by decide)))
    refine T2_mul (mulOk10 2 5 (by omega) (by omega) (by omega) (by omega)) ?_
    with_reducible refine TE_bin ?_
    with_reducible refine TE_int ?_
    with_reducible refine TE_bin ?_
    (refine' TE_name ?zzh1 ?_ ?zzh2 ?zzh3; (case zzh1 => walk_at "m.lk"); (case zzh2 => exact ofString_beq (by decide)); (case zzh3 => exact ofString_beq (by decide)))
    with_reducible refine TE_int ?_
    refine T2_mod (by first | decide | omega) ?_
    with_reducible refine T2_add ?_
    refine T2_mul (mulOk10 8 2 (by omega) (by omega) (by omega) (by omega)) ?_
    with_reducible refine T2_add ?_
    with_reducible refine TE_int ?_
    refine T2_mod (by first | decide | omega) ?_
    have f94 := fmod_pos (c + 13 * (i : Int) * (1 + c.fmod 5)) (b := 94) (by decide)
    obtain ⟨j, hj⟩ := toN f94.1
    rw [hj] at f94 ⊢
    have e1 : sm.cps[j]? = some (sm.cps.getD j 0) := by
      have : j < sm.cps.size := by omega
      simp [this, Array.getD]
    refine T2_itemS e1 (by omega) ?_ rfl
    refine ⟨rfl, ?_⟩
    show some (D.str ⟨#[sm.cps.getD ((c + 13 * (i : Int) * (1 + c.fmod 5)).fmod 94).toNat 0]⟩) = _
    rw [hj]; rfl
  · with_reducible refine TL_nil ?_
    refine TC_join (cs := (List.range m.toNat).map fun (i : Nat) => sm.cps.getD ((c + 13 * (i : Int) * (1 + c.fmod 5)).fmod 94).toNat 0) ?_ (by simp; omega) ?_
    · rw [upd_same, List.map_map]
      congr 2
      induction List.range m.toNat with
      | nil => rfl
      | cons x r ih => simp [ih]
    exact ⟨Ext.refl.upd hr, h _ (strOk_of hall _ _)⟩
theorem low_ok {st : Addr} {fp : List Addr} {S : SV} (H : StoreAt C ν st fp S) (hm : S.many ≠ 0) (hne : ∃ k ∈ S.keys, S.B k ≠ []) (hz : S.keys.length ≤ 1000) (hz' : ∀ k, (S.B k).length ≤ 1000) (h : Q (.int S.low) ν) : TM C (n + 1) (Str.ofString "lowest") [.ref st] ν Q := by
  refine TM_forget ?_
  refine' TM_def (names := [Str.ofString "self"]) ?D rfl ?_
  case D => (refine' mkDefM (by assumption) ?zza1 ?zza2 ?zza3 ?zza4 ?zzb ?zzc ?zzd ?zze ?zzf ?zzg ?zzh ?zzi; (case zza1 => k_is); (case zza2 => k_is); (case zza3 => k_is); (case zza4 => k_is); (case zzb => k_is); (case zzc => k_is); (case zzd => (intro vs hvs; first | (obtain ⟨a, e⟩ := len1 hvs; subst e; rfl) | (obtain ⟨a, b, e⟩ := len2 hvs; subst e; rfl) | (obtain ⟨a, b, c, e⟩ := len3 hvs; subst e; rfl) | (obtain ⟨a, b, c, d, e⟩ := len4 hvs; subst e; rfl))); (case zze => rfl); (case zzf => rfl); (case zzg => rfl); (case zzh => decide); (case zzi => (simp only [List.forall_mem_cons, List.not_mem_nil, false_implies, implies_true, and_true]; first | exact Or.inl rfl | exact Or.inr rfl | exact ⟨by walk_at "m.sto", by walk_at "m.sto"⟩ | exact ⟨by walk_at "m.sto", by walk_at "m.sto", by walk_at "m.sto"⟩ | exact ⟨by walk_at "m.sto", by walk_at "m.sto", by walk_at "m.sto", by walk_at "m.sto"⟩)))
  dsimp only [List.zip, List.zipWith]
  obtain ⟨dd, bk, adr, rfl, H⟩ := H
  have hS := st_ok hK
  have hM := m_init hK
  with_reducible refine TSs_cons ?_
  with_reducible refine TS_if ?_
  refine TB_cmp ?_ rfl
  refine TE_fld hS hM H rfl ?_ (fun _ _ => rfl)
  (refine' TE_name ?zzh1 ?_ ?zzh2 ?zzh3; (case zzh1 => walk_at "m.lk"); (case zzh2 => exact ofString_beq (by decide)); (case zzh3 => exact ofString_beq (by decide)))
  refine ⟨rfl, rfl, ?_⟩
  with_reducible refine TE_int ?_
  with_reducible refine T2_eq ?_
  with_reducible refine TT_bool ?_
  rw [decide_eq_false (by omega)]
  with_reducible refine ite_f ?_
  with_reducible refine TSs_nil ?_
  with_reducible refine TSs_cons ?_
  with_reducible refine TS_ret ?_
  (refine' TE_callB ?zzh1 ?zzh2 ?_ ?zzh3 ?zzh4; (case zzh2 => (refine' G_blt (by assumption) ?zza ?zzb ?zzc; (case zza => k_is); (case zzb => exact bb_min); (case zzc => exact ofString_ne (by decide)))); (case zzh1 => rfl); (case zzh3 => exact ofString_beq (by decide)); (case zzh4 => rfl))
  refine TL_cons ?_ rfl
  refine TE_comp [(Str.ofString "self", .ref st)] (hlc_of ?_) (by decide +kernel) (by decide +kernel) rfl (by decide +kernel) ?_ (fun _ _ => rfl)
  · simp only [List.forall_mem_cons, List.not_mem_nil, false_implies, implies_true, and_true]
    exact ⟨by walk_at "m.lk", rfl⟩
  (refine' TE_callT ?zzh1 ?zzh2 ?_ ?zzh3 ?zzh4; (case zzh2 => (refine' G_blt (by assumption) ?zza ?zzb ?zzc; (case zza => k_is); (case zzb => exact bb_list); (case zzc => exact ofString_ne (by decide)))); (case zzh1 => rfl); (case zzh3 => exact ofString_beq (by decide)); (case zzh4 => rfl))
  refine TL_cons ?_ rfl
  refine TE_fld hS hM H rfl ?_ (fun _ _ => rfl)
  (refine' TE_name ?zzh1 ?_ ?zzh2 ?zzh3; (case zzh1 => walk_at "m.lk"); (case zzh2 => exact ofString_beq (by decide)); (case zzh3 => exact ofString_beq (by decide)))
  refine ⟨rfl, rfl, ?_⟩
  with_reducible refine TL_nil ?_
  refine TC_listDI H.dict (by rw [dctD_len]; omega) fun r hr => ?_
  have H₁ := H.ext (Ext.refl.upd (o := .lst (((dctD S.keys adr).map (·.1)).map .int)) hr)
  have X₁ : Ext ν (upd ν r (.lst (((dctD S.keys adr).map (·.1)).map .int))) := Ext.refl.upd hr
  have w₁ : (upd ν r (.lst (((dctD S.keys adr).map (·.1)).map .int))) r = some (.lst (S.keys.map fun (k : Nat) => .int (k : Int))) := by rw [upd_same]; simp [dctD]
  obtain ⟨ν₁, e₁⟩ : ∃ ν₁, ν₁ = upd ν r (.lst (((dctD S.keys adr).map (·.1)).map .int)) := ⟨_, rfl⟩
  rw [← e₁] at H₁ w₁ X₁ ⊢
  refine ⟨_, _, Itb_list (ds := S.keys.map fun (k : Nat) => .int (k : Int)) (by rw [w₁]; rfl), by rw [List.length_map]; omega, fun i => (S.keys[i]?).bind fun k => if S.B k = [] then none else some (.int k), fun i hi rc xs hrc => ?_, fun rc hrc => ?_⟩
  · rw [List.length_map] at hi
    obtain ⟨k, hk⟩ : ∃ k, S.keys[i]? = some k := ⟨S.keys[i], by simp [hi]⟩
    have hkm : k ∈ S.keys := List.mem_of_getElem? hk
    have e2 : (S.keys.map fun (k : Nat) => D.int (k : Int)).getD i .none = .int k := by rw [List.getD_eq_getElem?_getD, List.getElem?_map, hk]; rfl
    rw [e2]
    have H₂ := H₁.ext (Ext.refl.upd (o := .lst xs) hrc)
    refine TGl_name rfl ⟨by walk_at "m.sub", ?_⟩
    show TB _ _ _ _ _ _ _
    refine TB_cmp ?_ rfl
    (refine' TE_callB ?zzh1 ?zzh2 ?_ ?zzh3 ?zzh4; (case zzh2 => (refine' G_blt (by assumption) ?zza ?zzb ?zzc; (case zza => k_is); (case zzb => exact bb_len); (case zzc => exact ofString_ne (by decide)))); (case zzh1 => rfl); (case zzh3 => exact ofString_beq (by decide)); (case zzh4 => rfl))
    refine TL_cons ?_ rfl
    refine TE_sub' ?_ rfl
    refine TE_fld hS hM H₂ rfl ?_ (fun _ _ => rfl)
    (refine' TE_name ?zzh1 ?_ ?zzh2 ?zzh3; (case zzh1 => walk_at "m.lk"); (case zzh2 => exact ofString_beq (by decide)); (case zzh3 => exact ofString_beq (by decide)))
    refine ⟨rfl, rfl, ?_⟩
    (refine' TE_name ?zzh1 ?_ ?zzh2 ?zzh3; (case zzh1 => walk_at "m.lk"); (case zzh2 => exact ofString_beq (by decide)); (case zzh3 => exact ofString_beq (by decide)))
    refine T2_itemD (d := .ref (adr k)) H₂.dict (by rw [dctD_at, if_pos hkm]) ?_ rfl
    with_reducible refine TL_nil ?_
    refine TC_lenL (by rw [H₂.lists k hkm]; rfl) (by rw [List.length_map]; have := hz' k; omega) ?_
    with_reducible refine TE_int ?_
    with_reducible refine T2_gt ?_
    with_reducible refine TT_bool ?_
    refine ⟨rfl, ?_⟩
    rw [List.length_map]
    by_cases q : S.B k = []
    · rw [if_neg (by simp [q])]
      show (S.keys[i]?).bind _ = none
      rw [hk]; simp [q]
    · have : 0 < (S.B k).length := List.length_pos_iff.mpr q
      rw [if_pos (by simp; omega)]
      (refine' TE_name ?zzh1 ?_ ?zzh2 ?zzh3; (case zzh1 => walk_at "m.lk"); (case zzh2 => exact ofString_beq (by decide)); (case zzh3 => exact ofString_beq (by decide)))
      refine ⟨rfl, ?_⟩
      show (S.keys[i]?).bind _ = _
      rw [hk]; simp [q]
  · rw [List.length_map]
    have e3 : ((List.range S.keys.length).filterMap fun i => (S.keys[i]?).bind fun k => if S.B k = [] then none else some (D.int k)) = ((S.keys.filter fun k => !(S.B k).isEmpty).map fun (k : Nat) => (k : Int)).map .int := by
      rw [List.map_map]
      exact low_list S.B S.keys
    rw [e3]
    have hlow := low_is hne
    with_reducible refine TL_nil ?_
    refine TC_min (ns := (S.keys.filter fun k => !(S.B k).isEmpty).map fun (k : Nat) => (k : Int)) (by rw [upd_same]; rfl) ?_ fun m hm1 hm2 => ?_
    · intro q
      rw [List.map_eq_nil_iff] at q
      have : S.low ∈ S.keys.filter fun k => !(S.B k).isEmpty := List.mem_filter.mpr ⟨hlow.mem, by simpa using hlow.ne⟩
      rw [q] at this; cases this
    · obtain ⟨k, hk, rfl⟩ := List.mem_map.mp hm1
      have ek : S.low = k := minN_uniq hk fun y hy => by
        have := hm2 _ (List.mem_map.mpr ⟨y, hy, rfl⟩)
        omega
      refine ⟨ν, X₁.trans (Ext.refl.upd hrc), ?_⟩
      rw [← ek]; exact h
theorem m_lowest : IsM C (Str.ofString "lowest") := by (refine' mkM (by assumption) ?zza ?zzb ?zzc ?zzd; (case zza => k_is); (case zzb => k_is); (case zzc => k_is); (case zzd => k_is))
theorem fallen_ok {st : Addr} {fp : List Addr} {S : SV} {p : Nat} (H : StoreAt C ν st fp S) (h1 : 2 ≤ S.base) (h2 : S.base ≤ 16) (hp : p ∈ S.keys) (hne : S.B p ≠ []) (hz : S.keys.length ≤ 400) (hz' : ∀ k, (S.B k).length ≤ 400)
    (h : ∀ ν' fp', Frame ν fp ν' fp' → StoreAt C ν' st fp' (S.fallen p) → Q .none ν') : TM C (n + 4) (Str.ofString "fallen") [.ref st, .int p] ν Q := by
  refine' TM_def (names := [Str.ofString "self", Str.ofString "place"]) ?D rfl ?_
  case D => (refine' mkDefM (by assumption) ?zza1 ?zza2 ?zza3 ?zza4 ?zzb ?zzc ?zzd ?zze ?zzf ?zzg ?zzh ?zzi; (case zza1 => k_is); (case zza2 => k_is); (case zza3 => k_is); (case zza4 => k_is); (case zzb => k_is); (case zzc => k_is); (case zzd => (intro vs hvs; first | (obtain ⟨a, e⟩ := len1 hvs; subst e; rfl) | (obtain ⟨a, b, e⟩ := len2 hvs; subst e; rfl) | (obtain ⟨a, b, c, e⟩ := len3 hvs; subst e; rfl) | (obtain ⟨a, b, c, d, e⟩ := len4 hvs; subst e; rfl))); (case zze => rfl); (case zzf => rfl); (case zzg => rfl); (case zzh => decide); (case zzi => (simp only [List.forall_mem_cons, List.not_mem_nil, false_implies, implies_true, and_true]; first | exact Or.inl rfl | exact Or.inr rfl | exact ⟨by walk_at "m.sto", by walk_at "m.sto"⟩ | exact ⟨by walk_at "m.sto", by walk_at "m.sto", by walk_at "m.sto"⟩ | exact ⟨by walk_at "m.sto", by walk_at "m.sto", by walk_at "m.sto", by walk_at "m.sto"⟩)))
  dsimp only [List.zip, List.zipWith]
  obtain ⟨dd, bk, adr, rfl, H⟩ := H
  have hS := st_ok hK
  have hM := m_init hK
  with_reducible refine TSs_cons ?_
  refine TS_assign ?_ (by walk_at "m.sto") (fun _ => rfl)
  refine TE_sub' ?_ rfl
  refine TE_fld hS hM H rfl ?_ (fun _ _ => rfl)
  (refine' TE_name ?zzh1 ?_ ?zzh2 ?zzh3; (case zzh1 => walk_at "m.lk"); (case zzh2 => exact ofString_beq (by decide)); (case zzh3 => exact ofString_beq (by decide)))
  refine ⟨rfl, rfl, ?_⟩
  (refine' TE_name ?zzh1 ?_ ?zzh2 ?zzh3; (case zzh1 => walk_at "m.lk"); (case zzh2 => exact ofString_beq (by decide)); (case zzh3 => exact ofString_beq (by decide)))
  refine T2_itemD (d := .ref (adr p)) H.dict (by rw [dctD_at, if_pos hp]) ?_ rfl
  with_reducible refine TSs_cons ?_
  have hl := H.lists p hp
  refine TS_setattrM (fields_ok hS (.inr (.inl rfl))) hM ?_ (fun _ => rfl)
  (refine' TE_callB ?zzh1 ?zzh2 ?_ ?zzh3 ?zzh4; (case zzh2 => (refine' G_blt (by assumption) ?zza ?zzb ?zzc; (case zza => k_is); (case zzb => exact bb_min); (case zzc => exact ofString_ne (by decide)))); (case zzh1 => rfl); (case zzh3 => exact ofString_beq (by decide)); (case zzh4 => rfl))
  refine TL_cons ?_ rfl
  refine TE_comp [] (hlc_of (by simp)) (by decide +kernel) (by decide +kernel) rfl (by decide +kernel) ?_ (fun _ _ => rfl)
  (refine' TE_name ?zzh1 ?_ ?zzh2 ?zzh3; (case zzh1 => walk_at "m.lk"); (case zzh2 => exact ofString_beq (by decide)); (case zzh3 => exact ofString_beq (by decide)))
  refine ⟨_, _, Itb_list (by rw [hl]; rfl), by rw [List.length_map]; have := hz' p; omega, fun i => ((S.B p)[i]?).map fun t => .int t.1, fun i hi rc xs hrc => ?_, fun rc hrc => ?_⟩
  · rw [List.length_map] at hi
    obtain ⟨t, ht⟩ : ∃ t, (S.B p)[i]? = some t := ⟨(S.B p)[i], by simp [hi]⟩
    have e2 : ((S.B p).map thD).getD i .none = thD t := by rw [List.getD_eq_getElem?_getD, List.getElem?_map, ht]; rfl
    rw [e2]
    refine TGl_name rfl ⟨by walk_at "m.sub", ?_⟩
    refine ⟨rfl, ?_⟩
    rw [if_pos rfl]
    refine TE_sub' ?_ rfl
    (refine' TE_name ?zzh1 ?_ ?zzh2 ?zzh3; (case zzh1 => walk_at "m.lk"); (case zzh2 => exact ofString_beq (by decide)); (case zzh3 => exact ofString_beq (by decide)))
    with_reducible refine TE_int ?_
    unfold thD
    refine T2_itemT (k := 0) (by decide) (by decide) rfl ?_ rfl
    exact ⟨rfl, by show ((S.B p)[i]?).map _ = _; rw [ht]; rfl⟩
  · rw [List.length_map, range_filterMap]
    have ev : (S.B p).map (fun t : Thing => D.int t.1) = (((S.B p).map (·.1)).map fun (k : Nat) => (k : Int)).map .int := by simp
    rw [ev]
    with_reducible refine TL_nil ?_
    refine TC_min (ns := ((S.B p).map (·.1)).map fun (k : Nat) => (k : Int)) (by rw [upd_same]; rfl) (by simpa using hne) fun m hm1 hm2 => ?_
    obtain ⟨m, hm, rfl⟩ := List.mem_map.mp hm1
    have em : minN ((S.B p).map (·.1)) = m := minN_uniq hm fun y hy => by
      have := hm2 _ (List.mem_map.mpr ⟨y, hy, rfl⟩)
      omega
    have X₁ : Ext ν (upd ν rc (.lst ((((S.B p).map (·.1)).map fun (k : Nat) => (k : Int)).map .int))) := Ext.refl.upd hrc
    have F₁ : Frame ν (fpOf dd bk adr S) (upd ν rc (.lst ((((S.B p).map (·.1)).map fun (k : Nat) => (k : Int)).map .int))) (fpOf dd bk adr S) := Frame.ofExt X₁
    obtain ⟨ν₁, e₁⟩ : ∃ ν₁, ν₁ = upd ν rc (.lst ((((S.B p).map (·.1)).map fun (k : Nat) => (k : Int)).map .int)) := ⟨_, rfl⟩
    rw [← e₁] at X₁ F₁ ⊢
    have H₁ := H.ext X₁
    (refine' TE_name ?zzh1 ?_ ?zzh2 ?zzh3; (case zzh1 => walk_at "m.lk"); (case zzh2 => exact ofString_beq (by decide)); (case zzh3 => exact ofString_beq (by decide)))
    obtain ⟨T, hT, hst⟩ := H₁.inst
    refine ⟨st, T, dd, _, rfl, hT, hst, H₁.ns, by simp [fldD], ?_⟩
    obtain ⟨H₂, F₂⟩ := H₁.field (S' := { S with last := m }) (fs := put (fldD S bk) (Str.ofString "last") (.int m)) (by simp [fldD, put, ofString_ne]) rfl rfl
    obtain ⟨ν₂, e₂⟩ : ∃ ν₂, ν₂ = upd ν₁ dd (.ns (put (fldD S bk) (Str.ofString "last") (.int m))) := ⟨_, rfl⟩
    rw [← e₂] at H₂ F₂ ⊢
    with_reducible refine TSs_cons ?_
    refine TS_setitem ?_ (fun _ => rfl)
    refine TE_list ?_
    with_reducible refine TL_nil ?_
    refine ⟨by simp, fun r hr => ?_⟩
    have H₃ := H₂.ext (Ext.refl.upd (o := .lst []) hr)
    refine TE_fld hS hM H₃ rfl ?_ (fun _ _ => rfl)
    (refine' TE_name ?zzh1 ?_ ?zzh2 ?zzh3; (case zzh1 => walk_at "m.lk"); (case zzh2 => exact ofString_beq (by decide)); (case zzh3 => exact ofString_beq (by decide)))
    refine ⟨rfl, rfl, ?_⟩
    (refine' TE_name ?zzh1 ?_ ?zzh2 ?zzh3; (case zzh1 => walk_at "m.lk"); (case zzh2 => exact ofString_beq (by decide)); (case zzh3 => exact ofString_beq (by decide)))
    refine TX_dI H₃.dict (by rw [dctD_len]; show S.keys.length ≤ _; omega) ?_
    obtain ⟨H₄, F₄, w₄, o₄⟩ := H₂.setKey hp hr
    have es : ({ ({ S with last := m } : SV) with B := upB S.B p [] } : SV) = S.start p := by unfold SV.start; rw [em]
    change StoreAs _ _ _ _ _ _ { ({ S with last := m } : SV) with B := upB S.B p [] } at H₄
    change Frame _ _ _ (fpOf _ _ _ { ({ S with last := m } : SV) with B := upB S.B p [] }) at F₄
    change _ ∉ fpOf _ _ _ { ({ S with last := m } : SV) with B := upB S.B p [] } at o₄
    rw [es] at H₄ F₄ o₄
    have F₅ := (F₁.trans F₂).trans F₄
    have H₅ : StoreAt C _ st _ (S.start p) := ⟨dd, bk, _, rfl, H₄⟩
    change _ = some (AObj.lst ((S.B p).map thD)) at w₄
    obtain ⟨ν₅, e₅⟩ : ∃ ν₅, ν₅ = upd (upd ν₂ r (.lst [])) bk (.dI (setAt (dctD S.keys adr) (p : Int) (.ref r))) := ⟨_, rfl⟩
    change StoreAt C (upd (upd ν₂ r (.lst [])) bk (.dI (setAt (dctD S.keys adr) (p : Int) (.ref r)))) _ _ _ at H₅
    change Frame _ _ (upd (upd ν₂ r (.lst [])) bk (.dI (setAt (dctD S.keys adr) (p : Int) (.ref r)))) _ at F₅
    change upd (upd ν₂ r (.lst [])) bk (.dI (setAt (dctD S.keys adr) (p : Int) (.ref r))) _ = _ at w₄
    show TSs _ _ _ _ _ (upd (upd ν₂ r (.lst [])) bk (.dI (setAt (dctD S.keys adr) (p : Int) (.ref r)))) _
    rw [← e₅] at H₅ F₅ w₄ ⊢
    generalize fpOf dd bk (fun j => if j = p then r else adr j) (S.start p) = fp₅ at H₅ F₅ o₄
    obtain ⟨rw, hrw⟩ : ∃ rw, rw = adr p := ⟨_, rfl⟩
    rw [← hrw] at w₄ o₄ ⊢
    generalize fpOf dd bk adr S = fp₀ at F₅ h
    clear H H₁ H₂ H₃ H₄ F₁ F₂ F₄ X₁
    with_reducible refine TSs_cons ?_
    refine TS_for ?_ (fun _ _ => rfl)
    (refine' TE_name ?zzh1 ?_ ?zzh2 ?zzh3; (case zzh1 => walk_at "m.lk"); (case zzh2 => exact ofString_beq (by decide)); (case zzh3 => exact ofString_beq (by decide)))
    refine TF_sub (l₀ := [(Str.ofString "self", .ref st), (Str.ofString "place", .int p), (Str.ofString "row", .ref rw)]) (by walk_at "m.sub") ?_
    refine TF_list (ds := (S.B p).map thD) (by rw [w₄]; rfl) (F1 C ν st rw fp₀ S p) ⟨fp₅, F₅, H₅, w₄, o₄, rfl⟩ ?_ ?_ ?_
    · rintro i l' ν' ⟨_, _, _, q, _, _⟩; rw [q]; rfl
    · rintro i l' ν' d hd ⟨fp', F', H', w', o', rfl⟩
      obtain ⟨t, ht, rfl⟩ : ∃ t, (S.B p)[i]? = some t ∧ d = thD t := by
        rw [List.getElem?_map] at hd
        cases q : (S.B p)[i]? with
        | none => rw [q] at hd; cases hd
        | some t => rw [q] at hd; exact ⟨t, rfl, by simpa using hd.symm⟩
      have hi : i < (S.B p).length := by
        rcases Nat.lt_or_ge i (S.B p).length with q | q
        · exact q
        · rw [List.getElem?_eq_none q] at ht; cases ht
      have FE := fell (S := S.start p) (p := p) i (S.B p) (by omega)
      have et : ((S.B p).take (i + 1)).foldl (SV.fstep p) (S.start p) = SV.fstep p (((S.B p).take i).foldl (SV.fstep p) (S.start p)) t := by
        rw [List.take_add_one, ht, List.foldl_append]; rfl
      have hzk : ∀ k, ((((S.B p).take i).foldl (SV.fstep p) (S.start p)).B k).length ≤ 1000 := fun k => by
        have h9 := hz' k
        have h8 := hz' p
        have hS0 : ((S.start p).B k).length ≤ (S.B k).length := by
          show (upB S.B p [] k).length ≤ _
          by_cases q : k = p
          · rw [q, upB_same]; simp
          · rw [upB_other q]; omega
        have hf : ∀ f : Thing → Bool, (((S.B p).take i).filter f).length ≤ i := fun f => by
          have h7 : (((S.B p).take i).filter f).length ≤ ((S.B p).take i).length := List.length_filter_le _ _
          rw [List.length_take] at h7; omega
        by_cases q : k = p
        · rw [q, FE.same, List.length_append]
          have := hf fun t => !decide (partN (S.start p).base t.1 (S.start p).last < p)
          rw [q] at hS0; omega
        · rw [FE.other k q, List.length_append, List.length_map]
          have := hf fun t => decide (partN (S.start p).base t.1 (S.start p).last < p) && decide (partN (S.start p).base t.1 (S.start p).last = k)
          omega
      have hkk : (((S.B p).take i).foldl (SV.fstep p) (S.start p)).keys.length ≤ 1000 := by
        have := FE.len
        have h7 : ((S.B p).take i).length ≤ i := by rw [List.length_take]; omega
        have h8 := hz' p
        change _ ≤ S.keys.length + _ at this
        omega
      have hpk : p ∈ (((S.B p).take i).foldl (SV.fstep p) (S.start p)).keys := (FE.keys p).mpr (.inl hp)
      have hb' : (((S.B p).take i).foldl (SV.fstep p) (S.start p)).base = S.base := FE.base
      generalize ((S.B p).take i).foldl (SV.fstep p) (S.start p) = S' at H' hzk hkk hpk hb' et
      clear FE F₅ H₅ w₄ o₄
      obtain ⟨dd', bk', adr', rfl, H'⟩ := H'
      refine TG_name (by walk_at "m.sto") ?_
      with_reducible refine TSs_cons ?_
      with_reducible refine TS_if ?_
      refine TB_cmp ?_ rfl
      (refine' TE_callN ?zzh1 ?zzh2 ?_ ?zzh3 ?zzh4; (case zzh2 => (refine' mkFn (by assumption) ?zza ?zzb; (case zza => k_is); (case zzb => k_is))); (case zzh1 => rfl); (case zzh3 => exact ofString_beq (by decide)); (case zzh4 => rfl))
      refine TL_cons ?_ rfl
      refine TE_sub' ?_ rfl
      (refine' TE_name ?zzh1 ?_ ?zzh2 ?zzh3; (case zzh1 => walk_at "m.lk"); (case zzh2 => exact ofString_beq (by decide)); (case zzh3 => exact ofString_beq (by decide)))
      with_reducible refine TE_int ?_
      unfold thD
      refine T2_itemT (k := 0) (by decide) (by decide) rfl ?_ rfl
      refine TL_cons ?_ rfl
      refine TE_fld hS hM H' rfl ?_ (fun _ _ => rfl)
      (refine' TE_name ?zzh1 ?_ ?zzh2 ?zzh3; (case zzh1 => walk_at "m.lk"); (case zzh2 => exact ofString_beq (by decide)); (case zzh3 => exact ofString_beq (by decide)))
      refine ⟨rfl, rfl, ?_⟩
      refine TL_cons ?_ rfl
      refine TE_fld hS hM H' rfl ?_ (fun _ _ => rfl)
      (refine' TE_name ?zzh1 ?_ ?zzh2 ?zzh3; (case zzh1 => walk_at "m.lk"); (case zzh2 => exact ofString_beq (by decide)); (case zzh3 => exact ofString_beq (by decide)))
      refine ⟨rfl, rfl, ?_⟩
      with_reducible refine TL_nil ?_
      refine parting_ok hK (by omega) (by omega) ?_
      (refine' TE_name ?zzh1 ?_ ?zzh2 ?zzh3; (case zzh1 => walk_at "m.lk"); (case zzh2 => exact ofString_beq (by decide)); (case zzh3 => exact ofString_beq (by decide)))
      with_reducible refine T2_lt ?_
      with_reducible refine TT_bool ?_
      refine ite_dec (fun hq => ?_) fun hq => ?_
      · have hq' : partN S'.base t.1 S'.last < p := by omega
        have ef : S'.fstep p t = SV.laid { S' with moves := S'.moves + 1 } (partN S'.base t.1 S'.last) (bump t) := if_pos hq'
        with_reducible refine TSs_cons ?_
        refine TS_setattrM (fields_ok hS (.inr (.inr (.inr (.inl rfl))))) hM ?_ (fun _ => rfl)
        with_reducible refine TE_bin ?_
        refine TE_fld hS hM H' rfl ?_ (fun _ _ => rfl)
        (refine' TE_name ?zzh1 ?_ ?zzh2 ?zzh3; (case zzh1 => walk_at "m.lk"); (case zzh2 => exact ofString_beq (by decide)); (case zzh3 => exact ofString_beq (by decide)))
        refine ⟨rfl, rfl, ?_⟩
        with_reducible refine TE_int ?_
        with_reducible refine T2_add ?_
        (refine' TE_name ?zzh1 ?_ ?zzh2 ?zzh3; (case zzh1 => walk_at "m.lk"); (case zzh2 => exact ofString_beq (by decide)); (case zzh3 => exact ofString_beq (by decide)))
        obtain ⟨T, hT, hst⟩ := H'.inst
        refine ⟨st, T, dd', _, rfl, hT, hst, H'.ns, by simp [fldD], ?_⟩
        obtain ⟨H₂, F₂⟩ := H'.field (S' := { S' with moves := S'.moves + 1 }) (fs := put (fldD S' bk') (Str.ofString "moves") (.int (S'.moves + 1))) (by simp [fldD, put, ofString_ne]) rfl rfl
        obtain ⟨ν₂, e₂⟩ : ∃ ν₂, ν₂ = upd ν' dd' (.ns (put (fldD S' bk') (Str.ofString "moves") (.int (S'.moves + 1)))) := ⟨_, rfl⟩
        rw [← e₂] at H₂ F₂ ⊢
        with_reducible refine TSs_cons ?_
        refine TS_expr ?_ (fun _ => rfl)
        refine TE_methM hS (m_laid hK) ?_ (fun _ _ => rfl) rfl (by decide) rfl
        (refine' TE_name ?zzh1 ?_ ?zzh2 ?zzh3; (case zzh1 => walk_at "m.lk"); (case zzh2 => exact ofString_beq (by decide)); (case zzh3 => exact ofString_beq (by decide)))
        obtain ⟨T, hT, hst⟩ := H₂.inst
        refine ⟨st, T, dd', _, rfl, hT, hst, H₂.ns, by walk_at "m.lkn", ?_⟩
        refine TL_cons ?_ rfl
        refine TE_tuple ?_
        refine TL_cons ?_ rfl
        refine TE_sub' ?_ rfl
        (refine' TE_name ?zzh1 ?_ ?zzh2 ?zzh3; (case zzh1 => walk_at "m.lk"); (case zzh2 => exact ofString_beq (by decide)); (case zzh3 => exact ofString_beq (by decide)))
        with_reducible refine TE_int ?_
        refine T2_itemT (k := 0) (by decide) (by decide) rfl ?_ rfl
        refine TL_cons ?_ rfl
        refine TE_sub' ?_ rfl
        (refine' TE_name ?zzh1 ?_ ?zzh2 ?zzh3; (case zzh1 => walk_at "m.lk"); (case zzh2 => exact ofString_beq (by decide)); (case zzh3 => exact ofString_beq (by decide)))
        with_reducible refine TE_int ?_
        refine T2_itemT (k := 1) (by decide) (by decide) rfl ?_ rfl
        refine TL_cons ?_ rfl
        with_reducible refine TE_bin ?_
        refine TE_sub' ?_ rfl
        (refine' TE_name ?zzh1 ?_ ?zzh2 ?zzh3; (case zzh1 => walk_at "m.lk"); (case zzh2 => exact ofString_beq (by decide)); (case zzh3 => exact ofString_beq (by decide)))
        with_reducible refine TE_int ?_
        refine T2_itemT (k := 2) (by decide) (by decide) rfl ?_ rfl
        with_reducible refine TE_int ?_
        with_reducible refine T2_add ?_
        with_reducible refine TL_nil ?_
        refine ⟨by simp, ?_⟩
        with_reducible refine TL_nil ?_
        refine laid_ok (S := { S' with moves := S'.moves + 1 }) (x := t.1) (nm := t.2.1) (c := t.2.2 + 1) hK ⟨dd', bk', adr', rfl, H₂⟩ (by show 2 ≤ S'.base; omega) (by show S'.base ≤ 16; omega) hkk hzk fun ν₃ fp₃ F₃ H₃ => ?_
        with_reducible refine TSs_nil ?_
        with_reducible refine TSs_nil ?_
        have F₄ := F'.trans (F₂.trans F₃)
        obtain ⟨w₃, o₃⟩ := (F₂.trans F₃).out o' w'
        exact ⟨_, by walk_at "m.sub", fp₃, F₄, (by rw [et, ef]; exact H₃), w₃, o₃, rfl⟩
      · have hq' : ¬ partN S'.base t.1 S'.last < p := by omega
        have ef : S'.fstep p t = { S' with B := upB S'.B p (S'.B p ++ [t]) } := if_neg hq'
        with_reducible refine TSs_cons ?_
        refine TS_expr ?_ (fun _ => rfl)
        refine TE_methL LM_append ?_ (fun _ _ => rfl) rfl (by decide) rfl
        refine TE_sub' ?_ rfl
        refine TE_fld hS hM H' rfl ?_ (fun _ _ => rfl)
        (refine' TE_name ?zzh1 ?_ ?zzh2 ?zzh3; (case zzh1 => walk_at "m.lk"); (case zzh2 => exact ofString_beq (by decide)); (case zzh3 => exact ofString_beq (by decide)))
        refine ⟨rfl, rfl, ?_⟩
        (refine' TE_name ?zzh1 ?_ ?zzh2 ?zzh3; (case zzh1 => walk_at "m.lk"); (case zzh2 => exact ofString_beq (by decide)); (case zzh3 => exact ofString_beq (by decide)))
        refine T2_itemD (d := .ref (adr' p)) H'.dict (by rw [dctD_at, if_pos hpk]) ?_ rfl
        have hl' := H'.lists p hpk
        refine ⟨adr' p, by simp only [isL, hl'], ?_⟩
        refine TL_cons ?_ rfl
        (refine' TE_name ?zzh1 ?_ ?zzh2 ?zzh3; (case zzh1 => walk_at "m.lk"); (case zzh2 => exact ofString_beq (by decide)); (case zzh3 => exact ofString_beq (by decide)))
        with_reducible refine TL_nil ?_
        refine TC_append hl' (by rw [List.length_map]; have := hzk p; omega) ?_
        obtain ⟨H₂, F₂⟩ := H'.setList hpk (S'.B p ++ [t])
        rw [List.map_append] at H₂ F₂
        obtain ⟨w₃, o₃⟩ := F₂.out o' w'
        with_reducible refine TSs_nil ?_
        with_reducible refine TSs_nil ?_
        exact ⟨_, by walk_at "m.sub", _, F'.trans F₂, (by rw [et, ef]; exact ⟨dd', bk', adr', rfl, H₂⟩), w₃, o₃, rfl⟩
    · rintro l' ν' ⟨fp', F', H', w', o', rfl⟩
      rw [List.length_map, List.take_length] at H'
      with_reducible refine TSs_nil ?_
      exact h _ _ F' H'
theorem m_fallen : IsM C (Str.ofString "fallen") := by (refine' mkM (by assumption) ?zza ?zzb ?zzc ?zzd; (case zza => k_is); (case zzb => k_is); (case zzc => k_is); (case zzd => k_is))
theorem take_ok {st : Addr} {fp : List Addr} {S : SV} (H : StoreAt C ν st fp S) (h1 : 2 ≤ S.base) (h2 : S.base ≤ 16) (hm : S.many ≠ 0) (hne : ∃ k ∈ S.keys, S.B k ≠ []) (hf : S.fall.B 0 ≠ []) (hz : S.keys.length ≤ 400) (hz' : ∀ k, (S.B k).length ≤ 400)
    (h : ∀ ν' fp' t rest, S.fall.B 0 = t :: rest → Frame ν fp ν' fp' → StoreAt C ν' st fp' S.take → Q (thD t) ν') : TM C (n + 5) (Str.ofString "take") [.ref st] ν Q := by
  refine' TM_def (names := [Str.ofString "self"]) ?D rfl ?_
  case D => (refine' mkDefM (by assumption) ?zza1 ?zza2 ?zza3 ?zza4 ?zzb ?zzc ?zzd ?zze ?zzf ?zzg ?zzh ?zzi; (case zza1 => k_is); (case zza2 => k_is); (case zza3 => k_is); (case zza4 => k_is); (case zzb => k_is); (case zzc => k_is); (case zzd => (intro vs hvs; first | (obtain ⟨a, e⟩ := len1 hvs; subst e; rfl) | (obtain ⟨a, b, e⟩ := len2 hvs; subst e; rfl) | (obtain ⟨a, b, c, e⟩ := len3 hvs; subst e; rfl) | (obtain ⟨a, b, c, d, e⟩ := len4 hvs; subst e; rfl))); (case zze => rfl); (case zzf => rfl); (case zzg => rfl); (case zzh => decide); (case zzi => (simp only [List.forall_mem_cons, List.not_mem_nil, false_implies, implies_true, and_true]; first | exact Or.inl rfl | exact Or.inr rfl | exact ⟨by walk_at "m.sto", by walk_at "m.sto"⟩ | exact ⟨by walk_at "m.sto", by walk_at "m.sto", by walk_at "m.sto"⟩ | exact ⟨by walk_at "m.sto", by walk_at "m.sto", by walk_at "m.sto", by walk_at "m.sto"⟩)))
  dsimp only [List.zip, List.zipWith]
  have hS := st_ok hK
  have hM := m_init hK
  have hlow := low_is hne
  with_reducible refine TSs_cons ?_
  refine TS_assign ?_ (by walk_at "m.sto") (fun _ => rfl)
  refine TE_methM hS (m_lowest hK) ?_ (fun _ _ => rfl) rfl (by decide) rfl
  (refine' TE_name ?zzh1 ?_ ?zzh2 ?zzh3; (case zzh1 => walk_at "m.lk"); (case zzh2 => exact ofString_beq (by decide)); (case zzh3 => exact ofString_beq (by decide)))
  obtain ⟨T, dd, hT, hst, bk, hns⟩ := H.it
  refine ⟨st, T, dd, _, rfl, hT, hst, hns, by walk_at "m.lkn", ?_⟩
  with_reducible refine TL_nil ?_
  refine low_ok hK H hm hne (by omega) (fun k => Nat.le_trans (hz' k) (by omega)) ?_
  refine TSs_mid (fun l' ν' => ∃ fp', Frame ν fp ν' fp' ∧ StoreAt C ν' st fp' S.fall ∧ l' = [(Str.ofString "self", .ref st)]) ?_ ?_
  · with_reducible refine TS_if ?_
    refine TB_cmp ?_ rfl
    (refine' TE_name ?zzh1 ?_ ?zzh2 ?zzh3; (case zzh1 => walk_at "m.lk"); (case zzh2 => exact ofString_beq (by decide)); (case zzh3 => exact ofString_beq (by decide)))
    with_reducible refine TE_int ?_
    with_reducible refine T2_gt ?_
    with_reducible refine TT_bool ?_
    refine ite_dec (fun hq => ?_) fun hq => ?_
    · have ef : S.fall = S.fallen S.low := if_pos (by omega)
      rw [ef]
      with_reducible refine TSs_cons ?_
      refine TS_expr ?_ (fun _ => rfl)
      refine TE_methM hS (m_fallen hK) ?_ (fun _ _ => rfl) rfl (by decide) rfl
      (refine' TE_name ?zzh1 ?_ ?zzh2 ?zzh3; (case zzh1 => walk_at "m.lk"); (case zzh2 => exact ofString_beq (by decide)); (case zzh3 => exact ofString_beq (by decide)))
      refine ⟨st, T, dd, _, rfl, hT, hst, hns, by walk_at "m.lkn", ?_⟩
      refine TL_cons ?_ rfl
      (refine' TE_name ?zzh1 ?_ ?zzh2 ?zzh3; (case zzh1 => walk_at "m.lk"); (case zzh2 => exact ofString_beq (by decide)); (case zzh3 => exact ofString_beq (by decide)))
      with_reducible refine TL_nil ?_
      refine fallen_ok hK H h1 h2 hlow.mem hlow.ne hz hz' fun ν₁ fp₁ F₁ H₁ => ?_
      with_reducible refine TSs_nil ?_
      exact ⟨_, by walk_at "m.sub", fp₁, F₁, H₁, rfl⟩
    · have ef : S.fall = S := if_neg (by omega)
      rw [ef]
      with_reducible refine TSs_nil ?_
      exact ⟨_, by walk_at "m.sub", fp, Frame.refl, H, rfl⟩
  · rintro l₁ ν₁ ⟨fp₁, F₁, H₁, rfl⟩
    have hmm : S.fall.many = S.many := fall_many S
    cases q : S.fall.B 0 with
    | nil => exact absurd q hf
    | cons t rest =>
    have hzt : rest.length ≤ 10000 := by
      have := fall_len (S := S) (N := 400) hz' 0
      rw [q, List.length_cons] at this; omega
    have h := fun ν' fp' => h ν' fp' t rest q
    unfold SV.take at h
    have ep : S.fall.pop = { S.fall with many := S.fall.many - 1, B := upB S.fall.B 0 rest } := by unfold SV.pop; rw [q]; rfl
    rw [ep] at h
    generalize S.fall = S₁ at H₁ hf hmm q h
    clear H hst hns hT
    obtain ⟨dd₁, bk₁, adr₁, rfl, H₁⟩ := H₁
    with_reducible refine TSs_cons ?_
    refine TS_setattrM (fields_ok hS (.inr (.inr (.inl rfl)))) hM ?_ (fun _ => rfl)
    with_reducible refine TE_bin ?_
    refine TE_fld hS hM H₁ rfl ?_ (fun _ _ => rfl)
    (refine' TE_name ?zzh1 ?_ ?zzh2 ?zzh3; (case zzh1 => walk_at "m.lk"); (case zzh2 => exact ofString_beq (by decide)); (case zzh3 => exact ofString_beq (by decide)))
    refine ⟨rfl, rfl, ?_⟩
    with_reducible refine TE_int ?_
    with_reducible refine T2_sub ?_
    (refine' TE_name ?zzh1 ?_ ?zzh2 ?zzh3; (case zzh1 => walk_at "m.lk"); (case zzh2 => exact ofString_beq (by decide)); (case zzh3 => exact ofString_beq (by decide)))
    obtain ⟨T, hT, hst⟩ := H₁.inst
    refine ⟨st, T, dd₁, _, rfl, hT, hst, H₁.ns, by simp [fldD], ?_⟩
    have ei : ((S₁.many : Int) - 1) = ((S₁.many - 1 : Nat) : Int) := by omega
    rw [ei]
    obtain ⟨H₂, F₂⟩ := H₁.field (S' := { S₁ with many := S₁.many - 1 }) (fs := put (fldD S₁ bk₁) (Str.ofString "many") (.int ((S₁.many - 1 : Nat) : Int))) (by simp [fldD, put, ofString_ne]) rfl rfl
    obtain ⟨ν₂, e₂⟩ : ∃ ν₂, ν₂ = upd ν₁ dd₁ (.ns (put (fldD S₁ bk₁) (Str.ofString "many") (.int ((S₁.many - 1 : Nat) : Int)))) := ⟨_, rfl⟩
    rw [← e₂] at H₂ F₂ ⊢
    have h0 : 0 ∈ S₁.keys := Classical.byContradiction fun z => hf (H₁.empt 0 z)
    with_reducible refine TSs_cons ?_
    with_reducible refine TS_ret ?_
    refine TE_methL LM_pop ?_ (fun _ _ => rfl) rfl (by decide) rfl
    refine TE_sub' ?_ rfl
    refine TE_fld hS hM H₂ rfl ?_ (fun _ _ => rfl)
    (refine' TE_name ?zzh1 ?_ ?zzh2 ?zzh3; (case zzh1 => walk_at "m.lk"); (case zzh2 => exact ofString_beq (by decide)); (case zzh3 => exact ofString_beq (by decide)))
    refine ⟨rfl, rfl, ?_⟩
    with_reducible refine TE_int ?_
    refine T2_itemD (d := .ref (adr₁ 0)) (k := ((0 : Nat) : Int)) H₂.dict (by rw [dctD_at]; exact if_pos h0) ?_ rfl
    have hl := H₂.lists 0 h0
    change _ = some (AObj.lst ((S₁.B 0).map thD)) at hl
    rw [q, List.map_cons] at hl
    refine ⟨adr₁ 0, by simp only [isL, hl], ?_⟩
    refine TL_cons ?_ rfl
    with_reducible refine TE_int ?_
    with_reducible refine TL_nil ?_
    refine TC_pop0 hl (by rw [List.length_map]; omega) ?_
    obtain ⟨H₃, F₃⟩ := H₂.setList h0 rest
    exact h _ _ (F₁.trans (F₂.trans F₃)) ⟨dd₁, bk₁, adr₁, rfl, H₃⟩
theorem m_take : IsM C (Str.ofString "take") := by (refine' mkM (by assumption) ?zza ?zzb ?zzc ?zzd; (case zza => k_is); (case zzb => k_is); (case zzc => k_is); (case zzd => k_is))
theorem least_ok {st : Addr} {fp : List Addr} {S : SV} (H : StoreAt C ν st fp S) (hm : S.many ≠ 0) (hne : ∃ k ∈ S.keys, S.B k ≠ []) (hz : S.keys.length ≤ 1000) (hz' : ∀ k, (S.B k).length ≤ 1000)
    (h : ∀ (A : List Thing) (t : Thing) (R : List Thing), S.B S.low = A ++ t :: R → (∀ a ∈ A, t.1 < a.1) → (∀ a ∈ R, t.1 ≤ a.1) → Q (.tup [.int t.1, .str t.2.1]) ν) : TM C (n + 2) (Str.ofString "least") [.ref st] ν Q := by
  refine' TM_def (names := [Str.ofString "self"]) ?D rfl ?_
  case D => (refine' mkDefM (by assumption) ?zza1 ?zza2 ?zza3 ?zza4 ?zzb ?zzc ?zzd ?zze ?zzf ?zzg ?zzh ?zzi; (case zza1 => k_is); (case zza2 => k_is); (case zza3 => k_is); (case zza4 => k_is); (case zzb => k_is); (case zzc => k_is); (case zzd => (intro vs hvs; first | (obtain ⟨a, e⟩ := len1 hvs; subst e; rfl) | (obtain ⟨a, b, e⟩ := len2 hvs; subst e; rfl) | (obtain ⟨a, b, c, e⟩ := len3 hvs; subst e; rfl) | (obtain ⟨a, b, c, d, e⟩ := len4 hvs; subst e; rfl))); (case zze => rfl); (case zzf => rfl); (case zzg => rfl); (case zzh => decide); (case zzi => (simp only [List.forall_mem_cons, List.not_mem_nil, false_implies, implies_true, and_true]; first | exact Or.inl rfl | exact Or.inr rfl | exact ⟨by walk_at "m.sto", by walk_at "m.sto"⟩ | exact ⟨by walk_at "m.sto", by walk_at "m.sto", by walk_at "m.sto"⟩ | exact ⟨by walk_at "m.sto", by walk_at "m.sto", by walk_at "m.sto", by walk_at "m.sto"⟩)))
  dsimp only [List.zip, List.zipWith]
  have hS := st_ok hK
  have hM := m_init hK
  have hlow := low_is hne
  obtain ⟨dd, bk, adr, rfl, H⟩ := H
  with_reducible refine TSs_cons ?_
  refine TS_assign ?_ (by walk_at "m.sto") (fun _ => rfl)
  refine TE_sub' ?_ rfl
  refine TE_fld hS hM H rfl ?_ (fun _ _ => rfl)
  (refine' TE_name ?zzh1 ?_ ?zzh2 ?zzh3; (case zzh1 => walk_at "m.lk"); (case zzh2 => exact ofString_beq (by decide)); (case zzh3 => exact ofString_beq (by decide)))
  refine ⟨rfl, rfl, ?_⟩
  refine TE_methM hS (m_lowest hK) ?_ (fun _ _ => rfl) rfl (by decide) rfl
  (refine' TE_name ?zzh1 ?_ ?zzh2 ?zzh3; (case zzh1 => walk_at "m.lk"); (case zzh2 => exact ofString_beq (by decide)); (case zzh3 => exact ofString_beq (by decide)))
  obtain ⟨T, hT, hst⟩ := H.inst
  refine ⟨st, T, dd, _, rfl, hT, hst, H.ns, by walk_at "m.lkn", ?_⟩
  with_reducible refine TL_nil ?_
  refine low_ok hK ⟨dd, bk, adr, rfl, H⟩ hm hne hz hz' ?_
  refine T2_itemD (d := .ref (adr S.low)) H.dict (by rw [dctD_at, if_pos hlow.mem]) ?_ rfl
  have hl := H.lists _ hlow.mem
  have hnl := hlow.ne
  have hzl := hz' S.low
  generalize S.B S.low = B at hl hnl hzl h
  generalize adr S.low = rw at hl
  with_reducible refine TSs_cons ?_
  refine TS_assign ?_ (by walk_at "m.sto") (fun _ => rfl)
  refine TE_sub' ?_ rfl
  (refine' TE_name ?zzh1 ?_ ?zzh2 ?zzh3; (case zzh1 => walk_at "m.lk"); (case zzh2 => exact ofString_beq (by decide)); (case zzh3 => exact ofString_beq (by decide)))
  with_reducible refine TE_int ?_
  cases B with
  | nil => exact absurd rfl hnl
  | cons t₀ B₀ =>
  refine T2_itemL (ds := (t₀ :: B₀).map thD) (d := thD t₀) (by rw [hl]; rfl) (by omega) (by omega) rfl ?_ rfl
  with_reducible refine TSs_cons ?_
  refine TS_for ?_ (fun _ _ => rfl)
  (refine' TE_name ?zzh1 ?_ ?zzh2 ?zzh3; (case zzh1 => walk_at "m.lk"); (case zzh2 => exact ofString_beq (by decide)); (case zzh3 => exact ofString_beq (by decide)))
  refine TF_list (ds := (t₀ :: B₀).map thD) (by rw [hl]; rfl) (fun i l' ν' => ν' = ν ∧ ∃ t, l' = [(Str.ofString "self", .ref st), (Str.ofString "row", .ref rw), (Str.ofString "found", thD t)] ∧ (i = 0 ∧ t = t₀ ∨ ∃ A R, (t₀ :: B₀).take i = A ++ t :: R ∧ (∀ a ∈ A, t.1 < a.1) ∧ (∀ a ∈ R, t.1 ≤ a.1))) ⟨rfl, t₀, rfl, .inl ⟨rfl, rfl⟩⟩ ?_ ?_ ?_
  · rintro i l' ν' ⟨rfl, _⟩; rw [hl]; rfl
  · rintro i l' ν' d hd ⟨rfl, t, rfl, hI⟩
    obtain ⟨u, hu, rfl⟩ : ∃ u, (t₀ :: B₀)[i]? = some u ∧ d = thD u := by
      rw [List.getElem?_map] at hd
      cases q : (t₀ :: B₀)[i]? with
      | none => rw [q] at hd; cases hd
      | some u => rw [q] at hd; exact ⟨u, rfl, by simpa using hd.symm⟩
    have et : (t₀ :: B₀).take (i + 1) = (t₀ :: B₀).take i ++ [u] := by rw [List.take_add_one, hu]; rfl
    refine TG_name (by walk_at "m.sto") ?_
    with_reducible refine TSs_cons ?_
    with_reducible refine TS_if ?_
    refine TB_cmp ?_ rfl
    refine TE_sub' ?_ rfl
    (refine' TE_name ?zzh1 ?_ ?zzh2 ?zzh3; (case zzh1 => walk_at "m.lk"); (case zzh2 => exact ofString_beq (by decide)); (case zzh3 => exact ofString_beq (by decide)))
    with_reducible refine TE_int ?_
    unfold thD
    refine T2_itemT (k := 0) (by decide) (by decide) rfl ?_ rfl
    refine TE_sub' ?_ rfl
    (refine' TE_name ?zzh1 ?_ ?zzh2 ?zzh3; (case zzh1 => walk_at "m.lk"); (case zzh2 => exact ofString_beq (by decide)); (case zzh3 => exact ofString_beq (by decide)))
    with_reducible refine TE_int ?_
    refine T2_itemT (k := 0) (by decide) (by decide) rfl ?_ rfl
    with_reducible refine T2_lt ?_
    with_reducible refine TT_bool ?_
    refine ite_dec (fun hq => ?_) fun hq => ?_
    · with_reducible refine TSs_cons ?_
      refine TS_assign ?_ (by walk_at "m.sto") (fun _ => rfl)
      (refine' TE_name ?zzh1 ?_ ?zzh2 ?zzh3; (case zzh1 => walk_at "m.lk"); (case zzh2 => exact ofString_beq (by decide)); (case zzh3 => exact ofString_beq (by decide)))
      with_reducible refine TSs_nil ?_
      with_reducible refine TSs_nil ?_
      refine ⟨_, by walk_at "m.sub", rfl, u, rfl, .inr ?_⟩
      rcases hI with ⟨rfl, rfl⟩ | ⟨A, R, e, hA, hR⟩
      · have : t = u := by simpa using hu
        subst this; omega
      · refine ⟨A ++ t :: R, [], by rw [et, e], fun a ha => ?_, by simp⟩
        rcases List.mem_append.mp ha with z | z
        · have := hA a z; omega
        · rcases List.mem_cons.mp z with z | z
          · subst z; omega
          · have := hR a z; omega
    · with_reducible refine TSs_nil ?_
      with_reducible refine TSs_nil ?_
      refine ⟨_, by walk_at "m.sub", rfl, t, rfl, .inr ?_⟩
      rcases hI with ⟨rfl, rfl⟩ | ⟨A, R, e, hA, hR⟩
      · have : t = u := by simpa using hu
        subst this; exact ⟨[], [], by rw [et]; rfl, by simp, by simp⟩
      · refine ⟨A, R ++ [u], by rw [et, e]; simp, hA, fun a ha => ?_⟩
        rcases List.mem_append.mp ha with z | z
        · exact hR a z
        · have : a = u := by simpa using z
          subst this; omega
  · rintro l' ν' ⟨rfl, t, rfl, hI⟩
    rw [List.length_map, List.take_length] at hI
    with_reducible refine TSs_cons ?_
    with_reducible refine TS_ret ?_
    refine TE_tuple ?_
    refine TL_cons ?_ rfl
    refine TE_sub' ?_ rfl
    (refine' TE_name ?zzh1 ?_ ?zzh2 ?zzh3; (case zzh1 => walk_at "m.lk"); (case zzh2 => exact ofString_beq (by decide)); (case zzh3 => exact ofString_beq (by decide)))
    with_reducible refine TE_int ?_
    unfold thD
    refine T2_itemT (k := 0) (by decide) (by decide) rfl ?_ rfl
    refine TL_cons ?_ rfl
    refine TE_sub' ?_ rfl
    (refine' TE_name ?zzh1 ?_ ?zzh2 ?zzh3; (case zzh1 => walk_at "m.lk"); (case zzh2 => exact ofString_beq (by decide)); (case zzh3 => exact ofString_beq (by decide)))
    with_reducible refine TE_int ?_
    refine T2_itemT (k := 1) (by decide) (by decide) rfl ?_ rfl
    with_reducible refine TL_nil ?_
    refine ⟨by simp, ?_⟩
    rcases hI with ⟨z, _⟩ | ⟨A, R, e, hA, hR⟩
    · simp at z
    · exact h A t R e hA hR
theorem m_least : IsM C (Str.ofString "least") := by (refine' mkM (by assumption) ?zza ?zzb ?zzc ?zzd; (case zza => k_is); (case zzb => k_is); (case zzc => k_is); (case zzd => k_is))
theorem first_ok {a : Addr} {ts : List Pr} (e : ν a = some (.lst (ts.map prD))) (hne : ts ≠ []) (hz : ts.length ≤ 1000)
    (h : ∀ (A : List Pr) (x : Nat) (nm : Str) (R : List Pr), ts = A ++ (x, nm) :: R → (∀ t ∈ A, x < t.1) → (∀ t ∈ R, x ≤ t.1) → Q (.int A.length) ν) : TN C (n + 1) (Str.ofString "_law_first") [.ref a] ν Q := by
  refine' TN_def (names := [Str.ofString "_law_things"]) ?D rfl ?_
  case D => (refine' mkDef (by assumption) ?zza ?zzb ?zzc ?zzd ?zze ?zzf ?zzg ?zzh ?zzi; (case zza => k_is); (case zzb => k_is); (case zzc => k_is); (case zzd => (intro vs hvs; first | (obtain ⟨a, e⟩ := len1 hvs; subst e; rfl) | (obtain ⟨a, b, e⟩ := len2 hvs; subst e; rfl) | (obtain ⟨a, b, c, e⟩ := len3 hvs; subst e; rfl) | (obtain ⟨a, b, c, d, e⟩ := len4 hvs; subst e; rfl))); (case zze => rfl); (case zzf => rfl); (case zzg => rfl); (case zzh => decide); (case zzi => (simp only [List.forall_mem_cons, List.not_mem_nil, false_implies, implies_true, and_true]; first | exact Or.inl rfl | exact Or.inr rfl | exact ⟨by walk_at "m.sto", by walk_at "m.sto"⟩ | exact ⟨by walk_at "m.sto", by walk_at "m.sto", by walk_at "m.sto"⟩ | exact ⟨by walk_at "m.sto", by walk_at "m.sto", by walk_at "m.sto", by walk_at "m.sto"⟩)))
  dsimp only [List.zip, List.zipWith]
  with_reducible refine TSs_cons ?_
  refine TS_assign ?_ (by walk_at "m.sto") (fun _ => rfl)
  with_reducible refine TE_int ?_
  with_reducible refine TSs_cons ?_
  refine TS_for ?_ (fun _ _ => rfl)
  (refine' TE_callT ?zzh1 ?zzh2 ?_ ?zzh3 ?zzh4; (case zzh2 => (refine' G_blt (by assumption) ?zza ?zzb ?zzc; (case zza => k_is); (case zzb => exact bb_range); (case zzc => exact ofString_ne (by decide)))); (case zzh1 => rfl); (case zzh3 => exact ofString_beq (by decide)); (case zzh4 => rfl))
  refine TL_cons ?_ rfl
  (refine' TE_callB ?zzh1 ?zzh2 ?_ ?zzh3 ?zzh4; (case zzh2 => (refine' G_blt (by assumption) ?zza ?zzb ?zzc; (case zza => k_is); (case zzb => exact bb_len); (case zzc => exact ofString_ne (by decide)))); (case zzh1 => rfl); (case zzh3 => exact ofString_beq (by decide)); (case zzh4 => rfl))
  refine TL_cons ?_ rfl
  (refine' TE_name ?zzh1 ?_ ?zzh2 ?zzh3; (case zzh1 => walk_at "m.lk"); (case zzh2 => exact ofString_beq (by decide)); (case zzh3 => exact ofString_beq (by decide)))
  with_reducible refine TL_nil ?_
  refine TC_lenL (ds := ts.map prD) (by rw [e]; rfl) (by rw [List.length_map]; omega) ?_
  with_reducible refine TL_nil ?_
  refine TC_range ?_
  rw [List.length_map]
  refine TF_rng (by omega) (by omega) (fun i l' ν' => ν' = ν ∧ ∃ j : Nat, l' = [(Str.ofString "_law_things", .ref a), (Str.ofString "_law_at", .int j)] ∧ (i = 0 ∧ j = 0 ∨ ∃ A x nm R, ts.take i = A ++ (x, nm) :: R ∧ (∀ t ∈ A, x < t.1) ∧ (∀ t ∈ R, x ≤ t.1) ∧ j = A.length)) ⟨rfl, 0, rfl, .inl ⟨rfl, rfl⟩⟩ ?_ ?_
  · rintro i l' ν' hi ⟨rfl, j, rfl, hI⟩
    rw [Int.toNat_natCast] at hi
    obtain ⟨u, hu⟩ : ∃ u, ts[i]? = some u := ⟨ts[i], by simp [hi]⟩
    have et : ts.take (i + 1) = ts.take i ++ [u] := by rw [List.take_add_one, hu]; rfl
    obtain ⟨v, hv, hj, hI⟩ : ∃ v, ts[j]? = some v ∧ j ≤ i ∧ (i = 0 ∧ v = u ∧ j = 0 ∨ ∃ A R, ts.take i = A ++ v :: R ∧ (∀ t ∈ A, v.1 < t.1) ∧ (∀ t ∈ R, v.1 ≤ t.1) ∧ j = A.length) := by
      rcases hI with ⟨rfl, rfl⟩ | ⟨A, x, nm, R, e1, hA, hR, rfl⟩
      · exact ⟨u, hu, by omega, .inl ⟨rfl, rfl, rfl⟩⟩
      · have hlt : A.length < i := by
          have := congrArg List.length e1
          rw [List.length_take, List.length_append, List.length_cons] at this
          omega
        have h5 : (ts.take i)[A.length]? = some (x, nm) := by rw [e1]; simp
        rw [List.getElem?_take, if_pos hlt] at h5
        exact ⟨(x, nm), h5, by omega, .inr ⟨A, R, e1, hA, hR, rfl⟩⟩
    refine TG_name (by walk_at "m.sto") ?_
    with_reducible refine TSs_cons ?_
    with_reducible refine TS_if ?_
    refine TB_cmp ?_ rfl
    refine TE_sub' ?_ rfl
    refine TE_sub' ?_ rfl
    (refine' TE_name ?zzh1 ?_ ?zzh2 ?zzh3; (case zzh1 => walk_at "m.lk"); (case zzh2 => exact ofString_beq (by decide)); (case zzh3 => exact ofString_beq (by decide)))
    (refine' TE_name ?zzh1 ?_ ?zzh2 ?zzh3; (case zzh1 => walk_at "m.lk"); (case zzh2 => exact ofString_beq (by decide)); (case zzh3 => exact ofString_beq (by decide)))
    refine T2_itemL (ds := ts.map prD) (d := prD u) (by rw [e]; rfl) (by omega) (by omega) (by rw [Int.toNat_natCast, List.getElem?_map, hu]; rfl) ?_ rfl
    with_reducible refine TE_int ?_
    unfold prD
    refine T2_itemT (k := 0) (by decide) (by decide) rfl ?_ rfl
    refine TE_sub' ?_ rfl
    refine TE_sub' ?_ rfl
    (refine' TE_name ?zzh1 ?_ ?zzh2 ?zzh3; (case zzh1 => walk_at "m.lk"); (case zzh2 => exact ofString_beq (by decide)); (case zzh3 => exact ofString_beq (by decide)))
    (refine' TE_name ?zzh1 ?_ ?zzh2 ?zzh3; (case zzh1 => walk_at "m.lk"); (case zzh2 => exact ofString_beq (by decide)); (case zzh3 => exact ofString_beq (by decide)))
    refine T2_itemL (ds := ts.map prD) (d := prD v) (by rw [e]; rfl) (by omega) (by omega) (by rw [Int.toNat_natCast, List.getElem?_map, hv]; rfl) ?_ rfl
    with_reducible refine TE_int ?_
    unfold prD
    refine T2_itemT (k := 0) (by decide) (by decide) rfl ?_ rfl
    with_reducible refine T2_lt ?_
    with_reducible refine TT_bool ?_
    refine ite_dec (fun hq => ?_) fun hq => ?_
    · with_reducible refine TSs_cons ?_
      refine TS_assign ?_ (by walk_at "m.sto") (fun _ => rfl)
      (refine' TE_name ?zzh1 ?_ ?zzh2 ?zzh3; (case zzh1 => walk_at "m.lk"); (case zzh2 => exact ofString_beq (by decide)); (case zzh3 => exact ofString_beq (by decide)))
      with_reducible refine TSs_nil ?_
      with_reducible refine TSs_nil ?_
      refine ⟨_, by walk_at "m.sub", rfl, i, rfl, .inr ?_⟩
      rcases hI with ⟨rfl, rfl, rfl⟩ | ⟨A, R, e1, hA, hR, rfl⟩
      · omega
      · refine ⟨ts.take i, u.1, u.2, [], by rw [et], fun t ht => ?_, by simp, by rw [List.length_take]; omega⟩
        rw [e1] at ht
        rcases List.mem_append.mp ht with z | z
        · have := hA t z; omega
        · rcases List.mem_cons.mp z with z | z
          · subst z; omega
          · have := hR t z; omega
    · with_reducible refine TSs_nil ?_
      with_reducible refine TSs_nil ?_
      refine ⟨_, by walk_at "m.sub", rfl, j, rfl, .inr ?_⟩
      rcases hI with ⟨rfl, rfl, rfl⟩ | ⟨A, R, e1, hA, hR, rfl⟩
      · exact ⟨[], v.1, v.2, [], by rw [et]; rfl, by simp, by simp, rfl⟩
      · refine ⟨A, v.1, v.2, R ++ [u], by rw [et, e1]; simp, hA, fun t ht => ?_, rfl⟩
        rcases List.mem_append.mp ht with z | z
        · exact hR t z
        · have : t = u := by simpa using z
          subst this; omega
  · rintro l' ν' ⟨rfl, j, rfl, hI⟩
    rw [Int.toNat_natCast, List.take_length] at hI
    with_reducible refine TSs_cons ?_
    with_reducible refine TS_ret ?_
    (refine' TE_name ?zzh1 ?_ ?zzh2 ?zzh3; (case zzh1 => walk_at "m.lk"); (case zzh2 => exact ofString_beq (by decide)); (case zzh3 => exact ofString_beq (by decide)))
    rcases hI with ⟨z, _⟩ | ⟨A, x, nm, R, e1, hA, hR, rfl⟩
    · exact absurd (List.eq_nil_of_length_eq_zero z) hne
    · exact h A x nm R e1 hA hR
theorem room_ok {a : Addr} {ns : List Int} {fr : Bool} (e : ν a = some (.scr (ns.map .int))) (hz : ns.length ≤ 63) (h : ∀ m : Nat, m ≤ 61 → Q (.int m) ν) : TN C (n + 1) (Str.ofString "_law_room") [.ref a, .bool fr] ν Q := by
  refine' TN_def (names := [Str.ofString "_law_script", Str.ofString "_law_far"]) ?D rfl ?_
  case D => (refine' mkDef (by assumption) ?zza ?zzb ?zzc ?zzd ?zze ?zzf ?zzg ?zzh ?zzi; (case zza => k_is); (case zzb => k_is); (case zzc => k_is); (case zzd => (intro vs hvs; first | (obtain ⟨a, e⟩ := len1 hvs; subst e; rfl) | (obtain ⟨a, b, e⟩ := len2 hvs; subst e; rfl) | (obtain ⟨a, b, c, e⟩ := len3 hvs; subst e; rfl) | (obtain ⟨a, b, c, d, e⟩ := len4 hvs; subst e; rfl))); (case zze => rfl); (case zzf => rfl); (case zzg => rfl); (case zzh => decide); (case zzi => (simp only [List.forall_mem_cons, List.not_mem_nil, false_implies, implies_true, and_true]; first | exact Or.inl rfl | exact Or.inr rfl | exact ⟨by walk_at "m.sto", by walk_at "m.sto"⟩ | exact ⟨by walk_at "m.sto", by walk_at "m.sto", by walk_at "m.sto"⟩ | exact ⟨by walk_at "m.sto", by walk_at "m.sto", by walk_at "m.sto", by walk_at "m.sto"⟩)))
  dsimp only [List.zip, List.zipWith]
  with_reducible refine TSs_cons ?_
  with_reducible refine TS_if ?_
  refine TB_val ?_ (fun _ _ => rfl)
  (refine' TE_name ?zzh1 ?_ ?zzh2 ?zzh3; (case zzh1 => walk_at "m.lk"); (case zzh2 => exact ofString_beq (by decide)); (case zzh3 => exact ofString_beq (by decide)))
  with_reducible refine TT_bool ?_
  cases fr
  · with_reducible refine ite_f ?_
    with_reducible refine TSs_nil ?_
    with_reducible refine TSs_cons ?_
    with_reducible refine TS_if ?_
    refine TB_cmp ?_ rfl
    (refine' TE_callB ?zzh1 ?zzh2 ?_ ?zzh3 ?zzh4; (case zzh2 => (refine' G_blt (by assumption) ?zza ?zzb ?zzc; (case zza => k_is); (case zzb => exact bb_len); (case zzc => exact ofString_ne (by decide)))); (case zzh1 => rfl); (case zzh3 => exact ofString_beq (by decide)); (case zzh4 => rfl))
    refine TL_cons ?_ rfl
    (refine' TE_name ?zzh1 ?_ ?zzh2 ?zzh3; (case zzh1 => walk_at "m.lk"); (case zzh2 => exact ofString_beq (by decide)); (case zzh3 => exact ofString_beq (by decide)))
    with_reducible refine TL_nil ?_
    refine TC_lenL (ds := ns.map .int) (by rw [e]; rfl) (by simp; omega) ?_
    with_reducible refine TE_int ?_
    with_reducible refine T2_gt ?_
    with_reducible refine TT_bool ?_
    rw [List.length_map]
    refine ite_dec (fun hr => absurd hr (by omega)) fun hr => ?_
    with_reducible refine TSs_nil ?_
    with_reducible refine TSs_cons ?_
    with_reducible refine TS_ret ?_
    with_reducible refine TE_int ?_
    exact h 61 (by omega)
  · with_reducible refine ite_t ?_
    with_reducible refine TSs_cons ?_
    with_reducible refine TS_ret ?_
    with_reducible refine TE_int ?_
    exact h 12 (by omega)
theorem step_ok {c : Int} {fr : Bool} (h : ∀ m : Nat, Q (.int m) ν) : TN C (n + 1) (Str.ofString "_law_step_by") [.int c, .bool fr] ν Q := by
  refine TN_drop ?_
  refine' TN_def (names := [Str.ofString "_law_cell", Str.ofString "_law_far"]) ?D rfl ?_
  case D => (refine' mkDef (by assumption) ?zza ?zzb ?zzc ?zzd ?zze ?zzf ?zzg ?zzh ?zzi; (case zza => k_is); (case zzb => k_is); (case zzc => k_is); (case zzd => (intro vs hvs; first | (obtain ⟨a, e⟩ := len1 hvs; subst e; rfl) | (obtain ⟨a, b, e⟩ := len2 hvs; subst e; rfl) | (obtain ⟨a, b, c, e⟩ := len3 hvs; subst e; rfl) | (obtain ⟨a, b, c, d, e⟩ := len4 hvs; subst e; rfl))); (case zze => rfl); (case zzf => rfl); (case zzg => rfl); (case zzh => decide); (case zzi => (simp only [List.forall_mem_cons, List.not_mem_nil, false_implies, implies_true, and_true]; first | exact Or.inl rfl | exact Or.inr rfl | exact ⟨by walk_at "m.sto", by walk_at "m.sto"⟩ | exact ⟨by walk_at "m.sto", by walk_at "m.sto", by walk_at "m.sto"⟩ | exact ⟨by walk_at "m.sto", by walk_at "m.sto", by walk_at "m.sto", by walk_at "m.sto"⟩)))
  dsimp only [List.zip, List.zipWith]
  have fin : ∀ (c b : Int), 0 < b → Q (.int (c.fmod b)) ν := fun c b hb => by
    obtain ⟨m, hm⟩ := toN (fmod_pos c hb).1
    rw [hm]; exact h m
  with_reducible refine TSs_cons ?_
  with_reducible refine TS_if ?_
  refine TB_val ?_ (fun _ _ => rfl)
  (refine' TE_name ?zzh1 ?_ ?zzh2 ?zzh3; (case zzh1 => walk_at "m.lk"); (case zzh2 => exact ofString_beq (by decide)); (case zzh3 => exact ofString_beq (by decide)))
  with_reducible refine TT_bool ?_
  cases fr
  · with_reducible refine ite_f ?_
    with_reducible refine TSs_nil ?_
    with_reducible refine TSs_cons ?_
    with_reducible refine TS_ret ?_
    with_reducible refine TE_bin ?_
    with_reducible refine TE_bin ?_
    (refine' TE_name ?zzh1 ?_ ?zzh2 ?zzh3; (case zzh1 => walk_at "m.lk"); (case zzh2 => exact ofString_beq (by decide)); (case zzh3 => exact ofString_beq (by decide)))
    with_reducible refine TE_int ?_
    refine T2_div (by first | decide | omega) (by first | decide | omega) ?_
    refine TE_sub' ?_ rfl
    refine TE_list ?_
    repeat' (first | (with_reducible refine TE_int ?_) | (with_reducible refine TE_bin ?_) | (with_reducible refine TL_nil ?_) | (refine TL_cons ?_ rfl) | (refine T2_powN 12 ?zzhk (by decide) ?_; (case zzhk => decide)) | (refine T2_powN 6 ?zzhk (by decide) ?_; (case zzhk => decide)))
    refine ⟨by simp, fun r hr => ?_⟩
    with_reducible refine TE_bin ?_
    with_reducible refine TE_bin ?_
    (refine' TE_name ?zzh1 ?_ ?zzh2 ?zzh3; (case zzh1 => walk_at "m.lk"); (case zzh2 => exact ofString_beq (by decide)); (case zzh3 => exact ofString_beq (by decide)))
    with_reducible refine TE_int ?_
    refine T2_div (by first | decide | omega) (by first | decide | omega) ?_
    with_reducible refine TE_int ?_
    refine T2_mod (by first | decide | omega) ?_
    have f2 := fmod_pos (c.fdiv 3) (b := 7) (by decide)
    obtain ⟨d, hd, d0⟩ : ∃ d : Int, [D.int 10, D.int 100, D.int 1000, D.int 10, D.int 100, D.int (10 ^ 6), D.int (10 ^ 12)][((c.fdiv 3).fmod 7).toNat]? = some (.int d) ∧ 0 < d := by
      have h4 : ((c.fdiv 3).fmod 7).toNat = 0 ∨ ((c.fdiv 3).fmod 7).toNat = 1 ∨ ((c.fdiv 3).fmod 7).toNat = 2 ∨ ((c.fdiv 3).fmod 7).toNat = 3 ∨ ((c.fdiv 3).fmod 7).toNat = 4 ∨ ((c.fdiv 3).fmod 7).toNat = 5 ∨ ((c.fdiv 3).fmod 7).toNat = 6 := by omega
      rcases h4 with e | e | e | e | e | e | e <;> rw [e] <;> exact ⟨_, rfl, by omega⟩
    refine T2_itemL (by rw [upd_same]; rfl) (by omega) (by omega) hd ?_ rfl
    refine T2_mod (by first | decide | omega) ?_
    exact ⟨Ext.refl.upd hr, fin _ _ d0⟩
  · repeat' (first | (with_reducible refine TSs_cons ?_) | (with_reducible refine TS_ret ?_) | (with_reducible refine TE_int ?_) | (with_reducible refine TE_bin ?_) | (with_reducible refine ite_t ?_) | (refine' TE_name ?zzh1 ?_ ?zzh2 ?zzh3; (case zzh1 => walk_at "m.lk"); (case zzh2 => exact ofString_beq (by decide)); (case zzh3 => exact ofString_beq (by decide))) | (refine T2_powN 40 ?zzhk (by decide) ?_; (case zzhk => decide)))
    refine T2_mod (by first | decide | omega) ?_
    exact ⟨Ext.refl, fin _ _ (by omega)⟩
theorem gone_ok {st : Addr} {fp : List Addr} {S : SV} {A R : List Pr} {x N : Nat} {nm : Str} (H : StoreAt C ν st fp S) (h1 : 2 ≤ S.base) (h2 : S.base ≤ 16) (I : Inv S (A ++ (x, nm) :: R)) (hA : ∀ t ∈ A, x < t.1) (hR : ∀ t ∈ R, x ≤ t.1) (Z : Sz S N) (hN : N ≤ 300) (hn : NmOk nm)
    (h : ∀ ν' fp', Frame ν fp ν' fp' → StoreAt C ν' st fp' S.take → Q (.bool true) ν') : TN C (n + 6) (Str.ofString "_law_gone") [.ref st, prD (x, nm)] ν Q := by
  refine' TN_def (names := [Str.ofString "_law_store", Str.ofString "_law_thing"]) ?D rfl ?_
  case D => (refine' mkDef (by assumption) ?zza ?zzb ?zzc ?zzd ?zze ?zzf ?zzg ?zzh ?zzi; (case zza => k_is); (case zzb => k_is); (case zzc => k_is); (case zzd => (intro vs hvs; first | (obtain ⟨a, e⟩ := len1 hvs; subst e; rfl) | (obtain ⟨a, b, e⟩ := len2 hvs; subst e; rfl) | (obtain ⟨a, b, c, e⟩ := len3 hvs; subst e; rfl) | (obtain ⟨a, b, c, d, e⟩ := len4 hvs; subst e; rfl))); (case zze => rfl); (case zzf => rfl); (case zzg => rfl); (case zzh => decide); (case zzi => (simp only [List.forall_mem_cons, List.not_mem_nil, false_implies, implies_true, and_true]; first | exact Or.inl rfl | exact Or.inr rfl | exact ⟨by walk_at "m.sto", by walk_at "m.sto"⟩ | exact ⟨by walk_at "m.sto", by walk_at "m.sto", by walk_at "m.sto"⟩ | exact ⟨by walk_at "m.sto", by walk_at "m.sto", by walk_at "m.sto", by walk_at "m.sto"⟩)))
  dsimp only [List.zip, List.zipWith]
  have hS := st_ok hK
  have hM := m_init hK
  have hk := Z.keys
  have hl : ∀ k, (S.B k).length ≤ 400 := fun k => Nat.le_trans (Z.len k) (by omega)
  have hm : S.many ≠ 0 := by rw [I.many]; simp
  have hs := I.some (by simp)
  obtain ⟨c, rest, hc, I', hlast⟩ := I.take hA hR
  with_reducible refine TSs_cons ?_
  with_reducible refine TS_if ?_
  refine TB_cmp ?_ rfl
  obtain ⟨T, dd, hT, hst, bk, hns⟩ := H.it
  refine TE_methM hS (m_least hK) ?_ (fun _ _ => rfl) rfl (by decide) rfl
  (refine' TE_name ?zzh1 ?_ ?zzh2 ?zzh3; (case zzh1 => walk_at "m.lk"); (case zzh2 => exact ofString_beq (by decide)); (case zzh3 => exact ofString_beq (by decide)))
  refine ⟨st, T, dd, _, rfl, hT, hst, hns, by walk_at "m.lkn", ?_⟩
  with_reducible refine TL_nil ?_
  refine least_ok hK H hm hs (by omega) (fun k => Nat.le_trans (hl k) (by omega)) fun A' t R' e1 hA' hR' => ?_
  obtain ⟨z1, z2⟩ := I.least hA hR e1 hA' hR'
  rw [z1, z2]
  refine TE_tuple ?_
  refine TL_cons ?_ rfl
  refine TE_sub' ?_ rfl
  (refine' TE_name ?zzh1 ?_ ?zzh2 ?zzh3; (case zzh1 => walk_at "m.lk"); (case zzh2 => exact ofString_beq (by decide)); (case zzh3 => exact ofString_beq (by decide)))
  with_reducible refine TE_int ?_
  unfold prD
  refine T2_itemT (k := 0) (by decide) (by decide) rfl ?_ rfl
  refine TL_cons ?_ rfl
  refine TE_sub' ?_ rfl
  (refine' TE_name ?zzh1 ?_ ?zzh2 ?zzh3; (case zzh1 => walk_at "m.lk"); (case zzh2 => exact ofString_beq (by decide)); (case zzh3 => exact ofString_beq (by decide)))
  with_reducible refine TE_int ?_
  refine T2_itemT (k := 1) (by decide) (by decide) rfl ?_ rfl
  with_reducible refine TL_nil ?_
  refine ⟨by simp, ?_⟩
  refine T2_neSame pd_pair (lay_pair hn) dep_pair ?_
  with_reducible refine TT_bool ?_
  with_reducible refine ite_f ?_
  with_reducible refine TSs_nil ?_
  with_reducible refine TSs_cons ?_
  refine TS_assign ?_ (by walk_at "m.sto") (fun _ => rfl)
  refine TE_methM hS (m_take hK) ?_ (fun _ _ => rfl) rfl (by decide) rfl
  (refine' TE_name ?zzh1 ?_ ?zzh2 ?zzh3; (case zzh1 => walk_at "m.lk"); (case zzh2 => exact ofString_beq (by decide)); (case zzh3 => exact ofString_beq (by decide)))
  refine ⟨st, T, dd, _, rfl, hT, hst, hns, by walk_at "m.lkn", ?_⟩
  with_reducible refine TL_nil ?_
  refine take_ok hK H h1 h2 hm hs (by rw [hc]; simp) (by omega) hl fun ν₁ fp₁ t rest' e2 F₁ H₁ => ?_
  rw [hc] at e2
  obtain ⟨rfl, rfl⟩ : (x, nm, c) = t ∧ rest = rest' := by simpa using e2
  unfold thD
  with_reducible refine TSs_cons ?_
  with_reducible refine TS_if ?_
  with_reducible refine TB_boolop ?_
  with_reducible refine TA_or ?_
  with_reducible refine TB_not ?_
  refine TB_val ?_ (fun _ _ => rfl)
  (refine' TE_callB ?zzh1 ?zzh2 ?_ ?zzh3 ?zzh4; (case zzh2 => (refine' G_blt (by assumption) ?zza ?zzb ?zzc; (case zza => k_is); (case zzb => exact bb_isinstance); (case zzc => exact ofString_ne (by decide)))); (case zzh1 => rfl); (case zzh3 => exact ofString_beq (by decide)); (case zzh4 => rfl))
  refine TL_cons ?_ rfl
  (refine' TE_name ?zzh1 ?_ ?zzh2 ?zzh3; (case zzh1 => walk_at "m.lk"); (case zzh2 => exact ofString_beq (by decide)); (case zzh3 => exact ofString_beq (by decide)))
  refine TL_cons ?_ rfl
  (refine' TE_glob ?zzh1 ?zzh2 ?_ ?zzh3; (case zzh2 => (refine' G_blt (by assumption) ?zza ?zzb ?zzc; (case zza => k_is); (case zzb => exact bb_tuple); (case zzc => exact ofString_ne (by decide)))); (case zzh1 => rfl); (case zzh3 => exact ofString_beq (by decide)))
  with_reducible refine TL_nil ?_
  refine TC_isi_tup ?_
  with_reducible refine TT_bool ?_
  with_reducible refine ite_nt ?_
  with_reducible refine TA_or ?_
  refine TB_cmp ?_ rfl
  (refine' TE_callB ?zzh1 ?zzh2 ?_ ?zzh3 ?zzh4; (case zzh2 => (refine' G_blt (by assumption) ?zza ?zzb ?zzc; (case zza => k_is); (case zzb => exact bb_len); (case zzc => exact ofString_ne (by decide)))); (case zzh1 => rfl); (case zzh3 => exact ofString_beq (by decide)); (case zzh4 => rfl))
  refine TL_cons ?_ rfl
  (refine' TE_name ?zzh1 ?_ ?zzh2 ?zzh3; (case zzh1 => walk_at "m.lk"); (case zzh2 => exact ofString_beq (by decide)); (case zzh3 => exact ofString_beq (by decide)))
  with_reducible refine TL_nil ?_
  refine TC_lenT (by simp) ?_
  with_reducible refine TE_int ?_
  with_reducible refine T2_ne ?_
  with_reducible refine TT_bool ?_
  rw [decide_eq_false (by simp)]
  with_reducible refine ite_f ?_
  with_reducible refine TA_or ?_
  with_reducible refine TB_not ?_
  refine TB_val ?_ (fun _ _ => rfl)
  (refine' TE_callB ?zzh1 ?zzh2 ?_ ?zzh3 ?zzh4; (case zzh2 => (refine' G_blt (by assumption) ?zza ?zzb ?zzc; (case zza => k_is); (case zzb => exact bb_isinstance); (case zzc => exact ofString_ne (by decide)))); (case zzh1 => rfl); (case zzh3 => exact ofString_beq (by decide)); (case zzh4 => rfl))
  refine TL_cons ?_ rfl
  refine TE_sub' ?_ rfl
  (refine' TE_name ?zzh1 ?_ ?zzh2 ?zzh3; (case zzh1 => walk_at "m.lk"); (case zzh2 => exact ofString_beq (by decide)); (case zzh3 => exact ofString_beq (by decide)))
  with_reducible refine TE_int ?_
  refine T2_itemT (k := 1) (by decide) (by decide) rfl ?_ rfl
  refine TL_cons ?_ rfl
  (refine' TE_glob ?zzh1 ?zzh2 ?_ ?zzh3; (case zzh2 => (refine' G_blt (by assumption) ?zza ?zzb ?zzc; (case zza => k_is); (case zzb => exact bb_str); (case zzc => exact ofString_ne (by decide)))); (case zzh1 => rfl); (case zzh3 => exact ofString_beq (by decide)))
  with_reducible refine TL_nil ?_
  refine TC_isi_str ?_
  with_reducible refine TT_bool ?_
  with_reducible refine ite_nt ?_
  with_reducible refine TA_or_nil ?_
  with_reducible refine ite_f ?_
  with_reducible refine TSs_nil ?_
  with_reducible refine TSs_cons ?_
  with_reducible refine TS_if ?_
  with_reducible refine TB_boolop ?_
  with_reducible refine TA_or ?_
  with_reducible refine TB_not ?_
  refine TB_val ?_ (fun _ _ => rfl)
  (refine' TE_callN ?zzh1 ?zzh2 ?_ ?zzh3 ?zzh4; (case zzh2 => (refine' mkFn (by assumption) ?zza ?zzb; (case zza => k_is); (case zzb => k_is))); (case zzh1 => rfl); (case zzh3 => exact ofString_beq (by decide)); (case zzh4 => rfl))
  refine TL_cons ?_ rfl
  refine TE_sub' ?_ rfl
  (refine' TE_name ?zzh1 ?_ ?zzh2 ?zzh3; (case zzh1 => walk_at "m.lk"); (case zzh2 => exact ofString_beq (by decide)); (case zzh3 => exact ofString_beq (by decide)))
  with_reducible refine TE_int ?_
  refine T2_itemT (k := 0) (by decide) (by decide) rfl ?_ rfl
  with_reducible refine TL_nil ?_
  refine whole_ok hK ?_
  with_reducible refine TT_bool ?_
  with_reducible refine ite_nt ?_
  with_reducible refine TA_or ?_
  with_reducible refine TB_not ?_
  refine TB_val ?_ (fun _ _ => rfl)
  (refine' TE_callN ?zzh1 ?zzh2 ?_ ?zzh3 ?zzh4; (case zzh2 => (refine' mkFn (by assumption) ?zza ?zzb; (case zza => k_is); (case zzb => k_is))); (case zzh1 => rfl); (case zzh3 => exact ofString_beq (by decide)); (case zzh4 => rfl))
  refine TL_cons ?_ rfl
  refine TE_sub' ?_ rfl
  (refine' TE_name ?zzh1 ?_ ?zzh2 ?zzh3; (case zzh1 => walk_at "m.lk"); (case zzh2 => exact ofString_beq (by decide)); (case zzh3 => exact ofString_beq (by decide)))
  with_reducible refine TE_int ?_
  refine T2_itemT (k := 2) (by decide) (by decide) rfl ?_ rfl
  with_reducible refine TL_nil ?_
  refine whole_ok hK ?_
  with_reducible refine TT_bool ?_
  with_reducible refine ite_nt ?_
  with_reducible refine TA_or_nil ?_
  with_reducible refine ite_f ?_
  with_reducible refine TSs_nil ?_
  with_reducible refine TSs_cons ?_
  with_reducible refine TS_ret ?_
  with_reducible refine TE_boolop ?_
  with_reducible refine TO_and ?_
  refine TE_cmp ?_ rfl
  refine TE_sub' ?_ rfl
  (refine' TE_name ?zzh1 ?_ ?zzh2 ?zzh3; (case zzh1 => walk_at "m.lk"); (case zzh2 => exact ofString_beq (by decide)); (case zzh3 => exact ofString_beq (by decide)))
  with_reducible refine TE_int ?_
  refine T2_itemT (k := 0) (by decide) (by decide) rfl ?_ rfl
  refine TE_sub' ?_ rfl
  (refine' TE_name ?zzh1 ?_ ?zzh2 ?zzh3; (case zzh1 => walk_at "m.lk"); (case zzh2 => exact ofString_beq (by decide)); (case zzh3 => exact ofString_beq (by decide)))
  with_reducible refine TE_int ?_
  refine T2_itemT (k := 0) (by decide) (by decide) rfl ?_ rfl
  with_reducible refine T2_eq ?_
  with_reducible refine TT_bool ?_
  rw [decide_eq_true rfl]
  with_reducible refine ite_t ?_
  with_reducible refine TO_and ?_
  refine TE_cmp ?_ rfl
  refine TE_sub' ?_ rfl
  (refine' TE_name ?zzh1 ?_ ?zzh2 ?zzh3; (case zzh1 => walk_at "m.lk"); (case zzh2 => exact ofString_beq (by decide)); (case zzh3 => exact ofString_beq (by decide)))
  with_reducible refine TE_int ?_
  refine T2_itemT (k := 1) (by decide) (by decide) rfl ?_ rfl
  refine TE_sub' ?_ rfl
  (refine' TE_name ?zzh1 ?_ ?zzh2 ?zzh3; (case zzh1 => walk_at "m.lk"); (case zzh2 => exact ofString_beq (by decide)); (case zzh3 => exact ofString_beq (by decide)))
  with_reducible refine TE_int ?_
  refine T2_itemT (k := 1) (by decide) (by decide) rfl ?_ rfl
  with_reducible refine T2_eqS ?_
  with_reducible refine TT_bool ?_
  rw [decide_eq_true rfl]
  obtain ⟨dd₁, bk₁, adr₁, hfp, HA⟩ := H₁
  with_reducible refine ite_t ?_
  with_reducible refine TO_one ?_
  refine TE_cmp ?_ rfl
  refine TE_fld hS hM HA rfl ?_ (fun _ _ => rfl)
  (refine' TE_name ?zzh1 ?_ ?zzh2 ?zzh3; (case zzh1 => walk_at "m.lk"); (case zzh2 => exact ofString_beq (by decide)); (case zzh3 => exact ofString_beq (by decide)))
  refine ⟨rfl, rfl, ?_⟩
  refine TE_sub' ?_ rfl
  (refine' TE_name ?zzh1 ?_ ?zzh2 ?zzh3; (case zzh1 => walk_at "m.lk"); (case zzh2 => exact ofString_beq (by decide)); (case zzh3 => exact ofString_beq (by decide)))
  with_reducible refine TE_int ?_
  refine T2_itemT (k := 0) (by decide) (by decide) rfl ?_ rfl
  with_reducible refine T2_eq ?_
  rw [show S.take.last = x from hlast, decide_eq_true rfl]
  exact h _ _ F₁ ⟨dd₁, bk₁, adr₁, hfp, HA⟩
theorem m_put : IsM C (Str.ofString "put") := by (refine' mkM (by assumption) ?zza ?zzb ?zzc ?zzd; (case zza => k_is); (case zzb => k_is); (case zzc => k_is); (case zzd => k_is))
theorem m_rows : IsM C (Str.ofString "rows") := by (refine' mkM (by assumption) ?zza ?zzb ?zzc ?zzd; (case zza => k_is); (case zzb => k_is); (case zzc => k_is); (case zzd => k_is))
theorem law_ok {a : Addr} {ns : List Int} (e : ν a = some (.scr (ns.map .int))) (hz : ns.length ≤ 63) (h : ∀ ν', Q (.bool true) ν') : TN C (n + 7) (Str.ofString "law") [.ref a] ν Q := by
  refine' TN_def (names := [Str.ofString "_law_script"]) ?D rfl ?_
  case D => (refine' mkDef (by assumption) ?zza ?zzb ?zzc ?zzd ?zze ?zzf ?zzg ?zzh ?zzi; (case zza => k_is); (case zzb => k_is); (case zzc => k_is); (case zzd => (intro vs hvs; first | (obtain ⟨a, e⟩ := len1 hvs; subst e; rfl) | (obtain ⟨a, b, e⟩ := len2 hvs; subst e; rfl) | (obtain ⟨a, b, c, e⟩ := len3 hvs; subst e; rfl) | (obtain ⟨a, b, c, d, e⟩ := len4 hvs; subst e; rfl))); (case zze => rfl); (case zzf => rfl); (case zzg => rfl); (case zzh => decide); (case zzi => (simp only [List.forall_mem_cons, List.not_mem_nil, false_implies, implies_true, and_true]; first | exact Or.inl rfl | exact Or.inr rfl | exact ⟨by walk_at "m.sto", by walk_at "m.sto"⟩ | exact ⟨by walk_at "m.sto", by walk_at "m.sto", by walk_at "m.sto"⟩ | exact ⟨by walk_at "m.sto", by walk_at "m.sto", by walk_at "m.sto", by walk_at "m.sto"⟩)))
  dsimp only [List.zip, List.zipWith]
  have hS := st_ok hK
  have hM := m_init hK
  with_reducible refine TSs_cons ?_
  refine TS_assign ?_ (by walk_at "m.sto") (fun _ => rfl)
  refine TE_cmp ?_ rfl
  with_reducible refine TE_bin ?_
  (refine' TE_callN ?zzh1 ?zzh2 ?_ ?zzh3 ?zzh4; (case zzh2 => (refine' mkFn (by assumption) ?zza ?zzb; (case zza => k_is); (case zzb => k_is))); (case zzh1 => rfl); (case zzh3 => exact ofString_beq (by decide)); (case zzh4 => rfl))
  refine TL_cons ?_ rfl
  (refine' TE_name ?zzh1 ?_ ?zzh2 ?zzh3; (case zzh1 => walk_at "m.lk"); (case zzh2 => exact ofString_beq (by decide)); (case zzh3 => exact ofString_beq (by decide)))
  refine TL_cons ?_ rfl
  with_reducible refine TE_int ?_
  with_reducible refine TL_nil ?_
  refine cell_ok (k := 1) hK e hz (by decide) ?_
  with_reducible refine TE_int ?_
  refine T2_mod (by first | decide | omega) ?_
  with_reducible refine TE_int ?_
  with_reducible refine T2_eq ?_
  with_reducible refine TSs_cons ?_
  refine TS_assign ?_ (by walk_at "m.sto") (fun _ => rfl)
  generalize decide ((cellD ns 1).fmod 9 = 1) = fr
  refine new_ok hK rfl rfl ?_
  refine TL_cons ?_ rfl
  with_reducible refine TE_bin ?_
  with_reducible refine TE_int ?_
  with_reducible refine TE_bin ?_
  (refine' TE_callN ?zzh1 ?zzh2 ?_ ?zzh3 ?zzh4; (case zzh2 => (refine' mkFn (by assumption) ?zza ?zzb; (case zza => k_is); (case zzb => k_is))); (case zzh1 => rfl); (case zzh3 => exact ofString_beq (by decide)); (case zzh4 => rfl))
  refine TL_cons ?_ rfl
  (refine' TE_name ?zzh1 ?_ ?zzh2 ?zzh3; (case zzh1 => walk_at "m.lk"); (case zzh2 => exact ofString_beq (by decide)); (case zzh3 => exact ofString_beq (by decide)))
  refine TL_cons ?_ rfl
  with_reducible refine TE_int ?_
  with_reducible refine TL_nil ?_
  refine cell_ok (k := 0) hK e hz (by decide) ?_
  with_reducible refine TE_int ?_
  refine T2_mod (by first | decide | omega) ?_
  have f1 := fmod_pos (cellD ns 0) (b := 15) (by decide)
  refine T2_add ?_
  obtain ⟨b, hb⟩ := toN (show 0 ≤ 2 + (cellD ns 0).fmod 15 by omega)
  rw [hb]
  have h1 : 2 ≤ b := by omega
  have h2 : b ≤ 16 := by omega
  with_reducible refine TL_nil ?_
  refine ⟨b, rfl, h1, h2, fun ν₂ st fp hst X₂ hfp hsf H₂ => ?_⟩
  have e₂ := X₂ _ _ e
  have oa : a ∉ fp := fun q => by have := hfp a q; rw [e] at this; cases this
  with_reducible refine TSs_cons ?_
  refine TS_assign ?_ (by walk_at "m.sto") (fun _ => rfl)
  refine TE_list ?_
  with_reducible refine TL_nil ?_
  refine ⟨by simp, fun th hth => ?_⟩
  have X₃ : Ext ν₂ (upd ν₂ th (.lst [])) := Ext.refl.upd hth
  have t₃ : upd ν₂ th (.lst []) th = some (.lst []) := upd_same
  have o₃ : th ∉ fp := fun q => H₂.alive th q hth
  obtain ⟨ν₃, e₃⟩ : ∃ ν₃, ν₃ = upd ν₂ th (.lst []) := ⟨_, rfl⟩
  rw [← e₃] at X₃ t₃ ⊢
  have H₃ := H₂.ext X₃
  have s₃ := X₃ _ _ e₂
  refine TSs_cons ?_
  refine TS_assign ?_ (by walk_at "m.sto") (fun _ => rfl)
  refine TE_int ?_
  refine TSs_mid (K1 C st b 61) ?_ ?_
  · refine TS_for ?_ (fun _ _ => rfl)
    refine TE_slice "list" slot_list_getitem.lookup ?_ (fun _ _ => rfl)
    (refine' TE_name ?zzh1 ?_ ?zzh2 ?zzh3; (case zzh1 => walk_at "m.lk"); (case zzh2 => exact ofString_beq (by decide)); (case zzh3 => exact ofString_beq (by decide)))
    show TE _ _ _ _ _ _ _
    with_reducible refine TE_int ?_
    refine ⟨_, rfl, ?_⟩
    show TE _ _ _ _ _ _ _
    with_reducible refine TE_bin ?_
    with_reducible refine TE_int ?_
    (refine' TE_callN ?zzh1 ?zzh2 ?_ ?zzh3 ?zzh4; (case zzh2 => (refine' mkFn (by assumption) ?zza ?zzb; (case zza => k_is); (case zzb => k_is))); (case zzh1 => rfl); (case zzh3 => exact ofString_beq (by decide)); (case zzh4 => rfl))
    refine TL_cons ?_ rfl
    (refine' TE_name ?zzh1 ?_ ?zzh2 ?zzh3; (case zzh1 => walk_at "m.lk"); (case zzh2 => exact ofString_beq (by decide)); (case zzh3 => exact ofString_beq (by decide)))
    refine TL_cons ?_ rfl
    (refine' TE_name ?zzh1 ?_ ?zzh2 ?zzh3; (case zzh1 => walk_at "m.lk"); (case zzh2 => exact ofString_beq (by decide)); (case zzh3 => exact ofString_beq (by decide)))
    with_reducible refine TL_nil ?_
    refine room_ok hK s₃ hz fun m hm => ?_
    with_reducible refine T2_add ?_
    refine ⟨_, rfl, TSl_list (ds := ns.map .int) (by rw [s₃]; rfl) (by simp; omega) (fun i hi => by cases hi; omega) (fun i hi => by cases hi; omega) fun sl hsl => ?_⟩
    obtain ⟨cs, hcs, hcl⟩ : ∃ cs : List Int, cut (some 2) (some (2 + (m : Int))) (ns.map D.int) = cs.map .int ∧ cs.length ≤ 61 := by
      refine ⟨(ns.take (2 + (m : Int)).toNat).drop 2, by simp [cut, List.map_drop, List.map_take], ?_⟩
      rw [List.length_drop, List.length_take]; omega
    rw [hcs]
    have X₄ : Ext ν₃ (upd ν₃ sl (.lst (cs.map .int))) := Ext.refl.upd hsl
    have s₄ : upd ν₃ sl (.lst (cs.map .int)) sl = some (.lst (cs.map .int)) := upd_same
    have o₄ : sl ∉ fp := fun q => H₃.alive sl q hsl
    obtain ⟨ν₄, e₄⟩ : ∃ ν₄, ν₄ = upd ν₃ sl (.lst (cs.map .int)) := ⟨_, rfl⟩
    rw [← e₄] at X₄ s₄ ⊢
    have H₄ := H₃.ext X₄
    have t₄ := X₄ _ _ t₃
    have ns₄ : th ≠ sl := fun q => by rw [q, hsl] at t₃; cases t₃
    refine TF_sub (l₀ := [(Str.ofString "_law_far", .bool fr), (Str.ofString "_law_store", .ref st), (Str.ofString "_law_things", .ref th), (Str.ofString "_law_last", .int 0)]) (by walk_at "m.sub") ?_
    refine TF_list (ds := cs.map .int) (by rw [s₄]; rfl) (K2 C st sl b fr cs) ⟨fp, th, SV.new b, [], H₄, rfl, Inv.new h1, Sz.new, t₄, o₃, ns₄, by simp, by simp, s₄, o₄, rfl⟩ ?_ ?_ ?_
    · rintro i l' ν' ⟨_, _, _, _, _, _, _, _, _, _, _, _, _, q, _, _⟩; rw [q]; rfl
    · rintro i l' ν' d hd ⟨fp, th, S, ts, H, hb, I, Z, ht, o1, nts, hn, hl, hs, o2, rfl⟩
      obtain ⟨c, hc, rfl⟩ : ∃ c, cs[i]? = some c ∧ d = .int c := by
        rw [List.getElem?_map] at hd
        cases q : cs[i]? with
        | none => rw [q] at hd; cases hd
        | some t => rw [q] at hd; exact ⟨t, rfl, by simpa using hd.symm⟩
      have hi : i < cs.length := by
        rcases Nat.lt_or_ge i cs.length with q | q
        · exact q
        · rw [List.getElem?_eq_none q] at hc; cases hc
      refine TG_name (by walk_at "m.sto") ?_
      refine TSs_cons ?_
      refine TS_if ?_
      refine TB_mono (P := fun b ν₁ => Ext ν' ν₁ ∧ (b = true → ts ≠ [])) ?_ ?_
      · with_reducible refine TB_boolop ?_
        with_reducible refine TA_and ?_
        refine TB_cmp ?_ rfl
        with_reducible refine TE_bin ?_
        (refine' TE_name ?zzh1 ?_ ?zzh2 ?zzh3; (case zzh1 => walk_at "m.lk"); (case zzh2 => exact ofString_beq (by decide)); (case zzh3 => exact ofString_beq (by decide)))
        with_reducible refine TE_int ?_
        refine T2_mod (by first | decide | omega) ?_
        with_reducible refine TE_int ?_
        with_reducible refine T2_eq ?_
        with_reducible refine TT_bool ?_
        refine ite_dec (fun hq => ?_) fun hq => ?_
        · with_reducible refine TA_and ?_
          refine TB_cmp ?_ rfl
          (refine' TE_name ?zzh1 ?_ ?zzh2 ?zzh3; (case zzh1 => walk_at "m.lk"); (case zzh2 => exact ofString_beq (by decide)); (case zzh3 => exact ofString_beq (by decide)))
          refine TE_list ?_
          with_reducible refine TL_nil ?_
          refine ⟨by simp, fun r0 hr0 => ?_⟩
          refine T2_neNil (by rw [(Ext.refl.upd hr0) _ _ ht]; rfl) (by rw [upd_same]; rfl) hn ?_
          by_cases z : ts = []
          · rw [decide_eq_true z]
            with_reducible refine TT_bool ?_
            with_reducible refine ite_nt ?_
            exact ⟨Ext.refl.upd hr0, nofun⟩
          · rw [decide_eq_false z]
            with_reducible refine TT_bool ?_
            with_reducible refine ite_nf ?_
            with_reducible refine TA_and_nil ?_
            exact ⟨Ext.refl.upd hr0, fun _ => z⟩
        · skip
          exact ⟨Ext.refl, nofun⟩
      rintro b0 ν0 ⟨X0, hb0⟩
      have H := H.ext X0
      have ht := X0 _ _ ht
      have hs := X0 _ _ hs
      cases b0 with
      | true =>
        have q := hb0 rfl
        with_reducible refine ite_t ?_
        with_reducible refine TSs_cons ?_
        refine TS_assign ?_ (by walk_at "m.sto") (fun _ => rfl)
        (refine' TE_callN ?zzh1 ?zzh2 ?_ ?zzh3 ?zzh4; (case zzh2 => (refine' mkFn (by assumption) ?zza ?zzb; (case zza => k_is); (case zzb => k_is))); (case zzh1 => rfl); (case zzh3 => exact ofString_beq (by decide)); (case zzh4 => rfl))
        refine TL_cons ?_ rfl
        (refine' TE_name ?zzh1 ?_ ?zzh2 ?zzh3; (case zzh1 => walk_at "m.lk"); (case zzh2 => exact ofString_beq (by decide)); (case zzh3 => exact ofString_beq (by decide)))
        with_reducible refine TL_nil ?_
        refine first_ok hK ht q (by omega) fun A x nm R eA hA hR => ?_
        subst eA
        with_reducible refine TSs_cons ?_
        refine TS_assign ?_ (by walk_at "m.sto") (fun _ => rfl)
        refine TE_sub' ?_ rfl
        refine TE_sub' ?_ rfl
        (refine' TE_name ?zzh1 ?_ ?zzh2 ?zzh3; (case zzh1 => walk_at "m.lk"); (case zzh2 => exact ofString_beq (by decide)); (case zzh3 => exact ofString_beq (by decide)))
        (refine' TE_name ?zzh1 ?_ ?zzh2 ?zzh3; (case zzh1 => walk_at "m.lk"); (case zzh2 => exact ofString_beq (by decide)); (case zzh3 => exact ofString_beq (by decide)))
        refine T2_itemL (ds := (A ++ (x, nm) :: R).map prD) (d := prD (x, nm)) (by rw [ht]; rfl) (by omega) (by simp at hl; omega) atA ?_ rfl
        with_reducible refine TE_int ?_
        unfold prD
        refine T2_itemT (k := 0) (by decide) (by decide) rfl ?_ rfl
        with_reducible refine TSs_cons ?_
        with_reducible refine TS_if ?_
        with_reducible refine TB_not ?_
        refine TB_val ?_ (fun _ _ => rfl)
        (refine' TE_callN ?zzh1 ?zzh2 ?_ ?zzh3 ?zzh4; (case zzh2 => (refine' mkFn (by assumption) ?zza ?zzb; (case zza => k_is); (case zzb => k_is))); (case zzh1 => rfl); (case zzh3 => exact ofString_beq (by decide)); (case zzh4 => rfl))
        refine TL_cons ?_ rfl
        (refine' TE_name ?zzh1 ?_ ?zzh2 ?zzh3; (case zzh1 => walk_at "m.lk"); (case zzh2 => exact ofString_beq (by decide)); (case zzh3 => exact ofString_beq (by decide)))
        refine TL_cons ?_ rfl
        refine TE_sub' ?_ rfl
        (refine' TE_name ?zzh1 ?_ ?zzh2 ?zzh3; (case zzh1 => walk_at "m.lk"); (case zzh2 => exact ofString_beq (by decide)); (case zzh3 => exact ofString_beq (by decide)))
        (refine' TE_name ?zzh1 ?_ ?zzh2 ?zzh3; (case zzh1 => walk_at "m.lk"); (case zzh2 => exact ofString_beq (by decide)); (case zzh3 => exact ofString_beq (by decide)))
        refine T2_itemL (ds := (A ++ (x, nm) :: R).map prD) (d := prD (x, nm)) (by rw [ht]; rfl) (by omega) (by simp at hl; omega) atA ?_ rfl
        with_reducible refine TL_nil ?_
        refine gone_ok hK H (by omega) (by omega) I hA hR Z (by omega) (hn (x, nm) (by simp)) fun ν₁ fp₁ F₁ H₁ => ?_
        obtain ⟨ht, o1⟩ := F₁.out o1 ht
        obtain ⟨hs, o2⟩ := F₁.out o2 hs
        obtain ⟨c', rest, hc', I₁, hlast⟩ := I.take hA hR
        have Z₁ := Z.take I (by simp)
        with_reducible refine TT_bool ?_
        with_reducible refine ite_nt ?_
        with_reducible refine TSs_nil ?_
        with_reducible refine TSs_cons ?_
        refine TS_assign ?_ (by walk_at "m.sto") (fun _ => rfl)
        with_reducible refine TE_bin ?_
        refine TE_cut2 ht (by simp at hl; omega) ?_ ?_ ?_ ?_ (fun ν₂ r X₂ hr w₂ => ?_) (fun _ _ => rfl) (fun _ _ => rfl)
        · intro ν Q h; (refine' TE_name ?zzh1 ?_ ?zzh2 ?zzh3; (case zzh1 => walk_at "m.lk"); (case zzh2 => exact ofString_beq (by decide)); (case zzh3 => exact ofString_beq (by decide)))
          exact h
        · intro ν Q h; (refine' TE_name ?zzh1 ?_ ?zzh2 ?zzh3; (case zzh1 => walk_at "m.lk"); (case zzh2 => exact ofString_beq (by decide)); (case zzh3 => exact ofString_beq (by decide)))
          exact h
        · intro ν Q h; (refine' TE_name ?zzh1 ?_ ?zzh2 ?zzh3; (case zzh1 => walk_at "m.lk"); (case zzh2 => exact ofString_beq (by decide)); (case zzh3 => exact ofString_beq (by decide)))
          exact h
        · intro ν Q h; with_reducible refine TE_bin ?_
          (refine' TE_name ?zzh1 ?_ ?zzh2 ?zzh3; (case zzh1 => walk_at "m.lk"); (case zzh2 => exact ofString_beq (by decide)); (case zzh3 => exact ofString_beq (by decide)))
          with_reducible refine TE_int ?_
          with_reducible refine T2_add ?_
          exact h
        with_reducible refine TSs_nil ?_
        with_reducible refine TSs_nil ?_
        refine ⟨[(Str.ofString "_law_far", .bool fr), (Str.ofString "_law_store", .ref st), (Str.ofString "_law_things", .ref r), (Str.ofString "_law_last", .int x)], by walk_at "m.sub", fp₁, r, S.take, A ++ R, H₁.ext X₂, (fall_base S).trans hb, I₁, Z₁.mono (by omega), w₂, fun q => H₁.alive r q hr, (fun q => by rw [q, hs] at hr; cases hr), fun t ht => hn t ?_, by simp at hl ⊢; omega, X₂ _ _ hs, o2, by rw [show S.take.last = x from hlast]⟩
        rcases List.mem_append.mp ht with z | z
        · exact List.mem_append.mpr (.inl z)
        · exact List.mem_append.mpr (.inr (List.mem_cons_of_mem _ z))
      | false =>
        with_reducible refine ite_f ?_
        with_reducible refine TSs_cons ?_
        refine TS_assign ?_ (by walk_at "m.sto") (fun _ => rfl)
        with_reducible refine TE_bin ?_
        (refine' TE_name ?zzh1 ?_ ?zzh2 ?zzh3; (case zzh1 => walk_at "m.lk"); (case zzh2 => exact ofString_beq (by decide)); (case zzh3 => exact ofString_beq (by decide)))
        (refine' TE_callN ?zzh1 ?zzh2 ?_ ?zzh3 ?zzh4; (case zzh2 => (refine' mkFn (by assumption) ?zza ?zzb; (case zza => k_is); (case zzb => k_is))); (case zzh1 => rfl); (case zzh3 => exact ofString_beq (by decide)); (case zzh4 => rfl))
        refine TL_cons ?_ rfl
        (refine' TE_name ?zzh1 ?_ ?zzh2 ?zzh3; (case zzh1 => walk_at "m.lk"); (case zzh2 => exact ofString_beq (by decide)); (case zzh3 => exact ofString_beq (by decide)))
        refine TL_cons ?_ rfl
        (refine' TE_name ?zzh1 ?_ ?zzh2 ?zzh3; (case zzh1 => walk_at "m.lk"); (case zzh2 => exact ofString_beq (by decide)); (case zzh3 => exact ofString_beq (by decide)))
        with_reducible refine TL_nil ?_
        refine step_ok hK fun m => ?_
        refine T2_add ?_
        rw [show (S.last : Int) + (m : Int) = ((S.last + m : Nat) : Int) by omega]
        with_reducible refine TSs_cons ?_
        refine TS_assign ?_ (by walk_at "m.sto") (fun _ => rfl)
        (refine' TE_callN ?zzh1 ?zzh2 ?_ ?zzh3 ?zzh4; (case zzh2 => (refine' mkFn (by assumption) ?zza ?zzb; (case zza => k_is); (case zzb => k_is))); (case zzh1 => rfl); (case zzh3 => exact ofString_beq (by decide)); (case zzh4 => rfl))
        refine TL_cons ?_ rfl
        with_reducible refine TE_bin ?_
        (refine' TE_name ?zzh1 ?_ ?zzh2 ?zzh3; (case zzh1 => walk_at "m.lk"); (case zzh2 => exact ofString_beq (by decide)); (case zzh3 => exact ofString_beq (by decide)))
        with_reducible refine TE_int ?_
        refine T2_div (by first | decide | omega) (by first | decide | omega) ?_
        refine TL_cons ?_ rfl
        with_reducible refine TE_bin ?_
        with_reducible refine TE_bin ?_
        (refine' TE_name ?zzh1 ?_ ?zzh2 ?zzh3; (case zzh1 => walk_at "m.lk"); (case zzh2 => exact ofString_beq (by decide)); (case zzh3 => exact ofString_beq (by decide)))
        with_reducible refine TE_int ?_
        refine T2_div (by first | decide | omega) (by first | decide | omega) ?_
        with_reducible refine TE_int ?_
        refine T2_mod (by first | decide | omega) ?_
        have f21 := fmod_pos (c.fdiv 700) (b := 21) (by decide)
        with_reducible refine TL_nil ?_
        refine name_ok hK f21.1 (by omega) fun nm hnm => ?_
        with_reducible refine TSs_cons ?_
        refine TS_expr ?_ (fun _ => rfl)
        obtain ⟨T, dd, hT, hst', bk, hns⟩ := H.it
        refine TE_methM hS (m_put hK) ?_ (fun _ _ => rfl) rfl (by decide) rfl
        (refine' TE_name ?zzh1 ?_ ?zzh2 ?zzh3; (case zzh1 => walk_at "m.lk"); (case zzh2 => exact ofString_beq (by decide)); (case zzh3 => exact ofString_beq (by decide)))
        refine ⟨st, T, dd, _, rfl, hT, hst', hns, by walk_at "m.lkn", ?_⟩
        refine TL_cons ?_ rfl
        (refine' TE_name ?zzh1 ?_ ?zzh2 ?zzh3; (case zzh1 => walk_at "m.lk"); (case zzh2 => exact ofString_beq (by decide)); (case zzh3 => exact ofString_beq (by decide)))
        refine TL_cons ?_ rfl
        (refine' TE_name ?zzh1 ?_ ?zzh2 ?zzh3; (case zzh1 => walk_at "m.lk"); (case zzh2 => exact ofString_beq (by decide)); (case zzh3 => exact ofString_beq (by decide)))
        with_reducible refine TL_nil ?_
        have hzk := Z.keys
        refine put_ok hK H (by omega) (by omega) (by omega) (fun k => Nat.le_trans (Z.len k) (by omega)) (Nat.le_add_right _ _) fun ν₁ fp₁ F₁ H₁ => ?_
        obtain ⟨ht, o1⟩ := F₁.out o1 ht
        obtain ⟨hs, o2⟩ := F₁.out o2 hs
        have nth : th ≠ st := fun q => by
          obtain ⟨T, dd, _, q2, _⟩ := H₁.it
          rw [← q, ht] at q2; cases q2
        with_reducible refine TSs_cons ?_
        refine TS_expr ?_ (fun _ => rfl)
        refine TE_methL LM_append ?_ (fun _ _ => rfl) rfl (by decide) rfl
        (refine' TE_name ?zzh1 ?_ ?zzh2 ?zzh3; (case zzh1 => walk_at "m.lk"); (case zzh2 => exact ofString_beq (by decide)); (case zzh3 => exact ofString_beq (by decide)))
        refine ⟨th, by simp only [isL, ht], ?_⟩
        refine TL_cons ?_ rfl
        refine TE_tuple ?_
        refine TL_cons ?_ rfl
        (refine' TE_name ?zzh1 ?_ ?zzh2 ?zzh3; (case zzh1 => walk_at "m.lk"); (case zzh2 => exact ofString_beq (by decide)); (case zzh3 => exact ofString_beq (by decide)))
        refine TL_cons ?_ rfl
        (refine' TE_name ?zzh1 ?_ ?zzh2 ?zzh3; (case zzh1 => walk_at "m.lk"); (case zzh2 => exact ofString_beq (by decide)); (case zzh3 => exact ofString_beq (by decide)))
        with_reducible refine TL_nil ?_
        refine ⟨by simp, ?_⟩
        with_reducible refine TL_nil ?_
        refine TC_append ht (by rw [List.length_map]; omega) ?_
        with_reducible refine TSs_nil ?_
        with_reducible refine TSs_nil ?_
        refine ⟨[(Str.ofString "_law_far", .bool fr), (Str.ofString "_law_store", .ref st), (Str.ofString "_law_things", .ref th), (Str.ofString "_law_last", .int S.last)], by walk_at "m.sub", fp₁, th, S.put (S.last + m) nm, ts ++ [(S.last + m, nm)], H₁.upd nth o1, hb, I.put (Nat.le_add_right _ _), Z.put, ?_, o1, nts, fun t ht => ?_, by simp; omega, ?_, o2, rfl⟩
        · rw [upd_same]; simp [prD]
        · rcases List.mem_append.mp ht with z | z
          · exact hn t z
          · have : t = (S.last + m, nm) := by simpa using z
            subst this; exact hnm
        · rw [upd_other nts.symm]; exact hs
    · rintro l' ν' ⟨fp, th, S, ts, H, hb, I, Z, ht, o1, nts, hn, hl, hs, o2, rfl⟩
      rw [List.length_map] at Z hl
      exact ⟨_, by walk_at "m.sub", fp, th, S, ts, H, hb, I, Z.mono (by omega), ht, o1, hn, by omega, rfl⟩
  · rintro l₁ ν₁ ⟨fp, th, S, ts, H, hb, I, Z, ht, o1, hn, hl, rfl⟩
    refine TSs_mid (fun l' ν' => ∃ fp S, StoreAt C ν' st fp S ∧ Inv S [] ∧ Sz S 61 ∧ l' = [(Str.ofString "_law_store", .ref st)]) ?_ ?_
    · refine TS_while (K3 C st b 61) ts.length ⟨fp, th, S, ts, H, hb, I, Z, ht, o1, hn, hl, rfl, rfl⟩ ?_
      rintro k l' ν' ⟨fp, th, S, ts, H, hb, I, Z, ht, o1, hn, hl, rfl, rfl⟩
      refine TB_cmp ?_ rfl
      (refine' TE_name ?zzh1 ?_ ?zzh2 ?zzh3; (case zzh1 => walk_at "m.lk"); (case zzh2 => exact ofString_beq (by decide)); (case zzh3 => exact ofString_beq (by decide)))
      refine TE_list ?_
      with_reducible refine TL_nil ?_
      refine ⟨by simp, fun r0 hr0 => ?_⟩
      have X0 : Ext ν' (upd ν' r0 (.lst [])) := Ext.refl.upd hr0
      have n0 : upd ν' r0 (.lst []) r0 = some (.lst []) := upd_same
      obtain ⟨ν0, e0⟩ : ∃ ν0, ν0 = upd ν' r0 (.lst []) := ⟨_, rfl⟩
      rw [← e0] at X0 n0 ⊢
      have H := H.ext X0
      have ht := X0 _ _ ht
      refine T2_neNil (by rw [ht]; rfl) (by rw [n0]; rfl) hn ?_
      by_cases q : ts ≠ []
      · rw [decide_eq_false q]
        with_reducible refine TT_bool ?_
        with_reducible refine ite_nf ?_
        with_reducible refine TSs_cons ?_
        refine TS_assign ?_ (by walk_at "m.sto") (fun _ => rfl)
        (refine' TE_callN ?zzh1 ?zzh2 ?_ ?zzh3 ?zzh4; (case zzh2 => (refine' mkFn (by assumption) ?zza ?zzb; (case zza => k_is); (case zzb => k_is))); (case zzh1 => rfl); (case zzh3 => exact ofString_beq (by decide)); (case zzh4 => rfl))
        refine TL_cons ?_ rfl
        (refine' TE_name ?zzh1 ?_ ?zzh2 ?zzh3; (case zzh1 => walk_at "m.lk"); (case zzh2 => exact ofString_beq (by decide)); (case zzh3 => exact ofString_beq (by decide)))
        with_reducible refine TL_nil ?_
        refine first_ok hK ht q (by omega) fun A x nm R eA hA hR => ?_
        subst eA
        with_reducible refine TSs_cons ?_
        with_reducible refine TS_if ?_
        with_reducible refine TB_not ?_
        refine TB_val ?_ (fun _ _ => rfl)
        (refine' TE_callN ?zzh1 ?zzh2 ?_ ?zzh3 ?zzh4; (case zzh2 => (refine' mkFn (by assumption) ?zza ?zzb; (case zza => k_is); (case zzb => k_is))); (case zzh1 => rfl); (case zzh3 => exact ofString_beq (by decide)); (case zzh4 => rfl))
        refine TL_cons ?_ rfl
        (refine' TE_name ?zzh1 ?_ ?zzh2 ?zzh3; (case zzh1 => walk_at "m.lk"); (case zzh2 => exact ofString_beq (by decide)); (case zzh3 => exact ofString_beq (by decide)))
        refine TL_cons ?_ rfl
        refine TE_sub' ?_ rfl
        (refine' TE_name ?zzh1 ?_ ?zzh2 ?zzh3; (case zzh1 => walk_at "m.lk"); (case zzh2 => exact ofString_beq (by decide)); (case zzh3 => exact ofString_beq (by decide)))
        (refine' TE_name ?zzh1 ?_ ?zzh2 ?zzh3; (case zzh1 => walk_at "m.lk"); (case zzh2 => exact ofString_beq (by decide)); (case zzh3 => exact ofString_beq (by decide)))
        refine T2_itemL (ds := (A ++ (x, nm) :: R).map prD) (d := prD (x, nm)) (by rw [ht]; rfl) (by omega) (by simp at hl; omega) atA ?_ rfl
        with_reducible refine TL_nil ?_
        refine gone_ok hK H (by omega) (by omega) I hA hR Z (by omega) (hn (x, nm) (by simp)) fun ν₁ fp₁ F₁ H₁ => ?_
        obtain ⟨ht, o1⟩ := F₁.out o1 ht
        obtain ⟨c', rest, hc', I₁, hlast⟩ := I.take hA hR
        have Z₁ := Z.take I (by simp)
        with_reducible refine TT_bool ?_
        with_reducible refine ite_nt ?_
        with_reducible refine TSs_nil ?_
        with_reducible refine TSs_cons ?_
        refine TS_assign ?_ (by walk_at "m.sto") (fun _ => rfl)
        with_reducible refine TE_bin ?_
        refine TE_cut2 ht (by simp at hl; omega) ?_ ?_ ?_ ?_ (fun ν₂ r X₂ hr w₂ => ?_) (fun _ _ => rfl) (fun _ _ => rfl)
        · intro ν Q h; (refine' TE_name ?zzh1 ?_ ?zzh2 ?zzh3; (case zzh1 => walk_at "m.lk"); (case zzh2 => exact ofString_beq (by decide)); (case zzh3 => exact ofString_beq (by decide)))
          exact h
        · intro ν Q h; (refine' TE_name ?zzh1 ?_ ?zzh2 ?zzh3; (case zzh1 => walk_at "m.lk"); (case zzh2 => exact ofString_beq (by decide)); (case zzh3 => exact ofString_beq (by decide)))
          exact h
        · intro ν Q h; (refine' TE_name ?zzh1 ?_ ?zzh2 ?zzh3; (case zzh1 => walk_at "m.lk"); (case zzh2 => exact ofString_beq (by decide)); (case zzh3 => exact ofString_beq (by decide)))
          exact h
        · intro ν Q h; with_reducible refine TE_bin ?_
          (refine' TE_name ?zzh1 ?_ ?zzh2 ?zzh3; (case zzh1 => walk_at "m.lk"); (case zzh2 => exact ofString_beq (by decide)); (case zzh3 => exact ofString_beq (by decide)))
          with_reducible refine TE_int ?_
          with_reducible refine T2_add ?_
          exact h
        with_reducible refine TSs_nil ?_
        refine ⟨(A ++ R).length, _, by simp, by walk_at "m.sub", fp₁, r, S.take, A ++ R, H₁.ext X₂, (fall_base S).trans hb, I₁, Z₁, w₂, fun q => H₁.alive r q hr, fun t ht => hn t ?_, by simp at hl ⊢; omega, rfl, rfl⟩
        rcases List.mem_append.mp ht with z | z
        · exact List.mem_append.mpr (.inl z)
        · exact List.mem_append.mpr (.inr (List.mem_cons_of_mem _ z))
      · have q := Classical.not_not.mp q
        subst q
        rw [decide_eq_true rfl]
        with_reducible refine TT_bool ?_
        with_reducible refine ite_nt ?_
        exact ⟨_, by walk_at "m.sub", fp, S, H, I, Z, rfl⟩
    · rintro l₁ ν₂ ⟨fp, S, H, I, Z, rfl⟩
      obtain ⟨dd, bk, adr, hfp, HA⟩ := id H
      have hzk := Z.keys
      with_reducible refine TSs_cons ?_
      with_reducible refine TS_ret ?_
      with_reducible refine TE_boolop ?_
      with_reducible refine TO_and ?_
      refine TE_cmp ?_ rfl
      refine TE_fld hS hM HA rfl ?_ (fun _ _ => rfl)
      (refine' TE_name ?zzh1 ?_ ?zzh2 ?zzh3; (case zzh1 => walk_at "m.lk"); (case zzh2 => exact ofString_beq (by decide)); (case zzh3 => exact ofString_beq (by decide)))
      refine ⟨rfl, rfl, ?_⟩
      with_reducible refine TE_int ?_
      with_reducible refine T2_eq ?_
      with_reducible refine TT_bool ?_
      rw [I.many, decide_eq_true (by simp)]
      with_reducible refine ite_t ?_
      with_reducible refine TO_one ?_
      refine TE_cmp ?_ rfl
      obtain ⟨T, dd', hT, hst', bk', hns⟩ := H.it
      refine TE_methM hS (m_rows hK) ?_ (fun _ _ => rfl) rfl (by decide) rfl
      (refine' TE_name ?zzh1 ?_ ?zzh2 ?zzh3; (case zzh1 => walk_at "m.lk"); (case zzh2 => exact ofString_beq (by decide)); (case zzh3 => exact ofString_beq (by decide)))
      refine ⟨st, T, dd', _, rfl, hT, hst', hns, by walk_at "m.lkn", ?_⟩
      with_reducible refine TL_nil ?_
      refine rows_ok hK H (by omega) (fun k => Nat.le_trans (Z.len k) (by omega)) fun rw ks hrw hp hs => ?_
      rw [rowsD_nil I.nilB]
      have w : upd ν₂ rw (.lst []) rw = some (.lst []) := upd_same
      generalize upd ν₂ rw (.lst []) = ν₃ at w
      refine TE_list ?_
      with_reducible refine TL_nil ?_
      refine ⟨by simp, fun r0 hr0 => ?_⟩
      refine T2_eqNil (ts := []) (by rw [(Ext.refl.upd hr0) _ _ w]; rfl) (by rw [upd_same]; rfl) (by simp) ?_
      rw [decide_eq_true rfl]
      exact h _
end
end Mine

set_option maxRecDepth 100000
set_option maxHeartbeats 8000000
namespace Mine
open PySem PyProof.Rows PySem.W
theorem script_obj {P : Params} {h : Heap} {a : Addr} {vs : List Value} {xs : List PyData} (hL : h.IsList a vs.toArray) (hw : Well P h (.ref a) (ofPy (.list xs))) : h.get? a = some (lstObj vs 0) := by
  obtain ⟨o, ho, hc, n, hd⟩ := hL
  rw [show ofPy (.list xs) = .list (ofPys xs) by simp [ofPy]] at hw
  cases hw with
  | list e r =>
    rename_i us
    rw [ho] at e; cases e
    rw [ho]
    unfold lstObj
    injection hd with h1 h2
    subst h2
    have : us = vs := by simpa using h1
    rw [this]
end Mine
open PySem PySem.W PyProof.Rows
theorem PySem.Challenge.cw_uf060022_10_holds : PySem.Challenge.rw_uf060022_10.Holds := by
  refine holds_law Mine.said10 fun said => ?_
  refine holds_open (q := Mine.q10) (loose := []) (Xt := (fun s => xlAt Mine.q10 [] s && recOk (RowW.records (OpenLaw.row PySem.Challenge.rw_uf060022_10).toRowW) s)) (XP := XL Mine.q10 []) (Yf := Hook.obs Mine.Hk10) (Ya := Hook.val Mine.Hk10) (YP := Hook.says Mine.Hk10) (N := 1979) Mine.left10 (Hook.of Mine.Hk10) (Hook.keeps Mine.Hk10) (fun s e => xl_of s (Bool.and_eq_true_iff.mp e).1) XL.keeps (by rfl) (by rfl) (by rfl) (fun s e => recFacts_of (Bool.and_eq_true_iff.mp e).2) (by rfl) said (by decide +kernel) ⟨rfl, rfl, rfl, rfl, rfl, by decide +kernel⟩ ?hw ?hc
  case hw => w_witness2
  intro w s₀ s₁ mg mb G Y fa o pm cd doc dV kV ho hd hcd hD hmg hg args vals as hpre hlay hrd hwl hlo
  have KX := kIn_of Y
  refine Ground.open G ?_
  intro T B D TE TW
  wrow_args hpre hlay hrd hwl hlo
  refine enter_call ?_
  rename Well _ _ _ _ => w1
  rename Heap.IsList _ _ _ => hL
  rename IntsAre _ _ => hI
  rename (¬ ((_ : Int) < _)) => hn
  refine Mine.law_call (n := 7) (C := { prog := _, w := w, base := s₁.heap, K := Mine.K10 w.params, mg := mg, mb := mb, inK := KX, g := T.g, b := T.b, nolimit := T.nolimit, blts := T.builtins, nodigits := T.nodigits }) rfl (Mine.script_obj hL w1) hI hg (by decide) ?_ ?_ ?_
  · first | exact fun _ => rfl | (exact raisesW_false (by wrow_none_raised))
  · first | rfl | exact postW_of rfl (by wtm_val) rfl
  · exact Mine.law_ok (n := 0) rfl (a := _) (ns := _) (if_pos rfl) (by omega) (fun _ => rfl) fa hmg

