import PyProof.Rows.All
import Wide.All
import OpenK.AllK
import Wide.FinOn
import PyProof.Cells
import PyProof.ForAny
import PyProof.Loops
import PyProof.Rules2
import PyProof.Rules3
import PyProof.Calls
import PyProof.DictRoads
import PyProof.DictKinds
import PyProof.Rows.BootFacts
import OpenK.TopRead
import PyProof.RangeFor
import PyProof.Walks
import PyProof.CallType
import PyProof.Rows.RuleB_mod
import PyProof.Rows.RuleB_floordiv
import PyProof.Rows.RuleB_mul
import PyProof.Rows.RuleB_pow
import PyProof.Rows.RuleB_sub
import PyProof.Rows.RuleC_int
import PyProof.Rows.RuleU_int
import PyProof.Rows.IntRules
import PyProof.Rows.StrRules
import PyProof.Rows.TupSub
import PyProof.Rows.StrTemp
import PyProof.Rows.Lst
import PyProof.Rows.TupMore
import PyProof.PureInt
import PyProof.Truth
import PyProof.ListTruth
import PyProof.Rows.Method
import PyProof.ListOps
import PyProof.MeetsSeq
import PyProof.IsInstance
import PyProof.IsInstanceH
import PyProof.IsiFacts
import PyProof.ListCopy
import PyProof.DictTruth
import PyProof.Rows.SortWalk
import PyProof.SliceMore
import PyProof.Rows.SeqSlice
import OpenK.KLine
import PyProof.AssignAttr
import PyProof.Raises
import PyProof.DictStraight
import PyProof.Rows.TupAssign
import PyProof.StrLoop
import PyProof.StrBlockI
import PyProof.StrCalls3
import PyProof.SliceStr2
import KE.KxText
import PyProof.CompFree
import PyProof.WalksMore
import PyProof.SeqI3
import KE.KDictList
import PyProof.NeData
import PyProof.P3Eq
import PyProof.MinMaxWalk
import PyProof.WalkInts
import PyProof.Rows.CallKwBuiltin
import PyProof.CallStr
import PyProof.Conv_int_bool
import KE.KItem
import KE.KTryOn
import KE.KTryMore
import PyProof.Rows.TupIter
import KE.KIsAll
import PyProof.CompUse
import PyProof.NsDelKeeps
import KE.RegKIsAll
import KE.RegKTryMore
import Lean
import PySem.Challenge.RW_uf060022_04
set_option Elab.async false
set_option genInjectivity false
set_option genSizeOf false
namespace Mine
open PySem

/-- abstract data: what a value reads as; tuples are data, mutable objects stand as refs -/
inductive D where
  | none
  | bool (b : Bool)
  | int (i : Int)
  | str (x : Str)
  | tup (l : List D)
  | rng (m : Int)
  | ref (a : Addr)
  | val (v : Value)

noncomputable def tupObj (vs : List Value) (n : Nat) : Obj := { cls := .type "tuple", data := .seq vs.toArray n }
noncomputable def lstObj (vs : List Value) (n : Nat) : Obj := { cls := .type "list", data := .seq vs.toArray n }
noncomputable def dctObj (es : List DictEntry) (n : Nat) : Obj := { cls := .type "dict", data := .dict es.toArray n }
noncomputable def rngObj (m : Int) (t u v : Tok) : Obj := { cls := .type "range", data := .fields #[.int 0 t, .int m u, .int 1 v] }
noncomputable def insObj (C d : Addr) : Obj := { cls := .ref C, dict := some d }

mutual
inductive RV (h : Heap) : Value → D → Prop
  | none : RV h .none .none
  | bool (b : Bool) : RV h (.bool b) (.bool b)
  | int (i : Int) (t : Tok) : RV h (.int i t) (.int i)
  | str (x : Str) (t : Tok) : RV h (.str x t) (.str x)
  | tup {a : Addr} {vs : List Value} {n : Nat} {ds : List D} : h.get? a = some (tupObj vs n) → RVs h vs ds → RV h (.ref a) (.tup ds)
  | rng {a : Addr} {m : Int} {t u v : Tok} : h.get? a = some (rngObj m t u v) → RV h (.ref a) (.rng m)
  | ref (a : Addr) : RV h (.ref a) (.ref a)
  | val (v : Value) : RV h v (.val v)
inductive RVs (h : Heap) : List Value → List D → Prop
  | nil : RVs h [] []
  | cons {v : Value} {vs : List Value} {d : D} {ds : List D} : RV h v d → RVs h vs ds → RVs h (v :: vs) (d :: ds)
end

theorem RV.int_inv {h : Heap} {v : Value} {i : Int} (r : RV h v (.int i)) : ∃ t, v = .int i t := by cases r; exact ⟨_, rfl⟩
theorem RV.str_inv {h : Heap} {v : Value} {x : Str} (r : RV h v (.str x)) : ∃ t, v = .str x t := by cases r; exact ⟨_, rfl⟩
theorem RV.ref_inv {h : Heap} {v : Value} {a : Addr} (r : RV h v (.ref a)) : v = .ref a := by cases r; rfl
theorem RV.bool_inv {h : Heap} {v : Value} {b : Bool} (r : RV h v (.bool b)) : v = .bool b := by cases r; rfl
theorem RV.val_inv {h : Heap} {v u : Value} (r : RV h v (.val u)) : v = u := by cases r; rfl
theorem RVs.nil_inv {h : Heap} {vs : List Value} (r : RVs h vs []) : vs = [] := by cases r; rfl
theorem RVs.cons_inv {h : Heap} {vs : List Value} {d : D} {ds : List D} (r : RVs h vs (d :: ds)) : ∃ v vs', vs = v :: vs' ∧ RV h v d ∧ RVs h vs' ds := by cases r; exact ⟨_, _, rfl, ‹_›, ‹_›⟩

/-- what never changes -/
inductive Imm : Obj → Prop
  | tup (vs : List Value) (n : Nat) : Imm (tupObj vs n)
  | rng (m : Int) (t u v : Tok) : Imm (rngObj m t u v)
theorem Imm.cls {o : Obj} (h : Imm o) : o.cls = .type "tuple" ∨ o.cls = .type "range" := by cases h; exact .inl rfl; exact .inr rfl
/-- tuples and ranges of h stand in h' -/
noncomputable def TupKeep (h h' : Heap) : Prop := ∀ a o, h.get? a = some o → Imm o → h'.get? a = some o

mutual
theorem RV.keep {h h' : Heap} (k : TupKeep h h') : ∀ {v d}, RV h v d → RV h' v d
  | _, _, .none => .none
  | _, _, .bool b => .bool b
  | _, _, .int i t => .int i t
  | _, _, .str x t => .str x t
  | _, _, .tup e r => .tup (k _ _ e (.tup ..)) (RVs.keep k r)
  | _, _, .rng e => .rng (k _ _ e (.rng ..))
  | _, _, .ref a => .ref a
  | _, _, .val v => .val v
theorem RVs.keep {h h' : Heap} (k : TupKeep h h') : ∀ {vs ds}, RVs h vs ds → RVs h' vs ds
  | _, _, .nil => .nil
  | _, _, .cons e r => .cons (RV.keep k e) (RVs.keep k r)
end

theorem RVs.length {h : Heap} {vs : List Value} {ds : List D} (r : RVs h vs ds) : vs.length = ds.length := by
  induction vs generalizing ds with
  | nil => cases r; rfl
  | cons v vs ih => cases r with | cons _ r => simp [ih r]
theorem RVs.append {h : Heap} {vs ws : List Value} {ds es : List D} (r : RVs h vs ds) (q : RVs h ws es) : RVs h (vs ++ ws) (ds ++ es) := by
  induction vs generalizing ds with
  | nil => cases r; exact q
  | cons v vs ih => cases r with | cons e r => exact .cons e (ih r)
theorem RVs.get {h : Heap} {vs : List Value} {ds : List D} (r : RVs h vs ds) {k : Nat} {d : D} (hk : ds[k]? = some d) : ∃ v, vs[k]? = some v ∧ RV h v d := by
  induction vs generalizing ds k with
  | nil => cases r; simp at hk
  | cons v vs ih =>
    cases r with
    | cons e r =>
      cases k with
      | zero => simp at hk; subst hk; exact ⟨v, rfl, e⟩
      | succ k => simpa using ih r (by simpa using hk)
/-- association lists by name -/
noncomputable def lk (l : List (Str × D)) (x : Str) : Option D :=
  match l with
  | [] => none
  | (y, d) :: r => if x = y then some d else lk r x
noncomputable def put (l : List (Str × D)) (x : Str) (d : D) : List (Str × D) :=
  match l with
  | [] => [(x, d)]
  | (y, e) :: r => if x = y then (y, d) :: r else (y, e) :: put r x d
theorem lk_put (l : List (Str × D)) (x y : Str) (d : D) : lk (put l x d) y = if y = x then some d else lk l y := by
  induction l with
  | nil => simp [put, lk]
  | cons p r ih =>
    obtain ⟨z, e⟩ := p
    by_cases hx : x = z
    · subst hx; simp only [put, if_true, lk]; by_cases hy : y = x <;> simp [hy]
    · simp only [put, hx, if_false, lk, ih]
      by_cases hy : y = z
      · subst hy; have : ¬ y = x := fun e => hx e.symm; simp [this]
      · simp [hy]

/-- abstract objects -/
inductive AObj where
  | lst (ds : List D)
  | scr (ds : List D)
  | dI (es : List (Int × D))
  | dS (es : List (Str × D))
  | inst (C d : Addr)
  | ns (fs : List (Str × D))
  | raw (o : Obj)

abbrev Nu := Addr → Option AObj
noncomputable def upd (ν : Nu) (a : Addr) (o : AObj) : Nu := fun b => if b = a then some o else ν b

end Mine

namespace Mine
open PySem

/-- what stays the same all through a law's call -/
structure Cx where
  prog : Program
  w : World
  base : Heap
  K : List (Addr × Obj)
  mg : Str → Option Value
  mb : Str → Option Value
  inK : ∀ a o, K.lookup a = some o → base.get? a = some o
  g : base.Ns mainGlobals mg
  b : base.Ns builtinsNs mb
  nolimit : base.NoLimit
  blts : ∀ x : Str, x ≠ "__name__" → mb x = bootBuiltins x
  hd : Option Value
  tr : ∃ p loose, PySem.W.TopRead p loose mg mb base
  nodigits : ∃ mc, base.Ns cStatics mc ∧ mc "sys.int_max_str_digits" = none

inductive KVs {K : Type} (h : Heap) : List (K × Value) → List (K × D) → Prop
  | nil : KVs h [] []
  | cons {k : K} {v : Value} {d : D} {r : List (K × Value)} {s : List (K × D)} : RV h v d → KVs h r s → KVs h ((k, v) :: r) ((k, d) :: s)
theorem KVs.keep {K : Type} {h h' : Heap} (k : TupKeep h h') {r : List (K × Value)} {s : List (K × D)} (x : KVs h r s) : KVs h' r s := by
  induction x with
  | nil => exact .nil
  | cons a _ ih => exact .cons (a.keep k) ih
noncomputable def NsOk (h : Heap) (es : List DictEntry) (fs : List (Str × D)) : Prop :=
  (∀ e ∈ es, ∃ x t, e.key = .str x t) ∧ es.length ≤ fs.length ∧
  ∀ x, match lk fs x with
    | some d => ∃ v, nsFind es.toArray x = some v ∧ RV h v d
    | none => nsFind es.toArray x = none

noncomputable def ObjAt (C : Cx) (h : Heap) (a : Addr) : AObj → Prop
  | .lst ds => ∃ vs n, h.get? a = some (lstObj vs n) ∧ RVs h vs ds
  | .scr ds => ∃ vs n, h.get? a = some (lstObj vs n) ∧ RVs h vs ds
  | .dI es => ∃ kvs, h.DictOf (intKind C.prog C.w) a kvs ∧ KVs h kvs es
  | .dS es => ∃ kvs, h.DictOf (strKind C.prog C.w) a kvs ∧ KVs h kvs es
  | .inst T d => h.get? a = some (insObj T d)
  | .ns fs => ∃ es n, h.get? a = some (dctObj es n) ∧ NsOk h es fs
  | .raw o => h.get? a = some o ∧ ¬ Imm o

structure Ref (C : Cx) (ν : Nu) (h : Heap) : Prop where
  keep : ∀ b o, C.base.get? b = some o → h.get? b = some o
  at_ : ∀ a o, ν a = some o → ObjAt C h a o
  own : ∀ a o, ν a = some o → (∀ ds, o ≠ .scr ds) → (∀ ob, o ≠ .raw ob) → C.base.objs.size ≤ a

/-- a class of the heap's object at a -/
theorem ObjAt.get {C : Cx} {h : Heap} {a : Addr} {o : AObj} (x : ObjAt C h a o) : ∃ ob, h.get? a = some ob ∧ ¬ Imm ob := by
  have nn : ∀ ob : Obj, ob.cls ≠ .type "tuple" → ob.cls ≠ .type "range" → ¬ Imm ob := fun ob h1 h2 h => h.cls.elim h1 h2
  cases o with
  | lst ds => obtain ⟨vs, n, e, _⟩ := x; exact ⟨_, e, nn _ (by simp [lstObj]) (by simp [lstObj])⟩
  | scr ds => obtain ⟨vs, n, e, _⟩ := x; exact ⟨_, e, nn _ (by simp [lstObj]) (by simp [lstObj])⟩
  | dI es =>
    obtain ⟨vs, hd, _⟩ := x
    obtain ⟨o, es, ep, ho, hx, hdd, _⟩ := hd.mapOf
    exact ⟨o, ho, nn _ (by rw [hx.1]; simp) (by rw [hx.1]; simp)⟩
  | dS es =>
    obtain ⟨vs, hd, _⟩ := x
    obtain ⟨o, es, ep, ho, hx, hdd, _⟩ := hd.mapOf
    exact ⟨o, ho, nn _ (by rw [hx.1]; simp) (by rw [hx.1]; simp)⟩
  | inst T d => exact ⟨_, x, nn _ (by simp [insObj]) (by simp [insObj])⟩
  | ns fs => obtain ⟨es, n, e, _⟩ := x; exact ⟨_, e, nn _ (by simp [dctObj]) (by simp [dctObj])⟩
  | raw o => exact ⟨o, x.1, x.2⟩
theorem ObjAt.lt {C : Cx} {h : Heap} {a : Addr} {o : AObj} (x : ObjAt C h a o) : a < h.objs.size := let ⟨_, e, _⟩ := x.get; Heap.lt_size e

theorem ObjAt.keep {C : Cx} {h h' : Heap} {a : Addr} {o : AObj} (x : ObjAt C h a o) (k : TupKeep h h') (e : h'.get? a = h.get? a) : ObjAt C h' a o := by
  cases o with
  | lst ds => obtain ⟨vs, n, e', r⟩ := x; exact ⟨vs, n, e.trans e', r.keep k⟩
  | scr ds => obtain ⟨vs, n, e', r⟩ := x; exact ⟨vs, n, e.trans e', r.keep k⟩
  | dI es => obtain ⟨vs, ⟨o, q⟩, r⟩ := x; obtain ⟨es', ep, ho, z⟩ := q; exact ⟨vs, ⟨o, es', ep, e.trans ho, z⟩, r.keep k⟩
  | dS es => obtain ⟨vs, ⟨o, q⟩, r⟩ := x; obtain ⟨es', ep, ho, z⟩ := q; exact ⟨vs, ⟨o, es', ep, e.trans ho, z⟩, r.keep k⟩
  | inst T d => exact e.trans x
  | raw o => exact ⟨e.trans x.1, x.2⟩
  | ns fs =>
    obtain ⟨es, n, e', h1, h2, h3⟩ := x
    refine ⟨es, n, e.trans e', h1, h2, fun y => ?_⟩
    have := h3 y
    split at this
    · obtain ⟨v, a, b⟩ := this; exact ⟨v, a, b.keep k⟩
    · exact this

/-- s' comes of s: outside ν and 'own' nothing that stood is changed -/
structure Fro (own : Addr → Prop) (ν ν' : Nu) (s s' : Shared) : Prop where
  eq : ∃ h' t', s' = { s with heap := h', toks := t' }
  keep : ∀ b o, s.heap.get? b = some o → ν b = none → ¬ own b → s'.heap.get? b = some o
  alive : ∀ b o, s.heap.get? b = some o → ν b = none → ∃ o', s'.heap.get? b = some o'
  dom : ∀ b o, s.heap.get? b = some o → ν b = none → ν' b = none

noncomputable def no : Addr → Prop := fun _ => False

theorem Fro.refl {own : Addr → Prop} {ν : Nu} {s : Shared} : Fro own ν ν s s := ⟨⟨s.heap, s.toks, rfl⟩, fun _ _ e _ _ => e, fun _ o e _ => ⟨o, e⟩, fun _ _ _ h => h⟩
theorem Fro.toks {own : Addr → Prop} {ν : Nu} {s : Shared} {t : Nat} : Fro own ν ν s { s with toks := t } := ⟨⟨s.heap, t, rfl⟩, fun _ _ e _ _ => e, fun _ o e _ => ⟨o, e⟩, fun _ _ _ h => h⟩
theorem Fro.trans {own : Addr → Prop} {ν ν' ν'' : Nu} {s s' s'' : Shared} (x : Fro own ν ν' s s') (y : Fro own ν' ν'' s' s'') : Fro own ν ν'' s s'' := by
  obtain ⟨⟨h', t', rfl⟩, a1, a2, a3⟩ := x
  obtain ⟨⟨h'', t'', rfl⟩, b1, b2, b3⟩ := y
  exact ⟨⟨h'', t'', rfl⟩, fun b o e hn ho => b1 b o (a1 b o e hn ho) (a3 b o e hn) ho, fun b o e hn => let ⟨o', e'⟩ := a2 b o e hn; b2 b o' e' (a3 b o e hn), fun b o e hn => let ⟨o', e'⟩ := a2 b o e hn; b3 b o' e' (a3 b o e hn)⟩
theorem Fro.weaken {own own' : Addr → Prop} {ν ν' : Nu} {s s' : Shared} (x : Fro own ν ν' s s') (h : ∀ b, own b → own' b) : Fro own' ν ν' s s' :=
  ⟨x.eq, fun b o e hn ho => x.keep b o e hn fun q => ho (h b q), x.alive, x.dom⟩
/-- all that stood stands -/
theorem Fro.ofKeep {own : Addr → Prop} {ν : Nu} {s : Shared} {h' : Heap} {t : Nat} (k : ∀ b o, s.heap.get? b = some o → h'.get? b = some o) : Fro own ν ν s { s with heap := h', toks := t } :=
  ⟨⟨h', t, rfl⟩, fun b o e _ _ => k b o e, fun b o e _ => ⟨o, k b o e⟩, fun _ _ _ h => h⟩

/-- tuples are kept when nothing of 'own' is a tuple -/
theorem Fro.tups {C : Cx} {own : Addr → Prop} {ν ν' : Nu} {s s' : Shared} (x : Fro own ν ν' s s') (R : Ref C ν s.heap) (ho : ∀ b o, own b → s.heap.get? b = some o → ¬ Imm o) : TupKeep s.heap s'.heap := by
  intro a o e hi
  refine x.keep a _ e ?_ fun q => ho a o q e hi
  cases q : ν a with
  | none => rfl
  | some o' =>
    obtain ⟨ob, e', hc⟩ := (R.at_ a o' q).get
    rw [e] at e'; cases e'
    exact absurd hi hc

abbrev Loc := List (Str × D)

structure Frm (C : Cx) (env : Env) (sc : Scope) (l : Loc) (ν : Nu) (h : Heap) : Prop where
  scope : env.scope = sc
  kind : sc.kind = .function
  glob : env.globals = mainGlobals
  blt : env.builtins = builtinsNs
  ns : ∃ m, h.Ns env.locals m ∧ ∀ x d, lk l x = some d → sc.names.lookup x = some .local → ∃ v, m x = some v ∧ RV h v d
  cell : ∀ x c, env.cells.lookup x = some c → ∃ v, h.IsCell c v ∧ ∀ d, lk l x = some d → sc.names.lookup x ≠ some .local → ∃ u, v = some u ∧ RV h u d
  kinds : ∀ x d, lk l x = some d → sc.names.lookup x = some .local ∨ ((sc.names.lookup x = some .cell ∨ sc.names.lookup x = some .free) ∧ ∃ c, env.cells.lookup x = some c)
  cells : ∀ x, sc.names.lookup x = some .cell → ∃ c, env.cells.lookup x = some c
  nuL : ν env.locals = none
  nuC : ∀ x c, env.cells.lookup x = some c → ν c = none
  apart : ∀ x y c, env.cells.lookup x = some c → env.cells.lookup y = some c → x = y
  above : C.base.objs.size ≤ env.locals
  aboveC : ∀ x c, env.cells.lookup x = some c → C.base.objs.size ≤ c

/-- the places of a frame -/
noncomputable def fr (env : Env) (b : Addr) : Prop := b = env.locals ∨ ∃ x, env.cells.lookup x = some b

theorem Frm.notTup {C : Cx} {env : Env} {sc : Scope} {l : Loc} {ν : Nu} {h : Heap} (F : Frm C env sc l ν h) : ∀ b o, fr env b → h.get? b = some o → ¬ Imm o := by
  rintro b o' (rfl | ⟨x, hx⟩) e hi
  · obtain ⟨m, ⟨o, es, ep, ho, hd, _⟩, _⟩ := F.ns
    rw [e] at ho; cases ho; cases hi <;> cases hd
  · obtain ⟨v, ⟨o, ho, hd⟩, _⟩ := F.cell x b hx
    rw [e] at ho; cases ho; cases hi <;> cases hd

theorem Frm.ltL {C : Cx} {env : Env} {sc : Scope} {l : Loc} {ν : Nu} {h : Heap} (F : Frm C env sc l ν h) : env.locals < h.objs.size := let ⟨_, hn, _⟩ := F.ns; hn.lt
theorem Frm.ltC {C : Cx} {env : Env} {sc : Scope} {l : Loc} {ν : Nu} {h : Heap} (F : Frm C env sc l ν h) {x : Str} {c : Addr} (hc : env.cells.lookup x = some c) : c < h.objs.size := let ⟨_, hn, _⟩ := F.cell x c hc; hn.lt
theorem Frm.neC {C : Cx} {env : Env} {sc : Scope} {l : Loc} {ν : Nu} {h : Heap} (F : Frm C env sc l ν h) {x : Str} {c : Addr} (hc : env.cells.lookup x = some c) : c ≠ env.locals := by
  rintro rfl
  obtain ⟨m, ⟨o, es, ep, ho, hd, _⟩, _⟩ := F.ns
  obtain ⟨v, ⟨o', ho', hd'⟩, _⟩ := F.cell x _ hc
  rw [ho] at ho'; cases ho'; rw [hd] at hd'; cases hd'

theorem Frm.fro {C : Cx} {env : Env} {sc : Scope} {l : Loc} {ν ν' : Nu} {s s' : Shared} (F : Frm C env sc l ν s.heap) (R : Ref C ν s.heap) (x : Fro no ν ν' s s') : Frm C env sc l ν' s'.heap := by
  have k := x.tups R fun _ _ q => q.elim
  refine ⟨F.scope, F.kind, F.glob, F.blt, ?_, fun y c hc => ?_, F.kinds, F.cells, ?_, fun y c hc => ?_, F.apart, F.above, F.aboveC⟩
  · obtain ⟨m, ⟨o, es, ep, ho, r⟩, hm⟩ := F.ns
    exact ⟨m, ⟨o, es, ep, x.keep _ _ ho F.nuL id, r⟩, fun y d h1 h2 => let ⟨v, a, b⟩ := hm y d h1 h2; ⟨v, a, b.keep k⟩⟩
  · obtain ⟨v, ⟨o, ho, hd⟩, q⟩ := F.cell y c hc
    exact ⟨v, ⟨o, x.keep _ _ ho (F.nuC y c hc) id, hd⟩, fun d h1 h2 => let ⟨u, a, b⟩ := q d h1 h2; ⟨u, a, b.keep k⟩⟩
  · obtain ⟨m, ⟨o, es, ep, ho, r⟩, hm⟩ := F.ns
    exact x.dom _ _ ho F.nuL
  · obtain ⟨v, ⟨o, ho, hd⟩, q⟩ := F.cell y c hc
    exact x.dom _ _ ho (F.nuC y c hc)

/-- fewer names are known -/
noncomputable def Sub (l' l : Loc) : Prop := ∀ x d, lk l' x = some d → lk l x = some d
theorem Frm.sub {C : Cx} {env : Env} {sc : Scope} {l l' : Loc} {ν : Nu} {h : Heap} (F : Frm C env sc l ν h) (s : Sub l' l) : Frm C env sc l' ν h := by
  obtain ⟨m, hn, hm⟩ := F.ns
  exact ⟨F.scope, F.kind, F.glob, F.blt, ⟨m, hn, fun x d h1 h2 => hm x d (s x d h1) h2⟩, fun x c hc => let ⟨v, a, b⟩ := F.cell x c hc; ⟨v, a, fun d h1 h2 => b d (s x d h1) h2⟩, fun x d h1 => F.kinds x d (s x d h1), F.cells, F.nuL, F.nuC, F.apart, F.above, F.aboveC⟩

theorem Frm.baseLe {C : Cx} {env : Env} {sc : Scope} {l : Loc} {ν : Nu} {h : Heap} (F : Frm C env sc l ν h) : C.base.objs.size ≤ h.objs.size := Nat.le_trans F.above (Nat.le_of_lt F.ltL)

noncomputable def Aok (C : Cx) (n : Nat) (A : Around) : Prop := A.handled = C.hd ∧ A.depth + n < 990 ∧ A.units + 30 * n < 9800
theorem Aok.deeper {C : Cx} {n : Nat} {A : Around} (h : Aok C (n + 1) A) (env : Env) : Aok C n (A.deeper env) := ⟨h.1, by have := h.2.1; show A.depth + 1 + n < _; omega, by have := h.2.2; show A.units + 3 + _ < _; omega⟩
theorem Aok.room {C : Cx} {n : Nat} {A : Around} (h : Aok C n A) : A.depth < recursionLimit := by have := h.2.1; unfold recursionLimit; omega
/-- what a tree that yields a value must do -/
inductive PostV (C : Cx) (ν : Nu) (s : Shared) (Q : D → Nu → Prop) (v : Value) (s' : Shared) : Prop
  | mk (d : D) (ν' : Nu) (rv : RV s'.heap v d) (R : Ref C ν' s'.heap) (x : Fro no ν ν' s s') (q : Q d ν') : PostV C ν s Q v s'
inductive PostB (C : Cx) (ν : Nu) (s : Shared) (Q : Bool → Nu → Prop) (b : Bool) (s' : Shared) : Prop
  | mk (ν' : Nu) (R : Ref C ν' s'.heap) (x : Fro no ν ν' s s') (q : Q b ν') : PostB C ν s Q b s'
inductive PostL (C : Cx) (ν : Nu) (s : Shared) (Q : List D → Nu → Prop) (vs : List Value) (s' : Shared) : Prop
  | mk (ds : List D) (ν' : Nu) (rv : RVs s'.heap vs ds) (R : Ref C ν' s'.heap) (x : Fro no ν ν' s s') (q : Q ds ν') : PostL C ν s Q vs s'
noncomputable def nev : Value → Shared → Prop := fun _ _ => False

noncomputable def TE (C : Cx) (n : Nat) (sc : Scope) (e : Expr) (l : Loc) (ν : Nu) (Q : D → Nu → Prop) : Prop :=
  ∀ A env s, Aok C n A → Ref C ν s.heap → Frm C env sc l ν s.heap → wpAny (model C.prog C.w) A (eval e env) (PostV C ν s Q) nev s
noncomputable def TB (C : Cx) (n : Nat) (sc : Scope) (e : Expr) (l : Loc) (ν : Nu) (Q : Bool → Nu → Prop) : Prop :=
  ∀ A env s, Aok C n A → Ref C ν s.heap → Frm C env sc l ν s.heap → wpAny (model C.prog C.w) A (isTrue e env (eval e env)) (PostB C ν s Q) nev s
noncomputable def TL (C : Cx) (n : Nat) (sc : Scope) (es : List Expr) (l : Loc) (ν : Nu) (Q : List D → Nu → Prop) : Prop :=
  ∀ A env s pos, Aok C n A → Ref C ν s.heap → Frm C env sc l ν s.heap → wpAny (model C.prog C.w) A (spliced (backTo pos (starEach es env))) (PostL C ν s Q) nev s
/-- a tree over one value, over two -/
noncomputable def T1 (C : Cx) (n : Nat) (f : Value → Sem Value) (d : D) (ν : Nu) (Q : D → Nu → Prop) : Prop :=
  ∀ A s v, Aok C n A → Ref C ν s.heap → C.base.objs.size ≤ s.heap.objs.size → RV s.heap v d → wpAny (model C.prog C.w) A (f v) (PostV C ν s Q) nev s
noncomputable def T2 (C : Cx) (n : Nat) (f : Value → Value → Sem Value) (d e : D) (ν : Nu) (Q : D → Nu → Prop) : Prop :=
  ∀ A s v u, Aok C n A → Ref C ν s.heap → C.base.objs.size ≤ s.heap.objs.size → RV s.heap v d → RV s.heap u e → wpAny (model C.prog C.w) A (f v u) (PostV C ν s Q) nev s
noncomputable def TT (C : Cx) (n : Nat) (d : D) (ν : Nu) (Q : Bool → Nu → Prop) : Prop :=
  ∀ A s v, Aok C n A → Ref C ν s.heap → C.base.objs.size ≤ s.heap.objs.size → RV s.heap v d → wpAny (model C.prog C.w) A (truthy v) (PostB C ν s Q) nev s
/-- a call -/
noncomputable def TC (C : Cx) (n : Nat) (f : Value) (ds : List D) (ν : Nu) (Q : D → Nu → Prop) : Prop :=
  ∀ A s vs, Aok C n A → Ref C ν s.heap → C.base.objs.size ≤ s.heap.objs.size → RVs s.heap vs ds → wpAny (model C.prog C.w) A (call f vs) (PostV C ν s Q) nev s

inductive Fl where
  | next | brk | cont
  | ret (d : D)
inductive FlR (h : Heap) : Flow → Fl → Prop
  | next : FlR h .next .next
  | brk : FlR h .brk .brk
  | cont : FlR h .cont .cont
  | ret {v d} : RV h v d → FlR h (.ret v) (.ret d)

inductive PostS (C : Cx) (env : Env) (sc : Scope) (ν : Nu) (s : Shared) (Q : Fl → Loc → Nu → Prop) (f : Flow) (s' : Shared) : Prop
  | mk (fl : Fl) (l' : Loc) (ν' : Nu) (fr_ : FlR s'.heap f fl) (R : Ref C ν' s'.heap) (F : Frm C env sc l' ν' s'.heap) (x : Fro (fr env) ν ν' s s') (q : Q fl l' ν') : PostS C env sc ν s Q f s'
noncomputable def TS (C : Cx) (n : Nat) (sc : Scope) (st : Stmt) (l : Loc) (ν : Nu) (Q : Fl → Loc → Nu → Prop) : Prop :=
  ∀ A env s, Aok C n A → Ref C ν s.heap → Frm C env sc l ν s.heap → wpAny (model C.prog C.w) A (exec st env) (PostS C env sc ν s Q) nev s
noncomputable def TSs (C : Cx) (n : Nat) (sc : Scope) (st : List Stmt) (l : Loc) (ν : Nu) (Q : Fl → Loc → Nu → Prop) : Prop :=
  ∀ A env s, Aok C n A → Ref C ν s.heap → Frm C env sc l ν s.heap → wpAny (model C.prog C.w) A (execs st env) (PostS C env sc ν s Q) nev s

end Mine

namespace Mine
open PySem

section
variable {C : Cx} {n : Nat} {sc : Scope} {l : Loc} {ν : Nu}

theorem PostV.after {ν₁ : Nu} {s s₁ : Shared} {Q : D → Nu → Prop} (x : Fro no ν ν₁ s s₁) {v : Value} {s' : Shared} (p : PostV C ν₁ s₁ Q v s') : PostV C ν s Q v s' :=
  let ⟨d, ν', a, b, c, q⟩ := p; ⟨d, ν', a, b, x.trans c, q⟩
theorem PostB.after {ν₁ : Nu} {s s₁ : Shared} {Q : Bool → Nu → Prop} (x : Fro no ν ν₁ s s₁) {v : Bool} {s' : Shared} (p : PostB C ν₁ s₁ Q v s') : PostB C ν s Q v s' :=
  let ⟨ν', b, c, q⟩ := p; ⟨ν', b, x.trans c, q⟩
theorem noTup {s : Shared} : ∀ b o, no b → s.heap.get? b = some o → ¬ Imm o := fun _ _ q => q.elim
theorem RV.fro {ν ν' : Nu} {s s' : Shared} {v : Value} {d : D} (a : RV s.heap v d) (R : Ref C ν s.heap) (x : Fro no ν ν' s s') : RV s'.heap v d := a.keep (x.tups R noTup)
/-- an end that changes the tokens alone -/
theorem postV_toks {s : Shared} {Q : D → Nu → Prop} {v : Value} {d : D} {t : Nat} (R : Ref C ν s.heap) (a : RV s.heap v d) (q : Q d ν) : PostV C ν s Q v { s with toks := t } := ⟨d, ν, a, R, .toks, q⟩
theorem postV_here {s : Shared} {Q : D → Nu → Prop} {v : Value} {d : D} (R : Ref C ν s.heap) (a : RV s.heap v d) (q : Q d ν) : PostV C ν s Q v s := ⟨d, ν, a, R, .refl, q⟩
theorem postB_here {s : Shared} {Q : Bool → Nu → Prop} {b : Bool} (R : Ref C ν s.heap) (q : Q b ν) : PostB C ν s Q b s := ⟨ν, R, .refl, q⟩
-- constants, names
theorem TE_int {i : Int} {k pos} {Q : D → Nu → Prop} (h : Q (.int i) ν) : TE C n sc (.Constant (.int i) k pos) l ν Q := fun _ _ _ _ R _ => wpAny_Constant_int (postV_toks R (.int ..) h)
theorem TE_str {x : Str} {k pos} {Q : D → Nu → Prop} (h : Q (.str x) ν) : TE C n sc (.Constant (.str x) k pos) l ν Q := fun _ _ _ _ R _ => wpAny_Constant_str (postV_toks R (.str ..) h)
theorem TE_none {k pos} {Q : D → Nu → Prop} (h : Q .none ν) : TE C n sc (.Constant .none k pos) l ν Q := fun _ _ _ _ R _ => wpAny_Constant_none (postV_here R .none h)
theorem TE_bool {b k pos} {Q : D → Nu → Prop} (h : Q (.bool b) ν) : TE C n sc (.Constant (.bool b) k pos) l ν Q := fun _ _ _ _ R _ => wpAny_Constant_bool (postV_here R (.bool b) h)

theorem TE_name {x : Str} {pos} {d : D} {Q : D → Nu → Prop} (hx : lk l x = some d) (h : Q d ν) (hd : (x == ("__debug__" : Str)) = false) (hc : (x == ("__classdict__" : Str)) = false) : TE C n sc (.Name x pos) l ν Q := by
  intro A env s _ R F
  refine wpAny_Name ?_ hd
  have hk : env.scope.kind = .function := F.scope ▸ F.kind
  rcases F.kinds x d hx with q | ⟨q, c, hcc⟩
  · obtain ⟨m, hn, hm⟩ := F.ns
    obtain ⟨v, e, r⟩ := hm x d hx q
    exact wpAny_loadName_local hk (by unfold Env.kindOf; rw [F.scope]; exact q) hn e (postV_here R r h)
  · obtain ⟨v, hv, r⟩ := F.cell x c hcc
    obtain ⟨u, rfl, r'⟩ := r d hx (by rcases q with q | q <;> rw [q] <;> simp)
    rcases q with q | q
    · exact wpAny_loadName_cell hk (by unfold Env.kindOf; rw [F.scope]; exact q) hcc hv (postV_here R r' h)
    · exact wpAny_loadName_free hk (by unfold Env.kindOf; rw [F.scope]; exact q) hcc hv (postV_here R r' h) hc

/-- what a global name stands for -/
noncomputable def Cx.G (C : Cx) (x : Str) (v : Value) : Prop := C.mg x = some v ∨ (C.mg x = none ∧ C.mb x = some v)
theorem TE_glob {x : Str} {pos} {v : Value} {Q : D → Nu → Prop} (hk : sc.names.lookup x = some .globalImplicit) (hg : C.G x v) (h : Q (.val v) ν) (hd : (x == ("__debug__" : Str)) = false) : TE C n sc (.Name x pos) l ν Q := by
  intro A env s _ R F
  refine wpAny_Name ?_ hd
  have hkk : env.scope.kind = .function := F.scope ▸ F.kind
  have hx : env.kindOf x = some .globalImplicit := by unfold Env.kindOf; rw [F.scope]; exact hk
  have g := C.g.keeps R.keep
  have b := C.b.keeps R.keep
  unfold loadName
  simp only [Env.blockKind, hkk, hx, ScopeKind.isAnnotationScope, Bool.false_and, Bool.false_eq_true, if_false]
  rcases hg with hg | ⟨hg, hb⟩
  · exact Calls.loadGlobal_global (F.glob ▸ g) hg (postV_here R (.val v) h)
  · exact Calls.loadGlobal_builtin (F.glob ▸ g) hg (F.blt ▸ b) hb (postV_here R (.val v) h)

-- operators
theorem TE_bin {a b : Expr} {op pos} {Q : D → Nu → Prop} (h : TE C n sc a l ν (fun d ν₁ => TE C n sc b l ν₁ (fun e ν₂ => T2 C n (binaryOp op) d e ν₂ Q))) : TE C n sc (.BinOp a op b pos) l ν Q := by
  intro A env s hA R F
  refine wpAny_BinOp (wpAny_mono (h A env s hA R F) ?_ fun _ _ x => x)
  rintro v s₁ ⟨d, ν₁, hv, R₁, x₁, hq⟩
  refine wpAny_mono (hq A env s₁ hA R₁ (F.fro R x₁)) ?_ fun _ _ x => x
  rintro u s₂ ⟨e, ν₂, hu, R₂, x₂, hq2⟩
  exact wpAny_mono (hq2 A s₂ v u hA R₂ ((F.fro R x₁).fro R₁ x₂).baseLe (hv.fro R₁ x₂) hu) (fun _ _ p => (p.after x₂).after x₁) fun _ _ x => x
theorem TE_cmp {a b : Expr} {op pos} {Q : D → Nu → Prop} (h : TE C n sc a l ν (fun d ν₁ => TE C n sc b l ν₁ (fun e ν₂ => T2 C n (compareOp op) d e ν₂ Q))) (hm : behindInMarks op b = false) : TE C n sc (.Compare a [op] [b] pos) l ν Q := by
  intro A env s hA R F
  refine wpAny_Compare1 (wpAny_mono (h A env s hA R F) ?_ fun _ _ x => x) hm
  rintro v s₁ ⟨d, ν₁, hv, R₁, x₁, hq⟩
  refine wpAny_mono (hq A env s₁ hA R₁ (F.fro R x₁)) ?_ fun _ _ x => x
  rintro u s₂ ⟨e, ν₂, hu, R₂, x₂, hq2⟩
  exact wpAny_mono (hq2 A s₂ v u hA R₂ ((F.fro R x₁).fro R₁ x₂).baseLe (hv.fro R₁ x₂) hu) (fun _ _ p => (p.after x₂).after x₁) fun _ _ x => x
theorem TE_un {a : Expr} {op pos} {Q : D → Nu → Prop} (h : TE C n sc a l ν (fun d ν₁ => T1 C n (unaryOp op) d ν₁ Q)) : TE C n sc (.UnaryOp op a pos) l ν Q := by
  intro A env s hA R F
  refine wpAny_UnaryOp (wpAny_mono (h A env s hA R F) ?_ fun _ _ x => x)
  rintro v s₁ ⟨d, ν₁, hv, R₁, x₁, hq⟩
  exact wpAny_mono (hq A s₁ v hA R₁ (F.fro R x₁).baseLe hv) (fun _ _ p => p.after x₁) fun _ _ x => x
theorem T1_not {d : D} {Q : D → Nu → Prop} (h : TT C n d ν (fun b ν' => Q (.bool (!b)) ν')) : T1 C n (unaryOp .Not) d ν Q := fun A s v hA R hz hv =>
  not_value (wpAny_mono (h A s v hA R hz hv) (fun _ _ ⟨ν', R', x', q⟩ => ⟨_, ν', .bool _, R', x', q⟩) fun _ _ x => x)

-- tests
theorem TB_val {e : Expr} {Q : Bool → Nu → Prop} (h : TE C n sc e l ν (fun d ν₁ => TT C n d ν₁ Q)) (he : ∀ env whole, isTrue e env whole = (do let v ← whole; standAt e.pos; holding [v] (truthy v))) : TB C n sc e l ν Q := by
  intro A env s hA R F
  refine wpAny_isTrue_value (wpAny_mono (h A env s hA R F) ?_ fun _ _ x => x) (he env _)
  rintro v s₁ ⟨d, ν₁, hv, R₁, x₁, hq⟩
  exact wpAny_mono (hq A s₁ v hA R₁ (F.fro R x₁).baseLe hv) (fun _ _ p => p.after x₁) fun _ _ x => x
theorem TB_cmp {a b : Expr} {op pos} {Q : Bool → Nu → Prop} (h : TE C n sc a l ν (fun d ν₁ => TE C n sc b l ν₁ (fun e ν₂ => T2 C n (compareOp op) d e ν₂ (fun c ν₃ => TT C n c ν₃ Q)))) (hm : behindInMarks op b = false) : TB C n sc (.Compare a [op] [b] pos) l ν Q := by
  intro A env s hA R F
  refine wpAny_isTrue_Compare1 (wpAny_mono (h A env s hA R F) ?_ fun _ _ x => x) hm
  rintro v s₁ ⟨d, ν₁, hv, R₁, x₁, hq⟩
  refine wpAny_mono (hq A env s₁ hA R₁ (F.fro R x₁)) ?_ fun _ _ x => x
  rintro u s₂ ⟨e, ν₂, hu, R₂, x₂, hq2⟩
  refine wpAny_mono (hq2 A s₂ v u hA R₂ ((F.fro R x₁).fro R₁ x₂).baseLe (hv.fro R₁ x₂) hu) ?_ fun _ _ x => x
  rintro c s₃ ⟨e, ν₃, hc, R₃, x₃, hq3⟩
  exact wpAny_mono (hq3 A s₃ c hA R₃ (((F.fro R x₁).fro R₁ x₂).fro R₂ x₃).baseLe hc) (fun _ _ p => ((p.after x₃).after x₂).after x₁) fun _ _ x => x
noncomputable def TA (C : Cx) (n : Nat) (sc : Scope) (op : BoolOp) (es : List Expr) (l : Loc) (ν : Nu) (Q : Bool → Nu → Prop) : Prop :=
  ∀ A env s, Aok C n A → Ref C ν s.heap → Frm C env sc l ν s.heap → wpAny (model C.prog C.w) A (allTrue op es env) (PostB C ν s Q) nev s
theorem TB_boolop {op : BoolOp} {es : List Expr} {pos} {Q : Bool → Nu → Prop} (h : TA C n sc op es l ν Q) : TB C n sc (.BoolOp op es pos) l ν Q := fun A env s hA R F => wpAny_isTrue_BoolOp (h A env s hA R F)
theorem TA_and_nil {Q : Bool → Nu → Prop} (h : Q true ν) : TA C n sc .And [] l ν Q := fun _ _ _ _ R _ => wpAny_allTrue_And_nil (postB_here R h)
theorem TA_or_nil {Q : Bool → Nu → Prop} (h : Q false ν) : TA C n sc .Or [] l ν Q := fun _ _ _ _ R _ => wpAny_allTrue_Or_nil (postB_here R h)
theorem TA_and {e : Expr} {es : List Expr} {Q : Bool → Nu → Prop} (h : TB C n sc e l ν (fun b ν₁ => if b = true then TA C n sc .And es l ν₁ Q else Q false ν₁)) : TA C n sc .And (e :: es) l ν Q := by
  intro A env s hA R F
  refine wpAny_allTrue_And_cons (wpAny_mono (h A env s hA R F) ?_ fun _ _ x => x)
  rintro b s₁ ⟨ν₁, R₁, x₁, hq⟩
  cases b
  · exact ⟨ν₁, R₁, x₁, by simpa using hq⟩
  · exact wpAny_mono ((by simpa using hq : TA C n sc .And es l ν₁ Q) A env s₁ hA R₁ (F.fro R x₁)) (fun _ _ p => p.after x₁) fun _ _ x => x
theorem TA_or {e : Expr} {es : List Expr} {Q : Bool → Nu → Prop} (h : TB C n sc e l ν (fun b ν₁ => if b = true then Q true ν₁ else TA C n sc .Or es l ν₁ Q)) : TA C n sc .Or (e :: es) l ν Q := by
  intro A env s hA R F
  refine wpAny_allTrue_Or_cons (wpAny_mono (h A env s hA R F) ?_ fun _ _ x => x)
  rintro b s₁ ⟨ν₁, R₁, x₁, hq⟩
  cases b
  · exact wpAny_mono ((by simpa using hq : TA C n sc .Or es l ν₁ Q) A env s₁ hA R₁ (F.fro R x₁)) (fun _ _ p => p.after x₁) fun _ _ x => x
  · exact ⟨ν₁, R₁, x₁, by simpa using hq⟩
theorem TT_bool {b : Bool} {Q : Bool → Nu → Prop} (h : Q b ν) : TT C n (.bool b) ν Q := by
  intro A s v _ R _ hv
  cases hv
  exact wpAny_truthy_bool (postB_here R h)

/-- and, or as values -/
noncomputable def TO (C : Cx) (n : Nat) (sc : Scope) (op : BoolOp) (es : List Expr) (l : Loc) (ν : Nu) (Q : D → Nu → Prop) : Prop :=
  ∀ A env s pos, Aok C n A → Ref C ν s.heap → Frm C env sc l ν s.heap → wpAny (model C.prog C.w) A (boolOp pos op (evalEach es env)) (PostV C ν s Q) nev s
theorem TE_boolop {op : BoolOp} {es : List Expr} {pos} {Q : D → Nu → Prop} (h : TO C n sc op es l ν Q) : TE C n sc (.BoolOp op es pos) l ν Q := fun A env s hA R F => h A env s pos hA R F
theorem TO_one {op : BoolOp} {e : Expr} {Q : D → Nu → Prop} (h : TE C n sc e l ν Q) : TO C n sc op [e] l ν Q := fun A env s _ hA R F => h A env s hA R F
theorem TO_and {e f : Expr} {es : List Expr} {Q : D → Nu → Prop} (h : TE C n sc e l ν (fun d ν₁ => TT C n d ν₁ (fun b ν₂ => if b = true then TO C n sc .And (f :: es) l ν₂ Q else Q d ν₂))) : TO C n sc .And (e :: f :: es) l ν Q := by
  intro A env s pos hA R F
  show wpAny _ A (eval e env >>= fun v => standAt pos >>= fun _ => holding [v] (truthy v) >>= fun t => match BoolOp.And, t with | .And, false | .Or, true => pure v | _, _ => boolOp pos .And (evalEach (f :: es) env)) _ _ s
  refine wpAny_bind (wpAny_mono (h A env s hA R F) ?_ fun _ _ x => x)
  rintro v s₁ ⟨d, ν₁, hv, R₁, x₁, hq⟩
  refine wpAny_bind (wpAny_standAt (wpAny_bind (wpAny_holding (wpAny_mono (hq A s₁ v hA R₁ (F.fro R x₁).baseLe hv) ?_ fun _ _ x => x))))
  rintro b s₂ ⟨ν₂, R₂, x₂, hq2⟩
  cases b
  · exact wpAny_pure ⟨d, ν₂, hv.fro R₁ x₂, R₂, x₁.trans x₂, by simpa using hq2⟩
  · exact wpAny_mono ((by simpa using hq2 : TO C n sc .And (f :: es) l ν₂ Q) A env s₂ pos hA R₂ ((F.fro R x₁).fro R₁ x₂)) (fun _ _ p => (p.after x₂).after x₁) fun _ _ x => x
-- lists of expressions, displays
noncomputable def isSt : Expr → Bool
  | .Starred _ _ => true
  | _ => false
theorem starEach_cons {e : Expr} (h : isSt e = false) (es : List Expr) (env : Env) : starEach (e :: es) env = (false, eval e env) :: starEach es env := by
  cases e <;> first | rfl | cases h
noncomputable def noSt : List Expr → Bool
  | [] => true
  | e :: es => !isSt e && noSt es
theorem noSt_any : ∀ {es : List Expr}, noSt es = true → ∀ pos env, (backTo pos (starEach es env)).any (·.1) = false
  | [], _, _, _ => rfl
  | e :: es, h, pos, env => by
    simp only [noSt, Bool.and_eq_true, Bool.not_eq_true'] at h
    rw [starEach_cons h.1]
    show (false || (backTo pos (starEach es env)).any (·.1)) = false
    rw [noSt_any h.2]; rfl
theorem TL_nil {Q : List D → Nu → Prop} (h : Q [] ν) : TL C n sc [] l ν Q := fun _ _ _ _ _ R _ => wpAny_items_nil ⟨[], ν, .nil, R, .refl, h⟩
theorem TL_cons {e : Expr} {es : List Expr} {Q : List D → Nu → Prop} (h : TE C n sc e l ν (fun d ν₁ => TL C n sc es l ν₁ (fun ds ν₂ => Q (d :: ds) ν₂))) (he : isSt e = false) : TL C n sc (e :: es) l ν Q := by
  intro A env s pos hA R F
  refine wpAny_items_cons (wpAny_mono (h A env s hA R F) ?_ fun _ _ x => x) (starEach_cons he es env)
  rintro v s₁ ⟨d, ν₁, hv, R₁, x₁, hq⟩
  refine wpAny_mono (hq A env s₁ pos hA R₁ (F.fro R x₁)) ?_ fun _ _ x => x
  rintro vs s₂ ⟨ds, ν₂, hvs, R₂, x₂, hq2⟩
  exact ⟨d :: ds, ν₂, .cons (hv.fro R₁ x₂) hvs, R₂, x₁.trans x₂, hq2⟩

theorem TupKeep.push {h : Heap} (o : Obj) : TupKeep h (h.push o) := fun _ _ e _ => Heap.get?_push_of_some o e
theorem Ref.push {h : Heap} (R : Ref C ν h) (o : Obj) : Ref C ν (h.push o) :=
  ⟨fun b o' e => Heap.get?_push_of_some o (R.keep b o' e), fun a o' e => by
    obtain ⟨ob, hob, _⟩ := (R.at_ a o' e).get
    exact (R.at_ a o' e).keep (TupKeep.push o) ((Heap.get?_push_of_some o hob).trans hob.symm), R.own⟩
theorem Fro.push {own : Addr → Prop} {s : Shared} (o : Obj) (t : Nat) : Fro own ν ν s { s with heap := s.heap.push o, toks := t } :=
  Fro.ofKeep fun _ _ e => Heap.get?_push_of_some o e

theorem TE_tuple {es : List Expr} {k pos} {Q : D → Nu → Prop} (h : TL C n sc es l ν (fun ds ν₁ => ds.length ≤ 1000 ∧ Q (.tup ds) ν₁)) : TE C n sc (.Tuple es k pos) l ν Q := by
  intro A env s hA R F
  refine wpAny_Tuple (wpAny_mono (h A env s pos hA R F) ?_ fun _ _ x => x)
  rintro vs s₁ ⟨ds, ν₁, hvs, R₁, x₁, hl, hq⟩
  refine ⟨by rw [hvs.length, sizeLine_eq]; omega, .tup ds, ν₁, .tup (n := 0) (Heap.get?_push_size _ rfl) (hvs.keep (TupKeep.push _)), R₁.push _, x₁.trans (Fro.push _ _), hq⟩

/-- a new object at a fresh address -/
theorem Ref.alloc {h : Heap} (R : Ref C ν h) {o : AObj} {ob : Obj} (ho : ObjAt C (h.push ob) h.objs.size o) (hs : C.base.objs.size ≤ h.objs.size) : Ref C (upd ν h.objs.size o) (h.push ob) := by
  refine ⟨(R.push ob).keep, fun a o' e => ?_, fun a o' e hn hn2 => ?_⟩
  · unfold upd at e
    split at e
    · rename_i q; cases e; subst q; exact ho
    · exact (R.push ob).at_ a o' e
  · unfold upd at e
    split at e
    · rename_i q; subst q; exact hs
    · exact R.own a o' e hn hn2
theorem Ref.fresh {h : Heap} (R : Ref C ν h) : ν h.objs.size = none := by
  cases q : ν h.objs.size with
  | none => rfl
  | some o => exact absurd (R.at_ _ _ q).lt (Nat.lt_irrefl _)
theorem Fro.alloc {own : Addr → Prop} {s : Shared} (o : AObj) (ob : Obj) (t : Nat) : Fro own ν (upd ν s.heap.objs.size o) s { s with heap := s.heap.push ob, toks := t } :=
  ⟨⟨_, _, rfl⟩, (Fro.push (own := own) (ν := ν) ob t).keep, (Fro.push (own := own) (ν := ν) ob t).alive, fun b o e hn => by unfold upd; rw [if_neg (Nat.ne_of_lt (Heap.lt_size e))]; exact hn⟩

theorem TE_list {es : List Expr} {pos} {Q : D → Nu → Prop} (h : TL C n sc es l ν (fun ds ν₁ => ds.length ≤ 1000 ∧ ∀ a, ν₁ a = none → Q (.ref a) (upd ν₁ a (.lst ds)))) : TE C n sc (.List es pos) l ν Q := by
  intro A env s hA R F
  refine wpAny_List (wpAny_mono (h A env s pos hA R F) ?_ fun _ _ x => x)
  rintro vs s₁ ⟨ds, ν₁, hvs, R₁, x₁, hl, hq⟩
  refine ⟨by rw [hvs.length, sizeLine_eq]; omega, .ref _, _, .ref _, R₁.alloc (o := .lst ds) ⟨vs, 0, Heap.get?_push_size _ rfl, hvs.keep (TupKeep.push _)⟩ (F.fro R x₁).baseLe, x₁.trans (Fro.alloc _ _ _), hq _ R₁.fresh⟩

-- statements
theorem PostS.after {env : Env} {ν₁ : Nu} {s s₁ : Shared} {Q : Fl → Loc → Nu → Prop} (x : Fro (fr env) ν ν₁ s s₁) {f : Flow} {s' : Shared} (p : PostS C env sc ν₁ s₁ Q f s') : PostS C env sc ν s Q f s' :=
  let ⟨fl, l', ν', a, b, c, d, q⟩ := p; ⟨fl, l', ν', a, b, c, x.trans d, q⟩
theorem Fro.toFr {own : Addr → Prop} {ν ν' : Nu} {s s' : Shared} (x : Fro no ν ν' s s') : Fro own ν ν' s s' := x.weaken fun _ q => q.elim

theorem TSs_nil {Q : Fl → Loc → Nu → Prop} (h : Q .next l ν) : TSs C n sc [] l ν Q := fun _ _ _ _ R F => wpAny_execs_nil ⟨.next, l, ν, .next, R, F, .refl, h⟩
abbrev NxtK (C : Cx) (n : Nat) (sc : Scope) (rest : List Stmt) (Q : Fl → Loc → Nu → Prop) (fl : Fl) (l₁ : Loc) (ν₁ : Nu) : Prop := match fl with | .next => TSs C n sc rest l₁ ν₁ Q | fl => Q fl l₁ ν₁
abbrev FunK (Q : D → Nu → Prop) (fl : Fl) (l₁ : Loc) (ν₁ : Nu) : Prop := match fl with | .ret d => Q d ν₁ | _ => Q .none ν₁
theorem TSs_cons {st : Stmt} {rest : List Stmt} {Q : Fl → Loc → Nu → Prop} (h : TS C n sc st l ν (NxtK C n sc rest Q)) : TSs C n sc (st :: rest) l ν Q := by
  intro A env s hA R F
  refine wpAny_execs_cons (wpAny_mono (h A env s hA R F) ?_ fun _ _ x => x)
  rintro f s₁ ⟨fl, l₁, ν₁, hf, R₁, F₁, x₁, hq⟩
  cases hf with
  | next => exact wpAny_mono (hq A env s₁ hA R₁ F₁) (fun _ _ p => p.after x₁) fun _ _ x => x
  | brk => exact ⟨.brk, l₁, ν₁, .brk, R₁, F₁, x₁, hq⟩
  | cont => exact ⟨.cont, l₁, ν₁, .cont, R₁, F₁, x₁, hq⟩
  | ret r => exact ⟨.ret _, l₁, ν₁, .ret r, R₁, F₁, x₁, hq⟩
theorem TS_ret {e : Expr} {pos} {Q : Fl → Loc → Nu → Prop} (h : TE C n sc e l ν (fun d ν₁ => Q (.ret d) l ν₁)) : TS C n sc (.Return (some e) pos) l ν Q := by
  intro A env s hA R F
  refine wpAny_Return_some (wpAny_mono (h A env s hA R F) ?_ fun _ _ x => x)
  rintro v s₁ ⟨d, ν₁, hv, R₁, x₁, hq⟩
  exact ⟨.ret d, l, ν₁, .ret hv, R₁, F.fro R x₁, x₁.toFr, hq⟩
theorem TS_if {test : Expr} {body orelse : List Stmt} {pos} {Q : Fl → Loc → Nu → Prop} (h : TB C n sc test l ν (fun b ν₁ => if b = true then TSs C n sc body l ν₁ Q else TSs C n sc orelse l ν₁ Q)) : TS C n sc (.If test body orelse pos) l ν Q := by
  intro A env s hA R F
  refine wpAny_If (wpAny_mono (h A env s hA R F) ?_ fun _ _ x => x)
  rintro b s₁ ⟨ν₁, R₁, x₁, hq⟩
  cases b
  · exact wpAny_mono ((by simpa using hq : TSs C n sc orelse l ν₁ Q) A env s₁ hA R₁ (F.fro R x₁)) (fun _ _ p => p.after x₁.toFr) fun _ _ x => x
  · exact wpAny_mono ((by simpa using hq : TSs C n sc body l ν₁ Q) A env s₁ hA R₁ (F.fro R x₁)) (fun _ _ p => p.after x₁.toFr) fun _ _ x => x

/-- a name takes a value -/
noncomputable def storable (sc : Scope) (x : Str) : Prop := sc.names.lookup x = some .local ∨ sc.names.lookup x = some .cell
theorem store_name {A : Around} {env : Env} {s : Shared} {x : Str} {v : Value} {d : D} {Q : Unit → Shared → Prop} {E : Value → Shared → Prop} {M : Model} (R : Ref C ν s.heap) (F : Frm C env sc l ν s.heap) (hx : storable sc x) (hv : RV s.heap v d)
    (h : ∀ s', Ref C ν s'.heap → Frm C env sc (put l x d) ν s'.heap → Fro (fr env) ν ν s s' → Q () s') : wpAny M A (storeName env x v) Q E s := by
  have hk : env.scope.kind = .function := F.scope ▸ F.kind
  have fin : ∀ (p : Addr) (h' : Heap) (t : Nat), Heap.SameBut p s.heap h' → (∃ o', h'.get? p = some o') → fr env p → ν p = none → C.base.objs.size ≤ p → Ref C ν h' ∧ Fro (fr env) ν ν s { s with heap := h', toks := t } ∧ TupKeep s.heap h' := by
    intro p h' t sb hal hp hn hb
    have k : TupKeep s.heap h' := fun a o e hi => (sb.2 a fun q => F.notTup a o (q ▸ hp) e hi).trans e
    refine ⟨⟨fun b o e => (sb.2 b (Nat.ne_of_lt (Nat.lt_of_lt_of_le (Heap.lt_size e) hb))).trans (R.keep b o e), fun a o e => (R.at_ a o e).keep k (sb.2 a fun q => ?_), R.own⟩, ⟨⟨h', t, rfl⟩, fun b o e _ ho => (sb.2 b fun q => ho (q ▸ hp)).trans e, fun b o e _ => if q : b = p then q ▸ hal else ⟨o, (sb.2 b q).trans e⟩, fun _ _ _ q => q⟩, k⟩
    rw [q, hn] at e; cases e
  rcases hx with hx | hx
  · obtain ⟨m, hn, hm⟩ := F.ns
    refine wpAny_storeName_local (by unfold Env.kindOf; rw [F.scope]; exact hx) hn (fun h' hn' sb => ?_) (by rw [hk]; rfl)
    obtain ⟨R', X', k⟩ := fin env.locals h' (s.toks + 1) sb (let ⟨o, _, _, e, _⟩ := hn'; ⟨o, e⟩) (.inl rfl) F.nuL F.above
    refine h _ R' ⟨F.scope, F.kind, F.glob, F.blt, ⟨_, hn', fun y e h1 h2 => ?_⟩, fun y c hc => ?_, fun y e h1 => ?_, F.cells, F.nuL, F.nuC, F.apart, F.above, F.aboveC⟩ X'
    · rw [lk_put] at h1
      by_cases hy : y = x
      · subst hy; rw [if_pos rfl] at h1; cases h1; exact ⟨v, if_pos rfl, hv.keep k⟩
      · rw [if_neg hy] at h1; obtain ⟨u, e1, e2⟩ := hm y e h1 h2; exact ⟨u, (if_neg hy).trans e1, e2.keep k⟩
    · obtain ⟨u, ⟨o, ho, hd⟩, r⟩ := F.cell y c hc
      refine ⟨u, ⟨o, (sb.2 c (F.neC hc)).trans ho, hd⟩, fun e h1 h2 => ?_⟩
      rw [lk_put] at h1
      by_cases hy : y = x
      · subst hy; exact absurd hx h2
      · rw [if_neg hy] at h1; obtain ⟨z, e1, e2⟩ := r e h1 h2; exact ⟨z, e1, e2.keep k⟩
    · rw [lk_put] at h1
      by_cases hy : y = x
      · subst hy; exact .inl hx
      · rw [if_neg hy] at h1; exact F.kinds y e h1
  · obtain ⟨c, hc⟩ := F.cells x hx
    obtain ⟨u, hu, r⟩ := F.cell x c hc
    refine wpAny_storeName_cell hk (by unfold Env.kindOf; rw [F.scope]; exact hx) hc hu fun h' hc' sb => ?_
    obtain ⟨R', X', k⟩ := fin c h' s.toks sb (let ⟨o, e, _⟩ := hc'; ⟨o, e⟩) (.inr ⟨x, hc⟩) (F.nuC x c hc) (F.aboveC x c hc)
    refine h _ R' ⟨F.scope, F.kind, F.glob, F.blt, ?_, fun y c' hcy => ?_, fun y e h1 => ?_, F.cells, F.nuL, F.nuC, F.apart, F.above, F.aboveC⟩ X'
    · obtain ⟨m, ⟨o, es, ep, ho, q⟩, hm⟩ := F.ns
      refine ⟨m, ⟨o, es, ep, (sb.2 _ (Ne.symm (F.neC hc))).trans ho, q⟩, fun y e h1 h2 => ?_⟩
      rw [lk_put] at h1
      by_cases hy : y = x
      · subst hy; rw [hx] at h2; cases h2
      · rw [if_neg hy] at h1; obtain ⟨z, e1, e2⟩ := hm y e h1 h2; exact ⟨z, e1, e2.keep k⟩
    · by_cases hy : y = x
      · subst hy
        rw [hc] at hcy; cases hcy
        refine ⟨some v, hc', fun e h1 h2 => ?_⟩
        rw [lk_put, if_pos rfl] at h1; cases h1
        exact ⟨v, rfl, hv.keep k⟩
      · obtain ⟨z, ⟨o, ho, hd⟩, r'⟩ := F.cell y c' hcy
        have hne : c' ≠ c := fun q => hy (F.apart y x c (q ▸ hcy) hc)
        refine ⟨z, ⟨o, (sb.2 c' hne).trans ho, hd⟩, fun e h1 h2 => ?_⟩
        rw [lk_put, if_neg hy] at h1
        obtain ⟨w', e1, e2⟩ := r' e h1 h2
        exact ⟨w', e1, e2.keep k⟩
    · rw [lk_put] at h1
      by_cases hy : y = x
      · subst hy; exact .inr ⟨.inl hx, c, hc⟩
      · rw [if_neg hy] at h1; exact F.kinds y e h1

theorem TS_assign {x : Str} {pos' pos} {value : Expr} {Q : Fl → Loc → Nu → Prop} (h : TE C n sc value l ν (fun d ν₁ => Q .next (put l x d) ν₁)) (hx : storable sc x)
    (hs : ∀ env, swapsWith value (some (.Name x pos')) pos.line env = pure false) : TS C n sc (.Assign [.Name x pos'] value pos) l ν Q := by
  intro A env s hA R F
  refine wpAny_Assign_Name (wpAny_mono (h A env s hA R F) ?_ fun _ _ x => x) (hs env)
  rintro v s₁ ⟨d, ν₁, hv, R₁, x₁, hq⟩
  exact store_name R₁ (F.fro R x₁) hx hv fun s' R' F' X' => ⟨.next, _, ν₁, .next, R', F', x₁.toFr.trans X', hq⟩

theorem TE_mono {e : Expr} {Q Q' : D → Nu → Prop} (h : TE C n sc e l ν Q) (hq : ∀ d ν', Q d ν' → Q' d ν') : TE C n sc e l ν Q' :=
  fun A env s hA R F => wpAny_mono (h A env s hA R F) (fun _ _ ⟨d, ν', a, b, c, q⟩ => ⟨d, ν', a, b, c, hq _ _ q⟩) fun _ _ x => x
end
end Mine

namespace Mine
open PySem

section
variable {C : Cx} {n : Nat} {sc : Scope} {l : Loc} {ν : Nu}

theorem Ref.sameBut {h h' : Heap} {I : Addr} (R : Ref C ν h) (k : ∀ b o, b ≠ I → h.get? b = some o → h'.get? b = some o) (hn : ν I = none) (hb : C.base.objs.size ≤ I) (ht : ∀ o, h.get? I = some o → ¬ Imm o) : Ref C ν h' := by
  have kt : TupKeep h h' := fun a o e hi => k a _ (fun q => ht o (q ▸ e) hi) e
  refine ⟨fun b o e => k b o (Nat.ne_of_lt (Nat.lt_of_lt_of_le (Heap.lt_size e) hb)) (R.keep b o e), fun a o e => ?_, R.own⟩
  obtain ⟨ob, hob, _⟩ := (R.at_ a o e).get
  refine (R.at_ a o e).keep kt ((k a ob (fun q => ?_) hob).trans hob.symm)
  rw [q, hn] at e; cases e
theorem Frm.sameBut {env : Env} {h h' : Heap} {I : Addr} (F : Frm C env sc l ν h) (k : ∀ b o, b ≠ I → h.get? b = some o → h'.get? b = some o) (hI : ¬ fr env I) (ht : ∀ o, h.get? I = some o → ¬ Imm o) : Frm C env sc l ν h' := by
  have kt : TupKeep h h' := fun a o e hi => k a _ (fun q => ht o (q ▸ e) hi) e
  obtain ⟨m, ⟨o, es, ep, ho, r⟩, hm⟩ := F.ns
  refine ⟨F.scope, F.kind, F.glob, F.blt, ⟨m, ⟨o, es, ep, k _ _ (fun q => hI (.inl q.symm)) ho, r⟩, fun y d h1 h2 => let ⟨v, a, b⟩ := hm y d h1 h2; ⟨v, a, b.keep kt⟩⟩, fun y c hc => ?_, F.kinds, F.cells, F.nuL, F.nuC, F.apart, F.above, F.aboveC⟩
  obtain ⟨v, ⟨o', ho', hd'⟩, q⟩ := F.cell y c hc
  exact ⟨v, ⟨o', k _ _ (fun q => hI (.inr ⟨y, q ▸ hc⟩)) ho', hd'⟩, fun d h1 h2 => let ⟨u, a, b⟩ := q d h1 h2; ⟨u, a, b.keep kt⟩⟩
theorem fr_lt {env : Env} {h : Heap} {b : Addr} (F : Frm C env sc l ν h) (hb : fr env b) : ∃ o, h.get? b = some o := by
  rcases hb with rfl | ⟨x, hx⟩
  · obtain ⟨m, ⟨o, es, ep, ho, r⟩, hm⟩ := F.ns; exact ⟨o, ho⟩
  · obtain ⟨v, ⟨o, ho, _⟩, _⟩ := F.cell x b hx; exact ⟨o, ho⟩

-- while
abbrev WhileK (I : Nat → Loc → Nu → Prop) (k : Nat) (Q : Fl → Loc → Nu → Prop) (fl : Fl) (l₂ : Loc) (ν₂ : Nu) : Prop := match fl with
  | .next | .cont => ∃ k' l₃, k' < k ∧ Sub l₃ l₂ ∧ I k' l₃ ν₂
  | .brk => Q .next l₂ ν₂
  | .ret d => Q (.ret d) l₂ ν₂
abbrev LoopK (J : Nat → Loc → Nu → Prop) (i : Nat) (Q : Fl → Loc → Nu → Prop) (fl : Fl) (l₂ : Loc) (ν₂ : Nu) : Prop := match fl with
  | .next | .cont => ∃ l₃, Sub l₃ l₂ ∧ J (i + 1) l₃ ν₂
  | .brk => Q .next l₂ ν₂
  | .ret d => Q (.ret d) l₂ ν₂
-- targets
noncomputable def TG (C : Cx) (n : Nat) (sc : Scope) (t : Expr) (d : D) (l : Loc) (ν : Nu) (Q : Loc → Nu → Prop) : Prop :=
  ∀ A env s v, Aok C n A → Ref C ν s.heap → Frm C env sc l ν s.heap → RV s.heap v d → wpAny (model C.prog C.w) A (assign t env v) (fun _ s' => ∃ l' ν', Ref C ν' s'.heap ∧ Frm C env sc l' ν' s'.heap ∧ Fro (fr env) ν ν' s s' ∧ Q l' ν') nev s
theorem TG_name {x : Str} {pos} {d : D} {Q : Loc → Nu → Prop} (hx : storable sc x) (h : Q (put l x d) ν) : TG C n sc (.Name x pos) d l ν Q := fun _ _ _ _ _ R F hv =>
  wpAny_assign_Name (store_name R F hx hv fun _ R' F' X' => ⟨_, ν, R', F', X', h⟩)

/-- an iterator at I: N items; what it iterates stands while 'src' holds -/
structure ItOk (C : Cx) (I : Addr) (N : Nat) (item : Nat → D) (src : Nu → Prop) (At : Nat → Obj → Prop) : Prop where
  tup : ∀ i o, At i o → ¬ Imm o
  own : ∀ (A : Around) (M : Model) (i : Nat) (s : Shared) (o : Obj) (Q : Unit → Shared → Prop) (E : Value → Shared → Prop) (t : Expr) (v : Value), s.heap.get? I = some o → At i o → Q () s → wpAny M A (letOwnedTupleGo t (.ref I) v) Q E s
  next : ∀ (A : Around) (i : Nat) (s : Shared) (o : Obj) (ν : Nu) (Q : Option Value → Shared → Prop) (E : Value → Shared → Prop), A.handled = C.hd → i < N → Ref C ν s.heap → s.heap.get? I = some o → At i o → src ν →
    (∀ v h' t o', RV h' v (item i) → (∀ b o, b ≠ I → s.heap.get? b = some o → h'.get? b = some o) → h'.get? I = some o' → At (i + 1) o' → Q (some v) { s with heap := h', toks := t }) → wpAny (model C.prog C.w) A (pyNext (.ref I)) Q E s
  done : ∀ (A : Around) (s : Shared) (o : Obj) (ν : Nu) (Q : Option Value → Shared → Prop) (E : Value → Shared → Prop), A.handled = C.hd → Ref C ν s.heap → s.heap.get? I = some o → At N o → src ν →
    (∀ h' t, (∀ b o, b ≠ I → s.heap.get? b = some o → h'.get? b = some o) → Q none { s with heap := h', toks := t }) → wpAny (model C.prog C.w) A (pyNext (.ref I)) Q E s

/-- a step that turns the iterator alone -/
theorem Fro.iter {own : Addr → Prop} {ν₁ : Nu} {s s₁ : Shared} {I : Addr} {h' : Heap} {t : Nat} (x : Fro own ν ν₁ s s₁) (hI : s.heap.get? I = none) (k : ∀ b o, b ≠ I → s₁.heap.get? b = some o → h'.get? b = some o) : Fro own ν ν₁ s { s₁ with heap := h', toks := t } := by
  obtain ⟨⟨h1, t1, rfl⟩, a, b, c⟩ := x
  have ne : ∀ b o, s.heap.get? b = some o → b ≠ I := fun b o e q => by rw [q, hI] at e; cases e
  exact ⟨⟨h', t, rfl⟩, fun b o e hn ho => k b o (ne b o e) (a b o e hn ho), fun p o e hn => let ⟨o', e'⟩ := b p o e hn; ⟨o', k p o' (ne p o e) e'⟩, c⟩

inductive ForI (C : Cx) (env : Env) (sc : Scope) (ν : Nu) (s : Shared) (I : Addr) (N : Nat) (At : Nat → Obj → Prop) (J : Nat → Loc → Nu → Prop) (k : Nat) (s' : Shared) : Prop
  | mk (i : Nat) (l' : Loc) (ν' : Nu) (o : Obj) (hk : k = N - i) (hi : i ≤ N) (R : Ref C ν' s'.heap) (F : Frm C env sc l' ν' s'.heap) (x : Fro (fr env) ν ν' s s') (hn : ν' I = none) (hI : s'.heap.get? I = some o) (hA : At i o) (hJ : J i l' ν') : ForI C env sc ν s I N At J k s'
theorem for_core {A : Around} {env : Env} {s s₂ : Shared} {I : Addr} {N : Nat} {item : Nat → D} {src : Nu → Prop} {At : Nat → Obj → Prop} {o : Obj} {t : Expr} {body : List Stmt} {Q : Fl → Loc → Nu → Prop}
    (W : ItOk C I N item src At) (hA : Aok C n A) (F : Frm C env sc l ν s.heap) (x : Fro no ν ν s s₂) (R₂ : Ref C ν s₂.heap) (hI : s₂.heap.get? I = some o) (hAt : At 0 o) (hs : s.heap.get? I = none) (hν : ν I = none) (hb : C.base.objs.size ≤ I) (R : Ref C ν s.heap)
    (J : Nat → Loc → Nu → Prop) (hJ : J 0 l ν) (hsrc : ∀ i l ν, J i l ν → src ν)
    (turn : ∀ i l ν, i < N → J i l ν → TG C n sc t (item i) l ν (fun l₁ ν₁ => TSs C n sc body l₁ ν₁ (LoopK J i Q)))
    (fin : ∀ l ν, J N l ν → Q .next l ν) :
    codeAny (model C.prog C.w) A (.forLoop t (.ref I) body [] env) (fun r s' => match r with | .ok f => PostS C env sc ν s Q f s' | .error e => cameBackBy (model C.prog C.w) A env nev e s') s₂ := by
  have hf : ¬ fr env I := fun q => by obtain ⟨o', e⟩ := fr_lt F q; rw [hs] at e; cases e
  refine codeAny_forLoop_any (ForI C env sc ν s I N At J) ?_ N ⟨0, l, ν, o, by simp, Nat.zero_le _, R₂, F.fro R x, x.toFr, hν, hI, hAt, hJ⟩
  rintro k s₁ ⟨i, l₁, ν₁, o₁, rfl, hi, R₁, F₁, x₁, hn₁, hI₁, hA₁, hJ₁⟩
  have nt : ∀ o, s₁.heap.get? I = some o → ¬ Imm o := fun o e => by rw [hI₁] at e; cases e; exact W.tup _ _ hA₁
  by_cases hlt : i < N
  · refine W.next A i s₁ o₁ ν₁ _ _ hA.1 hlt R₁ hI₁ hA₁ (hsrc _ _ _ hJ₁) fun v h' tk o' hv k hI' hA' => ?_
    have R₃ : Ref C ν₁ h' := R₁.sameBut k hn₁ hb nt
    have F₃ : Frm C env sc l₁ ν₁ h' := F₁.sameBut k hf nt
    have x₃ : Fro (fr env) ν ν₁ s { s₁ with heap := h', toks := tk } := x₁.iter hs k
    refine W.own A _ (i + 1) _ o' _ _ t v hI' hA' ?_
    refine wpAny_mono (turn i l₁ ν₁ hlt hJ₁ A env _ v hA R₃ F₃ hv) ?_ fun _ _ x => x.elim
    rintro _ s₃ ⟨l₃, ν₃, R₃, F₃, x₄, hq⟩
    refine wpAny_mono (hq A env s₃ hA R₃ F₃) ?_ fun _ _ x => x.elim
    rintro f s₄ ⟨fl, l₄, ν₄, hfl, R₄, F₄, x₅, hq4⟩
    have x45 := x₄.trans x₅
    have n₄ : ν₄ I = none := x45.dom I _ hI' hn₁
    have i₄ : s₄.heap.get? I = some o' := x45.keep I o' hI' hn₁ hf
    have X := x₃.trans x45
    cases hfl with
    | next => obtain ⟨l₅, hs, hJ'⟩ := hq4; exact ⟨N - (i + 1), by omega, i + 1, l₅, ν₄, o', rfl, hlt, R₄, F₄.sub hs, X, n₄, i₄, hA', hJ'⟩
    | cont => obtain ⟨l₅, hs, hJ'⟩ := hq4; exact ⟨N - (i + 1), by omega, i + 1, l₅, ν₄, o', rfl, hlt, R₄, F₄.sub hs, X, n₄, i₄, hA', hJ'⟩
    | brk => exact ⟨.next, l₄, ν₄, .next, R₄, F₄, X, hq4⟩
    | ret r => exact ⟨.ret _, l₄, ν₄, .ret r, R₄, F₄, X, hq4⟩
  · have hiN : i = N := by omega
    subst hiN
    refine W.done A s₁ o₁ ν₁ _ _ hA.1 R₁ hI₁ hA₁ (hsrc _ _ _ hJ₁) fun h' tk k => ?_
    exact wpAny_execs_nil ⟨.next, l₁, ν₁, .next, R₁.sameBut k hn₁ hb nt, F₁.sameBut k hf nt, x₁.iter hs k, fin _ _ hJ₁⟩

/-- a for over a datum -/
noncomputable def TF (C : Cx) (n : Nat) (sc : Scope) (t : Expr) (body : List Stmt) (d : D) (l : Loc) (ν : Nu) (Q : Fl → Loc → Nu → Prop) : Prop :=
  ∀ A env s v, Aok C n A → Ref C ν s.heap → Frm C env sc l ν s.heap → RV s.heap v d → wpAny (model C.prog C.w) A (pyIter v) (fun it s₂ =>
    codeAny (model C.prog C.w) A (.forLoop t it body [] env) (fun r s' => match r with | .ok f => PostS C env sc ν s Q f s' | .error e => cameBackBy (model C.prog C.w) A env nev e s') s₂) nev s
theorem TS_for {t iter : Expr} {body : List Stmt} {pos} {Q : Fl → Loc → Nu → Prop} (h : TE C n sc iter l ν (fun d ν₁ => TF C n sc t body d l ν₁ Q)) (hs : ∀ env x, foldedSetIterable iter env x = pure x) : TS C n sc (.For t iter body [] pos) l ν Q := by
  intro A env s hA R F
  refine wpAny_For (wpAny_mono (h A env s hA R F) ?_ fun _ _ x => x) (hs env)
  rintro v s₁ ⟨d, ν₁, hv, R₁, x₁, hq⟩
  refine wpAny_mono (hq A env s₁ v hA R₁ (F.fro R x₁) hv) (fun it s₂ h₂ => codeAny_mono h₂ fun r s' z => ?_) fun _ _ x => x
  cases r with
  | ok f => exact PostS.after x₁.toFr z
  | error e => exact z

noncomputable def seqOf : Option AObj → Option (List D)
  | some (.lst ds) => some ds
  | some (.scr ds) => some ds
  | _ => none
theorem Ref.seq {h : Heap} {a : Addr} {ds : List D} (R : Ref C ν h) (e : seqOf (ν a) = some ds) : ∃ vs n, h.get? a = some (lstObj vs n) ∧ RVs h vs ds := by
  cases q : ν a with
  | none => rw [q] at e; cases e
  | some o =>
    rw [q] at e
    cases o <;> simp only [seqOf, Option.some.injEq, reduceCtorEq] at e <;> subst e <;> exact R.at_ _ _ q

theorem own_plain {A : Around} {M : Model} {s : Shared} {I : Addr} {o : Obj} {Q : Unit → Shared → Prop} {E : Value → Shared → Prop} {t : Expr} {v : Value} {c : String} {vs : Array Value} (hI : s.heap.get? I = some o) (hc : o.cls = .type c) (hd : o.data = .fields vs)
    (hn : ["enumerate", "zip", "dict_itemiterator", "dict_reverseitemiterator", "odict_iterator", "itertools.zip_longest", "itertools.pairwise"].contains c = false) (hq : Q () s) : wpAny M A (letOwnedTupleGo t (.ref I) v) Q E s := by
  have main : wpAny M A (match (Value.ref I, v) with
      | (.ref r, .ref a) => load r >>= fun o => match o.cls, o.data with
        | .type n, .fields vs => if (["enumerate", "zip", "dict_itemiterator", "dict_reverseitemiterator", "odict_iterator", "itertools.zip_longest", "itertools.pairwise"].contains n && vs[0]? == some (rawInt a)) = true then rule "for.unpacks-the-owned-tuple" >>= fun _ => updateField r 0 .none else pure ()
        | _, _ => pure ()
      | _ => pure ()) Q E s := by
    cases v <;> first | exact wpAny_pure hq | skip
    refine wpAny_bind (wpAny_load hI ?_)
    rw [hc, hd]
    dsimp only
    rw [hn]
    exact wpAny_pure hq
  unfold letOwnedTupleGo
  split
  · exact main
  · exact main
  · exact wpAny_pure hq

noncomputable def lstIter (a : Addr) (i : Nat) (o : Obj) : Prop := o.cls = .type "list_iterator" ∧ o.data = .fields #[.ref a, .int i 0]
-- ranges
noncomputable def rngIter (N : Nat) (i : Nat) (o : Obj) : Prop := o = { cls := .type "range_iterator", data := .fields #[rawInt (i : Int), rawInt ((N : Int) - i), rawInt 1] }
theorem itOk_rng (hN : C.hd = none) {I : Addr} {N : Nat} : ItOk C I N (fun i => .int (i : Int)) (fun _ => True) (rngIter N) where
  tup := fun i o h e => by have := e.cls; rw [h] at this; simp at this
  own := fun A M i s o Q E t v hI hAt hq => by subst hAt; exact own_plain hI rfl rfl (by decide) hq
  next := fun A i s o ν Q E hh hi R hI hAt hs h => by
    subst hAt
    refine wpAny_pyNext_range_item (x := (i : Int)) (left := (N : Int) - i) (step := 1) hI (by omega) fun h' hit sb => ?_
    have e1 : ((N : Int) - i - 1) = (N : Int) - ((i + 1 : Nat) : Int) := by omega
    have e2 : ((i : Int) + 1) = ((i + 1 : Nat) : Int) := by omega
    rw [e1, e2] at hit
    exact h _ h' _ _ (.int _ _) (fun b o hb e => (sb.2 b hb).trans e) hit rfl
  done := fun A s o ν Q E hh R hI hAt hs h => by
    subst hAt
    exact wpAny_pyNext_range_end (x := (N : Int)) (left := (N : Int) - N) (step := 1) (hh.trans hN) hI (by omega) fun h' he => h h' s.toks fun b o hb e => he b o hb e
theorem getNone (s : Shared) : s.heap.get? s.heap.objs.size = none := by
  cases q : s.heap.get? s.heap.objs.size with
  | none => rfl
  | some o => exact absurd (Heap.lt_size q) (Nat.lt_irrefl _)
theorem TF_rng (hN : C.hd = none) {t : Expr} {body : List Stmt} {m : Int} {Q : Fl → Loc → Nu → Prop} (hm : -(2 ^ 62) ≤ m) (hm' : m < 2 ^ 62)
    (J : Nat → Loc → Nu → Prop) (hJ : J 0 l ν)
    (turn : ∀ i l ν, i < m.toNat → J i l ν → TG C n sc t (.int (i : Int)) l ν (fun l₁ ν₁ => TSs C n sc body l₁ ν₁ (LoopK J i Q)))
    (fin : ∀ l ν, J m.toNat l ν → Q .next l ν) : TF C n sc t body (.rng m) l ν Q := by
  intro A env s v hA R F hv
  cases hv with
  | rng e =>
  have sm := small_one (a := 0) (b := m) (by decide) (by decide) hm hm'
  refine wpAny_pyIter_range e sm ?_
  have e3 : Builtin.Range.rangeSize 0 m 1 = ((m.toNat : Nat) : Int) := by rw [rangeSize_one]; split <;> omega
  rw [e3]
  refine for_core (s := s) (itOk_rng hN (N := m.toNat)) hA F (Fro.push _ _) (R.push _) (Heap.get?_push_size _ rfl) (by unfold rngIter; simp) (getNone s) R.fresh F.baseLe R J hJ (fun _ _ _ _ => trivial) turn fin
end
end Mine

namespace Mine
open PySem

section
variable {C : Cx} {n : Nat} {sc : Scope} {l : Loc} {ν : Nu}

theorem bindL_not (k : Str → Option NameKind) : ∀ (names : List Str) (vs : List Value) (m : Str → Option Value) (x : Str), x ∉ names → bindL k (names.zip vs) m x = m x
  | [], _, _, _, _ => by simp [bindL]
  | _ :: _, [], _, _, _ => by simp [bindL]
  | y :: ys, v :: vs, m, x, hx => by
    simp only [List.mem_cons, not_or] at hx
    simp only [List.zip_cons_cons, bindL]
    rw [bindL_not k ys vs _ x hx.2]
    split
    · exact if_neg hx.1
    · rfl
theorem bindC_not (k : Str → Option NameKind) : ∀ (names : List Str) (vs : List Value) (m : Str → Option Value) (x : Str), x ∉ names → bindC k (names.zip vs) m x = m x
  | [], _, _, _, _ => by simp [bindC]
  | _ :: _, [], _, _, _ => by simp [bindC]
  | y :: ys, v :: vs, m, x, hx => by
    simp only [List.mem_cons, not_or] at hx
    simp only [List.zip_cons_cons, bindC]
    rw [bindC_not k ys vs _ x hx.2]
    split
    · rfl
    · exact if_neg hx.1
theorem bindL_in {h : Heap} (k : Str → Option NameKind) : ∀ (names : List Str) (vs : List Value) (ds : List D) (m : Str → Option Value) (x : Str) (d : D), names.Nodup → RVs h vs ds → lk (names.zip ds) x = some d → k x = some .local → ∃ v, bindL k (names.zip vs) m x = some v ∧ RV h v d
  | [], _, _, _, _, _, _, _, e, _ => by simp [lk] at e
  | _ :: _, [], _, _, _, _, _, r, e, _ => by cases r; simp [lk] at e
  | y :: ys, v :: vs, _, m, x, d, nd, .cons (d := d') (ds := ds) rv r, e, hk => by
    simp only [List.zip_cons_cons, lk] at e
    simp only [List.zip_cons_cons, bindL]
    by_cases hx : x = y
    · subst hx
      rw [if_pos rfl] at e; cases e
      rw [bindL_not k ys vs _ x (List.nodup_cons.mp nd).1, if_pos hk]
      exact ⟨v, if_pos rfl, rv⟩
    · rw [if_neg hx] at e
      exact bindL_in k ys vs ds _ x d (List.nodup_cons.mp nd).2 r e hk
theorem bindC_in {h : Heap} (k : Str → Option NameKind) : ∀ (names : List Str) (vs : List Value) (ds : List D) (m : Str → Option Value) (x : Str) (d : D), names.Nodup → RVs h vs ds → lk (names.zip ds) x = some d → k x ≠ some .local → ∃ v, bindC k (names.zip vs) m x = some v ∧ RV h v d
  | [], _, _, _, _, _, _, _, e, _ => by simp [lk] at e
  | _ :: _, [], _, _, _, _, _, r, e, _ => by cases r; simp [lk] at e
  | y :: ys, v :: vs, _, m, x, d, nd, .cons (d := d') (ds := ds) rv r, e, hk => by
    simp only [List.zip_cons_cons, lk] at e
    simp only [List.zip_cons_cons, bindC]
    by_cases hx : x = y
    · subst hx
      rw [if_pos rfl] at e; cases e
      rw [bindC_not k ys vs _ x (List.nodup_cons.mp nd).1, if_neg hk]
      exact ⟨v, if_pos rfl, rv⟩
    · rw [if_neg hx] at e
      exact bindC_in k ys vs ds _ x d (List.nodup_cons.mp nd).2 r e hk
theorem lk_zip_mem : ∀ (names : List Str) (ds : List D) (x : Str) (d : D), lk (names.zip ds) x = some d → x ∈ names
  | [], _, _, _, e => by simp [lk] at e
  | _ :: _, [], _, _, e => by simp [lk] at e
  | y :: ys, d' :: ds, x, d, e => by
    simp only [List.zip_cons_cons, lk] at e
    by_cases hx : x = y
    · subst hx; exact .head _
    · rw [if_neg hx] at e; exact .tail _ (lk_zip_mem ys ds x d e)
theorem cellsFrom_has {x : Str} : ∀ (names : List (Str × NameKind)) (m : Nat) (acc : List (Str × Addr)), names.lookup x = some .cell ∨ (∃ c, acc.lookup x = some c) → ∃ c, (cellsFrom m names acc).lookup x = some c
  | [], _, _, h => h.elim (fun e => by simp at e) id
  | (y, k) :: r, m, acc, h => by
    unfold cellsFrom
    by_cases hxy : x = y
    · subst hxy
      split
      · exact cellsFrom_has r (m + 1) _ (.inr ⟨m, by simp⟩)
      · rename_i hk
        refine cellsFrom_has r m acc (h.elim (fun e => ?_) .inr)
        simp at e; subst e; simp at hk
    · have hb : (x == y) = false := by simpa using hxy
      split
      · exact cellsFrom_has r (m + 1) _ (h.imp (fun e => by simpa [List.lookup_cons, hb] using e) fun ⟨c, e⟩ => ⟨c, by simpa [List.lookup_cons, hb] using e⟩)
      · exact cellsFrom_has r m acc (h.imp (fun e => by simpa [List.lookup_cons, hb] using e) id)

/-- a def of the text, as the top's part tells it -/
structure IsDef (C : Cx) (f : Addr) (names : List Str) (body : List Stmt) (scope : Scope) : Prop where
  ex : ∃ o fd, C.K.lookup f = some o ∧ o.data = .func fd ∧ fd.body = .stmts body ∧ fd.closure = [] ∧ fd.globals = mainGlobals ∧ fd.builtins = builtinsNs ∧ fd.scope = scope ∧ C.base.CodeRec fd.code fd.qualname ∧
    ∀ vs : List Value, vs.length = names.length → bindArgs fd ⟨vs, []⟩ = pure (names.zip vs)
  co : scope.isCoroutine = false
  gen : scope.isGenerator = false
  kind : scope.kind = .function
  nodup : names.Nodup
  kinds : ∀ x ∈ names, storable scope x

/-- a call, as code -/
noncomputable def TK (C : Cx) (n : Nat) (f : Value) (ds : List D) (ν : Nu) (Q : D → Nu → Prop) : Prop :=
  ∀ A s vs, Aok C n A → Ref C ν s.heap → C.base.objs.size ≤ s.heap.objs.size → RVs s.heap vs ds → codeAny (model C.prog C.w) A (.call f ⟨vs, []⟩) (fun r s' => match r with | .ok (.ret v) => PostV C ν s Q v s' | .ok _ => False | .error e => nev e s') s
theorem TC_of {f : Value} {ds : List D} {Q : D → Nu → Prop} (h : TK C n f ds ν Q) : TC C n f ds ν Q := fun A s vs hA R hz hv => wpAny_call (h A s vs hA R hz hv)
theorem TK_def {f : Addr} {names : List Str} {body : List Stmt} {ds : List D} {Q : D → Nu → Prop} (I : IsDef C f names body sc) (hlen : ds.length = names.length)
    (h : TSs C n sc body (names.zip ds) ν (FunK Q)) : TK C (n + 1) (.ref f) ds ν Q := by
  intro A s vs hA R hz hv
  obtain ⟨⟨o, fd, ho, hd, hb, hc, hg, hbl, rfl, hcd, hbind⟩, co, gen, kind, nd, kinds⟩ := I
  have ho' := R.keep _ _ (C.inK _ _ ho)
  have hfc : ∀ x, fd.scope.names.lookup x = some .cell → ∃ c, (cellsFrom (s.heap.objs.size + 1) fd.scope.names []).lookup x = some c := fun x hx => cellsFrom_has _ _ _ (.inl hx)
  refine (codeAny_call_cells hA.room ho' hd (C.nolimit.keeps R.keep) (hcd.keeps R.keep) hb (hbind vs (hv.length.trans hlen)) hc (fun x hx => ?_) (fun s₁ X => ?_) co gen kind)
  · have hm : x.1 ∈ names := (List.of_mem_zip hx).1
    rcases kinds _ hm with q | q
    · exact .inl q
    · obtain ⟨c, e⟩ := hfc _ q; exact .inr ⟨q, by rw [e]; rfl⟩
  · obtain ⟨h₁, t₁, rfl⟩ := X.toInCall.same
    have k : ∀ b o, s.heap.get? b = some o → h₁.get? b = some o := X.toInCall.keep
    have kt : TupKeep s.heap h₁ := fun a o e _ => k a o e
    have R₁ : Ref C ν h₁ := ⟨fun b o e => k b o (R.keep b o e), fun a o e => by
      obtain ⟨ob, hob, _⟩ := (R.at_ a o e).get
      exact (R.at_ a o e).keep kt ((k _ _ hob).trans hob.symm), R.own⟩
    have nnone : ∀ b, s.heap.objs.size ≤ b → ν b = none := fun b hb => by
      cases q : ν b with
      | none => rfl
      | some o => exact absurd (R.at_ _ _ q).lt (Nat.not_lt.mpr hb)
    have ab : ∀ x c, (callEnvC fd s.heap.objs.size f).cells.lookup x = some c → s.heap.objs.size < c := fun x c e => X.above x c (mem_of_lookup e)
    have F₁ : Frm C (callEnvC fd s.heap.objs.size f) fd.scope (names.zip ds) ν h₁ := by
      refine ⟨rfl, kind, hg, hbl, ⟨_, X.toInCall.ns, fun x d e hk => ?_⟩, fun x c hc => ⟨_, X.cell x c hc, fun d e hk => ?_⟩, fun x d e => ?_, fun x hx => hfc x hx, nnone _ (Nat.le_refl _), fun x c e => nnone _ (Nat.le_of_lt (ab x c e)), fun x y c e1 e2 => ?_, hz, fun x c e => Nat.le_trans hz (Nat.le_of_lt (ab x c e))⟩
      · exact bindL_in _ names vs ds _ x d nd (hv.keep kt) e hk
      · exact bindC_in _ names vs ds _ x d nd (hv.keep kt) e hk
      · rcases kinds x (lk_zip_mem _ _ _ _ e) with q | q
        · exact .inl q
        · exact .inr ⟨.inl q, hfc x q⟩
      · exact name_of_addr X.apart (mem_of_lookup e1) (mem_of_lookup e2)
    refine wpAny_mono (h _ _ _ (hA.deeper _) R₁ F₁) ?_ fun _ _ x => x.elim
    rintro fl s' ⟨fl', l', ν', hf, R', F', x', q⟩
    obtain ⟨h2, t2, rfl⟩ := x'.eq
    have notFr : ∀ b o, s.heap.get? b = some o → ¬ fr (callEnvC fd s.heap.objs.size f) b := by
      rintro b o e (rfl | ⟨x, hx⟩)
      · exact Nat.lt_irrefl _ (Heap.lt_size e)
      · exact Nat.lt_irrefl _ (Nat.lt_trans (Heap.lt_size e) (ab x b hx))
    have X' : Fro no ν ν' s { s with heap := h2, toks := t2 } := ⟨⟨h2, t2, rfl⟩, fun b o e hn _ => x'.keep b o (k b o e) hn (notFr b o e), fun b o e hn => x'.alive b o (k b o e) hn, fun b o e hn => x'.dom b o (k b o e) hn⟩
    cases hf with
    | ret r => exact ⟨_, ν', r, R', X', q⟩
    | next => exact ⟨.none, ν', .none, R', X', q⟩
    | brk => exact ⟨.none, ν', .none, R', X', q⟩
    | cont => exact ⟨.none, ν', .none, R', X', q⟩

theorem evalArgs_any {M : Model} {A : Around} {E : Value → Shared → Prop} {s : Shared} {f : Value} {env : Env} {pos : Pos} {args : List Expr} {Q : Args → Shared → Prop} (hst : noSt args = true)
    (h : wpAny M A (spliced (backTo pos (starEach args env))) (fun vs s' => Q ⟨vs, []⟩ s') E s) : wpAny M A (evalArgs f true (backTo pos (starEach args env)) []) Q E s := by
  cases args with
  | nil =>
    unfold evalArgs
    show wpAny M A (spliced [] >>= _) Q E s
    refine wpAny_bind (wpAny_mono h (fun vs s' h' => ?_) fun _ _ x => x)
    refine wpAny_holding ?_
    exact wpAny_bind (wpAny_pure (wpAny_bind (wpAny_pure (wpAny_pure h'))))
  | cons e es =>
    simp only [noSt, Bool.and_eq_true, Bool.not_eq_true'] at hst
    rw [starEach_cons hst.1] at h ⊢
    exact Calls.evalArgs_plain h

/-- the call of a global def by its name -/
theorem TE_call {x : Str} {p pos : Pos} {args : List Expr} {f : Addr} {Q : D → Nu → Prop} (hk : sc.names.lookup x = some .globalImplicit) (hg : C.G x (.ref f)) (hf : ∃ o fd, C.K.lookup f = some o ∧ o.data = .func fd)
    (h : TL C n sc args l ν (fun ds ν₁ => TC C n (.ref f) ds ν₁ Q)) (hx : (x == ("__debug__" : Str)) = false) (hst : noSt args = true) : TE C n sc (.Call (.Name x p) args [] pos) l ν Q := by
  intro A env s hA R F
  show wpAny _ A (eval (.Name x p) env >>= fun f => callWith pos f [] (backTo pos (starEach args env)) (backToKw pos (keywordEach [] env))) _ _ s
  refine wpAny_bind (wpAny_mono (TE_glob (C := C) (n := n) (Q := fun d ν' => d = .val (.ref f) ∧ ν' = ν) hk hg ⟨rfl, rfl⟩ hx A env s hA R F) ?_ fun _ _ x => x)
  rintro v s₁ ⟨d, ν₁, hv, R₁, x₁, rfl, rfl⟩
  cases hv
  obtain ⟨o, fd, ho, hd⟩ := hf
  have F₁ := F.fro R x₁
  refine Calls.callWith_function (o := o) (fd := fd) (evalArgs_any hst (wpAny_mono (h A env s₁ pos hA R₁ F₁) ?_ fun _ _ x => x))
  rintro vs s₂ ⟨ds, ν₂, hvs, R₂, x₂, hq⟩
  exact ⟨⟨R₂.keep _ _ (C.inK _ _ ho), hd⟩, wpAny_mono (hq A s₂ vs hA R₂ (F₁.fro R₁ x₂).baseLe hvs) (fun _ _ p => (p.after x₂).after x₁) fun _ _ x => x⟩

/-- the call of a built-in function by its name -/
theorem TE_callB {x : Str} {p pos : Pos} {args : List Expr} {id : String} {Q : D → Nu → Prop} (hk : sc.names.lookup x = some .globalImplicit) (hg : C.G x (.builtin id))
    (h : TL C n sc args l ν (fun ds ν₁ => TC C n (.builtin id) ds ν₁ Q)) (hx : (x == ("__debug__" : Str)) = false) (hst : noSt args = true) : TE C n sc (.Call (.Name x p) args [] pos) l ν Q := by
  intro A env s hA R F
  show wpAny _ A (eval (.Name x p) env >>= fun f => callWith pos f [] (backTo pos (starEach args env)) (backToKw pos (keywordEach [] env))) _ _ s
  refine wpAny_bind (wpAny_mono (TE_glob (C := C) (n := n) (Q := fun d ν' => d = .val (.builtin id) ∧ ν' = ν) hk hg ⟨rfl, rfl⟩ hx A env s hA R F) ?_ fun _ _ x => x)
  rintro v s₁ ⟨d, ν₁, hv, R₁, x₁, rfl, rfl⟩
  cases hv
  have F₁ := F.fro R x₁
  refine Calls.callWith_builtin (noSt_any hst _ _) (evalArgs_any hst (wpAny_mono (h A env s₁ pos hA R₁ F₁) ?_ fun _ _ x => x))
  rintro vs s₂ ⟨ds, ν₂, hvs, R₂, x₂, hq⟩
  exact wpAny_mono (hq A s₂ vs hA R₂ (F₁.fro R₁ x₂).baseLe hvs) (fun _ _ p => (p.after x₂).after x₁) fun _ _ x => x
/-- the call of a built-in type by its name -/
theorem TE_callT {x : Str} {p pos : Pos} {args : List Expr} {T : String} {Q : D → Nu → Prop} (hk : sc.names.lookup x = some .globalImplicit) (hg : C.G x (.type T))
    (h : TL C n sc args l ν (fun ds ν₁ => TC C n (.type T) ds ν₁ Q)) (hx : (x == ("__debug__" : Str)) = false) (hst : noSt args = true) : TE C n sc (.Call (.Name x p) args [] pos) l ν Q := by
  intro A env s hA R F
  show wpAny _ A (eval (.Name x p) env >>= fun f => callWith pos f [] (backTo pos (starEach args env)) (backToKw pos (keywordEach [] env))) _ _ s
  refine wpAny_bind (wpAny_mono (TE_glob (C := C) (n := n) (Q := fun d ν' => d = .val (.type T) ∧ ν' = ν) hk hg ⟨rfl, rfl⟩ hx A env s hA R F) ?_ fun _ _ x => x)
  rintro v s₁ ⟨d, ν₁, hv, R₁, x₁, rfl, rfl⟩
  cases hv
  have F₁ := F.fro R x₁
  refine callWith_type (noSt_any hst _ _) (evalArgs_any hst (wpAny_mono (h A env s₁ pos hA R₁ F₁) ?_ fun _ _ x => x))
  rintro vs s₂ ⟨ds, ν₂, hvs, R₂, x₂, hq⟩
  exact wpAny_mono (hq A s₂ vs hA R₂ (F₁.fro R₁ x₂).baseLe hvs) (fun _ _ p => (p.after x₂).after x₁) fun _ _ x => x
end
end Mine

namespace Mine
open PySem PyProof.Rows

section
variable {C : Cx} {n : Nat} {sc : Scope} {l : Loc} {ν : Nu} {Q : D → Nu → Prop}

-- ints
theorem T2_add {a b : Int} (h : Q (.int (a + b)) ν) : T2 C n (binaryOp .Add) (.int a) (.int b) ν Q := by
  intro A s v u hA R hz hv hu; (first | (have hq := RV.int_inv hv; clear hv; obtain ⟨_, rfl⟩ := hq) | (have hq := RV.str_inv hv; clear hv; obtain ⟨_, rfl⟩ := hq) | (have hq := RV.ref_inv hv; clear hv; subst hq) | (have hq := RV.val_inv hv; clear hv; subst hq) | (have hq := RV.bool_inv hv; clear hv; subst hq) | cases hv); (first | (have hq := RV.int_inv hu; clear hu; obtain ⟨_, rfl⟩ := hq) | (have hq := RV.str_inv hu; clear hu; obtain ⟨_, rfl⟩ := hq) | (have hq := RV.ref_inv hu; clear hu; subst hq) | (have hq := RV.val_inv hu; clear hu; subst hq) | (have hq := RV.bool_inv hu; clear hu; subst hq) | cases hu); exact PyProof.Rows.add_int (postV_toks R (.int ..) h)
theorem T2_sub {a b : Int} (h : Q (.int (a - b)) ν) : T2 C n (binaryOp .Sub) (.int a) (.int b) ν Q := by
  intro A s v u hA R hz hv hu; (first | (have hq := RV.int_inv hv; clear hv; obtain ⟨_, rfl⟩ := hq) | (have hq := RV.str_inv hv; clear hv; obtain ⟨_, rfl⟩ := hq) | (have hq := RV.ref_inv hv; clear hv; subst hq) | (have hq := RV.val_inv hv; clear hv; subst hq) | (have hq := RV.bool_inv hv; clear hv; subst hq) | cases hv); (first | (have hq := RV.int_inv hu; clear hu; obtain ⟨_, rfl⟩ := hq) | (have hq := RV.str_inv hu; clear hu; obtain ⟨_, rfl⟩ := hq) | (have hq := RV.ref_inv hu; clear hu; subst hq) | (have hq := RV.val_inv hu; clear hu; subst hq) | (have hq := RV.bool_inv hu; clear hu; subst hq) | cases hu); exact PyProof.Rows.sub_int (postV_toks R (.int ..) h)
theorem T2_mul {a b : Int} (hm : IntMulOk a b) (h : Q (.int (a * b)) ν) : T2 C n (binaryOp .Mult) (.int a) (.int b) ν Q := by
  intro A s v u hA R hz hv hu; (first | (have hq := RV.int_inv hv; clear hv; obtain ⟨_, rfl⟩ := hq) | (have hq := RV.str_inv hv; clear hv; obtain ⟨_, rfl⟩ := hq) | (have hq := RV.ref_inv hv; clear hv; subst hq) | (have hq := RV.val_inv hv; clear hv; subst hq) | (have hq := RV.bool_inv hv; clear hv; subst hq) | cases hv); (first | (have hq := RV.int_inv hu; clear hu; obtain ⟨_, rfl⟩ := hq) | (have hq := RV.str_inv hu; clear hu; obtain ⟨_, rfl⟩ := hq) | (have hq := RV.ref_inv hu; clear hu; subst hq) | (have hq := RV.val_inv hu; clear hu; subst hq) | (have hq := RV.bool_inv hu; clear hu; subst hq) | cases hu); exact PyProof.Rows.mul_int (postV_toks R (.int ..) h) hm
theorem T2_div {a b : Int} (hb : b ≠ 0) (hb' : b.natAbs < 1073741824) (h : Q (.int (a.fdiv b)) ν) : T2 C n (binaryOp .FloorDiv) (.int a) (.int b) ν Q := by
  intro A s v u hA R hz hv hu; (first | (have hq := RV.int_inv hv; clear hv; obtain ⟨_, rfl⟩ := hq) | (have hq := RV.str_inv hv; clear hv; obtain ⟨_, rfl⟩ := hq) | (have hq := RV.ref_inv hv; clear hv; subst hq) | (have hq := RV.val_inv hv; clear hv; subst hq) | (have hq := RV.bool_inv hv; clear hv; subst hq) | cases hv); (first | (have hq := RV.int_inv hu; clear hu; obtain ⟨_, rfl⟩ := hq) | (have hq := RV.str_inv hu; clear hu; obtain ⟨_, rfl⟩ := hq) | (have hq := RV.ref_inv hu; clear hu; subst hq) | (have hq := RV.val_inv hu; clear hu; subst hq) | (have hq := RV.bool_inv hu; clear hu; subst hq) | cases hu); exact PyProof.Rows.floordiv_int hb (postV_toks R (.int ..) h) (.inl (PyProof.noPylong_small hb'))
theorem T2_mod {a b : Int} (hb : b ≠ 0) (h : Q (.int (a.fmod b)) ν) : T2 C n (binaryOp .Mod) (.int a) (.int b) ν Q := by
  intro A s v u hA R hz hv hu; (first | (have hq := RV.int_inv hv; clear hv; obtain ⟨_, rfl⟩ := hq) | (have hq := RV.str_inv hv; clear hv; obtain ⟨_, rfl⟩ := hq) | (have hq := RV.ref_inv hv; clear hv; subst hq) | (have hq := RV.val_inv hv; clear hv; subst hq) | (have hq := RV.bool_inv hv; clear hv; subst hq) | cases hv); (first | (have hq := RV.int_inv hu; clear hu; obtain ⟨_, rfl⟩ := hq) | (have hq := RV.str_inv hu; clear hu; obtain ⟨_, rfl⟩ := hq) | (have hq := RV.ref_inv hu; clear hu; subst hq) | (have hq := RV.val_inv hu; clear hu; subst hq) | (have hq := RV.bool_inv hu; clear hu; subst hq) | cases hu); exact PyProof.Rows.mod_int' hb (postV_toks R (.int ..) h)
theorem T1_neg {a : Int} (h : Q (.int (-a)) ν) : T1 C n (unaryOp .USub) (.int a) ν Q := by
  intro A s v hA R hz hv; (first | (have hq := RV.int_inv hv; clear hv; obtain ⟨_, rfl⟩ := hq) | (have hq := RV.str_inv hv; clear hv; obtain ⟨_, rfl⟩ := hq) | (have hq := RV.ref_inv hv; clear hv; subst hq) | (have hq := RV.val_inv hv; clear hv; subst hq) | (have hq := RV.bool_inv hv; clear hv; subst hq) | cases hv); exact PyProof.Rows.neg_int (postV_toks R (.int ..) h)
theorem T2_lt {a b : Int} (h : Q (.bool (decide (a < b))) ν) : T2 C n (compareOp .Lt) (.int a) (.int b) ν Q := by
  intro A s v u hA R hz hv hu; (first | (have hq := RV.int_inv hv; clear hv; obtain ⟨_, rfl⟩ := hq) | (have hq := RV.str_inv hv; clear hv; obtain ⟨_, rfl⟩ := hq) | (have hq := RV.ref_inv hv; clear hv; subst hq) | (have hq := RV.val_inv hv; clear hv; subst hq) | (have hq := RV.bool_inv hv; clear hv; subst hq) | cases hv); (first | (have hq := RV.int_inv hu; clear hu; obtain ⟨_, rfl⟩ := hq) | (have hq := RV.str_inv hu; clear hu; obtain ⟨_, rfl⟩ := hq) | (have hq := RV.ref_inv hu; clear hu; subst hq) | (have hq := RV.val_inv hu; clear hu; subst hq) | (have hq := RV.bool_inv hu; clear hu; subst hq) | cases hu); exact PyProof.Rows.lt_int (postV_here R (.bool _) h)
theorem T2_gt {a b : Int} (h : Q (.bool (decide (b < a))) ν) : T2 C n (compareOp .Gt) (.int a) (.int b) ν Q := by
  intro A s v u hA R hz hv hu; (first | (have hq := RV.int_inv hv; clear hv; obtain ⟨_, rfl⟩ := hq) | (have hq := RV.str_inv hv; clear hv; obtain ⟨_, rfl⟩ := hq) | (have hq := RV.ref_inv hv; clear hv; subst hq) | (have hq := RV.val_inv hv; clear hv; subst hq) | (have hq := RV.bool_inv hv; clear hv; subst hq) | cases hv); (first | (have hq := RV.int_inv hu; clear hu; obtain ⟨_, rfl⟩ := hq) | (have hq := RV.str_inv hu; clear hu; obtain ⟨_, rfl⟩ := hq) | (have hq := RV.ref_inv hu; clear hu; subst hq) | (have hq := RV.val_inv hu; clear hu; subst hq) | (have hq := RV.bool_inv hu; clear hu; subst hq) | cases hu); exact PyProof.Rows.gt_int (postV_here R (.bool _) h)
theorem T2_ge {a b : Int} (h : Q (.bool (decide (b ≤ a))) ν) : T2 C n (compareOp .GtE) (.int a) (.int b) ν Q := by
  intro A s v u hA R hz hv hu; (first | (have hq := RV.int_inv hv; clear hv; obtain ⟨_, rfl⟩ := hq) | (have hq := RV.str_inv hv; clear hv; obtain ⟨_, rfl⟩ := hq) | (have hq := RV.ref_inv hv; clear hv; subst hq) | (have hq := RV.val_inv hv; clear hv; subst hq) | (have hq := RV.bool_inv hv; clear hv; subst hq) | cases hv); (first | (have hq := RV.int_inv hu; clear hu; obtain ⟨_, rfl⟩ := hq) | (have hq := RV.str_inv hu; clear hu; obtain ⟨_, rfl⟩ := hq) | (have hq := RV.ref_inv hu; clear hu; subst hq) | (have hq := RV.val_inv hu; clear hu; subst hq) | (have hq := RV.bool_inv hu; clear hu; subst hq) | cases hu); exact PyProof.Rows.ge_int (postV_here R (.bool _) h)
theorem T2_eq {a b : Int} (h : Q (.bool (decide (a = b))) ν) : T2 C n (compareOp .Eq) (.int a) (.int b) ν Q := by
  intro A s v u hA R hz hv hu; (first | (have hq := RV.int_inv hv; clear hv; obtain ⟨_, rfl⟩ := hq) | (have hq := RV.str_inv hv; clear hv; obtain ⟨_, rfl⟩ := hq) | (have hq := RV.ref_inv hv; clear hv; subst hq) | (have hq := RV.val_inv hv; clear hv; subst hq) | (have hq := RV.bool_inv hv; clear hv; subst hq) | cases hv); (first | (have hq := RV.int_inv hu; clear hu; obtain ⟨_, rfl⟩ := hq) | (have hq := RV.str_inv hu; clear hu; obtain ⟨_, rfl⟩ := hq) | (have hq := RV.ref_inv hu; clear hu; subst hq) | (have hq := RV.val_inv hu; clear hu; subst hq) | (have hq := RV.bool_inv hu; clear hu; subst hq) | cases hu); exact PyProof.Rows.eq_int (postV_here R (.bool _) (by rw [show (a == b) = decide (a = b) from rfl]; exact h))
-- strs
theorem T2_addS {x y : Str} (hs : x.length + y.length ≤ sizeLine) (h : Q (.str (x ++ y)) ν) : T2 C n (binaryOp .Add) (.str x) (.str y) ν Q := by
  intro A s v u hA R hz hv hu; (first | (have hq := RV.int_inv hv; clear hv; obtain ⟨_, rfl⟩ := hq) | (have hq := RV.str_inv hv; clear hv; obtain ⟨_, rfl⟩ := hq) | (have hq := RV.ref_inv hv; clear hv; subst hq) | (have hq := RV.val_inv hv; clear hv; subst hq) | (have hq := RV.bool_inv hv; clear hv; subst hq) | cases hv); (first | (have hq := RV.int_inv hu; clear hu; obtain ⟨_, rfl⟩ := hq) | (have hq := RV.str_inv hu; clear hu; obtain ⟨_, rfl⟩ := hq) | (have hq := RV.ref_inv hu; clear hu; subst hq) | (have hq := RV.val_inv hu; clear hu; subst hq) | (have hq := RV.bool_inv hu; clear hu; subst hq) | cases hu); exact PyProof.Rows.add_str (fun t tk => postV_toks R (.str ..) h) hs
theorem T2_eqS {x y : Str} (h : Q (.bool (decide (x = y))) ν) : T2 C n (compareOp .Eq) (.str x) (.str y) ν Q := by
  intro A s v u hA R hz hv hu; (first | (have hq := RV.int_inv hv; clear hv; obtain ⟨_, rfl⟩ := hq) | (have hq := RV.str_inv hv; clear hv; obtain ⟨_, rfl⟩ := hq) | (have hq := RV.ref_inv hv; clear hv; subst hq) | (have hq := RV.val_inv hv; clear hv; subst hq) | (have hq := RV.bool_inv hv; clear hv; subst hq) | cases hv); (first | (have hq := RV.int_inv hu; clear hu; obtain ⟨_, rfl⟩ := hq) | (have hq := RV.str_inv hu; clear hu; obtain ⟨_, rfl⟩ := hq) | (have hq := RV.ref_inv hu; clear hu; subst hq) | (have hq := RV.val_inv hu; clear hu; subst hq) | (have hq := RV.bool_inv hu; clear hu; subst hq) | cases hu); exact PyProof.Rows.eq_str (postV_here R (.bool _) (by rw [show (x == y) = decide (x = y) by simp [Bool.beq_eq_decide_eq]]; exact h))
-- None
-- subscripts
noncomputable def isSl : Expr → Bool
  | .Slice .. => true
  | _ => false
theorem subscripted_plain {slice : Expr} (h : isSl slice = false) (o i : Value) : subscripted slice false o i = operate [o, i] (getItem o i) := by
  unfold subscripted
  cases slice <;> first | rfl | cases h
theorem TE_sub {value slice : Expr} {pos} (h : TE C n sc value l ν (fun o ν₁ => TE C n sc slice l ν₁ (fun i ν₂ => T2 C n (subscriptTail value slice) o i ν₂ Q))) : TE C n sc (.Subscript value slice pos) l ν Q := by
  intro A env s hA R F
  refine Subscript_ (wpAny_mono (h A env s hA R F) ?_ fun _ _ x => x)
  rintro v s₁ ⟨d, ν₁, hv, R₁, x₁, hq⟩
  refine wpAny_mono (hq A env s₁ hA R₁ (F.fro R x₁)) ?_ fun _ _ x => x
  rintro u s₂ ⟨e, ν₂, hu, R₂, x₂, hq2⟩
  exact wpAny_mono (hq2 A s₂ v u hA R₂ ((F.fro R x₁).fro R₁ x₂).baseLe (hv.fro R₁ x₂) hu) (fun _ _ p => (p.after x₂).after x₁) fun _ _ x => x
theorem T2_itemL {value slice : Expr} {a : Addr} {k : Int} {ds : List D} {d : D} (hs : seqOf (ν a) = some ds) (h0 : 0 ≤ k) (hk : k < 2 ^ 63) (hd : ds[k.toNat]? = some d) (h : Q d ν) (hsl : isSl slice = false) :
    T2 C n (subscriptTail value slice) (.ref a) (.int k) ν Q := by
  intro A s v u hA R hz hv hu; (first | (have hq := RV.int_inv hv; clear hv; obtain ⟨_, rfl⟩ := hq) | (have hq := RV.str_inv hv; clear hv; obtain ⟨_, rfl⟩ := hq) | (have hq := RV.ref_inv hv; clear hv; subst hq) | (have hq := RV.val_inv hv; clear hv; subst hq) | (have hq := RV.bool_inv hv; clear hv; subst hq) | cases hv); (first | (have hq := RV.int_inv hu; clear hu; obtain ⟨_, rfl⟩ := hq) | (have hq := RV.str_inv hu; clear hu; obtain ⟨_, rfl⟩ := hq) | (have hq := RV.ref_inv hu; clear hu; subst hq) | (have hq := RV.val_inv hu; clear hu; subst hq) | (have hq := RV.bool_inv hu; clear hu; subst hq) | cases hu)
  obtain ⟨vs, m, e, r⟩ := R.seq hs
  obtain ⟨x, hx, rx⟩ := r.get hd
  have hl : s.heap.IsList a vs.toArray := ⟨_, e, rfl, m, rfl⟩
  exact tail_any hl.typeIs slot_list_getitem.lookup (wpAny_getItem_list hl h0 hk (by simpa using hx) (postV_here R rx h)) (subscripted_plain hsl _ _)
-- truth
end
end Mine

namespace Mine
open PySem PyProof.Rows

section
variable {C : Cx} {n : Nat} {sc : Scope} {l : Loc} {ν : Nu} {Q : D → Nu → Prop}

/-- an object of the abstract heap is changed -/
theorem Ref.change {h h' : Heap} {a : Addr} {o₀ o : AObj} (R : Ref C ν h) (e : ν a = some o₀) (hn : ∀ ds, o₀ ≠ .scr ds) (hn2 : ∀ ob, o₀ ≠ .raw ob) (sb : Heap.SameBut a h h') (hk : TupKeep h h' → ObjAt C h' a o) : Ref C (upd ν a o) h' ∧ TupKeep h h' := by
  obtain ⟨ob, hob, hi⟩ := (R.at_ a o₀ e).get
  have kt : TupKeep h h' := fun b o' e' hI => (sb.2 b fun q => by subst q; rw [hob] at e'; cases e'; exact hi hI).trans e'
  have hb := R.own a o₀ e hn hn2
  refine ⟨⟨fun b o' e' => (sb.2 b (Nat.ne_of_lt (Nat.lt_of_lt_of_le (Heap.lt_size e') hb))).trans (R.keep b o' e'), fun b o' e' => ?_, fun b o' e' hs hs2 => ?_⟩, kt⟩
  · unfold upd at e'
    split at e'
    · rename_i q; subst q; cases e'; exact hk kt
    · rename_i q; exact (R.at_ b o' e').keep kt (sb.2 b q)
  · unfold upd at e'
    split at e'
    · rename_i q; subst q; exact hb
    · exact R.own b o' e' hs hs2
theorem Fro.change {own : Addr → Prop} {s : Shared} {h' : Heap} {t : Nat} {a : Addr} {o₀ o : AObj} (e : ν a = some o₀) (sb : Heap.SameBut a s.heap h') : Fro own ν (upd ν a o) s { s with heap := h', toks := t } := by
  have ne : ∀ b, ν b = none → b ≠ a := fun b hb q => by rw [q, e] at hb; cases hb
  exact ⟨⟨h', t, rfl⟩, fun b o' e' hn _ => (sb.2 b (ne b hn)).trans e', fun b o' e' hn => ⟨o', (sb.2 b (ne b hn)).trans e'⟩, fun b o' e' hn => by unfold upd; rw [if_neg (ne b hn)]; exact hn⟩
theorem mapSeq_lst (f : Array Value → Array Value) (vs : List Value) (m : Nat) : ∃ m', Obj.mapSeq f (lstObj vs m) = lstObj (f vs.toArray).toList m' := ⟨_, by unfold lstObj Obj.mapSeq; simp; rfl⟩
/-- a list of the abstract heap changed in place -/
theorem post_list {s : Shared} {a : Addr} {ds es : List D} {vs : List Value} {m : Nat} {f : Array Value → Array Value} {v : Value} {d : D} (R : Ref C ν s.heap) (e : ν a = some (.lst ds)) (hl : s.heap.get? a = some (lstObj vs m)) (r : RVs s.heap (f vs.toArray).toList es)
    (hv : RV s.heap v d) (h : Q d (upd ν a (.lst es))) {t : Nat} : PostV C ν s Q v { s with heap := s.heap.update a (Obj.mapSeq f), toks := t } := by
  have sb := Heap.SameBut.update s.heap a (Obj.mapSeq f)
  obtain ⟨m', em⟩ := mapSeq_lst f vs m
  have hg : (s.heap.update a (Obj.mapSeq f)).get? a = some (lstObj (f vs.toArray).toList m') := by rw [← em]; exact Heap.get?_update_self _ hl (by rw [em]; rfl)
  obtain ⟨R', kt⟩ := R.change (o := .lst es) e (fun _ => nofun) (fun _ => nofun) sb fun kt => ⟨_, m', hg, r.keep kt⟩
  exact ⟨d, _, hv.keep kt, R', Fro.change e sb, h⟩

-- methods of built-in types
theorem TE_meth {o : Expr} {name : Str} {apos pos : Pos} {args : List Expr} (f : D → Nu → Option Value)
    (hm : ∀ (A : Around) (s : Shared) (v : Value) (d : D) (ν : Nu) (g : Value) (pl : Sem Bool) (Q : Value × List Value → Shared → Prop) (E : Value → Shared → Prop), f d ν = some g → Ref C ν s.heap → RV s.heap v d → Q (g, [v]) s → wpAny (model C.prog C.w) A (getMethod v name pl) Q E s)
    (hk : ∀ (d : D) (ν : Nu) (g : Value) (h : Heap), f d ν = some g → (∀ b o, C.base.get? b = some o → h.get? b = some o) → ∃ k, (k = Keeper.frame ∨ k = Keeper.machine) ∧ ∀ (A : Around) (s : Shared) (Q : Keeper → Shared → Prop) (E : Value → Shared → Prop), (∀ b o, C.base.get? b = some o → s.heap.get? b = some o) → Q k s → wpAny (model C.prog C.w) A (keeperOf g) Q E s)
    (h : TE C n sc o l ν (fun d ν₁ => ∃ g, f d ν₁ = some g ∧ TL C n sc args l ν₁ (fun ds ν₂ => TC C n g (d :: ds) ν₂ Q)))
    (ha : ∀ env whole, attributeBase o name env whole = whole) (hst : noSt args = true) (hlen : args.length < 30) (hp : (apos.endLine == pos.line) = true) : TE C n sc (.Call (.Attribute o name apos) args [] pos) l ν Q := by
  intro A env s hA R F
  show wpAny _ A (attributeBase o name env (eval o env) >>= fun ov => standAt apos.atName >>= fun _ => methodCall o name apos pos env ov (args.length + 0) (backTo pos (starEach args env)) (backToKw pos (keywordEach [] env))) _ _ s
  rw [ha]
  refine wpAny_bind (wpAny_mono (h A env s hA R F) ?_ fun _ _ x => x)
  rintro v s₁ ⟨d, ν₁, hv, R₁, x₁, g, hg, hq⟩
  have F₁ := F.fro R x₁
  refine wpAny_bind (wpAny_standAt ?_)
  have few : methodCallForm (args.length + 0) (backTo pos (starEach args env)) [] = true := by
    have := noSt_any hst pos env
    unfold methodCallForm
    simp only [List.all_nil, Bool.and_true, List.isEmpty_nil, if_true, Nat.add_zero, Bool.and_eq_true, decide_eq_true_eq]
    refine ⟨?_, by omega⟩
    rw [List.all_eq_not_any_not]
    simpa using this
  unfold methodCall
  show wpAny _ A (holding [v] (calleeOf (methodCallForm (args.length + 0) (backTo pos (starEach args env)) []) o env v name) >>= fun p => methodCallPos (methodCallForm (args.length + 0) (backTo pos (starEach args env)) []) o env apos pos >>= fun cp => callWith cp p.1 p.2 (backTo pos (starEach args env)) []) _ _ s₁
  rw [few]
  refine wpAny_bind (wpAny_holding (hm A s₁ v d ν₁ g _ _ _ hg R₁ hv ?_))
  have hpos : methodCallPos true o env apos pos = pure pos := by unfold methodCallPos; rw [hp]; rfl
  rw [hpos]
  refine wpAny_bind (wpAny_pure ?_)
  unfold callWith
  refine wpAny_bind (wpAny_holding (evalArgs_any hst (wpAny_mono (hq A env s₁ pos hA R₁ F₁) ?_ fun _ _ x => x)))
  rintro vs s₂ ⟨ds, ν₂, hvs, R₂, x₂, hq2⟩
  refine wpAny_bind (wpAny_standAt ?_)
  obtain ⟨k, hk', hkp⟩ := hk d ν₁ g s₂.heap hg R₂.keep
  have F₂ := F₁.fro R₁ x₂
  have main : wpAny (model C.prog C.w) A (call g ([v] ++ vs)) (PostV C ν s Q) nev s₂ := wpAny_mono (hq2 A s₂ (v :: vs) hA R₂ F₂.baseLe (.cons (hv.fro R₁ x₂) hvs)) (fun _ _ p => (p.after x₂).after x₁) fun _ _ x => x
  have tail : ∀ {t : Sem Value}, wpAny (model C.prog C.w) A t (PostV C ν s Q) nev s₂ → wpAny (model C.prog C.w) A (t >>= fun r => holding [r] point >>= fun _ => pure r) (PostV C ν s Q) nev s₂ :=
    fun ht => wpAny_bind (wpAny_mono ht (fun r s₂ hr => wpAny_bind (wpAny_holding (wpAny_point (wpAny_pure hr)))) fun _ _ x => x)
  have pl := noSt_any hst pos env
  simp only [pl, List.any_nil, Bool.or_false]
  refine wpAny_bind (hkp A s₂ _ _ R₂.keep ?_)
  rcases hk' with rfl | rfl
  · dsimp only
    split
    · exact tail main
    · exact tail (by unfold callMarked; exact Calls.wpAny_keep main)
  · exact tail main

/-- a method of list -/
structure LM (name : Str) (id : String) : Prop where
  look : typeLookup (.type "list") name = pure (some (.builtin id))
  type : typeOf (.builtin id) = pure (.type "method_descriptor")
noncomputable def isL : D → Nu → Option Addr
  | .ref a, ν => match ν a with
    | some (.lst _) => some a
    | _ => none
  | _, _ => none
theorem isL_some {d : D} {a : Addr} (h : isL d ν = some a) : d = .ref a ∧ ∃ ds, ν a = some (.lst ds) := by
  unfold isL at h
  split at h
  · split at h
    · rename_i q; cases h; exact ⟨rfl, _, q⟩
    · cases h
  · cases h
theorem keep_builtin {id : String} (h : Heap) : ∃ k, (k = Keeper.frame ∨ k = Keeper.machine) ∧ ∀ (A : Around) (s : Shared) (Q : Keeper → Shared → Prop) (E : Value → Shared → Prop), (∀ b o, C.base.get? b = some o → s.heap.get? b = some o) → Q k s → wpAny (model C.prog C.w) A (keeperOf (.builtin id)) Q E s :=
  ⟨.machine, .inr rfl, fun _ _ _ _ _ q => wpAny_pure q⟩
theorem TE_methL {o : Expr} {name : Str} {id : String} {apos pos : Pos} {args : List Expr} (M : LM name id)
    (h : TE C n sc o l ν (fun d ν₁ => ∃ a, isL d ν₁ = some a ∧ TL C n sc args l ν₁ (fun ds ν₂ => TC C n (.builtin id) (d :: ds) ν₂ Q)))
    (ha : ∀ env whole, attributeBase o name env whole = whole) (hst : noSt args = true) (hlen : args.length < 30) (hp : (apos.endLine == pos.line) = true) : TE C n sc (.Call (.Attribute o name apos) args [] pos) l ν Q := by
  refine TE_meth (fun d ν => (isL d ν).map fun _ => .builtin id) ?_ ?_ (TE_mono h fun d ν' ⟨a, e, q⟩ => ⟨.builtin id, by rw [e]; rfl, q⟩) ha hst hlen hp
  · intro A s v d ν g pl Q E e R hv q
    obtain ⟨a, e1, e2⟩ := Option.map_eq_some_iff.mp e
    subst e2
    obtain ⟨rfl, ds, hd⟩ := isL_some e1
    (first | (have hq := RV.int_inv hv; clear hv; obtain ⟨_, rfl⟩ := hq) | (have hq := RV.str_inv hv; clear hv; obtain ⟨_, rfl⟩ := hq) | (have hq := RV.ref_inv hv; clear hv; subst hq) | (have hq := RV.val_inv hv; clear hv; subst hq) | (have hq := RV.bool_inv hv; clear hv; subst hq) | cases hv)
    obtain ⟨vs, m, ho, _⟩ := R.at_ a _ hd
    have hT : s.TypeIs (.ref a) "list" := ⟨_, ho, rfl⟩
    unfold getMethod
    refine wpAny_bind (wpAny_specialOf hT list_getattribute ?_)
    show wpAny _ A (if (Manifest.canonical "list.__getattribute__" != "object.__getattribute__") = true then _ else _) Q E s
    rw [canon_list_getattribute, if_neg Bool.false_ne_true]
    refine wpAny_bind (wpAny_specialOf hT list_getattr_none ?_)
    refine wpAny_bind (wpAny_specialOf hT M.look ?_)
    refine wpAny_bind (wpAny_of_eq M.type ?_)
    refine wpAny_bind (wpAny_load ho ?_)
    exact wpAny_bind (wpAny_rule (wpAny_pure q))
  · intro d ν g h e _
    obtain ⟨a, e1, e2⟩ := Option.map_eq_some_iff.mp e
    subst e2
    exact keep_builtin h
end
end Mine

namespace Mine
open PySem PyProof.Rows

section
variable {C : Cx} {n : Nat} {sc : Scope} {l : Loc} {ν : Nu} {Q : D → Nu → Prop}

theorem LM_append : LM "append" "list.append" := ⟨slot_list_append.lookup, type_list_append⟩
theorem TC_append {a : Addr} {ds : List D} {d : D} (e : ν a = some (.lst ds)) (hz : ds.length ≤ 100000) (h : Q .none (upd ν a (.lst (ds ++ [d])))) : TC C n (.builtin "list.append") [.ref a, d] ν Q := by
  intro A s vs hA R hb hv
  have hq := RVs.cons_inv hv; clear hv; obtain ⟨_, _, rfl, hv, hr⟩ := hq
  have hq := RVs.cons_inv hr; clear hr; obtain ⟨_, _, rfl, hx, hr⟩ := hq
  have hq := RVs.nil_inv hr; clear hr; subst hq; (first | (have hq := RV.int_inv hv; clear hv; obtain ⟨_, rfl⟩ := hq) | (have hq := RV.str_inv hv; clear hv; obtain ⟨_, rfl⟩ := hq) | (have hq := RV.ref_inv hv; clear hv; subst hq) | (have hq := RV.val_inv hv; clear hv; subst hq) | (have hq := RV.bool_inv hv; clear hv; subst hq) | cases hv)
  rename_i x
  obtain ⟨us, m, ho, r⟩ := R.at_ a _ e
  refine call_meets slot_list_append ⟨_, ho, rfl⟩ entry_list_append (args_list_append _ _) (list_append a us.toArray m x (by rw [sizeLine_eq]; simp [r.length]; omega)) ⟨ho, ?_⟩
  exact post_list R e ho (f := fun x_1 => x_1.push x) (by simpa using r.append (.cons hx .nil)) .none h
-- len
theorem TC_lenL {a : Addr} {ds : List D} (e : seqOf (ν a) = some ds) (hz : ds.length < 2 ^ 63) (h : Q (.int ds.length) ν) : TC C n (.builtin "len") [.ref a] ν Q := by
  intro A s vs hA R hb hv
  have hq := RVs.cons_inv hv; clear hv; obtain ⟨_, _, rfl, hv, hr⟩ := hq
  have hq := RVs.nil_inv hr; clear hr; subst hq; (first | (have hq := RV.int_inv hv; clear hv; obtain ⟨_, rfl⟩ := hq) | (have hq := RV.str_inv hv; clear hv; obtain ⟨_, rfl⟩ := hq) | (have hq := RV.ref_inv hv; clear hv; subst hq) | (have hq := RV.val_inv hv; clear hv; subst hq) | (have hq := RV.bool_inv hv; clear hv; subst hq) | cases hv)
  obtain ⟨us, m, ho, r⟩ := R.seq e
  refine Calls.call_len_list (items := us.toArray) ⟨_, ho, rfl, m, rfl⟩ (by simp [r.length]; omega) (postV_toks R ?_ h)
  rw [show ((us.toArray.size : Nat) : Int) = (ds.length : Int) by simp [r.length]]
  exact .int _ _
theorem TC_lenS {x : Str} (hz : x.length < 2 ^ 63) (h : Q (.int x.length) ν) : TC C n (.builtin "len") [.str x] ν Q := by
  intro A s vs hA R hb hv
  have hq := RVs.cons_inv hv; clear hv; obtain ⟨_, _, rfl, hv, hr⟩ := hq
  have hq := RVs.nil_inv hr; clear hr; subst hq; (first | (have hq := RV.int_inv hv; clear hv; obtain ⟨_, rfl⟩ := hq) | (have hq := RV.str_inv hv; clear hv; obtain ⟨_, rfl⟩ := hq) | (have hq := RV.ref_inv hv; clear hv; subst hq) | (have hq := RV.val_inv hv; clear hv; subst hq) | (have hq := RV.bool_inv hv; clear hv; subst hq) | cases hv)
  exact P.len_str (by omega) (postV_toks R (.int _ _) h)
-- isinstance
theorem TC_isi {d : D} {T : String} (hd : ∀ (s : Shared) (v : Value), Ref C ν s.heap → RV s.heap v d → s.TypeIs v T) (hty : typeOf (.type T) = pure (.type "type")) (hsub : isSubtype (.type T) (.type T) = pure true) (h : Q (.bool true) ν) : TC C n (.builtin "isinstance") [d, .val (.type T)] ν Q := by
  intro A s vs hA R hb hv
  have hq := RVs.cons_inv hv; clear hv; obtain ⟨_, _, rfl, hv, hr⟩ := hq
  have hq := RVs.cons_inv hr; clear hr; obtain ⟨_, _, rfl, hx, hr⟩ := hq
  have hq := RVs.nil_inv hr; clear hr; subst hq; (first | (have hq := RV.int_inv hx; clear hx; obtain ⟨_, rfl⟩ := hq) | (have hq := RV.str_inv hx; clear hx; obtain ⟨_, rfl⟩ := hq) | (have hq := RV.ref_inv hx; clear hx; subst hq) | (have hq := RV.val_inv hx; clear hx; subst hq) | (have hq := RV.bool_inv hx; clear hx; subst hq) | cases hx)
  exact call_isinstance (isinstance_true hty hsub) ⟨hd s _ R hv, postV_here R (.bool true) h⟩
theorem TC_isi_int {i : Int} (h : Q (.bool true) ν) : TC C n (.builtin "isinstance") [.int i, .val (.type "int")] ν Q := TC_isi (fun s v _ hv => by (first | (have hq := RV.int_inv hv; clear hv; obtain ⟨_, rfl⟩ := hq) | (have hq := RV.str_inv hv; clear hv; obtain ⟨_, rfl⟩ := hq) | (have hq := RV.ref_inv hv; clear hv; subst hq) | (have hq := RV.val_inv hv; clear hv; subst hq) | (have hq := RV.bool_inv hv; clear hv; subst hq) | cases hv); exact typeIs_int s i _) F.isi_meta_int F.isi_self_int h
theorem TC_isi_int_bool {i : Int} (h : Q (.bool false) ν) : TC C n (.builtin "isinstance") [.int i, .val (.type "bool")] ν Q := by
  intro A s vs hA R hb hv
  have hq := RVs.cons_inv hv; clear hv; obtain ⟨_, _, rfl, hv, hr⟩ := hq
  have hq := RVs.cons_inv hr; clear hr; obtain ⟨_, _, rfl, hx, hr⟩ := hq
  have hq := RVs.nil_inv hr; clear hr; subst hq; (first | (have hq := RV.int_inv hx; clear hx; obtain ⟨_, rfl⟩ := hq) | (have hq := RV.str_inv hx; clear hx; obtain ⟨_, rfl⟩ := hq) | (have hq := RV.ref_inv hx; clear hx; subst hq) | (have hq := RV.val_inv hx; clear hx; subst hq) | (have hq := RV.bool_inv hx; clear hx; subst hq) | cases hx); (first | (have hq := RV.int_inv hv; clear hv; obtain ⟨_, rfl⟩ := hq) | (have hq := RV.str_inv hv; clear hv; obtain ⟨_, rfl⟩ := hq) | (have hq := RV.ref_inv hv; clear hv; subst hq) | (have hq := RV.val_inv hv; clear hv; subst hq) | (have hq := RV.bool_inv hv; clear hv; subst hq) | cases hv)
  exact call_isinstance (isinstance_false_int (by decide) F.isi_meta_bool (by rw [isSubtype_type]; kernel_rfl)) (postV_toks R (.bool false) h)

-- range, list, +
theorem TC_range {m : Int} (h : Q (.rng m) ν) : TC C n (.type "range") [.int m] ν Q := by
  intro A s vs hA R hb hv
  have hq := RVs.cons_inv hv; clear hv; obtain ⟨_, _, rfl, hv, hr⟩ := hq
  have hq := RVs.nil_inv hr; clear hr; subst hq; (first | (have hq := RV.int_inv hv; clear hv; obtain ⟨_, rfl⟩ := hq) | (have hq := RV.str_inv hv; clear hv; obtain ⟨_, rfl⟩ := hq) | (have hq := RV.ref_inv hv; clear hv; subst hq) | (have hq := RV.val_inv hv; clear hv; subst hq) | (have hq := RV.bool_inv hv; clear hv; subst hq) | cases hv)
  exact call_range_1 ⟨.rng m, ν, .rng (Heap.get?_push_size _ rfl), R.push _, Fro.push _ _, h⟩
-- slices
noncomputable def TP (C : Cx) (n : Nat) (sc : Scope) (e : Option Expr) (l : Loc) (ν : Nu) (Q : Option Int → Nu → Prop) : Prop :=
  match e with
  | none => Q none ν
  | some e => TE C n sc e l ν (fun d ν' => ∃ i, d = .int i ∧ Q (some i) ν')
end
end Mine

namespace Mine
open PySem PyProof.Rows PySem.W

section
variable {C : Cx} {n : Nat} {sc : Scope} {l : Loc} {ν : Nu} {Q : D → Nu → Prop}

-- storing an attribute
-- new instances
end
end Mine

namespace Mine
open PySem PyProof.Rows PySem.W

noncomputable def nu0 (a : Addr) (ns : List Int) : Nu := fun b => if b = a then some (.scr (ns.map .int)) else none

theorem ints_rvs {h : Heap} {vs : List Value} {ns : List Int} (x : IntsAre vs ns) : RVs h vs (ns.map .int) := by
  induction x with
  | nil => exact .nil
  | cons i t _ ih => exact .cons (.int i t) ih

end Mine

namespace Mine
open PySem PyProof.Rows PySem.W

theorem ofString_inj {a b : String} (h : Str.ofString a = Str.ofString b) : a = b := by
  rw [Str.ofString_eq_toList, Str.ofString_eq_toList] at h
  have h1 : a.toList.map Char.toNat = b.toList.map Char.toNat := by simpa using h
  have h2 : a.toList = b.toList := by
    refine (List.map_inj_right fun x y e => ?_).mp h1
    exact Char.toNat_inj.mp e
  exact String.toList_injective h2
theorem ofString_ne {a b : String} (h : a ≠ b) : Str.ofString a ≠ Str.ofString b := fun e => h (ofString_inj e)
theorem ofString_beq {a b : String} (h : a ≠ b) : (Str.ofString a == Str.ofString b) = false := beq_eq_false_iff_ne.mpr (ofString_ne h)

theorem lk_here {l : Loc} {x : Str} {d : D} : lk ((x, d) :: l) x = some d := by simp [lk]
theorem lk_there {l : Loc} {x y : Str} {d e : D} (h : x ≠ y) (q : lk l x = some d) : lk ((y, e) :: l) x = some d := by simp [lk, h, q]
theorem lk_same {l : Loc} {x : Str} {d : D} : lk (put l x d) x = some d := by simp [lk_put]
theorem lk_other {l : Loc} {x y : Str} {d e : D} (h : x ≠ y) (q : lk l x = some d) : lk (put l y e) x = some d := by simp [lk_put, h, q]
theorem lkn_nil {x : Str} : lk [] x = none := rfl
theorem lkn_there {l : Loc} {x y : Str} {e : D} (h : x ≠ y) (q : lk l x = none) : lk ((y, e) :: l) x = none := by simp [lk, h, q]
theorem Sub_nil {l : Loc} : Sub [] l := fun x d e => by simp [lk] at e
theorem Sub_cons {l l' : Loc} {x : Str} {d : D} (h : lk l x = some d) (s : Sub l' l) : Sub ((x, d) :: l') l := fun y e q => by
  unfold lk at q
  split at q
  · rename_i z; subst z; cases q; exact h
  · exact s y e q
theorem Sub_refl {l : Loc} : Sub l l := fun _ _ h => h
theorem ite_dec {p : Prop} [Decidable p] {A B : Prop} (h1 : p → A) (h2 : ¬ p → B) : if decide p = true then A else B := by
  by_cases h : p
  · simp [h]; exact h1 h
  · simp [h]; exact h2 h
theorem ite_t {A B : Prop} (h : A) : if true = true then A else B := by simpa using h
theorem ite_f {A B : Prop} (h : B) : if false = true then A else B := by simpa using h

section
variable {C : Cx} {n : Nat} {sc : Scope} {l : Loc} {ν : Nu} {Q : D → Nu → Prop}
/-- a def of the text by its name -/
noncomputable def DefN (C : Cx) (x : Str) (names : List Str) (body : List Stmt) (sc : Scope) : Prop := ∃ f, C.mg x = some (.ref f) ∧ IsDef C f names body sc
noncomputable def TN (C : Cx) (n : Nat) (x : Str) (ds : List D) (ν : Nu) (Q : D → Nu → Prop) : Prop := ∀ f, C.mg x = some (.ref f) → TK C n (.ref f) ds ν Q
theorem TN_def {x : Str} {names : List Str} {body : List Stmt} {ds : List D} (I : DefN C x names body sc) (hlen : ds.length = names.length)
    (h : TSs C n sc body (names.zip ds) ν (FunK Q)) : TN C (n + 1) x ds ν Q := by
  intro f hf
  obtain ⟨f', hf', I⟩ := I
  rw [hf] at hf'; cases hf'
  exact TK_def I hlen h
noncomputable def IsFn (C : Cx) (x : Str) : Prop := ∃ f, C.mg x = some (.ref f) ∧ ∃ o fd, C.K.lookup f = some o ∧ o.data = .func fd
theorem TE_callN {x : Str} {p pos : Pos} {args : List Expr} (hk : sc.names.lookup x = some .globalImplicit) (hf : IsFn C x)
    (h : TL C n sc args l ν (fun ds ν₁ => TN C n x ds ν₁ Q)) (hx : (x == ("__debug__" : Str)) = false) (hst : noSt args = true) : TE C n sc (.Call (.Name x p) args [] pos) l ν Q := by
  obtain ⟨f, hf, ho⟩ := hf
  exact TE_call hk (.inl hf) ho (fun A env s pos hA R F => wpAny_mono (h A env s pos hA R F) (fun vs s' ⟨ds, ν', a, b, c, q⟩ => ⟨ds, ν', a, b, c, TC_of (q f hf)⟩) fun _ _ x => x) hx hst
theorem TS_expr {e : Expr} {pos} {Q : Fl → Loc → Nu → Prop} (h : TE C n sc e l ν (fun _ ν₁ => Q .next l ν₁)) (hs : ∀ env, swapsWith e none pos.line env = pure false) : TS C n sc (.Expr e pos) l ν Q := by
  intro A env s hA R F
  refine wpAny_Expr_any (wpAny_mono (h A env s hA R F) ?_ fun _ _ x => x) ?_ (hs env)
  · rintro v s₁ ⟨d, ν₁, hv, R₁, x₁, hq⟩
    exact ⟨.next, l, ν₁, .next, R₁, F.fro R x₁, x₁.toFr, hq⟩
  · unfold interactive; rw [F.scope, F.kind]; rfl
theorem nsIn_of {K' : Frag} {a : Addr} {x : Str} {r : Option (Option Value)} (hK : C.K = K') (e : nsIn K' a x = r) : nsIn C.K a x = r := hK ▸ e
theorem mg_is {x : Str} {v : Value} (e : nsIn C.K mainGlobals x = some (some v)) : C.mg x = some v := mg_of (fun a o e => C.inK a o e) C.g e
theorem mg_isNone {x : Str} (e : nsIn C.K mainGlobals x = some none) : C.mg x = none := mg_none_of (fun a o e => C.inK a o e) C.g e
theorem len1 {α : Type} {vs : List α} (h : vs.length = 1) : ∃ a, vs = [a] := List.length_eq_one_iff.mp h
theorem len2 {α : Type} {vs : List α} (h : vs.length = 2) : ∃ a b, vs = [a, b] := by
  match vs, h with | [a, b], _ => exact ⟨a, b, rfl⟩
theorem G_blt {K' : Frag} (hK : C.K = K') {x : Str} {v : Value} (e : nsIn K' mainGlobals x = some none) (hv : bootBuiltins x = some v) (hn : x ≠ "__name__") : C.G x v := .inr ⟨mg_isNone (hK ▸ e), (C.blts x hn).trans hv⟩
theorem bb_len : bootBuiltins "len" = some (.builtin "len") := by decide +kernel
theorem bb_isinstance : bootBuiltins "isinstance" = some (.builtin "isinstance") := by decide +kernel
theorem bb_range : bootBuiltins "range" = some (.type "range") := by decide +kernel
theorem bb_int : bootBuiltins "int" = some (.type "int") := by decide +kernel
theorem bb_bool : bootBuiltins "bool" = some (.type "bool") := by decide +kernel
theorem mkFn {K' : Frag} (hK : C.K = K') {x : Str} {f : Addr} {oc : Value} {od : Option Addr} {fd : FuncData} {osl : Array (Option Value)} (h1 : nsIn K' mainGlobals x = some (some (.ref f))) (h2 : K'.lookup f = some ⟨oc, od, .func fd, osl⟩) : IsFn C x :=
  ⟨f, mg_is (hK ▸ h1), _, fd, hK ▸ h2, rfl⟩
theorem mkDef {K' : Frag} (hK : C.K = K') {x : Str} {f : Addr} {oc : Value} {od : Option Addr} {osl : Array (Option Value)} {name qual : Str} {params : Arguments} {body : List Stmt} {scope : Scope} {dV kV doc pm : Value} {an : Option Addr} {cdv ct : Value} {names : List Str}
    (h1 : nsIn K' mainGlobals x = some (some (.ref f))) (h2 : K'.lookup f = some ⟨oc, od, .func (fnOf name qual params body scope dV kV doc pm an cdv ct), osl⟩) (h3 : codeIn K' cdv qual = true)
    (hb : ∀ vs : List Value, vs.length = names.length → bindArgs (fnOf name qual params body scope dV kV doc pm an cdv ct) ⟨vs, []⟩ = pure (names.zip vs)) (co : scope.isCoroutine = false) (gen : scope.isGenerator = false) (kind : scope.kind = .function) (nd : names.Nodup) (kd : ∀ x ∈ names, storable scope x) : DefN C x names body scope :=
  ⟨f, mg_is (hK ▸ h1), ⟨_, _, hK ▸ h2, rfl, rfl, rfl, rfl, rfl, rfl, codeRec_of (fun a o e => C.inK a o e) (hK ▸ h3), hb⟩, co, gen, kind, nd, kd⟩
end
end Mine

namespace Mine
open PySem PyProof.Rows PySem.W

/-- a rest by a positive divisor -/
theorem fmod_pos (a : Int) {b : Int} (hb : 0 < b) : 0 ≤ a.fmod b ∧ a.fmod b < b := ⟨Int.fmod_nonneg_of_pos a hb, Int.fmod_lt_of_pos a hb⟩
theorem mulOk {a b : Int} (ha : a.natAbs < 2 ^ 10000) (hb : b.natAbs < 2 ^ 10000) : IntMulOk a b := by
  have key : ∀ x : Int, x.natAbs < 2 ^ 10000 → Builtin.Int.intBits x ≤ 10000 := fun x hx => by
    unfold Builtin.Int.intBits
    split
    · exact Nat.zero_le _
    · have : x.natAbs.log2 < 10000 := by
        rcases Nat.eq_zero_or_pos x.natAbs with h0 | hp
        · rw [h0]; decide
        · exact (Nat.log2_lt (Nat.ne_of_gt hp)).mpr hx
      omega
  have h1 := key a ha
  have h2 := key b hb
  have : Builtin.Int.intTooBig (Builtin.Int.intBits a + Builtin.Int.intBits b) = false := by
    unfold Builtin.Int.intTooBig
    simp only [decide_eq_false_iff_not]
    first | omega | (simp only [bitsLine]; omega)
  unfold IntMulOk
  rw [this]; simp

end Mine
namespace Mine
open PySem PyProof.Rows PySem.W
/-- all that ν knows ν' knows too -/
noncomputable def Ext (ν ν' : Nu) : Prop := ∀ a o, ν a = some o → ν' a = some o
theorem Ext.refl {ν : Nu} : Ext ν ν := fun _ _ h => h
theorem Ext.trans {ν ν' ν'' : Nu} (x : Ext ν ν') (y : Ext ν' ν'') : Ext ν ν'' := fun a o h => y a o (x a o h)
theorem Ext.upd {ν ν' : Nu} {r : Addr} {o : AObj} (x : Ext ν ν') (h : ν' r = none) : Ext ν (Mine.upd ν' r o) := fun a o' e => by
  unfold Mine.upd
  rw [if_neg fun q => ?_]
  · exact x a o' e
  · have := x a o' e
    rw [q, h] at this; cases this
theorem upd_same {ν : Nu} {r : Addr} {o : AObj} : upd ν r o r = some o := if_pos rfl
theorem upd_other {ν : Nu} {r a : Addr} {o : AObj} (h : a ≠ r) : upd ν r o a = ν a := if_neg h
section
variable {C : Cx} {n : Nat} {ν : Nu} {Q : D → Nu → Prop}
end
theorem toN {a : Int} (h : 0 ≤ a) : ∃ m : Nat, a = m := ⟨a.toNat, by omega⟩
noncomputable def cellD (ns : List Int) (k : Nat) : Int := ns.getD k 0
end Mine
namespace Mine
open PySem PyProof.Rows PySem.W
section
variable {C : Cx} {n : Nat} {ν : Nu} {Q : D → Nu → Prop}
end
theorem mulOk' {a b : Int} (ha : -(2 ^ 5000) < a) (ha' : a < 2 ^ 5000) (hb : -(2 ^ 5000) < b) (hb' : b < 2 ^ 5000) : IntMulOk a b := by
  have key : ∀ x : Int, -(2 ^ 5000) < x → x < 2 ^ 5000 → x.natAbs < 2 ^ 10000 := fun x h1 h2 => by
    have e : ((2 ^ 5000 : Nat) : Int) = (2 : Int) ^ 5000 := by push_cast; rfl
    have h3 : x.natAbs < 2 ^ 5000 := by
      generalize hN : (2 ^ 5000 : Nat) = N at e ⊢
      rw [← e] at h1 h2
      omega
    exact Nat.lt_of_lt_of_le h3 (Nat.pow_le_pow_right (by omega) (by omega))
  exact mulOk (key a ha ha') (key b hb hb')
end Mine
namespace Mine
open PySem PyProof.Rows PySem.W
theorem mulOk10 {a b : Int} (k m : Nat) (ha : 0 ≤ a) (ha' : a ≤ 10 ^ k) (hb : 0 ≤ b) (hb' : b ≤ 10 ^ m) (hk : k ≤ 1000) (hm : m ≤ 1000) : IntMulOk a b := by
  have key : ∀ (x : Int) (j : Nat), j ≤ 1000 → x ≤ 10 ^ j → x < 2 ^ 5000 := fun x j hj hx => by
    have e1 : (10 : Int) ^ j = ((10 ^ j : Nat) : Int) := by push_cast; rfl
    have e2 : ((2 ^ 5000 : Nat) : Int) = (2 : Int) ^ 5000 := by push_cast; rfl
    have h1 : (10 ^ j : Nat) ≤ 10 ^ 1000 := Nat.pow_le_pow_right (by omega) hj
    have h2 : (10 ^ 1000 : Nat) < 2 ^ 5000 := by decide +kernel
    have h3 : (10 ^ j : Nat) < 2 ^ 5000 := Nat.lt_of_le_of_lt h1 h2
    rw [← e2]
    rw [e1] at hx
    exact Int.lt_of_le_of_lt hx (Int.ofNat_lt.mpr h3)
  have neg : ∀ x : Int, 0 ≤ x → -(2 ^ 5000) < x := fun x hx => by
    have e2 : ((2 ^ 5000 : Nat) : Int) = (2 : Int) ^ 5000 := by push_cast; rfl
    have : (0 : Nat) < 2 ^ 5000 := Nat.two_pow_pos _
    rw [← e2]
    generalize (2 ^ 5000 : Nat) = N at this
    omega
  exact mulOk' (neg a ha) (key a k hk ha') (neg b hb) (key b m hm hb')
end Mine
namespace Mine
open PySem PyProof.Rows PySem.W
section
variable {C : Cx} {n : Nat} {sc : Scope} {l : Loc} {ν : Nu}
abbrev MidK (P : Loc → Nu → Prop) (Q : Fl → Loc → Nu → Prop) (fl : Fl) (l₁ : Loc) (ν₁ : Nu) : Prop := match fl with | .next => ∃ l₂, Sub l₂ l₁ ∧ P l₂ ν₁ | fl => Q fl l₁ ν₁
/-- a statement by what holds behind it -/
theorem TSs_mid {st : Stmt} {rest : List Stmt} {Q : Fl → Loc → Nu → Prop} (P : Loc → Nu → Prop) (h1 : TS C n sc st l ν (MidK P Q)) (h2 : ∀ l₁ ν₁, P l₁ ν₁ → TSs C n sc rest l₁ ν₁ Q) : TSs C n sc (st :: rest) l ν Q := by
  intro A env s hA R F
  refine wpAny_execs_cons (wpAny_mono (h1 A env s hA R F) ?_ fun _ _ x => x)
  rintro f s₁ ⟨fl, l₁, ν₁, hf, R₁, F₁, x₁, hq⟩
  cases hf with
  | next => obtain ⟨l₂, hs, hp⟩ := hq; exact wpAny_mono (h2 l₂ ν₁ hp A env s₁ hA R₁ (F₁.sub hs)) (fun _ _ p => p.after x₁) fun _ _ x => x
  | brk => exact ⟨.brk, l₁, ν₁, .brk, R₁, F₁, x₁, hq⟩
  | cont => exact ⟨.cont, l₁, ν₁, .cont, R₁, F₁, x₁, hq⟩
  | ret r => exact ⟨.ret _, l₁, ν₁, .ret r, R₁, F₁, x₁, hq⟩
end
end Mine
namespace Mine
open PySem PyProof.Rows PySem.W
section
variable {C : Cx} {n : Nat} {sc : Scope} {l l₀ : Loc} {ν : Nu}
theorem TF_sub {t : Expr} {body : List Stmt} {d : D} {Q : Fl → Loc → Nu → Prop} (hs : Sub l₀ l) (h : TF C n sc t body d l₀ ν Q) : TF C n sc t body d l ν Q := fun A env s v hA R F hv => h A env s v hA R (F.sub hs) hv
end
end Mine
namespace Mine
end Mine

namespace Mine
open PySem PyProof.Rows PySem.W
open Builtin Builtin.Str

section
variable {C : Cx} {n : Nat} {sc : Scope} {l : Loc} {ν : Nu} {Q : D → Nu → Prop}

-- for over an ascii text
noncomputable def strIt (x : Str) (t : Tok) (i : Nat) (o : Obj) : Prop := o.cls = .type "str_ascii_iterator" ∧ o.data = .fields #[.str x t, .int i 0]
theorem itOk_str (hN : C.hd = none) {I : Addr} {x : Str} {t : Tok} : ItOk C I x.cps.size (fun i => .str ⟨#[x.cps.getD i 0]⟩) (fun _ => True) (strIt x t) where
  tup := fun i o h e => by have := e.cls; rw [h.1] at this; simp at this
  own := fun A M i s o Q E t v hI hAt hq => own_plain hI hAt.1 hAt.2 (by decide) hq
  next := fun A i s o ν Q E hh hi R hI hAt hs h => by
    have e1 : x.cps[i]? = some (x.cps.getD i 0) := by simp [hi, Array.getD]
    refine wpAny_pyNext_ascii_item (x := x) (t := t) (i := i) ⟨o, hI, hAt.1, hAt.2⟩ e1 fun h' hit sb => ?_
    obtain ⟨o', ho', hc', hd'⟩ := hit
    exact h _ h' _ o' (.str _ _) (fun b o hb e => (sb.2 b hb).trans e) ho' ⟨hc', hd'⟩
  done := fun A s o ν Q E hh R hI hAt hs h =>
    wpAny_pyNext_ascii_end (x := x) (t := t) (i := x.cps.size) (hh.trans hN) ⟨o, hI, hAt.1, hAt.2⟩ (by simp) fun h' he => h h' s.toks fun b o hb e => he b o hb e
theorem TF_str (hN : C.hd = none) {t : Expr} {body : List Stmt} {x : Str} {Q : Fl → Loc → Nu → Prop} (ha : x.cps.all (· < 128) = true)
    (J : Nat → Loc → Nu → Prop) (hJ : J 0 l ν)
    (turn : ∀ i l ν, i < x.cps.size → J i l ν → TG C n sc t (.str ⟨#[x.cps.getD i 0]⟩) l ν (fun l₁ ν₁ => TSs C n sc body l₁ ν₁ (LoopK J i Q)))
    (fin : ∀ l ν, J x.cps.size l ν → Q .next l ν) : TF C n sc t body (.str x) l ν Q := by
  intro A env s v hA R F hv
  cases hv with
  | str _ tk =>
  refine wpAny_pyIter_ascii ha ?_
  exact for_core (s := s) (itOk_str hN (x := x) (t := tk)) hA F (Fro.push _ _) (R.push _) (Heap.get?_push_size _ rfl) ⟨rfl, rfl⟩ (getNone s) R.fresh F.baseLe R J hJ (fun _ _ _ _ => trivial) turn fin

-- methods of texts
structure SM (name : Str) (id : String) : Prop where
  slot : Slot "str" name id
  type : typeOf (.builtin id) = pure (.type "method_descriptor")
theorem SM_find : SM "find" "str.find" := ⟨F.slot_str_find, F.type_str_find⟩
noncomputable def isS : D → Option Str
  | .str x => some x
  | _ => none
theorem TE_methS {o : Expr} {name : Str} {id : String} {apos pos : Pos} {args : List Expr} (M : SM name id)
    (h : TE C n sc o l ν (fun d ν₁ => ∃ x, isS d = some x ∧ TL C n sc args l ν₁ (fun ds ν₂ => TC C n (.builtin id) (d :: ds) ν₂ Q)))
    (ha : ∀ env whole, attributeBase o name env whole = whole) (hst : noSt args = true) (hlen : args.length < 30) (hp : (apos.endLine == pos.line) = true) : TE C n sc (.Call (.Attribute o name apos) args [] pos) l ν Q := by
  refine TE_meth (fun d ν => (isS d).map fun _ => .builtin id) ?_ ?_ (TE_mono h fun d ν' ⟨a, e, q⟩ => ⟨.builtin id, by rw [e]; rfl, q⟩) ha hst hlen hp
  · intro A s v d ν g pl Q E e R hv q
    obtain ⟨a, e1, e2⟩ := Option.map_eq_some_iff.mp e
    subst e2
    cases d <;> simp only [isS, reduceCtorEq] at e1
    cases hv with
    | str _ tk => with_reducible exact GM.of (.str _ tk) (typeIs_str _ _ _) M.slot M.type GM.noRef q
  · intro d ν g h e _
    obtain ⟨a, e1, e2⟩ := Option.map_eq_some_iff.mp e
    subst e2
    exact keep_builtin h
theorem TC_find {x y : Str} (h : Q (.int (Txt.find x y)) ν) : TC C n (.builtin "str.find") [.str x, .str y] ν Q := by
  intro A s vs hA R hb hv
  have hq := RVs.cons_inv hv; clear hv; obtain ⟨_, _, rfl, hv, hr⟩ := hq
  have hq := RVs.cons_inv hr; clear hr; obtain ⟨_, _, rfl, hx, hr⟩ := hq
  have hq := RVs.nil_inv hr; clear hr; subst hq; (first | (have hq := RV.int_inv hv; clear hv; obtain ⟨_, rfl⟩ := hq) | (have hq := RV.str_inv hv; clear hv; obtain ⟨_, rfl⟩ := hq) | (have hq := RV.ref_inv hv; clear hv; subst hq) | (have hq := RV.val_inv hv; clear hv; subst hq) | (have hq := RV.bool_inv hv; clear hv; subst hq) | cases hv); (first | (have hq := RV.int_inv hx; clear hx; obtain ⟨_, rfl⟩ := hq) | (have hq := RV.str_inv hx; clear hx; obtain ⟨_, rfl⟩ := hq) | (have hq := RV.ref_inv hx; clear hx; subst hq) | (have hq := RV.val_inv hx; clear hx; subst hq) | (have hq := RV.bool_inv hx; clear hx; subst hq) | cases hx)
  exact SC.find ⟨_, ν, .int _ _, R, Fro.toks, h⟩
theorem T2_itemS {value slice : Expr} {x : Str} {k : Nat} {c : Nat} (hd : x.cps[k]? = some c) (hk : k < 2 ^ 62) (h : Q (.str ⟨#[c]⟩) ν) (hsl : isSl slice = false) :
    T2 C n (subscriptTail value slice) (.str x) (.int k) ν Q := by
  intro A s v u hA R hz hv hu
  (first | (have hq := RV.int_inv hv; clear hv; obtain ⟨_, rfl⟩ := hq) | (have hq := RV.str_inv hv; clear hv; obtain ⟨_, rfl⟩ := hq) | (have hq := RV.ref_inv hv; clear hv; subst hq) | (have hq := RV.val_inv hv; clear hv; subst hq) | (have hq := RV.bool_inv hv; clear hv; subst hq) | cases hv); (first | (have hq := RV.int_inv hu; clear hu; obtain ⟨_, rfl⟩ := hq) | (have hq := RV.str_inv hu; clear hu; obtain ⟨_, rfl⟩ := hq) | (have hq := RV.ref_inv hu; clear hu; subst hq) | (have hq := RV.val_inv hu; clear hu; subst hq) | (have hq := RV.bool_inv hu; clear hu; subst hq) | cases hu)
  have hlt : k < x.length := by
    rcases Nat.lt_or_ge k x.cps.size with q | q
    · exact q
    · rw [Array.getElem?_eq_none q] at hd; cases hd
  refine tail_any (typeIs_str _ _ _) F.slot_str_getitem.lookup (P.getItem_str (c := c) ?_ ?_ ⟨_, ν, .str _ _, R, Fro.toks, h⟩) (subscripted_plain hsl _ _)
  · simp; omega
  · have : seqIndex? (k : Int) x.length = some k := by
      unfold seqIndex?
      simp; omega
    rw [this]; exact hd
theorem TE_globS {x : Str} {pos} {y : Str} {t : Tok} (hk : sc.names.lookup x = some .globalImplicit) (hg : C.mg x = some (.str y t)) (h : Q (.str y) ν) (hd : (x == ("__debug__" : Str)) = false) : TE C n sc (.Name x pos) l ν Q := by
  intro A env s hA R F
  refine wpAny_mono (TE_glob (C := C) (n := n) (Q := fun d ν' => d = .val (.str y t) ∧ ν' = ν) hk (.inl hg) ⟨rfl, rfl⟩ hd A env s hA R F) ?_ fun _ _ x => x
  rintro v s₁ ⟨d, ν₁, hv, R₁, x₁, rfl, rfl⟩
  (first | (have hq := RV.int_inv hv; clear hv; obtain ⟨_, rfl⟩ := hq) | (have hq := RV.str_inv hv; clear hv; obtain ⟨_, rfl⟩ := hq) | (have hq := RV.ref_inv hv; clear hv; subst hq) | (have hq := RV.val_inv hv; clear hv; subst hq) | (have hq := RV.bool_inv hv; clear hv; subst hq) | cases hv)
  exact ⟨_, _, .str _ _, R₁, x₁, h⟩

-- slices
theorem TP_run {e : Option Expr} {Q : Option Int → Nu → Prop} {A : Around} {env : Env} {s : Shared} (h : TP C n sc e l ν Q) (hA : Aok C n A) (R : Ref C ν s.heap) (F : Frm C env sc l ν s.heap) :
    wpAny (model C.prog C.w) A (evalPart e env) (fun v s' => ∃ (p : Option (Int × Tok)) (ν' : Nu), v = partValue p ∧ Ref C ν' s'.heap ∧ Fro no ν ν' s s' ∧ Q (p.map (·.1)) ν') nev s := by
  cases e with
  | none => rw [evalPart_none]; exact wpAny_pure ⟨none, ν, rfl, R, .refl, h⟩
  | some e =>
    rw [evalPart_some]
    refine wpAny_mono (h A env s hA R F) ?_ fun _ _ x => x
    rintro v s₁ ⟨d, ν₁, hv, R₁, x₁, i, rfl, q⟩
    cases hv with
    | int _ t => exact ⟨some (i, t), ν₁, rfl, R₁, x₁, q⟩
/-- an item by a slice of two parts -/
noncomputable def TSl (C : Cx) (n : Nat) (T : String) (o : D) (lo hi : Option Int) (ν : Nu) (Q : D → Nu → Prop) : Prop :=
  ∀ A s v a p q, Aok C n A → Ref C ν s.heap → C.base.objs.size ≤ s.heap.objs.size → RV s.heap v o → s.heap.get? a = some { cls := .type "slice", data := .fields #[partValue p, partValue q, .none] } → p.map (·.1) = lo → q.map (·.1) = hi →
    s.TypeIs v T ∧ wpAny (model C.prog C.w) A (getItem v (.ref a)) (PostV C ν s Q) nev s
theorem TE_slice (T : String) {id : String} {value : Expr} {lower upper : Option Expr} {p pos : Pos} (hl : typeLookup (.type T) "__getitem__" = pure (some (.builtin id)))
    (h : TE C n sc value l ν (fun o ν₁ => TP C n sc lower l ν₁ (fun lo ν₂ => TP C n sc upper l ν₂ (fun hi ν₃ => TSl C n T o lo hi ν₃ Q))))
    (ht : ∀ o r, letTemporaryGo value o r = pure ()) : TE C n sc (.Subscript value (.Slice lower upper none p) pos) l ν Q := by
  intro A env s hA R F
  refine wpAny_Subscript_Slice (T := T) hl (wpAny_mono (h A env s hA R F) ?_ fun _ _ x => x) ht
  rintro v s₁ ⟨d, ν₁, hv, R₁, x₁, q1⟩
  have F₁ := F.fro R x₁
  refine wpAny_Slice (wpAny_mono (TP_run q1 hA R₁ F₁) ?_ fun _ _ x => x)
  rintro _ s₂ ⟨p, ν₂, rfl, R₂, x₂, q2⟩
  have F₂ := F₁.fro R₁ x₂
  refine wpAny_mono (TP_run q2 hA R₂ F₂) ?_ fun _ _ x => x
  rintro _ s₃ ⟨p', ν₃, rfl, R₃, x₃, q3⟩
  have F₃ := F₂.fro R₂ x₃
  rw [evalPart_none]
  refine wpAny_pure ?_
  have x₄ : Fro no ν₃ ν₃ s₃ { s₃ with heap := s₃.heap.push { cls := .type "slice", data := .fields #[partValue p, partValue p', .none] } } := Fro.push _ _
  have R₄ : Ref C ν₃ (s₃.heap.push { cls := .type "slice", data := .fields #[partValue p, partValue p', .none] }) := R₃.push _
  obtain ⟨ty, g⟩ := q3 A { s₃ with heap := s₃.heap.push { cls := .type "slice", data := .fields #[partValue p, partValue p', .none] } } v s₃.heap.objs.size p p' hA R₄ (F₃.fro R₃ x₄).baseLe (((hv.fro R₁ x₂).fro R₂ x₃).fro R₃ x₄) (Heap.get?_push_size _ rfl) rfl rfl
  exact ⟨ty, wpAny_mono g (fun _ _ p => (((p.after x₄).after x₃).after x₂).after x₁) fun _ _ x => x⟩
theorem TSl_str {x : Str} {lo hi : Option Int} (hz : x.length ≤ 100000) (h : Q (.str (Txt.slice x lo hi)) ν) : TSl C n "str" (.str x) lo hi ν Q := by
  intro A s v a p q hA R hb hv ho hp hq
  subst hp hq
  (first | (have hq := RV.int_inv hv; clear hv; obtain ⟨_, rfl⟩ := hq) | (have hq := RV.str_inv hv; clear hv; obtain ⟨_, rfl⟩ := hq) | (have hq := RV.ref_inv hv; clear hv; subst hq) | (have hq := RV.val_inv hv; clear hv; subst hq) | (have hq := RV.bool_inv hv; clear hv; subst hq) | cases hv)
  refine ⟨typeIs_str _ _ _, wpAny_getItem_str_slice (l := p) (u := q) (st := none) ⟨_, ho, rfl, rfl⟩ rfl (post_val_or_str ⟨Nat.le_trans (Txt.slice_le x _ _) (by rw [sizeLine_eq]; omega), fun t' k => ⟨_, ν, .str _ _, R, Fro.toks, h⟩⟩)⟩
end
end Mine

namespace Mine
open PySem PyProof.Rows PySem.W
theorem upd_upd {ν : Nu} {r : Addr} {o o' : AObj} : upd (upd ν r o) r o' = upd ν r o' := by
  funext a; unfold upd; split <;> rfl
theorem mg_str {C : Cx} {K' : Frag} (hK : C.K = K') {x y : Str} {t : Tok} (e : nsIn K' mainGlobals x = some (some (.str y t))) : C.mg x = some (.str y t) := mg_is (hK ▸ e)
theorem ite_nf {A B : Prop} (h : A) : if (!false) = true then A else B := by simpa using h
theorem TE_sub' {C : Cx} {n : Nat} {sc : Scope} {l : Loc} {ν : Nu} {Q : D → Nu → Prop} {value slice : Expr} {pos} (h : TE C n sc value l ν (fun o ν₁ => TE C n sc slice l ν₁ (fun i ν₂ => T2 C n (subscriptTail value slice) o i ν₂ Q))) (_ : isSl slice = false) : TE C n sc (.Subscript value slice pos) l ν Q := TE_sub h
end Mine

namespace Mine
open PySem PyProof.Rows PySem.W

section
variable {C : Cx} {n : Nat} {sc : Scope} {l : Loc} {ν : Nu}

/-- the scope of a list display by a for, inside sc -/
noncomputable def relS (scope sc : Scope) : Scope := { scope with names := scope.names.map fun (m, k) => if (k == .free && sc.kind == .function && sc.names.lookup m == some .cell) then (m, .cell) else (m, k) }
theorem relabel_eq {scope : Scope} {env : Env} (h : env.scope = sc) : relabel scope env = relS scope sc := by subst h; rfl
theorem relS_lookup (scope sc : Scope) (y : Str) : (relS scope sc).names.lookup y = (scope.names.lookup y).map fun k => if (k == .free && sc.kind == .function && sc.names.lookup y == some .cell) then .cell else k := by
  unfold relS
  dsimp only
  induction scope.names with
  | nil => rfl
  | cons p r ih =>
    obtain ⟨m, k⟩ := p
    rw [List.map_cons]
    by_cases hy : y = m
    · subst hy
      dsimp only
      by_cases hc : (k == NameKind.free && sc.kind == ScopeKind.function && List.lookup y sc.names == some NameKind.cell) = true
      · rw [if_pos hc]; simp only [List.lookup_cons, beq_self_eq_true, Option.map_some]; rw [if_pos hc]
      · rw [if_neg hc]; simp only [List.lookup_cons, beq_self_eq_true, Option.map_some]; rw [if_neg hc]
    · have hb : (y == m) = false := by simpa using hy
      dsimp only
      by_cases hc : (k == NameKind.free && sc.kind == ScopeKind.function && List.lookup m sc.names == some NameKind.cell) = true
      · rw [if_pos hc]; simp only [List.lookup_cons, hb]; exact ih
      · rw [if_neg hc]; simp only [List.lookup_cons, hb]; exact ih
theorem clos_ok {env : Env} {scope : Scope} (h : ∀ p ∈ scope.names, p.2 = .free → ∃ c, env.cells.lookup p.1 = some c) :
    ∃ cl, closureFor scope env = pure cl ∧ (∀ y c, cl.lookup y = some c → env.cells.lookup y = some c) ∧ ∀ y, scope.names.lookup y = some .free → ∃ c, cl.lookup y = some c := by
  have key : ∀ (names : List (Str × NameKind)) (acc : List (Str × Addr)), (∀ p ∈ names, p.2 = .free → ∃ c, env.cells.lookup p.1 = some c) → (∀ y c, acc.lookup y = some c → env.cells.lookup y = some c) →
      ∃ cl, (forIn names acc fun (p : Str × NameKind) cs => (match p with | (name, kind) => if (kind == .free) = true then cellOf env name >>= fun a => pure (ForInStep.yield ((name, a) :: cs)) else pure (ForInStep.yield cs)) : Sem (List (Str × Addr))) = pure cl ∧
        (∀ y c, cl.lookup y = some c → env.cells.lookup y = some c) ∧ ∀ y, (names.lookup y = some .free ∨ ∃ c, acc.lookup y = some c) → ∃ c, cl.lookup y = some c := by
    intro names
    induction names with
    | nil => intro acc _ ha; exact ⟨acc, rfl, ha, fun y hy => hy.elim (fun q => by simp at q) id⟩
    | cons p r ih =>
      intro acc hn ha
      obtain ⟨m, k⟩ := p
      rw [List.forIn_cons]
      by_cases hk : k = .free
      · subst hk
        obtain ⟨c, hc⟩ := hn _ (List.mem_cons_self ..) rfl
        dsimp only at hc
        obtain ⟨cl, e, a, b⟩ := ih ((m, c) :: acc) (fun p hp => hn p (List.mem_cons_of_mem _ hp)) (fun y c' e => by
          by_cases hy : y = m
          · subst hy; simp at e; subst e; exact hc
          · have hb : (y == m) = false := by simpa using hy
            simp [List.lookup_cons, hb] at e; exact ha y c' e)
        refine ⟨cl, ?_, a, fun y hy => b y ?_⟩
        · show (cellOf env m >>= _) >>= _ = _
          unfold cellOf
          rw [hc]
          exact e
        · by_cases hy' : y = m
          · subst hy'; exact .inr ⟨c, by simp⟩
          · have hb : (y == m) = false := by simpa using hy'
            simp only [List.lookup_cons, hb] at hy ⊢
            exact hy
      · have hb : (k == NameKind.free) = false := by simpa using hk
        obtain ⟨cl, e, a, b⟩ := ih acc (fun p hp => hn p (List.mem_cons_of_mem _ hp)) ha
        refine ⟨cl, ?_, a, fun y hy => b y ?_⟩
        · dsimp only
          rw [hb]
          exact e
        · by_cases hy' : y = m
          · subst hy'; exact hy.elim (fun q => by simp at q; exact absurd q hk) .inr
          · have hb : (y == m) = false := by simpa using hy'
            simp only [List.lookup_cons, hb] at hy
            exact hy
  obtain ⟨cl, e, a, b⟩ := key scope.names [] h (fun y c e => by simp at e)
  refine ⟨cl, ?_, a, fun y hy => b y (.inl hy)⟩
  unfold closureFor
  exact (congrArg (fun m : Sem (List (Str × Addr)) => m >>= fun cs => pure cs) e).trans rfl

theorem Ref.keepAll {h h' : Heap} (R : Ref C ν h) (k : ∀ b o, h.get? b = some o → h'.get? b = some o) : Ref C ν h' :=
  ⟨fun b o e => k b o (R.keep b o e), fun a o e => by
    obtain ⟨ob, hob, _⟩ := (R.at_ a o e).get
    exact (R.at_ a o e).keep (fun a o e _ => k a o e) ((k _ _ hob).trans hob.symm), R.own⟩
theorem Fro.thenOwn {own : Addr → Prop} {ν₁ ν₂ : Nu} {s s₁ s₂ : Shared} (x : Fro no ν ν₁ s s₁) (y : Fro own ν₁ ν₂ s₁ s₂) (h : ∀ b o, own b → s.heap.get? b = some o → False) : Fro no ν ν₂ s s₂ := by
  obtain ⟨⟨h1, t1, rfl⟩, a1, a2, a3⟩ := x
  obtain ⟨⟨h2, t2, rfl⟩, b1, b2, b3⟩ := y
  exact ⟨⟨h2, t2, rfl⟩, fun b o e hn _ => b1 b o (a1 b o e hn id) (a3 b o e hn) fun q => h b o q e, fun b o e hn => let ⟨o', e'⟩ := a2 b o e hn; b2 b o' e' (a3 b o e hn), fun b o e hn => let ⟨o', e'⟩ := a2 b o e hn; b3 b o' e' (a3 b o e hn)⟩

/-- a local name takes a value -/
theorem store_local {A : Around} {env : Env} {s : Shared} {x : Str} {v : Value} {d : D} {Q : Unit → Shared → Prop} {E : Value → Shared → Prop} {M : Model} (R : Ref C ν s.heap) (F : Frm C env sc l ν s.heap) (hx : sc.names.lookup x = some .local) (hv : RV s.heap v d)
    (h : ∀ s', Ref C ν s'.heap → Frm C env sc (put l x d) ν s'.heap → Fro (fun b => b = env.locals) ν ν s s' → Q () s') : wpAny M A (storeName env x v) Q E s := by
  have hk : env.scope.kind = .function := F.scope ▸ F.kind
  obtain ⟨m, hn, hm⟩ := F.ns
  refine wpAny_storeName_local (by unfold Env.kindOf; rw [F.scope]; exact hx) hn (fun h' hn' sb => ?_) (by rw [hk]; rfl)
  have k : TupKeep s.heap h' := fun a o e hi => (sb.2 a fun q => F.notTup a o (.inl q) e hi).trans e
  have R' : Ref C ν h' := ⟨fun b o e => (sb.2 b (Nat.ne_of_lt (Nat.lt_of_lt_of_le (Heap.lt_size e) F.above))).trans (R.keep b o e), fun a o e => (R.at_ a o e).keep k (sb.2 a fun q => by rw [q, F.nuL] at e; cases e), R.own⟩
  have X' : Fro (fun b => b = env.locals) ν ν s { s with heap := h', toks := s.toks + 1 } := ⟨⟨h', _, rfl⟩, fun b o e _ ho => (sb.2 b ho).trans e, fun b o e _ => if q : b = env.locals then q ▸ (let ⟨o, _, _, e, _⟩ := hn'; ⟨o, e⟩) else ⟨o, (sb.2 b q).trans e⟩, fun _ _ _ q => q⟩
  refine h _ R' ⟨F.scope, F.kind, F.glob, F.blt, ⟨_, hn', fun y e h1 h2 => ?_⟩, fun y c hc => ?_, fun y e h1 => ?_, F.cells, F.nuL, F.nuC, F.apart, F.above, F.aboveC⟩ X'
  · rw [lk_put] at h1
    by_cases hy : y = x
    · subst hy; rw [if_pos rfl] at h1; cases h1; exact ⟨v, if_pos rfl, hv.keep k⟩
    · rw [if_neg hy] at h1; obtain ⟨u, e1, e2⟩ := hm y e h1 h2; exact ⟨u, (if_neg hy).trans e1, e2.keep k⟩
  · obtain ⟨u, ⟨o, ho, hd⟩, r⟩ := F.cell y c hc
    refine ⟨u, ⟨o, (sb.2 c (F.neC hc)).trans ho, hd⟩, fun e h1 h2 => ?_⟩
    rw [lk_put] at h1
    by_cases hy : y = x
    · subst hy; exact absurd hx h2
    · rw [if_neg hy] at h1; obtain ⟨z, e1, e2⟩ := r e h1 h2; exact ⟨z, e1, e2.keep k⟩
  · rw [lk_put] at h1
    by_cases hy : y = x
    · subst hy; exact .inl hx
    · rw [if_neg hy] at h1; exact F.kinds y e h1
/-- a target of local names -/
noncomputable def TGl (C : Cx) (n : Nat) (sc : Scope) (t : Expr) (d : D) (l : Loc) (ν : Nu) (Q : Loc → Prop) : Prop :=
  ∀ A env s v, Aok C n A → Ref C ν s.heap → Frm C env sc l ν s.heap → RV s.heap v d → wpAny (model C.prog C.w) A (assign t env v) (fun _ s' => ∃ l', Ref C ν s'.heap ∧ Frm C env sc l' ν s'.heap ∧ Fro (fun b => b = env.locals) ν ν s s' ∧ Q l') nev s
noncomputable def TIfs (C : Cx) (n : Nat) (sc : Scope) (ifs : List Expr) (l : Loc) (ν : Nu) (Q : Bool → Nu → Prop) : Prop :=
  match ifs with
  | [] => Q true ν
  | [c] => TB C n sc c l ν Q
  | _ => False
theorem TIfs_run {ifs : List Expr} {Q : Bool → Nu → Prop} (h : TIfs C n sc ifs l ν Q) {A : Around} {env : Env} {s : Shared} (hA : Aok C n A) (R : Ref C ν s.heap) (F : Frm C env sc l ν s.heap) {E : Value → Shared → Prop} :
    wpAny (model C.prog C.w) A (forIn ifs true fun c r => if r = true then do let ok ← isTrue c env (eval c env); pure (ForInStep.yield ok) else pure (ForInStep.yield r)) (PostB C ν s Q) E s := by
  match ifs, h with
  | [], h => exact wpAny_tests_nil (postB_here R h)
  | [c], h => exact wpAny_tests_one (wpAny_mono (h A env s hA R F) (fun _ _ x => x) fun _ _ x => x.elim)

/-- what can be iterated -/
noncomputable def Itb (C : Cx) (n : Nat) (d : D) (ν : Nu) (N : Nat) (item : Nat → D) : Prop :=
  ∃ src : Nu → Prop, (∀ r o, ν r = none → src (upd ν r o)) ∧ ∀ A s v, Aok C n A → Ref C ν s.heap → RV s.heap v d → ∃ At : Nat → Obj → Prop, (∀ I, ItOk C I N item src At) ∧
    (∀ (A : Around) (s : Shared) (I : Addr) (o : Obj) (Q : Value → Shared → Prop) (E : Value → Shared → Prop), s.heap.get? I = some o → At 0 o → Q (.ref I) s → wpAny (model C.prog C.w) A (pyIter (.ref I)) Q E s) ∧
    ∀ (Q : Value → Shared → Prop) (E : Value → Shared → Prop), (∀ o, o.isFreed = false → At 0 o → Q (.ref s.heap.objs.size) { s with heap := s.heap.push o }) → wpAny (model C.prog C.w) A (pyIter v) Q E s
theorem compLoop_mine {A : Around} {R : Result → Shared → Prop} {s : Shared} {elt target iter : Expr} {ifs : List Expr} {scope : Scope} {pos : Pos} {it acc : Value} {env : Env} (I : Nat → Shared → Prop)
    (turn : ∀ k s, I k s → wpAny (model C.prog C.w) A (pyNext it) (fun r s₁ => match r with
      | none => R (.ok .next) s₁
      | some v => wpAny (model C.prog C.w) A (letOwnedTupleGo target it v) (fun _ s₁' => wpAny (model C.prog C.w) A (assign target env v) (fun _ s₂ =>
          wpAny (model C.prog C.w) A (forIn ifs true fun c r => if r = true then do let ok ← isTrue c env (eval c env); pure (ForInStep.yield ok) else pure (ForInStep.yield r)) (fun ok s₃ =>
            if ok = true then wpAny (model C.prog C.w) A (eval elt env) (fun x s₄ =>
              wpAny (model C.prog C.w) A (call (.builtin "list.append") [acc, x]) (fun _ s₅ => ∃ m, m < k ∧ I m s₅) nev s₄) nev s₃
            else ∃ m, m < k ∧ I m s₃) nev s₂) nev s₁') nev s₁) nev s)
    (k : Nat) (h : I k s) : codeAny (model C.prog C.w) A (.compLoop (.ListComp elt [⟨target, iter, ifs, 0⟩] scope pos) 0 it acc env) R s := by
  refine codeAny_loop rfl I (fun k s hI => ?_) k h
  show wpAny _ A ((compTurn (.ListComp elt [⟨target, iter, ifs, 0⟩] scope pos) 0 it acc env).onRaise (fun x => do noteFrame x env; theTreesLotGoes x)) _ _ s
  refine wpAny_noted ?_
  rw [compTurn_list]
  refine wpAny_bind (wpAny_standAt (wpAny_bind (wpAny_mono (turn k s hI) (fun r s₁ h₁ => ?_) fun _ _ h' => h'.elim)))
  cases r with
  | none => exact wpAny_pure h₁
  | some v =>
    refine wpAny_bind (wpAny_mono h₁ (fun _ s₁' h₁' => ?_) fun _ _ h' => h'.elim)
    refine wpAny_bind (wpAny_mono h₁' (fun _ s₂ h₂ => wpAny_bind (wpAny_mono h₂ (fun ok s₃ h₃ => ?_) fun _ _ h' => h'.elim)) fun _ _ h' => h'.elim)
    cases ok with
    | false => exact wpAny_pure ⟨rfl, h₃⟩
    | true =>
      exact wpAny_bind (wpAny_bind (wpAny_mono h₃ (fun x s₄ h₄ => wpAny_bind (wpAny_mono h₄ (fun _ s₅ h₅ => wpAny_pure (wpAny_pure ⟨rfl, h₅⟩)) fun _ _ h' => h'.elim)) fun _ _ h' => h'.elim))

inductive CoI (C : Cx) (cenv : Env) (sc : Scope) (lc : Loc) (ν₁ : Nu) (s₁ : Shared) (I : Addr) (N : Nat) (At : Nat → Obj → Prop) (g : Nat → Option D) (k : Nat) (s' : Shared) : Prop
  | mk (i : Nat) (o : Obj) (hk : k = N - i) (hi : i ≤ N) (R : Ref C (upd ν₁ (I + 1) (.lst ((List.range i).filterMap g))) s'.heap) (F : Frm C cenv sc lc (upd ν₁ (I + 1) (.lst ((List.range i).filterMap g))) s'.heap) (hI : s'.heap.get? I = some o) (hA : At i o) (x : Fro no ν₁ (upd ν₁ (I + 1) (.lst ((List.range i).filterMap g))) s₁ s') : CoI C cenv sc lc ν₁ s₁ I N At g k s'
end
end Mine

namespace Mine
open PySem PyProof.Rows PySem.W

section
variable {C : Cx} {n : Nat} {sc : Scope} {l : Loc} {ν : Nu} {Q : D → Nu → Prop}

end
end Mine

namespace Mine
open PySem PyProof.Rows PySem.W

section
variable {C : Cx} {n : Nat} {sc : Scope} {l : Loc} {ν : Nu} {Q : D → Nu → Prop}

end

section
variable {C : Cx} {ν : Nu} {st dd bk : Addr} {adr : Nat → Addr} {S : SV}
end

section
variable {C : Cx} {n : Nat} {sc : Scope} {l : Loc} {ν : Nu} {Q : D → Nu → Prop} {st dd bk : Addr} {adr : Nat → Addr} {S : SV}
end

section
variable {C : Cx} {ν ν' : Nu} {st dd bk : Addr} {adr : Nat → Addr} {S : SV}
end

section
variable {C : Cx} {ν : Nu} {st dd bk : Addr} {adr : Nat → Addr} {S : SV}
end

section
variable {C : Cx} {n : Nat} {sc : Scope} {l : Loc} {ν : Nu} {Q : D → Nu → Prop}
end
theorem lk_mem {lc : Loc} {y : Str} {d : D} (h : lk lc y = some d) : (y, d) ∈ lc := by
  induction lc with
  | nil => simp [lk] at h
  | cons p r ih =>
    obtain ⟨z, e⟩ := p
    unfold lk at h
    split at h
    · rename_i q; subst q; cases h; exact .head _
    · exact .tail _ (ih h)
theorem hlc_of {lc l : Loc} {scope : Scope} (h : ∀ p ∈ lc, lk l p.1 = some p.2 ∧ scope.names.lookup p.1 = some .free) : ∀ y d, lk lc y = some d → lk l y = some d ∧ scope.names.lookup y = some .free := fun _ _ e => h _ (lk_mem e)
end Mine

namespace Mine
open PySem PyProof.Rows PySem.W

section
variable {C : Cx} {n : Nat} {ν : Nu} {Q : D → Nu → Prop}
/-- a datum, read through the abstract heap -/
noncomputable def PD (C : Cx) (ν : Nu) (d : D) (p : PyData) : Prop := ∀ h v, Ref C ν h → RV h v d → ∃ as, Reads h v p as
noncomputable def PDs (C : Cx) (ν : Nu) (ds : List D) (ps : List PyData) : Prop := ∀ h vs, Ref C ν h → RVs h vs ds → ∃ as, ReadsAll h vs ps as
theorem PD.int (i : Int) : PD C ν (.int i) (.int i) := fun _ _ _ r => by cases r; exact ⟨_, .int _ _⟩
theorem PD.str (x : Str) : PD C ν (.str x) (.str x) := fun _ _ _ r => by cases r; exact ⟨_, .str _ _⟩
theorem PD.tup {ds : List D} {ps : List PyData} (q : PDs C ν ds ps) : PD C ν (.tup ds) (.tuple ps) := fun h v R r => by
  cases r with | tup e r => obtain ⟨_, z⟩ := q h _ R r; exact ⟨_, .tuple e rfl rfl z⟩
theorem PD.lst {a : Addr} {ds : List D} {ps : List PyData} (e : seqOf (ν a) = some ds) (q : PDs C ν ds ps) : PD C ν (.ref a) (.list ps) := fun h v R r => by
  cases r
  obtain ⟨_, _, e', r⟩ := R.seq e
  obtain ⟨_, z⟩ := q h _ R r
  exact ⟨_, .list e' rfl rfl z⟩
theorem PDs.nil : PDs C ν [] [] := fun _ _ _ r => by cases r; exact ⟨_, .nil⟩
theorem PDs.cons {d : D} {ds : List D} {p : PyData} {ps : List PyData} (x : PD C ν d p) (y : PDs C ν ds ps) : PDs C ν (d :: ds) (p :: ps) := fun h _ R r => by
  cases r with | cons a b => obtain ⟨_, x⟩ := x h _ R a; obtain ⟨_, y⟩ := y h _ R b; exact ⟨_, .cons x y⟩
theorem T2_eqP {d e : D} {p q : PyData} (hd : PD C ν d p) (he : PD C ν e q) (hp : p.canLay0 = true) (hq : q.canLay0 = true) (hh : min p.depth q.depth ≤ 90) (h : Q (.bool (PyData.eqv p q)) ν) : T2 C n (compareOp .Eq) d e ν Q := by
  intro A s v u hA R hz hv hu
  obtain ⟨as, ra⟩ := hd _ _ R hv
  obtain ⟨bs, rb⟩ := he _ _ R hu
  exact SeqAt.compareEq_reads ra rb hp hq (by have := hA.2.2; unfold cLine; omega) (postV_here R (.bool _) h)
end
section
variable {C : Cx} {n : Nat} {sc : Scope} {l : Loc} {ν : Nu}
theorem Frm.keepAll {env : Env} {h h' : Heap} (F : Frm C env sc l ν h) (k : ∀ b o, h.get? b = some o → h'.get? b = some o) : Frm C env sc l ν h' := by
  have kt : TupKeep h h' := fun a o e _ => k a o e
  obtain ⟨m, ⟨o, es, ep, ho, r⟩, hm⟩ := F.ns
  refine ⟨F.scope, F.kind, F.glob, F.blt, ⟨m, ⟨o, es, ep, k _ _ ho, r⟩, fun y d h1 h2 => let ⟨v, a, b⟩ := hm y d h1 h2; ⟨v, a, b.keep kt⟩⟩, fun y c hc => ?_, F.kinds, F.cells, F.nuL, F.nuC, F.apart, F.above, F.aboveC⟩
  obtain ⟨v, ⟨o', ho', hd'⟩, q⟩ := F.cell y c hc
  exact ⟨v, ⟨o', k _ _ ho', hd'⟩, fun d h1 h2 => let ⟨u, a, b⟩ := q d h1 h2; ⟨u, a, b.keep kt⟩⟩
end
end Mine

namespace Mine
open PySem PyProof.Rows PySem.W

section
variable {prog : Program} {w : World} {A : Around} {R : Result → Shared → Prop} {I : Addr} {fp wr : List Addr} {n : Nat} {P : Nat → Value → Prop} {St : Nat → Heap → Prop}
end
section
variable {C : Cx} {n : Nat} {sc : Scope} {l : Loc} {ν : Nu} {Q : D → Nu → Prop}
end
end Mine

namespace Mine
open PySem PyProof.Rows PySem.W
section
variable {C : Cx} {ν ν' : Nu} {st : Addr} {fp fp' : List Addr} {S : SV}
end
end Mine

namespace Mine
open PySem PyProof.Rows PySem.W
section
variable {C : Cx} {ν : Nu} {st dd bk : Addr} {adr : Nat → Addr} {S : SV}
end
section
variable {C : Cx} {n : Nat} {ν : Nu} {Q : D → Nu → Prop}
end
end Mine

namespace Mine
open PySem PyProof.Rows PySem.W
section
variable {C : Cx} {n : Nat} {ν : Nu} {Q : D → Nu → Prop}
theorem TC_intB {b : Bool} (h : Q (.int (if b then 1 else 0)) ν) : TC C n (.type "int") [.bool b] ν Q := by
  intro A s vs hA R hb hv
  have hq := RVs.cons_inv hv; clear hv; obtain ⟨_, _, rfl, hv, hr⟩ := hq
  have hq := RVs.nil_inv hr; clear hr; subst hq; (first | (have hq := RV.int_inv hv; clear hv; obtain ⟨_, rfl⟩ := hq) | (have hq := RV.str_inv hv; clear hv; obtain ⟨_, rfl⟩ := hq) | (have hq := RV.ref_inv hv; clear hv; subst hq) | (have hq := RV.val_inv hv; clear hv; subst hq) | (have hq := RV.bool_inv hv; clear hv; subst hq) | cases hv)
  exact call_int_bool (postV_toks R (.int _ _) h)
end
end Mine

namespace Mine
open PySem PyProof.Rows PySem.W
section
variable {C : Cx} {n : Nat} {ν : Nu} {Q : D → Nu → Prop}
end
end Mine

namespace Mine
open PySem PyProof.Rows PySem.W
theorem Sub_put {l l' : Loc} {x : Str} {d : D} (h : Sub l' l) (hn : lk l' x = none) : Sub l' (put l x d) := fun y e q => by
  rw [lk_put]
  by_cases z : y = x
  · subst z; rw [hn] at q; cases q
  · rw [if_neg z]; exact h y e q
section
variable {C : Cx} {n : Nat} {ν : Nu} {Q : D → Nu → Prop}
theorem TB_mono {sc : Scope} {l : Loc} {e : Expr} {P P' : Bool → Nu → Prop} (h : TB C n sc e l ν P) (hq : ∀ b ν', P b ν' → P' b ν') : TB C n sc e l ν P' := fun A env s hA R F => wpAny_mono (h A env s hA R F) (fun _ _ ⟨a, b, c, q⟩ => ⟨a, b, c, hq _ _ q⟩) fun _ _ x => x
end
end Mine

namespace Mine
open PySem PyProof.Rows PySem.W
-- what holds in the loops of the laws; a constructor each, which keeps the terms small
end Mine

namespace Mine
open PySem PyProof.Rows PySem.W
section
variable {prog : Program} {w : World} {A : Around} {E : Value → Shared → Prop} {s : Shared}
end
section
variable {C : Cx} {n : Nat} {ν : Nu} {Q : D → Nu → Prop}
end
end Mine

namespace Mine
open PySem PyProof.Rows PySem.W
-- the loop of law 12
end Mine

namespace Mine
open PySem PyProof.Rows PySem.W
-- small facts about numbers, each proved once (a call of omega costs 500 nodes and more)
theorem baseN (c : Int) : ∃ b : Nat, 2 + c.fmod 15 = (b : Int) ∧ 2 ≤ b ∧ b ≤ 16 := by
  have f1 := fmod_pos c (b := 15) (by decide)
  exact ⟨(2 + c.fmod 15).toNat, by omega, by omega, by omega⟩
theorem lenM {α : Type} {f : α → D} {l : List α} (h : l.length ≤ 100000) : (l.map f).length < 2 ^ 63 := by rw [List.length_map]; exact Nat.lt_of_le_of_lt h (by decide)
theorem nz {b : Nat} (h : 2 ≤ b) : (b : Int) ≠ 0 := by omega
section
variable {C : Cx} {n : Nat} {ν : Nu} {Q : D → Nu → Prop}
end
section
variable {b p m : Nat} {L : List Rw} {t : Rw}
end
end Mine

namespace Mine
open PySem PyProof.Rows PySem.W
-- laws with try: what a step keeps when an exception may have been caught on the way (the slots of the frames below may turn)

noncomputable def Lk (o o' : Obj) : Prop := (∃ sl, o' = { o with slots := sl }) ∧ ((∀ es n, o.data ≠ .dict es n) → o' = o)
theorem Lk.refl (o : Obj) : Lk o o := ⟨⟨o.slots, rfl⟩, fun _ => rfl⟩
theorem Lk.trans {a b c : Obj} (x : Lk a b) (y : Lk b c) : Lk a c := by
  obtain ⟨⟨s1, rfl⟩, e1⟩ := x
  obtain ⟨⟨s2, rfl⟩, e2⟩ := y
  exact ⟨⟨s2, rfl⟩, fun h => (e2 h).trans (e1 h)⟩
theorem Lk.data {a b : Obj} (x : Lk a b) : b.data = a.data := by obtain ⟨⟨_, rfl⟩, _⟩ := x; rfl
theorem Imm.noDict {o : Obj} (h : Imm o) : ∀ es n, o.data ≠ .dict es n := by cases h <;> intro es n q <;> cases q

structure Fro1 (own : Addr → Prop) (ν ν' : Nu) (s s' : Shared) : Prop where
  eq : ∃ h' t', s' = { s with heap := h', toks := t' }
  keep : ∀ b o, s.heap.get? b = some o → ν b = none → ¬ own b → ∃ o', s'.heap.get? b = some o' ∧ Lk o o'
  alive : ∀ b o, s.heap.get? b = some o → ν b = none → ∃ o', s'.heap.get? b = some o'
  dom : ∀ b o, s.heap.get? b = some o → ν b = none → ν' b = none
theorem Fro.to1 {own : Addr → Prop} {ν ν' : Nu} {s s' : Shared} (x : Fro own ν ν' s s') : Fro1 own ν ν' s s' := ⟨x.eq, fun b o e hn ho => ⟨o, x.keep b o e hn ho, .refl o⟩, x.alive, x.dom⟩
theorem Fro1.refl {own : Addr → Prop} {ν : Nu} {s : Shared} : Fro1 own ν ν s s := Fro.refl.to1
theorem Fro1.trans {own : Addr → Prop} {ν ν' ν'' : Nu} {s s' s'' : Shared} (x : Fro1 own ν ν' s s') (y : Fro1 own ν' ν'' s' s'') : Fro1 own ν ν'' s s'' := by
  obtain ⟨⟨h', t', rfl⟩, a1, a2, a3⟩ := x
  obtain ⟨⟨h'', t'', rfl⟩, b1, b2, b3⟩ := y
  refine ⟨⟨h'', t'', rfl⟩, fun b o e hn ho => ?_, fun b o e hn => let ⟨o', e'⟩ := a2 b o e hn; b2 b o' e' (a3 b o e hn), fun b o e hn => let ⟨o', e'⟩ := a2 b o e hn; b3 b o' e' (a3 b o e hn)⟩
  obtain ⟨o', e', k⟩ := a1 b o e hn ho
  obtain ⟨o'', e'', k'⟩ := b1 b o' e' (a3 b o e hn) ho
  exact ⟨o'', e'', k.trans k'⟩
theorem Fro1.weaken {own own' : Addr → Prop} {ν ν' : Nu} {s s' : Shared} (x : Fro1 own ν ν' s s') (h : ∀ b, own b → own' b) : Fro1 own' ν ν' s s' :=
  ⟨x.eq, fun b o e hn ho => x.keep b o e hn fun q => ho (h b q), x.alive, x.dom⟩
theorem Fro1.toFr {env : Env} {ν ν' : Nu} {s s' : Shared} (x : Fro1 no ν ν' s s') : Fro1 (fr env) ν ν' s s' := x.weaken fun _ q => q.elim
theorem Fro1.tups {C : Cx} {own : Addr → Prop} {ν ν' : Nu} {s s' : Shared} (x : Fro1 own ν ν' s s') (R : Ref C ν s.heap) (ho : ∀ b o, own b → s.heap.get? b = some o → ¬ Imm o) : TupKeep s.heap s'.heap := by
  intro a o e hi
  have hn : ν a = none := by
    cases q : ν a with
    | none => rfl
    | some o' =>
      obtain ⟨ob, e', hc⟩ := (R.at_ a o' q).get
      rw [e] at e'; cases e'
      exact absurd hi hc
  obtain ⟨o', e', k⟩ := x.keep a _ e hn fun q => ho a o q e hi
  rw [k.2 hi.noDict] at e'; exact e'

section
variable {C : Cx} {n : Nat} {sc : Scope} {l : Loc} {ν : Nu} {env : Env}
theorem Frm.fro1 {ν' : Nu} {s s' : Shared} (F : Frm C env sc l ν s.heap) (R : Ref C ν s.heap) (x : Fro1 no ν ν' s s') : Frm C env sc l ν' s'.heap := by
  have k := x.tups R fun _ _ q => q.elim
  refine ⟨F.scope, F.kind, F.glob, F.blt, ?_, fun y c hc => ?_, F.kinds, F.cells, ?_, fun y c hc => ?_, F.apart, F.above, F.aboveC⟩
  · obtain ⟨m, ⟨o, es, ep, ho, hd, r⟩, hm⟩ := F.ns
    obtain ⟨o', ho', hk⟩ := x.keep _ _ ho F.nuL id
    exact ⟨m, ⟨o', es, ep, ho', hk.data.trans hd, r⟩, fun y d h1 h2 => let ⟨v, a, b⟩ := hm y d h1 h2; ⟨v, a, b.keep k⟩⟩
  · obtain ⟨v, ⟨o, ho, hd⟩, q⟩ := F.cell y c hc
    obtain ⟨o', ho', hk⟩ := x.keep _ _ ho (F.nuC y c hc) id
    exact ⟨v, ⟨o', ho', hk.data.trans hd⟩, fun d h1 h2 => let ⟨u, a, b⟩ := q d h1 h2; ⟨u, a, b.keep k⟩⟩
  · obtain ⟨m, ⟨o, es, ep, ho, r⟩, hm⟩ := F.ns
    exact x.dom _ _ ho F.nuL
  · obtain ⟨v, ⟨o, ho, hd⟩, q⟩ := F.cell y c hc
    exact x.dom _ _ ho (F.nuC y c hc)

/-- a frame of the stack -/
structure FrOk (C : Cx) (ν : Nu) (h : Heap) (env : Env) : Prop where
  kind : env.scope.kind = .function
  frame : env.frame = some env.locals
  base : C.base.get? env.locals = none
  nu : ν env.locals = none
  obj : ∃ o es n, h.get? env.locals = some o ∧ o.data = .dict es n
noncomputable def Stk (C : Cx) (ν : Nu) (h : Heap) (l : List Env) : Prop := ∀ env ∈ l, FrOk C ν h env
theorem getNoneOf {h : Heap} {a : Addr} (q : h.objs.size ≤ a) : h.get? a = none := by
  cases e : h.get? a with
  | none => rfl
  | some o => exact absurd (Heap.lt_size e) (Nat.not_lt.mpr q)
theorem Frm.frOk {h : Heap} (F : Frm C env sc l ν h) (hf : env.frame = some env.locals) : FrOk C ν h env := by
  obtain ⟨m, ⟨o, es, ep, ho, hd, _⟩, _⟩ := F.ns
  exact ⟨F.scope ▸ F.kind, hf, getNoneOf F.above, F.nuL, o, es, ep, ho, hd⟩
theorem Stk.fro1 {own : Addr → Prop} {ν ν' : Nu} {s s' : Shared} {st : List Env} (S : Stk C ν s.heap st) (x : Fro1 own ν ν' s s') (hs : ∀ e0 ∈ st, ¬ own e0.locals) : Stk C ν' s'.heap st := fun e he => by
  obtain ⟨k, f, b, nu, o, es, n, ho, hd⟩ := S e he
  obtain ⟨o', ho', hk⟩ := x.keep _ _ ho nu (hs e he)
  exact ⟨k, f, b, x.dom _ _ ho nu, o', es, n, ho', hk.data.trans hd⟩
theorem Stk.funFrames {h B : Heap} : ∀ {st : List Env}, Stk C ν h st → (∀ e0 ∈ st, B.get? e0.locals = none) → h.FunFrames B st
  | [], _, _ => trivial
  | e :: r, S, hb => by
    obtain ⟨k, f, b, nu, o, es, n, ho, hd⟩ := S e (.head _)
    exact ⟨by rw [k]; simp, ⟨e.locals, o, f, hb e (.head _), ho, fun vs q => by rw [hd] at q; cases q⟩, Stk.funFrames (fun e' he => S e' (.tail _ he)) fun e' he => hb e' (.tail _ he)⟩

/-- where a step stands -/
structure At (C : Cx) (n : Nat) (A : Around) (env : Env) (outer : List Env) (ν : Nu) (h : Heap) : Prop where
  ok : Aok C n A
  frames : A.frames = some (env :: outer)
  frame : env.frame = some env.locals
  sep : ∀ e0 ∈ outer, ¬ fr env e0.locals
  stk : Stk C ν h outer
theorem At.fro1 {A : Around} {outer : List Env} {ν' : Nu} {s s' : Shared} (a : At C n A env outer ν s.heap) (x : Fro1 (fr env) ν ν' s s') : At C n A env outer ν' s'.heap :=
  ⟨a.ok, a.frames, a.frame, a.sep, a.stk.fro1 x a.sep⟩
theorem At.all {A : Around} {outer : List Env} {h : Heap} (a : At C n A env outer ν h) (F : Frm C env sc l ν h) : Stk C ν h (env :: outer) := fun e he => by
  rcases List.mem_cons.mp he with rfl | he
  · exact F.frOk a.frame
  · exact a.stk e he

inductive PostV1 (C : Cx) (ν : Nu) (s : Shared) (Q : D → Nu → Prop) (v : Value) (s' : Shared) : Prop
  | mk (d : D) (ν' : Nu) (rv : RV s'.heap v d) (R : Ref C ν' s'.heap) (x : Fro1 no ν ν' s s') (q : Q d ν') : PostV1 C ν s Q v s'
inductive PostB1 (C : Cx) (ν : Nu) (s : Shared) (Q : Bool → Nu → Prop) (b : Bool) (s' : Shared) : Prop
  | mk (ν' : Nu) (R : Ref C ν' s'.heap) (x : Fro1 no ν ν' s s') (q : Q b ν') : PostB1 C ν s Q b s'
inductive PostS1 (C : Cx) (env : Env) (sc : Scope) (ν : Nu) (s : Shared) (Q : Fl → Loc → Nu → Prop) (f : Flow) (s' : Shared) : Prop
  | mk (fl : Fl) (l' : Loc) (ν' : Nu) (fr_ : FlR s'.heap f fl) (R : Ref C ν' s'.heap) (F : Frm C env sc l' ν' s'.heap) (x : Fro1 (fr env) ν ν' s s') (q : Q fl l' ν') : PostS1 C env sc ν s Q f s'
theorem PostB.to1 {s s' : Shared} {Q : Bool → Nu → Prop} {v : Bool} (p : PostB C ν s Q v s') : PostB1 C ν s Q v s' := let ⟨ν', b, c, q⟩ := p; ⟨ν', b, c.to1, q⟩
theorem PostS.to1 {s s' : Shared} {Q : Fl → Loc → Nu → Prop} {f : Flow} (p : PostS C env sc ν s Q f s') : PostS1 C env sc ν s Q f s' := let ⟨fl, l', ν', a, b, c, x, q⟩ := p; ⟨fl, l', ν', a, b, c, x.to1, q⟩
theorem PostV1.after {ν₁ : Nu} {s s₁ : Shared} {Q : D → Nu → Prop} (x : Fro1 no ν ν₁ s s₁) {v : Value} {s' : Shared} (p : PostV1 C ν₁ s₁ Q v s') : PostV1 C ν s Q v s' :=
  let ⟨d, ν', a, b, c, q⟩ := p; ⟨d, ν', a, b, x.trans c, q⟩
theorem PostS1.after {ν₁ : Nu} {s s₁ : Shared} {Q : Fl → Loc → Nu → Prop} (x : Fro1 (fr env) ν ν₁ s s₁) {f : Flow} {s' : Shared} (p : PostS1 C env sc ν₁ s₁ Q f s') : PostS1 C env sc ν s Q f s' :=
  let ⟨fl, l', ν', a, b, c, y, q⟩ := p; ⟨fl, l', ν', a, b, c, x.trans y, q⟩

end

/-- an exception of a class of the text, with its traceback's head -/
noncomputable def excO (T t : Addr) (x : Value) : Obj := { cls := .ref T, data := .fields #[.ref t, x, .none, .none, .bool false, .none] }
structure Trc (B : Heap) (l : List Env) (e T : Addr) (fl : Value) (h : Heap) : Prop where
  stays : B.StaysIn h
  fresh : B.get? e = none
  frames : h.FunFrames B l
  obj : ∃ t tb ot ts, h.get? e = some (excO T t (.ref tb)) ∧ B.get? tb = none ∧ tb ≠ e ∧ h.get? tb = some ot ∧ ot.data = .fields ts ∧ ts[3]? = some fl
/-- an exception on its way: made here, come out of a call, or let through by a suite of this frame -/
inductive XSt (B : Heap) (l : List Env) (L e T : Addr) (h : Heap) : Prop
  | made (h₀ : Heap) (args : List Value) (hk : B.StaysIn h₀) (hl : h₀.FunFrames B l) (m : Heap.MadeExcOf h₀ h e (.ref T) args) : XSt B l L e T h
  | trc (fl : Value) (hf : fl = .none ∨ fl = rawInt L) (f : Trc B l e T fl h) : XSt B l L e T h

section
variable {M : Model} {A : Around} {E : Value → Shared → Prop} {s : Shared} {B : Heap} {env : Env} {outer : List Env} {L e T : Addr} {Q : Unit → Shared → Prop}
/-- a new entry of the traceback -/
theorem entry_step {t : Addr} {x head : Value} {hn : Bool} (hfr : A.frames = some (env :: outer)) (hf : env.frame = some L) (hl : s.heap.FunFrames B (env :: outer)) (he : s.heap.get? e = some (excO T t x)) (hkb : B.StaysIn s.heap) (hen : B.get? e = none)
    (h : ∀ h', Trc B (env :: outer) e T (rawInt L) h' → s.heap.UpToSlots h' → Q () { s with heap := h' }) :
    wpAny M A (do let a ← frameOf env; let pl ← entryPlaceOf L hn; let b ← EntryCells.newEntry head a .none (rawInt L) .none pl; setField (.ref e) 1 b) Q E s := by
  have hene : e ∉ (env :: outer).filterMap (·.frame) := fun hm => by
    obtain ⟨_, o, ho, hnf⟩ := hl.mem hm
    rw [he] at ho; cases ho; exact hnf _ rfl
  refine wpAny_bind (wpAny_frameOf_fun hfr hl hf fun h₁ hs₁ => ?_)
  refine wpAny_bind (wpAny_entryPlaceOf fun pl hpl => ?_)
  unfold EntryCells.newEntry newFields
  refine wpAny_bind (wpAny_newObj_type ?_ (hpl.sizeOk5 _ _ _ _ _))
  have he₁ : h₁.get? e = some (excO T t x) := (hs₁.2.1 e hene).trans he
  generalize hob : ({ cls := .type "traceback", dict := none, data := .fields ([head, .ref L, .none, rawInt L, .none] ++ (if pl.isEmpty then List.replicate 6 Value.none else pl)).toArray } : Obj) = ob
  have he₂ : (h₁.push ob).get? e = some (excO T t x) := Heap.get?_push_of_some _ he₁
  have hTe : h₁.objs.size ≠ e := Nat.ne_of_gt (Heap.lt_size he₁)
  refine wpAny_setField he₂ rfl (show 1 < 6 by decide) (h _ ?_ ?_)
  · have other : ∀ b, b ≠ e → ((h₁.push ob).update e (Obj.mapFields (·.setIfInBounds 1 (.ref h₁.objs.size)))).get? b = (h₁.push ob).get? b := fun b hb => Heap.get?_update_other _ _ (Ne.symm hb)
    have kb₁ : B.StaysIn h₁ := fun b o hbo => (hs₁.2.1 b fun hm => by rw [(hl.mem hm).1] at hbo; cases hbo).trans (hkb b o hbo)
    have nf : ob.isFreed = false := by rw [← hob]; rfl
    refine ⟨fun b o hbo => ?_, hen, hl.of_keeps fun b o hb hnf => ?_, t, h₁.objs.size, ob, _, Heap.get?_update_self _ he₂ rfl, kb₁.fresh, hTe, ?_, by rw [← hob], ?_⟩
    · exact (other b fun q => by rw [q, hen] at hbo; cases hbo).trans (Heap.get?_push_of_some _ (kb₁ b o hbo))
    · obtain ⟨sl, hs⟩ := hs₁.2.2 b o hb
      have hbe : b ≠ e := fun q => by rw [q, he] at hb; cases hb; exact hnf _ rfl
      exact ⟨_, (other b hbe).trans (Heap.get?_push_of_some _ hs), rfl⟩
    · exact (other _ hTe).trans (Heap.get?_push_size _ nf)
    · first | (simp; done) | (rcases hpl with rfl | ⟨_, _, _, _, _, _, _, rfl⟩ <;> simp)
  · intro b o hb hnf
    obtain ⟨sl, hs⟩ := hs₁.2.2 b o hb
    have hbe : b ≠ e := fun q => by rw [q, he] at hb; cases hb; exact hnf _ rfl
    exact ⟨sl, (Heap.get?_update_other _ _ (Ne.symm hbe)).trans (Heap.get?_push_of_some _ hs)⟩
theorem Trc.turn {l : List Env} {fl fl' : Value} {tb : Addr} {t : Addr} {ot : Obj} {ts : Array Value} (R : Trc B l e T fl s.heap) (he : s.heap.get? e = some (excO T t (.ref tb))) (hb : B.get? tb = none) (hne : tb ≠ e) (ht : s.heap.get? tb = some ot) (hd : ot.data = .fields ts) (h3 : 3 < ts.size) :
    Trc B l e T fl' (s.heap.update tb (Obj.mapFields (·.setIfInBounds 3 fl'))) ∧ s.heap.UpToSlots (s.heap.update tb (Obj.mapFields (·.setIfInBounds 3 fl'))) := by
  have other : ∀ b, b ≠ tb → (s.heap.update tb (Obj.mapFields (·.setIfInBounds 3 fl'))).get? b = s.heap.get? b := fun b hb => Heap.get?_update_other _ _ (Ne.symm hb)
  have noRecord : ∀ b o, s.heap.get? b = some o → (∀ vs, o.data ≠ .fields vs) → b ≠ tb := fun b o hb hnf q => by
    rw [q, ht] at hb; injection hb with hb; subst hb; exact hnf ts hd
  refine ⟨⟨fun b o hbo => (other b fun q => by rw [q, hb] at hbo; cases hbo).trans (R.stays b o hbo), R.fresh, R.frames.of_keeps fun b o hb hnf => ⟨o, (other b (noRecord b o hb hnf)).trans hb, rfl⟩, t, tb, _, _, (other e (Ne.symm hne)).trans he, hb, hne, Heap.get?_update_self _ ht (Obj.isFreed_of_fields (Obj.data_mapFields hd _)), Obj.data_mapFields hd _, by simp [h3]⟩, fun b o hb hnf => ⟨o.slots, (other b (noRecord b o hb hnf)).trans hb⟩⟩
theorem Trc.set {l : List Env} {fl : Value} (R : Trc B l e T fl s.heap) (fo : Option Addr)
    (h : ∀ h', Trc B l e T (fo.elim .none fun f => rawInt f) h' → s.heap.UpToSlots h' → Q () { s with heap := h' }) : wpAny M A (setFlight (.ref e) fo) Q E s := by
  obtain ⟨t, tb, ot, ts, he, hb, hne, ht, hd, h3⟩ := R.obj
  have hsz : 3 < ts.size := (Array.getElem?_eq_some_iff.mp h3).1
  unfold setFlight
  refine wpAny_bind (wpAny_field he rfl (x := .ref tb) rfl ?_)
  rw [if_pos (show (Value.ref tb != Value.none) = true from by simp)]
  obtain ⟨R', U'⟩ := R.turn (fl' := fo.elim .none fun f => rawInt f) he hb hne ht hd hsz
  exact wpAny_setField ht hd hsz (h _ R' U')
theorem XSt.note (x : XSt B (env :: outer) L e T s.heap) (hfr : A.frames = some (env :: outer)) (hf : env.frame = some L)
    (h : ∀ h', Trc B (env :: outer) e T (rawInt L) h' → s.heap.UpToSlots h' → Q () { s with heap := h' }) : wpAny M A (noteFrame (.ref e) env) Q E s := by
  cases x with
  | made h₀ args hk hl m =>
    obtain ⟨t, he, htn, ht⟩ := m.there
    have fresh : ∀ b, h₀.get? b = none → B.get? b = none := fun b hb => by
      cases hq : B.get? b with
      | none => rfl
      | some o' => have := hk b o' hq; rw [hb] at this; cases this
    unfold noteFrame
    simp only [hf]
    refine wpAny_bind (wpAny_field he rfl (x := .none) rfl ?_)
    rw [if_neg (by decide)]
    exact entry_step (t := t) (x := .none) hfr hf (hl.of_keeps fun b o hb _ => ⟨o, m.keeps b o hb, rfl⟩) he (fun b o hb => m.keeps b o (hk b o hb)) (fresh e m.new) h
  | trc fl hfl f =>
    obtain ⟨t, tb, ot, ts, he, hb, hne, ht, hd, h3⟩ := f.obj
    have hsz : 3 < ts.size := (Array.getElem?_eq_some_iff.mp h3).1
    unfold noteFrame
    simp only [hf]
    refine wpAny_bind (wpAny_field he rfl (x := .ref tb) rfl ?_)
    rw [if_pos (show (Value.ref tb != Value.none) = true from by simp)]
    refine wpAny_bind (wpAny_field ht hd h3 ?_)
    rcases hfl with rfl | rfl
    · rw [if_neg (show ¬ ((Value.none == rawInt L) = true) from by simp [rawInt])]
      obtain ⟨R', U'⟩ := f.turn (fl' := .none) he hb hne ht hd hsz
      refine wpAny_bind (wpAny_setField ht hd hsz ?_)
      obtain ⟨t', tb', _, _, he', _⟩ := R'.obj
      exact entry_step (t := t') (x := .ref tb') hfr hf R'.frames he' R'.stays R'.fresh fun h' r u => h h' r (U'.trans u)
    · rw [if_pos (show (rawInt L == rawInt L) = true from by simp)]
      exact wpAny_pure (h _ f (.refl _))
theorem XSt.leave (x : XSt B (env :: outer) L e T s.heap) (hfr : A.frames = some (env :: outer)) (hf : env.frame = some L)
    (h : ∀ h', Trc B outer e T .none h' → s.heap.UpToSlots h' → Q () { s with heap := h' }) : wpAny M A (leaving env (.ref e)) Q E s := by
  unfold leaving
  refine wpAny_bind (x.note hfr hf fun h₁ f u => f.set none fun h₂ f₂ u₂ => ?_)
  obtain ⟨k1, k2, ⟨_, _, k3⟩, k4⟩ := f₂
  exact h h₂ ⟨k1, k2, k3, k4⟩ (u.trans u₂)
/-- a suite's own code lets it through -/
theorem XSt.pass {E' : Value → Shared → Prop} (x : XSt B (env :: outer) L e T s.heap) (hfr : A.frames = some (env :: outer)) (hf : env.frame = some L)
    (h : ∀ h', XSt B (env :: outer) L e T h' → s.heap.UpToSlots h' → E' (.ref e) { s with heap := h' }) : notedBy M A env (cameBackBy M A env E') (.ref e) s := by
  unfold notedBy
  refine x.note hfr hf fun h₁ f u => ?_
  unfold cameBackBy
  obtain ⟨t, tb, ot, ts, he, _⟩ := f.obj
  refine wpAny_bind (wpAny_field he rfl (x := .ref tb) rfl ?_)
  rw [if_neg (show ¬ ((Value.ref tb == Value.none) = true) from by simp)]
  rw [hf]
  exact f.set (some L) fun h₂ f₂ u₂ => h h₂ (.trc _ (.inr rfl) f₂) (u.trans u₂)
end
end Mine

namespace Mine
open PySem PyProof.Rows PySem.W

/-- an exception has come out of a call -/
inductive PostX (C : Cx) (st : List Env) (ν : Nu) (s : Shared) (X : Addr → Nu → Prop) (v : Value) (s' : Shared) : Prop
  | mk (e T : Addr) (ν' : Nu) (B : Heap) (ev : v = .ref e) (f : Trc B st e T .none s'.heap) (R : Ref C ν' B)
     (keep : ∀ b o, s.heap.get? b = some o → ν b = none → (∀ e0 ∈ st, b ≠ e0.locals) → ∃ o', B.get? b = some o' ∧ Lk o o')
     (up : ∀ e0 ∈ st, ∀ o, s.heap.get? e0.locals = some o → ∃ sl, s'.heap.get? e0.locals = some { o with slots := sl })
     (dom : ∀ b o, s.heap.get? b = some o → ν b = none → ν' b = none)
     (eq : ∃ h' t', s' = { s with heap := h', toks := t' }) (q : X T ν') : PostX C st ν s X v s'
/-- an exception is on its way in a frame; s₀: where the frame stood last -/
inductive PostXS (C : Cx) (env : Env) (sc : Scope) (outer : List Env) (ν : Nu) (s : Shared) (X : Addr → Loc → Nu → Prop) (v : Value) (s' : Shared) : Prop
  | mk (e T : Addr) (l' : Loc) (ν₀ ν' : Nu) (s₀ : Shared) (B : Heap) (ev : v = .ref e) (x : XSt B (env :: outer) env.locals e T s'.heap) (R₀ : Ref C ν₀ s₀.heap) (F₀ : Frm C env sc l' ν₀ s₀.heap) (R : Ref C ν' B)
     (y : Fro1 (fr env) ν ν₀ s s₀)
     (keep : ∀ b o, s₀.heap.get? b = some o → ν₀ b = none → (∀ e0 ∈ env :: outer, b ≠ e0.locals) → ∃ o', B.get? b = some o' ∧ Lk o o')
     (up : ∀ e0 ∈ env :: outer, ∀ o, s₀.heap.get? e0.locals = some o → ∃ sl, s'.heap.get? e0.locals = some { o with slots := sl })
     (dom : ∀ b o, s₀.heap.get? b = some o → ν₀ b = none → ν' b = none)
     (eq : ∃ h' t', s' = { s₀ with heap := h', toks := t' }) (q : X T l' ν') : PostXS C env sc outer ν s X v s'

section
variable {C : Cx} {n : Nat} {sc : Scope} {l : Loc} {ν : Nu} {env : Env} {outer : List Env}
theorem PostXS.after {ν₁ : Nu} {s s₁ s' : Shared} {X : Addr → Loc → Nu → Prop} {v : Value} (x : Fro1 (fr env) ν ν₁ s s₁) (p : PostXS C env sc outer ν₁ s₁ X v s') : PostXS C env sc outer ν s X v s' :=
  let ⟨e, T, l', ν₀, ν', s₀, B, a1, a2, a3, a4, a5, y, a6, a7, a8, a9, q⟩ := p; ⟨e, T, l', ν₀, ν', s₀, B, a1, a2, a3, a4, a5, x.trans y, a6, a7, a8, a9, q⟩
theorem PostXS.mono {s s' : Shared} {X X' : Addr → Loc → Nu → Prop} {v : Value} (p : PostXS C env sc outer ν s X v s') (h : ∀ T l' ν', X T l' ν' → X' T l' ν') : PostXS C env sc outer ν s X' v s' :=
  let ⟨e, T, l', ν₀, ν', s₀, B, a1, a2, a3, a4, a5, y, a6, a7, a8, a9, q⟩ := p; ⟨e, T, l', ν₀, ν', s₀, B, a1, a2, a3, a4, a5, y, a6, a7, a8, a9, h _ _ _ q⟩
theorem PostX.toS {s s' : Shared} {X : Addr → Nu → Prop} {v : Value} (p : PostX C (env :: outer) ν s X v s') (R : Ref C ν s.heap) (F : Frm C env sc l ν s.heap) : PostXS C env sc outer ν s (fun T l' ν' => l' = l ∧ X T ν') v s' :=
  let ⟨e, T, ν', B, a1, f, a2, k, u, d, q1, q⟩ := p; ⟨e, T, l, ν, ν', s, B, a1, .trc _ (.inl rfl) f, R, F, a2, .refl, k, u, d, q1, rfl, q⟩

noncomputable def GE (C : Cx) (n : Nat) (sc : Scope) (e : Expr) (l : Loc) (ν : Nu) (Q : D → Nu → Prop) (X : Addr → Nu → Prop) : Prop :=
  ∀ A env outer s, At C n A env outer ν s.heap → Ref C ν s.heap → Frm C env sc l ν s.heap → wpAny (model C.prog C.w) A (eval e env) (PostV1 C ν s Q) (PostXS C env sc outer ν s (fun T l' ν' => l' = l ∧ X T ν')) s
noncomputable def GB (C : Cx) (n : Nat) (sc : Scope) (e : Expr) (l : Loc) (ν : Nu) (Q : Bool → Nu → Prop) (X : Addr → Nu → Prop) : Prop :=
  ∀ A env outer s, At C n A env outer ν s.heap → Ref C ν s.heap → Frm C env sc l ν s.heap → wpAny (model C.prog C.w) A (isTrue e env (eval e env)) (PostB1 C ν s Q) (PostXS C env sc outer ν s (fun T l' ν' => l' = l ∧ X T ν')) s
noncomputable def GS (C : Cx) (n : Nat) (sc : Scope) (st : Stmt) (l : Loc) (ν : Nu) (Q : Fl → Loc → Nu → Prop) (X : Addr → Loc → Nu → Prop) : Prop :=
  ∀ A env outer s, At C n A env outer ν s.heap → Ref C ν s.heap → Frm C env sc l ν s.heap → wpAny (model C.prog C.w) A (exec st env) (PostS1 C env sc ν s Q) (PostXS C env sc outer ν s X) s
noncomputable def GSs (C : Cx) (n : Nat) (sc : Scope) (st : List Stmt) (l : Loc) (ν : Nu) (Q : Fl → Loc → Nu → Prop) (X : Addr → Loc → Nu → Prop) : Prop :=
  ∀ A env outer s, At C n A env outer ν s.heap → Ref C ν s.heap → Frm C env sc l ν s.heap → wpAny (model C.prog C.w) A (execs st env) (PostS1 C env sc ν s Q) (PostXS C env sc outer ν s X) s
noncomputable def GC (C : Cx) (n : Nat) (f : Value) (ds : List D) (ν : Nu) (Q : D → Nu → Prop) (X : Addr → Nu → Prop) : Prop :=
  ∀ A st s vs, Aok C n A → A.frames = some st → Stk C ν s.heap st → Ref C ν s.heap → C.base.objs.size ≤ s.heap.objs.size → RVs s.heap vs ds → wpAny (model C.prog C.w) A (call f vs) (PostV1 C ν s Q) (PostX C st ν s X) s
noncomputable def GK (C : Cx) (n : Nat) (f : Value) (ds : List D) (ν : Nu) (Q : D → Nu → Prop) (X : Addr → Nu → Prop) : Prop :=
  ∀ A st s vs, Aok C n A → A.frames = some st → Stk C ν s.heap st → Ref C ν s.heap → C.base.objs.size ≤ s.heap.objs.size → RVs s.heap vs ds → codeAny (model C.prog C.w) A (.call f ⟨vs, []⟩) (fun r s' => match r with | .ok (.ret v) => PostV1 C ν s Q v s' | .ok _ => False | .error e => PostX C st ν s X e s') s
noncomputable def GN (C : Cx) (n : Nat) (x : Str) (ds : List D) (ν : Nu) (Q : D → Nu → Prop) (X : Addr → Nu → Prop) : Prop := ∀ f, C.mg x = some (.ref f) → GK C n (.ref f) ds ν Q X

variable {Q : D → Nu → Prop} {X : Addr → Nu → Prop}
-- plain steps
theorem GB_low {e : Expr} {Q : Bool → Nu → Prop} (h : TB C n sc e l ν Q) : GB C n sc e l ν Q X := fun A env outer s a R F => wpAny_mono (h A env s a.ok R F) (fun _ _ p => p.to1) fun _ _ x => x.elim
theorem GS_low {st : Stmt} {Q : Fl → Loc → Nu → Prop} {X : Addr → Loc → Nu → Prop} (h : TS C n sc st l ν Q) : GS C n sc st l ν Q X := fun A env outer s a R F => wpAny_mono (h A env s a.ok R F) (fun _ _ p => p.to1) fun _ _ x => x.elim
theorem GSs_low {st : List Stmt} {Q : Fl → Loc → Nu → Prop} {X : Addr → Loc → Nu → Prop} (h : TSs C n sc st l ν Q) : GSs C n sc st l ν Q X := fun A env outer s a R F => wpAny_mono (h A env s a.ok R F) (fun _ _ p => p.to1) fun _ _ x => x.elim
theorem GC_of {f : Value} {ds : List D} (h : GK C n f ds ν Q X) : GC C n f ds ν Q X := fun A st s vs hA hf hs R hz hv => wpAny_call (h A st s vs hA hf hs R hz hv)

-- suites
abbrev NxtG (C : Cx) (n : Nat) (sc : Scope) (rest : List Stmt) (Q : Fl → Loc → Nu → Prop) (X : Addr → Loc → Nu → Prop) (fl : Fl) (l₁ : Loc) (ν₁ : Nu) : Prop := match fl with
  | .next => GSs C n sc rest l₁ ν₁ Q X
  | fl => Q fl l₁ ν₁
theorem GSs_cons {st : Stmt} {rest : List Stmt} {Q : Fl → Loc → Nu → Prop} {X : Addr → Loc → Nu → Prop} (h : GS C n sc st l ν (NxtG C n sc rest Q X) X) : GSs C n sc (st :: rest) l ν Q X := by
  intro A env outer s a R F
  refine wpAny_execs_cons (wpAny_mono (h A env outer s a R F) ?_ fun _ _ x => x)
  rintro f s₁ ⟨fl, l₁, ν₁, hf, R₁, F₁, x₁, hq⟩
  cases hf with
  | next => exact wpAny_mono (hq A env outer s₁ (a.fro1 x₁) R₁ F₁) (fun _ _ p => p.after x₁) fun _ _ p => p.after x₁
  | brk => exact ⟨.brk, l₁, ν₁, .brk, R₁, F₁, x₁, hq⟩
  | cont => exact ⟨.cont, l₁, ν₁, .cont, R₁, F₁, x₁, hq⟩
  | ret r => exact ⟨.ret _, l₁, ν₁, .ret r, R₁, F₁, x₁, hq⟩
theorem GS_expr {e : Expr} {pos} {Q : Fl → Loc → Nu → Prop} {X : Addr → Loc → Nu → Prop} (h : GE C n sc e l ν (fun _ ν₁ => Q .next l ν₁) (fun T ν' => X T l ν')) (hs : ∀ env, swapsWith e none pos.line env = pure false) : GS C n sc (.Expr e pos) l ν Q X := by
  intro A env outer s a R F
  refine wpAny_Expr_any (wpAny_mono (h A env outer s a R F) ?_ fun _ _ p => p.mono fun T l' ν' q => by rw [q.1]; exact q.2) ?_ (hs env)
  · rintro v s₁ ⟨d, ν₁, hv, R₁, x₁, hq⟩
    exact ⟨.next, l, ν₁, .next, R₁, F.fro1 R x₁, x₁.toFr, hq⟩
  · unfold interactive; rw [F.scope, F.kind]; rfl
theorem GS_ret {e : Expr} {pos} {Q : Fl → Loc → Nu → Prop} {X : Addr → Loc → Nu → Prop} (h : GE C n sc e l ν (fun d ν₁ => Q (.ret d) l ν₁) (fun T ν' => X T l ν')) : GS C n sc (.Return (some e) pos) l ν Q X := by
  intro A env outer s a R F
  refine wpAny_Return_some (wpAny_mono (h A env outer s a R F) ?_ fun _ _ p => p.mono fun T l' ν' q => by rw [q.1]; exact q.2)
  rintro v s₁ ⟨d, ν₁, hv, R₁, x₁, hq⟩
  exact ⟨.ret d, l, ν₁, .ret hv, R₁, F.fro1 R x₁, x₁.toFr, hq⟩
theorem GS_assign {x : Str} {pos' pos} {value : Expr} {Q : Fl → Loc → Nu → Prop} {X : Addr → Loc → Nu → Prop} (h : GE C n sc value l ν (fun d ν₁ => Q .next (put l x d) ν₁) (fun T ν' => X T l ν')) (hx : storable sc x)
    (hs : ∀ env, swapsWith value (some (.Name x pos')) pos.line env = pure false) : GS C n sc (.Assign [.Name x pos'] value pos) l ν Q X := by
  intro A env outer s a R F
  refine wpAny_Assign_Name (wpAny_mono (h A env outer s a R F) ?_ fun _ _ p => p.mono fun T l' ν' q => by rw [q.1]; exact q.2) (hs env)
  rintro v s₁ ⟨d, ν₁, hv, R₁, x₁, hq⟩
  exact store_name R₁ (F.fro1 R x₁) hx hv fun s' R' F' X' => ⟨.next, _, ν₁, .next, R', F', x₁.toFr.trans X'.to1, hq⟩
theorem GS_if {test : Expr} {body orelse : List Stmt} {pos} {Q : Fl → Loc → Nu → Prop} {X : Addr → Loc → Nu → Prop} (h : GB C n sc test l ν (fun b ν₁ => if b = true then GSs C n sc body l ν₁ Q X else GSs C n sc orelse l ν₁ Q X) (fun T ν' => X T l ν')) : GS C n sc (.If test body orelse pos) l ν Q X := by
  intro A env outer s a R F
  refine wpAny_If (wpAny_mono (h A env outer s a R F) ?_ fun _ _ p => p.mono fun T l' ν' q => by rw [q.1]; exact q.2)
  rintro b s₁ ⟨ν₁, R₁, x₁, hq⟩
  cases b
  · exact wpAny_mono ((by simpa using hq : GSs C n sc orelse l ν₁ Q X) A env outer s₁ (a.fro1 x₁.toFr) R₁ (F.fro1 R x₁)) (fun _ _ p => p.after x₁.toFr) fun _ _ p => p.after x₁.toFr
  · exact wpAny_mono ((by simpa using hq : GSs C n sc body l ν₁ Q X) A env outer s₁ (a.fro1 x₁.toFr) R₁ (F.fro1 R x₁)) (fun _ _ p => p.after x₁.toFr) fun _ _ p => p.after x₁.toFr
-- tests
/-- 'and' whose last part may raise -/
theorem GE_and {e f : Expr} {pos} (h : TE C n sc e l ν (fun d ν₁ => TT C n d ν₁ (fun b ν₂ => if b = true then GE C n sc f l ν₂ Q X else Q d ν₂))) : GE C n sc (.BoolOp .And [e, f] pos) l ν Q X := by
  intro A env outer s a R F
  show wpAny _ A (eval e env >>= fun v => standAt pos >>= fun _ => holding [v] (truthy v) >>= fun t => match BoolOp.And, t with | .And, false | .Or, true => pure v | _, _ => boolOp pos .And (evalEach [f] env)) _ _ s
  refine wpAny_bind (wpAny_mono (h A env s a.ok R F) ?_ fun _ _ x => x.elim)
  rintro v s₁ ⟨d, ν₁, hv, R₁, x₁, hq⟩
  refine wpAny_bind (wpAny_standAt (wpAny_bind (wpAny_holding (wpAny_mono (hq A s₁ v a.ok R₁ (F.fro R x₁).baseLe hv) ?_ fun _ _ x => x.elim))))
  rintro b s₂ ⟨ν₂, R₂, x₂, hq2⟩
  cases b
  · exact wpAny_pure ⟨d, ν₂, hv.fro R₁ x₂, R₂, (x₁.trans x₂).to1, by simpa using hq2⟩
  · exact wpAny_mono ((by simpa using hq2 : GE C n sc f l ν₂ Q X) A env outer s₂ (a.fro1 (x₁.trans x₂).to1.toFr) R₂ ((F.fro R x₁).fro R₁ x₂)) (fun _ _ p => p.after (x₁.trans x₂).to1) fun _ _ p => p.after (x₁.trans x₂).to1.toFr

-- calls
theorem GE_callN {x : Str} {p pos : Pos} {args : List Expr} (hk : sc.names.lookup x = some .globalImplicit) (hf : IsFn C x)
    (h : TL C n sc args l ν (fun ds ν₁ => GN C n x ds ν₁ Q X)) (hx : (x == ("__debug__" : Str)) = false) (hst : noSt args = true) : GE C n sc (.Call (.Name x p) args [] pos) l ν Q X := by
  intro A env outer s a R F
  obtain ⟨f, hf, o, fd, ho, hd⟩ := hf
  show wpAny _ A (eval (.Name x p) env >>= fun f => callWith pos f [] (backTo pos (starEach args env)) (backToKw pos (keywordEach [] env))) _ _ s
  refine wpAny_bind (wpAny_mono (TE_glob (C := C) (n := n) (Q := fun d ν' => d = .val (.ref f) ∧ ν' = ν) hk (.inl hf) ⟨rfl, rfl⟩ hx A env s a.ok R F) ?_ fun _ _ x => x.elim)
  rintro v s₁ ⟨d, ν₁, hv, R₁, x₁, rfl, rfl⟩
  cases hv
  have F₁ := F.fro R x₁
  have a₁ := a.fro1 x₁.to1.toFr
  refine Calls.callWith_function (o := o) (fd := fd) (evalArgs_any hst (wpAny_mono (h A env s₁ pos a.ok R₁ F₁) ?_ fun _ _ x => x.elim))
  rintro vs s₂ ⟨ds, ν₂, hvs, R₂, x₂, hq⟩
  have F₂ := F₁.fro R₁ x₂
  have a₂ := a₁.fro1 x₂.to1.toFr
  exact ⟨⟨R₂.keep _ _ (C.inK _ _ ho), hd⟩, wpAny_mono (GC_of (hq f hf) A (env :: outer) s₂ vs a.ok a.frames (a₂.all F₂) R₂ F₂.baseLe hvs) (fun _ _ p => p.after (x₁.trans x₂).to1) fun _ _ p => (p.toS R₂ F₂).after (x₁.trans x₂).to1.toFr⟩
end
end Mine

namespace Mine
open PySem PyProof.Rows PySem.W
section
variable {C : Cx} {n : Nat} {sc : Scope} {l : Loc} {ν : Nu} {env : Env} {outer : List Env} {Q : D → Nu → Prop} {X : Addr → Nu → Prop}
theorem GK_def {f : Addr} {names : List Str} {body : List Stmt} {ds : List D} (I : IsDef C f names body sc) (hlen : ds.length = names.length)
    (h : GSs C n sc body (names.zip ds) ν (FunK Q) (fun T _ ν' => X T ν')) : GK C (n + 1) (.ref f) ds ν Q X := by
  intro A st s vs hA hfs hst R hz hv
  obtain ⟨⟨o, fd, ho, hd, hb, hc, hg, hbl, rfl, hcd, hbind⟩, co, gen, kind, nd, kinds⟩ := I
  have ho' := R.keep _ _ (C.inK _ _ ho)
  have hfc : ∀ x, fd.scope.names.lookup x = some .cell → ∃ c, (cellsFrom (s.heap.objs.size + 1) fd.scope.names []).lookup x = some c := fun x hx => cellsFrom_has _ _ _ (.inl hx)
  refine (codeAny_call_cells hA.room ho' hd (C.nolimit.keeps R.keep) (hcd.keeps R.keep) hb (hbind vs (hv.length.trans hlen)) hc (fun x hx => ?_) (fun s₁ X => ?_) co gen kind)
  · have hm : x.1 ∈ names := (List.of_mem_zip hx).1
    rcases kinds _ hm with q | q
    · exact .inl q
    · obtain ⟨c, e⟩ := hfc _ q; exact .inr ⟨q, by rw [e]; rfl⟩
  · obtain ⟨h₁, t₁, rfl⟩ := X.toInCall.same
    have k : ∀ b o, s.heap.get? b = some o → h₁.get? b = some o := X.toInCall.keep
    have kt : TupKeep s.heap h₁ := fun a o e _ => k a o e
    have R₁ : Ref C ν h₁ := ⟨fun b o e => k b o (R.keep b o e), fun a o e => by
      obtain ⟨ob, hob, _⟩ := (R.at_ a o e).get
      exact (R.at_ a o e).keep kt ((k _ _ hob).trans hob.symm), R.own⟩
    have nnone : ∀ b, s.heap.objs.size ≤ b → ν b = none := fun b hb => by
      cases q : ν b with
      | none => rfl
      | some o => exact absurd (R.at_ _ _ q).lt (Nat.not_lt.mpr hb)
    have ab : ∀ x c, (callEnvC fd s.heap.objs.size f).cells.lookup x = some c → s.heap.objs.size < c := fun x c e => X.above x c (mem_of_lookup e)
    have F₁ : Frm C (callEnvC fd s.heap.objs.size f) fd.scope (names.zip ds) ν h₁ := by
      refine ⟨rfl, kind, hg, hbl, ⟨_, X.toInCall.ns, fun x d e hk => ?_⟩, fun x c hc => ⟨_, X.cell x c hc, fun d e hk => ?_⟩, fun x d e => ?_, fun x hx => hfc x hx, nnone _ (Nat.le_refl _), fun x c e => nnone _ (Nat.le_of_lt (ab x c e)), fun x y c e1 e2 => ?_, hz, fun x c e => Nat.le_trans hz (Nat.le_of_lt (ab x c e))⟩
      · exact bindL_in _ names vs ds _ x d nd (hv.keep kt) e hk
      · exact bindC_in _ names vs ds _ x d nd (hv.keep kt) e hk
      · rcases kinds x (lk_zip_mem _ _ _ _ e) with q | q
        · exact .inl q
        · exact .inr ⟨.inl q, hfc x q⟩
      · exact name_of_addr X.apart (mem_of_lookup e1) (mem_of_lookup e2)
    have notFr : ∀ b o, s.heap.get? b = some o → ¬ fr (callEnvC fd s.heap.objs.size f) b := by
      rintro b o e (rfl | ⟨x, hx⟩)
      · exact Nat.lt_irrefl _ (Heap.lt_size e)
      · exact Nat.lt_irrefl _ (Nat.lt_trans (Heap.lt_size e) (ab x b hx))
    have sep : ∀ e0 ∈ st, ¬ fr (callEnvC fd s.heap.objs.size f) e0.locals := fun e0 he => by
      obtain ⟨_, _, _, _, o, _, _, ho, _⟩ := hst e0 he
      exact notFr _ o ho
    have a₁ : At C n (A.deeper (callEnvC fd s.heap.objs.size f)) (callEnvC fd s.heap.objs.size f) st ν h₁ := ⟨hA.deeper _, Around.frames_deeper hfs, rfl, sep, fun e0 he => by
      obtain ⟨k1, k2, k3, k4, o, es, m, ho, hd⟩ := hst e0 he
      exact ⟨k1, k2, k3, k4, o, es, m, k _ _ ho, hd⟩⟩
    refine wpAny_mono (h _ _ st _ a₁ R₁ F₁) ?_ ?_
    · rintro fl s' ⟨fl', l', ν', hf, R', F', x', q⟩
      obtain ⟨h2, t2, rfl⟩ := x'.eq
      have X' : Fro1 no ν ν' s { s with heap := h2, toks := t2 } := ⟨⟨h2, t2, rfl⟩, fun b o e hn _ => x'.keep b o (k b o e) hn (notFr b o e), fun b o e hn => x'.alive b o (k b o e) hn, fun b o e hn => x'.dom b o (k b o e) hn⟩
      cases hf with
      | ret r => exact ⟨_, ν', r, R', X', q⟩
      | next => exact ⟨.none, ν', .none, R', X', q⟩
      | brk => exact ⟨.none, ν', .none, R', X', q⟩
      | cont => exact ⟨.none, ν', .none, R', X', q⟩
    · rintro v s' ⟨e, T, l', ν₀, ν', s₀, B, rfl, x, R₀, F₀, RB, y, kp, up, dm, ⟨h', t', rfl⟩, q⟩
      obtain ⟨h0, t0, rfl⟩ := y.eq
      refine x.leave a₁.frames rfl fun h'' fl us => ?_
      refine ⟨e, T, ν', B, rfl, fl, RB, fun b o eb hn hne => ?_, fun e0 he o eo => ?_, fun b o eb hn => ?_, ⟨_, _, rfl⟩, q⟩
      · obtain ⟨o', e', lk⟩ := y.keep b o (k b o eb) hn (notFr b o eb)
        obtain ⟨o'', e'', lk'⟩ := kp b o' e' (y.dom b o (k b o eb) hn) fun e1 h1 => by
          rcases List.mem_cons.mp h1 with rfl | h1
          · exact fun z => notFr b o eb (.inl z)
          · exact hne e1 h1
        exact ⟨o'', e'', lk.trans lk'⟩
      · obtain ⟨k1, k2, k3, k4, o1, es, m, ho1, hd1⟩ := hst e0 he
        rw [eo] at ho1; cases ho1
        obtain ⟨o', e', lk⟩ := y.keep _ o (k _ o eo) k4 (sep e0 he)
        obtain ⟨sl, es'⟩ := up e0 (.tail _ he) o' e'
        obtain ⟨sl2, e2⟩ := us _ _ es' (fun vs z => by
          have z : o'.data = .fields vs := z
          rw [lk.data, hd1] at z; cases z)
        obtain ⟨⟨s1, rfl⟩, _⟩ := lk
        exact ⟨sl2, e2⟩
      · obtain ⟨o', e'⟩ := y.alive b o (k b o eb) hn
        exact dm b o' e' (y.dom b o (k b o eb) hn)
theorem GN_def {x : Str} {names : List Str} {body : List Stmt} {ds : List D} (I : DefN C x names body sc) (hlen : ds.length = names.length)
    (h : GSs C n sc body (names.zip ds) ν (FunK Q) (fun T _ ν' => X T ν')) : GN C (n + 1) x ds ν Q X := by
  intro f hf
  obtain ⟨f', hf', I⟩ := I
  rw [hf] at hf'; cases hf'
  exact GK_def I hlen h

/-- the heap without the frames -/
theorem Ref.hide {h : Heap} {st : List Env} (R : Ref C ν h) (S : Stk C ν h st) : Ref C ν (hideAll h (st.map (·.locals))) := by
  have hm : ∀ b, b ∈ st.map (·.locals) → ∃ e ∈ st, e.locals = b := fun b hb => by simpa using hb
  have kt : TupKeep h (hideAll h (st.map (·.locals))) := fun a o e hi => hideAll_get _ e fun q => by
    obtain ⟨e0, he, rfl⟩ := hm a q
    obtain ⟨_, _, _, _, o', es, m, ho, hd⟩ := S e0 he
    rw [e] at ho; cases ho
    exact hi.noDict _ _ hd
  refine ⟨fun b o e => hideAll_get _ (R.keep b o e) fun q => ?_, fun a o e => ?_, R.own⟩
  · obtain ⟨e0, he, rfl⟩ := hm b q
    rw [(S e0 he).base] at e; cases e
  · obtain ⟨ob, hob, _⟩ := (R.at_ a o e).get
    refine (R.at_ a o e).keep kt ((hideAll_get _ hob fun q => ?_).trans hob.symm)
    obtain ⟨e0, he, rfl⟩ := hm a q
    rw [(S e0 he).nu] at e; cases e
/-- raise of a class of the text -/
theorem GS_raise {x : Str} {np cpos pos : Pos} {args : List Expr} {T : Addr} {bm : List Value} {newId B initId : String} {Q : Fl → Loc → Nu → Prop} {X : Addr → Loc → Nu → Prop} (hN : C.hd = none) (O : OwnCls x T bm newId C.mg C.base) (FB : ExcBaseFacts B newId initId bm)
    (hk : sc.names.lookup x = some .globalImplicit) (hx : (x == ("__debug__" : Str)) = false) (hst : noSt args = true)
    (h : TL C n sc args l ν (fun ds ν₁ => ds.length ≤ 1000 ∧ X T l ν₁)) : GS C n sc (.Raise (some (.Call (.Name x np) args [] cpos)) none pos) l ν Q X := by
  intro A env outer s a R F
  obtain ⟨tl, N, nm, q, bs, hdct, sn, sub, ab, col, dd, k0, k1, k2, k3, k5, mN, hC, hNs, hni, TT⟩ := O.obj
  refine wpAny_Raise_call_subT (C := T) (nm := nm) (q := q) (N := N) (bs := bs) (bm := tl) (hdct := hdct) (sn := sn) (sub := sub) (ab := ab) (col := col) (dd := dd) (k0 := k0) (k1 := k1) (k2 := k2) (k3 := k3) (k5 := k5)
    FB (mN := mN) (TT.hasType FB.hasBase) (a.ok.1.trans hN) (noSt_any hst _ _) hni ?_
  refine wpAny_mono (TE_glob (C := C) (n := n) (Q := fun d ν' => d = .val (.ref T) ∧ ν' = ν) hk (.inl O.bound) ⟨rfl, rfl⟩ hx A env s a.ok R F) ?_ fun _ _ x => x.elim
  rintro v s₁ ⟨d, ν₁, hv, R₁, x₁, rfl, rfl⟩
  cases hv
  refine ⟨rfl, ?_⟩
  have F₁ := F.fro R x₁
  refine evalArgs_any hst (wpAny_mono (h A env s₁ cpos a.ok R₁ F₁) ?_ fun _ _ x => x.elim)
  rintro vs s₂ ⟨ds, ν₂, hvs, R₂, x₂, hq⟩
  have F₂ := F₁.fro R₁ x₂
  have a₂ := (a.fro1 x₁.to1.toFr).fro1 x₂.to1.toFr
  have S₂ := a₂.all F₂
  have hlen : vs.length ≤ sizeLine := by rw [hvs.length, sizeLine_eq]; exact Nat.le_trans hq.1 (by decide)
  refine ⟨rfl, hlen, R₂.keep _ _ hC, hNs.keeps R₂.keep, TT.keeps R₂.keep, fun h' e hm => ?_⟩
  have nin : ∀ e0 ∈ env :: outer, (hideAll s₂.heap ((env :: outer).map (·.locals))).get? e0.locals = none := fun e0 he => hideAll_none _ (List.mem_map.mpr ⟨e0, he, rfl⟩)
  refine ⟨e, T, l, ν₂, ν₂, s₂, hideAll s₂.heap ((env :: outer).map (·.locals)), rfl, .made s₂.heap vs (fun b o z => of_hideAll _ z) (S₂.funFrames nin) hm, R₂, F₂, R₂.hide S₂, (x₁.trans x₂).to1.toFr, fun b o eb _ hne => ⟨o, hideAll_get _ eb fun z => ?_, .refl o⟩, fun e0 he o eo => ⟨o.slots, hm.keeps _ _ eo⟩, fun _ _ _ z => z, ⟨_, _, rfl⟩, hq.2⟩
  obtain ⟨e0, he, z⟩ := List.mem_map.mp z
  exact hne e0 he z.symm
end
end Mine

namespace Mine
open PySem PyProof.Rows PySem.W
section
variable {C : Cx} {n : Nat} {sc : Scope} {l : Loc} {ν : Nu} {env : Env} {outer : List Env}
theorem PostXS.pass {M : Model} {A : Around} {s s' : Shared} {X : Addr → Loc → Nu → Prop} {v : Value} (a : At C n A env outer ν s.heap) (p : PostXS C env sc outer ν s X v s') : notedBy M A env (cameBackBy M A env (PostXS C env sc outer ν s X)) v s' := by
  obtain ⟨e, T, l', ν₀, ν', s₀, B, rfl, x, R₀, F₀, RB, y, kp, up, dm, ⟨h', t', rfl⟩, q⟩ := p
  have S₀ := (a.fro1 y).all F₀
  refine x.pass a.frames a.frame fun h'' x'' us => ⟨e, T, l', ν₀, ν', s₀, B, rfl, x'', R₀, F₀, RB, y, kp, fun e0 he o eo => ?_, dm, ⟨_, _, rfl⟩, q⟩
  obtain ⟨_, _, _, _, o1, es, m, ho, hd⟩ := S₀ e0 he
  rw [eo] at ho; cases ho
  obtain ⟨sl, e1⟩ := up e0 he o eo
  obtain ⟨sl2, e2⟩ := us _ _ e1 fun vs z => by
    have z : o.data = .fields vs := z
    rw [hd] at z; cases z
  exact ⟨sl2, e2⟩
theorem Fro1.iter {own : Addr → Prop} {ν₁ : Nu} {s s₁ : Shared} {I : Addr} {h' : Heap} {t : Nat} (x : Fro1 own ν ν₁ s s₁) (hI : s.heap.get? I = none) (k : ∀ b o, b ≠ I → s₁.heap.get? b = some o → h'.get? b = some o) : Fro1 own ν ν₁ s { s₁ with heap := h', toks := t } := by
  obtain ⟨⟨h1, t1, rfl⟩, a, b, c⟩ := x
  have ne : ∀ b o, s.heap.get? b = some o → b ≠ I := fun b o e q => by rw [q, hI] at e; cases e
  exact ⟨⟨h', t, rfl⟩, fun b o e hn ho => let ⟨o', e', k'⟩ := a b o e hn ho; ⟨o', k b o' (ne b o e) e', k'⟩, fun p o e hn => let ⟨o', e'⟩ := b p o e hn; ⟨o', k p o' (ne p o e) e'⟩, c⟩
inductive ForG (C : Cx) (env : Env) (sc : Scope) (ν : Nu) (s : Shared) (I : Addr) (N : Nat) (At : Nat → Obj → Prop) (J : Nat → Loc → Nu → Prop) (k : Nat) (s' : Shared) : Prop
  | mk (i : Nat) (l' : Loc) (ν' : Nu) (o : Obj) (hk : k = N - i) (hi : i ≤ N) (R : Ref C ν' s'.heap) (F : Frm C env sc l' ν' s'.heap) (x : Fro1 (fr env) ν ν' s s') (hn : ν' I = none) (hI : s'.heap.get? I = some o) (hA : At i o) (hJ : J i l' ν') : ForG C env sc ν s I N At J k s'
theorem for_coreG {A : Around} {s s₂ : Shared} {I : Addr} {N : Nat} {item : Nat → D} {src : Nu → Prop} {At' : Nat → Obj → Prop} {o : Obj} {t : Expr} {body : List Stmt} {Q : Fl → Loc → Nu → Prop} {X : Addr → Loc → Nu → Prop}
    (W : ItOk C I N item src At') (nd : ∀ i o, At' i o → ∀ es n, o.data ≠ .dict es n) (a : At C n A env outer ν s.heap) (F : Frm C env sc l ν s.heap) (x : Fro no ν ν s s₂) (R₂ : Ref C ν s₂.heap) (hI : s₂.heap.get? I = some o) (hAt : At' 0 o) (hs : s.heap.get? I = none) (hν : ν I = none) (hb : C.base.objs.size ≤ I) (R : Ref C ν s.heap)
    (J : Nat → Loc → Nu → Prop) (hJ : J 0 l ν) (hsrc : ∀ i l ν, J i l ν → src ν)
    (turn : ∀ i l ν, i < N → J i l ν → TG C n sc t (item i) l ν (fun l₁ ν₁ => GSs C n sc body l₁ ν₁ (LoopK J i Q) X))
    (fin : ∀ l ν, J N l ν → Q .next l ν) :
    codeAny (model C.prog C.w) A (.forLoop t (.ref I) body [] env) (fun r s' => match r with | .ok f => PostS1 C env sc ν s Q f s' | .error e => cameBackBy (model C.prog C.w) A env (PostXS C env sc outer ν s X) e s') s₂ := by
  have hf : ¬ fr env I := fun q => by obtain ⟨o', e⟩ := fr_lt F q; rw [hs] at e; cases e
  refine codeAny_forLoop_any (ForG C env sc ν s I N At' J) ?_ N ⟨0, l, ν, o, by simp, Nat.zero_le _, R₂, F.fro R x, x.to1.toFr, hν, hI, hAt, hJ⟩
  rintro k s₁ ⟨i, l₁, ν₁, o₁, rfl, hi, R₁, F₁, x₁, hn₁, hI₁, hA₁, hJ₁⟩
  have nt : ∀ o, s₁.heap.get? I = some o → ¬ Imm o := fun o e => by rw [hI₁] at e; cases e; exact W.tup _ _ hA₁
  by_cases hlt : i < N
  · refine W.next A i s₁ o₁ ν₁ _ _ a.ok.1 hlt R₁ hI₁ hA₁ (hsrc _ _ _ hJ₁) fun v h' tk o' hv k hI' hA' => ?_
    have R₃ : Ref C ν₁ h' := R₁.sameBut k hn₁ hb nt
    have F₃ : Frm C env sc l₁ ν₁ h' := F₁.sameBut k hf nt
    have x₃ : Fro1 (fr env) ν ν₁ s { s₁ with heap := h', toks := tk } := x₁.iter hs k
    refine W.own A _ (i + 1) _ o' _ _ t v hI' hA' ?_
    refine wpAny_mono (turn i l₁ ν₁ hlt hJ₁ A env _ v a.ok R₃ F₃ hv) ?_ fun _ _ x => x.elim
    rintro _ s₃ ⟨l₃, ν₃, R₃, F₃, x₄, hq⟩
    have X3 := x₃.trans x₄.to1
    refine wpAny_mono (hq A env outer s₃ (a.fro1 X3) R₃ F₃) ?_ fun _ _ p => (p.after X3).pass a
    rintro f s₄ ⟨fl, l₄, ν₄, hfl, R₄, F₄, x₅, hq4⟩
    have x45 := x₄.to1.trans x₅
    have n₄ : ν₄ I = none := x45.dom I _ hI' hn₁
    have i₄ : s₄.heap.get? I = some o' := by
      obtain ⟨o'', e'', k''⟩ := x45.keep I o' hI' hn₁ hf
      rw [k''.2 (nd _ _ hA')] at e''; exact e''
    have X := x₃.trans x45
    cases hfl with
    | next => obtain ⟨l₅, hs, hJ'⟩ := hq4; exact ⟨N - (i + 1), Nat.sub_succ_lt_self N i hlt, i + 1, l₅, ν₄, o', rfl, hlt, R₄, F₄.sub hs, X, n₄, i₄, hA', hJ'⟩
    | cont => obtain ⟨l₅, hs, hJ'⟩ := hq4; exact ⟨N - (i + 1), Nat.sub_succ_lt_self N i hlt, i + 1, l₅, ν₄, o', rfl, hlt, R₄, F₄.sub hs, X, n₄, i₄, hA', hJ'⟩
    | brk => exact ⟨.next, l₄, ν₄, .next, R₄, F₄, X, hq4⟩
    | ret r => exact ⟨.ret _, l₄, ν₄, .ret r, R₄, F₄, X, hq4⟩
  · have hiN : i = N := Nat.le_antisymm hi (Nat.not_lt.mp hlt)
    subst hiN
    refine W.done A s₁ o₁ ν₁ _ _ a.ok.1 R₁ hI₁ hA₁ (hsrc _ _ _ hJ₁) fun h' tk k => ?_
    exact wpAny_execs_nil ⟨.next, l₁, ν₁, .next, R₁.sameBut k hn₁ hb nt, F₁.sameBut k hf nt, x₁.iter hs k, fin _ _ hJ₁⟩
noncomputable def GF (C : Cx) (n : Nat) (sc : Scope) (t : Expr) (body : List Stmt) (d : D) (l : Loc) (ν : Nu) (Q : Fl → Loc → Nu → Prop) (X : Addr → Loc → Nu → Prop) : Prop :=
  ∀ A env outer s v, At C n A env outer ν s.heap → Ref C ν s.heap → Frm C env sc l ν s.heap → RV s.heap v d → wpAny (model C.prog C.w) A (pyIter v) (fun it s₂ =>
    codeAny (model C.prog C.w) A (.forLoop t it body [] env) (fun r s' => match r with | .ok f => PostS1 C env sc ν s Q f s' | .error e => cameBackBy (model C.prog C.w) A env (PostXS C env sc outer ν s X) e s') s₂) nev s
theorem cameBack_after {M : Model} {A : Around} {E E' : Value → Shared → Prop} {e : Value} {s : Shared} (h : ∀ e s, E e s → E' e s) (z : cameBackBy M A env E e s) : cameBackBy M A env E' e s :=
  wpAny_mono z (fun _ _ y => h _ _ y) fun _ _ y => h _ _ y
theorem GS_for {t iter : Expr} {body : List Stmt} {pos} {Q : Fl → Loc → Nu → Prop} {X : Addr → Loc → Nu → Prop} (h : TE C n sc iter l ν (fun d ν₁ => GF C n sc t body d l ν₁ Q X)) (hs : ∀ env x, foldedSetIterable iter env x = pure x) : GS C n sc (.For t iter body [] pos) l ν Q X := by
  intro A env outer s a R F
  refine wpAny_For (wpAny_mono (h A env s a.ok R F) ?_ fun _ _ x => x.elim) (hs env)
  rintro v s₁ ⟨d, ν₁, hv, R₁, x₁, hq⟩
  refine wpAny_mono (hq A env outer s₁ v (a.fro1 x₁.to1.toFr) R₁ (F.fro R x₁) hv) (fun it s₂ h₂ => codeAny_mono h₂ fun r s' z => ?_) fun _ _ x => x.elim
  cases r with
  | ok f => exact PostS1.after x₁.to1.toFr z
  | error e => exact cameBack_after (fun _ _ y => y.after x₁.to1.toFr) z
theorem GF_sub {t : Expr} {body : List Stmt} {d : D} {l₀ : Loc} {Q : Fl → Loc → Nu → Prop} {X : Addr → Loc → Nu → Prop} (hs : Sub l₀ l) (h : GF C n sc t body d l₀ ν Q X) : GF C n sc t body d l ν Q X := fun A env outer s v a R F hv => h A env outer s v a R (F.sub hs) hv
theorem GF_str {t : Expr} {body : List Stmt} {x : Str} {Q : Fl → Loc → Nu → Prop} {X : Addr → Loc → Nu → Prop} (hN : C.hd = none) (ha : x.cps.all (· < 128) = true)
    (J : Nat → Loc → Nu → Prop) (hJ : J 0 l ν) (turn : ∀ i l ν, i < x.cps.size → J i l ν → TG C n sc t (.str ⟨#[x.cps.getD i 0]⟩) l ν (fun l₁ ν₁ => GSs C n sc body l₁ ν₁ (LoopK J i Q) X))
    (fin : ∀ l ν, J x.cps.size l ν → Q .next l ν) : GF C n sc t body (.str x) l ν Q X := by
  intro A env outer s v a R F hv
  cases hv with
  | str _ tk =>
  refine wpAny_pyIter_ascii ha ?_
  exact for_coreG (s := s) (itOk_str hN (x := x) (t := tk)) (fun i o h es n q => by rw [h.2] at q; cases q) a F (Fro.push _ _) (R.push _) (Heap.get?_push_size _ rfl) ⟨rfl, rfl⟩ (getNone s) R.fresh F.baseLe R J hJ (fun _ _ _ _ => trivial) turn fin
end
end Mine

namespace Mine
open PySem PyProof.Rows PySem.W
/-- while an exception is being handled -/
noncomputable def Ch (C : Cx) (v : Value) : Cx := { C with hd := some v }
section
variable {C : Cx} {n : Nat} {sc : Scope} {l : Loc} {ν : Nu} {env : Env} {outer : List Env} {v : Value}
theorem ObjAt.toH {h : Heap} {a : Addr} {o : AObj} (x : ObjAt C h a o) : ObjAt (Ch C v) h a o := by cases o <;> exact x
theorem ObjAt.ofH {h : Heap} {a : Addr} {o : AObj} (x : ObjAt (Ch C v) h a o) : ObjAt C h a o := by cases o <;> exact x
theorem Ref.toH {h : Heap} (R : Ref C ν h) : Ref (Ch C v) ν h := ⟨R.keep, fun a o e => (R.at_ a o e).toH, R.own⟩
theorem Ref.ofH {h : Heap} (R : Ref (Ch C v) ν h) : Ref C ν h := ⟨R.keep, fun a o e => (R.at_ a o e).ofH, R.own⟩
theorem Frm.toH {h : Heap} (F : Frm C env sc l ν h) : Frm (Ch C v) env sc l ν h := ⟨F.scope, F.kind, F.glob, F.blt, F.ns, F.cell, F.kinds, F.cells, F.nuL, F.nuC, F.apart, F.above, F.aboveC⟩
theorem Frm.ofH {h : Heap} (F : Frm (Ch C v) env sc l ν h) : Frm C env sc l ν h := ⟨F.scope, F.kind, F.glob, F.blt, F.ns, F.cell, F.kinds, F.cells, F.nuL, F.nuC, F.apart, F.above, F.aboveC⟩
theorem Aok.toH {A : Around} (a : Aok C n A) : Aok (Ch C v) n (A.mark (some v)) := ⟨rfl, a.2.1, a.2.2⟩
theorem Ref.up {B h : Heap} (R : Ref C ν B) (k : B.StaysIn h) : Ref C ν h := R.keepAll k

theorem XSt.fresh {B h : Heap} {st : List Env} {L e T : Addr} (x : XSt B st L e T h) : B.get? e = none := by
  cases x with
  | made h₀ args hk hl m =>
    cases q : B.get? e with
    | none => rfl
    | some o => have := hk _ _ q; rw [m.new] at this; cases this
  | trc fl hf f => exact f.fresh
/-- the frame stands where an exception landed -/
theorem Frm.fly {B h₀ h : Heap} {ν₀ ν' : Nu} (R₀ : Ref C ν₀ h₀) (F₀ : Frm C env sc l ν₀ h₀) (S₀ : Stk C ν₀ h₀ (env :: outer)) (sep : ∀ e0 ∈ outer, ¬ fr env e0.locals)
    (kp : ∀ b o, h₀.get? b = some o → ν₀ b = none → (∀ e0 ∈ env :: outer, b ≠ e0.locals) → ∃ o', B.get? b = some o' ∧ Lk o o') (hB : B.StaysIn h)
    (up : ∀ o, h₀.get? env.locals = some o → ∃ sl, h.get? env.locals = some { o with slots := sl }) (dm : ∀ b o, h₀.get? b = some o → ν₀ b = none → ν' b = none) : Frm C env sc l ν' h := by
  have kt : TupKeep h₀ h := fun a o e hi => by
    have hn : ν₀ a = none := by
      cases q : ν₀ a with
      | none => rfl
      | some o' =>
        obtain ⟨ob, e', hc⟩ := (R₀.at_ a o' q).get
        rw [e] at e'; cases e'
        exact absurd hi hc
    obtain ⟨o', e', k⟩ := kp a o e hn fun e0 he q => by
      obtain ⟨_, _, _, _, o1, es, m, ho, hd⟩ := S₀ e0 he
      rw [← q, e] at ho; cases ho
      exact hi.noDict _ _ hd
    rw [k.2 hi.noDict] at e'
    exact hB _ _ e'
  refine ⟨F₀.scope, F₀.kind, F₀.glob, F₀.blt, ?_, fun y c hc => ?_, F₀.kinds, F₀.cells, ?_, fun y c hc => ?_, F₀.apart, F₀.above, F₀.aboveC⟩
  · obtain ⟨m, ⟨o, es, ep, ho, hd, r⟩, hm⟩ := F₀.ns
    obtain ⟨sl, e1⟩ := up o ho
    exact ⟨m, ⟨_, es, ep, e1, hd, r⟩, fun y d h1 h2 => let ⟨v, a, b⟩ := hm y d h1 h2; ⟨v, a, b.keep kt⟩⟩
  · obtain ⟨v, ⟨o, ho, hd⟩, q⟩ := F₀.cell y c hc
    obtain ⟨o', e', k⟩ := kp c o ho (F₀.nuC y c hc) fun e0 he q => by
      rcases List.mem_cons.mp he with rfl | he
      · exact F₀.neC hc q
      · exact sep e0 he (q ▸ .inr ⟨y, hc⟩)
    exact ⟨v, ⟨o', hB _ _ e', k.data.trans hd⟩, fun d h1 h2 => let ⟨u, a, b⟩ := q d h1 h2; ⟨u, a, b.keep kt⟩⟩
  · obtain ⟨m, ⟨o, es, ep, ho, r⟩, hm⟩ := F₀.ns
    exact dm _ _ ho F₀.nuL
  · obtain ⟨v, ⟨o, ho, hd⟩, q⟩ := F₀.cell y c hc
    exact dm _ _ ho (F₀.nuC y c hc)
/-- what the way from the raise has left -/
theorem fro_fly {B : Heap} {s₀ s₁ : Shared} {ν₀ ν' : Nu} {e : Addr} {o : AObj} (S₀ : Stk C ν₀ s₀.heap (env :: outer))
    (kp : ∀ b o, s₀.heap.get? b = some o → ν₀ b = none → (∀ e0 ∈ env :: outer, b ≠ e0.locals) → ∃ o', B.get? b = some o' ∧ Lk o o') (hB : B.StaysIn s₁.heap)
    (up : ∀ e0 ∈ env :: outer, ∀ o, s₀.heap.get? e0.locals = some o → ∃ sl, s₁.heap.get? e0.locals = some { o with slots := sl }) (dm : ∀ b o, s₀.heap.get? b = some o → ν₀ b = none → ν' b = none)
    (he : B.get? e = none) (hef : ∃ oe vs, s₁.heap.get? e = some oe ∧ oe.data = .fields vs) (eq : ∃ h' t', s₁ = { s₀ with heap := h', toks := t' }) : Fro1 (fr env) ν₀ (upd ν' e o) s₀ s₁ := by
  have all : ∀ b ob, s₀.heap.get? b = some ob → ν₀ b = none → (∃ o', s₁.heap.get? b = some o' ∧ Lk ob o') ∧ b ≠ e := fun b ob eb hn => by
    by_cases q : ∃ e0 ∈ env :: outer, b = e0.locals
    · obtain ⟨e0, h0, rfl⟩ := q
      obtain ⟨_, _, _, _, o1, es, m, ho, hd⟩ := S₀ e0 h0
      rw [eb] at ho; cases ho
      obtain ⟨sl, e1⟩ := up e0 h0 ob eb
      refine ⟨⟨_, e1, ⟨sl, rfl⟩, fun z => absurd hd (z _ _)⟩, fun z => ?_⟩
      obtain ⟨oe, vs, h1, h2⟩ := hef
      rw [z, h1] at e1; cases e1
      rw [hd] at h2; cases h2
    · obtain ⟨o', e', k⟩ := kp b ob eb hn fun e0 h0 z => q ⟨e0, h0, z⟩
      exact ⟨⟨o', hB _ _ e', k⟩, fun z => by rw [z, he] at e'; cases e'⟩
  exact ⟨eq, fun b ob eb hn _ => (all b ob eb hn).1, fun b ob eb hn => let ⟨o', e', _⟩ := (all b ob eb hn).1; ⟨o', e'⟩, fun b ob eb hn => by rw [upd_other (all b ob eb hn).2]; exact dm b ob eb hn⟩
theorem glob_here {x : Str} {pos} {u : Value} {Q : Value → Shared → Prop} {E : Value → Shared → Prop} {M : Model} {A : Around} {s : Shared} (R : Ref C ν s.heap) (F : Frm C env sc l ν s.heap) (hk : sc.names.lookup x = some .globalImplicit) (hg : C.mg x = some u) (hd : (x == ("__debug__" : Str)) = false) (h : Q u s) : wpAny M A (eval (.Name x pos) env) Q E s := by
  refine wpAny_Name ?_ hd
  have hkk : env.scope.kind = .function := F.scope ▸ F.kind
  have hx : env.kindOf x = some .globalImplicit := by unfold Env.kindOf; rw [F.scope]; exact hk
  have g := C.g.keeps R.keep
  unfold loadName
  simp only [Env.blockKind, hkk, hx, ScopeKind.isAnnotationScope, Bool.false_and, Bool.false_eq_true, if_false]
  exact Calls.loadGlobal_global (F.glob ▸ g) hg h
theorem excO_notImm {T t : Addr} {x : Value} : ¬ Imm (excO T t x) := fun h => by have := h.cls; unfold excO at this; simp at this
/-- a try whose body raises, and the clause that takes it -/
theorem GS_try {body : List Stmt} {x : Str} {np hp pos : Pos} {b₀ : Stmt} {suite : List Stmt} {T' : Addr} {Q : Fl → Loc → Nu → Prop} {X : Addr → Loc → Nu → Prop} (hk : sc.names.lookup x = some .globalImplicit) (hg : C.mg x = some (.ref T')) (hx : (x == ("__debug__" : Str)) = false)
    (h : GSs C n sc body l ν Q (fun T l' ν' => exmOne C.K (.ref T) (.ref T') = some true ∧ ∀ e t tb, ν' e = none → TSs (Ch C (.ref e)) n sc (b₀ :: suite) l' (upd ν' e (.raw (excO T t (.ref tb)))) Q)) :
    GS C n sc (.Try body [.ExceptHandler (some (.Name x np)) none (b₀ :: suite) hp] [] [] pos) l ν Q X := by
  intro A env outer s a R F
  refine wpAny_Try_except (wpAny_mono (h A env outer s a R F) ?_ ?_)
  · rintro f s₁ p
    obtain ⟨fl, l₁, ν₁, hf, R₁, F₁, x₁, hq⟩ := p
    cases hf with
    | next => exact wpAny_execs_nil ⟨.next, l₁, ν₁, .next, R₁, F₁, x₁, hq⟩
    | brk => exact ⟨.brk, l₁, ν₁, .brk, R₁, F₁, x₁, hq⟩
    | cont => exact ⟨.cont, l₁, ν₁, .cont, R₁, F₁, x₁, hq⟩
    | ret r => exact ⟨.ret _, l₁, ν₁, .ret r, R₁, F₁, x₁, hq⟩
  · rintro v s₁ ⟨e, T, l', ν₀, ν', s₀, B, rfl, xs, R₀, F₀, RB, y, kp, up, dm, ⟨h', t', rfl⟩, hm, hq⟩
    have S₀ := (a.fro1 y).all F₀
    have upTo : ∀ {g : Heap}, Heap.UpToSlots h' g → ∀ e0 ∈ env :: outer, ∀ o, s₀.heap.get? e0.locals = some o → ∃ sl, g.get? e0.locals = some { o with slots := sl } := fun {g} u e0 he o eo => by
      obtain ⟨_, _, _, _, o1, es, m, ho, hd⟩ := S₀ e0 he
      rw [eo] at ho; cases ho
      obtain ⟨sl, e1⟩ := up e0 he o eo
      obtain ⟨sl2, e2⟩ := u _ _ e1 fun vs z => by
        have z : o.data = .fields vs := z
        rw [hd] at z; cases z
      exact ⟨sl2, e2⟩
    have ne' : ν' e = none := by
      cases q : ν' e with
      | none => rfl
      | some o =>
        obtain ⟨ob, hob, _⟩ := (RB.at_ e o q).get
        rw [xs.fresh] at hob; cases hob
    refine xs.note a.frames a.frame fun h₂ f₂ u₂ => f₂.set none fun h₃ f₃ u₃ => ?_
    have R₃ : Ref C ν' h₃ := RB.up f₃.stays
    have F₃ : Frm C env sc l' ν' h₃ := Frm.fly R₀ F₀ S₀ a.sep kp f₃.stays (fun o eo => upTo (u₂.trans u₃) env (.head _) o eo) dm
    obtain ⟨t, tb, ot, ts, he, hrest⟩ := f₃.obj
    refine wpAny_handleBy_cons (codeAny_handlers_test (glob_here R₃ F₃ hk hg hx ?_)) (by intro q; cases q)
    have LT : Looks (model C.prog C.w) h₃ (typeOf (.ref e)) (.ref T) := (Looks.ld he).andThen .now
    refine (exm_one (K := C.K) (fun a o e => R₃.keep _ _ (C.inK _ _ e)) LT hm).here ?_
    rw [if_pos rfl]
    refine codeAny_handlers_suite (f₃.set none fun h₄ f₄ u₄ => ?_)
    obtain ⟨t, tb, ot, ts, he, hrest⟩ := f₄.obj
    have R₄ : Ref C (upd ν' e (.raw (excO T t (.ref tb)))) h₄ := by
      have R := RB.up f₄.stays
      refine ⟨R.keep, fun b o eb => ?_, fun b o eb h1 h2 => ?_⟩
      · unfold upd at eb; split at eb
        · rename_i q; subst q; cases eb; exact ⟨he, excO_notImm⟩
        · exact R.at_ b o eb
      · unfold upd at eb; split at eb
        · cases eb; exact absurd rfl (h2 _)
        · exact R.own b o eb h1 h2
    have Y₄ := (fro_fly (o := .raw (excO T t (.ref tb))) (s₁ := { s₀ with heap := h₄, toks := t' }) S₀ kp f₄.stays (upTo ((u₂.trans u₃).trans u₄)) dm f₄.fresh ⟨_, _, he, rfl⟩ ⟨_, _, rfl⟩)
    have X₄ := y.trans Y₄
    have F₄ : Frm C env sc l' (upd ν' e (.raw (excO T t (.ref tb)))) h₄ := Frm.fly R₀ F₀ S₀ a.sep kp f₄.stays (fun o eo => upTo ((u₂.trans u₃).trans u₄) env (.head _) o eo) Y₄.dom
    refine wpAny_mono (hq e t tb ne' (A.mark (some (.ref e))) env _ a.ok.toH R₄.toH F₄.toH) ?_ fun _ _ z => z.elim
    rintro f s₅ ⟨fl, l₅, ν₅, hf, R₅, F₅, x₅, hq5⟩
    exact ⟨fl, l₅, ν₅, hf, R₅.ofH, F₅.ofH, X₄.trans x₅.to1, hq5⟩
theorem frm_forget {s : Shared} {h' : Heap} {m' : Str → Option Value} {t : Nat} (R : Ref C ν s.heap) (F : Frm C env sc l ν s.heap) (hn : h'.Ns env.locals m') (sb : Heap.SameBut env.locals s.heap h') :
    Ref C ν h' ∧ Frm C env sc [] ν h' ∧ Fro (fr env) ν ν s { s with heap := h', toks := t } ∧ TupKeep s.heap h' := by
  have k : TupKeep s.heap h' := fun a o e hi => (sb.2 a fun q => F.notTup a o (.inl q) e hi).trans e
  have k' : ∀ b o, b ≠ env.locals → s.heap.get? b = some o → h'.get? b = some o := fun b o hb e => (sb.2 b hb).trans e
  refine ⟨R.sameBut k' F.nuL F.above (fun o e => F.notTup _ o (.inl rfl) e), ⟨F.scope, F.kind, F.glob, F.blt, ⟨m', hn, fun x d h => by simp [lk] at h⟩, fun x c hc => ?_, fun x d h => by simp [lk] at h, F.cells, F.nuL, F.nuC, F.apart, F.above, F.aboveC⟩, ⟨⟨h', t, rfl⟩, fun b o e _ ho => k' b o (fun q => ho (.inl q)) e, fun b o e _ => ?_, fun _ _ _ q => q⟩, k⟩
  · obtain ⟨v, ⟨o, ho, hd⟩, _⟩ := F.cell x c hc
    exact ⟨v, ⟨o, k' c o (F.neC hc) ho, hd⟩, fun d h => by simp [lk] at h⟩
  · by_cases q : b = env.locals
    · obtain ⟨o', _, _, e', _⟩ := hn; exact ⟨o', q ▸ e'⟩
    · exact ⟨o, k' b o q e⟩
/-- the same with a name for the exception; the clause returns -/
theorem GS_tryAs {body : List Stmt} {x z : Str} {np hp pos : Pos} {b₀ : Stmt} {suite : List Stmt} {T' : Addr} {Q : Fl → Loc → Nu → Prop} {X : Addr → Loc → Nu → Prop} (hk : sc.names.lookup x = some .globalImplicit) (hg : C.mg x = some (.ref T')) (hx : (x == ("__debug__" : Str)) = false) (hl : sc.names.lookup z = some .local)
    (h : GSs C n sc body l ν Q (fun T l' ν' => exmOne C.K (.ref T) (.ref T') = some true ∧ ∀ e t tb, ν' e = none → TSs (Ch C (.ref e)) n sc (b₀ :: suite) (put l' z (.ref e)) (upd ν' e (.raw (excO T t (.ref tb)))) (fun fl _ ν'' => ∃ d, fl = .ret d ∧ Q (.ret d) [] ν''))) :
    GS C n sc (.Try body [.ExceptHandler (some (.Name x np)) (some z) (b₀ :: suite) hp] [] [] pos) l ν Q X := by
  intro A env outer s a R F
  refine wpAny_Try_except (wpAny_mono (h A env outer s a R F) ?_ ?_)
  · rintro f s₁ p
    obtain ⟨fl, l₁, ν₁, hf, R₁, F₁, x₁, hq⟩ := p
    cases hf with
    | next => exact wpAny_execs_nil ⟨.next, l₁, ν₁, .next, R₁, F₁, x₁, hq⟩
    | brk => exact ⟨.brk, l₁, ν₁, .brk, R₁, F₁, x₁, hq⟩
    | cont => exact ⟨.cont, l₁, ν₁, .cont, R₁, F₁, x₁, hq⟩
    | ret r => exact ⟨.ret _, l₁, ν₁, .ret r, R₁, F₁, x₁, hq⟩
  · rintro v s₁ ⟨e, T, l', ν₀, ν', s₀, B, rfl, xs, R₀, F₀, RB, y, kp, up, dm, ⟨h', t', rfl⟩, hm, hq⟩
    have S₀ := (a.fro1 y).all F₀
    have upTo : ∀ {g : Heap}, Heap.UpToSlots h' g → ∀ e0 ∈ env :: outer, ∀ o, s₀.heap.get? e0.locals = some o → ∃ sl, g.get? e0.locals = some { o with slots := sl } := fun {g} u e0 he o eo => by
      obtain ⟨_, _, _, _, o1, es, m, ho, hd⟩ := S₀ e0 he
      rw [eo] at ho; cases ho
      obtain ⟨sl, e1⟩ := up e0 he o eo
      obtain ⟨sl2, e2⟩ := u _ _ e1 fun vs z => by
        have z : o.data = .fields vs := z
        rw [hd] at z; cases z
      exact ⟨sl2, e2⟩
    have ne' : ν' e = none := by
      cases q : ν' e with
      | none => rfl
      | some o =>
        obtain ⟨ob, hob, _⟩ := (RB.at_ e o q).get
        rw [xs.fresh] at hob; cases hob
    refine xs.note a.frames a.frame fun h₂ f₂ u₂ => f₂.set none fun h₃ f₃ u₃ => ?_
    have R₃ : Ref C ν' h₃ := RB.up f₃.stays
    have F₃ : Frm C env sc l' ν' h₃ := Frm.fly R₀ F₀ S₀ a.sep kp f₃.stays (fun o eo => upTo (u₂.trans u₃) env (.head _) o eo) dm
    obtain ⟨t, tb, ot, ts, he, hrest⟩ := f₃.obj
    refine wpAny_handleBy_cons (codeAny_handlers_test (glob_here R₃ F₃ hk hg hx ?_)) (by intro q; cases q)
    have LT : Looks (model C.prog C.w) h₃ (typeOf (.ref e)) (.ref T) := (Looks.ld he).andThen .now
    refine (exm_one (K := C.K) (fun a o e => R₃.keep _ _ (C.inK _ _ e)) LT hm).here ?_
    rw [if_pos rfl]
    refine codeAny_handlers_suite_as (f₃.set none fun h₄ f₄ u₄ => ?_)
    obtain ⟨t, tb, ot, ts, he, hrest⟩ := f₄.obj
    have R₄ : Ref C (upd ν' e (.raw (excO T t (.ref tb)))) h₄ := by
      have R := RB.up f₄.stays
      refine ⟨R.keep, fun b o eb => ?_, fun b o eb h1 h2 => ?_⟩
      · unfold upd at eb; split at eb
        · rename_i q; subst q; cases eb; exact ⟨he, excO_notImm⟩
        · exact R.at_ b o eb
      · unfold upd at eb; split at eb
        · cases eb; exact absurd rfl (h2 _)
        · exact R.own b o eb h1 h2
    have Y₄ := (fro_fly (o := .raw (excO T t (.ref tb))) (s₁ := { s₀ with heap := h₄, toks := t' }) S₀ kp f₄.stays (upTo ((u₂.trans u₃).trans u₄)) dm f₄.fresh ⟨_, _, he, rfl⟩ ⟨_, _, rfl⟩)
    have X₄ := y.trans Y₄
    have F₄ : Frm C env sc l' (upd ν' e (.raw (excO T t (.ref tb)))) h₄ := Frm.fly R₀ F₀ S₀ a.sep kp f₄.stays (fun o eo => upTo ((u₂.trans u₃).trans u₄) env (.head _) o eo) Y₄.dom
    refine store_name (C := Ch C (.ref e)) R₄.toH F₄.toH (.inl hl) (.ref e) fun s₄' R₄' F₄' X₄' => ?_
    refine wpAny_mono (hq e t tb ne' (A.mark (some (.ref e))) env _ a.ok.toH R₄' F₄') ?_ fun _ _ z => z.elim
    rintro f s₅ ⟨fl, l₅, ν₅, hf, R₅, F₅, x₅, d, hfd, hq5⟩
    subst hfd
    cases hf with
    | ret rv =>
    obtain ⟨m₅, hn₅, _⟩ := F₅.ns
    have hkk : env.scope.kind = .function := F₅.scope ▸ F₅.kind
    refine wpAny_nameGoes (by unfold Env.kindOf; rw [F₅.scope]; exact hl) hn₅ (by rw [hkk]; rfl) fun h₆ m₆ hn₆ sb => ?_
    obtain ⟨R₆, F₆, X₆, kt⟩ := frm_forget R₅.ofH F₅.ofH hn₆ sb (s := s₅) (t := s₅.toks + 1)
    exact ⟨.ret d, [], ν₅, .ret (rv.keep kt), R₆, F₆, ((X₄.trans X₄'.to1).trans x₅.to1).trans X₆.to1, hq5⟩
end
end Mine

namespace Mine
open PySem PyProof.Rows PySem.W
-- loops while an exception is being handled
theorem entry_unchain : entryFor table "proto.unchain" = some Builtin.«proto.unchain» := entryFor_of_fast (by kernel_rfl)
section
variable {prog : Program} {w : World} {A : Around} {E : Value → Shared → Prop} {s : Shared}
theorem raiseNew_handled {α : Type} {e h T t : Addr} {x : Value} {oe : Obj} {vs : Array Value} {Q : α → Shared → Prop} (hh : A.handled = some (.ref h)) (hne : h ≠ e) (ho : s.heap.get? h = some (excO T t x)) (he : s.heap.get? e = some oe) (hd : oe.data = .fields vs) (hsz : 2 < vs.size)
    (hE : E (.ref e) { s with heap := s.heap.update e (Obj.mapFields (·.setIfInBounds 2 (.ref h))) }) : wpAny (model prog w) A (raiseNew (.ref e) : Sem α) Q E s := by
  unfold raiseNew
  refine wpAny_bind (wpAny_handled ?_)
  rw [hh]
  dsimp only
  rw [if_pos (show (Value.ref h != Value.ref e) = true from by simp [hne])]
  refine wpAny_bind (wpAny_holding (wpAny_runValue (codeAny_builtin entry_unchain ?_)))
  show wpAny _ _ (field (.ref h) 2 >>= _) _ _ s
  refine wpAny_bind (wpAny_field ho rfl (x := .none) rfl ?_)
  dsimp only
  rw [if_pos (show (Value.none == Value.none) = true from by simp)]
  refine wpAny_bind (wpAny_pure ?_)
  refine wpAny_pure ?_
  show wpAny _ A (updateField e 2 (.ref h) >>= _) _ _ s
  refine wpAny_bind ?_
  unfold updateField
  refine wpAny_bind (wpAny_load he ?_)
  rw [hd]
  dsimp only
  rw [if_pos hsz]
  exact wpAny_update he (wpAny_throw hE)
theorem list_endH {it l : Addr} {i : Nat} {items : Array Value} {Q : Option Value → Shared → Prop} {h T t : Addr} {x : Value} (hh : A.handled = some (.ref h)) (hhe : s.heap.get? h = some (excO T t x)) (hne : h ≠ it)
    (hit : s.heap.IsListIter it l i) (hl : s.heap.IsList l items) (hx : items[i]? = none)
    (hQ : ∀ h', Heap.ExtBut it s.heap h' → Q none { s with heap := h' }) : wpAny (model prog w) A (pyNext (.ref it)) Q E s := by
  obtain ⟨o, ho, hc, hd⟩ := id hit
  obtain ⟨ol, hol, _, nl, hdl⟩ := hl
  unfold pyNext
  refine wpAny_bind (wpAny_attempt (wpAny_callSpecial?_slot (name := Str.ofString "__next__") hit.typeIs slot_listiter_next
    (wpAny_call_entry slot_listiter_next hit.typeIs entry_listiter_next ?_ (args_listiter_next _))))
  show wpAny _ _ (field (.ref it) 0 >>= _) _ _ s
  refine wpAny_bind (wpAny_field ho hd (x := .ref l) rfl ?_)
  show wpAny _ _ (if (Value.ref l == Value.none) = true then _ else _) _ _ s
  rw [if_neg (show ¬ ((Value.ref l == Value.none) = true) from Bool.false_ne_true)]
  show wpAny _ _ (field (.ref it) 1 >>= _) _ _ s
  refine wpAny_bind (wpAny_field ho hd (x := .int i 0) rfl ?_)
  show wpAny _ _ (seqItems? (.ref l) >>= _) _ _ s
  refine wpAny_bind (wpAny_seqItems hol hdl ?_)
  simp only [Int.toNat_natCast, hx]
  refine wpAny_bind (wpAny_rule (wpAny_bind (wpAny_setField ho hd (by simp) ?_)))
  show wpAny _ _ (newExc (.type "StopIteration") [] >>= _) _ _ _
  refine wpAny_bind ?_
  simp only [newExc, newTuple]
  refine wpAny_bind (wpAny_newObj_type ?_ (by size_fits))
  refine wpAny_bind (m := firstArgMember _ _) (wpAny_of_eq (a := Value.none) (by first | rfl | (simp only [firstArgMember]; rfl)) ?_)
  refine wpAny_newObj_type ?_ (by size_fits)
  have h1 : (s.heap.update it (Obj.mapFields (·.setIfInBounds 0 .none))).get? h = some (excO T t x) := (Heap.get?_update_other _ _ (Ne.symm hne)).trans hhe
  dsimp only
  generalize hH : (s.heap.update it (Obj.mapFields (·.setIfInBounds 0 .none))).push { cls := .type "tuple", data := .seq #[] } = H
  have k : ∀ b o, b ≠ it → s.heap.get? b = some o → H.get? b = some o := fun b o hb e => by rw [← hH]; exact Heap.get?_push_of_some _ ((Heap.get?_update_other _ _ (Ne.symm hb)).trans e)
  have hHh := k h _ hne hhe
  refine raiseNew_handled (h := h) (show A.in1.handled = _ from hh) (Nat.ne_of_lt (Heap.lt_size hHh)) (Heap.get?_push_of_some _ hHh) (Heap.get?_push_size _ rfl) rfl (by rw [Array.size_append]; exact Nat.lt_of_lt_of_le (show 2 < 6 by decide) (Nat.le_add_right _ _)) ?_
  refine wpAny_bind (wpAny_isInstance (T := "StopIteration") (b := true) ⟨_, Heap.get?_update_self _ (Heap.get?_push_size _ rfl) rfl, rfl⟩ isSubtype_stop ?_)
  refine wpAny_pure (hQ _ fun b o hb e => ?_)
  have hbH := k b o hb e
  exact (Heap.get?_update_other _ _ (Ne.symm (Nat.ne_of_lt (Heap.lt_size hbH)))).trans (Heap.get?_push_of_some _ hbH)
end
section
variable {C : Cx} {n : Nat} {sc : Scope} {l : Loc} {ν : Nu} {Q : D → Nu → Prop}
theorem itOk_listH {eh T t : Addr} {x : Value} (hH : C.hd = some (.ref eh)) {I a : Addr} {ds : List D} : ItOk C I ds.length (fun i => ds.getD i .none) (fun ν => seqOf (ν a) = some ds ∧ ν eh = some (.raw (excO T t x))) (lstIter a) where
  tup := fun i o h e => by have := e.cls; rw [h.1] at this; simp at this
  own := fun A M i s o Q E t v hI hAt hq => own_plain hI hAt.1 hAt.2 (by decide) hq
  next := fun A i s o ν Q E hh hi R hI hAt hs h => by
    obtain ⟨vs, m, e, r⟩ := R.seq hs.1
    obtain ⟨d, hd⟩ : ∃ d, ds[i]? = some d := ⟨ds[i], by simp [hi]⟩
    obtain ⟨v, hv, rv⟩ := r.get hd
    refine wpAny_pyNext_list_item (l := a) (i := i) (items := vs.toArray) (x := v) ⟨o, hI, hAt.1, hAt.2⟩ ⟨_, e, rfl, m, rfl⟩ (by simpa using hv) fun h' hit sb => ?_
    obtain ⟨o', ho', hc', hd'⟩ := hit
    have k : ∀ b o, b ≠ I → s.heap.get? b = some o → h'.get? b = some o := fun b o hb e => (sb.2 b hb).trans e
    refine h v h' s.toks o' ?_ k ho' ⟨hc', hd'⟩
    have : ds.getD i .none = d := by rw [List.getD_eq_getElem?_getD, hd]; rfl
    rw [this]
    exact rv.keep fun b o e hi => k b _ (fun q => by subst q; rw [hI] at e; cases e; have := hi.cls; rw [hAt.1] at this; simp at this) e
  done := fun A s o ν Q E hh R hI hAt hs h => by
    obtain ⟨vs, m, e, r⟩ := R.seq hs.1
    have hne : eh ≠ I := fun q => by
      have z := (R.at_ _ _ hs.2).1
      rw [q, hI] at z; cases z
      have := hAt.1; unfold excO at this; simp at this
    exact list_endH (l := a) (i := ds.length) (items := vs.toArray) (hh.trans hH) (R.at_ _ _ hs.2).1 hne ⟨o, hI, hAt.1, hAt.2⟩ ⟨_, e, rfl, m, rfl⟩ (by simp [r.length]) fun h' he => h h' s.toks fun b o hb e => he b o hb e
theorem Itb_listH {h T t : Addr} {x : Value} (hH : C.hd = some (.ref h)) (hr : ν h = some (.raw (excO T t x))) {a : Addr} {ds : List D} (hs : seqOf (ν a) = some ds) : Itb C n (.ref a) ν ds.length (fun i => ds.getD i .none) := by
  refine ⟨fun ν => seqOf (ν a) = some ds ∧ ν h = some (.raw (excO T t x)), fun r o hr0 => ⟨?_, ?_⟩, fun A s v hA R hv => ⟨lstIter a, fun I => itOk_listH hH, ?_, ?_⟩⟩
  · have ne : a ≠ r := fun q => by subst q; rw [hr0] at hs; cases hs
    show seqOf (upd ν r o a) = some ds
    rw [upd_other ne]; exact hs
  · have ne : h ≠ r := fun q => by subst q; rw [hr0] at hr; cases hr
    rw [upd_other ne]; exact hr
  · intro A s I o Q E ho hAt q
    exact wpAny_pyIter_listiter (l := a) (i := 0) ⟨o, ho, hAt.1, hAt.2⟩ q
  · intro Q E h
    cases hv
    obtain ⟨vs, m, e, r⟩ := R.seq hs
    exact wpAny_pyIter_list (items := vs.toArray) ⟨_, e, rfl, m, rfl⟩ (h _ rfl ⟨rfl, rfl⟩)
end
end Mine

namespace Mine
open PySem PyProof.Rows PySem.W
section
variable {prog : Program} {w : World} {A : Around} {E : Value → Shared → Prop} {s : Shared}
theorem tuple_endH {it t : Addr} {i : Nat} {items : Array Value} {Q : Option Value → Shared → Prop} {h T u : Addr} {x : Value} (hh : A.handled = some (.ref h)) (hhe : s.heap.get? h = some (excO T u x)) (hne : h ≠ it)
    (hit : IsTupIter s.heap it t i) (ht : IsTup s.heap t items) (hx : items[i]? = none)
    (hQ : ∀ h', Heap.ExtBut it s.heap h' → Q none { s with heap := h' }) : wpAny (model prog w) A (pyNext (.ref it)) Q E s := by
  obtain ⟨o, ho, hc, hd⟩ := id hit
  obtain ⟨ol, hol, _, nl, hdl⟩ := ht
  unfold pyNext
  refine wpAny_bind (wpAny_attempt (wpAny_callSpecial?_slot (name := Str.ofString "__next__") hit.typeIs slot_tupleiter_next
    (wpAny_call_entry slot_tupleiter_next hit.typeIs entry_tupleiter_next ?_ (args_tupleiter_next _))))
  show wpAny _ _ (field (.ref it) 0 >>= _) _ _ s
  refine wpAny_bind (wpAny_field ho hd (x := .ref t) rfl ?_)
  show wpAny _ _ (if (Value.ref t == Value.none) = true then _ else _) _ _ s
  rw [if_neg (show ¬ ((Value.ref t == Value.none) = true) from Bool.false_ne_true)]
  show wpAny _ _ (field (.ref it) 1 >>= _) _ _ s
  refine wpAny_bind (wpAny_field ho hd (x := .int i 0) rfl ?_)
  show wpAny _ _ (seqItems? (.ref t) >>= _) _ _ s
  refine wpAny_bind (wpAny_seqItems hol hdl ?_)
  simp only [Int.toNat_natCast, hx]
  refine wpAny_bind (wpAny_rule (wpAny_bind (wpAny_setField ho hd (by simp) ?_)))
  show wpAny _ _ (newExc (.type "StopIteration") [] >>= _) _ _ _
  refine wpAny_bind ?_
  simp only [newExc, newTuple]
  refine wpAny_bind (wpAny_newObj_type ?_ (by size_fits))
  refine wpAny_bind (m := firstArgMember _ _) (wpAny_of_eq (a := Value.none) (by first | rfl | (simp only [firstArgMember]; rfl)) ?_)
  refine wpAny_newObj_type ?_ (by size_fits)
  dsimp only
  generalize hH : (s.heap.update it (Obj.mapFields (·.setIfInBounds 0 .none))).push { cls := .type "tuple", data := .seq #[] } = H
  have k : ∀ b o, b ≠ it → s.heap.get? b = some o → H.get? b = some o := fun b o hb e => by rw [← hH]; exact Heap.get?_push_of_some _ ((Heap.get?_update_other _ _ (Ne.symm hb)).trans e)
  have hHh := k h _ hne hhe
  refine raiseNew_handled (h := h) (show A.in1.handled = _ from hh) (Nat.ne_of_lt (Heap.lt_size hHh)) (Heap.get?_push_of_some _ hHh) (Heap.get?_push_size _ rfl) rfl (by rw [Array.size_append]; exact Nat.lt_of_lt_of_le (show 2 < 6 by decide) (Nat.le_add_right _ _)) ?_
  refine wpAny_bind (wpAny_isInstance (T := "StopIteration") (b := true) ⟨_, Heap.get?_update_self _ (Heap.get?_push_size _ rfl) rfl, rfl⟩ isSubtype_stop ?_)
  refine wpAny_pure (hQ _ fun b o hb e => ?_)
  have hbH := k b o hb e
  exact (Heap.get?_update_other _ _ (Ne.symm (Nat.ne_of_lt (Heap.lt_size hbH)))).trans (Heap.get?_push_of_some _ hbH)
theorem unpackItemsH {t : Addr} {items : Array Value} {Q : List Value → Shared → Prop} {h T u : Addr} {x : Value} (hh : A.handled = some (.ref h)) (hhe : s.heap.get? h = some (excO T u x)) (ht : IsTup s.heap t items)
    (hQ : ∀ h', Heap.ExtBut s.heap.objs.size s.heap h' → Q items.toList { s with heap := h' }) : wpAny (model prog w) A (unpackItems (.ref t) items.size none) Q E s := by
  have hlt : t ≠ s.heap.objs.size := by obtain ⟨o, ho, _⟩ := ht; exact Nat.ne_of_lt (Heap.lt_size ho)
  have hlh : h ≠ s.heap.objs.size := Nat.ne_of_lt (Heap.lt_size hhe)
  unfold unpackItems
  refine wpAny_bind ?_
  unfold notIterableAtAll
  refine wpAny_bind (wpAny_specialOf ht.typeIs slot_tuple_iter.lookup ?_)
  refine wpAny_pure ?_
  simp only [Bool.false_eq_true, if_false]
  refine wpAny_bind (wpAny_holding (iter_tuple ht ?_))
  refine wpAny_bind (wpAny_holding (draw_tuple hlt items.size 0 _ _ ⟨_, Heap.get?_push_size _ rfl, rfl, rfl⟩ (ht.push _) (by omega) fun h₁ hit₁ hs₁ => ?_))
  have hall : List.take items.size (List.drop 0 items.toList) = items.toList := by
    rw [List.drop_zero]; exact List.take_of_length_le (by simp)
  rw [hall]
  rw [if_neg (by simp)]
  have ht₁ : IsTup h₁ t items := (ht.push _).extBut hs₁.extBut hlt
  have hh₁ : h₁.get? h = some (excO T u x) := hs₁.extBut h _ hlh (Heap.get?_push_of_some _ hhe)
  refine wpAny_bind (wpAny_holding (tuple_endH hh hh₁ hlh hit₁ ht₁ (by simp) fun h₂ he₂ => ?_))
  simp only [Option.isSome_none, Bool.false_eq_true, if_false]
  exact wpAny_pure (hQ h₂ fun b o hb e => he₂ b o hb (hs₁.extBut b o hb (Heap.get?_push_of_some _ e)))
theorem assign_TupleH {env : Env} {elts : List Expr} {x1} {pos : Pos} {t : Addr} {items : Array Value} {Q : Unit → Shared → Prop} {h T u : Addr} {x : Value} (hh : A.handled = some (.ref h)) (hhe : s.heap.get? h = some (excO T u x)) (ht : IsTup s.heap t items)
    (hn : (assignEach elts env).length = items.size) (hstar : (assignEach elts env).findIdx? (·.1) = none)
    (hq : ∀ h', Heap.ExtBut s.heap.objs.size s.heap h' → wpAny (model prog w) A (assignInOrder ((assignEach elts env).map (·.2)) items.toList) Q E { s with heap := h' }) :
    wpAny (model prog w) A (assign (.Tuple elts x1 pos) env (.ref t)) Q E s := by
  rw [assign_Tuple]
  refine wpAny_bind (wpAny_standAt ?_)
  unfold unpack
  rw [hn, hstar]
  exact wpAny_bind (wpAny_holding (unpackItemsH hh hhe ht hq))
end
section
variable {C : Cx} {n : Nat} {sc : Scope} {l : Loc} {ν : Nu}
/-- two local names take a pair, while an exception is being handled -/
theorem TGl_pairH {a b : Str} {p1 p2 : Pos} {k pos} {d1 d2 : D} {Q : Loc → Prop} {h T u : Addr} {x : Value} (hH : C.hd = some (.ref h)) (hr : ν h = some (.raw (excO T u x))) (ha : sc.names.lookup a = some .local) (hb : sc.names.lookup b = some .local) (hq : Q (put (put l a d1) b d2)) :
    TGl C n sc (.Tuple [.Name a p1, .Name b p2] k pos) (.tup [d1, d2]) l ν Q := by
  intro A env s v hA R F hv
  cases hv with
  | tup ht r =>
  rename_i ad vs nn
  have hq1 := RVs.cons_inv r; clear r; obtain ⟨v1, _, rfl, r1, hr1⟩ := hq1
  have hq2 := RVs.cons_inv hr1; clear hr1; obtain ⟨v2, _, rfl, r2, hr2⟩ := hq2
  have hq3 := RVs.nil_inv hr2; clear hr2; subst hq3
  refine assign_TupleH (hA.1.trans hH) (R.at_ _ _ hr).1 (items := #[v1, v2]) ⟨_, ht, rfl, nn, rfl⟩ rfl rfl fun h' he => ?_
  have kk : ∀ b o, s.heap.get? b = some o → h'.get? b = some o := fun b o e => he b o (Nat.ne_of_lt (Heap.lt_size e)) e
  have kt : TupKeep s.heap h' := fun b o e _ => kk b o e
  show wpAny _ A (assignInOrder [assign (.Name a p1) env, assign (.Name b p2) env] [v1, v2]) _ _ _
  have x₀ : Fro (fun b => b = env.locals) ν ν s { s with heap := h' } := ⟨⟨h', s.toks, rfl⟩, fun b o e _ _ => kk b o e, fun b o e _ => ⟨o, kk b o e⟩, fun _ _ _ h => h⟩
  refine assignInOrder_cons (wpAny_assign_Name (store_local (s := { s with heap := h' }) (R.keepAll kk) (F.keepAll kk) ha (r1.keep kt) fun s₁ R₁ F₁ X₁ => ?_))
  have k1 := X₁.tups (R.keepAll kk) fun b o q e => (F.keepAll kk).notTup b o (.inl q) e
  refine assignInOrder_cons (wpAny_assign_Name (store_local R₁ F₁ hb ((r2.keep kt).keep k1) fun s₂ R₂ F₂ X₂ => ?_))
  exact assignInOrder_nil ⟨_, R₂, F₂, (x₀.trans X₁).trans X₂, hq⟩
end
end Mine

namespace Mine
open PySem PyProof.Rows PySem.W
section
variable {prog : Program} {w : World} {A : Around} {E : Value → Shared → Prop} {s : Shared} {K : Frag} {D : Addr}
theorem findObj_none {a g : Value} {name : Str} (hc : (clsIn K D).isSome = true) (ha : findIn K (.ref D) name = some (some a)) (hg : specialIn K a "__get__" = some (some g)) (ht : takesIn K a = some true) : findObj K D none name = some (.bind g a) := by
  obtain ⟨cd, hc⟩ := Option.isSome_iff_exists.mp hc
  unfold findObj
  rw [hc, Option.bind_some, ha, Option.bind_some]
  simp [hg, ht]
end
section
variable {prog : Program} {w : World} {A : Around} {E : Value → Shared → Prop} {s : Shared} {K : Frag} {D x : Addr} {ox : Obj} {odo : Option Obj} {name : Str}
theorem be_bind (self : Value) : bindSpecial (.builtin "BaseException.__getattribute__") self = pure (.builtin "BaseException.__getattribute__", [self]) := by
  have hop : withoutEnding? "BaseException.__getattribute__" "#opaque" = none := by decide +kernel
  have hdat : withoutEnding? "BaseException.__getattribute__" "#data" = none := by decide +kernel
  have hk : builtinKind "BaseException.__getattribute__" = some .slot := by decide +kernel
  simp only [bindSpecial, typeOf, builtinType, hop, hdat, hk]; rfl
theorem kin_openE {Q : Option Value → Shared → Prop} (X : K.In s.heap) (I : InstAt s.heap x ox D odo) (hga : findIn K (.ref D) "__getattribute__" = some (some (.builtin "BaseException.__getattribute__"))) (hk : findIn K (.ref D) "__getattr__" = some none)
    (h : codeAny (model prog w) A (.call (.builtin "BaseException.__getattribute__") ⟨[.ref x, .str name s.toks], []⟩) (fun r s' => match r with | .ok (.ret v) => wpAny (model prog w) A (handedOut v) (fun v s'' => Q (some v) s'') (fun _ _ => False) s' | _ => False) { s with toks := s.toks + 1 }) :
    wpAny (model prog w) A (getAttr? (.ref x) name) Q E s := by
  obtain ⟨hh, g, d, t, os⟩ := s
  have L0 := I.type (M := model prog w)
  have L1 := looks_findIn (M := model prog w) X hga
  have L2 := looks_findIn (M := model prog w) X hk
  unfold getAttr? getAttrBy? getAttrBy
  refine wpAny_bind (wpAny_mkText (wpAny_bind (wpAny_attempt (wpAny_holding (wpAny_bind (L0.at (wpAny_bind (L1.at ?_))))))))
  dsimp only
  rw [if_neg (show ¬ ((onTheHeap (Value.ref D) && Value.builtin "BaseException.__getattribute__" == Value.builtin "object.__getattribute__") = true) from by
    rw [show (Value.builtin "BaseException.__getattribute__" == Value.builtin "object.__getattribute__") = false from by decide +kernel, Bool.and_false]; exact Bool.false_ne_true)]
  unfold getAttrByItsOwn hookBefore
  refine wpAny_bind (show wpAny _ A (typeLookup (.ref D) "__getattr__") _ _ _ from L2.at ?_)
  unfold callGetattribute
  simp only [Bool.false_and, Bool.false_eq_true, if_false, Option.toList_none]
  refine wpAny_bind (wpAny_attempt (wpAny_holding ?_))
  unfold boundAndCalled
  refine wpAny_bind (wpAny_of_eq (be_bind _) ?_)
  dsimp only
  refine wpAny_call (codeAny_mono h fun r s' z => ?_)
  cases r with
  | error e => exact z.elim
  | ok f =>
    cases f with
    | ret v => exact wpAny_mono z (fun _ _ q => wpAny_pure q) fun _ _ q => q.elim
    | _ => exact z.elim
theorem be_call {R : Result → Shared → Prop} {tk : Tok} {g a : Value} (X : K.In s.heap) (I : InstAt s.heap x ox D odo) (hs : subIn K (.ref D) (.type "BaseException") = some true) (hf : findObj K D odo name = some (.bind g a))
    (h : codeAny (model prog w) A.in1 (.call g ⟨[a, .ref x, .ref D], []⟩) (fun r s' => match r with | .ok (.ret v) => R (.ok (.ret v)) s' | _ => False) s) :
    codeAny (model prog w) A (.call (.builtin "BaseException.__getattribute__") ⟨[.ref x, .str name tk], []⟩) R s := by
  obtain ⟨hh, gg, d, t, os⟩ := s
  have L0 := I.type (M := model prog w)
  have L1 := looks_find (M := model prog w) X I hf
  have LS : Looks (model prog w) hh (isInstance (.ref x) (.type "BaseException")) true := L0.andThen (looks_subIn X hs)
  have hk : builtinKind "BaseException.__getattribute__" = some .slot := by decide +kernel
  have hsplit : splitId "BaseException.__getattribute__" = some ("BaseException", "__getattribute__") := by decide +kernel
  have ha := F.args_bexc_ga (.ref x) (.str name tk)
  refine codeAny_call_builtin (by decide +kernel) F.entry_bexc_ga ?_
  simp only [checkBuiltinCall, hk, hsplit]
  refine wpAny_bind (LS.at ?_)
  repeat (any_goals (first | assumption | with_reducible refine wpAny_bind (L0.at ?_) | with_reducible refine wpAny_bind (L1.at ?_) | wp_step))
  refine codeAny_mono h fun r s' z => ?_
  cases r with
  | error e => exact z.elim
  | ok f =>
    cases f with
    | ret v => exact wpAny_pure z
    | _ => exact z.elim
/-- what isinstance asks of an exception's class -/
structure IsE (K : Frag) (T : Addr) : Prop where
  ga : findIn K (.ref T) "__getattribute__" = some (some (.builtin "BaseException.__getattribute__"))
  gt : findIn K (.ref T) "__getattr__" = some none
  sub : subIn K (.ref T) (.type "BaseException") = some true
  cls : (clsIn K T).isSome = true
  find : findIn K (.ref T) "__class__" = some (some (.builtin "object.__class__"))
  spec : specialIn K (.builtin "object.__class__") "__get__" = some (some (.builtin "getset_descriptor.__get__"))
  take : takesIn K (.builtin "object.__class__") = some true
  mro : mroIn K T (.type "object") = some true
theorem kitx_exc {e T t : Addr} {x : Value} (I : IsE K T) : KitX K (.ref e) (.ref T) (fun h => h.get? e = some (excO T t x)) where
  ty := fun _ _ _ p => (Looks.ld p).andThen .now
  it := fun _ _ X _ => by
    obtain ⟨cd, hcD⟩ := Option.isSome_iff_exists.mp I.cls
    unfold clsIn at hcD
    split at hcD
    · rename_i c' d' cd' sl' ho
      intro A' Q' E' s' k q
      unfold isType loadHead
      exact wpAny_bind (wpAny_loadPart (k _ _ (X _ _ ho)) (wpAny_pure q))
    · cases hcD
  ne := fun h tp dd its n sl X htp => by
    obtain ⟨cd, hcD⟩ := Option.isSome_iff_exists.mp I.cls
    refine Bool.eq_false_iff.mpr fun q => ?_
    have e : T = tp := Value.ref.inj (beq_iff_eq.mp q)
    subst e
    unfold clsIn at hcD
    split at hcD
    · rename_i c' d' cd' sl' ho
      have z := (X _ _ ho).symm.trans htp
      cases z
    · cases hcD
  ca := fun {prog w A E Q s} X p k => by
    have J : InstAt s.heap e (excO T t x) T none := ⟨p, rfl, rfl, trivial⟩
    exact kin_openE X J I.ga I.gt (be_call (s := { s with toks := s.toks + 1 }) X J I.sub (findObj_none I.cls I.find I.spec I.take)
      (class_get (s := { s with toks := s.toks + 1 }) (ox := excO T t x) (od := none) X J I.mro (handed_on rfl k)))
end
section
variable {C : Cx} {n : Nat} {ν : Nu} {Q : D → Nu → Prop}
theorem TC_isiE {e T t : Addr} {x c : Value} {b : Bool} (I : IsE C.K T) (hr : ν e = some (.raw (excO T t x))) (hc : kitOne C.K (.ref T) c = some b) (h : Q (.bool b) ν) : TC C n (.builtin "isinstance") [.ref e, .val c] ν Q := by
  intro A s vs hA R hb hv
  have hq := RVs.cons_inv hv; clear hv; obtain ⟨_, _, rfl, hv, hr2⟩ := hq
  have hq := RVs.cons_inv hr2; clear hr2; obtain ⟨_, _, rfl, hx, hr3⟩ := hq
  have hq := RVs.nil_inv hr3; clear hr3; subst hq
  have hq := RV.ref_inv hv; clear hv; subst hq
  have hq := RV.val_inv hx; clear hx; subst hq
  exact kia_one (kitx_exc I) (fun a o e => R.keep _ _ (C.inK _ _ e)) (R.at_ _ _ hr).1 hc (by intro q; cases q) fun tk => postV_toks R (.bool b) h
end
end Mine

namespace Mine
open PySem PyProof.Rows PySem.W
theorem law_callG {C : Cx} (hN : C.hd = none) {s₁ : Shared} {a fa : Addr} {vs : List Value} {ns : List Int} {n : Nat} (hb : C.base = s₁.heap) (hL : s₁.heap.get? a = some (lstObj vs 0)) (hI : IntsAre vs ns) (hg : s₁.gens = #[]) (hn : n ≤ 200)
    {c : ClaimW} {cl : Str → Option Addr} {mean : ExcName → Option Value} {args : List WData} (hr : ∀ cls, c.raises args cls = false) (hp : c.post args (.bool true) args = true)
    (h : GK C n (.ref fa) [.ref a] (nu0 a ns) (fun d _ => d = .bool true) (fun _ _ => False)) : codeAny (model C.prog C.w) callerA (.call (.ref fa) ⟨[.ref a], []⟩) (GoodWG c cl mean args s₁) s₁ := by
  have R : Ref C (nu0 a ns) s₁.heap := by
    refine ⟨fun b o e => hb ▸ e, fun b o e => ?_, fun b o e hs _ => ?_⟩
    · unfold nu0 at e; split at e
      · rename_i q; subst q; cases e; exact ⟨vs, 0, hL, ints_rvs hI⟩
      · cases e
    · unfold nu0 at e; split at e
      · cases e; exact absurd rfl (hs _)
      · cases e
  refine codeAny_mono (h callerA [] s₁ [.ref a] ⟨hN.symm, by show 1 + claimMargin + n < 990; unfold claimMargin; omega, by show 4 + 30 * n < 9800; omega⟩ rfl (fun _ z => nomatch z) R (by rw [hb]; exact Nat.le_refl _) (.cons (.ref a) .nil)) fun r s' z => GoodW.toG ?_
  cases r with
  | error e =>
    obtain ⟨_, _, _, _, _, _, _, _, _, _, _, q⟩ := z
    exact q.elim
  | ok f =>
    cases f with
    | ret v =>
      obtain ⟨d, ν', rv, R', x', rfl⟩ := z
      cases rv
      obtain ⟨h', t', rfl⟩ := x'.eq
      exact ⟨.inl ⟨.bool true, .bool true, [], rfl, hr, .bool true, hp, fun _ => ⟨.nil, fun _ h => nomatch h⟩⟩, fun b o e => R'.keep b o (hb ▸ e), rfl, hg⟩
    | _ => exact z.elim
end Mine

namespace Mine
open PySem PyProof.Rows PySem.W

section
variable {C : Cx} {n : Nat} {sc : Scope} {l : Loc} {ν : Nu}
/-- a local name takes a list of what a for yields, on one line -/
theorem TS_assignComp {y₀ : Str} {py spos : Pos} {elt target iter : Expr} {ifs : List Expr} {scope : Scope} {pos} {Q : Fl → Loc → Nu → Prop} (hy : sc.names.lookup y₀ = some .local) (hline : py.line = pos.line) (hno : (scope.names.any fun (n, k) => n == y₀ && (k == .local || k == .cell)) = false) (lc : Loc)
    (hlc : ∀ y d, lk lc y = some d → lk l y = some d ∧ scope.names.lookup y = some .free)
    (hcell : ∀ y ∈ scope.names, y.2 ≠ .cell) (hfree : ∀ y ∈ scope.names, y.2 = .free → sc.names.lookup y.1 = some .cell) (hkind : scope.kind = .function)
    (hnames : ∀ y ∈ scope.names, y.2 = .local → scope.names.lookup y.1 = some .local)
    (h : TE C n sc iter l ν (fun d ν₁ => ∃ N item, Itb C n d ν₁ N item ∧ N ≤ 100000 ∧ ∃ g : Nat → Option D,
      (∀ i, i < N → ∀ r xs, ν₁ r = none → TGl C n (relS scope sc) target (item i) lc (upd ν₁ r (.lst xs)) (fun l₁ => Sub lc l₁ ∧ TIfs C n (relS scope sc) ifs l₁ (upd ν₁ r (.lst xs)) (fun b ν₂ => ν₂ = upd ν₁ r (.lst xs) ∧
        if b = true then TE C n (relS scope sc) elt l₁ (upd ν₁ r (.lst xs)) (fun y ν₃ => ν₃ = upd ν₁ r (.lst xs) ∧ g i = some y) else g i = none))) ∧
      ∀ r, ν₁ r = none → Q .next (put l y₀ (.ref r)) (upd ν₁ r (.lst ((List.range N).filterMap g)))))
    (hs : ∀ env x, foldedSetIterable iter env x = pure x) : TS C n sc (.Assign [.Name y₀ py] (.ListComp elt [⟨target, iter, ifs, 0⟩] scope pos) spos) l ν Q := by
  intro A env s hA R F
  have hsw : swapsWith (.ListComp elt [⟨target, iter, ifs, 0⟩] scope pos) (some (.Name y₀ py)) spos.line env = pure true := by
    have k1 : env.blockKind = .function := by unfold Env.blockKind; rw [F.scope, F.kind]; rfl
    have k2 : env.kindOf y₀ = some .local := by unfold Env.kindOf; rw [F.scope]; exact hy
    show (pure (env.blockKind == .function && env.kindOf y₀ == some .local && py.line == pos.line && !(scope.names.any fun (n, k) => n == y₀ && (k == .local || k == .cell))) : Sem Bool) = pure true
    rw [k1, k2, hline, hno, beq_self_eq_true pos.line]; rfl
  rw [exec_Assign_Name_used _ _ _ _ hsw]
  refine wpAny_bind (wpAny_standAt (wpAny_bind ?_))
  show wpAny _ A (do let _ ← comprehension (.ListComp elt [⟨target, iter, ifs, 0⟩] scope pos) scope env _ (newList []) false (eval iter env) (some (assign (.Name y₀ py) env))) _ _ s
  refine wpAny_bind (wpAny_mono (Q := fun _ s' => PostS C env sc ν s Q .next s') ?_ (fun _ s' hq => wpAny_pure (wpAny_pure hq)) fun _ _ e => e)
  obtain ⟨cl, hcl, c1, c2⟩ := clos_ok (env := env) (scope := scope) (fun p hp hk => F.cells p.1 (hfree p hp hk))
  refine wpAny_comprehension_free (use := some (assign (.Name y₀ py) env)) (Q := fun _ s' => PostS C env sc ν s Q .next s') rfl (hs env) hcl hkind hnames (wpAny_mono (h A env s hA R F) ?_ fun _ _ x => x)
  rintro v s₁ ⟨d, ν₁, hv, R₁, x₁, N, item, ⟨src, hsrc, hit⟩, hN, g, turn, fin⟩
  have F₁ := F.fro R x₁
  obtain ⟨At, W, self, it⟩ := hit A s₁ v hA R₁ hv
  refine it _ _ fun o hfr hAt => ?_
  refine wpAny_newObj_type (wpAny_newFunctionEnv hcell (by intro y hy; simp at hy) (fun h₁ hns hsb => ?_) hkind)
  dsimp only at hns hsb ⊢
  generalize hI : s₁.heap.objs.size = I at *
  generalize hH1 : s₁.heap.push o = H1 at *
  have sI : H1.objs.size = I + 1 := by rw [← hH1, Heap.size_push, hI]
  generalize hH2 : H1.push { cls := .type "list", dict := none, data := .seq ([] : List Value).toArray } = H2 at *
  have sD : H2.objs.size = I + 2 := by rw [← hH2, Heap.size_push, sI]
  have gI : H1.get? I = some o := by rw [← hH1, ← hI]; exact Heap.get?_push_size _ hfr
  have R₂ : Ref C ν₁ H1 := hH1 ▸ R₁.push o
  have hz : C.base.objs.size ≤ I := hI ▸ F₁.baseLe
  have R₃ : Ref C (upd ν₁ (I + 1) (.lst [])) H2 := by
    have := R₂.alloc (o := .lst []) (ob := { cls := .type "list", dict := none, data := .seq ([] : List Value).toArray }) ⟨[], 0, Heap.get?_push_size _ rfl, .nil⟩ (by rw [sI]; exact Nat.le_succ_of_le hz)
    rw [sI, hH2] at this; exact this
  rw [sD] at hns hsb
  rw [sD, sI]
  have old2 : ∀ b o, H2.get? b = some o → h₁.get? b = some o := fun b o e => hsb.extBut b o (Nat.ne_of_lt (Nat.lt_of_lt_of_eq (Heap.lt_size e) sD)) (Heap.get?_push_of_some _ e)
  have old1 : ∀ b o, H1.get? b = some o → h₁.get? b = some o := fun b o e => old2 b o (hH2 ▸ Heap.get?_push_of_some _ e)
  have old0 : ∀ b o, s₁.heap.get? b = some o → h₁.get? b = some o := fun b o e => old1 b o (hH1 ▸ Heap.get?_push_of_some _ e)
  have dead : ∀ b, I ≤ b → s₁.heap.get? b = none := fun b hb => by
    cases q : s₁.heap.get? b with
    | none => rfl
    | some o => exact absurd (Heap.lt_size q) (by rw [hI]; exact Nat.not_lt.mpr hb)
  have nuN : ∀ b, I ≤ b → ν₁ b = none := fun b hb => by
    cases q : ν₁ b with
    | none => rfl
    | some o => exact absurd (R₁.at_ _ _ q).lt (by rw [hI]; exact Nat.not_lt.mpr hb)
  have R₄ : Ref C (upd ν₁ (I + 1) (.lst [])) h₁ := R₃.keepAll old2
  have nuR : ∀ (xs : List D) b, I ≤ b → b ≠ I + 1 → upd ν₁ (I + 1) (.lst xs) b = none := fun xs b hb hne => by rw [upd_other hne]; exact nuN b hb
  obtain ⟨cenv, hce⟩ : ∃ e, e = compEnvC scope cl (I + 2) env := ⟨_, rfl⟩
  have eL : cenv.locals = I + 2 := by rw [hce]; rfl
  have eS : cenv.scope = relS scope sc := by rw [hce]; exact relabel_eq F.scope
  have eG : cenv.globals = mainGlobals := by rw [hce]; exact F.glob
  have eC : cenv.cells = cl := by rw [hce]; rfl
  have eB : cenv.builtins = builtinsNs := by rw [hce]; exact F.blt
  have lcs : ∀ y d, lk lc y = some d → (relS scope sc).names.lookup y = some .cell ∧ ∃ c, cl.lookup y = some c := fun y d e => by
    obtain ⟨e1, e2⟩ := hlc y d e
    refine ⟨?_, c2 y e2⟩
    rw [relS_lookup, e2]
    have : sc.names.lookup y = some .cell := by
      have hm : (y, NameKind.free) ∈ scope.names := mem_of_lookup e2
      exact hfree _ hm rfl
    simp [this, F.kind]
  have F₄ : ∀ xs, Frm C cenv (relS scope sc) lc (upd ν₁ (I + 1) (.lst xs)) h₁ := fun xs => by
    refine ⟨eS, hkind, eG, eB, ⟨_, eL ▸ hns, fun y d e hk => ?_⟩, fun y c hc => ?_, fun y d e => .inr ⟨.inl (lcs y d e).1, eC ▸ (lcs y d e).2⟩, fun y hy => ?_, by rw [eL]; exact nuR xs _ (Nat.le_add_right I 2) (Nat.ne_of_gt (Nat.lt_succ_self (I + 1))), fun y c hc => ?_, fun y z c h1 h2 => ?_, by rw [eL]; exact Nat.le_trans hz (Nat.le_add_right I 2), fun y c hc => ?_⟩
    · rw [(lcs y d e).1] at hk; cases hk
    · rw [eC] at hc
      obtain ⟨v, ⟨oc, hoc, hdc⟩, q⟩ := F₁.cell y c (c1 y c hc)
      refine ⟨v, ⟨oc, old0 _ _ hoc, hdc⟩, fun d e _ => ?_⟩
      obtain ⟨e1, e2⟩ := hlc y d e
      have hc' : sc.names.lookup y = some .cell := hfree _ (mem_of_lookup e2) rfl
      obtain ⟨u, e3, e4⟩ := q d e1 (by rw [hc']; simp)
      exact ⟨u, e3, e4.keep fun a o e _ => old0 a o e⟩
    · rw [eC]
      rw [relS_lookup] at hy
      cases q : scope.names.lookup y with
      | none => rw [q] at hy; cases hy
      | some k =>
        rw [q] at hy
        by_cases hk : k = .free
        · subst hk; exact c2 y q
        · exact absurd (show k = .cell by simpa [hk] using hy) (hcell _ (mem_of_lookup q))
    · rw [eC] at hc
      rw [upd_other]
      · exact F₁.nuC y c (c1 y c hc)
      · exact Nat.ne_of_lt (Nat.lt_succ_of_lt (Nat.lt_of_lt_of_eq (F₁.ltC (c1 y c hc)) hI))
    · rw [eC] at h1 h2; exact F₁.apart y z c (c1 y c h1) (c1 z c h2)
    · rw [eC] at hc; exact F₁.aboveC y c (c1 y c hc)
  have nfI : ¬ fr cenv I := by
    rintro (q | ⟨y, hy⟩)
    · rw [eL] at q; exact Nat.ne_of_lt (Nat.lt_add_of_pos_right (by decide : 0 < 2)) q
    · rw [eC] at hy; exact absurd (F₁.ltC (c1 y I hy)) (by rw [hI]; exact Nat.lt_irrefl _)
  have dI : s₁.heap.get? I = none := dead I (Nat.le_refl _)
  have loop : codeAny (model C.prog C.w) A (.compLoop (.ListComp elt [⟨target, iter, ifs, 0⟩] scope pos) 0 (.ref I) (.ref (I + 1)) cenv) (compPost (model C.prog C.w) A nev (some (assign (.Name y₀ py) env)) (fun _ s' => PostS C env sc ν s Q .next s') (.ref (I + 1)) (I + 2)) { s₁ with heap := h₁, toks := s₁.toks + ([] : List (Str × Value)).length } := by
    refine compLoop_mine (C := C) (CoI C cenv (relS scope sc) lc ν₁ s₁ I N At g) ?_ N ⟨0, o, (Nat.sub_zero N).symm, Nat.zero_le _, R₄, F₄ [], old1 _ _ gI, hAt, ⟨⟨_, _, rfl⟩, fun b o e _ _ => old0 b o e, fun b o e _ => ⟨o, old0 b o e⟩, fun b o e hn => ?_⟩⟩
    rotate_left
    · rw [upd_other]
      · exact hn
      · exact Nat.ne_of_lt (Nat.lt_succ_of_lt (Nat.lt_of_lt_of_eq (Heap.lt_size e) hI))
    rintro k s' ⟨i, oi, rfl, hi, R', F', gI', hAt', X'⟩
    have nI : upd ν₁ (I + 1) (.lst ((List.range i).filterMap g)) I = none := nuR _ I (Nat.le_refl _) (Nat.ne_of_lt (Nat.lt_succ_self I))
    have nt : ∀ o, s'.heap.get? I = some o → ¬ Imm o := fun o e => by rw [gI'] at e; cases e; exact (W I).tup _ _ hAt'
    by_cases hlt : i < N
    · refine (W I).next A i s' oi _ _ _ hA.1 hlt R' gI' hAt' (hsrc _ _ (nuN _ (Nat.le_succ I))) fun v h' tk o' hv' kk gI2 hAt2 => ?_
      have R2 := R'.sameBut kk nI hz nt
      have F2 := F'.sameBut kk nfI nt
      have X2 : Fro no ν₁ _ s₁ { s' with heap := h', toks := tk } := X'.iter dI kk
      refine (W I).own A _ (i + 1) _ o' _ _ target v gI2 hAt2 ?_
      refine wpAny_mono (turn i hlt (I + 1) ((List.range i).filterMap g) (nuN _ (Nat.le_succ I)) A cenv { s' with heap := h', toks := tk } v hA R2 F2 hv') ?_ fun _ _ x => x
      rintro _ s3 ⟨l3, R3, F3, X3, hsub, q3⟩
      have X3' := X2.thenOwn X3 (fun b o q e => by rw [q, eL, dead _ (Nat.le_add_right I 2)] at e; cases e)
      have gI3 : s3.heap.get? I = some o' := X3.keep I o' gI2 nI (fun q => Nat.ne_of_lt (Nat.lt_add_of_pos_right (by decide : 0 < 2)) (q.trans eL))
      refine wpAny_mono (TIfs_run q3 hA R3 F3) ?_ fun _ _ x => x
      rintro b s4 ⟨_, R4, X4, rfl, q4⟩
      have F4 := F3.fro R3 X4
      have gI4 := X4.keep I o' gI3 nI id
      cases b with
      | false =>
        simp only [Bool.false_eq_true, if_false] at q4 ⊢
        have e5 : (List.range (i + 1)).filterMap g = (List.range i).filterMap g := by rw [List.range_succ, List.filterMap_append]; simp [q4]
        refine ⟨N - (i + 1), Nat.sub_succ_lt_self N i hlt, i + 1, o', rfl, hlt, ?_, ?_, gI4, hAt2, ?_⟩
        · rw [e5]; exact R4
        · rw [e5]; exact F4.sub hsub
        · rw [e5]; exact X3'.trans X4
      | true =>
        simp only [if_true] at q4 ⊢
        refine wpAny_mono (q4 A cenv s4 hA R4 F4) ?_ fun _ _ x => x
        rintro y s5 ⟨dy, _, hy, R5, X5, rfl, q5⟩
        have F5 := F4.fro R4 X5
        have gI5 := X5.keep I o' gI4 nI id
        have len : ((List.range i).filterMap g).length ≤ 100000 := Nat.le_trans (List.length_filterMap_le g (List.range i)) (by rw [List.length_range]; exact Nat.le_trans hi hN)
        refine wpAny_mono (TC_append (C := C) (n := n) (Q := fun _ ν' => ν' = upd ν₁ (I + 1) (.lst ((List.range i).filterMap g ++ [dy]))) upd_same len upd_upd A s5 [.ref (I + 1), y] hA R5 F5.baseLe (.cons (.ref _) (.cons hy .nil))) ?_ fun _ _ x => x
        rintro _ s6 ⟨_, _, _, R6, X6, rfl⟩
        have e6 : (List.range (i + 1)).filterMap g = (List.range i).filterMap g ++ [dy] := by rw [List.range_succ, List.filterMap_append]; simp [q5]
        refine ⟨N - (i + 1), Nat.sub_succ_lt_self N i hlt, i + 1, o', rfl, hlt, ?_, ?_, X6.keep I o' gI5 nI id, hAt2, ?_⟩
        · rw [e6]; exact R6
        · rw [e6]; exact (F5.fro R5 X6).sub hsub
        · rw [e6]; exact ((X3'.trans X4).trans X5).trans X6
    · have hiN : i = N := Nat.le_antisymm hi (Nat.not_lt.mp hlt)
      subst hiN
      refine (W I).done A s' oi _ _ _ hA.1 R' gI' hAt' (hsrc _ _ (nuN _ (Nat.le_succ I))) fun h' tk kk => ?_
      have R2 := R'.sameBut kk nI hz nt
      have F2 := F'.sameBut kk nfI nt
      have X2 : Fro no ν₁ _ s₁ { s' with heap := h', toks := tk } := X'.iter dI kk
      obtain ⟨m2, hn2, _⟩ := F2.ns
      have FE : Frm C env sc l _ h' := F₁.fro R₁ X2
      show wpAny _ A (assign (.Name y₀ py) env (.ref (I + 1))) _ _ { s' with heap := h', toks := tk }
      refine wpAny_assign_Name (store_name (d := .ref (I + 1)) (s := { s' with heap := h', toks := tk }) R2 FE (.inl hy) (.ref _) fun s3 R3 F3 X3 => ?_)
      have nfE : ¬ fr env (I + 2) := by
        rintro (q | ⟨y, hy⟩)
        · obtain ⟨ol, hol⟩ := fr_lt F₁ (.inl rfl : fr env env.locals)
          rw [← q, dead _ (Nat.le_add_right I 2)] at hol; cases hol
        · exact absurd (F₁.ltC hy) (by rw [hI]; exact Nat.not_lt.mpr (Nat.le_add_right I 2))
      have nI2 : upd ν₁ (I + 1) (.lst ((List.range i).filterMap g)) (I + 2) = none := nuR _ _ (Nat.le_add_right I 2) (Nat.ne_of_gt (Nat.lt_succ_self (I + 1)))
      have hn3 : s3.heap.Ns (I + 2) m2 := Heap.Ns.at' (eL ▸ hn2) fun o e => X3.keep (I + 2) o e nI2 nfE
      refine ⟨m2, hn3, fun h'' sb => ?_⟩
      have nt2 : ∀ o, s3.heap.get? (I + 2) = some o → ¬ Imm o := fun o e => by
        obtain ⟨o2, _, _, e2, _⟩ := hn2
        have e2' : h'.get? (I + 2) = some o2 := eL ▸ e2
        have e3 := X3.keep (I + 2) o2 e2' nI2 nfE
        rw [e3] at e; cases e
        exact F2.notTup _ _ (.inl eL.symm) e2'
      have k2 : ∀ b o, b ≠ I + 2 → s3.heap.get? b = some o → h''.get? b = some o := fun b o hb e => (sb.2 b hb).trans e
      have X4 := (X2.toFr (own := fr env)).trans X3
      exact ⟨.next, _, _, .next, R3.sameBut k2 nI2 (Nat.le_trans hz (Nat.le_add_right I 2)) nt2, F3.sameBut k2 nfE nt2, x₁.toFr.trans (X4.iter (dead _ (Nat.le_add_right I 2)) k2), fin _ (nuN _ (Nat.le_succ I))⟩
  show codeAny _ _ (.compStart _ 0 (.ref I) (.ref (I + 1)) (compEnvC scope cl (I + 2) env)) (compPost (model C.prog C.w) A nev (some (assign (.Name y₀ py) env)) (fun _ s' => PostS C env sc ν s Q .next s') (.ref (I + 1)) (I + 2)) _
  rw [← hce]
  exact codeAny_compStart_list loop (self _ _ I o _ _ (old1 _ _ gI) hAt loop)
end
end Mine

namespace Mine
open PySem PyProof.Rows PySem.W
section
variable {C : Cx} {n : Nat} {sc : Scope} {l : Loc} {ν : Nu} {Q : D → Nu → Prop} {X : Addr → Nu → Prop}
end
end Mine

namespace Mine
open PySem PyProof.Rows PySem.W
section
variable {C : Cx} {n : Nat} {sc : Scope} {l : Loc} {ν : Nu} {env : Env} {outer : List Env}
end
end Mine

namespace Mine
open PySem PyProof.Rows PySem.W
open Builtin Builtin.Str
-- texts as lists of signs
noncomputable def tx (cs : List Nat) : Str := ⟨cs.toArray⟩
noncomputable def Asc (cs : List Nat) : Prop := ∀ c ∈ cs, c < 128
theorem tx_length (cs : List Nat) : (tx cs).length = cs.length := by show cs.toArray.size = _; simp
theorem tx_size (cs : List Nat) : (tx cs).cps.size = cs.length := by show cs.toArray.size = _; simp
theorem tx_all {cs : List Nat} (h : Asc cs) : (tx cs).cps.all (· < 128) = true := by
  show cs.toArray.all _ = true
  rw [List.all_toArray, List.all_eq_true]
  exact fun c hc => decide_eq_true (h c hc)
theorem tx_get {cs : List Nat} {i c : Nat} (h : cs[i]? = some c) : (tx cs).cps.getD i 0 = c := by
  show cs.toArray.getD i 0 = c
  simp [Array.getD_eq_getD_getElem?, h]
theorem tx_get? {cs : List Nat} {i : Nat} : (tx cs).cps[i]? = cs[i]? := by show cs.toArray[i]? = _; simp
theorem tx_append (a b : List Nat) : tx a ++ tx b = tx (a ++ b) := by
  show (⟨a.toArray ++ b.toArray⟩ : Str) = ⟨(a ++ b).toArray⟩
  simp
theorem tx_one (c : Nat) : (⟨#[c]⟩ : Str) = tx [c] := rfl
theorem tx_inj {a b : List Nat} (h : tx a = tx b) : a = b := by
  have : a.toArray = b.toArray := congrArg Str.cps h
  simpa using congrArg Array.toList this
theorem tx_nil : Str.ofString "" = tx [] := by decide +kernel
theorem tx_nought : Str.ofString "0" = tx [48] := by decide +kernel
theorem tx_eqNil (cs : List Nat) : decide (tx cs = Str.ofString "") = decide (cs = []) := by
  rw [tx_nil]
  exact decide_eq_decide.mpr ⟨tx_inj, fun e => by rw [e]⟩
theorem tx_eqNought (c : Nat) : decide ((⟨#[c]⟩ : Str) = Str.ofString "0") = decide (c = 48) := by
  rw [tx_nought, tx_one]
  exact decide_eq_decide.mpr ⟨fun e => by simpa using tx_inj e, fun e => by rw [e]⟩
noncomputable def sgL : List Nat := [48, 49, 50, 51, 52, 53, 54, 55, 56, 57, 97, 98, 99, 100, 101, 102]
noncomputable def fig (c : Nat) : Int := Txt.find (tx sgL) ⟨#[c]⟩
theorem sig_tx : Str.ofString "0123456789abcdef" = tx sgL := by decide +kernel
theorem sig_cut : ∀ b < 17, Txt.slice (tx sgL) none (some ((b : Nat) : Int)) = tx (sgL.take b) := by decide +kernel
noncomputable def figT (c : Nat) : Int := if 48 ≤ c ∧ c < 58 then (c : Int) - 48 else if 97 ≤ c ∧ c < 103 then (c : Int) - 87 else -1
theorem fig_tab : ∀ c < 128, fig c = figT c := by decide +kernel
theorem all_lt {P : Nat → Prop} {n : Nat} (h : ∀ b < n, P b) (hn : P n) : ∀ b < n + 1, P b := fun b hb => (Nat.lt_or_eq_of_le (Nat.le_of_lt_succ hb)).elim (h b) fun e => e ▸ hn
theorem good_tab : ∀ b < 17, ∀ c < 128, Txt.find (tx (sgL.take b)) ⟨#[c]⟩ = if figT c < (b : Int) then figT c else -1 := by
  iterate 17 refine all_lt (P := fun b => ∀ c < 128, Txt.find (tx (sgL.take b)) ⟨#[c]⟩ = if figT c < (b : Int) then figT c else -1) ?_ (by decide +kernel)
  exact fun _ h => absurd h (Nat.not_lt_zero _)
theorem fig_range (c : Nat) (hc : c < 128) : -1 ≤ fig c ∧ fig c < 16 := by
  rw [fig_tab c hc]; unfold figT
  split
  · omega
  · split <;> omega
theorem fig_good (b : Nat) (hb : b < 17) (c : Nat) (hc : c < 128) : Txt.find (tx (sgL.take b)) ⟨#[c]⟩ = if fig c < (b : Int) then fig c else -1 := by rw [good_tab b hb c hc, fig_tab c hc]
noncomputable def signs : Str := Str.ofString "abcdefghijklmnopqrstuvwxyzABCDEFGHIJKLMNOPQRSTUVWXYZ0123456789" ++ Str.ofString " !\"#$&'()*+,-./:;<=>?\x40[\\]^_`{|}~\n\t"
theorem signs_all : signs.cps.all (· < 128) = true ∧ signs.cps.size = 96 := by decide +kernel
theorem sign_at (k : Nat) (hk : k < 96) : ∃ z, signs.cps[k]? = some z ∧ z < 128 := by
  have h := signs_all
  refine ⟨signs.cps[k]'(by rw [h.2]; exact hk), by simp [h.2, hk], ?_⟩
  have := Array.all_eq_true.mp h.1 k (by rw [h.2]; exact hk)
  simpa using this
noncomputable def stepD (b : Nat) (m : Option Nat) (c : Nat) : Option Nat := match m with
  | none => none
  | some k => if 0 ≤ fig c ∧ fig c < (b : Int) then some (k * b + (fig c).toNat) else none
noncomputable def acc (b : Nat) (cs : List Nat) : Option Nat := cs.foldl (stepD b) (some 0)
theorem acc_take {b : Nat} {cs : List Nat} {i c : Nat} (h : cs[i]? = some c) : acc b (cs.take (i + 1)) = stepD b (acc b (cs.take i)) c := by
  unfold acc; rw [List.take_add_one, h, List.foldl_append]; rfl
theorem acc_stuck (b : Nat) : ∀ cs : List Nat, cs.foldl (stepD b) none = none
  | [] => rfl
  | _ :: r => acc_stuck b r
theorem acc_none {b : Nat} {cs : List Nat} {i : Nat} (h : acc b (cs.take i) = none) : acc b cs = none := by
  unfold acc at *
  rw [← List.take_append_drop i cs, List.foldl_append, h, acc_stuck]
theorem acc_lt {b : Nat} (hb : 2 ≤ b) : ∀ (i : Nat) (cs : List Nat) (m : Nat), acc b (cs.take i) = some m → m < b ^ i
  | 0, cs, m, h => by simp [acc] at h; subst h; simp
  | i + 1, cs, m, h => by
    cases q : cs[i]? with
    | none =>
      have hl : cs.length ≤ i := by simpa using q
      have e : cs.take (i + 1) = cs.take i := by rw [List.take_of_length_le (by omega), List.take_of_length_le hl]
      rw [e] at h
      exact Nat.lt_of_lt_of_le (acc_lt hb i cs m h) (Nat.pow_le_pow_right (by omega) (Nat.le_succ i))
    | some c =>
      rw [acc_take q] at h
      cases z : acc b (cs.take i) with
      | none => rw [z] at h; cases h
      | some k =>
        rw [z] at h
        unfold stepD at h
        dsimp only at h
        by_cases hc : 0 ≤ fig c ∧ fig c < (b : Int)
        · rw [if_pos hc] at h
          cases h
          have hk := acc_lt hb i cs k z
          have h2 : (fig c).toNat < b := by omega
          calc k * b + (fig c).toNat < k * b + b := by omega
            _ = (k + 1) * b := by rw [Nat.add_mul, Nat.one_mul]
            _ ≤ b ^ i * b := Nat.mul_le_mul_right _ hk
            _ = b ^ (i + 1) := rfl
        · rw [if_neg hc] at h; cases h
abbrev Head0 (cs : List Nat) : Prop := cs.head? = some 48 ∧ 1 < cs.length
theorem head_dec {cs r0 : List Nat} {c0 : Nat} (ec : cs = c0 :: r0) : decide (cs = [] ∨ Head0 cs) = (decide (c0 = 48) && decide (1 < cs.length)) := by
  subst ec
  by_cases h : c0 = 48
  · subst h; simp [Head0]
  · simp [Head0, h]
noncomputable def dueV (b : Nat) (cs : List Nat) : Int := if cs = [] ∨ Head0 cs then -1 else match acc b cs with
  | some m => (m : Int)
  | none => -1
theorem due_bad {b : Nat} {cs : List Nat} (h : cs = [] ∨ Head0 cs) : dueV b cs = -1 := if_pos h
theorem due_none {b : Nat} {cs : List Nat} (h : acc b cs = none) : dueV b cs = -1 := by unfold dueV; split; rfl; rw [h]
theorem due_some {b m : Nat} {cs : List Nat} (h : ¬ (cs = [] ∨ Head0 cs)) (e : acc b cs = some m) : dueV b cs = m := by unfold dueV; rw [if_neg h, e]
theorem acc_small {b i m : Nat} {cs : List Nat} (hb : 2 ≤ b) (h2 : b ≤ 16) (hi : i ≤ 900) (h : acc b (cs.take i) = some m) : (m : Int).natAbs < 2 ^ 10000 := by
  rw [Int.natAbs_natCast]
  refine Nat.lt_of_lt_of_le (acc_lt hb i cs m h) ?_
  refine Nat.le_trans (Nat.pow_le_pow_left h2 i) (Nat.le_trans (Nat.pow_le_pow_right (by decide) hi) ?_)
  rw [show (16 : Nat) = 2 ^ 4 from rfl, ← Nat.pow_mul]
  exact Nat.pow_le_pow_right (by decide) (by decide)
/-- the classes of the text, as NoNumber stands to them -/
structure NoF (C : Cx) (T TB TL TR TF : Addr) : Prop where
  own : OwnCls (Str.ofString "NoNumber") T [.type "ValueError", .type "Exception", .type "BaseException", .type "object"] "ValueError.__new__" C.mg C.base
  isE : IsE C.K T
  gB : C.mg (Str.ofString "NoBase") = some (.ref TB)
  gL : C.mg (Str.ofString "Late") = some (.ref TL)
  gR : C.mg (Str.ofString "Bare") = some (.ref TR)
  gF : C.mg (Str.ofString "FallError") = some (.ref TF)
  kB : kitOne C.K (.ref T) (.ref TB) = some false
  kN : kitOne C.K (.ref T) (.ref T) = some true
  kL : kitOne C.K (.ref T) (.ref TL) = some false
  kR : kitOne C.K (.ref T) (.ref TR) = some false
  kV : kitOne C.K (.ref T) (.type "ValueError") = some true
  xN : exmOne C.K (.ref T) (.ref T) = some true
  xF : exmOne C.K (.ref T) (.ref TF) = some true
theorem asc_snoc {cs : List Nat} {c : Nat} (h : Asc cs) (hc : c < 128) : Asc (cs ++ [c]) := fun z hz => by
  rcases List.mem_append.mp hz with q | q
  · exact h z q
  · rw [List.mem_singleton.mp q]; exact hc
theorem asc_app {cs ds : List Nat} (h : Asc cs) (h' : Asc ds) : Asc (cs ++ ds) := fun z hz => (List.mem_append.mp hz).elim (h z) (h' z)
theorem sg_at (k : Nat) (hk : k < 16) : ∃ c, (Str.ofString "0123456789abcdef").cps[k]? = some c ∧ c < 128 := by
  rw [sig_tx, tx_get?]
  have : ∀ k < 16, ∃ c, sgL[k]? = some c ∧ c < 128 := by
    intro k hk
    have hl : sgL.length = 16 := rfl
    exact ⟨sgL[k], List.getElem?_eq_getElem (by rw [hl]; exact hk), (by decide : ∀ z ∈ sgL, z < 128) _ (List.getElem_mem _)⟩
  exact this k hk
theorem sg17_at (k : Nat) (hk : k < 17) : ∃ c, (Str.ofString "0123456789abcdefg").cps[k]? = some c ∧ c < 128 := by
  have e : Str.ofString "0123456789abcdefg" = tx (sgL ++ [103]) := by decide +kernel
  rw [e, tx_get?]
  have hl : (sgL ++ [103]).length = 17 := rfl
  exact ⟨(sgL ++ [103])[k], List.getElem?_eq_getElem (by rw [hl]; exact hk), (by decide : ∀ z ∈ sgL ++ [103], z < 128) _ (List.getElem_mem _)⟩
noncomputable def mostL : List Int := [830, 523, 415, 357, 321, 295, 276, 261, 250, 240, 231, 224, 218, 212, 207]
theorem most_at {b : Nat} (h1 : 2 ≤ b) (h2 : b ≤ 16) : ∃ m : Nat, (mostL.map D.int)[((b : Int) - 2).toNat]? = some (.int m) ∧ 0 < m ∧ m ≤ 830 := by
  obtain ⟨k, hk, hk'⟩ : ∃ k, ((b : Int) - 2).toNat = k ∧ k < 15 := ⟨_, rfl, by omega⟩
  rw [hk]
  have : ∀ k < 15, ∃ m, m ≤ 830 ∧ 0 < m ∧ mostL[k]? = some ((m : Nat) : Int) := by
    intro k hk
    match k, hk with
    | 0, _ => exact ⟨830, by decide, by decide, rfl⟩
    | 1, _ => exact ⟨523, by decide, by decide, rfl⟩
    | 2, _ => exact ⟨415, by decide, by decide, rfl⟩
    | 3, _ => exact ⟨357, by decide, by decide, rfl⟩
    | 4, _ => exact ⟨321, by decide, by decide, rfl⟩
    | 5, _ => exact ⟨295, by decide, by decide, rfl⟩
    | 6, _ => exact ⟨276, by decide, by decide, rfl⟩
    | 7, _ => exact ⟨261, by decide, by decide, rfl⟩
    | 8, _ => exact ⟨250, by decide, by decide, rfl⟩
    | 9, _ => exact ⟨240, by decide, by decide, rfl⟩
    | 10, _ => exact ⟨231, by decide, by decide, rfl⟩
    | 11, _ => exact ⟨224, by decide, by decide, rfl⟩
    | 12, _ => exact ⟨218, by decide, by decide, rfl⟩
    | 13, _ => exact ⟨212, by decide, by decide, rfl⟩
    | 14, _ => exact ⟨207, by decide, by decide, rfl⟩
  obtain ⟨m, a, b, c⟩ := this k hk'
  exact ⟨m, by rw [List.getElem?_map, c]; rfl, b, a⟩
theorem slice_asc {cs : List Nat} (ha : Asc cs) (lo hi : Option Int) : ∃ ds, Txt.slice (tx cs) lo hi = tx ds ∧ Asc ds ∧ ds.length ≤ cs.length := by
  have hl := Txt.slice_le (tx cs) lo hi
  rw [tx_length] at hl
  unfold Txt.slice at hl ⊢
  split at hl
  · rename_i q; rw [if_pos q]; exact ⟨cs, rfl, ha, Nat.le_refl _⟩
  · rename_i q; rw [if_neg q]
    refine ⟨_, rfl, fun c hc => ?_, ?_⟩
    · obtain ⟨i, _, hi⟩ := List.mem_filterMap.mp hc
      rw [tx_get?] at hi
      exact ha c (List.mem_of_getElem? hi)
    · rw [← tx_length]; exact hl
theorem bb_ValueError : bootBuiltins "ValueError" = some (.type "ValueError") := by decide +kernel
theorem T2_modN {C : Cx} {n : Nat} {ν : Nu} {Q : D → Nu → Prop} {a : Int} {b : Nat} (hb : 2 ≤ b) (h : ∀ k : Nat, k < b → Q (.int k) ν) : T2 C n (binaryOp .Mod) (.int a) (.int b) ν Q := by
  refine T2_mod (nz hb) ?_
  have f := fmod_pos a (b := (b : Int)) (by omega)
  obtain ⟨k, hk⟩ := toN f.1
  rw [hk] at f ⊢
  exact h k (by omega)
end Mine

open PySem PySem.W PyProof.Rows
set_option maxRecDepth 100000
set_option maxHeartbeats 8000000
namespace Mine
open PySem PySem.W PyProof.Rows
noncomputable def clsB (s : Stmt) : List Stmt := match s with
  | .ClassDef _ _ _ b _ _ _ _ _ _ _ => b
  | _ => []
noncomputable def st (i : Nat) : Stmt := (PySem.Challenge.pw_uf060022_04.main.body.drop i).headD (.Pass ⟨0, 0, 0, 0⟩)
noncomputable def mt (i j : Nat) : Stmt := ((clsB (st i)).drop j).headD (.Pass ⟨0, 0, 0, 0⟩)
noncomputable def fnW (s : Stmt) (f : Str → Arguments → List Stmt → Scope → Obj) : Obj := Option.rec (motive := fun _ => Obj) ⟨.none, none, .plain, List.toArray []⟩ (fun d => DefRec.rec (motive := fun _ => Obj) (fun n p b sc _ => f n p b sc) d) (DefRec.ofStmt? s)
noncomputable def fnO (s : Stmt) (qual : Str) (pm cdv : Value) : Obj := fnW s fun n p b sc => ⟨.type "function", none, .func (fnOf n qual p b sc .none .none .none pm none cdv .none), List.toArray []⟩
noncomputable def fnZ (s : Stmt) (qual : Str) : Obj := fnW s fun n p b sc => ⟨.none, none, .func (FuncData.mk n qual p (.stmts b) sc 0 [] .none .none .none .none none .none .none 0), List.toArray []⟩
noncomputable def o0 (P : Params) : Obj := (Obj.mk (Value.type "dict") none (Data.dict (List.toArray [(DictEntry.mk (PyData.keyHash P (Str.ofString "__name__")) (Value.str (Str.ofString "__name__") 1) (Value.str (Str.ofString "builtins") 160)), (DictEntry.mk (PyData.keyHash P (Str.ofString "__doc__")) (Value.str (Str.ofString "__doc__") 2) (Value.builtin "builtins.__doc__:str#opaque")), (DictEntry.mk (PyData.keyHash P (Str.ofString "__package__")) (Value.str (Str.ofString "__package__") 3) (Value.builtin "builtins.__package__:str#opaque")), (DictEntry.mk (PyData.keyHash P (Str.ofString "__loader__")) (Value.str (Str.ofString "__loader__") 4) (Value.builtin "builtins.__loader__:shared#opaque")), (DictEntry.mk (PyData.keyHash P (Str.ofString "__spec__")) (Value.str (Str.ofString "__spec__") 5) (Value.builtin "builtins.__spec__#opaque")), (DictEntry.mk (PyData.keyHash P (Str.ofString "__build_class__")) (Value.str (Str.ofString "__build_class__") 6) (Value.builtin "__build_class__")), (DictEntry.mk (PyData.keyHash P (Str.ofString "__import__")) (Value.str (Str.ofString "__import__") 7) (Value.builtin "__import__")), (DictEntry.mk (PyData.keyHash P (Str.ofString "abs")) (Value.str (Str.ofString "abs") 8) (Value.builtin "abs")), (DictEntry.mk (PyData.keyHash P (Str.ofString "all")) (Value.str (Str.ofString "all") 9) (Value.builtin "all")), (DictEntry.mk (PyData.keyHash P (Str.ofString "any")) (Value.str (Str.ofString "any") 10) (Value.builtin "any")), (DictEntry.mk (PyData.keyHash P (Str.ofString "ascii")) (Value.str (Str.ofString "ascii") 11) (Value.builtin "ascii")), (DictEntry.mk (PyData.keyHash P (Str.ofString "bin")) (Value.str (Str.ofString "bin") 12) (Value.builtin "bin")), (DictEntry.mk (PyData.keyHash P (Str.ofString "breakpoint")) (Value.str (Str.ofString "breakpoint") 13) (Value.builtin "breakpoint")), (DictEntry.mk (PyData.keyHash P (Str.ofString "callable")) (Value.str (Str.ofString "callable") 14) (Value.builtin "callable")), (DictEntry.mk (PyData.keyHash P (Str.ofString "chr")) (Value.str (Str.ofString "chr") 15) (Value.builtin "chr")), (DictEntry.mk (PyData.keyHash P (Str.ofString "compile")) (Value.str (Str.ofString "compile") 16) (Value.builtin "compile")), (DictEntry.mk (PyData.keyHash P (Str.ofString "delattr")) (Value.str (Str.ofString "delattr") 17) (Value.builtin "delattr")), (DictEntry.mk (PyData.keyHash P (Str.ofString "dir")) (Value.str (Str.ofString "dir") 18) (Value.builtin "dir")), (DictEntry.mk (PyData.keyHash P (Str.ofString "divmod")) (Value.str (Str.ofString "divmod") 19) (Value.builtin "divmod")), (DictEntry.mk (PyData.keyHash P (Str.ofString "eval")) (Value.str (Str.ofString "eval") 20) (Value.builtin "eval")), (DictEntry.mk (PyData.keyHash P (Str.ofString "exec")) (Value.str (Str.ofString "exec") 21) (Value.builtin "exec")), (DictEntry.mk (PyData.keyHash P (Str.ofString "format")) (Value.str (Str.ofString "format") 22) (Value.builtin "format")), (DictEntry.mk (PyData.keyHash P (Str.ofString "getattr")) (Value.str (Str.ofString "getattr") 23) (Value.builtin "getattr")), (DictEntry.mk (PyData.keyHash P (Str.ofString "globals")) (Value.str (Str.ofString "globals") 24) (Value.builtin "globals")), (DictEntry.mk (PyData.keyHash P (Str.ofString "hasattr")) (Value.str (Str.ofString "hasattr") 25) (Value.builtin "hasattr")), (DictEntry.mk (PyData.keyHash P (Str.ofString "hash")) (Value.str (Str.ofString "hash") 26) (Value.builtin "hash")), (DictEntry.mk (PyData.keyHash P (Str.ofString "hex")) (Value.str (Str.ofString "hex") 27) (Value.builtin "hex")), (DictEntry.mk (PyData.keyHash P (Str.ofString "id")) (Value.str (Str.ofString "id") 28) (Value.builtin "id")), (DictEntry.mk (PyData.keyHash P (Str.ofString "input")) (Value.str (Str.ofString "input") 29) (Value.builtin "input")), (DictEntry.mk (PyData.keyHash P (Str.ofString "isinstance")) (Value.str (Str.ofString "isinstance") 30) (Value.builtin "isinstance")), (DictEntry.mk (PyData.keyHash P (Str.ofString "issubclass")) (Value.str (Str.ofString "issubclass") 31) (Value.builtin "issubclass")), (DictEntry.mk (PyData.keyHash P (Str.ofString "iter")) (Value.str (Str.ofString "iter") 32) (Value.builtin "iter")), (DictEntry.mk (PyData.keyHash P (Str.ofString "aiter")) (Value.str (Str.ofString "aiter") 33) (Value.builtin "aiter")), (DictEntry.mk (PyData.keyHash P (Str.ofString "len")) (Value.str (Str.ofString "len") 34) (Value.builtin "len")), (DictEntry.mk (PyData.keyHash P (Str.ofString "locals")) (Value.str (Str.ofString "locals") 35) (Value.builtin "locals")), (DictEntry.mk (PyData.keyHash P (Str.ofString "max")) (Value.str (Str.ofString "max") 36) (Value.builtin "max")), (DictEntry.mk (PyData.keyHash P (Str.ofString "min")) (Value.str (Str.ofString "min") 37) (Value.builtin "min")), (DictEntry.mk (PyData.keyHash P (Str.ofString "next")) (Value.str (Str.ofString "next") 38) (Value.builtin "next")), (DictEntry.mk (PyData.keyHash P (Str.ofString "anext")) (Value.str (Str.ofString "anext") 39) (Value.builtin "anext")), (DictEntry.mk (PyData.keyHash P (Str.ofString "oct")) (Value.str (Str.ofString "oct") 40) (Value.builtin "oct")), (DictEntry.mk (PyData.keyHash P (Str.ofString "ord")) (Value.str (Str.ofString "ord") 41) (Value.builtin "ord")), (DictEntry.mk (PyData.keyHash P (Str.ofString "pow")) (Value.str (Str.ofString "pow") 42) (Value.builtin "pow")), (DictEntry.mk (PyData.keyHash P (Str.ofString "print")) (Value.str (Str.ofString "print") 43) (Value.builtin "print")), (DictEntry.mk (PyData.keyHash P (Str.ofString "repr")) (Value.str (Str.ofString "repr") 44) (Value.builtin "repr")), (DictEntry.mk (PyData.keyHash P (Str.ofString "round")) (Value.str (Str.ofString "round") 45) (Value.builtin "round")), (DictEntry.mk (PyData.keyHash P (Str.ofString "setattr")) (Value.str (Str.ofString "setattr") 46) (Value.builtin "setattr")), (DictEntry.mk (PyData.keyHash P (Str.ofString "sorted")) (Value.str (Str.ofString "sorted") 47) (Value.builtin "sorted")), (DictEntry.mk (PyData.keyHash P (Str.ofString "sum")) (Value.str (Str.ofString "sum") 48) (Value.builtin "sum")), (DictEntry.mk (PyData.keyHash P (Str.ofString "vars")) (Value.str (Str.ofString "vars") 49) (Value.builtin "vars")), (DictEntry.mk (PyData.keyHash P (Str.ofString "None")) (Value.str (Str.ofString "None") 50) Value.none), (DictEntry.mk (PyData.keyHash P (Str.ofString "Ellipsis")) (Value.str (Str.ofString "Ellipsis") 51) Value.ellipsis), (DictEntry.mk (PyData.keyHash P (Str.ofString "NotImplemented")) (Value.str (Str.ofString "NotImplemented") 52) Value.notImplemented), (DictEntry.mk (PyData.keyHash P (Str.ofString "False")) (Value.str (Str.ofString "False") 53) (Value.bool Bool.false)), (DictEntry.mk (PyData.keyHash P (Str.ofString "True")) (Value.str (Str.ofString "True") 54) (Value.bool Bool.true)), (DictEntry.mk (PyData.keyHash P (Str.ofString "bool")) (Value.str (Str.ofString "bool") 55) (Value.type "bool")), (DictEntry.mk (PyData.keyHash P (Str.ofString "memoryview")) (Value.str (Str.ofString "memoryview") 56) (Value.type "memoryview")), (DictEntry.mk (PyData.keyHash P (Str.ofString "bytearray")) (Value.str (Str.ofString "bytearray") 57) (Value.type "bytearray")), (DictEntry.mk (PyData.keyHash P (Str.ofString "bytes")) (Value.str (Str.ofString "bytes") 58) (Value.type "bytes")), (DictEntry.mk (PyData.keyHash P (Str.ofString "classmethod")) (Value.str (Str.ofString "classmethod") 59) (Value.type "classmethod")), (DictEntry.mk (PyData.keyHash P (Str.ofString "complex")) (Value.str (Str.ofString "complex") 60) (Value.type "complex")), (DictEntry.mk (PyData.keyHash P (Str.ofString "dict")) (Value.str (Str.ofString "dict") 61) (Value.type "dict")), (DictEntry.mk (PyData.keyHash P (Str.ofString "enumerate")) (Value.str (Str.ofString "enumerate") 62) (Value.type "enumerate")), (DictEntry.mk (PyData.keyHash P (Str.ofString "filter")) (Value.str (Str.ofString "filter") 63) (Value.type "filter")), (DictEntry.mk (PyData.keyHash P (Str.ofString "float")) (Value.str (Str.ofString "float") 64) (Value.type "float")), (DictEntry.mk (PyData.keyHash P (Str.ofString "frozenset")) (Value.str (Str.ofString "frozenset") 65) (Value.type "frozenset")), (DictEntry.mk (PyData.keyHash P (Str.ofString "property")) (Value.str (Str.ofString "property") 66) (Value.type "property")), (DictEntry.mk (PyData.keyHash P (Str.ofString "int")) (Value.str (Str.ofString "int") 67) (Value.type "int")), (DictEntry.mk (PyData.keyHash P (Str.ofString "list")) (Value.str (Str.ofString "list") 68) (Value.type "list")), (DictEntry.mk (PyData.keyHash P (Str.ofString "map")) (Value.str (Str.ofString "map") 69) (Value.type "map")), (DictEntry.mk (PyData.keyHash P (Str.ofString "object")) (Value.str (Str.ofString "object") 70) (Value.type "object")), (DictEntry.mk (PyData.keyHash P (Str.ofString "range")) (Value.str (Str.ofString "range") 71) (Value.type "range")), (DictEntry.mk (PyData.keyHash P (Str.ofString "reversed")) (Value.str (Str.ofString "reversed") 72) (Value.type "reversed")), (DictEntry.mk (PyData.keyHash P (Str.ofString "set")) (Value.str (Str.ofString "set") 73) (Value.type "set")), (DictEntry.mk (PyData.keyHash P (Str.ofString "slice")) (Value.str (Str.ofString "slice") 74) (Value.type "slice")), (DictEntry.mk (PyData.keyHash P (Str.ofString "staticmethod")) (Value.str (Str.ofString "staticmethod") 75) (Value.type "staticmethod")), (DictEntry.mk (PyData.keyHash P (Str.ofString "str")) (Value.str (Str.ofString "str") 76) (Value.type "str")), (DictEntry.mk (PyData.keyHash P (Str.ofString "super")) (Value.str (Str.ofString "super") 77) (Value.type "super")), (DictEntry.mk (PyData.keyHash P (Str.ofString "tuple")) (Value.str (Str.ofString "tuple") 78) (Value.type "tuple")), (DictEntry.mk (PyData.keyHash P (Str.ofString "type")) (Value.str (Str.ofString "type") 79) (Value.type "type")), (DictEntry.mk (PyData.keyHash P (Str.ofString "zip")) (Value.str (Str.ofString "zip") 80) (Value.type "zip")), (DictEntry.mk (PyData.keyHash P (Str.ofString "__debug__")) (Value.str (Str.ofString "__debug__") 81) (Value.bool Bool.true)), (DictEntry.mk (PyData.keyHash P (Str.ofString "BaseException")) (Value.str (Str.ofString "BaseException") 82) (Value.type "BaseException")), (DictEntry.mk (PyData.keyHash P (Str.ofString "BaseExceptionGroup")) (Value.str (Str.ofString "BaseExceptionGroup") 83) (Value.type "BaseExceptionGroup")), (DictEntry.mk (PyData.keyHash P (Str.ofString "Exception")) (Value.str (Str.ofString "Exception") 84) (Value.type "Exception")), (DictEntry.mk (PyData.keyHash P (Str.ofString "GeneratorExit")) (Value.str (Str.ofString "GeneratorExit") 85) (Value.type "GeneratorExit")), (DictEntry.mk (PyData.keyHash P (Str.ofString "KeyboardInterrupt")) (Value.str (Str.ofString "KeyboardInterrupt") 86) (Value.type "KeyboardInterrupt")), (DictEntry.mk (PyData.keyHash P (Str.ofString "SystemExit")) (Value.str (Str.ofString "SystemExit") 87) (Value.type "SystemExit")), (DictEntry.mk (PyData.keyHash P (Str.ofString "ArithmeticError")) (Value.str (Str.ofString "ArithmeticError") 88) (Value.type "ArithmeticError")), (DictEntry.mk (PyData.keyHash P (Str.ofString "AssertionError")) (Value.str (Str.ofString "AssertionError") 89) (Value.type "AssertionError")), (DictEntry.mk (PyData.keyHash P (Str.ofString "AttributeError")) (Value.str (Str.ofString "AttributeError") 90) (Value.type "AttributeError")), (DictEntry.mk (PyData.keyHash P (Str.ofString "BufferError")) (Value.str (Str.ofString "BufferError") 91) (Value.type "BufferError")), (DictEntry.mk (PyData.keyHash P (Str.ofString "EOFError")) (Value.str (Str.ofString "EOFError") 92) (Value.type "EOFError")), (DictEntry.mk (PyData.keyHash P (Str.ofString "ImportError")) (Value.str (Str.ofString "ImportError") 93) (Value.type "ImportError")), (DictEntry.mk (PyData.keyHash P (Str.ofString "LookupError")) (Value.str (Str.ofString "LookupError") 94) (Value.type "LookupError")), (DictEntry.mk (PyData.keyHash P (Str.ofString "MemoryError")) (Value.str (Str.ofString "MemoryError") 95) (Value.type "MemoryError")), (DictEntry.mk (PyData.keyHash P (Str.ofString "NameError")) (Value.str (Str.ofString "NameError") 96) (Value.type "NameError")), (DictEntry.mk (PyData.keyHash P (Str.ofString "OSError")) (Value.str (Str.ofString "OSError") 97) (Value.type "OSError")), (DictEntry.mk (PyData.keyHash P (Str.ofString "ReferenceError")) (Value.str (Str.ofString "ReferenceError") 98) (Value.type "ReferenceError")), (DictEntry.mk (PyData.keyHash P (Str.ofString "RuntimeError")) (Value.str (Str.ofString "RuntimeError") 99) (Value.type "RuntimeError")), (DictEntry.mk (PyData.keyHash P (Str.ofString "StopAsyncIteration")) (Value.str (Str.ofString "StopAsyncIteration") 100) (Value.type "StopAsyncIteration")), (DictEntry.mk (PyData.keyHash P (Str.ofString "StopIteration")) (Value.str (Str.ofString "StopIteration") 101) (Value.type "StopIteration")), (DictEntry.mk (PyData.keyHash P (Str.ofString "SyntaxError")) (Value.str (Str.ofString "SyntaxError") 102) (Value.type "SyntaxError")), (DictEntry.mk (PyData.keyHash P (Str.ofString "SystemError")) (Value.str (Str.ofString "SystemError") 103) (Value.type "SystemError")), (DictEntry.mk (PyData.keyHash P (Str.ofString "TypeError")) (Value.str (Str.ofString "TypeError") 104) (Value.type "TypeError")), (DictEntry.mk (PyData.keyHash P (Str.ofString "ValueError")) (Value.str (Str.ofString "ValueError") 105) (Value.type "ValueError")), (DictEntry.mk (PyData.keyHash P (Str.ofString "Warning")) (Value.str (Str.ofString "Warning") 106) (Value.type "Warning")), (DictEntry.mk (PyData.keyHash P (Str.ofString "FloatingPointError")) (Value.str (Str.ofString "FloatingPointError") 107) (Value.type "FloatingPointError")), (DictEntry.mk (PyData.keyHash P (Str.ofString "OverflowError")) (Value.str (Str.ofString "OverflowError") 108) (Value.type "OverflowError")), (DictEntry.mk (PyData.keyHash P (Str.ofString "ZeroDivisionError")) (Value.str (Str.ofString "ZeroDivisionError") 109) (Value.type "ZeroDivisionError")), (DictEntry.mk (PyData.keyHash P (Str.ofString "BytesWarning")) (Value.str (Str.ofString "BytesWarning") 110) (Value.type "BytesWarning")), (DictEntry.mk (PyData.keyHash P (Str.ofString "DeprecationWarning")) (Value.str (Str.ofString "DeprecationWarning") 111) (Value.type "DeprecationWarning")), (DictEntry.mk (PyData.keyHash P (Str.ofString "EncodingWarning")) (Value.str (Str.ofString "EncodingWarning") 112) (Value.type "EncodingWarning")), (DictEntry.mk (PyData.keyHash P (Str.ofString "FutureWarning")) (Value.str (Str.ofString "FutureWarning") 113) (Value.type "FutureWarning")), (DictEntry.mk (PyData.keyHash P (Str.ofString "ImportWarning")) (Value.str (Str.ofString "ImportWarning") 114) (Value.type "ImportWarning")), (DictEntry.mk (PyData.keyHash P (Str.ofString "PendingDeprecationWarning")) (Value.str (Str.ofString "PendingDeprecationWarning") 115) (Value.type "PendingDeprecationWarning")), (DictEntry.mk (PyData.keyHash P (Str.ofString "ResourceWarning")) (Value.str (Str.ofString "ResourceWarning") 116) (Value.type "ResourceWarning")), (DictEntry.mk (PyData.keyHash P (Str.ofString "RuntimeWarning")) (Value.str (Str.ofString "RuntimeWarning") 117) (Value.type "RuntimeWarning")), (DictEntry.mk (PyData.keyHash P (Str.ofString "SyntaxWarning")) (Value.str (Str.ofString "SyntaxWarning") 118) (Value.type "SyntaxWarning")), (DictEntry.mk (PyData.keyHash P (Str.ofString "UnicodeWarning")) (Value.str (Str.ofString "UnicodeWarning") 119) (Value.type "UnicodeWarning")), (DictEntry.mk (PyData.keyHash P (Str.ofString "UserWarning")) (Value.str (Str.ofString "UserWarning") 120) (Value.type "UserWarning")), (DictEntry.mk (PyData.keyHash P (Str.ofString "BlockingIOError")) (Value.str (Str.ofString "BlockingIOError") 121) (Value.type "BlockingIOError")), (DictEntry.mk (PyData.keyHash P (Str.ofString "ChildProcessError")) (Value.str (Str.ofString "ChildProcessError") 122) (Value.type "ChildProcessError")), (DictEntry.mk (PyData.keyHash P (Str.ofString "ConnectionError")) (Value.str (Str.ofString "ConnectionError") 123) (Value.type "ConnectionError")), (DictEntry.mk (PyData.keyHash P (Str.ofString "FileExistsError")) (Value.str (Str.ofString "FileExistsError") 124) (Value.type "FileExistsError")), (DictEntry.mk (PyData.keyHash P (Str.ofString "FileNotFoundError")) (Value.str (Str.ofString "FileNotFoundError") 125) (Value.type "FileNotFoundError")), (DictEntry.mk (PyData.keyHash P (Str.ofString "InterruptedError")) (Value.str (Str.ofString "InterruptedError") 126) (Value.type "InterruptedError")), (DictEntry.mk (PyData.keyHash P (Str.ofString "IsADirectoryError")) (Value.str (Str.ofString "IsADirectoryError") 127) (Value.type "IsADirectoryError")), (DictEntry.mk (PyData.keyHash P (Str.ofString "NotADirectoryError")) (Value.str (Str.ofString "NotADirectoryError") 128) (Value.type "NotADirectoryError")), (DictEntry.mk (PyData.keyHash P (Str.ofString "PermissionError")) (Value.str (Str.ofString "PermissionError") 129) (Value.type "PermissionError")), (DictEntry.mk (PyData.keyHash P (Str.ofString "ProcessLookupError")) (Value.str (Str.ofString "ProcessLookupError") 130) (Value.type "ProcessLookupError")), (DictEntry.mk (PyData.keyHash P (Str.ofString "TimeoutError")) (Value.str (Str.ofString "TimeoutError") 131) (Value.type "TimeoutError")), (DictEntry.mk (PyData.keyHash P (Str.ofString "IndentationError")) (Value.str (Str.ofString "IndentationError") 132) (Value.type "IndentationError")), (DictEntry.mk (PyData.keyHash P (Str.ofString "_IncompleteInputError")) (Value.str (Str.ofString "_IncompleteInputError") 133) (Value.type "_IncompleteInputError")), (DictEntry.mk (PyData.keyHash P (Str.ofString "IndexError")) (Value.str (Str.ofString "IndexError") 134) (Value.type "IndexError")), (DictEntry.mk (PyData.keyHash P (Str.ofString "KeyError")) (Value.str (Str.ofString "KeyError") 135) (Value.type "KeyError")), (DictEntry.mk (PyData.keyHash P (Str.ofString "ModuleNotFoundError")) (Value.str (Str.ofString "ModuleNotFoundError") 136) (Value.type "ModuleNotFoundError")), (DictEntry.mk (PyData.keyHash P (Str.ofString "NotImplementedError")) (Value.str (Str.ofString "NotImplementedError") 137) (Value.type "NotImplementedError")), (DictEntry.mk (PyData.keyHash P (Str.ofString "PythonFinalizationError")) (Value.str (Str.ofString "PythonFinalizationError") 138) (Value.type "PythonFinalizationError")), (DictEntry.mk (PyData.keyHash P (Str.ofString "RecursionError")) (Value.str (Str.ofString "RecursionError") 139) (Value.type "RecursionError")), (DictEntry.mk (PyData.keyHash P (Str.ofString "UnboundLocalError")) (Value.str (Str.ofString "UnboundLocalError") 140) (Value.type "UnboundLocalError")), (DictEntry.mk (PyData.keyHash P (Str.ofString "UnicodeError")) (Value.str (Str.ofString "UnicodeError") 141) (Value.type "UnicodeError")), (DictEntry.mk (PyData.keyHash P (Str.ofString "BrokenPipeError")) (Value.str (Str.ofString "BrokenPipeError") 142) (Value.type "BrokenPipeError")), (DictEntry.mk (PyData.keyHash P (Str.ofString "ConnectionAbortedError")) (Value.str (Str.ofString "ConnectionAbortedError") 143) (Value.type "ConnectionAbortedError")), (DictEntry.mk (PyData.keyHash P (Str.ofString "ConnectionRefusedError")) (Value.str (Str.ofString "ConnectionRefusedError") 144) (Value.type "ConnectionRefusedError")), (DictEntry.mk (PyData.keyHash P (Str.ofString "ConnectionResetError")) (Value.str (Str.ofString "ConnectionResetError") 145) (Value.type "ConnectionResetError")), (DictEntry.mk (PyData.keyHash P (Str.ofString "TabError")) (Value.str (Str.ofString "TabError") 146) (Value.type "TabError")), (DictEntry.mk (PyData.keyHash P (Str.ofString "UnicodeDecodeError")) (Value.str (Str.ofString "UnicodeDecodeError") 147) (Value.type "UnicodeDecodeError")), (DictEntry.mk (PyData.keyHash P (Str.ofString "UnicodeEncodeError")) (Value.str (Str.ofString "UnicodeEncodeError") 148) (Value.type "UnicodeEncodeError")), (DictEntry.mk (PyData.keyHash P (Str.ofString "UnicodeTranslateError")) (Value.str (Str.ofString "UnicodeTranslateError") 149) (Value.type "UnicodeTranslateError")), (DictEntry.mk (PyData.keyHash P (Str.ofString "ExceptionGroup")) (Value.str (Str.ofString "ExceptionGroup") 150) (Value.type "ExceptionGroup")), (DictEntry.mk (PyData.keyHash P (Str.ofString "EnvironmentError")) (Value.str (Str.ofString "EnvironmentError") 151) (Value.type "OSError")), (DictEntry.mk (PyData.keyHash P (Str.ofString "IOError")) (Value.str (Str.ofString "IOError") 152) (Value.type "OSError")), (DictEntry.mk (PyData.keyHash P (Str.ofString "open")) (Value.str (Str.ofString "open") 153) (Value.builtin "open")), (DictEntry.mk (PyData.keyHash P (Str.ofString "quit")) (Value.str (Str.ofString "quit") 154) (Value.builtin "builtins.quit#opaque")), (DictEntry.mk (PyData.keyHash P (Str.ofString "exit")) (Value.str (Str.ofString "exit") 155) (Value.builtin "builtins.exit#opaque")), (DictEntry.mk (PyData.keyHash P (Str.ofString "copyright")) (Value.str (Str.ofString "copyright") 156) (Value.builtin "builtins.copyright#opaque")), (DictEntry.mk (PyData.keyHash P (Str.ofString "credits")) (Value.str (Str.ofString "credits") 157) (Value.builtin "builtins.credits#opaque")), (DictEntry.mk (PyData.keyHash P (Str.ofString "license")) (Value.str (Str.ofString "license") 158) (Value.builtin "builtins.license#opaque")), (DictEntry.mk (PyData.keyHash P (Str.ofString "help")) (Value.str (Str.ofString "help") 159) (Value.builtin "builtins.help#opaque"))]) 159) (List.toArray []))
noncomputable def o1 (P : Params) : Obj := (Obj.mk (Value.type "dict") none (Data.dict (List.toArray [(DictEntry.mk (PyData.keyHash P (Str.ofString "builtins")) (Value.str (Str.ofString "builtins") 162) (Value.ref 4)), (DictEntry.mk (PyData.keyHash P (Str.ofString "__main__")) (Value.str (Str.ofString "__main__") 163) (Value.ref 5))]) 2) (List.toArray []))
noncomputable def o2 (_ : Params) : Obj := (Obj.mk Value.none none (Data.dict (List.toArray []) 0) (List.toArray []))
noncomputable def o3 (P : Params) : Obj := (Obj.mk (Value.type "dict") none (Data.dict (List.toArray [(DictEntry.mk (PyData.keyHash P (Str.ofString "__name__")) (Value.str (Str.ofString "__name__") 165) (Value.str (Str.ofString "__main__") 164)), (DictEntry.mk (PyData.keyHash P (Str.ofString "__doc__")) (Value.str (Str.ofString "__doc__") 166) Value.none), (DictEntry.mk (PyData.keyHash P (Str.ofString "__package__")) (Value.str (Str.ofString "__package__") 167) Value.none), (DictEntry.mk (PyData.keyHash P (Str.ofString "__loader__")) (Value.str (Str.ofString "__loader__") 168) (Value.builtin "__main__.__loader__#opaque")), (DictEntry.mk (PyData.keyHash P (Str.ofString "__spec__")) (Value.str (Str.ofString "__spec__") 169) Value.none), (DictEntry.mk (PyData.keyHash P (Str.ofString "__annotations__")) (Value.str (Str.ofString "__annotations__") 170) (Value.ref 6)), (DictEntry.mk (PyData.keyHash P (Str.ofString "__builtins__")) (Value.str (Str.ofString "__builtins__") 171) (Value.ref 4)), (DictEntry.mk (PyData.keyHash P (Str.ofString "__file__")) (Value.str (Str.ofString "__file__") 173) (Value.str (Str.ofString "/claim/cut.py") 172)), (DictEntry.mk (PyData.keyHash P (Str.ofString "__cached__")) (Value.str (Str.ofString "__cached__") 174) Value.none)]) 9) (List.toArray []))
noncomputable def o4 (_ : Params) : Obj := (Obj.mk (Value.type "module") (some 0) Data.plain (List.toArray []))
noncomputable def o5 (_ : Params) : Obj := (Obj.mk (Value.type "module") (some 3) Data.plain (List.toArray []))
noncomputable def o6 (_ : Params) : Obj := (Obj.mk (Value.type "dict") none (Data.dict (List.toArray []) 0) (List.toArray []))
noncomputable def o7 (_ : Params) : Obj := (Obj.mk (Value.type "tuple") none (Data.seq (List.toArray []) 0) (List.toArray []))
noncomputable def o8 (_ : Params) : Obj := (Obj.mk Value.none none (Data.fields (List.toArray [])) (List.toArray []))
noncomputable def o9 (_ : Params) : Obj := (Obj.mk (Value.type "code") none (Data.fields (List.toArray [(Value.str (Str.ofString "<module>") 176), (Value.str (Str.ofString "<module>") 177), (Value.str (Str.ofString "/claim/cut.py") 178), (Value.int (1 : Int) 0), (Value.int (0 : Int) 0), (Value.int (0 : Int) 0), (Value.int (0 : Int) 0), (Value.int (0 : Int) 0), (Value.ref 7), (Value.bool Bool.false), (Value.int (175 : Int) 0), (Value.ref 8), Value.none, Value.none, Value.none, Value.none, (Value.int (179 : Int) 0), (Value.int (1 : Int) 0), (Value.str (Str.ofString "/claim/cut.py") 180)])) (List.toArray []))
noncomputable def o10 (_ : Params) : Obj := (Obj.mk (Value.type "frame") none Data.plain (List.toArray [(some (Value.ref 9)), (some (Value.ref 3)), (some (Value.ref 3)), none, (some (Value.str (Str.ofString "__main__") 164)), none, (some (Value.ref 0))]))
noncomputable def o11 (_ : Params) : Obj := (Obj.mk (Value.type "code") none (Data.fields (List.toArray [(Value.str (Str.ofString "<module>") 182), (Value.str (Str.ofString "<module>") 183), (Value.str (Str.ofString "/claim/cut.py") 184), (Value.int (1 : Int) 0), (Value.int (0 : Int) 0), (Value.int (0 : Int) 0), (Value.int (0 : Int) 0), (Value.int (0 : Int) 0), (Value.ref 11), (Value.bool Bool.false), (Value.int (181 : Int) 0), (Value.ref 12), Value.none, Value.none, Value.none, Value.none, (Value.int (185 : Int) 0), (Value.int (1 : Int) 0), (Value.str (Str.ofString "/claim/cut.py") 186)])) (List.toArray []))
noncomputable def o12 (_ : Params) : Obj := (Obj.mk (Value.type "frame") none Data.plain (List.toArray [(some (Value.ref 13)), (some (Value.ref 3)), (some (Value.ref 3)), none, (some (Value.str (Str.ofString "__main__") 164)), none, (some (Value.ref 0))]))
noncomputable def HSa (P : Params) : Heap := ⟨⟨o0 P :: o1 P :: o2 P :: o3 P :: o4 P :: o5 P :: o6 P :: o7 P :: o8 P :: o9 P :: o10 P :: o7 P :: o8 P :: o11 P :: o12 P :: []⟩, (Life.mk [] [] [] 0 [] [] Bool.false (List.toArray []) [] 0 Bool.false Bool.false Bool.false (0 : Int) [(2000 : Int), (10 : Int), (10 : Int)] Bool.false 0 Bool.true [] [] 0 Bool.false)⟩
noncomputable abbrev Sa (w : World) (os : OsState) : Shared := ⟨HSa w.params, Array.mk [], (Drawn.mk 0 0 0 0), 187, os⟩
noncomputable def o13 (P : Params) : Obj := (Obj.mk (Value.type "dict") none (Data.dict (List.toArray [(DictEntry.mk (PyData.keyHash P (Str.ofString "__name__")) (Value.str (Str.ofString "__name__") 165) (Value.str (Str.ofString "bucketfall.errors") 187)), (DictEntry.mk (PyData.keyHash P (Str.ofString "__doc__")) (Value.str (Str.ofString "__doc__") 166) Value.none), (DictEntry.mk (PyData.keyHash P (Str.ofString "__package__")) (Value.str (Str.ofString "__package__") 167) Value.none), (DictEntry.mk (PyData.keyHash P (Str.ofString "__loader__")) (Value.str (Str.ofString "__loader__") 168) (Value.builtin "__main__.__loader__#opaque")), (DictEntry.mk (PyData.keyHash P (Str.ofString "__spec__")) (Value.str (Str.ofString "__spec__") 169) Value.none), (DictEntry.mk (PyData.keyHash P (Str.ofString "__annotations__")) (Value.str (Str.ofString "__annotations__") 170) (Value.ref 6)), (DictEntry.mk (PyData.keyHash P (Str.ofString "__builtins__")) (Value.str (Str.ofString "__builtins__") 171) (Value.ref 4)), (DictEntry.mk (PyData.keyHash P (Str.ofString "__file__")) (Value.str (Str.ofString "__file__") 173) (Value.str (Str.ofString "/claim/cut.py") 172)), (DictEntry.mk (PyData.keyHash P (Str.ofString "__cached__")) (Value.str (Str.ofString "__cached__") 174) Value.none), (DictEntry.mk (PyData.keyHash P (Str.ofString "FallError")) (Value.str (Str.ofString "FallError") 206) (Value.ref 24)), (DictEntry.mk (PyData.keyHash P (Str.ofString "NoBase")) (Value.str (Str.ofString "NoBase") 222) (Value.ref 37))]) 11) (List.toArray []))
noncomputable def o14 (_ : Params) : Obj := (Obj.mk Value.none none (Data.fields (List.toArray [(Value.int (2 : Int) 0), (Value.int (0 : Int) 0), (Value.ref 20), (Value.int (4 : Int) 0), (Value.int (0 : Int) 0), (Value.ref 33)])) (List.toArray []))
noncomputable def o15 (_ : Params) : Obj := (Obj.mk (Value.type "tuple") none (Data.seq (List.toArray [(Value.type "ValueError")]) 0) (List.toArray []))
noncomputable def o16 (_ : Params) : Obj := (Obj.mk (Value.type "builtin_function_or_method") none (Data.fields (List.toArray [(Value.builtin "type.__prepare__"), (Value.type "type")])) (List.toArray []))
noncomputable def o17 (P : Params) : Obj := (Obj.mk (Value.type "dict") none (Data.dict (List.toArray [(DictEntry.mk (PyData.keyHash P (Str.ofString "__module__")) (Value.str (Str.ofString "__module__") 196) (Value.str (Str.ofString "bucketfall.errors") 187)), (DictEntry.mk (PyData.keyHash P (Str.ofString "__qualname__")) (Value.str (Str.ofString "__qualname__") 198) (Value.str (Str.ofString "FallError") 197)), (DictEntry.mk (PyData.keyHash P (Str.ofString "__firstlineno__")) (Value.str (Str.ofString "__firstlineno__") 200) (Value.int (2 : Int) 199)), (DictEntry.mk (PyData.keyHash P (Str.ofString "__static_attributes__")) (Value.str (Str.ofString "__static_attributes__") 201) (Value.ref 22))]) 4) (List.toArray []))
noncomputable def o18 (_ : Params) : Obj := (Obj.mk (Value.type "code") none (Data.fields (List.toArray [(Value.str (Str.ofString "FallError") 191), (Value.str (Str.ofString "FallError") 192), (Value.str (Str.ofString "/claim/cut.py") 193), (Value.int (2 : Int) 0), (Value.int (0 : Int) 0), (Value.int (0 : Int) 0), (Value.int (0 : Int) 0), (Value.int (0 : Int) 0), (Value.ref 18), (Value.bool Bool.false), (Value.int (181 : Int) 0), (Value.ref 19), Value.none, Value.none, Value.none, Value.none, (Value.int (194 : Int) 0), (Value.int (2 : Int) 0), (Value.str (Str.ofString "/claim/cut.py") 195)])) (List.toArray []))
noncomputable def o19 (_ : Params) : Obj := (Obj.mk (Value.type "frame") none Data.plain (List.toArray [(some (Value.ref 20)), (some (Value.ref 3)), (some (Value.ref 17)), none, (some (Value.str (Str.ofString "bucketfall.errors") 187)), none, (some (Value.ref 0))]))
noncomputable def o20 (P : Params) : Obj := (Obj.mk (Value.type "dict") none (Data.dict (List.toArray [(DictEntry.mk (PyData.keyHash P (Str.ofString "__module__")) (Value.str (Str.ofString "__module__") 196) (Value.str (Str.ofString "bucketfall.errors") 187)), (DictEntry.mk (PyData.keyHash P (Str.ofString "__firstlineno__")) (Value.str (Str.ofString "__firstlineno__") 200) (Value.int (2 : Int) 199)), (DictEntry.mk (PyData.keyHash P (Str.ofString "__static_attributes__")) (Value.str (Str.ofString "__static_attributes__") 201) (Value.ref 22)), (DictEntry.mk (PyData.keyHash P (Str.ofString "__weakref__")) (Value.str (Str.ofString "__weakref__") 203) (Value.ref 25)), (DictEntry.mk (PyData.keyHash P (Str.ofString "__doc__")) (Value.str (Str.ofString "__doc__") 204) Value.none)]) 3) (List.toArray []))
noncomputable def o21 (_ : Params) : Obj := (Obj.mk (Value.type "type") none (Data.cls (ClassData.mk (Str.ofString "FallError") [(Value.type "ValueError")] [(Value.ref 24), (Value.type "ValueError"), (Value.type "Exception"), (Value.type "BaseException"), (Value.type "object")] 23 (Str.ofString "FallError") Bool.true [] [(Value.ref 37)] Bool.false none Bool.false)) (List.toArray [(some (Value.ref 15)), none, (some (Value.str (Str.ofString "FallError") 189)), (some (Value.str (Str.ofString "FallError") 197)), (some (Value.builtin "ValueError.__new__")), (some (Value.bool Bool.true))]))
noncomputable def o22 (_ : Params) : Obj := (Obj.mk (Value.type "getset_descriptor") none (Data.fields (List.toArray [(Value.str (Str.ofString "__weakref__") 202), (Value.ref 24), (Value.builtin "ExceptionGroup.__weakref__"), Value.none])) (List.toArray []))
noncomputable def o23 (_ : Params) : Obj := (Obj.mk (Value.type "super") none (Data.fields (List.toArray [(Value.ref 24), (Value.ref 24), (Value.ref 24)])) (List.toArray []))
noncomputable def o24 (_ : Params) : Obj := (Obj.mk (Value.type "builtin_function_or_method") none (Data.fields (List.toArray [(Value.builtin "object.__init_subclass__"), (Value.ref 24)])) (List.toArray []))
noncomputable def o25 (_ : Params) : Obj := (Obj.mk (Value.type "tuple") none (Data.seq (List.toArray [(Value.ref 24)]) 0) (List.toArray []))
noncomputable def o26 (P : Params) : Obj := (Obj.mk (Value.type "dict") none (Data.dict (List.toArray [(DictEntry.mk (PyData.keyHash P (Str.ofString "__module__")) (Value.str (Str.ofString "__module__") 214) (Value.str (Str.ofString "bucketfall.errors") 187)), (DictEntry.mk (PyData.keyHash P (Str.ofString "__qualname__")) (Value.str (Str.ofString "__qualname__") 216) (Value.str (Str.ofString "NoBase") 215)), (DictEntry.mk (PyData.keyHash P (Str.ofString "__firstlineno__")) (Value.str (Str.ofString "__firstlineno__") 218) (Value.int (4 : Int) 217)), (DictEntry.mk (PyData.keyHash P (Str.ofString "__static_attributes__")) (Value.str (Str.ofString "__static_attributes__") 219) (Value.ref 35))]) 4) (List.toArray []))
noncomputable def o27 (_ : Params) : Obj := (Obj.mk (Value.type "code") none (Data.fields (List.toArray [(Value.str (Str.ofString "NoBase") 209), (Value.str (Str.ofString "NoBase") 210), (Value.str (Str.ofString "/claim/cut.py") 211), (Value.int (4 : Int) 0), (Value.int (0 : Int) 0), (Value.int (0 : Int) 0), (Value.int (0 : Int) 0), (Value.int (0 : Int) 0), (Value.ref 31), (Value.bool Bool.false), (Value.int (181 : Int) 0), (Value.ref 32), Value.none, Value.none, Value.none, Value.none, (Value.int (212 : Int) 0), (Value.int (4 : Int) 0), (Value.str (Str.ofString "/claim/cut.py") 213)])) (List.toArray []))
noncomputable def o28 (_ : Params) : Obj := (Obj.mk (Value.type "frame") none Data.plain (List.toArray [(some (Value.ref 33)), (some (Value.ref 3)), (some (Value.ref 30)), none, (some (Value.str (Str.ofString "bucketfall.errors") 187)), none, (some (Value.ref 0))]))
noncomputable def o29 (P : Params) : Obj := (Obj.mk (Value.type "dict") none (Data.dict (List.toArray [(DictEntry.mk (PyData.keyHash P (Str.ofString "__module__")) (Value.str (Str.ofString "__module__") 214) (Value.str (Str.ofString "bucketfall.errors") 187)), (DictEntry.mk (PyData.keyHash P (Str.ofString "__firstlineno__")) (Value.str (Str.ofString "__firstlineno__") 218) (Value.int (4 : Int) 217)), (DictEntry.mk (PyData.keyHash P (Str.ofString "__static_attributes__")) (Value.str (Str.ofString "__static_attributes__") 219) (Value.ref 35)), (DictEntry.mk (PyData.keyHash P (Str.ofString "__doc__")) (Value.str (Str.ofString "__doc__") 220) Value.none)]) 2) (List.toArray []))
noncomputable def o30 (_ : Params) : Obj := (Obj.mk (Value.type "type") none (Data.cls (ClassData.mk (Str.ofString "NoBase") [(Value.ref 24)] [(Value.ref 37), (Value.ref 24), (Value.type "ValueError"), (Value.type "Exception"), (Value.type "BaseException"), (Value.type "object")] 36 (Str.ofString "NoBase") Bool.true [] [] Bool.false none Bool.false)) (List.toArray [(some (Value.ref 28)), none, (some (Value.str (Str.ofString "NoBase") 207)), (some (Value.str (Str.ofString "NoBase") 215)), (some (Value.builtin "ValueError.__new__")), (some (Value.bool Bool.true))]))
noncomputable def o31 (_ : Params) : Obj := (Obj.mk (Value.type "super") none (Data.fields (List.toArray [(Value.ref 37), (Value.ref 37), (Value.ref 37)])) (List.toArray []))
noncomputable def o32 (_ : Params) : Obj := (Obj.mk (Value.type "builtin_function_or_method") none (Data.fields (List.toArray [(Value.builtin "object.__init_subclass__"), (Value.ref 37)])) (List.toArray []))
noncomputable def HS3 (P : Params) : Heap := ⟨⟨o0 P :: o1 P :: o2 P :: o13 P :: o4 P :: o5 P :: o6 P :: o7 P :: o8 P :: o9 P :: o10 P :: o7 P :: o14 P :: o11 P :: o12 P :: o15 P :: o16 P :: o17 P :: o7 P :: o8 P :: o18 P :: o19 P :: o7 P :: o20 P :: o21 P :: o22 P :: o23 P :: o24 P :: o25 P :: o16 P :: o26 P :: o7 P :: o8 P :: o27 P :: o28 P :: o7 P :: o29 P :: o30 P :: o31 P :: o32 P :: []⟩, (Life.mk [] [] [] 0 [] [] Bool.false (List.toArray []) [] 0 Bool.false Bool.false Bool.false (0 : Int) [(2000 : Int), (10 : Int), (10 : Int)] Bool.false 0 Bool.true [] [] 0 Bool.false)⟩
noncomputable abbrev S3 (w : World) (os : OsState) : Shared := ⟨HS3 w.params, Array.mk [], (Drawn.mk 0 0 0 0), 223, os⟩
noncomputable def o33 (P : Params) : Obj := (Obj.mk (Value.type "dict") none (Data.dict (List.toArray [(DictEntry.mk (PyData.keyHash P (Str.ofString "__name__")) (Value.str (Str.ofString "__name__") 165) (Value.str (Str.ofString "bucketfall.errors") 187)), (DictEntry.mk (PyData.keyHash P (Str.ofString "__doc__")) (Value.str (Str.ofString "__doc__") 166) Value.none), (DictEntry.mk (PyData.keyHash P (Str.ofString "__package__")) (Value.str (Str.ofString "__package__") 167) Value.none), (DictEntry.mk (PyData.keyHash P (Str.ofString "__loader__")) (Value.str (Str.ofString "__loader__") 168) (Value.builtin "__main__.__loader__#opaque")), (DictEntry.mk (PyData.keyHash P (Str.ofString "__spec__")) (Value.str (Str.ofString "__spec__") 169) Value.none), (DictEntry.mk (PyData.keyHash P (Str.ofString "__annotations__")) (Value.str (Str.ofString "__annotations__") 170) (Value.ref 6)), (DictEntry.mk (PyData.keyHash P (Str.ofString "__builtins__")) (Value.str (Str.ofString "__builtins__") 171) (Value.ref 4)), (DictEntry.mk (PyData.keyHash P (Str.ofString "__file__")) (Value.str (Str.ofString "__file__") 173) (Value.str (Str.ofString "/claim/cut.py") 172)), (DictEntry.mk (PyData.keyHash P (Str.ofString "__cached__")) (Value.str (Str.ofString "__cached__") 174) Value.none), (DictEntry.mk (PyData.keyHash P (Str.ofString "FallError")) (Value.str (Str.ofString "FallError") 206) (Value.ref 24)), (DictEntry.mk (PyData.keyHash P (Str.ofString "NoBase")) (Value.str (Str.ofString "NoBase") 222) (Value.ref 37)), (DictEntry.mk (PyData.keyHash P (Str.ofString "NoNumber")) (Value.str (Str.ofString "NoNumber") 238) (Value.ref 49)), (DictEntry.mk (PyData.keyHash P (Str.ofString "Late")) (Value.str (Str.ofString "Late") 254) (Value.ref 61))]) 13) (List.toArray []))
noncomputable def o34 (_ : Params) : Obj := (Obj.mk Value.none none (Data.fields (List.toArray [(Value.int (2 : Int) 0), (Value.int (0 : Int) 0), (Value.ref 20), (Value.int (4 : Int) 0), (Value.int (0 : Int) 0), (Value.ref 33), (Value.int (6 : Int) 0), (Value.int (0 : Int) 0), (Value.ref 45), (Value.int (8 : Int) 0), (Value.int (0 : Int) 0), (Value.ref 57)])) (List.toArray []))
noncomputable def o35 (_ : Params) : Obj := (Obj.mk (Value.type "type") none (Data.cls (ClassData.mk (Str.ofString "FallError") [(Value.type "ValueError")] [(Value.ref 24), (Value.type "ValueError"), (Value.type "Exception"), (Value.type "BaseException"), (Value.type "object")] 23 (Str.ofString "FallError") Bool.true [] [(Value.ref 37), (Value.ref 49), (Value.ref 61)] Bool.false none Bool.false)) (List.toArray [(some (Value.ref 15)), none, (some (Value.str (Str.ofString "FallError") 189)), (some (Value.str (Str.ofString "FallError") 197)), (some (Value.builtin "ValueError.__new__")), (some (Value.bool Bool.true))]))
noncomputable def o36 (P : Params) : Obj := (Obj.mk (Value.type "dict") none (Data.dict (List.toArray [(DictEntry.mk (PyData.keyHash P (Str.ofString "__module__")) (Value.str (Str.ofString "__module__") 230) (Value.str (Str.ofString "bucketfall.errors") 187)), (DictEntry.mk (PyData.keyHash P (Str.ofString "__qualname__")) (Value.str (Str.ofString "__qualname__") 232) (Value.str (Str.ofString "NoNumber") 231)), (DictEntry.mk (PyData.keyHash P (Str.ofString "__firstlineno__")) (Value.str (Str.ofString "__firstlineno__") 234) (Value.int (6 : Int) 233)), (DictEntry.mk (PyData.keyHash P (Str.ofString "__static_attributes__")) (Value.str (Str.ofString "__static_attributes__") 235) (Value.ref 47))]) 4) (List.toArray []))
noncomputable def o37 (_ : Params) : Obj := (Obj.mk (Value.type "code") none (Data.fields (List.toArray [(Value.str (Str.ofString "NoNumber") 225), (Value.str (Str.ofString "NoNumber") 226), (Value.str (Str.ofString "/claim/cut.py") 227), (Value.int (6 : Int) 0), (Value.int (0 : Int) 0), (Value.int (0 : Int) 0), (Value.int (0 : Int) 0), (Value.int (0 : Int) 0), (Value.ref 43), (Value.bool Bool.false), (Value.int (181 : Int) 0), (Value.ref 44), Value.none, Value.none, Value.none, Value.none, (Value.int (228 : Int) 0), (Value.int (6 : Int) 0), (Value.str (Str.ofString "/claim/cut.py") 229)])) (List.toArray []))
noncomputable def o38 (_ : Params) : Obj := (Obj.mk (Value.type "frame") none Data.plain (List.toArray [(some (Value.ref 45)), (some (Value.ref 3)), (some (Value.ref 42)), none, (some (Value.str (Str.ofString "bucketfall.errors") 187)), none, (some (Value.ref 0))]))
noncomputable def o39 (P : Params) : Obj := (Obj.mk (Value.type "dict") none (Data.dict (List.toArray [(DictEntry.mk (PyData.keyHash P (Str.ofString "__module__")) (Value.str (Str.ofString "__module__") 230) (Value.str (Str.ofString "bucketfall.errors") 187)), (DictEntry.mk (PyData.keyHash P (Str.ofString "__firstlineno__")) (Value.str (Str.ofString "__firstlineno__") 234) (Value.int (6 : Int) 233)), (DictEntry.mk (PyData.keyHash P (Str.ofString "__static_attributes__")) (Value.str (Str.ofString "__static_attributes__") 235) (Value.ref 47)), (DictEntry.mk (PyData.keyHash P (Str.ofString "__doc__")) (Value.str (Str.ofString "__doc__") 236) Value.none)]) 2) (List.toArray []))
noncomputable def o40 (_ : Params) : Obj := (Obj.mk (Value.type "type") none (Data.cls (ClassData.mk (Str.ofString "NoNumber") [(Value.ref 24)] [(Value.ref 49), (Value.ref 24), (Value.type "ValueError"), (Value.type "Exception"), (Value.type "BaseException"), (Value.type "object")] 48 (Str.ofString "NoNumber") Bool.true [] [] Bool.false none Bool.false)) (List.toArray [(some (Value.ref 40)), none, (some (Value.str (Str.ofString "NoNumber") 223)), (some (Value.str (Str.ofString "NoNumber") 231)), (some (Value.builtin "ValueError.__new__")), (some (Value.bool Bool.true))]))
noncomputable def o41 (_ : Params) : Obj := (Obj.mk (Value.type "super") none (Data.fields (List.toArray [(Value.ref 49), (Value.ref 49), (Value.ref 49)])) (List.toArray []))
noncomputable def o42 (_ : Params) : Obj := (Obj.mk (Value.type "builtin_function_or_method") none (Data.fields (List.toArray [(Value.builtin "object.__init_subclass__"), (Value.ref 49)])) (List.toArray []))
noncomputable def o43 (P : Params) : Obj := (Obj.mk (Value.type "dict") none (Data.dict (List.toArray [(DictEntry.mk (PyData.keyHash P (Str.ofString "__module__")) (Value.str (Str.ofString "__module__") 246) (Value.str (Str.ofString "bucketfall.errors") 187)), (DictEntry.mk (PyData.keyHash P (Str.ofString "__qualname__")) (Value.str (Str.ofString "__qualname__") 248) (Value.str (Str.ofString "Late") 247)), (DictEntry.mk (PyData.keyHash P (Str.ofString "__firstlineno__")) (Value.str (Str.ofString "__firstlineno__") 250) (Value.int (8 : Int) 249)), (DictEntry.mk (PyData.keyHash P (Str.ofString "__static_attributes__")) (Value.str (Str.ofString "__static_attributes__") 251) (Value.ref 59))]) 4) (List.toArray []))
noncomputable def o44 (_ : Params) : Obj := (Obj.mk (Value.type "code") none (Data.fields (List.toArray [(Value.str (Str.ofString "Late") 241), (Value.str (Str.ofString "Late") 242), (Value.str (Str.ofString "/claim/cut.py") 243), (Value.int (8 : Int) 0), (Value.int (0 : Int) 0), (Value.int (0 : Int) 0), (Value.int (0 : Int) 0), (Value.int (0 : Int) 0), (Value.ref 55), (Value.bool Bool.false), (Value.int (181 : Int) 0), (Value.ref 56), Value.none, Value.none, Value.none, Value.none, (Value.int (244 : Int) 0), (Value.int (8 : Int) 0), (Value.str (Str.ofString "/claim/cut.py") 245)])) (List.toArray []))
noncomputable def o45 (_ : Params) : Obj := (Obj.mk (Value.type "frame") none Data.plain (List.toArray [(some (Value.ref 57)), (some (Value.ref 3)), (some (Value.ref 54)), none, (some (Value.str (Str.ofString "bucketfall.errors") 187)), none, (some (Value.ref 0))]))
noncomputable def o46 (P : Params) : Obj := (Obj.mk (Value.type "dict") none (Data.dict (List.toArray [(DictEntry.mk (PyData.keyHash P (Str.ofString "__module__")) (Value.str (Str.ofString "__module__") 246) (Value.str (Str.ofString "bucketfall.errors") 187)), (DictEntry.mk (PyData.keyHash P (Str.ofString "__firstlineno__")) (Value.str (Str.ofString "__firstlineno__") 250) (Value.int (8 : Int) 249)), (DictEntry.mk (PyData.keyHash P (Str.ofString "__static_attributes__")) (Value.str (Str.ofString "__static_attributes__") 251) (Value.ref 59)), (DictEntry.mk (PyData.keyHash P (Str.ofString "__doc__")) (Value.str (Str.ofString "__doc__") 252) Value.none)]) 2) (List.toArray []))
noncomputable def o47 (_ : Params) : Obj := (Obj.mk (Value.type "type") none (Data.cls (ClassData.mk (Str.ofString "Late") [(Value.ref 24)] [(Value.ref 61), (Value.ref 24), (Value.type "ValueError"), (Value.type "Exception"), (Value.type "BaseException"), (Value.type "object")] 60 (Str.ofString "Late") Bool.true [] [] Bool.false none Bool.false)) (List.toArray [(some (Value.ref 52)), none, (some (Value.str (Str.ofString "Late") 239)), (some (Value.str (Str.ofString "Late") 247)), (some (Value.builtin "ValueError.__new__")), (some (Value.bool Bool.true))]))
noncomputable def o48 (_ : Params) : Obj := (Obj.mk (Value.type "super") none (Data.fields (List.toArray [(Value.ref 61), (Value.ref 61), (Value.ref 61)])) (List.toArray []))
noncomputable def o49 (_ : Params) : Obj := (Obj.mk (Value.type "builtin_function_or_method") none (Data.fields (List.toArray [(Value.builtin "object.__init_subclass__"), (Value.ref 61)])) (List.toArray []))
noncomputable def HS5 (P : Params) : Heap := ⟨⟨o0 P :: o1 P :: o2 P :: o33 P :: o4 P :: o5 P :: o6 P :: o7 P :: o8 P :: o9 P :: o10 P :: o7 P :: o34 P :: o11 P :: o12 P :: o15 P :: o16 P :: o17 P :: o7 P :: o8 P :: o18 P :: o19 P :: o7 P :: o20 P :: o35 P :: o22 P :: o23 P :: o24 P :: o25 P :: o16 P :: o26 P :: o7 P :: o8 P :: o27 P :: o28 P :: o7 P :: o29 P :: o30 P :: o31 P :: o32 P :: o25 P :: o16 P :: o36 P :: o7 P :: o8 P :: o37 P :: o38 P :: o7 P :: o39 P :: o40 P :: o41 P :: o42 P :: o25 P :: o16 P :: o43 P :: o7 P :: o8 P :: o44 P :: o45 P :: o7 P :: o46 P :: o47 P :: o48 P :: o49 P :: []⟩, (Life.mk [] [] [] 0 [] [] Bool.false (List.toArray []) [] 0 Bool.false Bool.false Bool.false (0 : Int) [(2000 : Int), (10 : Int), (10 : Int)] Bool.false 0 Bool.true [] [] 0 Bool.false)⟩
noncomputable abbrev S5 (w : World) (os : OsState) : Shared := ⟨HS5 w.params, Array.mk [], (Drawn.mk 0 0 0 0), 255, os⟩
noncomputable def o50 (P : Params) : Obj := (Obj.mk (Value.type "dict") none (Data.dict (List.toArray [(DictEntry.mk (PyData.keyHash P (Str.ofString "__name__")) (Value.str (Str.ofString "__name__") 165) (Value.str (Str.ofString "law_uf060022_04") 294)), (DictEntry.mk (PyData.keyHash P (Str.ofString "__doc__")) (Value.str (Str.ofString "__doc__") 166) Value.none), (DictEntry.mk (PyData.keyHash P (Str.ofString "__package__")) (Value.str (Str.ofString "__package__") 167) Value.none), (DictEntry.mk (PyData.keyHash P (Str.ofString "__loader__")) (Value.str (Str.ofString "__loader__") 168) (Value.builtin "__main__.__loader__#opaque")), (DictEntry.mk (PyData.keyHash P (Str.ofString "__spec__")) (Value.str (Str.ofString "__spec__") 169) Value.none), (DictEntry.mk (PyData.keyHash P (Str.ofString "__annotations__")) (Value.str (Str.ofString "__annotations__") 170) (Value.ref 6)), (DictEntry.mk (PyData.keyHash P (Str.ofString "__builtins__")) (Value.str (Str.ofString "__builtins__") 171) (Value.ref 4)), (DictEntry.mk (PyData.keyHash P (Str.ofString "__file__")) (Value.str (Str.ofString "__file__") 173) (Value.str (Str.ofString "/claim/cut.py") 172)), (DictEntry.mk (PyData.keyHash P (Str.ofString "__cached__")) (Value.str (Str.ofString "__cached__") 174) Value.none), (DictEntry.mk (PyData.keyHash P (Str.ofString "FallError")) (Value.str (Str.ofString "FallError") 206) (Value.ref 24)), (DictEntry.mk (PyData.keyHash P (Str.ofString "NoBase")) (Value.str (Str.ofString "NoBase") 222) (Value.ref 37)), (DictEntry.mk (PyData.keyHash P (Str.ofString "NoNumber")) (Value.str (Str.ofString "NoNumber") 238) (Value.ref 49)), (DictEntry.mk (PyData.keyHash P (Str.ofString "Late")) (Value.str (Str.ofString "Late") 254) (Value.ref 61)), (DictEntry.mk (PyData.keyHash P (Str.ofString "Bare")) (Value.str (Str.ofString "Bare") 270) (Value.ref 73)), (DictEntry.mk (PyData.keyHash P (Str.ofString "SIGNS")) (Value.str (Str.ofString "SIGNS") 274) (Value.str (Str.ofString "0123456789abcdef") 273)), (DictEntry.mk (PyData.keyHash P (Str.ofString "need_base")) (Value.str (Str.ofString "need_base") 281) (Value.ref 82)), (DictEntry.mk (PyData.keyHash P (Str.ofString "read")) (Value.str (Str.ofString "read") 293) (Value.ref 89)), (DictEntry.mk (PyData.keyHash P (Str.ofString "_law_cell_at")) (Value.str (Str.ofString "_law_cell_at") 303) (Value.ref 96)), (DictEntry.mk (PyData.keyHash P (Str.ofString "_law_whole")) (Value.str (Str.ofString "_law_whole") 310) (Value.ref 103)), (DictEntry.mk (PyData.keyHash P (Str.ofString "_law_sign_by")) (Value.str (Str.ofString "_law_sign_by") 318) (Value.ref 110)), (DictEntry.mk (PyData.keyHash P (Str.ofString "_law_line_by")) (Value.str (Str.ofString "_law_line_by") 333) (Value.ref 117)), (DictEntry.mk (PyData.keyHash P (Str.ofString "_law_due_of")) (Value.str (Str.ofString "_law_due_of") 344) (Value.ref 124)), (DictEntry.mk (PyData.keyHash P (Str.ofString "_law_words")) (Value.str (Str.ofString "_law_words") 350) (Value.ref 129)), (DictEntry.mk (PyData.keyHash P (Str.ofString "_law_refused_by_any")) (Value.str (Str.ofString "_law_refused_by_any") 359) (Value.ref 136)), (DictEntry.mk (PyData.keyHash P (Str.ofString "law")) (Value.str (Str.ofString "law") 371) (Value.ref 143))]) 25) (List.toArray []))
noncomputable def o51 (_ : Params) : Obj := (Obj.mk Value.none none (Data.fields (List.toArray [(Value.int (2 : Int) 0), (Value.int (0 : Int) 0), (Value.ref 20), (Value.int (4 : Int) 0), (Value.int (0 : Int) 0), (Value.ref 33), (Value.int (6 : Int) 0), (Value.int (0 : Int) 0), (Value.ref 45), (Value.int (8 : Int) 0), (Value.int (0 : Int) 0), (Value.ref 57), (Value.int (10 : Int) 0), (Value.int (0 : Int) 0), (Value.ref 69), (Value.int (14 : Int) 0), (Value.int (0 : Int) 0), (Value.ref 81), (Value.int (17 : Int) 0), (Value.int (0 : Int) 0), (Value.ref 88), (Value.int (32 : Int) 0), (Value.int (0 : Int) 0), (Value.ref 95), (Value.int (36 : Int) 0), (Value.int (0 : Int) 0), (Value.ref 102), (Value.int (38 : Int) 0), (Value.int (0 : Int) 0), (Value.ref 109), (Value.int (42 : Int) 0), (Value.int (0 : Int) 0), (Value.ref 116), (Value.int (63 : Int) 0), (Value.int (0 : Int) 0), (Value.ref 123), (Value.int (73 : Int) 0), (Value.int (0 : Int) 0), (Value.ref 128), (Value.int (80 : Int) 0), (Value.int (0 : Int) 0), (Value.ref 135), (Value.int (86 : Int) 0), (Value.int (0 : Int) 0), (Value.ref 142)])) (List.toArray []))
noncomputable def o52 (_ : Params) : Obj := (Obj.mk (Value.type "type") none (Data.cls (ClassData.mk (Str.ofString "FallError") [(Value.type "ValueError")] [(Value.ref 24), (Value.type "ValueError"), (Value.type "Exception"), (Value.type "BaseException"), (Value.type "object")] 23 (Str.ofString "FallError") Bool.true [] [(Value.ref 37), (Value.ref 49), (Value.ref 61), (Value.ref 73)] Bool.false none Bool.false)) (List.toArray [(some (Value.ref 15)), none, (some (Value.str (Str.ofString "FallError") 189)), (some (Value.str (Str.ofString "FallError") 197)), (some (Value.builtin "ValueError.__new__")), (some (Value.bool Bool.true))]))
noncomputable def o53 (P : Params) : Obj := (Obj.mk (Value.type "dict") none (Data.dict (List.toArray [(DictEntry.mk (PyData.keyHash P (Str.ofString "__module__")) (Value.str (Str.ofString "__module__") 262) (Value.str (Str.ofString "bucketfall.errors") 187)), (DictEntry.mk (PyData.keyHash P (Str.ofString "__qualname__")) (Value.str (Str.ofString "__qualname__") 264) (Value.str (Str.ofString "Bare") 263)), (DictEntry.mk (PyData.keyHash P (Str.ofString "__firstlineno__")) (Value.str (Str.ofString "__firstlineno__") 266) (Value.int (10 : Int) 265)), (DictEntry.mk (PyData.keyHash P (Str.ofString "__static_attributes__")) (Value.str (Str.ofString "__static_attributes__") 267) (Value.ref 71))]) 4) (List.toArray []))
noncomputable def o54 (_ : Params) : Obj := (Obj.mk (Value.type "code") none (Data.fields (List.toArray [(Value.str (Str.ofString "Bare") 257), (Value.str (Str.ofString "Bare") 258), (Value.str (Str.ofString "/claim/cut.py") 259), (Value.int (10 : Int) 0), (Value.int (0 : Int) 0), (Value.int (0 : Int) 0), (Value.int (0 : Int) 0), (Value.int (0 : Int) 0), (Value.ref 67), (Value.bool Bool.false), (Value.int (181 : Int) 0), (Value.ref 68), Value.none, Value.none, Value.none, Value.none, (Value.int (260 : Int) 0), (Value.int (10 : Int) 0), (Value.str (Str.ofString "/claim/cut.py") 261)])) (List.toArray []))
noncomputable def o55 (_ : Params) : Obj := (Obj.mk (Value.type "frame") none Data.plain (List.toArray [(some (Value.ref 69)), (some (Value.ref 3)), (some (Value.ref 66)), none, (some (Value.str (Str.ofString "bucketfall.errors") 187)), none, (some (Value.ref 0))]))
noncomputable def o56 (P : Params) : Obj := (Obj.mk (Value.type "dict") none (Data.dict (List.toArray [(DictEntry.mk (PyData.keyHash P (Str.ofString "__module__")) (Value.str (Str.ofString "__module__") 262) (Value.str (Str.ofString "bucketfall.errors") 187)), (DictEntry.mk (PyData.keyHash P (Str.ofString "__firstlineno__")) (Value.str (Str.ofString "__firstlineno__") 266) (Value.int (10 : Int) 265)), (DictEntry.mk (PyData.keyHash P (Str.ofString "__static_attributes__")) (Value.str (Str.ofString "__static_attributes__") 267) (Value.ref 71)), (DictEntry.mk (PyData.keyHash P (Str.ofString "__doc__")) (Value.str (Str.ofString "__doc__") 268) Value.none)]) 2) (List.toArray []))
noncomputable def o57 (_ : Params) : Obj := (Obj.mk (Value.type "type") none (Data.cls (ClassData.mk (Str.ofString "Bare") [(Value.ref 24)] [(Value.ref 73), (Value.ref 24), (Value.type "ValueError"), (Value.type "Exception"), (Value.type "BaseException"), (Value.type "object")] 72 (Str.ofString "Bare") Bool.true [] [] Bool.false none Bool.false)) (List.toArray [(some (Value.ref 64)), none, (some (Value.str (Str.ofString "Bare") 255)), (some (Value.str (Str.ofString "Bare") 263)), (some (Value.builtin "ValueError.__new__")), (some (Value.bool Bool.true))]))
noncomputable def o58 (_ : Params) : Obj := (Obj.mk (Value.type "super") none (Data.fields (List.toArray [(Value.ref 73), (Value.ref 73), (Value.ref 73)])) (List.toArray []))
noncomputable def o59 (_ : Params) : Obj := (Obj.mk (Value.type "builtin_function_or_method") none (Data.fields (List.toArray [(Value.builtin "object.__init_subclass__"), (Value.ref 73)])) (List.toArray []))
noncomputable def o60 (_ : Params) : Obj := (Obj.mk (Value.type "tuple") none (Data.seq (List.toArray [(Value.str (Str.ofString "base") 278)]) 0) (List.toArray []))
noncomputable def o61 (_ : Params) : Obj := fnZ (st 8) (Str.ofString "need_base")
noncomputable def o62 (_ : Params) : Obj := (Obj.mk (Value.type "code") none (Data.fields (List.toArray [(Value.str (Str.ofString "need_base") 275), (Value.str (Str.ofString "need_base") 276), (Value.str (Str.ofString "/claim/cut.py") 277), (Value.int (14 : Int) 0), (Value.int (1 : Int) 0), (Value.int (0 : Int) 0), (Value.int (0 : Int) 0), (Value.int (3 : Int) 0), (Value.ref 76), (Value.bool Bool.true), (Value.int (181 : Int) 0), (Value.ref 77), Value.none, (Value.ref 78), (Value.ref 79), (Value.ref 80), (Value.int (279 : Int) 0), (Value.int (14 : Int) 0), (Value.str (Str.ofString "/claim/cut.py") 280)])) (List.toArray []))
noncomputable def o63 (_ : Params) : Obj := fnO (st 8) (Str.ofString "need_base") (Value.str (Str.ofString "bucketfall.figures") 271) (Value.ref 81)
noncomputable def o64 (_ : Params) : Obj := (Obj.mk (Value.type "tuple") none (Data.seq (List.toArray [(Value.str (Str.ofString "line") 285), (Value.str (Str.ofString "base") 286), (Value.str (Str.ofString "good") 287), (Value.str (Str.ofString "number") 288), (Value.str (Str.ofString "sign") 289), (Value.str (Str.ofString "figure") 290)]) 0) (List.toArray []))
noncomputable def o65 (_ : Params) : Obj := fnZ (st 9) (Str.ofString "read")
noncomputable def o66 (_ : Params) : Obj := (Obj.mk (Value.type "code") none (Data.fields (List.toArray [(Value.str (Str.ofString "read") 282), (Value.str (Str.ofString "read") 283), (Value.str (Str.ofString "/claim/cut.py") 284), (Value.int (17 : Int) 0), (Value.int (2 : Int) 0), (Value.int (0 : Int) 0), (Value.int (0 : Int) 0), (Value.int (3 : Int) 0), (Value.ref 83), (Value.bool Bool.true), (Value.int (181 : Int) 0), (Value.ref 84), Value.none, (Value.ref 85), (Value.ref 86), (Value.ref 87), (Value.int (291 : Int) 0), (Value.int (17 : Int) 0), (Value.str (Str.ofString "/claim/cut.py") 292)])) (List.toArray []))
noncomputable def o67 (_ : Params) : Obj := fnO (st 9) (Str.ofString "read") (Value.str (Str.ofString "bucketfall.figures") 271) (Value.ref 88)
noncomputable def o68 (_ : Params) : Obj := (Obj.mk (Value.type "tuple") none (Data.seq (List.toArray [(Value.str (Str.ofString "_law_script") 299), (Value.str (Str.ofString "_law_k") 300)]) 0) (List.toArray []))
noncomputable def o69 (_ : Params) : Obj := fnZ (st 11) (Str.ofString "_law_cell_at")
noncomputable def o70 (_ : Params) : Obj := (Obj.mk (Value.type "code") none (Data.fields (List.toArray [(Value.str (Str.ofString "_law_cell_at") 296), (Value.str (Str.ofString "_law_cell_at") 297), (Value.str (Str.ofString "/claim/cut.py") 298), (Value.int (32 : Int) 0), (Value.int (2 : Int) 0), (Value.int (0 : Int) 0), (Value.int (0 : Int) 0), (Value.int (3 : Int) 0), (Value.ref 90), (Value.bool Bool.true), (Value.int (181 : Int) 0), (Value.ref 91), Value.none, (Value.ref 92), (Value.ref 93), (Value.ref 94), (Value.int (301 : Int) 0), (Value.int (32 : Int) 0), (Value.str (Str.ofString "/claim/cut.py") 302)])) (List.toArray []))
noncomputable def o71 (_ : Params) : Obj := fnO (st 11) (Str.ofString "_law_cell_at") (Value.str (Str.ofString "law_uf060022_04") 294) (Value.ref 95)
noncomputable def o72 (_ : Params) : Obj := (Obj.mk (Value.type "tuple") none (Data.seq (List.toArray [(Value.str (Str.ofString "_law_found") 307)]) 0) (List.toArray []))
noncomputable def o73 (_ : Params) : Obj := fnZ (st 12) (Str.ofString "_law_whole")
noncomputable def o74 (_ : Params) : Obj := (Obj.mk (Value.type "code") none (Data.fields (List.toArray [(Value.str (Str.ofString "_law_whole") 304), (Value.str (Str.ofString "_law_whole") 305), (Value.str (Str.ofString "/claim/cut.py") 306), (Value.int (36 : Int) 0), (Value.int (1 : Int) 0), (Value.int (0 : Int) 0), (Value.int (0 : Int) 0), (Value.int (3 : Int) 0), (Value.ref 97), (Value.bool Bool.true), (Value.int (181 : Int) 0), (Value.ref 98), Value.none, (Value.ref 99), (Value.ref 100), (Value.ref 101), (Value.int (308 : Int) 0), (Value.int (36 : Int) 0), (Value.str (Str.ofString "/claim/cut.py") 309)])) (List.toArray []))
noncomputable def o75 (_ : Params) : Obj := fnO (st 12) (Str.ofString "_law_whole") (Value.str (Str.ofString "law_uf060022_04") 294) (Value.ref 102)
noncomputable def o76 (_ : Params) : Obj := (Obj.mk (Value.type "tuple") none (Data.seq (List.toArray [(Value.str (Str.ofString "_law_cell") 314), (Value.str (Str.ofString "_law_some") 315)]) 0) (List.toArray []))
noncomputable def o77 (_ : Params) : Obj := fnZ (st 13) (Str.ofString "_law_sign_by")
noncomputable def o78 (_ : Params) : Obj := (Obj.mk (Value.type "code") none (Data.fields (List.toArray [(Value.str (Str.ofString "_law_sign_by") 311), (Value.str (Str.ofString "_law_sign_by") 312), (Value.str (Str.ofString "/claim/cut.py") 313), (Value.int (38 : Int) 0), (Value.int (1 : Int) 0), (Value.int (0 : Int) 0), (Value.int (0 : Int) 0), (Value.int (3 : Int) 0), (Value.ref 104), (Value.bool Bool.true), (Value.int (181 : Int) 0), (Value.ref 105), Value.none, (Value.ref 106), (Value.ref 107), (Value.ref 108), (Value.int (316 : Int) 0), (Value.int (38 : Int) 0), (Value.str (Str.ofString "/claim/cut.py") 317)])) (List.toArray []))
noncomputable def o79 (_ : Params) : Obj := fnO (st 13) (Str.ofString "_law_sign_by") (Value.str (Str.ofString "law_uf060022_04") 294) (Value.ref 109)
noncomputable def o80 (_ : Params) : Obj := (Obj.mk (Value.type "tuple") none (Data.seq (List.toArray [(Value.str (Str.ofString "_law_script") 322), (Value.str (Str.ofString "_law_base") 323), (Value.str (Str.ofString "_law_way") 324), (Value.str (Str.ofString "_law_line") 325), (Value.str (Str.ofString "_law_k") 326), (Value.str (Str.ofString "_law_at") 327), (Value.str (Str.ofString "_law_most") 328), (Value.str (Str.ofString "_law_bad") 329), (Value.str (Str.ofString "_law_cell") 330)]) 0) (List.toArray []))
noncomputable def o81 (_ : Params) : Obj := fnZ (st 14) (Str.ofString "_law_line_by")
noncomputable def o82 (_ : Params) : Obj := (Obj.mk (Value.type "code") none (Data.fields (List.toArray [(Value.str (Str.ofString "_law_line_by") 319), (Value.str (Str.ofString "_law_line_by") 320), (Value.str (Str.ofString "/claim/cut.py") 321), (Value.int (42 : Int) 0), (Value.int (2 : Int) 0), (Value.int (0 : Int) 0), (Value.int (0 : Int) 0), (Value.int (3 : Int) 0), (Value.ref 111), (Value.bool Bool.true), (Value.int (181 : Int) 0), (Value.ref 112), Value.none, (Value.ref 113), (Value.ref 114), (Value.ref 115), (Value.int (331 : Int) 0), (Value.int (42 : Int) 0), (Value.str (Str.ofString "/claim/cut.py") 332)])) (List.toArray []))
noncomputable def o83 (_ : Params) : Obj := fnO (st 14) (Str.ofString "_law_line_by") (Value.str (Str.ofString "law_uf060022_04") 294) (Value.ref 116)
noncomputable def o84 (_ : Params) : Obj := (Obj.mk (Value.type "tuple") none (Data.seq (List.toArray [(Value.str (Str.ofString "_law_line") 337), (Value.str (Str.ofString "_law_base") 338), (Value.str (Str.ofString "_law_made") 339), (Value.str (Str.ofString "_law_sign") 340), (Value.str (Str.ofString "_law_figure") 341)]) 0) (List.toArray []))
noncomputable def o85 (_ : Params) : Obj := fnZ (st 15) (Str.ofString "_law_due_of")
noncomputable def o86 (_ : Params) : Obj := (Obj.mk (Value.type "code") none (Data.fields (List.toArray [(Value.str (Str.ofString "_law_due_of") 334), (Value.str (Str.ofString "_law_due_of") 335), (Value.str (Str.ofString "/claim/cut.py") 336), (Value.int (63 : Int) 0), (Value.int (2 : Int) 0), (Value.int (0 : Int) 0), (Value.int (0 : Int) 0), (Value.int (3 : Int) 0), (Value.ref 118), (Value.bool Bool.true), (Value.int (181 : Int) 0), (Value.ref 119), Value.none, (Value.ref 120), (Value.ref 121), (Value.ref 122), (Value.int (342 : Int) 0), (Value.int (63 : Int) 0), (Value.str (Str.ofString "/claim/cut.py") 343)])) (List.toArray []))
noncomputable def o87 (_ : Params) : Obj := fnO (st 15) (Str.ofString "_law_due_of") (Value.str (Str.ofString "law_uf060022_04") 294) (Value.ref 123)
noncomputable def o88 (_ : Params) : Obj := fnZ (st 16) (Str.ofString "_law_words")
noncomputable def o89 (_ : Params) : Obj := (Obj.mk (Value.type "code") none (Data.fields (List.toArray [(Value.str (Str.ofString "_law_words") 345), (Value.str (Str.ofString "_law_words") 346), (Value.str (Str.ofString "/claim/cut.py") 347), (Value.int (73 : Int) 0), (Value.int (1 : Int) 0), (Value.int (0 : Int) 0), (Value.int (0 : Int) 0), (Value.int (3 : Int) 0), (Value.ref 125), (Value.bool Bool.true), (Value.int (181 : Int) 0), (Value.ref 126), Value.none, Value.none, Value.none, (Value.ref 127), (Value.int (348 : Int) 0), (Value.int (73 : Int) 0), (Value.str (Str.ofString "/claim/cut.py") 349)])) (List.toArray []))
noncomputable def o90 (_ : Params) : Obj := fnO (st 16) (Str.ofString "_law_words") (Value.str (Str.ofString "law_uf060022_04") 294) (Value.ref 128)
noncomputable def o91 (_ : Params) : Obj := (Obj.mk (Value.type "tuple") none (Data.seq (List.toArray [(Value.str (Str.ofString "_law_line") 354), (Value.str (Str.ofString "_law_base") 355), (Value.str (Str.ofString "_law_e") 356)]) 0) (List.toArray []))
noncomputable def o92 (_ : Params) : Obj := fnZ (st 17) (Str.ofString "_law_refused_by_any")
noncomputable def o93 (_ : Params) : Obj := (Obj.mk (Value.type "code") none (Data.fields (List.toArray [(Value.str (Str.ofString "_law_refused_by_any") 351), (Value.str (Str.ofString "_law_refused_by_any") 352), (Value.str (Str.ofString "/claim/cut.py") 353), (Value.int (80 : Int) 0), (Value.int (2 : Int) 0), (Value.int (0 : Int) 0), (Value.int (0 : Int) 0), (Value.int (3 : Int) 0), (Value.ref 130), (Value.bool Bool.true), (Value.int (181 : Int) 0), (Value.ref 131), Value.none, (Value.ref 132), (Value.ref 133), (Value.ref 134), (Value.int (357 : Int) 0), (Value.int (80 : Int) 0), (Value.str (Str.ofString "/claim/cut.py") 358)])) (List.toArray []))
noncomputable def o94 (_ : Params) : Obj := fnO (st 17) (Str.ofString "_law_refused_by_any") (Value.str (Str.ofString "law_uf060022_04") 294) (Value.ref 135)
noncomputable def o95 (_ : Params) : Obj := (Obj.mk (Value.type "tuple") none (Data.seq (List.toArray [(Value.str (Str.ofString "_law_script") 363), (Value.str (Str.ofString "_law_base") 364), (Value.str (Str.ofString "_law_line") 365), (Value.str (Str.ofString "_law_due") 366), (Value.str (Str.ofString "_law_refused") 367), (Value.str (Str.ofString "_law_found") 368)]) 0) (List.toArray []))
noncomputable def o96 (_ : Params) : Obj := fnZ (st 18) (Str.ofString "law")
noncomputable def o97 (_ : Params) : Obj := (Obj.mk (Value.type "code") none (Data.fields (List.toArray [(Value.str (Str.ofString "law") 360), (Value.str (Str.ofString "law") 361), (Value.str (Str.ofString "/claim/cut.py") 362), (Value.int (86 : Int) 0), (Value.int (1 : Int) 0), (Value.int (0 : Int) 0), (Value.int (0 : Int) 0), (Value.int (3 : Int) 0), (Value.ref 137), (Value.bool Bool.true), (Value.int (181 : Int) 0), (Value.ref 138), Value.none, (Value.ref 139), (Value.ref 140), (Value.ref 141), (Value.int (369 : Int) 0), (Value.int (86 : Int) 0), (Value.str (Str.ofString "/claim/cut.py") 370)])) (List.toArray []))
noncomputable def o98 (_ : Params) : Obj := fnO (st 18) (Str.ofString "law") (Value.str (Str.ofString "law_uf060022_04") 294) (Value.ref 142)
noncomputable def HS19 (P : Params) : Heap := ⟨⟨o0 P :: o1 P :: o2 P :: o50 P :: o4 P :: o5 P :: o6 P :: o7 P :: o8 P :: o9 P :: o10 P :: o7 P :: o51 P :: o11 P :: o12 P :: o15 P :: o16 P :: o17 P :: o7 P :: o8 P :: o18 P :: o19 P :: o7 P :: o20 P :: o52 P :: o22 P :: o23 P :: o24 P :: o25 P :: o16 P :: o26 P :: o7 P :: o8 P :: o27 P :: o28 P :: o7 P :: o29 P :: o30 P :: o31 P :: o32 P :: o25 P :: o16 P :: o36 P :: o7 P :: o8 P :: o37 P :: o38 P :: o7 P :: o39 P :: o40 P :: o41 P :: o42 P :: o25 P :: o16 P :: o43 P :: o7 P :: o8 P :: o44 P :: o45 P :: o7 P :: o46 P :: o47 P :: o48 P :: o49 P :: o25 P :: o16 P :: o53 P :: o7 P :: o8 P :: o54 P :: o55 P :: o7 P :: o56 P :: o57 P :: o58 P :: o59 P :: o7 P :: o8 P :: o60 P :: o7 P :: o61 P :: o62 P :: o63 P :: o7 P :: o8 P :: o64 P :: o7 P :: o65 P :: o66 P :: o67 P :: o7 P :: o8 P :: o68 P :: o7 P :: o69 P :: o70 P :: o71 P :: o7 P :: o8 P :: o72 P :: o7 P :: o73 P :: o74 P :: o75 P :: o7 P :: o8 P :: o76 P :: o7 P :: o77 P :: o78 P :: o79 P :: o7 P :: o8 P :: o80 P :: o7 P :: o81 P :: o82 P :: o83 P :: o7 P :: o8 P :: o84 P :: o7 P :: o85 P :: o86 P :: o87 P :: o7 P :: o8 P :: o88 P :: o89 P :: o90 P :: o7 P :: o8 P :: o91 P :: o7 P :: o92 P :: o93 P :: o94 P :: o7 P :: o8 P :: o95 P :: o7 P :: o96 P :: o97 P :: o98 P :: []⟩, (Life.mk [] [] [] 0 [] [] Bool.false (List.toArray []) [] 0 Bool.false Bool.false Bool.false (0 : Int) [(2000 : Int), (10 : Int), (10 : Int)] Bool.false 0 Bool.true [] [] 0 Bool.false)⟩
noncomputable abbrev S19 (w : World) (os : OsState) : Shared := ⟨HS19 w.params, Array.mk [], (Drawn.mk 0 0 0 0), 372, os⟩
noncomputable abbrev Sf (w : World) (os : OsState) : Shared := ⟨HS19 w.params, Array.mk [], (Drawn.mk 0 0 0 0), 372, os⟩
noncomputable def K04 : Params → Frag := fun P =>
  (nat_lit 2, o2 P) ::
  (nat_lit 3, o50 P) ::
  (nat_lit 6, o6 P) ::
  (nat_lit 15, o15 P) ::
  (nat_lit 22, o7 P) ::
  (nat_lit 23, o20 P) ::
  (nat_lit 24, o52 P) ::
  (nat_lit 25, o22 P) ::
  (nat_lit 28, o25 P) ::
  (nat_lit 35, o7 P) ::
  (nat_lit 36, o29 P) ::
  (nat_lit 37, o30 P) ::
  (nat_lit 40, o25 P) ::
  (nat_lit 47, o7 P) ::
  (nat_lit 48, o39 P) ::
  (nat_lit 49, o40 P) ::
  (nat_lit 52, o25 P) ::
  (nat_lit 59, o7 P) ::
  (nat_lit 60, o46 P) ::
  (nat_lit 61, o47 P) ::
  (nat_lit 64, o25 P) ::
  (nat_lit 71, o7 P) ::
  (nat_lit 72, o56 P) ::
  (nat_lit 73, o57 P) ::
  (nat_lit 76, o7 P) ::
  (nat_lit 78, o60 P) ::
  (nat_lit 79, o7 P) ::
  (nat_lit 81, o62 P) ::
  (nat_lit 82, o63 P) ::
  (nat_lit 83, o7 P) ::
  (nat_lit 85, o64 P) ::
  (nat_lit 86, o7 P) ::
  (nat_lit 88, o66 P) ::
  (nat_lit 89, o67 P) ::
  (nat_lit 90, o7 P) ::
  (nat_lit 92, o68 P) ::
  (nat_lit 93, o7 P) ::
  (nat_lit 95, o70 P) ::
  (nat_lit 96, o71 P) ::
  (nat_lit 97, o7 P) ::
  (nat_lit 99, o72 P) ::
  (nat_lit 100, o7 P) ::
  (nat_lit 102, o74 P) ::
  (nat_lit 103, o75 P) ::
  (nat_lit 104, o7 P) ::
  (nat_lit 106, o76 P) ::
  (nat_lit 107, o7 P) ::
  (nat_lit 109, o78 P) ::
  (nat_lit 110, o79 P) ::
  (nat_lit 111, o7 P) ::
  (nat_lit 113, o80 P) ::
  (nat_lit 114, o7 P) ::
  (nat_lit 116, o82 P) ::
  (nat_lit 117, o83 P) ::
  (nat_lit 118, o7 P) ::
  (nat_lit 120, o84 P) ::
  (nat_lit 121, o7 P) ::
  (nat_lit 123, o86 P) ::
  (nat_lit 124, o87 P) ::
  (nat_lit 125, o7 P) ::
  (nat_lit 128, o89 P) ::
  (nat_lit 129, o90 P) ::
  (nat_lit 130, o7 P) ::
  (nat_lit 132, o91 P) ::
  (nat_lit 133, o7 P) ::
  (nat_lit 135, o93 P) ::
  (nat_lit 136, o94 P) ::
  (nat_lit 137, o7 P) ::
  (nat_lit 139, o95 P) ::
  (nat_lit 140, o7 P) ::
  (nat_lit 142, o97 P) ::
  (nat_lit 143, o98 P) ::
  []
noncomputable abbrev Hk04 : Hook := kHook K04 [nat_lit 2, nat_lit 3, nat_lit 6, nat_lit 15, nat_lit 22, nat_lit 23, nat_lit 24, nat_lit 25, nat_lit 28, nat_lit 35, nat_lit 36, nat_lit 37, nat_lit 40, nat_lit 47, nat_lit 48, nat_lit 49, nat_lit 52, nat_lit 59, nat_lit 60, nat_lit 61, nat_lit 64, nat_lit 71, nat_lit 72, nat_lit 73, nat_lit 76, nat_lit 78, nat_lit 79, nat_lit 81, nat_lit 82, nat_lit 83, nat_lit 85, nat_lit 86, nat_lit 88, nat_lit 89, nat_lit 90, nat_lit 92, nat_lit 93, nat_lit 95, nat_lit 96, nat_lit 97, nat_lit 99, nat_lit 100, nat_lit 102, nat_lit 103, nat_lit 104, nat_lit 106, nat_lit 107, nat_lit 109, nat_lit 110, nat_lit 111, nat_lit 113, nat_lit 114, nat_lit 116, nat_lit 117, nat_lit 118, nat_lit 120, nat_lit 121, nat_lit 123, nat_lit 124, nat_lit 125, nat_lit 128, nat_lit 129, nat_lit 130, nat_lit 132, nat_lit 133, nat_lit 135, nat_lit 136, nat_lit 137, nat_lit 139, nat_lit 140, nat_lit 142, nat_lit 143] (fun _ => by kernel_rfl)
noncomputable abbrev q04 : Program := view PySem.Challenge.pw_uf060022_04 [1, 2, 3, 4, 5, 7, 8, 9, 11, 12, 13, 14, 15, 16, 17, 18]
noncomputable def ll0 : List Stmt := [st 0, st 1, st 2]
noncomputable def ll3 : List Stmt := [st 3, st 4]
noncomputable def ll5 : List Stmt := [st 5, st 6, st 7, st 8, st 9, st 10, st 11, st 12, st 13, st 14, st 15, st 16, st 17, st 18]
noncomputable def bd : List Stmt := ll0 ++ (ll3 ++ (ll5 ++ []))
noncomputable def ev : Env := { scope := PySem.Challenge.pw_uf060022_04.main.scope, locals := mainNs, globals := mainNs, cells := [], code := (Value.ref 13), frame := some 14 }
noncomputable def cE : Code := .body bd ev
theorem go0 (w : World) (os : OsState) : topGo treeTable PySem.Challenge.pw_uf060022_04 w 11 (some (Value.ref 6)) 12 ⟨boot_heap w.params, Array.mk [], boot_drawn, boot_toks, os⟩ (topStub PySem.Challenge.pw_uf060022_04) = some (Sa w os, ⟨denote treeTable cE, cE, ⟨0, 0, 0, 0⟩, [topFrame ⟨0, 0, 0, 0⟩]⟩) := by
  rw [PySem.W.Fast.te15667345088766844465, PySem.W.Fast.te14364793385576792824, PySem.W.Fast.te11892475500146522536]
  kernel_rfl
theorem go1 (w : World) (os : OsState) : segRun treeTable PySem.Challenge.pw_uf060022_04 w 11 (some (Value.ref 6)) 1 1 (Sa w os) (blockOf bd ev cE ⟨0, 0, 0, 0⟩ [topFrame ⟨0, 0, 0, 0⟩]) = some (.next, Sa w os, cE, ⟨0, 0, 0, 0⟩) := by
  rw [PySem.W.Fast.te14374325043358763698, PySem.W.Fast.te14364793385576792824]
  kernel_rfl
theorem seg0 (w : World) (os : OsState) : segRun treeTable PySem.Challenge.pw_uf060022_04 w 11 (some (Value.ref 6)) 1 409 (Sa w os) ⟨(execs ll0 ev).wrap doneF deadEnd id id, cE, ⟨0, 0, 0, 0⟩, [topFrame ⟨0, 0, 0, 0⟩]⟩ = some (.next, S3 w os, cE, ⟨4, 0, 5, 8⟩) := by
  rw [PySem.W.Fast.te14374325043358763698, PySem.W.Fast.te14364793385576792824, PySem.W.Fast.te12563942051412417395]
  kernel_rfl
theorem seg3 (w : World) (os : OsState) : segRun treeTable PySem.Challenge.pw_uf060022_04 w 11 (some (Value.ref 6)) 1 427 (S3 w os) ⟨(execs ll3 ev).wrap doneF deadEnd id id, cE, ⟨4, 0, 5, 8⟩, [topFrame ⟨0, 0, 0, 0⟩]⟩ = some (.next, S5 w os, cE, ⟨8, 0, 9, 8⟩) := by
  rw [PySem.W.Fast.te14374325043358763698, PySem.W.Fast.te14364793385576792824, PySem.W.Fast.te12563942051412417395]
  kernel_rfl
theorem seg5 (w : World) (os : OsState) : segRun treeTable PySem.Challenge.pw_uf060022_04 w 11 (some (Value.ref 6)) 1 554 (S5 w os) ⟨(execs ll5 ev).wrap doneF deadEnd id id, cE, ⟨8, 0, 9, 8⟩, [topFrame ⟨0, 0, 0, 0⟩]⟩ = some (.next, S19 w os, cE, ⟨86, 0, 98, 83⟩) := by
  rw [PySem.W.Fast.te14374325043358763698, PySem.W.Fast.te14364793385576792824, PySem.W.Fast.te12563942051412417395]
  kernel_rfl
theorem segE (w : World) (os : OsState) : topRun treeTable PySem.Challenge.pw_uf060022_04 w 11 (some (Value.ref 6)) 2 (S19 w os) ⟨doneF .next, cE, ⟨86, 0, 98, 83⟩, [topFrame ⟨0, 0, 0, 0⟩]⟩ = some (Sf w os) := by
  rw [PySem.W.Fast.te14082659384304107361, PySem.W.Fast.te14364793385576792824]
  kernel_rfl
theorem runAll (w : World) (os : OsState) : topRun treeTable PySem.Challenge.pw_uf060022_04 w 11 (some (Value.ref 6)) (12 + (1 + (409 + (427 + (554 + (2)))))) ⟨boot_heap w.params, Array.mk [], boot_drawn, boot_toks, os⟩ (topStub PySem.Challenge.pw_uf060022_04) = some (Sf w os) :=
  go_top (go0 w os) (piece_block (go1 w os) (piece_app (seg0 w os) (piece_app (seg3 w os) (piece_app (seg5 w os) (segE w os)))))
theorem lookA (w : World) (os : OsState) : (staticsOk (importedModules PySem.Challenge.pw_uf060022_04.main.body) (boot_heap w.params) (HS19 w.params) && namesBound PySem.Challenge.pw_uf060022_04 (HS19 w.params) && gensDone (Sf w os) && laidKept (boot_heap w.params) (HS19 w.params)) = true := by
  rw [PySem.W.Fast.te5923862056798008813]
  kernel_rfl
theorem lookB (w : World) (os : OsState) : openSeen q04 [] (importedModules PySem.Challenge.pw_uf060022_04.main.body) (fun s => xlAt q04 [] s && recOk (RowW.records (OpenLaw.row PySem.Challenge.rw_uf060022_04).toRowW) s) true (Sf w os) = openGood q04 [] := by
  rw [PySem.W.Fast.te4187177175401517315, PySem.W.Fast.te5923862056798008813]
  kernel_rfl
theorem lookY (w : World) (os : OsState) : Hook.obs Hk04 (Sf w os) = Hook.val Hk04 w := by
  kernel_rfl
theorem left04 : LeftO PySem.Challenge.pw_uf060022_04 q04 [] (fun s => xlAt q04 [] s && recOk (RowW.records (OpenLaw.row PySem.Challenge.rw_uf060022_04).toRowW) s) (Hook.obs Hk04) (Hook.val Hk04) 1505 :=
  LeftO.of_pieces (boot_open (by kernel_rfl) (by decide) (fun _ => by kernel_rfl)) (fun _ => by kernel_rfl) runAll (by decide) fun w => funext fun os => Prod.ext (lookA w os) (Prod.ext (lookB w os) (lookY w os))
theorem saidL : looksOpen (OpenLaw.row PySem.Challenge.rw_uf060022_04).prog = true := by
  refine look_both ?_ (by rw [PySem.W.Fast.te17119622794617984870]; decide +kernel)
  refine look_both ?_ (by rw [PySem.W.Fast.te8326940854005059898]; decide +kernel)
  refine look_both ?_ (by decide +kernel)
  refine look_both ?_ (by rw [PySem.W.Fast.te8377067652309620493]; decide +kernel)
  exact look_both (by decide +kernel) (by decide +kernel)
theorem saidP : (OpenLaw.row PySem.Challenge.rw_uf060022_04).partSaid = true := by
  iterate 13 refine look_both ?_ (by decide +kernel)
  exact saidL
theorem saidR : (OpenLaw.row PySem.Challenge.rw_uf060022_04).wellSaid = true := look_both (look_both saidP (by decide +kernel)) (by decide +kernel)
theorem said04 : PySem.Challenge.rw_uf060022_04.wellSaid = true := by
  iterate 18 refine look_both ?_ (by decide +kernel)
  exact saidR
theorem fill04 : PySem.Challenge.rw_uf060022_04 = PySem.Challenge.rw_uf060022_04 → Mine.K04 = Mine.K04 → True := by k_fill; intros; trivial
end Mine

set_option maxRecDepth 100000
set_option maxHeartbeats 4000000
set_option compiler.extract_closed false
namespace Mine
open PySem PyProof.Rows PySem.W
local macro_rules | `(tactic| walk_at "m.ne") => `(tactic| exact ofString_ne (by decide))
local macro_rules | `(tactic| walk_at "m.lk") => `(tactic| first | with_reducible exact lk_here | with_reducible exact lk_same | (with_reducible (apply lk_other); (case h => walk_at "m.ne"); walk_at "m.lk") | (with_reducible (apply lk_there); (case h => walk_at "m.ne"); walk_at "m.lk"))
local macro_rules | `(tactic| walk_at "m.lkn") => `(tactic| first | exact lkn_nil | (refine lkn_other (by walk_at "m.ne") ?_; walk_at "m.lkn") | (refine lkn_there (by walk_at "m.ne") ?_; walk_at "m.lkn"))
local macro_rules | `(tactic| walk_at "m.sub") => `(tactic| first | exact Sub_nil | exact Sub_refl | (refine' Sub_put ?s ?n; (case n => walk_at "m.lkn"); (case s => walk_at "m.sub")) | (refine Sub_cons (by walk_at "m.lk") ?_; walk_at "m.sub"))
local macro_rules | `(tactic| walk_at "m.bind") => `(tactic| (intro vs hvs; first | (obtain ⟨a, e⟩ := len1 hvs; subst e; rfl) | (obtain ⟨a, b, e⟩ := len2 hvs; subst e; rfl) | (obtain ⟨a, b, c, e⟩ := len3 hvs; subst e; rfl) | (obtain ⟨a, b, c, d, e⟩ := len4 hvs; subst e; rfl)))
local macro_rules | `(tactic| walk_at "m.kinds") => `(tactic| (simp only [List.forall_mem_cons, List.not_mem_nil, false_implies, implies_true, and_true]; first | exact Or.inl rfl | exact Or.inr rfl | exact ⟨by walk_at "m.sto", by walk_at "m.sto"⟩ | exact ⟨by walk_at "m.sto", by walk_at "m.sto", by walk_at "m.sto"⟩ | exact ⟨by walk_at "m.sto", by walk_at "m.sto", by walk_at "m.sto", by walk_at "m.sto"⟩))
local macro_rules | `(tactic| walk_at "m.def") => `(tactic| (refine' mkDef (by assumption) ?a ?b ?c ?d ?e ?f ?g ?h ?i; (case a => k_is); (case b => k_is); (case c => k_is); (case d => walk_at "m.bind"); (case e => rfl); (case f => rfl); (case g => rfl); (case h => decide); (case i => walk_at "m.kinds")))
local macro_rules | `(tactic| walk_at "m.fn") => `(tactic| (refine' mkFn (by assumption) ?a ?b; (case a => k_is); (case b => k_is)))
local macro_rules | `(tactic| walk_at "m.sto") => `(tactic| first | exact Or.inl rfl | exact Or.inr rfl)
local macro_rules | `(tactic| walk_at "m.bb") => `(tactic| with_reducible first | exact bb_len | exact bb_isinstance | exact bb_range | exact bb_int | exact bb_bool | exact bb_str | exact bb_tuple | exact bb_list | exact bb_min | exact bb_max | exact bb_sorted)
local macro_rules | `(tactic| walk_at "m.glob") => `(tactic| (refine' G_blt (by assumption) ?a ?b ?c; (case a => k_is); (case b => walk_at "m.bb"); (case c => exact ofString_ne (by decide))))
local macro_rules | `(tactic| walk_at "m.call") => `(tactic| first
  | (refine' TE_callN ?h1 ?h2 ?_ ?h3 ?h4; (case h2 => walk_at "m.fn"); (case h1 => rfl); (case h3 => exact ofString_beq (by decide)); (case h4 => rfl))
  | (refine' TE_callB ?h1 ?h2 ?_ ?h3 ?h4; (case h2 => walk_at "m.glob"); (case h1 => rfl); (case h3 => exact ofString_beq (by decide)); (case h4 => rfl))
  | (refine' TE_callT ?h1 ?h2 ?_ ?h3 ?h4; (case h2 => walk_at "m.glob"); (case h1 => rfl); (case h3 => exact ofString_beq (by decide)); (case h4 => rfl)))
local macro_rules | `(tactic| walk_at "m.name") => `(tactic| first
  | (refine' TE_name ?h1 ?_ ?h2 ?h3; (case h1 => walk_at "m.lk"); (case h2 => exact ofString_beq (by decide)); (case h3 => exact ofString_beq (by decide)))
  | (refine' TE_glob ?h1 ?h2 ?_ ?h3; (case h2 => walk_at "m.glob"); (case h1 => rfl); (case h3 => exact ofString_beq (by decide)))
  | (refine' TE_globS ?h1 (mg_str (by assumption) ?h2) ?_ ?h3; (case h2 => k_is); (case h1 => rfl); (case h3 => exact ofString_beq (by decide))))
local macro_rules | `(tactic| walk_at "m.step") => `(tactic| first
  | (with_reducible first
    | refine TSs_cons ?_
    | refine TSs_nil ?_
    | refine TS_if ?_
    | refine TS_ret ?_
    | refine TE_int ?_
    | refine TE_str ?_
    | refine TE_bool ?_
    | refine TE_none ?_
    | refine TE_bin ?_
    | refine TB_not ?_
    | refine TB_boolop ?_
    | refine TA_and ?_
    | refine TA_or ?_
    | refine TA_and_nil ?_
    | refine TA_or_nil ?_
    | refine TE_boolop ?_
    | refine TO_one ?_
    | refine TO_and ?_
    | refine TO_or ?_
    | refine TE_un ?_
    | refine T1_not ?_
    | refine T1_neg ?_
    | refine TL_nil ?_
    | refine T2_add ?_
    | refine T2_sub ?_
    | refine T2_lt ?_
    | refine T2_gt ?_
    | refine T2_le ?_
    | refine T2_ge ?_
    | refine T2_eq ?_
    | refine T2_ne ?_
    | refine T2_eqS ?_
    | refine T2_neS ?_
    | refine TT_bool ?_
    | refine ite_t ?_
    | refine ite_f ?_
    | refine ite_nt ?_
    | refine ite_nf ?_)
  | ((with_reducible show TE _ _ _ (Expr.Name _ _) _ _ _); walk_at "m.name")
  | ((with_reducible show TE _ _ _ (Expr.Call (Expr.Name _ _) _ [] _) _ _ _); walk_at "m.call")
  | ((with_reducible show TL _ _ _ (_ :: _) _ _ _); refine TL_cons ?_ rfl)
  | ((with_reducible show TS _ _ _ (Stmt.Assign [Expr.Name _ _] _ _) _ _ _); refine TS_assign ?_ (by walk_at "m.sto") (fun _ => rfl))
  | ((with_reducible show TS _ _ _ (Stmt.Expr _ _) _ _ _); refine TS_expr ?_ (fun _ => rfl))
  | ((with_reducible show TB _ _ _ (Expr.Compare _ [_] [_] _) _ _ _); refine TB_cmp ?_ rfl)
  | ((with_reducible show TE _ _ _ (Expr.Compare _ [_] [_] _) _ _ _); refine TE_cmp ?_ rfl)
  | ((with_reducible show TE _ _ _ (Expr.Subscript _ _ _) _ _ _); refine TE_sub' ?_ rfl)
  | ((with_reducible show TB _ _ _ (Expr.Call _ _ _ _) _ _ _); refine TB_val ?_ (fun _ _ => rfl))
  | ((with_reducible show TB _ _ _ (Expr.Name _ _) _ _ _); refine TB_val ?_ (fun _ _ => rfl)))
local macro_rules | `(tactic| walk_at "m.pow") => `(tactic| ((with_reducible show T2 _ _ (binaryOp Operator.Pow) _ _ _ _); first | (refine T2_powN 60 ?hk (by decide) ?_; (case hk => decide)) | (refine T2_powN 12 ?hk (by decide) ?_; (case hk => decide)) | (refine T2_powN 64 ?hk (by decide) ?_; (case hk => decide)) | (refine T2_powN 9 ?hk (by decide) ?_; (case hk => decide)) | (refine T2_powN 40 ?hk (by decide) ?_; (case hk => decide)) | (refine T2_powN 6 ?hk (by decide) ?_; (case hk => decide)) | (refine T2_powN 30 ?hk (by decide) ?_; (case hk => decide))))
local macro_rules | `(tactic| walk_at "m.defm") => `(tactic| (refine' mkDefM (by assumption) ?a1 ?a2 ?a3 ?a4 ?b ?c ?d ?e ?f ?g ?h ?i; (case a1 => k_is); (case a2 => k_is); (case a3 => k_is); (case a4 => k_is); (case b => k_is); (case c => k_is); (case d => walk_at "m.bind"); (case e => rfl); (case f => rfl); (case g => rfl); (case h => decide); (case i => walk_at "m.kinds")))
local macro_rules | `(tactic| walk_at "m.mt") => `(tactic| (refine' mkM (by assumption) ?a ?b ?c ?d; (case a => k_is); (case b => k_is); (case c => k_is); (case d => k_is)))
section
variable {C : Cx} (hK : C.K = Mine.K04 C.w.params) {n : Nat} {ν : Nu} {Q : D → Nu → Prop}
include hK
theorem need_base_ok {b : Int} (h1 : 2 ≤ b) (h2 : b ≤ 16) (h : Q .none ν) : TN C (n + 1) (Str.ofString "need_base") [.int b] ν Q := by
  refine' TN_def (names := [Str.ofString "base"]) ?D rfl ?_
  case D => walk_at "m.def"
  dsimp only [List.zip, List.zipWith]
  repeat' (walk_at "m.step")
  refine ite_dec (fun h => by omega) fun h' => ?_
  repeat' (walk_at "m.step")
  refine ite_dec (fun h => by omega) fun h' => ?_
  repeat' (walk_at "m.step")
  exact h
theorem cell_ok {a : Addr} {ns : List Int} {k : Nat} (e : ν a = some (.scr (ns.map .int))) (hz : ns.length ≤ 63) (hk : k < 1000) (h : Q (.int (cellD ns k)) ν) : TN C (n + 1) (Str.ofString "_law_cell_at") [.ref a, .int k] ν Q := by
  refine' TN_def (names := [Str.ofString "_law_script", Str.ofString "_law_k"]) ?D rfl ?_
  case D => walk_at "m.def"
  dsimp only [List.zip, List.zipWith]
  repeat' (walk_at "m.step")
  refine TC_lenL (ds := ns.map .int) (by rw [e]; rfl) (lenM (Nat.le_trans hz (by decide))) ?_
  repeat' (walk_at "m.step")
  refine ite_dec (fun hr => ?_) fun hr => ?_
  · repeat' (walk_at "m.step")
    simp only [List.length_map] at hr
    refine T2_itemL (ds := ns.map .int) (d := .int (cellD ns k)) (by rw [e]; rfl) (by omega) (by omega) ?_ h rfl
    have : k < ns.length := by omega
    simp [cellD, this]
  · repeat' (walk_at "m.step")
    simp only [List.length_map] at hr
    have : cellD ns k = 0 := by
      unfold cellD
      rw [List.getD_eq_getElem?_getD, List.getElem?_eq_none (by omega)]; rfl
    rw [this] at h
    exact h
theorem whole_ok {i : Int} (h : Q (.bool true) ν) : TN C (n + 1) (Str.ofString "_law_whole") [.int i] ν Q := by
  refine' TN_def (names := [Str.ofString "_law_found"]) ?D rfl ?_
  case D => walk_at "m.def"
  dsimp only [List.zip, List.zipWith]
  repeat' (walk_at "m.step")
  refine TC_isi_int ?_
  repeat' (walk_at "m.step")
  refine TC_isi_int_bool ?_
  repeat' (walk_at "m.step")
  exact h
theorem sign_ok {c : Int} (h : ∀ k < 128, Q (.str ⟨#[k]⟩) ν) : TN C (n + 1) (Str.ofString "_law_sign_by") [.int c] ν Q := by
  refine' TN_def (names := [Str.ofString "_law_cell"]) ?D rfl ?_
  case D => walk_at "m.def"
  dsimp only [List.zip, List.zipWith]
  repeat' (walk_at "m.step")
  refine T2_addS (by decide +kernel) ?_
  repeat' (walk_at "m.step")
  refine T2_mod (by decide) ?_
  have f1 := fmod_pos c (b := 96) (by decide)
  obtain ⟨k, hk⟩ := toN f1.1
  rw [hk] at f1 ⊢
  obtain ⟨z, hz, hz'⟩ := sign_at k (by omega)
  refine T2_itemS (k := k) hz (by omega) ?_ rfl
  repeat' (walk_at "m.step")
  exact h z hz'
theorem due_ok {cs : List Nat} {b : Nat} (hN : C.hd = none) (h1 : 2 ≤ b) (h2 : b ≤ 16) (ha : Asc cs) (hz : cs.length ≤ 900) (h : Q (.int (dueV b cs)) ν) : TN C (n + 1) (Str.ofString "_law_due_of") [.str (tx cs), .int b] ν Q := by
  refine' TN_def (names := [Str.ofString "_law_line", Str.ofString "_law_base"]) ?D rfl ?_
  case D => walk_at "m.def"
  dsimp only [List.zip, List.zipWith]
  refine TSs_cons ?_
  refine TS_if ?_
  refine TB_mono (P := fun c ν₁ => ν₁ = ν ∧ c = decide (cs = [] ∨ Head0 cs)) ?_ ?_
  · repeat' (walk_at "m.step")
    rw [tx_eqNil]
    refine ite_dec (fun hq => ?_) fun hq => ?_
    · repeat' (walk_at "m.step")
      exact ⟨rfl, by simp [hq]⟩
    · obtain ⟨c0, r0, ec⟩ := List.exists_cons_of_ne_nil hq
      repeat' (walk_at "m.step")
      refine T2_itemS (k := 0) (c := c0) (by rw [tx_get?, ec]; rfl) (by decide) ?_ rfl
      repeat' (walk_at "m.step")
      rw [tx_eqNought]
      refine ite_dec (fun hq2 => ?_) fun hq2 => ?_
      · repeat' (walk_at "m.step")
        refine TC_lenS (by rw [tx_length]; omega) ?_
        repeat' (walk_at "m.step")
        refine ite_dec (fun hq3 => ?_) fun hq3 => ?_
        · repeat' (walk_at "m.step")
          rw [tx_length] at hq3
          exact ⟨rfl, by rw [head_dec ec, decide_eq_true hq2, decide_eq_true (show 1 < cs.length by omega)]; rfl⟩
        · repeat' (walk_at "m.step")
          rw [tx_length] at hq3
          exact ⟨rfl, by rw [head_dec ec, decide_eq_true hq2, decide_eq_false (show ¬ 1 < cs.length by omega)]; rfl⟩
      · repeat' (walk_at "m.step")
        exact ⟨rfl, by rw [head_dec ec, decide_eq_false hq2]; rfl⟩
  rintro c0 ν0 ⟨rfl, e0⟩
  by_cases hb : cs = [] ∨ Head0 cs
  · rw [decide_eq_true hb] at e0; subst e0
    repeat' (walk_at "m.step")
    rw [due_bad hb] at h
    exact h
  rw [decide_eq_false hb] at e0; subst e0
  repeat' (walk_at "m.step")
  refine TS_for ?_ (fun _ _ => rfl)
  repeat' (walk_at "m.step")
  refine TF_sub (l₀ := [(Str.ofString "_law_base", .int b), (Str.ofString "_law_made", .int 0)]) (by walk_at "m.sub") ?_
  refine TF_str hN (tx_all ha) (fun i l ν' => ν' = ν0 ∧ ∃ m : Nat, acc b (cs.take i) = some m ∧ l = [(Str.ofString "_law_base", .int b), (Str.ofString "_law_made", .int m)]) ⟨rfl, 0, rfl, rfl⟩ ?_ ?_
  · rintro i l ν' hi ⟨rfl, m, hm, rfl⟩
    rw [tx_size] at hi
    obtain ⟨c, hc⟩ : ∃ c, cs[i]? = some c := ⟨cs[i], by simp [hi]⟩
    have hc8 : c < 128 := ha c (List.mem_of_getElem? hc)
    have hst := acc_take (b := b) hc
    rw [hm] at hst
    rw [tx_get hc]
    refine TG_name (by walk_at "m.sto") ?_
    repeat' (walk_at "m.step")
    refine TE_methS SM_find ?_ (fun _ _ => rfl) rfl (by decide) rfl
    repeat' (walk_at "m.step")
    refine ⟨_, rfl, ?_⟩
    repeat' (walk_at "m.step")
    refine TC_find ?_
    rw [sig_tx, show PySem.Txt.find (tx sgL) ⟨#[c]⟩ = fig c from rfl]
    have hr := fig_range c hc8
    refine TSs_cons ?_
    refine TS_if ?_
    refine TB_mono (P := fun z ν₁ => ν₁ = ν' ∧ z = decide (¬ (0 ≤ fig c ∧ fig c < (b : Int)))) ?_ ?_
    · repeat' (walk_at "m.step")
      refine ite_dec (fun hq => ?_) fun hq => ?_
      · repeat' (walk_at "m.step")
        exact ⟨rfl, (decide_eq_true (by omega)).symm⟩
      · repeat' (walk_at "m.step")
        refine ite_dec (fun hq2 => ?_) fun hq2 => ?_
        · repeat' (walk_at "m.step")
          exact ⟨rfl, (decide_eq_true (by omega)).symm⟩
        · repeat' (walk_at "m.step")
          exact ⟨rfl, (decide_eq_false (by omega)).symm⟩
    rintro z ν1 ⟨rfl, ez⟩
    by_cases hg : 0 ≤ fig c ∧ fig c < (b : Int)
    · rw [decide_eq_false (not_not_intro hg)] at ez; subst ez
      obtain ⟨d, hd⟩ := toN hg.1
      rw [show stepD b (some m) c = some (m * b + d) by unfold stepD; dsimp only; rw [if_pos hg, hd]; rfl] at hst
      rw [hd]
      repeat' (walk_at "m.step")
      refine T2_mul (mulOk (acc_small h1 h2 (by omega) hm) (by rw [Int.natAbs_natCast]; exact Nat.lt_of_le_of_lt h2 (by decide +kernel))) ?_
      repeat' (walk_at "m.step")
      exact ⟨[(Str.ofString "_law_base", .int b), (Str.ofString "_law_made", .int ((m : Int) * (b : Int) + (d : Int)))], by walk_at "m.sub", rfl, m * b + d, hst, by push_cast; rfl⟩
    · rw [decide_eq_true hg] at ez; subst ez
      rw [show stepD b (some m) c = none by unfold stepD; exact if_neg hg] at hst
      rw [due_none (acc_none hst)] at h
      repeat' (walk_at "m.step")
      exact h
  · rintro l ν' ⟨rfl, m, hm, rfl⟩
    rw [tx_size, List.take_length] at hm
    rw [due_some hb hm] at h
    repeat' (walk_at "m.step")
    exact h
abbrev vErr : List Value := [.type "ValueError", .type "Exception", .type "BaseException", .type "object"]
theorem no_facts : ∃ T TB TL TR TF, NoF C T TB TL TR TF := by
  obtain ⟨p, lo, TT⟩ := C.tr
  have X : (Mine.K04 C.w.params).In C.base := fun a o e => C.inK a o (by rw [hK]; exact e)
  have own := fun T e q => own_of_in (K := Mine.K04 C.w.params) (x := Str.ofString "NoNumber") (C := T) (bmB := [.type "ValueError", .type "Exception", .type "BaseException", .type "object"]) (newId := "ValueError.__new__") X TT e q
  have gl := fun x v e => mg_is (x := x) (v := v) (nsIn_of hK e)
  refine' ⟨?T, ?TB, ?TL, ?TR, ?TF, own ?T ?o1 ?o2, ?ie, gl _ (.ref ?TB) ?g1, gl _ (.ref ?TL) ?g2, gl _ (.ref ?TR) ?g3, gl _ (.ref ?TF) ?g4, ?k1, ?k2, ?k3, ?k4, ?k5, ?x1, ?x2⟩
  case o1 => k_is
  case o2 => k_exc
  case g1 => k_is
  case g2 => k_is
  case g3 => k_is
  case g4 => k_is
  case ie =>
    rw [hK]
    refine' ⟨?a0, ?a1, ?a7, ?a2, ?a3, ?a4, ?a5, ?a6⟩
    case a0 => k_is
    case a1 => k_is
    case a7 => first | k_is | rfl
    case a2 => rfl
    case a3 => k_is
    case a4 => k_is
    case a5 => k_is
    case a6 => k_is
  all_goals (rw [hK]; first | kit_is | kts_exm | rfl)
theorem read_ok {cs : List Nat} {b : Nat} {T : Addr} {X : Addr → Nu → Prop} (hN : C.hd = none) (O : OwnCls (Str.ofString "NoNumber") T vErr "ValueError.__new__" C.mg C.base) (h1 : 2 ≤ b) (h2 : b ≤ 16) (ha : Asc cs) (hz : cs.length ≤ 900) (hq : ∀ m : Nat, dueV b cs = m → Q (.int m) ν) (hx : dueV b cs = -1 → X T ν) :
    GN C (n + 2) (Str.ofString "read") [.str (tx cs), .int b] ν Q X := by
  refine' GN_def (names := [Str.ofString "line", Str.ofString "base"]) ?D rfl ?_
  case D => walk_at "m.def"
  dsimp only [List.zip, List.zipWith]
  refine GSs_cons (GS_low ?_)
  repeat' (walk_at "m.step")
  refine need_base_ok (b := (b : Int)) hK (Int.ofNat_le.mpr h1) (Int.ofNat_le.mpr h2) ?_
  change GSs _ _ _ _ _ _ _ _
  refine GSs_cons (GS_if (GB_low ?_))
  repeat' (walk_at "m.step")
  refine TC_lenS (by rw [tx_length]; omega) ?_
  rw [tx_length]
  repeat' (walk_at "m.step")
  refine ite_dec (fun hr => ?_) fun hr => ?_
  · refine GSs_cons (GS_raise hN O PySem.F.excBase_ValueError rfl (ofString_beq (by decide)) rfl ?_)
    refine TL_cons (TE_str (TL_nil ⟨by simp, ?_⟩)) rfl
    exact hx (due_bad (.inl (List.eq_nil_of_length_eq_zero (by omega))))
  have hne : cs ≠ [] := fun z => hr (by rw [z]; rfl)
  obtain ⟨c0, r0, ec⟩ := List.exists_cons_of_ne_nil hne
  refine GSs_low (TSs_nil ?_)
  change GSs _ _ _ _ _ _ _ _
  refine GSs_cons (GS_if (GB_low (TB_mono (P := fun z ν₁ => ν₁ = ν ∧ z = decide (cs = [] ∨ Head0 cs)) ?_ ?_)))
  · repeat' (walk_at "m.step")
    refine TC_lenS (by rw [tx_length]; omega) ?_
    rw [tx_length]
    repeat' (walk_at "m.step")
    refine ite_dec (fun hq3 => ?_) fun hq3 => ?_
    · repeat' (walk_at "m.step")
      refine T2_itemS (k := 0) (c := c0) (by rw [tx_get?, ec]; rfl) (by decide) ?_ rfl
      repeat' (walk_at "m.step")
      rw [tx_eqNought]
      refine ite_dec (fun hq2 => ?_) fun hq2 => ?_
      · repeat' (walk_at "m.step")
        exact ⟨rfl, by rw [head_dec ec, decide_eq_true hq2, decide_eq_true (show 1 < cs.length by omega)]; rfl⟩
      · repeat' (walk_at "m.step")
        exact ⟨rfl, by rw [head_dec ec, decide_eq_false hq2]; rfl⟩
    · repeat' (walk_at "m.step")
      exact ⟨rfl, by rw [head_dec ec, decide_eq_false (show ¬ 1 < cs.length by omega), Bool.and_false]⟩
  rintro z ν0 ⟨rfl, e0⟩
  by_cases hb : cs = [] ∨ Head0 cs
  · rw [decide_eq_true hb] at e0; subst e0
    refine ite_t ?_
    refine GSs_cons (GS_raise hN O PySem.F.excBase_ValueError rfl (ofString_beq (by decide)) rfl ?_)
    refine TL_cons (TE_str (TL_nil ⟨by simp, ?_⟩)) rfl
    exact hx (due_bad hb)
  rw [decide_eq_false hb] at e0; subst e0
  refine ite_f ?_
  refine GSs_low (TSs_nil ?_)
  change GSs _ _ _ _ _ _ _ _
  refine GSs_cons (GS_low ?_)
  refine TS_assign ?_ (by walk_at "m.sto") (fun _ => rfl)
  refine TE_slice "str" F.slot_str_getitem.lookup ?_ (fun _ _ => rfl)
  repeat' (walk_at "m.step")
  show TE _ _ _ _ _ _ _
  repeat' (walk_at "m.step")
  refine ⟨_, rfl, TSl_str (by decide) ?_⟩
  rw [sig_tx, sig_cut b (by omega)]
  change GSs _ _ _ _ _ _ _ _
  refine GSs_cons (GS_low ?_)
  repeat' (walk_at "m.step")
  change GSs _ _ _ _ _ _ _ _
  refine GSs_cons (GS_for ?_ (fun _ _ => rfl))
  repeat' (walk_at "m.step")
  refine GF_sub (l₀ := [(Str.ofString "base", .int b), (Str.ofString "good", .str (tx (sgL.take b))), (Str.ofString "number", .int 0)]) (by walk_at "m.sub") ?_
  refine GF_str hN (tx_all ha) (fun i l ν' => ν' = ν0 ∧ ∃ m : Nat, acc b (cs.take i) = some m ∧ l = [(Str.ofString "base", .int b), (Str.ofString "good", .str (tx (sgL.take b))), (Str.ofString "number", .int m)]) ⟨rfl, 0, rfl, rfl⟩ ?_ ?_
  · rintro i l ν' hi ⟨rfl, m, hm, rfl⟩
    rw [tx_size] at hi
    obtain ⟨c, hc⟩ : ∃ c, cs[i]? = some c := ⟨cs[i], by simp [hi]⟩
    have hc8 : c < 128 := ha c (List.mem_of_getElem? hc)
    have hst := acc_take (b := b) hc
    rw [hm] at hst
    rw [tx_get hc]
    refine TG_name (by walk_at "m.sto") ?_
    refine GSs_cons (GS_low ?_)
    refine TS_assign ?_ (by walk_at "m.sto") (fun _ => rfl)
    refine TE_methS SM_find ?_ (fun _ _ => rfl) rfl (by decide) rfl
    repeat' (walk_at "m.step")
    refine ⟨_, rfl, ?_⟩
    repeat' (walk_at "m.step")
    refine TC_find ?_
    rw [fig_good b (by omega) c hc8]
    have hr := fig_range c hc8
    change GSs _ _ _ _ _ _ _ _
    by_cases hg : 0 ≤ fig c ∧ fig c < (b : Int)
    · rw [if_pos hg.2]
      obtain ⟨d, hd⟩ := toN hg.1
      rw [show stepD b (some m) c = some (m * b + d) by unfold stepD; dsimp only; rw [if_pos hg, hd]; rfl] at hst
      rw [hd]
      refine GSs_cons (GS_low ?_)
      repeat' (walk_at "m.step")
      rw [decide_eq_false (show ¬ (d : Int) < 0 by omega)]
      repeat' (walk_at "m.step")
      change GSs _ _ _ _ _ _ _ _
      refine GSs_low ?_
      repeat' (walk_at "m.step")
      refine T2_mul (mulOk (acc_small h1 h2 (by omega) hm) (by rw [Int.natAbs_natCast]; exact Nat.lt_of_le_of_lt h2 (by decide +kernel))) ?_
      repeat' (walk_at "m.step")
      exact ⟨[(Str.ofString "base", .int b), (Str.ofString "good", .str (tx (sgL.take b))), (Str.ofString "number", .int ((m : Int) * (b : Int) + (d : Int)))], by walk_at "m.sub", rfl, m * b + d, hst, by push_cast; rfl⟩
    · rw [show stepD b (some m) c = none by unfold stepD; exact if_neg hg] at hst
      rw [show (if fig c < (b : Int) then fig c else -1) = -1 by split <;> omega]
      refine GSs_cons (GS_if (GB_low ?_))
      repeat' (walk_at "m.step")
      rw [decide_eq_true (show (-1 : Int) < 0 by decide)]
      repeat' (walk_at "m.step")
      refine GSs_cons (GS_raise hN O PySem.F.excBase_ValueError rfl (ofString_beq (by decide)) rfl ?_)
      refine TL_cons (TE_str (TL_nil ⟨by simp, ?_⟩)) rfl
      exact hx (due_none (acc_none hst))
  · rintro l ν' ⟨rfl, m, hm, rfl⟩
    rw [tx_size, List.take_length] at hm
    change GSs _ _ _ _ _ _ _ _
    refine GSs_low ?_
    repeat' (walk_at "m.step")
    exact hq m (due_some hb hm)
theorem words_ok {e T TB TL TR TF t tb : Addr} (hH : C.hd = some (.ref e)) (I : NoF C T TB TL TR TF) (hr : ν e = some (.raw (excO T t (.ref tb)))) (h : ∀ r ν', Ext ν ν' → ν' r = some (.lst [.str (Str.ofString "number")]) → Q (.ref r) ν') : TN C (n + 3) (Str.ofString "_law_words") [.ref e] ν Q := by
  refine' TN_def (names := [Str.ofString "_law_e"]) ?D rfl ?_
  case D => walk_at "m.def"
  dsimp only [List.zip, List.zipWith]
  refine TSs_cons ?_
  refine TS_assign ?_ (by walk_at "m.sto") (fun _ => rfl)
  refine TE_list ?_
  refine TL_cons (TE_tuple ?_) rfl
  repeat' (walk_at "m.step")
  refine TE_glob rfl (.inl I.gB) ?_ (ofString_beq (by decide))
  repeat' (walk_at "m.step")
  refine TC_isiE I.isE hr I.kB ?_
  repeat' (walk_at "m.step")
  refine ⟨by simp, ?_⟩
  refine TL_cons (TE_tuple ?_) rfl
  repeat' (walk_at "m.step")
  refine TE_glob rfl (.inl I.own.bound) ?_ (ofString_beq (by decide))
  repeat' (walk_at "m.step")
  refine TC_isiE I.isE hr I.kN ?_
  repeat' (walk_at "m.step")
  refine ⟨by simp, ?_⟩
  refine TL_cons (TE_tuple ?_) rfl
  repeat' (walk_at "m.step")
  refine TE_glob rfl (.inl I.gL) ?_ (ofString_beq (by decide))
  repeat' (walk_at "m.step")
  refine TC_isiE I.isE hr I.kL ?_
  repeat' (walk_at "m.step")
  refine ⟨by simp, ?_⟩
  repeat' (walk_at "m.step")
  refine ⟨by simp, fun sm hsm => ?_⟩
  have X₁ : Ext ν (upd ν sm (.lst [.tup [.str (Str.ofString "base"), .bool false], .tup [.str (Str.ofString "number"), .bool true], .tup [.str (Str.ofString "late"), .bool false]])) := Ext.refl.upd hsm
  have w₁ : upd ν sm (.lst [.tup [.str (Str.ofString "base"), .bool false], .tup [.str (Str.ofString "number"), .bool true], .tup [.str (Str.ofString "late"), .bool false]]) sm = _ := upd_same
  generalize upd ν sm (.lst [.tup [.str (Str.ofString "base"), .bool false], .tup [.str (Str.ofString "number"), .bool true], .tup [.str (Str.ofString "late"), .bool false]]) = ν₁ at X₁ w₁
  have r₁ := X₁ _ _ hr
  repeat' (walk_at "m.step")
  refine TE_methL LM_append ?_ (fun _ _ => rfl) rfl (by decide) rfl
  repeat' (walk_at "m.step")
  refine ⟨sm, by simp only [isL, w₁], ?_⟩
  repeat' (walk_at "m.step")
  refine TE_tuple ?_
  repeat' (walk_at "m.step")
  refine TE_glob rfl (.inl I.gR) ?_ (ofString_beq (by decide))
  repeat' (walk_at "m.step")
  refine TC_isiE I.isE r₁ I.kR ?_
  repeat' (walk_at "m.step")
  refine ⟨by simp, ?_⟩
  repeat' (walk_at "m.step")
  refine TC_append w₁ (by decide) ?_
  simp only [List.cons_append, List.nil_append]
  have X₂ : ∀ x, x ≠ sm → upd ν₁ sm (.lst [.tup [.str (Str.ofString "base"), .bool false], .tup [.str (Str.ofString "number"), .bool true], .tup [.str (Str.ofString "late"), .bool false], .tup [.str (Str.ofString "bare"), .bool false]]) x = ν₁ x := fun x hx => upd_other hx
  have w₂ : upd ν₁ sm (.lst [.tup [.str (Str.ofString "base"), .bool false], .tup [.str (Str.ofString "number"), .bool true], .tup [.str (Str.ofString "late"), .bool false], .tup [.str (Str.ofString "bare"), .bool false]]) sm = some (.lst [.tup [.str (Str.ofString "base"), .bool false], .tup [.str (Str.ofString "number"), .bool true], .tup [.str (Str.ofString "late"), .bool false], .tup [.str (Str.ofString "bare"), .bool false]]) := upd_same
  have nes : e ≠ sm := fun q => by rw [q, hsm] at hr; cases hr
  have r₂ := (X₂ e nes).trans r₁
  have XX : Ext ν (upd ν₁ sm (.lst [.tup [.str (Str.ofString "base"), .bool false], .tup [.str (Str.ofString "number"), .bool true], .tup [.str (Str.ofString "late"), .bool false], .tup [.str (Str.ofString "bare"), .bool false]])) := fun x o ex => (X₂ x fun q => by rw [q, hsm] at ex; cases ex).trans (X₁ x o ex)
  generalize upd ν₁ sm (.lst [.tup [.str (Str.ofString "base"), .bool false], .tup [.str (Str.ofString "number"), .bool true], .tup [.str (Str.ofString "late"), .bool false], .tup [.str (Str.ofString "bare"), .bool false]]) = ν₂ at w₂ r₂ XX
  clear X₂
  repeat' (walk_at "m.step")
  refine TS_assignComp rfl rfl (by decide +kernel) [(Str.ofString "_law_e", .ref e)] (hlc_of ?_) (by decide +kernel) (by decide +kernel) rfl (by decide +kernel) ?_ (fun _ _ => rfl)
  · simp only [List.forall_mem_cons, List.not_mem_nil, false_implies, implies_true, and_true]
    exact ⟨by walk_at "m.lk", rfl⟩
  repeat' (walk_at "m.step")
  refine ⟨_, _, Itb_listH hH r₂ (ds := [.tup [.str (Str.ofString "base"), .bool false], .tup [.str (Str.ofString "number"), .bool true], .tup [.str (Str.ofString "late"), .bool false], .tup [.str (Str.ofString "bare"), .bool false]]) (by rw [w₂]; rfl), by decide, fun i => if i = 1 then some (.str (Str.ofString "number")) else none, fun i hi rc xs hrc => ?_, fun rc hrc => ?_⟩
  · have nrc : e ≠ rc := fun q => by rw [q, hrc] at r₂; cases r₂
    have r₃ : upd ν₂ rc (.lst xs) e = some (.raw (excO T t (.ref tb))) := (upd_other nrc).trans r₂
    obtain ⟨wd, ft, ed, eg⟩ : ∃ (wd : Str) (ft : Bool), ([D.tup [.str (Str.ofString "base"), .bool false], .tup [.str (Str.ofString "number"), .bool true], .tup [.str (Str.ofString "late"), .bool false], .tup [.str (Str.ofString "bare"), .bool false]].getD i .none) = .tup [.str wd, .bool ft] ∧ (if i = 1 then some (D.str (Str.ofString "number")) else none) = (if ft then some (.str wd) else none) := by
      match i, hi with
      | 0, _ => exact ⟨_, _, rfl, rfl⟩
      | 1, _ => exact ⟨_, _, rfl, rfl⟩
      | 2, _ => exact ⟨_, _, rfl, rfl⟩
      | 3, _ => exact ⟨_, _, rfl, rfl⟩
    rw [ed]
    refine TGl_pairH hH r₃ rfl rfl ⟨by walk_at "m.sub", ?_⟩
    show Mine.TB _ _ _ _ _ _ _
    cases ft with
    | false =>
      repeat' (walk_at "m.step")
      exact ⟨rfl, eg⟩
    | true =>
      repeat' (walk_at "m.step")
      refine' TE_glob rfl (G_blt hK ?ga bb_ValueError (ofString_ne (by decide))) ?_ (ofString_beq (by decide))
      case ga => k_is
      repeat' (walk_at "m.step")
      refine TC_isiE I.isE r₃ I.kV ?_
      repeat' (walk_at "m.step")
      refine ⟨rfl, ?_⟩
      repeat' (walk_at "m.step")
      exact ⟨rfl, eg⟩
  change TSs _ _ _ _ _ (upd ν₂ rc (.lst [.str (Str.ofString "number")])) _
  have XR : Ext ν (upd ν₂ rc (.lst [.str (Str.ofString "number")])) := XX.trans (Ext.refl.upd hrc)
  have wr : upd ν₂ rc (.lst [.str (Str.ofString "number")]) rc = some (.lst [.str (Str.ofString "number")]) := upd_same
  generalize upd ν₂ rc (.lst [.str (Str.ofString "number")]) = ν₃ at XR wr
  repeat' (walk_at "m.step")
  refine TE_list ?_
  repeat' (walk_at "m.step")
  refine ⟨by simp, fun r0 hr0 => ?_⟩
  refine T2_eqP (p := .list [.str (Str.ofString "number")]) (q := .list []) (.lst (by rw [(Ext.refl.upd hr0) _ _ wr]; rfl) (.cons (.str _) .nil)) (.lst (by rw [upd_same]; rfl) .nil) (by decide +kernel) rfl (by decide +kernel) ?_
  rw [show PyData.eqv (.list [.str (Str.ofString "number")]) (.list []) = false from rfl]
  repeat' (walk_at "m.step")
  exact h rc _ (XR.trans (Ext.refl.upd hr0)) ((Ext.refl.upd hr0) _ _ wr)
theorem refused_ok {cs : List Nat} {b : Nat} {T TB TL TR TF : Addr} {X : Addr → Nu → Prop} (hN : C.hd = none) (I : NoF C T TB TL TR TF) (h1 : 2 ≤ b) (h2 : b ≤ 16) (ha : Asc cs) (hz : cs.length ≤ 900) (hd : dueV b cs = -1) (h : ∀ ν', Q (.bool true) ν') :
    GN C (n + 4) (Str.ofString "_law_refused_by_any") [.str (tx cs), .int b] ν Q X := by
  refine' GN_def (names := [Str.ofString "_law_line", Str.ofString "_law_base"]) ?D rfl ?_
  case D => walk_at "m.def"
  dsimp only [List.zip, List.zipWith]
  refine GSs_cons ?_
  refine GS_tryAs rfl I.gF (ofString_beq (by decide)) rfl ?_
  refine GSs_cons ?_
  refine GS_expr (GE_callN rfl (by walk_at "m.fn") ?_ (ofString_beq (by decide)) rfl) (fun _ => rfl)
  repeat' (walk_at "m.step")
  refine read_ok hK hN I.own h1 h2 ha hz (fun m hm => by omega) fun _ => ?_
  refine ⟨I.xF, fun e t tb he => ?_⟩
  have hK' : (Ch C (.ref e)).K = _ := hK
  have I' : NoF (Ch C (.ref e)) T TB TL TR TF := ⟨I.own, I.isE, I.gB, I.gL, I.gR, I.gF, I.kB, I.kN, I.kL, I.kR, I.kV, I.xN, I.xF⟩
  repeat' (walk_at "m.step")
  refine words_ok hK' rfl I' upd_same fun r ν2 X2 w2 => ?_
  repeat' (walk_at "m.step")
  refine TE_list ?_
  repeat' (walk_at "m.step")
  refine ⟨by simp, fun r0 hr0 => ?_⟩
  refine T2_eqP (p := .list [.str (Str.ofString "number")]) (q := .list [.str (Str.ofString "number")]) (.lst (by rw [(Ext.refl.upd hr0) _ _ w2]; rfl) (.cons (.str _) .nil)) (.lst (by rw [upd_same]; rfl) (.cons (.str _) .nil)) (by decide +kernel) (by decide +kernel) (by decide +kernel) ?_
  rw [show PyData.eqv (.list [.str (Str.ofString "number")]) (.list [.str (Str.ofString "number")]) = true by decide +kernel]
  repeat' (walk_at "m.step")
  exact ⟨_, rfl, h _⟩
theorem line_ok {a : Addr} {ns : List Int} {b : Nat} (hN : C.hd = none) (e : ν a = some (.scr (ns.map .int))) (hz : ns.length ≤ 63) (h1 : 2 ≤ b) (h2 : b ≤ 16) (h : ∀ cs ν', Ext ν ν' → Asc cs → cs.length ≤ 900 → Q (.str (tx cs)) ν') : TN C (n + 2) (Str.ofString "_law_line_by") [.ref a, .int b] ν Q := by
  refine' TN_def (names := [Str.ofString "_law_script", Str.ofString "_law_base"]) ?D rfl ?_
  case D => walk_at "m.def"
  dsimp only [List.zip, List.zipWith]
  repeat' (walk_at "m.step")
  refine cell_ok (k := 1) hK e hz (by decide) ?_
  repeat' (walk_at "m.step")
  refine T2_mod (by decide) ?_
  have f1 := fmod_pos (cellD ns 1) (b := 3) (by decide)
  obtain ⟨w, hw⟩ := toN f1.1
  rw [hw] at f1 ⊢
  repeat' (walk_at "m.step")
  refine ite_dec (fun hr => ?_) fun hr => ?_
  · have hw2 : w = 0 ∨ w = 1 := by omega
    refine TSs_mid (fun l' ν' => Ext ν ν' ∧ ∃ cs, Asc cs ∧ cs.length ≤ 10 ∧ l' = [(Str.ofString "_law_script", .ref a), (Str.ofString "_law_base", .int b), (Str.ofString "_law_way", .int w), (Str.ofString "_law_line", .str (tx cs))]) ?_ ?_
    · refine TS_for ?_ (fun _ _ => rfl)
      repeat' (walk_at "m.step")
      refine cell_ok (k := 2) hK e hz (by decide) ?_
      repeat' (walk_at "m.step")
      refine T2_mod (by decide) ?_
      have f2 := fmod_pos (cellD ns 2) (b := 10) (by decide)
      obtain ⟨m, hm⟩ := toN f2.1
      rw [hm] at f2 ⊢
      repeat' (walk_at "m.step")
      refine TC_range ?_
      refine TF_sub (l₀ := [(Str.ofString "_law_script", .ref a), (Str.ofString "_law_base", .int b), (Str.ofString "_law_way", .int w), (Str.ofString "_law_line", .str (tx []))]) (by rw [← tx_nil]; walk_at "m.sub") ?_
      refine TF_rng hN (by omega) (by omega) (fun i l' ν' => Ext ν ν' ∧ ∃ cs, Asc cs ∧ cs.length ≤ i ∧ l' = [(Str.ofString "_law_script", .ref a), (Str.ofString "_law_base", .int b), (Str.ofString "_law_way", .int w), (Str.ofString "_law_line", .str (tx cs))]) ⟨Ext.refl, [], nofun, Nat.le_refl _, rfl⟩ ?_ ?_
      · rintro i l' ν' hi ⟨X, cs, ha, hl, rfl⟩
        rw [Int.toNat_natCast] at hi
        refine TG_name (by walk_at "m.sto") ?_
        repeat' (walk_at "m.step")
        rw [show (3 : Int) + (i : Int) = ((3 + i : Nat) : Int) from rfl]
        refine cell_ok (k := 3 + i) hK (X _ _ e) hz (by omega) ?_
        repeat' (walk_at "m.step")
        refine TE_list ?_
        repeat' (walk_at "m.step")
        refine ⟨by simp, fun r hr => ?_⟩
        repeat' (walk_at "m.step")
        obtain ⟨d, hd, d1, d2⟩ : ∃ d : Nat, [D.int 16, D.int b][((w : Nat) : Int).toNat]? = some (.int d) ∧ 2 ≤ d ∧ d ≤ 16 := by
          rw [Int.toNat_natCast]
          rcases hw2 with q | q
          · rw [q]; exact ⟨16, rfl, by decide, by decide⟩
          · rw [q]; exact ⟨b, rfl, h1, h2⟩
        refine T2_itemL (by rw [upd_same]; rfl) (by omega) (by omega) hd ?_ rfl
        refine T2_mod (by omega) ?_
        have f3 := fmod_pos (cellD ns (3 + i)) (b := (d : Int)) (by omega)
        obtain ⟨k, hk⟩ := toN f3.1
        rw [hk] at f3 ⊢
        obtain ⟨c, hc, hc8⟩ := sg_at k (by omega)
        refine T2_itemS (k := k) hc (by omega) ?_ rfl
        refine T2_addS (by rw [tx_length, sizeLine_eq]; show cs.length + 1 ≤ _; omega) ?_
        rw [tx_one, tx_append]
        repeat' (walk_at "m.step")
        exact ⟨_, by walk_at "m.sub", X.trans (Ext.refl.upd hr), cs ++ [c], asc_snoc ha hc8, by rw [List.length_append]; exact Nat.succ_le_succ hl, rfl⟩
      · rintro l' ν' ⟨X, cs, ha, hl, rfl⟩
        rw [Int.toNat_natCast] at hl
        exact ⟨_, Sub_refl, X, cs, ha, by omega, rfl⟩
    · rintro l' ν' ⟨X, cs, ha, hl, rfl⟩
      repeat' (walk_at "m.step")
      refine ite_dec (fun hr => ?_) fun hr => ?_
      · repeat' (walk_at "m.step")
        refine cell_ok (k := 13) hK (X _ _ e) hz (by decide) ?_
        repeat' (walk_at "m.step")
        refine TC_lenS (by rw [tx_length]; omega) ?_
        rw [tx_length]
        repeat' (walk_at "m.step")
        refine T2_mod (by omega) ?_
        repeat' (walk_at "m.step")
        refine TE_slice "str" F.slot_str_getitem.lookup ?_ (fun _ _ => rfl)
        repeat' (walk_at "m.step")
        show TE _ _ _ _ _ _ _
        repeat' (walk_at "m.step")
        refine ⟨_, rfl, TSl_str (by rw [tx_length]; omega) ?_⟩
        obtain ⟨c1, e1, a1, l1⟩ := slice_asc ha none (some ((cellD ns 13).fmod ((cs.length : Int) + 1)))
        rw [e1]
        repeat' (walk_at "m.step")
        refine cell_ok (k := 14) hK (X _ _ e) hz (by decide) ?_
        repeat' (walk_at "m.step")
        refine sign_ok hK fun c hc8 => ?_
        repeat' (walk_at "m.step")
        refine T2_addS (by rw [tx_length, sizeLine_eq]; show c1.length + 1 ≤ _; omega) ?_
        rw [tx_one, tx_append]
        repeat' (walk_at "m.step")
        refine TE_slice "str" F.slot_str_getitem.lookup ?_ (fun _ _ => rfl)
        repeat' (walk_at "m.step")
        show TE _ _ _ _ _ _ _
        repeat' (walk_at "m.step")
        refine ⟨_, rfl, ?_⟩
        refine TSl_str (by rw [tx_length]; omega) ?_
        obtain ⟨c2, e2, a2, l2⟩ := slice_asc ha (some ((cellD ns 13).fmod ((cs.length : Int) + 1))) none
        rw [e2]
        repeat' (walk_at "m.step")
        refine T2_addS (by rw [tx_length, tx_length, sizeLine_eq, List.length_append]; show c1.length + 1 + c2.length ≤ _; omega) ?_
        rw [tx_append]
        repeat' (walk_at "m.step")
        exact h _ _ X (asc_app (asc_snoc a1 hc8) a2) (by rw [List.length_append, List.length_append]; show c1.length + 1 + c2.length ≤ _; omega)
      · repeat' (walk_at "m.step")
        exact h _ _ X ha (by omega)
  · refine TSs_nil ?_
    refine TSs_cons ?_
    with_reducible refine TS_assign ?_ ?so ?sw
    case so => exact Or.inl rfl
    case sw => exact fun _ => rfl
    with_reducible refine TE_sub' ?_ ?sl
    case sl => rfl
    with_reducible refine TE_list ?_
    with_reducible refine TL_cons ?_ ?c
    case c => rfl
    with_reducible refine TE_int ?_
    with_reducible refine TL_cons ?_ ?c
    case c => rfl
    with_reducible refine TE_int ?_
    with_reducible refine TL_cons ?_ ?c
    case c => rfl
    with_reducible refine TE_int ?_
    with_reducible refine TL_cons ?_ ?c
    case c => rfl
    with_reducible refine TE_int ?_
    with_reducible refine TL_cons ?_ ?c
    case c => rfl
    with_reducible refine TE_int ?_
    with_reducible refine TL_cons ?_ ?c
    case c => rfl
    with_reducible refine TE_int ?_
    with_reducible refine TL_cons ?_ ?c
    case c => rfl
    with_reducible refine TE_int ?_
    with_reducible refine TL_cons ?_ ?c
    case c => rfl
    with_reducible refine TE_int ?_
    with_reducible refine TL_cons ?_ ?c
    case c => rfl
    with_reducible refine TE_int ?_
    with_reducible refine TL_cons ?_ ?c
    case c => rfl
    with_reducible refine TE_int ?_
    with_reducible refine TL_cons ?_ ?c
    case c => rfl
    with_reducible refine TE_int ?_
    with_reducible refine TL_cons ?_ ?c
    case c => rfl
    with_reducible refine TE_int ?_
    with_reducible refine TL_cons ?_ ?c
    case c => rfl
    with_reducible refine TE_int ?_
    with_reducible refine TL_cons ?_ ?c
    case c => rfl
    with_reducible refine TE_int ?_
    with_reducible refine TL_cons ?_ ?c
    case c => rfl
    with_reducible refine TE_int ?_
    with_reducible refine TL_nil ?_
    refine ⟨by simp, fun rm hrm => ?_⟩
    have X₁ : Ext ν (upd ν rm (.lst [.int 830, .int 523, .int 415, .int 357, .int 321, .int 295, .int 276, .int 261, .int 250, .int 240, .int 231, .int 224, .int 218, .int 212, .int 207])) := Ext.refl.upd hrm
    have w₁ : seqOf (upd ν rm (.lst [.int 830, .int 523, .int 415, .int 357, .int 321, .int 295, .int 276, .int 261, .int 250, .int 240, .int 231, .int 224, .int 218, .int 212, .int 207]) rm) = some (mostL.map .int) := by rw [upd_same]; rfl
    obtain ⟨ν₁, e₁⟩ : ∃ ν₁, ν₁ = upd ν rm (.lst [.int 830, .int 523, .int 415, .int 357, .int 321, .int 295, .int 276, .int 261, .int 250, .int 240, .int 231, .int 224, .int 218, .int 212, .int 207]) := ⟨_, rfl⟩
    rw [← e₁] at X₁ w₁ ⊢
    repeat' (walk_at "m.step")
    obtain ⟨mo, hmo, m1, m2⟩ := most_at h1 h2
    refine T2_itemL w₁ (by omega) (by omega) hmo ?_ rfl
    have e' := X₁ _ _ e
    refine TSs_cons ?_
    with_reducible refine TS_assign ?_ ?so ?sw
    case so => exact Or.inl rfl
    case sw => exact fun _ => rfl
    refine TE_un ?_
    refine TE_int ?_
    refine T1_neg ?_
    refine TSs_mid (fun l' ν' => Ext ν ν' ∧ ∃ bad : Int, l' = [(Str.ofString "_law_script", .ref a), (Str.ofString "_law_base", .int b), (Str.ofString "_law_line", .str (tx [])), (Str.ofString "_law_most", .int mo), (Str.ofString "_law_bad", .int bad)]) ?_ ?_
    · refine TS_if ?_
      repeat' (walk_at "m.step")
      refine cell_ok (k := 3) hK e' hz (by decide) ?_
      repeat' (walk_at "m.step")
      refine T2_mod (by decide) ?_
      repeat' (walk_at "m.step")
      refine ite_dec (fun hr => ?_) fun hr => ?_
      · repeat' (walk_at "m.step")
        refine cell_ok (k := 3) hK e' hz (by decide) ?_
        repeat' (walk_at "m.step")
        refine T2_div (by decide) (by decide) ?_
        repeat' (walk_at "m.step")
        refine T2_mod (by omega) ?_
        repeat' (walk_at "m.step")
        refine ⟨_, ?_, X₁, ((cellD ns 3).fdiv 3).fmod (mo : Int), rfl⟩
        rw [← tx_nil]; walk_at "m.sub"
      · repeat' (walk_at "m.step")
        refine ⟨_, ?_, X₁, -1, rfl⟩
        rw [← tx_nil]; walk_at "m.sub"
    · rintro l' ν' ⟨X, bad, rfl⟩
      have s₂ := X _ _ e
      repeat' (walk_at "m.step")
      refine cell_ok (k := 4) hK s₂ hz (by decide) ?_
      repeat' (walk_at "m.step")
      refine TS_for ?_ (fun _ _ => rfl)
      repeat' (walk_at "m.step")
      refine cell_ok (k := 2) hK s₂ hz (by decide) ?_
      repeat' (walk_at "m.step")
      refine T2_mod (by omega) ?_
      have f2 := fmod_pos (cellD ns 2) (b := (mo : Int)) (by omega)
      obtain ⟨m, hm⟩ := toN f2.1
      rw [hm] at f2 ⊢
      repeat' (walk_at "m.step")
      refine TC_range ?_
      refine TF_sub (l₀ := [(Str.ofString "_law_base", .int b), (Str.ofString "_law_line", .str (tx [])), (Str.ofString "_law_bad", .int bad), (Str.ofString "_law_cell", .int (cellD ns 4))]) (by walk_at "m.sub") ?_
      refine TF_rng hN (by omega) (by omega) (fun i l ν₂ => ν₂ = ν' ∧ ∃ cs, Asc cs ∧ cs.length ≤ i ∧ l = [(Str.ofString "_law_base", .int b), (Str.ofString "_law_line", .str (tx cs)), (Str.ofString "_law_bad", .int bad), (Str.ofString "_law_cell", .int (cellD ns 4))]) ⟨rfl, [], nofun, Nat.le_refl _, rfl⟩ ?_ ?_
      · rintro i l ν₂ hi ⟨rfl, cs, ha, hl, rfl⟩
        rw [show (1 : Int) + (m : Int) = ((1 + m : Nat) : Int) from rfl, Int.toNat_natCast] at hi
        refine TG_name (by walk_at "m.sto") ?_
        repeat' (walk_at "m.step")
        refine ite_dec (fun hr => ?_) fun hr => ?_
        · repeat' (walk_at "m.step")
          obtain ⟨c, hc, hc8⟩ := sg17_at b (by omega)
          refine T2_itemS (k := b) hc (by omega) ?_ rfl
          refine T2_addS (by rw [tx_length, sizeLine_eq]; show cs.length + 1 ≤ _; omega) ?_
          rw [tx_one, tx_append]
          repeat' (walk_at "m.step")
          exact ⟨_, by walk_at "m.sub", rfl, cs ++ [c], asc_snoc ha hc8, by rw [List.length_append]; exact Nat.succ_le_succ hl, rfl⟩
        · repeat' (walk_at "m.step")
          refine T2_mod (by decide) ?_
          repeat' (walk_at "m.step")
          have f7 := fmod_pos (cellD ns 4) (b := 7) (by decide)
          refine T2_mul (mulOk10 3 3 (by omega) (by omega) (by omega) (by omega) (by decide) (by decide)) ?_
          repeat' (walk_at "m.step")
          refine ite_dec (fun hk0 => ?c1) fun hk0 => ?c2
          case' c1 =>
            repeat' (walk_at "m.step")
            refine T2_mod (nz h1) ?_
            repeat' (walk_at "m.step")
          case' c2 => repeat' (walk_at "m.step")
          all_goals
            refine TC_intB ?_
            repeat' (walk_at "m.step")
            refine T2_modN h1 fun k hk => ?_
            obtain ⟨c, hc, hc8⟩ := sg_at k (Nat.lt_of_lt_of_le hk h2)
            refine T2_itemS (k := k) hc (Nat.lt_of_lt_of_le hk (Nat.le_trans h2 (by decide))) ?_ rfl
            refine T2_addS (by rw [tx_length, sizeLine_eq]; show cs.length + 1 ≤ _; omega) ?_
            rw [tx_one, tx_append]
            repeat' (walk_at "m.step")
            exact ⟨_, by walk_at "m.sub", rfl, cs ++ [c], asc_snoc ha hc8, by rw [List.length_append]; exact Nat.succ_le_succ hl, rfl⟩
      · rintro l ν₂ ⟨rfl, cs, ha, hl, rfl⟩
        rw [show (1 : Int) + (m : Int) = ((1 + m : Nat) : Int) from rfl, Int.toNat_natCast] at hl
        repeat' (walk_at "m.step")
        exact h _ _ X ha (by omega)
theorem law_ok {a : Addr} {ns : List Int} (hN : C.hd = none) (e : ν a = some (.scr (ns.map .int))) (hz : ns.length ≤ 63) : GN C (n + 6) (Str.ofString "law") [.ref a] ν (fun d _ => d = .bool true) (fun _ _ => False) := by
  obtain ⟨T, TB, TL, TR, TF, I⟩ := no_facts hK
  refine' GN_def (names := [Str.ofString "_law_script"]) ?D rfl ?_
  case D => walk_at "m.def"
  dsimp only [List.zip, List.zipWith]
  refine GSs_cons (GS_low ?_)
  repeat' (walk_at "m.step")
  refine cell_ok (k := 0) hK e hz (by decide) ?_
  repeat' (walk_at "m.step")
  refine T2_mod (by decide) ?_
  obtain ⟨b, hb, h1, h2⟩ := baseN (cellD ns 0)
  repeat' (walk_at "m.step")
  rw [hb]
  change GSs _ _ _ _ _ _ _ _
  refine GSs_cons (GS_low ?_)
  repeat' (walk_at "m.step")
  refine line_ok hK hN e hz h1 h2 fun cs ν₁ X₁ ha hl => ?_
  change GSs _ _ _ _ _ _ _ _
  refine GSs_cons (GS_low ?_)
  repeat' (walk_at "m.step")
  refine due_ok hK hN h1 h2 ha hl ?_
  change GSs _ _ _ _ _ _ _ _
  refine GSs_cons (GS_low ?_)
  repeat' (walk_at "m.step")
  change GSs _ _ _ _ _ _ _ _
  refine GSs_cons (GS_low ?_)
  repeat' (walk_at "m.step")
  change GSs _ _ _ _ _ _ _ _
  refine GSs_cons ?_
  refine GS_try rfl I.own.bound (ofString_beq (by decide)) ?_
  refine GSs_cons ?_
  refine GS_assign (GE_callN rfl (by walk_at "m.fn") ?_ (ofString_beq (by decide)) rfl) (by walk_at "m.sto") (fun _ => rfl)
  repeat' (walk_at "m.step")
  refine read_ok hK hN I.own h1 h2 ha hl (fun m hm => ?_) fun hd => ?_
  · change GSs _ _ _ _ _ _ _ _
    refine GSs_low ?_
    repeat' (walk_at "m.step")
    change GSs _ _ _ _ _ _ _ _
    rw [hm]
    refine GSs_low ?_
    repeat' (walk_at "m.step")
    rw [decide_eq_false (by omega : ¬ (m : Int) < 0)]
    repeat' (walk_at "m.step")
    refine whole_ok hK ?_
    repeat' (walk_at "m.step")
    rw [decide_eq_true rfl]
  · refine ⟨I.xN, fun ex t tb hex => ?_⟩
    have hK' : (Ch C (.ref ex)).K = _ := hK
    repeat' (walk_at "m.step")
    change GSs _ _ _ _ _ _ _ _
    rw [hd]
    refine GSs_cons (GS_if (GB_low ?_))
    repeat' (walk_at "m.step")
    rw [decide_eq_true (by decide : (-1 : Int) < 0)]
    repeat' (walk_at "m.step")
    refine GSs_cons ?_
    refine GS_ret (GE_and ?_)
    repeat' (walk_at "m.step")
    refine GE_callN rfl (by walk_at "m.fn") ?_ (ofString_beq (by decide)) rfl
    repeat' (walk_at "m.step")
    exact refused_ok hK hN I h1 h2 ha hl hd fun _ => rfl
end
end Mine

set_option maxRecDepth 100000
set_option maxHeartbeats 8000000
namespace Mine
open PySem PyProof.Rows PySem.W
theorem script_obj {P : Params} {h : Heap} {a : Addr} {vs : List Value} {xs : List PyData} (hL : h.IsList a vs.toArray) (hw : Well P h (.ref a) (ofPy (.list xs))) : h.get? a = some (lstObj vs 0) := by
  obtain ⟨o, ho, hc, n, hd⟩ := hL
  rw [show ofPy (.list xs) = .list (ofPys xs) by simp [ofPy]] at hw
  cases hw with
  | list e r =>
    rename_i us
    rw [ho] at e; cases e
    rw [ho]
    unfold lstObj
    injection hd with h1 h2
    subst h2
    have : us = vs := by simpa using h1
    rw [this]
end Mine
open PySem PySem.W PyProof.Rows
theorem PySem.Challenge.cw_uf060022_04_holds : PySem.Challenge.rw_uf060022_04.Holds := by
  refine holds_law Mine.said04 fun said => ?_
  refine holds_open (q := Mine.q04) (loose := []) (Xt := (fun s => xlAt Mine.q04 [] s && recOk (RowW.records (OpenLaw.row PySem.Challenge.rw_uf060022_04).toRowW) s)) (XP := XL Mine.q04 []) (Yf := Hook.obs Mine.Hk04) (Ya := Hook.val Mine.Hk04) (YP := Hook.says Mine.Hk04) (N := 1505) Mine.left04 (Hook.of Mine.Hk04) (Hook.keeps Mine.Hk04) (fun s e => xl_of s (Bool.and_eq_true_iff.mp e).1) XL.keeps (by rfl) (by rfl) (by rfl) (fun s e => recFacts_of (Bool.and_eq_true_iff.mp e).2) (by rfl) said (by decide +kernel) ⟨rfl, rfl, rfl, rfl, rfl, by decide +kernel⟩ ?hw ?hc
  case hw => w_witness2
  intro w s₀ s₁ mg mb G Y fa o pm cd doc dV kV ho hd hcd hD hmg hg args vals as hpre hlay hrd hwl hlo
  have KX := kIn_of Y
  refine Ground.open G ?_
  intro T B D TE TW
  wrow_args hpre hlay hrd hwl hlo
  refine enter_call ?_
  rename Well _ _ _ _ => w1
  rename Heap.IsList _ _ _ => hL
  rename IntsAre _ _ => hI
  rename (¬ ((_ : Int) < _)) => hn
  refine Mine.law_callG (n := 6) (C := { prog := _, w := w, hd := none, tr := ⟨_, _, topRead_of T⟩, base := s₁.heap, K := Mine.K04 w.params, mg := mg, mb := mb, inK := KX, g := T.g, b := T.b, nolimit := T.nolimit, blts := T.builtins, nodigits := T.nodigits }) rfl rfl (Mine.script_obj hL w1) hI hg (by decide) ?_ ?_ ?_
  · first | exact fun _ => rfl | (exact raisesW_false (by wrow_none_raised))
  · first | rfl | exact postW_of rfl (by wtm_val) rfl
  · exact Mine.law_ok (n := 0) rfl rfl (a := _) (ns := _) (if_pos rfl) (by omega) fa hmg

