import PyProof.Rows.All
import Wide.All
import OpenK.AllK
import Wide.FinOn
import PyProof.DictList
import PyProof.P3In
import PyProof.EqLayable
import PyProof.NeData
import PyProof.WalksPairs
import PyProof.SliceMore
import PyProof.DictTruth
import PyProof.ConsumeWalk
import PyProof.Rows.SortStr
import PyProof.CompFree
import PyProof.ForAny
import PyProof.ForAppend
import PyProof.CompUse
import PyProof.DictRoads
import KE.KEqDict
import PySem.Challenge.RW_pd_augur_2_06
set_option Elab.async false

set_option autoImplicit false
set_option genSizeOf false
open PySem PyProof.Rows
namespace Mine

inductive D where
  | none
  | bool (b : Bool)
  | int (i : Int)
  | str (s : Str)
  | list (xs : List D)
  | tup (xs : List D)
  | dict (kvs : List (Str × D))
  | rng (a b c : Int)

def D.imm : D → Bool
  | .none | .bool _ | .int _ | .str _ => true
  | _ => false
def D.flat : D → Bool
  | .list xs => xs.all D.imm
  | d => d.imm
def D.cont : D → Bool
  | .list _ | .dict _ => true
  | _ => false

def PlainTup (h : Heap) (a : Addr) (items : Array Value) : Prop := ∃ n, h.get? a = some { cls := .type "tuple", data := .seq items n }
theorem PlainTup.isTup {h : Heap} {a : Addr} {items : Array Value} (x : PlainTup h a items) : IsTup h a items := let ⟨n, e⟩ := x; ⟨_, e, rfl, n, rfl⟩

section
variable (prog : Program) (w : World) (h : Heap) (N : Addr → Prop)
mutual
inductive Rep : Value → D → Prop
  | none : Rep .none .none
  | bool (b : Bool) : Rep (.bool b) (.bool b)
  | int (i : Int) (t : Tok) : Rep (.int i t) (.int i)
  | str (x : Str) (t : Tok) : PyData.strOk x = true → Rep (.str x t) (.str x)
  | list {a : Addr} {vs : List Value} {ds : List D} : N a → h.PlainList a vs.toArray → vs.length ≤ sizeLine → RepL vs ds → Rep (.ref a) (.list ds)
  | tup {a : Addr} {vs : List Value} {ds : List D} : N a → PlainTup h a vs.toArray → vs.length ≤ sizeLine → RepL vs ds → Rep (.ref a) (.tup ds)
  | dict {a : Addr} {kvs : List (Str × Value)} {kds : List (Str × D)} : N a → (a == sysModules) = false → h.DictOf (PySem.strKind prog w) a kvs → kvs.length ≤ sizeLine → RepE kvs kds → Rep (.ref a) (.dict kds)
  | rng {a : Addr} {lo hi st : Int} {t u v : Tok} : N a → IsRange h a lo hi st t u v → Rep (.ref a) (.rng lo hi st)
inductive RepL : List Value → List D → Prop
  | nil : RepL [] []
  | cons {v : Value} {vs : List Value} {d : D} {ds : List D} : Rep v d → RepL vs ds → RepL (v :: vs) (d :: ds)
inductive RepE : List (Str × Value) → List (Str × D) → Prop
  | nil : RepE [] []
  | cons {k : Str} {v : Value} {kvs : List (Str × Value)} {d : D} {kds : List (Str × D)} : PyData.strOk k = true → Rep v d → RepE kvs kds → RepE ((k, v) :: kvs) ((k, d) :: kds)
end

mutual
inductive OwnT : Nat → Value → D → List Addr → Prop
  | fz0 {v : Value} {d : D} : Rep prog w h N v d → OwnT 0 v d []
  | fz {k : Nat} {v : Value} {d : D} : d.cont = false → Rep prog w h N v d → OwnT (k + 1) v d []
  | list {k : Nat} {a : Addr} {vs : List Value} {ds : List D} {O : List Addr} : h.PlainList a vs.toArray → vs.length ≤ sizeLine → OwnL k vs ds O → OwnT (k + 1) (.ref a) (.list ds) (a :: O)
  | dict {k : Nat} {a : Addr} {kvs : List (Str × Value)} {kds : List (Str × D)} {O : List Addr} : (a == sysModules) = false → h.DictOf (PySem.strKind prog w) a kvs → kvs.length ≤ sizeLine → OwnE k kvs kds O →
      OwnT (k + 1) (.ref a) (.dict kds) (a :: O)
inductive OwnL : Nat → List Value → List D → List Addr → Prop
  | nil {k : Nat} : OwnL k [] [] []
  | cons {k : Nat} {v : Value} {vs : List Value} {d : D} {ds : List D} {O O' : List Addr} : OwnT k v d O → OwnL k vs ds O' → OwnL k (v :: vs) (d :: ds) (O ++ O')
inductive OwnE : Nat → List (Str × Value) → List (Str × D) → List Addr → Prop
  | nil {k : Nat} : OwnE k [] [] []
  | cons {k : Nat} {x : Str} {v : Value} {kvs : List (Str × Value)} {d : D} {kds : List (Str × D)} {O O' : List Addr} : PyData.strOk x = true → OwnT k v d O → OwnE k kvs kds O' →
      OwnE k ((x, v) :: kvs) ((x, d) :: kds) (O ++ O')
end
end

section
variable {prog : Program} {w : World} {h h' : Heap} {N N' : Addr → Prop}

theorem DictOf.at {h h' : Heap} {a : Addr} {kvs : List (Str × Value)} (x : h.DictOf (PySem.strKind prog w) a kvs) (hk : ∀ o, h.get? a = some o → h'.get? a = some o) : h'.DictOf (PySem.strKind prog w) a kvs :=
  let ⟨o, es, ep, ho, r⟩ := x; ⟨o, es, ep, hk _ ho, r⟩
theorem PlainTup.at {h h' : Heap} {a : Addr} {items : Array Value} (x : PlainTup h a items) (hk : ∀ o, h.get? a = some o → h'.get? a = some o) : PlainTup h' a items := let ⟨n, e⟩ := x; ⟨n, hk _ e⟩

theorem Rep.trans (hN : ∀ a, N a → N' a) (hk : ∀ a o, N a → h.get? a = some o → h'.get? a = some o) {v : Value} {d : D} (x : Rep prog w h N v d) : Rep prog w h' N' v d :=
  Rep.rec (motive_1 := fun v d _ => Rep prog w h' N' v d) (motive_2 := fun v d _ => RepL prog w h' N' v d) (motive_3 := fun v d _ => RepE prog w h' N' v d)
    .none (fun b => .bool b) (fun i t => .int i t) (fun x t e => .str x t e) (fun n p l _ r => .list (hN _ n) (p.at fun o => hk _ o n) l r) (fun n p l _ r => .tup (hN _ n) (p.at fun o => hk _ o n) l r)
    (fun n e p l _ r => .dict (hN _ n) e (DictOf.at p fun o => hk _ o n) l r) (fun n p => .rng (hN _ n) (hk _ _ n p)) .nil (fun _ _ x r => .cons x r) .nil (fun e _ _ x r => .cons e x r) x
theorem RepL.trans (hN : ∀ a, N a → N' a) (hk : ∀ a o, N a → h.get? a = some o → h'.get? a = some o) {v : List Value} {d : List D} (x : RepL prog w h N v d) : RepL prog w h' N' v d := by
  induction v generalizing d with
  | nil => cases x; exact .nil
  | cons v vs ih => cases x with | cons a r => exact .cons (a.trans hN hk) (ih r)
theorem RepE.trans (hN : ∀ a, N a → N' a) (hk : ∀ a o, N a → h.get? a = some o → h'.get? a = some o) {v : List (Str × Value)} {d : List (Str × D)} (x : RepE prog w h N v d) : RepE prog w h' N' v d := by
  induction v generalizing d with
  | nil => cases x; exact .nil
  | cons v vs ih => cases x with | cons e a r => exact .cons e (a.trans hN hk) (ih r)

/-- the tree is carried over where the frozen nodes and its own are kept -/
theorem OwnT.trans (hN : ∀ a, N a → N' a) (hk : ∀ a o, N a → h.get? a = some o → h'.get? a = some o) {k : Nat} {v : Value} {d : D} {O : List Addr} (x : OwnT prog w h N k v d O) (ho : ∀ a ∈ O, ∀ o, h.get? a = some o → h'.get? a = some o) : OwnT prog w h' N' k v d O :=
  OwnT.rec (motive_1 := fun k v d O _ => (∀ a ∈ O, ∀ o, h.get? a = some o → h'.get? a = some o) → OwnT prog w h' N' k v d O) (motive_2 := fun k v d O _ => (∀ a ∈ O, ∀ o, h.get? a = some o → h'.get? a = some o) → OwnL prog w h' N' k v d O)
    (motive_3 := fun k v d O _ => (∀ a ∈ O, ∀ o, h.get? a = some o → h'.get? a = some o) → OwnE prog w h' N' k v d O)
    (fun r _ => .fz0 (r.trans hN hk)) (fun c r _ => .fz c (r.trans hN hk)) (fun p l _ r ho => .list (p.at fun o => ho _ (.head _) o) l (r fun a ha => ho a (.tail _ ha)))
    (fun e p l _ r ho => .dict e (DictOf.at p fun o => ho _ (.head _) o) l (r fun a ha => ho a (.tail _ ha))) (fun _ => .nil)
    (fun _ _ x r ho => .cons (x fun a ha => ho a (List.mem_append_left _ ha)) (r fun a ha => ho a (List.mem_append_right _ ha))) (fun _ => .nil)
    (fun e _ _ x r ho => .cons e (x fun a ha => ho a (List.mem_append_left _ ha)) (r fun a ha => ho a (List.mem_append_right _ ha))) x ho
theorem OwnL.trans (hN : ∀ a, N a → N' a) (hk : ∀ a o, N a → h.get? a = some o → h'.get? a = some o) {k : Nat} {v : List Value} {d : List D} {O : List Addr} (x : OwnL prog w h N k v d O) (ho : ∀ a ∈ O, ∀ o, h.get? a = some o → h'.get? a = some o) : OwnL prog w h' N' k v d O := by
  induction v generalizing d O with
  | nil => cases x; exact .nil
  | cons v vs ih => cases x with | cons a r => exact .cons (a.trans hN hk fun a ha => ho a (List.mem_append_left _ ha)) (ih r fun a ha => ho a (List.mem_append_right _ ha))
theorem OwnE.trans (hN : ∀ a, N a → N' a) (hk : ∀ a o, N a → h.get? a = some o → h'.get? a = some o) {k : Nat} {v : List (Str × Value)} {d : List (Str × D)} {O : List Addr} (x : OwnE prog w h N k v d O) (ho : ∀ a ∈ O, ∀ o, h.get? a = some o → h'.get? a = some o) : OwnE prog w h' N' k v d O := by
  induction v generalizing d O with
  | nil => cases x; exact .nil
  | cons v vs ih => cases x with | cons e a r => exact .cons e (a.trans hN hk fun a ha => ho a (List.mem_append_left _ ha)) (ih r fun a ha => ho a (List.mem_append_right _ ha))

/-- an owned tree, looked at as plain data -/
theorem OwnT.rep (hN : ∀ a, N a → N' a) {k : Nat} {v : Value} {d : D} {O : List Addr} (x : OwnT prog w h N k v d O) (ho : ∀ a ∈ O, N' a) : Rep prog w h N' v d :=
  OwnT.rec (motive_1 := fun k v d O _ => (∀ a ∈ O, N' a) → Rep prog w h N' v d) (motive_2 := fun k v d O _ => (∀ a ∈ O, N' a) → RepL prog w h N' v d) (motive_3 := fun k v d O _ => (∀ a ∈ O, N' a) → RepE prog w h N' v d)
    (fun r _ => r.trans hN fun _ _ _ e => e) (fun _ r _ => r.trans hN fun _ _ _ e => e) (fun p l _ r ho => .list (ho _ (.head _)) p l (r fun a ha => ho a (.tail _ ha))) (fun e p l _ r ho => .dict (ho _ (.head _)) e p l (r fun a ha => ho a (.tail _ ha)))
    (fun _ => .nil) (fun _ _ x r ho => .cons (x fun a ha => ho a (List.mem_append_left _ ha)) (r fun a ha => ho a (List.mem_append_right _ ha))) (fun _ => .nil) (fun e _ _ x r ho => .cons e (x fun a ha => ho a (List.mem_append_left _ ha)) (r fun a ha => ho a (List.mem_append_right _ ha))) x ho

theorem OwnL.rep (hN : ∀ a, N a → N' a) {k : Nat} {v : List Value} {d : List D} {O : List Addr} (x : OwnL prog w h N k v d O) (ho : ∀ a ∈ O, N' a) : RepL prog w h N' v d := by
  induction v generalizing d O with
  | nil => cases x; exact .nil
  | cons v vs ih => cases x with | cons a r => exact .cons (a.rep hN fun a ha => ho a (List.mem_append_left _ ha)) (ih r fun a ha => ho a (List.mem_append_right _ ha))
theorem OwnE.rep (hN : ∀ a, N a → N' a) {k : Nat} {v : List (Str × Value)} {d : List (Str × D)} {O : List Addr} (x : OwnE prog w h N k v d O) (ho : ∀ a ∈ O, N' a) : RepE prog w h N' v d := by
  induction v generalizing d O with
  | nil => cases x; exact .nil
  | cons v vs ih => cases x with | cons e a r => exact .cons e (a.rep hN fun a ha => ho a (List.mem_append_left _ ha)) (ih r fun a ha => ho a (List.mem_append_right _ ha))
theorem RepL.length {vs : List Value} {ds : List D} (x : RepL prog w h N vs ds) : vs.length = ds.length := by
  induction vs generalizing ds with
  | nil => cases x; rfl
  | cons v vs ih => cases x with | cons _ r => rw [List.length_cons, List.length_cons, ih r]
theorem RepL.get {vs : List Value} {ds : List D} (x : RepL prog w h N vs ds) {i : Nat} {d : D} (hd : ds[i]? = some d) : ∃ v, vs[i]? = some v ∧ Rep prog w h N v d := by
  induction vs generalizing ds i with
  | nil => cases x; simp at hd
  | cons v vs ih =>
    cases x with
    | cons y r =>
      cases i with
      | zero => simp at hd; subst hd; exact ⟨v, rfl, y⟩
      | succ i => exact ih r (by simpa using hd)
theorem RepL.getV {vs : List Value} {ds : List D} (x : RepL prog w h N vs ds) {i : Nat} {v : Value} (hv : vs[i]? = some v) : ∃ d, ds[i]? = some d ∧ Rep prog w h N v d := by
  have hi : i < ds.length := by rw [← x.length]; exact (List.getElem?_eq_some_iff.mp hv).1
  obtain ⟨v', hv', r⟩ := x.get (i := i) (List.getElem?_eq_getElem hi)
  rw [hv] at hv'; cases hv'
  exact ⟨_, List.getElem?_eq_getElem hi, r⟩
theorem RepL.append {vs us : List Value} {ds es : List D} (x : RepL prog w h N vs ds) (y : RepL prog w h N us es) : RepL prog w h N (vs ++ us) (ds ++ es) := by
  induction vs generalizing ds with
  | nil => cases x; exact y
  | cons v vs ih => cases x with | cons a r => exact .cons a (ih r)
theorem RepL.take {vs : List Value} {ds : List D} (x : RepL prog w h N vs ds) (n : Nat) : RepL prog w h N (vs.take n) (ds.take n) := by
  induction vs generalizing ds n with
  | nil => cases x; simpa using RepL.nil
  | cons v vs ih =>
    cases x with
    | cons a r =>
      cases n with
      | zero => exact .nil
      | succ n => exact .cons a (ih r n)
theorem RepL.drop {vs : List Value} {ds : List D} (x : RepL prog w h N vs ds) (n : Nat) : RepL prog w h N (vs.drop n) (ds.drop n) := by
  induction vs generalizing ds n with
  | nil => cases x; simpa using RepL.nil
  | cons v vs ih =>
    cases n with
    | zero => exact x
    | succ n => cases x with | cons a r => exact ih r n
theorem RepL.replicate {v : Value} {d : D} (x : Rep prog w h N v d) (n : Nat) : RepL prog w h N (List.replicate n v) (List.replicate n d) := by
  induction n with
  | zero => exact .nil
  | succ n ih => exact .cons x ih

theorem Rep.ofImm {v : Value} {d : D} (hi : d.imm = true) (x : Rep prog w h N v d) : Rep prog w h' N' v d := by
  cases x with
  | none => exact .none
  | bool b => exact .bool b
  | int i t => exact .int i t
  | str s t e => exact .str s t e
  | list => cases hi
  | tup => cases hi
  | dict => cases hi
  | rng => cases hi
theorem RepL.ofImm {vs : List Value} {ds : List D} (hi : ds.all D.imm = true) (x : RepL prog w h N vs ds) : RepL prog w h' N' vs ds := by
  induction vs generalizing ds with
  | nil => cases x; exact .nil
  | cons v vs ih =>
    cases x with
    | cons a r =>
      rw [List.all_cons] at hi
      obtain ⟨h1, h2⟩ := Bool.and_eq_true_iff.mp hi
      exact .cons (Rep.ofImm h1 a) (ih h2 r)
end

/-! the configuration: program, world, the written part, globals; T: the code tables that a generator expression grows -/
set_option genInjectivity false in
structure Cfg where
  prog : Program
  w : World
  K : List (Addr × Obj)
  mg : Str → Option Value
  mb : Str → Option Value
  T : Addr → Prop
  TB : Heap → Prop
  hK : ∀ a o, K.lookup a = some o → ¬ T a
  hTg : ¬ T mainGlobals
  hTb : ¬ T builtinsNs
  hTs : ¬ T cStatics
  hTB : ∀ h h' : Heap, (∀ b o, (T b ∨ (K.lookup b).isSome = true) → h.get? b = some o → h'.get? b = some o) → TB h → TB h'

structure Ext (C : Cfg) (s s' : Shared) : Prop where
  keep : ∀ b o, ¬ C.T b → s.heap.get? b = some o → s'.heap.get? b = some o
  dom : ∀ b o, s.heap.get? b = some o → ∃ o', s'.heap.get? b = some o'
  tab : C.TB s.heap → C.TB s'.heap
  gens : AllBare s.gens → AllBare s'.gens
  os : s'.os = s.os

theorem Ext.refl (C : Cfg) (s : Shared) : Ext C s s := ⟨fun _ _ _ e => e, fun _ o e => ⟨o, e⟩, id, id, rfl⟩
theorem Ext.trans {C : Cfg} {s s' s'' : Shared} (x : Ext C s s') (y : Ext C s' s'') : Ext C s s'' :=
  ⟨fun b o t e => y.keep b o t (x.keep b o t e), fun b o e => let ⟨_, e'⟩ := x.dom b o e; y.dom b _ e', fun t => y.tab (x.tab t), fun g => y.gens (x.gens g), y.os.trans x.os⟩
theorem Ext.of {C : Cfg} {s : Shared} {h' : Heap} {tk : Nat} (k : ∀ b o, s.heap.get? b = some o → h'.get? b = some o) : Ext C s { s with heap := h', toks := tk } :=
  ⟨fun b o _ e => k b o e, fun b o e => ⟨o, k b o e⟩, fun t => C.hTB _ _ (fun b o _ e => k b o e) t, id, rfl⟩
theorem Ext.none {C : Cfg} {s s' : Shared} (x : Ext C s s') {a : Addr} (e : s'.heap.get? a = none) : s.heap.get? a = none := by
  cases q : s.heap.get? a with
  | none => rfl
  | some o => obtain ⟨o', e'⟩ := x.dom a o q; rw [e] at e'; cases e'

structure GlobOK (C : Cfg) (h : Heap) : Prop where
  inK : ∀ a o, C.K.lookup a = some o → h.get? a = some o
  g : h.Ns mainGlobals C.mg
  b : h.Ns builtinsNs C.mb
  bi : ∀ x : Str, x ≠ "__name__" → C.mb x = bootBuiltins x
  nolim : h.NoLimit
  tb : C.TB h
  tdom : ∀ a, C.T a → ∃ o, h.get? a = some o
theorem Ns.kept {h h' : Heap} {a : Addr} {m : Str → Option Value} (x : h.Ns a m) (hk : ∀ o, h.get? a = some o → h'.get? a = some o) : h'.Ns a m :=
  let ⟨o, es, ep, e, r⟩ := x; ⟨o, es, ep, hk _ e, r⟩
theorem GlobOK.ext {C : Cfg} {s s' : Shared} (x : GlobOK C s.heap) (e : Ext C s s') : GlobOK C s'.heap :=
  ⟨fun a o q => e.keep a o (C.hK a o q) (x.inK a o q), Ns.kept x.g fun o => e.keep _ o C.hTg, Ns.kept x.b fun o => e.keep _ o C.hTb, x.bi, (let ⟨mc, p, q⟩ := x.nolim; ⟨mc, Ns.kept p fun o => e.keep _ o C.hTs, q⟩), e.tab x.tb, fun a t => let ⟨o, q⟩ := x.tdom a t; e.dom a o q⟩

/-- steps that write to fresh objects alone -/
theorem Ext.wr {C : Cfg} {s s₂ : Shared} {h' : Heap} {tk : Nat} {W : Addr → Prop} (g : GlobOK C s.heap) (e : Ext C s s₂) (hw : ∀ b, W b → s.heap.get? b = Option.none) (hk : ∀ b o, ¬ W b → s₂.heap.get? b = some o → h'.get? b = some o) :
    Ext C s { s₂ with heap := h', toks := tk } := by
  have nw : ∀ b o, s.heap.get? b = some o → ¬ W b := fun b o q w => by rw [hw b w] at q; cases q
  refine ⟨fun b o t q => hk b o (nw b o q) (e.keep b o t q), fun b o q => ?_, fun t => ?_, e.gens, e.os⟩
  · obtain ⟨o', q'⟩ := e.dom b o q; exact ⟨o', hk b o' (nw b o q) q'⟩
  · refine C.hTB _ _ (fun b o hb q => hk b o ?_ q) (e.tab t)
    rcases hb with hb | hb
    · obtain ⟨o', q'⟩ := g.tdom b hb; exact nw b o' q'
    · obtain ⟨o', q'⟩ := Option.isSome_iff_exists.mp hb; exact nw b o' (g.inK b o' q')
/-- a set of addresses that data may live at -/
structure NOK (C : Cfg) (h : Heap) (N : Addr → Prop) : Prop where
  fresh : ∀ a, h.get? a = none → N a
  notT : ∀ a, N a → ¬ C.T a
  inK : ∀ a o, C.K.lookup a = some o → N a
  low : ∀ a : Nat, a = 0 ∨ a = 2 ∨ a = 3 → N a
theorem NOK.ext {C : Cfg} {s s' : Shared} {N : Addr → Prop} (x : NOK C s.heap N) (e : Ext C s s') : NOK C s'.heap N := ⟨fun a q => x.fresh a (e.none q), x.notT, x.inK, x.low⟩

abbrev RepC (C : Cfg) (h : Heap) (N : Addr → Prop) (v : Value) (d : D) : Prop := Rep C.prog C.w h N v d
abbrev RepLC (C : Cfg) (h : Heap) (N : Addr → Prop) (v : List Value) (d : List D) : Prop := RepL C.prog C.w h N v d
theorem Rep.ext {C : Cfg} {s s' : Shared} {N : Addr → Prop} {v : Value} {d : D} (hN : ∀ a, N a → ¬ C.T a) (e : Ext C s s') (x : RepC C s.heap N v d) : RepC C s'.heap N v d :=
  x.trans (fun _ n => n) fun a o n q => e.keep a o (hN a n) q
theorem RepL.ext {C : Cfg} {s s' : Shared} {N : Addr → Prop} {v : List Value} {d : List D} (hN : ∀ a, N a → ¬ C.T a) (e : Ext C s s') (x : RepLC C s.heap N v d) : RepLC C s'.heap N v d :=
  x.trans (fun _ n => n) fun a o n q => e.keep a o (hN a n) q

def Room (A : Around) (l : Nat) : Prop := A.handled = none ∧ A.depth + l < recursionLimit ∧ A.units + 10 * l + 200 < cLine

/-! frames -/
inductive Loc where
  | ns (L : Addr) (x : Str)
  | cell (c : Addr)
def Loc.addr : Loc → Addr
  | .ns L _ => L
  | .cell c => c
def LocHas (h : Heap) : Loc → Value → Prop
  | .ns L x, v => ∃ m, h.Ns L m ∧ m x = some v
  | .cell c, v => h.IsCell c (some v)
theorem LocHas.kept {h h' : Heap} {l : Loc} {v : Value} (x : LocHas h l v) (hk : ∀ o, h.get? l.addr = some o → h'.get? l.addr = some o) : LocHas h' l v := by
  cases l with
  | ns L y => obtain ⟨m, a, b⟩ := x; exact ⟨m, Ns.kept a hk, b⟩
  | cell c => obtain ⟨o, a, b⟩ := x; exact ⟨o, hk o a, b⟩

def LocEx (h : Heap) : Loc → Prop
  | .ns L _ => ∃ m, h.Ns L m
  | .cell c => ∃ v, h.IsCell c v
theorem LocEx.kept {h h' : Heap} {l : Loc} (x : LocEx h l) (hk : ∀ o, h.get? l.addr = some o → h'.get? l.addr = some o) : LocEx h' l := by
  cases l with
  | ns L y => obtain ⟨m, a⟩ := x; exact ⟨m, Ns.kept a hk⟩
  | cell c => obtain ⟨v, o, a, b⟩ := x; exact ⟨v, o, hk o a, b⟩
def LocsApart (ls : List Loc) : Prop := ∀ (i j : Nat) (li lj : Loc), ls[i]? = some li → ls[j]? = some lj → i ≠ j → li.addr = lj.addr → ∃ L x y, li = .ns L x ∧ lj = .ns L y ∧ x ≠ y
/-- what is known of an expression's value: fr frozen; own k: fresh to depth k; bor: an owned slot's; unk: unknown; fu: a fresh root, unknown below -/
inductive Mk where
  | fr
  | own (k : Nat)
  | bor
  | unk
  | fu
def Mk.isFu : Mk → Bool
  | .fu => true
  | _ => false
def Mk.isOwn (k : Nat) : Mk → Bool
  | .own j => decide (j = k)
  | _ => false
theorem Mk.of_isFu {m : Mk} (h : m.isFu = true) : m = .fu := by cases m <;> first | rfl | cases h
theorem Mk.of_isOwn {m : Mk} {k : Nat} (h : m.isOwn k = true) : m = .own k := by
  cases m with
  | own j => exact congrArg Mk.own (of_decide_eq_true h)
  | _ => cases h
structure Fx where
  locs : List Loc
  vol : Addr → Prop
  volc : Addr → Prop
  new : Addr → Prop

def MkRep (C : Cfg) (F : Fx) (hs h : Heap) : Mk → Value → D → Prop
  | .fr, v, d => RepC C h (fun a => ¬ F.vol a) v d
  | .own k, v, d => ∃ O, OwnT C.prog C.w h (fun a => ¬ F.vol a ∧ a ∉ O) k v d O ∧ O.Nodup ∧ ∀ a ∈ O, hs.get? a = none
  | .bor, v, d => ∃ O, OwnT C.prog C.w h (fun a => ¬ F.vol a) 1 v d O ∧ ∀ a ∈ O, F.new a
  | .unk, v, d => RepC C h (fun a => ¬ F.volc a) v d
  | .fu, v, d => RepC C h (fun a => ¬ F.volc a) v d ∧ ∀ a, v = .ref a → hs.get? a = none

abbrev EEnv := List (Option (D × Mk))
def Mk.sl : Mk → Mk
  | .fr => .fr
  | .bor => .bor
  | _ => .unk

structure RelE (C : Cfg) (F : Fx) (h : Heap) (ρ : EEnv) : Prop where
  hv : ∀ a, F.vol a → ∃ o, h.get? a = some o
  vc : ∀ a, F.volc a → F.vol a
  vT : ∀ a, C.T a → F.volc a
  vK : ∀ a o, C.K.lookup a = some o → ¬ F.vol a
  vlow : ∀ a : Nat, a = 0 ∨ a = 2 ∨ a = 3 → ¬ F.vol a
  newc : ∀ a, F.new a → ¬ F.volc a
  newf : ∀ a, h.get? a = none → F.new a
  loc : ∀ l ∈ F.locs, F.volc l.addr ∧ ¬ C.T l.addr
  locex : ∀ l ∈ F.locs, LocEx h l
  dist : LocsApart F.locs
  len : ρ.length = F.locs.length
  slot : ∀ (i : Nat) (d : D) (m : Mk), ρ[i]? = some (some (d, m)) → ∃ l v, F.locs[i]? = some l ∧ LocHas h l v ∧ MkRep C F h h m.sl v d

section
variable {C : Cfg} {F : Fx} {hs hs' h h' : Heap} {m : Mk} {v : Value} {d : D}
theorem fresh_not_vol (hv : ∀ a, F.vol a → ∃ o, h.get? a = some o) {a : Addr} (e : h.get? a = none) : ¬ F.vol a := fun q => by obtain ⟨o, q⟩ := hv a q; rw [e] at q; cases q
/-- whatever is known, it is data away from the caller's -/
theorem MkRep.weak (hv : ∀ a, F.vol a → ∃ o, hs.get? a = some o) (vc : ∀ a, F.volc a → F.vol a) (newc : ∀ a, F.new a → ¬ F.volc a) (x : MkRep C F hs h m v d) : RepC C h (fun a => ¬ F.volc a) v d := by
  cases m with
  | fr => exact Rep.trans (fun a n q => n (vc a q)) (fun _ _ _ e => e) x
  | own k =>
    obtain ⟨O, t, _, f⟩ := x
    exact t.rep (fun a n q => n.1 (vc a q)) fun a ha q => fresh_not_vol hv (f a ha) (vc a q)
  | bor =>
    obtain ⟨O, t, f⟩ := x
    exact t.rep (fun a n q => n (vc a q)) fun a ha => newc a (f a ha)
  | unk => exact x
  | fu => exact x.1
def Mk.clean : Mk → Bool
  | .fr | .own _ => true
  | _ => false
/-- may it be kept as frozen data? -/
def Mk.cl (m : Mk) (d : D) : Bool := m.clean || d.imm || (m.isFu && d.flat)
theorem MkRep.clean (hv : ∀ a, F.vol a → ∃ o, hs.get? a = some o) (c : m.cl d = true) (x : MkRep C F hs h m v d) : RepC C h (fun a => ¬ F.vol a) v d := by
  unfold Mk.cl at c
  rcases Bool.or_eq_true_iff.mp c with c | c
  · rcases Bool.or_eq_true_iff.mp c with c | c
    · cases m with
      | fr => exact x
      | own k =>
        obtain ⟨O, t, _, f⟩ := x
        exact t.rep (fun a n => n.1) fun a ha => fresh_not_vol hv (f a ha)
      | bor => cases c
      | unk => cases c
      | fu => cases c
    · cases m with
      | fr => exact x
      | own k =>
        obtain ⟨O, t, _, f⟩ := x
        exact t.rep (fun a n => n.1) fun a ha => fresh_not_vol hv (f a ha)
      | bor =>
        obtain ⟨O, t, f⟩ := x
        exact Rep.ofImm c (t.rep (N' := fun _ => True) (fun _ _ => trivial) fun _ _ => trivial)
      | unk => exact Rep.ofImm c x
      | fu => exact Rep.ofImm c x.1
  · obtain ⟨c1, c2⟩ := Bool.and_eq_true_iff.mp c
    have e : m = .fu := Mk.of_isFu c1
    subst e
    obtain ⟨x, f⟩ := x
    cases x with
    | none => exact .none
    | bool b => exact .bool b
    | int i t => exact .int i t
    | str s t e => exact .str s t e
    | list n p l r => exact .list (fresh_not_vol hv (f _ rfl)) p l (RepL.ofImm c2 r)
    | tup => cases c2
    | dict => cases c2
    | rng => cases c2
/-- later heaps -/
theorem MkRep.ext {s s' : Shared} (vc : ∀ a, F.volc a → F.vol a) (vT : ∀ a, C.T a → F.volc a) (newc : ∀ a, F.new a → ¬ F.volc a) (hsT : ∀ a, C.T a → ∃ o, hs.get? a = some o) (e : Ext C s s') (x : MkRep C F hs s.heap m v d) : MkRep C F hs s'.heap m v d := by
  have k0 : ∀ a, ¬ F.vol a → ¬ C.T a := fun a n t => n (vc a (vT a t))
  cases m with
  | fr => exact Rep.ext k0 e x
  | own k =>
    obtain ⟨O, t, nd, f⟩ := x
    refine ⟨O, t.trans (fun _ n => n) (fun a o n q => e.keep a o (k0 a n.1) q) (fun a ha o q => e.keep a o (fun t => ?_) q), nd, f⟩
    obtain ⟨o', q'⟩ := hsT a t; rw [f a ha] at q'; cases q'
  | bor =>
    obtain ⟨O, t, f⟩ := x
    exact ⟨O, t.trans (fun _ n => n) (fun a o n q => e.keep a o (k0 a n) q) (fun a ha o q => e.keep a o (fun t => newc a (f a ha) (vT a t)) q), f⟩
  | unk => exact Rep.ext (fun a n t => n (vT a t)) e x
  | fu => exact ⟨Rep.ext (fun a n t => n (vT a t)) e x.1, x.2⟩
theorem RelE.ext {ρ : EEnv} {s s' : Shared} (x : RelE C F s.heap ρ) (e : Ext C s s') : RelE C F s'.heap ρ where
  hv := fun a q => let ⟨o, q⟩ := x.hv a q; e.dom a o q
  vc := x.vc
  vT := x.vT
  vK := x.vK
  vlow := x.vlow
  newc := x.newc
  newf := fun a q => x.newf a (e.none q)
  loc := x.loc
  locex := fun l hl => (x.locex l hl).kept fun o => e.keep _ o (x.loc l hl).2
  dist := x.dist
  len := x.len
  slot := fun i d m q => by
    obtain ⟨l, v, a, b, c⟩ := x.slot i d m q
    refine ⟨l, v, a, b.kept fun o => e.keep _ o (x.loc l (List.mem_of_getElem? a)).2, ?_⟩
    have c' := c.ext x.vc x.vT x.newc (fun a t => x.hv a (x.vc a (x.vT a t))) e
    cases m <;> exact c'
end
end Mine

set_option autoImplicit false
open PySem PyProof.Rows
namespace Mine

/-! equality of data -/
def eqL (q : D → D → Option Bool) : List D → List D → Option Bool
  | [], [] => some true
  | x :: xs, y :: ys => (q x y).bind fun a => (eqL q xs ys).bind fun b => some (a && b)
  | _, _ => some false
def eqD : Nat → D → D → Option Bool
  | _, .none, .none => some true
  | _, .bool a, .bool b => some (a == b)
  | _, .int a, .int b => some (a == b)
  | _, .str a, .str b => some (a == b)
  | _, .none, .list _ => some false
  | _, .list _, .none => some false
  | n + 1, .list xs, .list ys => if xs.length = ys.length then eqL (eqD n) xs ys else some false
  | n + 1, .tup xs, .tup ys => eqL (eqD n) xs ys
  | _, _, _ => none

section
variable {prog : Program} {w : World} {h : Heap} {N N' : Addr → Prop}
open SeqAt

def pairOf (q : D → D → Option Bool) (xs ys : List D) (j : Nat) : Bool := ((xs[j]?.bind fun x => ys[j]?.bind fun y => q x y)).getD true
theorem eqL_all {q : D → D → Option Bool} : ∀ {xs ys : List D} {r : Bool}, eqL q xs ys = some r → ((List.range (min xs.length ys.length)).all (pairOf q xs ys) && xs.length == ys.length) = r
  | [], [], r, e => by simp [eqL] at e; subst e; rfl
  | [], _ :: _, r, e => by simp [eqL] at e; subst e; simp
  | _ :: _, [], r, e => by simp [eqL] at e; subst e; simp
  | x :: xs, y :: ys, r, e => by
    simp only [eqL, Option.bind_eq_some_iff, Option.some.injEq] at e
    obtain ⟨a, ha, b, hb, rfl⟩ := e
    have ih := eqL_all hb
    have e1 : min (x :: xs).length (y :: ys).length = min xs.length ys.length + 1 := by simp only [List.length_cons]; omega
    have e2 : ((x :: xs).length == (y :: ys).length) = (xs.length == ys.length) := by simp
    have e3 : (List.range (min xs.length ys.length + 1)).all (pairOf q (x :: xs) (y :: ys)) = (a && (List.range (min xs.length ys.length)).all (pairOf q xs ys)) := by
      rw [List.range_succ_eq_map, List.all_cons, List.all_map]
      congr 1
      · simp [pairOf, ha]
    rw [e1, e2, e3, Bool.and_assoc, ih]
theorem eqL_pair {q : D → D → Option Bool} : ∀ {xs ys : List D} {r : Bool}, eqL q xs ys = some r → ∀ {j : Nat} {x y : D}, xs[j]? = some x → ys[j]? = some y → q x y = some (pairOf q xs ys j)
  | [], _, _, _, _, _, _, h1, _ => by simp at h1
  | _ :: _, [], _, _, _, _, _, _, h2 => by simp at h2
  | x :: xs, y :: ys, r, e, j, x', y', h1, h2 => by
    simp only [eqL, Option.bind_eq_some_iff, Option.some.injEq] at e
    obtain ⟨a, ha, b, hb, rfl⟩ := e
    cases j with
    | zero => simp at h1 h2; subst h1; subst h2; simp [pairOf, ha]
    | succ j =>
      have := eqL_pair hb (j := j) (x := x') (y := y') (by simpa using h1) (by simpa using h2)
      simpa [pairOf] using this
theorem plainList_inj {h : Heap} {a : Addr} {xs ys : List Value} (x : h.PlainList a xs.toArray) (y : h.PlainList a ys.toArray) : xs = ys := by
  obtain ⟨n, e⟩ := x; obtain ⟨n', e'⟩ := y; rw [e] at e'; cases e'; rfl
theorem plainTup_inj {h : Heap} {a : Addr} {xs ys : List Value} (x : PlainTup h a xs.toArray) (y : PlainTup h a ys.toArray) : xs = ys := by
  obtain ⟨n, e⟩ := x; obtain ⟨n', e'⟩ := y; rw [e] at e'; cases e'; rfl

theorem dictOf_inj {h : Heap} {a : Addr} {xs ys : List (Str × Value)} (x : h.DictOf (PySem.strKind prog w) a xs) (y : h.DictOf (PySem.strKind prog w) a ys) : ys = xs := by
  obtain ⟨o, es, ep, e1, _, e2, _, p, nd⟩ := x
  obtain ⟨o', es', ep', e1', _, e2', _, p', nd'⟩ := y
  rw [e1] at e1'; cases e1'
  rw [e2] at e2'; cases e2'
  clear e1 e2 nd nd'
  generalize es.toList = l at p p'
  induction p generalizing ys with
  | nil => cases p'; rfl
  | @cons e kv es kvs h1 h2 _ ih =>
    cases p' with
    | @cons _ kv' _ kvs' h1' h2' p'' =>
      rw [ih p'']
      have : kv'.1 = kv.1 := (PySem.strKind prog w).inj _ _ _ h1' h1
      rw [show kv' = kv from Prod.ext this (h2'.symm.trans h2)]
theorem Rep.inv_none {v : Value} (x : Rep prog w h N v .none) : v = .none := by cases x; rfl
theorem Rep.inv_bool {v : Value} {b : Bool} (x : Rep prog w h N v (.bool b)) : v = .bool b := by cases x; rfl
theorem Rep.inv_int {v : Value} {i : Int} (x : Rep prog w h N v (.int i)) : ∃ t, v = .int i t := by cases x; exact ⟨_, rfl⟩
theorem Rep.inv_str {v : Value} {i : Str} (x : Rep prog w h N v (.str i)) : ∃ t, v = .str i t ∧ PyData.strOk i = true := by cases x with | str _ t e => exact ⟨_, rfl, e⟩
theorem Rep.inv_list {v : Value} {ds : List D} (x : Rep prog w h N v (.list ds)) : ∃ a vs, v = .ref a ∧ N a ∧ h.PlainList a vs.toArray ∧ vs.length ≤ sizeLine ∧ RepL prog w h N vs ds := by cases x with | list n p l r => exact ⟨_, _, rfl, n, p, l, r⟩
theorem Rep.inv_tup {v : Value} {ds : List D} (x : Rep prog w h N v (.tup ds)) : ∃ a vs, v = .ref a ∧ N a ∧ PlainTup h a vs.toArray ∧ vs.length ≤ sizeLine ∧ RepL prog w h N vs ds := by cases x with | tup n p l r => exact ⟨_, _, rfl, n, p, l, r⟩
theorem Rep.inv_dict {v : Value} {ds : List (Str × D)} (x : Rep prog w h N v (.dict ds)) : ∃ a vs, v = .ref a ∧ N a ∧ (a == sysModules) = false ∧ h.DictOf (PySem.strKind prog w) a vs ∧ vs.length ≤ sizeLine ∧ RepE prog w h N vs ds := by cases x with | dict n e p l r => exact ⟨_, _, rfl, n, e, p, l, r⟩
/-- what eqD answers, case by case -/
inductive EqV : Nat → D → D → Bool → Prop
  | none {n : Nat} : EqV n .none .none true
  | bool {n : Nat} (a b : Bool) : EqV n (.bool a) (.bool b) (a == b)
  | int {n : Nat} (a b : Int) : EqV n (.int a) (.int b) (a == b)
  | str {n : Nat} (a b : Str) : EqV n (.str a) (.str b) (a == b)
  | nl {n : Nat} {xs : List D} : EqV n .none (.list xs) false
  | ln {n : Nat} {xs : List D} : EqV n (.list xs) .none false
  | lists {n : Nat} {xs ys : List D} {r : Bool} : xs.length = ys.length → eqL (eqD n) xs ys = some r → EqV (n + 1) (.list xs) (.list ys) r
  | lens {n : Nat} {xs ys : List D} : ¬ xs.length = ys.length → EqV (n + 1) (.list xs) (.list ys) false
  | tups {n : Nat} {xs ys : List D} {r : Bool} : eqL (eqD n) xs ys = some r → EqV (n + 1) (.tup xs) (.tup ys) r
theorem eqD_V {n : Nat} {a b : D} {r : Bool} (q : eqD n a b = some r) : EqV n a b r := by
  unfold eqD at q
  split at q
  · cases q; exact .none
  · cases q; exact .bool _ _
  · cases q; exact .int _ _
  · cases q; exact .str _ _
  · cases q; exact .nl
  · cases q; exact .ln
  · split at q
    · rename_i h; exact .lists h q
    · rename_i h; cases q; exact .lens h
  · exact .tups q
  · cases q
theorem eqL_same {n : Nat} (ih : ∀ {v : Value} {d e : D} {r : Bool}, Rep prog w h N v d → Rep prog w h N' v e → eqD n d e = some r → r = true) : ∀ {vs : List Value} {ds es : List D} {r : Bool}, RepL prog w h N vs ds → RepL prog w h N' vs es → eqL (eqD n) ds es = some r → r = true := by
  intro vs
  induction vs with
  | nil => intro ds es r x y q; cases x; cases y; cases q; rfl
  | cons v vs ih' =>
    intro ds es r x y q
    cases x with
    | cons x1 x2 =>
      cases y with
      | cons y1 y2 =>
        obtain ⟨a, ha, q⟩ := Option.bind_eq_some_iff.mp q
        obtain ⟨b, hb, q⟩ := Option.bind_eq_some_iff.mp q
        cases q
        rw [ih x1 y1 ha, ih' x2 y2 hb]; rfl
/-- the same value cannot stand for two sides that differ -/
theorem eqD_same (n : Nat) : ∀ {v : Value} {d e : D} {r : Bool}, Rep prog w h N v d → Rep prog w h N' v e → eqD n d e = some r → r = true := by
  induction n using Nat.strongRecOn with
  | _ n ih =>
    intro v d e r x y q
    cases eqD_V q with
    | none => rfl
    | bool a b => obtain rfl := x.inv_bool; cases y.inv_bool; exact beq_self_eq_true _
    | int a b => obtain ⟨t, rfl⟩ := x.inv_int; obtain ⟨u, e⟩ := y.inv_int; cases e; exact beq_self_eq_true _
    | str a b => obtain ⟨t, rfl, _⟩ := x.inv_str; obtain ⟨u, e, _⟩ := y.inv_str; cases e; exact beq_self_eq_true _
    | nl => obtain rfl := x.inv_none; obtain ⟨_, _, e, _⟩ := y.inv_list; cases e
    | ln => obtain rfl := y.inv_none; obtain ⟨_, _, e, _⟩ := x.inv_list; cases e
    | lists hl q =>
      obtain ⟨_, _, rfl, _, p, _, r1⟩ := x.inv_list
      obtain ⟨_, _, e, _, p', _, r2⟩ := y.inv_list
      cases e
      obtain rfl := plainList_inj p p'
      exact eqL_same (ih _ (Nat.lt_succ_self _)) r1 r2 q
    | lens hl =>
      obtain ⟨_, _, rfl, _, p, _, r1⟩ := x.inv_list
      obtain ⟨_, _, e, _, p', _, r2⟩ := y.inv_list
      cases e
      obtain rfl := plainList_inj p p'
      exact absurd (r1.length.symm.trans r2.length) hl
    | tups q =>
      obtain ⟨_, _, rfl, _, p, _, r1⟩ := x.inv_tup
      obtain ⟨_, _, e, _, p', _, r2⟩ := y.inv_tup
      cases e
      obtain rfl := plainTup_inj p p'
      exact eqL_same (ih _ (Nat.lt_succ_self _)) r1 r2 q
theorem pairs_at {n : Nat} {A : Around} {s : Shared} {vs us : List Value} {ds es : List D} {r : Bool} (ih : ∀ {a b : Value} {da db : D} {r : Bool}, Rep prog w s.heap N a da → Rep prog w s.heap N' b db → eqD n da db = some r → EqAt A s a b r) (r1 : RepL prog w s.heap N vs ds) (r2 : RepL prog w s.heap N' us es) (q : eqL (eqD n) ds es = some r) :
    ∀ (j : Nat) (h1 : j < vs.toArray.size) (h2 : j < us.toArray.size), EqAt A s vs.toArray[j] us.toArray[j] (pairOf (eqD n) ds es j) := fun j h1 h2 => by
  have h1' : j < vs.length := by simpa using h1
  have h2' : j < us.length := by simpa using h2
  obtain ⟨d1, hd1, rd1⟩ := r1.getV (List.getElem?_eq_getElem h1')
  obtain ⟨d2, hd2, rd2⟩ := r2.getV (List.getElem?_eq_getElem h2')
  have := ih rd1 rd2 (eqL_pair q hd1 hd2)
  simpa using this
theorem lists_all {q : D → D → Option Bool} {vs : List Value} {ds es : List D} {r : Bool} (hl : ds.length = es.length) (e : vs.length = ds.length) (h : eqL q ds es = some r) : (List.range vs.toArray.size).all (pairOf q ds es) = r := by
  have ha := eqL_all h
  rw [← hl, Nat.min_self, beq_self_eq_true, Bool.and_true, ← e] at ha
  rw [List.size_toArray]; exact ha
theorem tups_all {q : D → D → Option Bool} {vs us : List Value} {ds es : List D} {r : Bool} (e : vs.length = ds.length) (e' : us.length = es.length) (h : eqL q ds es = some r) : ((List.range (min vs.toArray.size us.toArray.size)).all (pairOf q ds es) && vs.toArray.size == us.toArray.size) = r := by
  have ha := eqL_all h
  rw [← e, ← e'] at ha
  rw [List.size_toArray, List.size_toArray]; exact ha
theorem size_eq {vs us : List Value} {ds es : List D} (e : vs.length = ds.length) (e' : us.length = es.length) (h : ds.length = es.length) : vs.toArray.size = us.toArray.size := by rw [List.size_toArray, List.size_toArray, e, e', h]
theorem size_ne {vs us : List Value} {ds es : List D} (e : vs.length = ds.length) (e' : us.length = es.length) (h : ¬ ds.length = es.length) : (vs.toArray.size != us.toArray.size) = true := by rw [List.size_toArray, List.size_toArray, e, e']; simpa using h

theorem eqAt_rep (n : Nat) : ∀ {A : Around} {s : Shared} {a b : Value} {da db : D} {r : Bool}, A.units + n < cLine → Rep prog w s.heap N a da → Rep prog w s.heap N' b db → eqD n da db = some r → EqAt A s a b r := by
  induction n using Nat.strongRecOn with
  | _ n ih =>
    intro A s a b da db r hu x y q
    have hc : A.units < cLine := by omega
    cases eqD_V q with
    | none => obtain rfl := x.inv_none; obtain rfl := y.inv_none; exact EqAt.same _
    | bool => obtain rfl := x.inv_bool; obtain rfl := y.inv_bool; exact EqAt.bool_bool _ _
    | int => obtain ⟨_, rfl⟩ := x.inv_int; obtain ⟨_, rfl⟩ := y.inv_int; exact EqAt.int_int _ _ _ _
    | str => obtain ⟨_, rfl, _⟩ := x.inv_str; obtain ⟨_, rfl, _⟩ := y.inv_str; exact EqAt.str_str _ _ _ _
    | nl => obtain rfl := x.inv_none; obtain ⟨_, _, rfl, _, p, _⟩ := y.inv_list; exact EqAt.none_list p.isList hc
    | ln => obtain rfl := y.inv_none; obtain ⟨_, _, rfl, _, p, _⟩ := x.inv_list; exact EqAt.list_none p.isList hc
    | @lists m _ _ _ hl q' =>
      obtain ⟨l1, vs, rfl, n1, p, l, r1⟩ := x.inv_list
      obtain ⟨l2, us, rfl, n2, p', l', r2⟩ := y.inv_list
      by_cases hll : l1 = l2
      · subst hll
        cases eqD_same _ x y q
        exact EqAt.same _
      · refine EqAt.of_refs hll (lists_all hl r1.length q' ▸ ?_)
        exact RcAt.lists p.isList p'.isList (size_eq r1.length r2.length hl) hc (pairs_at (ih m (Nat.lt_succ_self _) (A := A.in1) (by rw [Around.in1_units]; omega)) r1 r2 q')
    | lens hl =>
      obtain ⟨l1, vs, rfl, n1, p, l, r1⟩ := x.inv_list
      obtain ⟨l2, us, rfl, n2, p', l', r2⟩ := y.inv_list
      by_cases hll : l1 = l2
      · subst hll
        cases eqD_same _ x y q
      · exact EqAt.of_refs hll (RcAt.lists_lengths p.isList p'.isList (size_ne r1.length r2.length hl) hc)
    | @tups m _ _ _ q' =>
      obtain ⟨l1, vs, rfl, n1, p, l, r1⟩ := x.inv_tup
      obtain ⟨l2, us, rfl, n2, p', l', r2⟩ := y.inv_tup
      by_cases hll : l1 = l2
      · subst hll
        cases eqD_same _ x y q
        exact EqAt.same _
      · refine EqAt.of_refs hll (tups_all r1.length r2.length q' ▸ ?_)
        exact RcAt.tuples p.isTup p'.isTup hc (pairs_at (ih m (Nat.lt_succ_self _) (A := A.in1) (by rw [Around.in1_units]; omega)) r1 r2 q')
theorem rcNeAt_rep (n : Nat) {A : Around} {s : Shared} {a b : Value} {da db : D} {r : Bool} (hu : A.units + n < cLine) (x : Rep prog w s.heap N a da) (y : Rep prog w s.heap N' b db) (q : eqD n da db = some r) : RcNeAt A s a b (!r) := by
  have hc : A.units < cLine := by omega
  cases eqD_V q with
  | none => obtain rfl := x.inv_none; obtain rfl := y.inv_none; exact RcNeAt.none_none
  | bool => obtain rfl := x.inv_bool; obtain rfl := y.inv_bool; exact RcNeAt.bool_bool _ _
  | int => obtain ⟨_, rfl⟩ := x.inv_int; obtain ⟨_, rfl⟩ := y.inv_int; exact RcNeAt.int_int _ _ _ _
  | str => obtain ⟨_, rfl, _⟩ := x.inv_str; obtain ⟨_, rfl, _⟩ := y.inv_str; exact RcNeAt.str_str _ _ _ _
  | nl => obtain rfl := x.inv_none; obtain ⟨_, _, rfl, _, p, _⟩ := y.inv_list; exact RcNeAt.none_list p.isList hc
  | ln => obtain rfl := y.inv_none; obtain ⟨_, _, rfl, _, p, _⟩ := x.inv_list; exact RcNeAt.list_none p.isList hc
  | @lists m _ _ _ hl q' =>
    obtain ⟨l1, vs, rfl, n1, p, l, r1⟩ := x.inv_list
    obtain ⟨l2, us, rfl, n2, p', l', r2⟩ := y.inv_list
    exact lists_all hl r1.length q' ▸ RcNeAt.lists p.isList p'.isList (size_eq r1.length r2.length hl) hc (pairs_at (eqAt_rep m (A := A.in1) (by rw [Around.in1_units]; omega)) r1 r2 q')
  | lens hl =>
    obtain ⟨l1, vs, rfl, n1, p, l, r1⟩ := x.inv_list
    obtain ⟨l2, us, rfl, n2, p', l', r2⟩ := y.inv_list
    exact RcNeAt.lists_lengths p.isList p'.isList (size_ne r1.length r2.length hl) hc
  | @tups m _ _ _ q' =>
    obtain ⟨l1, vs, rfl, n1, p, l, r1⟩ := x.inv_tup
    obtain ⟨l2, us, rfl, n2, p', l', r2⟩ := y.inv_tup
    exact tups_all r1.length r2.length q' ▸ RcNeAt.tuples p.isTup p'.isTup hc (pairs_at (eqAt_rep m (A := A.in1) (by rw [Around.in1_units]; omega)) r1 r2 q')

/-! membership -/
def inL (q : D → D → Option Bool) (x : D) : List D → Option Bool
  | [] => some false
  | y :: ys => (q y x).bind fun a => (inL q x ys).bind fun b => some (a || b)
theorem inL_pair {q : D → D → Option Bool} {x : D} : ∀ {ys : List D} {r : Bool}, inL q x ys = some r → ∀ y ∈ ys, ∃ b, q y x = some b
  | y :: ys, r, e, z, hz => by
    simp only [inL, Option.bind_eq_some_iff, Option.some.injEq] at e
    obtain ⟨a, ha, b, hb, _⟩ := e
    rcases List.mem_cons.mp hz with rfl | hz
    · exact ⟨a, ha⟩
    · exact inL_pair hb z hz
open Classical in
/-- the look of a value: which answer its comparison with x gives -/
noncomputable def looked (prog : Program) (w : World) (h : Heap) (N : Addr → Prop) (q : D → D → Option Bool) (x : D) (v : Value) : Bool :=
  if ∃ d, Rep prog w h N v d ∧ q d x = some true then true else false
theorem notListTup {a : Addr} {vs us : Array Value} (p : h.PlainList a vs) (p' : PlainTup h a us) : False := by
  obtain ⟨n, e⟩ := p; obtain ⟨n', e'⟩ := p'; rw [e] at e'; simp at e'
theorem notListDict {a : Addr} {vs : Array Value} {kvs : List (Str × Value)} (p : h.PlainList a vs) (p' : h.DictOf (PySem.strKind prog w) a kvs) : False := by
  obtain ⟨n, e⟩ := p; obtain ⟨o, _, _, e', hc, _⟩ := p'; rw [e] at e'; cases e'; exact absurd hc.1 (by simp)
theorem notListRng {a : Addr} {vs : Array Value} {i j k : Int} {t u v : Tok} (p : h.PlainList a vs) (p' : IsRange h a i j k t u v) : False := by
  obtain ⟨n, e⟩ := p; unfold IsRange at p'; rw [e] at p'; simp at p'
theorem notTupDict {a : Addr} {vs : Array Value} {kvs : List (Str × Value)} (p : PlainTup h a vs) (p' : h.DictOf (PySem.strKind prog w) a kvs) : False := by
  obtain ⟨n, e⟩ := p; obtain ⟨o, _, _, e', hc, _⟩ := p'; rw [e] at e'; cases e'; exact absurd hc.1 (by simp)
theorem notTupRng {a : Addr} {vs : Array Value} {i j k : Int} {t u v : Tok} (p : PlainTup h a vs) (p' : IsRange h a i j k t u v) : False := by
  obtain ⟨n, e⟩ := p; unfold IsRange at p'; rw [e] at p'; simp at p'
theorem notDictRng {a : Addr} {kvs : List (Str × Value)} {i j k : Int} {t u v : Tok} (p : h.DictOf (PySem.strKind prog w) a kvs) (p' : IsRange h a i j k t u v) : False := by
  obtain ⟨o, _, _, e', hc, _⟩ := p; unfold IsRange at p'; rw [p'] at e'; cases e'; exact absurd hc.1 (by simp)
theorem Rep.unique {v : Value} {d e : D} (x : Rep prog w h N v d) (y : Rep prog w h N v e) : d = e :=
  Rep.rec (motive_1 := fun v d _ => ∀ e, Rep prog w h N v e → d = e) (motive_2 := fun v d _ => ∀ e, RepL prog w h N v e → d = e) (motive_3 := fun v d _ => ∀ e, RepE prog w h N v e → d = e)
    (fun e y => by cases y; rfl) (fun b e y => by cases y; rfl) (fun i t e y => by cases y; rfl) (fun x t q e y => by cases y; rfl)
    (fun n p l r ih e y => by
      cases y with
      | list _ p' _ r' => obtain rfl := plainList_inj p p'; rw [ih _ r']
      | tup _ p' _ r' => exact (notListTup p p').elim
      | dict _ _ p' _ r' => exact (notListDict p p').elim
      | rng _ p' => exact (notListRng p p').elim)
    (fun n p l r ih e y => by
      cases y with
      | tup _ p' _ r' => obtain rfl := plainTup_inj p p'; rw [ih _ r']
      | list _ p' _ r' => exact (notListTup p' p).elim
      | dict _ _ p' _ r' => exact (notTupDict p p').elim
      | rng _ p' => exact (notTupRng p p').elim)
    (fun n q p l r ih e y => by
      cases y with
      | tup _ p' _ r' => exact (notTupDict p' p).elim
      | list _ p' _ r' => exact (notListDict p' p).elim
      | rng _ p' => exact (notDictRng p p').elim
      | dict _ _ p' _ r' => obtain rfl := dictOf_inj p p'; rw [ih _ r'])
    (fun n p e y => by
      cases y with
      | tup _ p' _ r' => exact (notTupRng p' p).elim
      | list _ p' _ r' => exact (notListRng p' p).elim
      | rng _ p' => unfold IsRange at p p'; rw [p] at p'; cases p'; rfl
      | dict _ _ p' _ r' => exact (notDictRng p' p).elim)
    (fun e y => by cases y; rfl) (fun x r ihx ihr e y => by cases y with | cons y r' => rw [ihx _ y, ihr _ r'])
    (fun e y => by cases y; rfl) (fun q x r ihx ihr e y => by cases y with | cons _ y r' => rw [ihx _ y, ihr _ r']) x e y
theorem looked_eq {q : D → D → Option Bool} {x d : D} {v : Value} {b : Bool} (r : Rep prog w h N v d) (e : q d x = some b) : looked prog w h N q x v = b := by
  unfold looked
  cases b with
  | true => rw [if_pos ⟨d, r, e⟩]
  | false =>
    rw [if_neg]
    rintro ⟨d', r', e'⟩
    rw [Rep.unique r' r, e] at e'
    cases e'
theorem looked_any {q : D → D → Option Bool} {x : D} {vs : List Value} {ds : List D} {b : Bool} (r : RepL prog w h N vs ds) (e : inL q x ds = some b) : vs.any (looked prog w h N q x) = b := by
  induction vs generalizing ds b with
  | nil => cases r; cases e; rfl
  | cons v vs ih =>
    cases r with
    | cons r rs =>
      obtain ⟨a, ha, e⟩ := Option.bind_eq_some_iff.mp e
      obtain ⟨c, hc, e⟩ := Option.bind_eq_some_iff.mp e
      cases e
      rw [List.any_cons, looked_eq r ha, ih rs hc]
theorem looked_at {n : Nat} {x : D} {A : Around} {s : Shared} {vx : Value} (hu : A.units + n < cLine) (rx : Rep prog w s.heap N' vx x) {vs : List Value} {ds : List D} {b : Bool} (rs : RepL prog w s.heap N vs ds) (e : inL (eqD n) x ds = some b) :
    ∀ y, y ∈ vs.toArray → EqAt A s y vx (looked prog w s.heap N (eqD n) x y) := by
  intro y hy
  obtain ⟨i, hi⟩ := List.mem_iff_getElem?.mp (by simpa using hy)
  obtain ⟨d, hd, r⟩ := rs.getV hi
  obtain ⟨c, hc⟩ := inL_pair e d (List.mem_of_getElem? hd)
  rw [looked_eq r hc]
  exact eqAt_rep n hu r rx hc
end
end Mine

set_option autoImplicit false
open PySem PyProof.Rows
namespace Mine

section
variable {prog : Program} {w : World} {h h' : Heap} {N N' : Addr → Prop}
theorem plain_some {a : Addr} {vs : Array Value} (p : h.PlainList a vs) : ∃ o, h.get? a = some o := let ⟨_, e⟩ := p; ⟨_, e⟩
theorem tup_some {a : Addr} {vs : Array Value} (p : PlainTup h a vs) : ∃ o, h.get? a = some o := let ⟨_, e⟩ := p; ⟨_, e⟩
theorem dict_some {a : Addr} {kvs : List (Str × Value)} (p : h.DictOf (PySem.strKind prog w) a kvs) : ∃ o, h.get? a = some o := let ⟨o, _, _, e, _⟩ := p; ⟨o, e⟩
/-- the nodes of data lie in the heap -/
theorem Rep.ex {v : Value} {d : D} (x : Rep prog w h N v d) : Rep prog w h (fun a => N a ∧ ∃ o, h.get? a = some o) v d :=
  Rep.rec (motive_1 := fun v d _ => Rep prog w h (fun a => N a ∧ ∃ o, h.get? a = some o) v d) (motive_2 := fun v d _ => RepL prog w h (fun a => N a ∧ ∃ o, h.get? a = some o) v d) (motive_3 := fun v d _ => RepE prog w h (fun a => N a ∧ ∃ o, h.get? a = some o) v d)
    .none (fun b => .bool b) (fun i t => .int i t) (fun x t e => .str x t e) (fun n p l _ r => .list ⟨n, plain_some p⟩ p l r) (fun n p l _ r => .tup ⟨n, tup_some p⟩ p l r) (fun n e p l _ r => .dict ⟨n, dict_some p⟩ e p l r) (fun n p => .rng ⟨n, _, p⟩ p)
    .nil (fun _ _ x r => .cons x r) .nil (fun e _ _ x r => .cons e x r) x
theorem RepL.ex {v : List Value} {d : List D} (x : RepL prog w h N v d) : RepL prog w h (fun a => N a ∧ ∃ o, h.get? a = some o) v d := by
  induction v generalizing d with
  | nil => cases x; exact .nil
  | cons v vs ih => cases x with | cons a r => exact .cons a.ex (ih r)
theorem RepE.ex {v : List (Str × Value)} {d : List (Str × D)} (x : RepE prog w h N v d) : RepE prog w h (fun a => N a ∧ ∃ o, h.get? a = some o) v d := by
  induction v generalizing d with
  | nil => cases x; exact .nil
  | cons v vs ih => cases x with | cons e a r => exact .cons e a.ex (ih r)
theorem OwnL.of0 : ∀ {vs : List Value} {ds : List D}, RepL prog w h N vs ds → OwnL prog w h N 0 vs ds []
  | _, _, .nil => .nil
  | _, _, .cons x r => OwnL.cons (O := []) (.fz0 x) (OwnL.of0 r)
theorem OwnE.of0 : ∀ {vs : List (Str × Value)} {ds : List (Str × D)}, RepE prog w h N vs ds → OwnE prog w h N 0 vs ds []
  | _, _, .nil => .nil
  | _, _, .cons e x r => OwnE.cons (O := []) e (.fz0 x) (OwnE.of0 r)
/-- data carried to a later heap, away from a fresh address -/
theorem RepL.away {vs : List Value} {ds : List D} {a : Addr} (r : RepL prog w h N vs ds) (hfr : h.get? a = none) (k : ∀ b o, N b → h.get? b = some o → h'.get? b = some o) : RepL prog w h' (fun x => N x ∧ x ∉ [a]) vs ds :=
  r.ex.trans (fun x n => ⟨n.1, fun hm => by obtain ⟨o, e⟩ := n.2; rw [List.mem_singleton.mp hm, hfr] at e; cases e⟩) fun b o n e => k b o n.1 e
theorem RepE.away {vs : List (Str × Value)} {ds : List (Str × D)} {a : Addr} (r : RepE prog w h N vs ds) (hfr : h.get? a = none) (k : ∀ b o, N b → h.get? b = some o → h'.get? b = some o) : RepE prog w h' (fun x => N x ∧ x ∉ [a]) vs ds :=
  r.ex.trans (fun x n => ⟨n.1, fun hm => by obtain ⟨o, e⟩ := n.2; rw [List.mem_singleton.mp hm, hfr] at e; cases e⟩) fun b o n e => k b o n.1 e
end

section
variable {C : Cfg} {F : Fx} {hs h h' : Heap} {a : Addr} {vs : List Value} {ds : List D}
theorem own1_list (hfs : hs.get? a = none) (hfr : h.get? a = none) (p : h'.PlainList a vs.toArray) (l : vs.length ≤ sizeLine) (k : ∀ b o, ¬ F.vol b → h.get? b = some o → h'.get? b = some o) (r : RepLC C h (fun a => ¬ F.vol a) vs ds) :
    MkRep C F hs h' (.own 1) (.ref a) (.list ds) :=
  ⟨[a], .list p l (OwnL.of0 (r.away hfr k)), List.nodup_cons.mpr ⟨List.not_mem_nil, List.nodup_nil⟩, fun b hb => List.mem_singleton.mp hb ▸ hfs⟩
theorem own1_dict {kvs : List (Str × Value)} {kds : List (Str × D)} (hfs : hs.get? a = none) (hfr : h.get? a = none) (hm : (a == sysModules) = false) (p : h'.DictOf (PySem.strKind C.prog C.w) a kvs) (l : kvs.length ≤ sizeLine)
    (k : ∀ b o, ¬ F.vol b → h.get? b = some o → h'.get? b = some o) (r : RepE C.prog C.w h (fun a => ¬ F.vol a) kvs kds) : MkRep C F hs h' (.own 1) (.ref a) (.dict kds) :=
  ⟨[a], .dict hm p l (OwnE.of0 (r.away hfr k)), List.nodup_cons.mpr ⟨List.not_mem_nil, List.nodup_nil⟩, fun b hb => List.mem_singleton.mp hb ▸ hfs⟩
theorem MkRep.imm {N : Addr → Prop} {m : Mk} {v : Value} {d : D} {h₀ : Heap} (hi : d.imm = true) (x : RepC C h₀ N v d) : MkRep C F hs h m v d := by
  have hn : ∀ b, v ≠ .ref b := by intro b e; subst e; cases x <;> cases hi
  cases m with
  | fr => exact Rep.ofImm hi x
  | own k =>
    refine ⟨[], ?_, List.nodup_nil, fun _ ha => nomatch ha⟩
    cases k with
    | zero => exact .fz0 (Rep.ofImm hi x)
    | succ k => exact .fz (by cases d <;> first | rfl | cases hi) (Rep.ofImm hi x)
  | bor => exact ⟨[], .fz (by cases d <;> first | rfl | cases hi) (Rep.ofImm hi x), fun _ ha => nomatch ha⟩
  | unk => exact Rep.ofImm hi x
  | fu => exact ⟨Rep.ofImm hi x, fun b e => absurd e (hn b)⟩
end

/-! judgements -/
structure Sc where
  names : List (Str × NameKind)
  slots : List (Str × Nat)
structure EnvOK (Γ : Sc) (F : Fx) (env : Env) : Prop where
  kind : env.scope.kind = .function
  names : env.scope.names = Γ.names
  gl : env.globals = mainGlobals
  bl : env.builtins = builtinsNs
  slot : ∀ x i, Γ.slots.lookup x = some i → (F.locs[i]? = some (.ns env.locals x) ∧ Γ.names.lookup x = some .local) ∨ (∃ c, F.locs[i]? = some (.cell c) ∧ Γ.names.lookup x = some .cell ∧ env.cells.lookup x = some c)
structure Cx (C : Cfg) (Γ : Sc) (l : Nat) (A : Around) (F : Fx) (env : Env) (ρ : EEnv) (s : Shared) : Prop where
  room : Room A l
  env : EnvOK Γ F env
  rel : RelE C F s.heap ρ
  glob : GlobOK C s.heap
theorem Cx.ext {C : Cfg} {Γ : Sc} {l : Nat} {A : Around} {F : Fx} {env : Env} {ρ : EEnv} {s s' : Shared} (x : Cx C Γ l A F env ρ s) (e : Ext C s s') : Cx C Γ l A F env ρ s' := ⟨x.room, x.env, x.rel.ext e, x.glob.ext e⟩

abbrev Wp (C : Cfg) (A : Around) {α : Type} (t : Sem α) (Q : α → Shared → Prop) (s : Shared) : Prop := wpAny (model C.prog C.w) A t Q (fun _ _ => False) s

def EvOK (C : Cfg) (Γ : Sc) (l : Nat) (e : Expr) (f : EEnv → Option D) (m : EEnv → Mk) : Prop :=
  ∀ (A : Around) (F : Fx) (env : Env) (ρ : EEnv) (s : Shared) (d : D), Cx C Γ l A F env ρ s → f ρ = some d → Wp C A (eval e env) (fun v s' => Ext C s s' ∧ MkRep C F s.heap s'.heap (m ρ) v d) s
def BOK (C : Cfg) (Γ : Sc) (l : Nat) (e : Expr) (b : EEnv → Option Bool) : Prop :=
  ∀ (A : Around) (F : Fx) (env : Env) (ρ : EEnv) (s : Shared) (r : Bool), Cx C Γ l A F env ρ s → b ρ = some r → Wp C A (isTrue e env (eval e env)) (fun r' s' => Ext C s s' ∧ r' = r) s

section
variable {C : Cfg} {Γ : Sc} {l : Nat} {A : Around} {F : Fx} {env : Env} {ρ : EEnv} {s : Shared} {d : D} {e : Expr} {f : EEnv → Option D} {m : EEnv → Mk}
theorem EvOK.run (x : EvOK C Γ l e f m) (c : Cx C Γ l A F env ρ s) (fd : f ρ = some d) {Q : Value → Shared → Prop}
    (k : ∀ v s', Ext C s s' → Cx C Γ l A F env ρ s' → MkRep C F s.heap s'.heap (m ρ) v d → Q v s') : Wp C A (eval e env) Q s :=
  wpAny_mono (x A F env ρ s d c fd) (fun v s' h => k v s' h.1 (c.ext h.1) h.2) fun _ _ e => e
theorem BOK.run {b : EEnv → Option Bool} {r : Bool} (x : BOK C Γ l e b) (c : Cx C Γ l A F env ρ s) (fd : b ρ = some r) {Q : Bool → Shared → Prop}
    (k : ∀ s', Ext C s s' → Cx C Γ l A F env ρ s' → Q r s') : Wp C A (isTrue e env (eval e env)) Q s :=
  wpAny_mono (x A F env ρ s r c fd) (fun v s' h => h.2 ▸ k s' h.1 (c.ext h.1)) fun _ _ e => e
theorem Cx.weak (c : Cx C Γ l A F env ρ s) {s' : Shared} {mk : Mk} {v : Value} (_ : Ext C s s') (x : MkRep C F s.heap s'.heap mk v d) : RepC C s'.heap (fun a => ¬ F.volc a) v d := x.weak c.rel.hv c.rel.vc c.rel.newc
theorem Cx.notT (c : Cx C Γ l A F env ρ s) : ∀ a, ¬ F.volc a → ¬ C.T a := fun a n t => n (c.rel.vT a t)
theorem Cx.notT0 (c : Cx C Γ l A F env ρ s) : ∀ a, ¬ F.vol a → ¬ C.T a := fun a n t => n (c.rel.vc a (c.rel.vT a t))

/-! names -/
def nameF (i : Nat) : EEnv → Option D := fun ρ => match ρ[i]? with | some (some (d, _)) => some d | _ => none
def nameM (i : Nat) : EEnv → Mk := fun ρ => match ρ[i]? with | some (some (_, m)) => m.sl | _ => .unk
theorem name_ok {x : Str} {p : Pos} {i : Nat} (hi : Γ.slots.lookup x = some i) (hd : (x == ("__debug__" : Str)) = false) : EvOK C Γ l (.Name x p) (nameF i) (nameM i) := by
  intro A F env ρ s d c fd
  unfold nameF at fd
  split at fd
  · rename_i d' m' hr
    cases fd
    obtain ⟨lc, v, h1, h2, h3⟩ := c.rel.slot i _ _ hr
    have hm : nameM i ρ = m'.sl := by unfold nameM; rw [hr]
    rw [hm]
    refine wpAny_Name ?_ hd
    rcases c.env.slot x i hi with ⟨q, nk⟩ | ⟨cc, q, nk, ck⟩
    · rw [q] at h1; cases h1
      obtain ⟨mm, hn, hv⟩ := h2
      exact wpAny_loadName_local c.env.kind (by unfold Env.kindOf; rw [c.env.names]; exact nk) hn hv ⟨Ext.refl C s, h3⟩
    · rw [q] at h1; cases h1
      exact wpAny_loadName_cell c.env.kind (by unfold Env.kindOf; rw [c.env.names]; exact nk) ck h2 ⟨Ext.refl C s, h3⟩
  · cases fd

/-- a constant of the module's top -/
def GC (C : Cfg) (x : Str) (d : D) : Prop := ∃ v, C.mg x = some v ∧ ∀ h : Heap, (∀ a o, C.K.lookup a = some o → h.get? a = some o) → RepC C h (fun a => ∃ o, C.K.lookup a = some o) v d
theorem gconst_ok {x : Str} {p : Pos} (hg : GC C x d) (hk : Γ.names.lookup x = some .globalImplicit) (hd : (x == ("__debug__" : Str)) = false) : EvOK C Γ l (.Name x p) (fun _ => some d) (fun _ => .fr) := by
  intro A F env ρ s d' c fd
  cases fd
  obtain ⟨v, hv, hr⟩ := hg
  refine Calls.Name_function_global c.env.kind (by unfold Env.kindOf; rw [c.env.names]; exact hk) (Calls.loadGlobal_global (by rw [c.env.gl]; exact c.glob.g) hv ⟨Ext.refl C s, ?_⟩) hd
  exact (hr _ c.glob.inK).trans (fun a ⟨o, n⟩ => c.rel.vK a o n) fun _ _ _ e => e
/-- a built-in of that name -/
theorem builtin_name {x : Str} {p : Pos} {v : Value} {Q : Value → Shared → Prop} (c : Cx C Γ l A F env ρ s) (hk : Γ.names.lookup x = some .globalImplicit) (hm : C.mg x = none) (hb : bootBuiltins x = some v) (hn : x ≠ "__name__")
    (hd : (x == ("__debug__" : Str)) = false) (h : Q v s) : Wp C A (eval (.Name x p) env) Q s :=
  Calls.Name_function_global c.env.kind (by unfold Env.kindOf; rw [c.env.names]; exact hk) (Calls.loadGlobal_builtin (by rw [c.env.gl]; exact c.glob.g) hm (by rw [c.env.bl]; exact c.glob.b) ((c.glob.bi x hn).trans hb) h) hd
theorem global_name {x : Str} {p : Pos} {v : Value} {Q : Value → Shared → Prop} (c : Cx C Γ l A F env ρ s) (hk : Γ.names.lookup x = some .globalImplicit) (hm : C.mg x = some v)
    (hd : (x == ("__debug__" : Str)) = false) (h : Q v s) : Wp C A (eval (.Name x p) env) Q s :=
  Calls.Name_function_global c.env.kind (by unfold Env.kindOf; rw [c.env.names]; exact hk) (Calls.loadGlobal_global (by rw [c.env.gl]; exact c.glob.g) hm h) hd

/-! literals -/
theorem tok_ext {s : Shared} {n : Nat} : Ext C s { s with toks := n } := Ext.of (h' := s.heap) fun _ _ e => e
theorem int_ok (i : Int) {k : Nat} {p : Pos} : EvOK C Γ l (.Constant (.int i) k p) (fun _ => some (.int i)) (fun _ => .fr) := fun A F env ρ s d c fd => by
  cases fd; exact wpAny_Constant_int ⟨tok_ext, .int _ _⟩
theorem bool_ok (b : Bool) {k : Nat} {p : Pos} : EvOK C Γ l (.Constant (.bool b) k p) (fun _ => some (.bool b)) (fun _ => .fr) := fun A F env ρ s d c fd => by
  cases fd; exact wpAny_Constant_bool ⟨Ext.refl C s, .bool _⟩
end
end Mine

set_option autoImplicit false
open PySem PyProof.Rows
namespace Mine
set_option linter.unusedVariables false

theorem fresh_size (h : Heap) : h.get? h.objs.size = none := by
  cases e : h.get? h.objs.size with
  | none => rfl
  | some o => exact absurd (Heap.lt_size e) (Nat.lt_irrefl _)
theorem push_keeps {h : Heap} {o : Obj} : ∀ b x, h.get? b = some x → (h.push o).get? b = some x := fun b x e => Heap.get?_push_of_some _ e
theorem push_ext {C : Cfg} {s : Shared} {o : Obj} {n : Nat} : Ext C s { s with heap := s.heap.push o, toks := n } := Ext.of push_keeps
theorem push_ext' {C : Cfg} {s : Shared} {o : Obj} : Ext C s { s with heap := s.heap.push o } := Ext.of (tk := s.toks) push_keeps
theorem push_plain (h : Heap) (vs : List Value) : (h.push { cls := .type "list", data := .seq vs.toArray }).PlainList h.objs.size vs.toArray := ⟨0, Heap.get?_push_size _ rfl⟩
theorem push_tup (h : Heap) (vs : List Value) : PlainTup (h.push { cls := .type "tuple", data := .seq vs.toArray }) h.objs.size vs.toArray := ⟨0, Heap.get?_push_size _ rfl⟩

section
variable {prog : Program} {w : World} {A : Around} {E : Value → Shared → Prop} {s : Shared}
theorem add_raw {l b : Addr} {vs ws : List Value} {Q : Value → Shared → Prop} (hl : s.heap.PlainList l vs.toArray) (hb : s.heap.PlainList b ws.toArray)
    (h : Q (.ref s.heap.objs.size) { s with heap := s.heap.push { cls := .type "list", data := .seq (vs ++ ws).toArray } })
    (hsz : vs.length + ws.length ≤ sizeLine) : wpAny (model prog w) A (binaryOp .Add (.ref l) (.ref b)) Q E s := by
  obtain ⟨n, ho⟩ := hl
  obtain ⟨n2, ho2⟩ := hb
  have e : vs.toArray ++ ws.toArray = (vs ++ ws).toArray := by simp
  refine concat_meets ⟨_, ho, rfl⟩ ⟨_, ho2, rfl⟩ noFill_list_add seq_list_add PySem.F.slot_list_add PySem.F.entry_list_add (PySem.F.args_list_add_2 _ _) (list_addW l b vs.toArray ws.toArray n n2 none none #[] #[] (by simpa using hsz)) ⟨ho, ho2, ?_⟩
  rw [e]
  exact h
theorem mul_raw {l : Addr} {vs : List Value} {x : Int} {u : Tok} {Q : Value → Shared → Prop} (hl : s.heap.PlainList l vs.toArray) (h0 : 0 ≤ x) (hhi : x < 2 ^ 20) (hsz : vs.length * x.toNat ≤ 2 ^ 24)
    (h : Q (.ref s.heap.objs.size) { s with heap := s.heap.push { cls := .type "list", data := .seq (List.replicate x.toNat vs).flatten.toArray } }) : wpAny (model prog w) A (binaryOp .Mult (.ref l) (.int x u)) Q E s := by
  obtain ⟨n, ho⟩ := hl
  have e : ∀ (k : Nat) (b : List Value), List.foldl (fun x1 x2 => x1 ++ x2) b.toArray (List.replicate k vs.toArray) = (b ++ (List.replicate k vs).flatten).toArray := by
    intro k
    induction k with
    | zero => intro b; simp
    | succ k ih =>
      intro b
      rw [List.replicate_succ, List.foldl_cons, List.replicate_succ, List.flatten_cons, ← List.append_assoc]
      have : b.toArray ++ vs.toArray = (b ++ vs).toArray := by simp
      rw [this, ih]
  have e2 : List.foldl (fun x1 x2 => x1 ++ x2) #[] (List.replicate (if vs.toArray.isEmpty = true then 0 else x.toNat) vs.toArray) = (List.replicate x.toNat vs).flatten.toArray := by
    have := e (if vs.toArray.isEmpty = true then 0 else x.toNat) []
    rw [show (#[] : Array Value) = ([] : List Value).toArray from rfl, this]
    cases vs with
    | nil => simp
    | cons v vs => simp
  have h1 : vs.toArray.size * x.toNat = vs.length * x.toNat := by rw [List.size_toArray]
  have g1 : ¬ vs.toArray.size * x.toNat > (2 ^ 63 - 1) / 8 := by rw [h1]; omega
  have g2 : Builtin.List.listTooLong (vs.toArray.size * x.toNat) = false := by rw [h1]; simp [Builtin.List.listTooLong, sizeLine]; omega
  have g3 : Builtin.List.listFitsIndex x = true := by simp [Builtin.List.listFitsIndex]; omega
  refine wpAny_binaryOp_repeat_ref (T := "list") (U := "int") (by decide) ⟨_, ho, rfl⟩ (fun s' => typeIs_int s' x u) noFill_list_mul PySem.F.fills_int_mul PySem.F.slot_int_rmul repeat_list PySem.F.slot_int_index.lookup
    (call_meets PySem.F.slot_int_rmul (typeIs_int s x u) PySem.F.entry_int_rmul (PySem.F.args_int_rmul_2 _ _) (int___rmul___int_list x u l vs.toArray n)
      ⟨ho, rfl, ⟨_, ho, rfl⟩, call_meets PySem.F.slot_list_mul ⟨_, ho, rfl⟩ PySem.F.entry_list_mul (PySem.F.args_list_mul_2 _ _)
        (AutoListH.list___mul___list_int_3 l vs.toArray n x u (by simpa using g3) g1 (by simpa using g2)) ⟨ho, ?_⟩⟩)
  rw [e2]
  exact h
end

def lim : Nat := 100000
theorem lim_le : lim ≤ sizeLine := by unfold lim sizeLine; decide

theorem OwnL.zero {prog : Program} {w : World} {h : Heap} {N : Addr → Prop} : ∀ {vs : List Value} {ds : List D} {O : List Addr}, OwnL prog w h N 0 vs ds O → RepL prog w h N vs ds
  | _, _, _, .nil => .nil
  | _, _, _, .cons (.fz0 x) r => .cons x (OwnL.zero r)
theorem OwnE.zero {prog : Program} {w : World} {h : Heap} {N : Addr → Prop} : ∀ {vs : List (Str × Value)} {ds : List (Str × D)} {O : List Addr}, OwnE prog w h N 0 vs ds O → RepE prog w h N vs ds
  | _, _, _, .nil => .nil
  | _, _, _, .cons e (.fz0 x) r => .cons e x (OwnE.zero r)

/-! operators -/
def addD : D → D → Option D
  | .int a, .int b => some (.int (a + b))
  | .str a, .str b => if (a ++ b).length ≤ lim then some (.str (a ++ b)) else none
  | .list a, .list b => if a.length + b.length ≤ lim then some (.list (a ++ b)) else none
  | _, _ => none
def subD : D → D → Option D
  | .int a, .int b => some (.int (a - b))
  | _, _ => none
def modD : D → D → Option D
  | .int a, .int b => if b = 0 then none else some (.int (a.fmod b))
  | _, _ => none
def divD : D → D → Option D
  | .int a, .int b => if b = 0 ∨ 1000 < b.natAbs then none else some (.int (a.fdiv b))
  | _, _ => none
def mulD : D → D → Option D
  | .int a, .int b => if a.natAbs ≤ lim ∧ b.natAbs ≤ lim then some (.int (a * b)) else none
  | .list a, .int b => if 0 ≤ b ∧ b ≤ 1000 ∧ a.length ≤ 1000 then some (.list (List.replicate b.toNat a).flatten) else none
  | _, _ => none

def bin (g : D → D → Option D) (f₁ f₂ : EEnv → Option D) : EEnv → Option D := fun ρ => (f₁ ρ).bind fun a => (f₂ ρ).bind fun b => g a b
/-- a fresh container made out of the operands' items -/
def Mk.cat (m : Mk) : Bool := match m with | .fr | .own _ | .bor => true | _ => false
def catM (m₁ m₂ : EEnv → Mk) : EEnv → Mk := fun ρ => if (m₁ ρ).cat && (m₂ ρ).cat then .own 1 else .fu
def copyM (m₁ : EEnv → Mk) : EEnv → Mk := fun ρ => if (m₁ ρ).cat then .own 1 else .fu

section
variable {C : Cfg} {Γ : Sc} {l : Nat} {A : Around} {F : Fx} {env : Env} {ρ : EEnv} {s : Shared} {d : D} {e e₁ e₂ : Expr} {f f₁ f₂ : EEnv → Option D} {m m₁ m₂ : EEnv → Mk}

/-- the items of a list whose root may be a slot's own -/
theorem MkRep.items {hs h : Heap} {mk : Mk} {v : Value} {ds : List D} (hv : ∀ a, F.vol a → ∃ o, hs.get? a = some o) (hc : mk.cat = true) (x : MkRep C F hs h mk v (.list ds)) :
    ∃ a vs, v = .ref a ∧ h.PlainList a vs.toArray ∧ vs.length ≤ sizeLine ∧ RepLC C h (fun a => ¬ F.vol a) vs ds := by
  cases mk with
  | fr => obtain ⟨_, _, rfl, n, p, l, r⟩ := Rep.inv_list x; exact ⟨_, _, rfl, p, l, r⟩
  | own k =>
    obtain ⟨O, t, _, f⟩ := x
    cases t with
    | fz0 r => obtain ⟨_, _, rfl, n, p, l, r⟩ := r.inv_list; exact ⟨_, _, rfl, p, l, r.trans (fun _ n => n.1) fun _ _ _ e => e⟩
    | fz c r => cases c
    | list p l r => exact ⟨_, _, rfl, p, l, r.rep (fun _ n => n.1) fun a ha => fresh_not_vol hv (f a (.tail _ ha))⟩
  | bor =>
    obtain ⟨O, t, f⟩ := x
    cases t with
    | fz c r => cases c
    | list p l r =>
      exact ⟨_, _, rfl, p, l, OwnL.zero r⟩
  | unk => cases hc
  | fu => cases hc
theorem Cx.fresh_vol (c : Cx C Γ l A F env ρ s) {a : Addr} (e : s.heap.get? a = none) : ¬ F.vol a := fresh_not_vol c.rel.hv e
theorem Cx.vol_later (c : Cx C Γ l A F env ρ s) {s' : Shared} (e : Ext C s s') : ∀ a, F.vol a → ∃ o, s'.heap.get? a = some o := fun a q => let ⟨o, x⟩ := c.rel.hv a q; e.dom a o x

theorem modD_inv {a b d : D} (h : modD a b = some d) : ∃ x y : Int, a = .int x ∧ b = .int y ∧ y ≠ 0 ∧ d = .int (x.fmod y) := by
  unfold modD at h; split at h
  · split at h
    · cases h
    · rename_i q; cases h; exact ⟨_, _, rfl, rfl, q, rfl⟩
  · cases h
theorem divD_inv {a b d : D} (h : divD a b = some d) : ∃ x y : Int, a = .int x ∧ b = .int y ∧ ¬ (y = 0 ∨ 1000 < y.natAbs) ∧ d = .int (x.fdiv y) := by
  unfold divD at h; split at h
  · split at h
    · cases h
    · rename_i q; cases h; exact ⟨_, _, rfl, rfl, q, rfl⟩
  · cases h
theorem addD_inv {a b d : D} (h : addD a b = some d) : (∃ x y : Int, a = .int x ∧ b = .int y ∧ d = .int (x + y)) ∨ (∃ x y : Str, a = .str x ∧ b = .str y ∧ (x ++ y).length ≤ lim ∧ d = .str (x ++ y)) ∨ (∃ x y : List D, a = .list x ∧ b = .list y ∧ x.length + y.length ≤ lim ∧ d = .list (x ++ y)) := by
  unfold addD at h; split at h
  · cases h; exact .inl ⟨_, _, rfl, rfl, rfl⟩
  · split at h
    · rename_i q; cases h; exact .inr (.inl ⟨_, _, rfl, rfl, q, rfl⟩)
    · cases h
  · split at h
    · rename_i q; cases h; exact .inr (.inr ⟨_, _, rfl, rfl, q, rfl⟩)
    · cases h
  · cases h
theorem mulD_inv {a b d : D} (h : mulD a b = some d) : (∃ x y : Int, a = .int x ∧ b = .int y ∧ (x.natAbs ≤ lim ∧ y.natAbs ≤ lim) ∧ d = .int (x * y)) ∨ (∃ (x : List D) (y : Int), a = .list x ∧ b = .int y ∧ (0 ≤ y ∧ y ≤ 1000 ∧ x.length ≤ 1000) ∧ d = .list (List.replicate y.toNat x).flatten) := by
  unfold mulD at h; split at h
  · split at h
    · rename_i q; cases h; exact .inl ⟨_, _, rfl, rfl, q, rfl⟩
    · cases h
  · split at h
    · rename_i q; cases h; exact .inr ⟨_, _, rfl, rfl, q, rfl⟩
    · cases h
  · cases h
theorem mod_ok {p : Pos} (x₁ : EvOK C Γ l e₁ f₁ m₁) (x₂ : EvOK C Γ l e₂ f₂ m₂) : EvOK C Γ l (.BinOp e₁ .Mod e₂ p) (bin modD f₁ f₂) (fun _ => .fr) := by
  intro A F env ρ s d c fd
  obtain ⟨d₁, h₁, fd⟩ := Option.bind_eq_some_iff.mp fd
  obtain ⟨d₂, h₂, fd⟩ := Option.bind_eq_some_iff.mp fd
  refine wpAny_BinOp (x₁.run c h₁ fun v₁ s₁ e₁ c₁ r₁ => x₂.run c₁ h₂ fun v₂ s₂ e₂ c₂ r₂ => ?_)
  have w₁ := c.weak e₁ r₁
  have w₂ := c₁.weak e₂ r₂
  obtain ⟨_, _, rfl, rfl, q, rfl⟩ := modD_inv fd
  obtain ⟨_, rfl⟩ := w₁.inv_int
  obtain ⟨_, rfl⟩ := w₂.inv_int
  exact mod_int' q ⟨(e₁.trans e₂).trans tok_ext, .int _ _⟩
theorem div_ok {p : Pos} (x₁ : EvOK C Γ l e₁ f₁ m₁) (x₂ : EvOK C Γ l e₂ f₂ m₂) : EvOK C Γ l (.BinOp e₁ .FloorDiv e₂ p) (bin divD f₁ f₂) (fun _ => .fr) := by
  intro A F env ρ s d c fd
  obtain ⟨d₁, h₁, fd⟩ := Option.bind_eq_some_iff.mp fd
  obtain ⟨d₂, h₂, fd⟩ := Option.bind_eq_some_iff.mp fd
  refine wpAny_BinOp (x₁.run c h₁ fun v₁ s₁ e₁ c₁ r₁ => x₂.run c₁ h₂ fun v₂ s₂ e₂ c₂ r₂ => ?_)
  have w₁ := c.weak e₁ r₁
  have w₂ := c₁.weak e₂ r₂
  obtain ⟨i, j, rfl, rfl, hb, rfl⟩ := divD_inv fd
  obtain ⟨_, rfl⟩ := w₁.inv_int
  obtain ⟨_, rfl⟩ := w₂.inv_int
  refine floordiv_int (fun h => hb (.inl h)) ⟨(e₁.trans e₂).trans tok_ext, .int _ _⟩ (.inl ?_)
  have hb' := Nat.le_of_not_lt fun h => hb (.inr h)
  have := Nat.log2_le_self j.natAbs
  unfold Builtin.divisionGoesByPylong
  rw [Bool.and_eq_false_iff]
  left
  simp only [decide_eq_false_iff_not]
  split <;> omega
theorem add_ok {p : Pos} (x₁ : EvOK C Γ l e₁ f₁ m₁) (x₂ : EvOK C Γ l e₂ f₂ m₂) : EvOK C Γ l (.BinOp e₁ .Add e₂ p) (bin addD f₁ f₂) (catM m₁ m₂) := by
  intro A F env ρ s d c fd
  obtain ⟨d₁, h₁, fd⟩ := Option.bind_eq_some_iff.mp fd
  obtain ⟨d₂, h₂, fd⟩ := Option.bind_eq_some_iff.mp fd
  refine wpAny_BinOp (x₁.run c h₁ fun v₁ s₁ e₁ c₁ r₁ => x₂.run c₁ h₂ fun v₂ s₂ e₂ c₂ r₂ => ?_)
  have w₁ := c.weak e₁ r₁
  have w₂ := c₁.weak e₂ r₂
  rcases addD_inv fd with ⟨_, _, rfl, rfl, rfl⟩ | ⟨a, b, rfl, rfl, hlen, rfl⟩ | ⟨a, b, rfl, rfl, hlen, rfl⟩
  · obtain ⟨_, rfl⟩ := w₁.inv_int
    obtain ⟨_, rfl⟩ := w₂.inv_int
    exact add_int ⟨(e₁.trans e₂).trans tok_ext, MkRep.imm (N := fun _ => True) (h₀ := s.heap) rfl (.int _ _)⟩
  · obtain ⟨t, rfl, k₁⟩ := w₁.inv_str
    obtain ⟨u, rfl, k₂⟩ := w₂.inv_str
    have hok : PyData.strOk (a ++ b) = true := by
      unfold PyData.strOk at *
      show (a.cps ++ b.cps).all _ = true
      rw [Array.all_append, k₁, k₂]; rfl
    have hl : a.length + b.length ≤ lim := by rw [← Str.length_append]; exact hlen
    exact add_str (fun t' tk => ⟨(e₁.trans e₂).trans tok_ext, MkRep.imm (N := fun _ => True) (h₀ := s.heap) rfl (.str _ _ hok)⟩) (Nat.le_trans hl lim_le)
  · obtain ⟨a₁, vs, rfl, n₁, p₁, l₁, rr₁⟩ := w₁.inv_list
    obtain ⟨a₂, us, rfl, n₂, p₂, l₂, rr₂⟩ := w₂.inv_list
    have k₁ : s₂.heap.PlainList a₁ vs.toArray := p₁.at fun o => e₂.keep _ o (c.notT _ n₁)
    have hl2 : vs.length + us.length ≤ lim := by rw [rr₁.length, rr₂.length]; exact hlen
    refine add_raw k₁ p₂ ⟨(e₁.trans e₂).trans push_ext', ?_⟩ (Nat.le_trans hl2 lim_le)
    have hsz : (vs ++ us).length ≤ sizeLine := by rw [List.length_append]; exact Nat.le_trans hl2 lim_le
    have hfs : s.heap.get? s₂.heap.objs.size = none := (e₁.trans e₂).none (fresh_size _)
    show MkRep C F s.heap _ (if (m₁ ρ).cat && (m₂ ρ).cat then .own 1 else .fu) _ _
    split
    · rename_i hcat
      obtain ⟨hc1, hc2⟩ := Bool.and_eq_true_iff.mp hcat
      obtain ⟨a₁', vs', ea, pa, _, ra⟩ := r₁.items c.rel.hv hc1
      cases ea
      obtain rfl := plainList_inj p₁ pa
      obtain ⟨a₂', us', eb, pb, _, rb⟩ := r₂.items c₁.rel.hv hc2
      cases eb
      obtain rfl := plainList_inj p₂ pb
      exact own1_list hfs (fresh_size _) (push_plain _ _) hsz (fun b o _ e => push_keeps b o e) ((ra.trans (fun _ n => n) fun b o n e => e₂.keep b o (c.notT0 b n) e).append rb)
    · refine ⟨.list (fun q => c₂.fresh_vol (fresh_size _) (c.rel.vc _ q)) (push_plain _ _) hsz ?_, fun a e => by cases e; exact hfs⟩
      exact (((rr₁.trans (fun _ n => n) fun b o n e => e₂.keep b o (c.notT b n) e).append rr₂)).trans (fun _ n => n) fun b o n e => push_keeps b o e
theorem mul_ok {p : Pos} (x₁ : EvOK C Γ l e₁ f₁ m₁) (x₂ : EvOK C Γ l e₂ f₂ m₂) : EvOK C Γ l (.BinOp e₁ .Mult e₂ p) (bin mulD f₁ f₂) (copyM m₁) := by
  intro A F env ρ s d c fd
  obtain ⟨d₁, h₁, fd⟩ := Option.bind_eq_some_iff.mp fd
  obtain ⟨d₂, h₂, fd⟩ := Option.bind_eq_some_iff.mp fd
  refine wpAny_BinOp (x₁.run c h₁ fun v₁ s₁ e₁ c₁ r₁ => x₂.run c₁ h₂ fun v₂ s₂ e₂ c₂ r₂ => ?_)
  have w₁ := c.weak e₁ r₁
  have w₂ := c₁.weak e₂ r₂
  rcases mulD_inv fd with ⟨_, _, rfl, rfl, hb, rfl⟩ | ⟨a, x, rfl, rfl, hx, rfl⟩
  · obtain ⟨_, rfl⟩ := w₁.inv_int
    obtain ⟨_, rfl⟩ := w₂.inv_int
    exact mul_int ⟨(e₁.trans e₂).trans tok_ext, MkRep.imm (N := fun _ => True) (h₀ := s.heap) rfl (.int _ _)⟩ (IntMulOk.of_left (intBits_le_64 (by unfold lim at hb; omega) (by unfold lim at hb; omega)))
  · obtain ⟨u, rfl⟩ := w₂.inv_int
    obtain ⟨a₁, vs, rfl, n₁, p₁, l₁, rr₁⟩ := w₁.inv_list
    · skip
      have k₁ : s₂.heap.PlainList a₁ vs.toArray := p₁.at fun o => e₂.keep _ o (c.notT _ n₁)
      have hvl : vs.length ≤ 1000 := by rw [rr₁.length]; exact hx.2.2
      have hxn : x.toNat ≤ 1000 := by omega
      have hml : vs.length * x.toNat ≤ 1000000 := by
        calc vs.length * x.toNat ≤ 1000 * 1000 := Nat.mul_le_mul hvl hxn
          _ = 1000000 := rfl
      have hlen : (List.replicate x.toNat vs).flatten.length ≤ sizeLine := by
        have : (List.replicate x.toNat vs).flatten.length = x.toNat * vs.length := by simp
        rw [this, Nat.mul_comm]
        exact Nat.le_trans hml (by unfold sizeLine; decide)
      have hrep : ∀ {N : Addr → Prop} {h : Heap}, RepLC C h N vs a → RepLC C h N (List.replicate x.toNat vs).flatten (List.replicate x.toNat a).flatten := by
        intro N h r
        generalize x.toNat = k
        induction k with
        | zero => exact .nil
        | succ k ih => rw [List.replicate_succ, List.replicate_succ, List.flatten_cons, List.flatten_cons]; exact r.append ih
      refine mul_raw k₁ hx.1 (by omega) (Nat.le_trans hml (by decide)) ⟨(e₁.trans e₂).trans push_ext', ?_⟩
      have hfs : s.heap.get? s₂.heap.objs.size = none := (e₁.trans e₂).none (fresh_size _)
      show MkRep C F s.heap _ (if (m₁ ρ).cat then .own 1 else .fu) _ _
      split
      · rename_i hc1
        obtain ⟨a₁', vs', ea, pa, _, ra⟩ := r₁.items c.rel.hv hc1
        cases ea
        obtain rfl := plainList_inj p₁ pa
        exact own1_list hfs (fresh_size _) (push_plain _ _) hlen (fun b o _ e => push_keeps b o e) (hrep (ra.trans (fun _ n => n) fun b o n e => e₂.keep b o (c.notT0 b n) e))
      · refine ⟨.list (fun q => c₂.fresh_vol (fresh_size _) (c.rel.vc _ q)) (push_plain _ _) hlen ?_, fun a e => by cases e; exact hfs⟩
        exact (hrep (rr₁.trans (fun _ n => n) fun b o n e => e₂.keep b o (c.notT b n) e)).trans (fun _ n => n) fun b o n e => push_keeps b o e
end
end Mine

set_option autoImplicit false
open PySem PyProof.Rows
namespace Mine
set_option linter.unusedVariables false

/-! comparisons -/
def CmpOK (C : Cfg) (op : CmpOp) (g : D → D → Option Bool) : Prop := ∀ (A : Around) (l : Nat) (s : Shared) (a b : Value) (d₁ d₂ : D) (r : Bool) (N₁ N₂ : Addr → Prop),
  Room A l → RepC C s.heap N₁ a d₁ → RepC C s.heap N₂ b d₂ → g d₁ d₂ = some r → Wp C A (compareOp op a b) (fun v s' => Ext C s s' ∧ v = .bool r) s
def cmpB (g : D → D → Option Bool) (f₁ f₂ : EEnv → Option D) : EEnv → Option Bool := fun ρ => (f₁ ρ).bind fun a => (f₂ ρ).bind fun b => g a b
def boolF (b : EEnv → Option Bool) : EEnv → Option D := fun ρ => (b ρ).map D.bool

def ltD : D → D → Option Bool
  | .int a, .int b => some (decide (a < b))
  | _, _ => none
def inD (x : D) : D → Option Bool
  | .list ys => inL (eqD 40) x ys
  | .tup ys => inL (eqD 40) x ys
  | .dict kvs => match x with | .str k => some (kvs.lookup k).isSome | _ => none
  | _ => none
def notO (g : D → D → Option Bool) : D → D → Option Bool := fun a b => (g a b).map (!·)

section
variable {prog : Program} {w : World} {h : Heap} {N : Addr → Prop}
theorem RepE.lookup {kvs : List (Str × Value)} {kds : List (Str × D)} (r : RepE prog w h N kvs kds) (k : Str) :
    (valueAt kvs k = none ∧ kds.lookup k = none) ∨ ∃ v d, valueAt kvs k = some v ∧ kds.lookup k = some d ∧ Rep prog w h N v d := by
  induction kvs generalizing kds with
  | nil => cases r; exact .inl ⟨rfl, rfl⟩
  | cons kv kvs ih =>
    cases r with
    | @cons x v _ d kds e y r =>
      rw [List.lookup_cons]
      by_cases hk : k = x
      · subst hk
        refine .inr ⟨v, d, ?_, by simp, y⟩
        simp [valueAt]
      · have h1 : (k == x) = false := by simpa using hk
        have h2 : ¬ x = k := fun q => hk q.symm
        have h3 : valueAt ((x, v) :: kvs) k = valueAt kvs k := by simp [valueAt, h2]
        rw [h1, h3]
        exact ih r
end

section
variable {C : Cfg}
theorem Room.u {A : Around} {l : Nat} (r : Room A l) : A.units + 200 < cLine := by have := r.2.2; omega
theorem ne_cmp : CmpOK C .NotEq (notO (eqD 40)) := fun A l s a b d₁ d₂ r N₁ N₂ R x y q => by
  obtain ⟨r', q', rfl⟩ := Option.map_eq_some_iff.mp q; clear q; have q := q'; clear q'
  have := R.u
  exact rcNeAt_rep 40 (by omega) x y q C.prog C.w _ _ ⟨Ext.refl C s, rfl⟩
theorem ltD_inv {a b : D} {r : Bool} (h : ltD a b = some r) : ∃ x y : Int, a = .int x ∧ b = .int y ∧ r = decide (x < y) := by
  unfold ltD at h; split at h
  · cases h; exact ⟨_, _, rfl, rfl, rfl⟩
  · cases h
theorem lt_cmp : CmpOK C .Lt ltD := fun A l s a b d₁ d₂ r N₁ N₂ R x y q => by
  obtain ⟨_, _, rfl, rfl, rfl⟩ := ltD_inv q
  obtain ⟨_, rfl⟩ := x.inv_int
  obtain ⟨_, rfl⟩ := y.inv_int
  exact lt_int ⟨Ext.refl C s, rfl⟩
theorem inDict_inv {x : D} {kvs : List (Str × D)} {r : Bool} (h : inD x (.dict kvs) = some r) : ∃ k, x = .str k ∧ r = (kvs.lookup k).isSome := by
  simp only [inD] at h
  split at h
  · cases h; exact ⟨_, rfl, rfl⟩
  · cases h
theorem in_cmp : CmpOK C .In inD := fun A l s a b d₁ d₂ r N₁ N₂ R x y q => by
  have hu := R.u
  cases y with
  | list n p l r2 =>
    simp only [inD] at q
    refine SeqAt.in_listAt _ p.isList (looked_at (n := 40) (by show A.units + 1 + 40 < cLine; omega) x r2 q) ⟨Ext.refl C s, ?_⟩
    rw [← looked_any r2 q]; simp
  | tup n p l r2 =>
    simp only [inD] at q
    refine SeqAt.in_tupleAt _ p.isTup (looked_at (n := 40) (by show A.units + 1 + 40 < cLine; omega) x r2 q) ⟨Ext.refl C s, ?_⟩
    rw [← looked_any r2 q]; simp
  | dict n e p l r2 =>
    obtain ⟨k, rfl, rfl⟩ := inDict_inv q
    obtain ⟨_, rfl, _⟩ := x.inv_str
    refine wpAny_in_of (strKind_is _ _ _ _) e p.mapOf ⟨tok_ext, ?_⟩
    rcases r2.lookup _ with ⟨h1, h2⟩ | ⟨v, d, h1, h2, _⟩ <;> rw [h1, h2] <;> rfl
  | _ => simp only [inD, reduceCtorEq] at q
theorem notIn_cmp : CmpOK C .NotIn (notO inD) := fun A l s a b d₁ d₂ r N₁ N₂ R x y q => by
  obtain ⟨r', q', rfl⟩ := Option.map_eq_some_iff.mp q; clear q; have q := q'; clear q'
  have hu := R.u
  cases y with
  | list n p l r2 =>
    simp only [inD] at q
    refine SeqAt.notIn_listAt _ p.isList (looked_at (n := 40) (by show A.units + 1 + 40 < cLine; omega) x r2 q) ⟨Ext.refl C s, ?_⟩
    rw [← looked_any r2 q]; simp
  | tup n p l r2 =>
    simp only [inD] at q
    refine SeqAt.notIn_tupleAt _ p.isTup (looked_at (n := 40) (by show A.units + 1 + 40 < cLine; omega) x r2 q) ⟨Ext.refl C s, ?_⟩
    rw [← looked_any r2 q]; simp
  | dict n e p l r2 =>
    obtain ⟨k, rfl, rfl⟩ := inDict_inv q
    obtain ⟨_, rfl, _⟩ := x.inv_str
    refine wpAny_notIn_of (strKind_is _ _ _ _) e p.mapOf ⟨tok_ext, ?_⟩
    rcases r2.lookup _ with ⟨h1, h2⟩ | ⟨v, d, h1, h2, _⟩ <;> rw [h1, h2] <;> rfl
  | _ => simp only [inD, reduceCtorEq] at q
end

section
variable {C : Cfg} {Γ : Sc} {l : Nat} {A : Around} {F : Fx} {env : Env} {ρ : EEnv} {s : Shared} {d : D} {e e₁ e₂ : Expr} {f f₁ f₂ : EEnv → Option D} {m m₁ m₂ : EEnv → Mk} {op : CmpOp} {g : D → D → Option Bool} {b b₁ b₂ : EEnv → Option Bool}

theorem cmp_ok {p : Pos} (hc : CmpOK C op g) (x₁ : EvOK C Γ l e₁ f₁ m₁) (x₂ : EvOK C Γ l e₂ f₂ m₂) (hm : behindInMarks op e₂ = false) : EvOK C Γ l (.Compare e₁ [op] [e₂] p) (boolF (cmpB g f₁ f₂)) (fun _ => .fr) := by
  intro A F env ρ s d c fd
  obtain ⟨r, fd', rfl⟩ := Option.map_eq_some_iff.mp fd; clear fd; have fd := fd'; clear fd'
  obtain ⟨d₁, h₁, fd⟩ := Option.bind_eq_some_iff.mp fd
  obtain ⟨d₂, h₂, fd⟩ := Option.bind_eq_some_iff.mp fd
  refine wpAny_Compare1 (x₁.run c h₁ fun v₁ s₁ e₁ c₁ r₁ => x₂.run c₁ h₂ fun v₂ s₂ e₂ c₂ r₂ => ?_) hm
  refine wpAny_mono (hc A l s₂ v₁ v₂ d₁ d₂ r _ _ c.room (Rep.ext c.notT e₂ (c.weak e₁ r₁)) (c₁.weak e₂ r₂) fd) (fun v s' h => ?_) fun _ _ e => e
  obtain ⟨e', rfl⟩ := h
  exact ⟨(e₁.trans e₂).trans e', .bool _⟩
theorem cmp_b {p : Pos} (hc : CmpOK C op g) (x₁ : EvOK C Γ l e₁ f₁ m₁) (x₂ : EvOK C Γ l e₂ f₂ m₂) (hm : behindInMarks op e₂ = false) : BOK C Γ l (.Compare e₁ [op] [e₂] p) (cmpB g f₁ f₂) := by
  intro A F env ρ s r c fd
  obtain ⟨d₁, h₁, fd⟩ := Option.bind_eq_some_iff.mp fd
  obtain ⟨d₂, h₂, fd⟩ := Option.bind_eq_some_iff.mp fd
  refine wpAny_isTrue_Compare1 (x₁.run c h₁ fun v₁ s₁ e₁ c₁ r₁ => x₂.run c₁ h₂ fun v₂ s₂ e₂ c₂ r₂ => ?_) hm
  refine wpAny_mono (hc A l s₂ v₁ v₂ d₁ d₂ r _ _ c.room (Rep.ext c.notT e₂ (c.weak e₁ r₁)) (c₁.weak e₂ r₂) fd) (fun v s' h => ?_) fun _ _ e => e
  obtain ⟨e', rfl⟩ := h
  exact wpAny_truthy_bool ⟨(e₁.trans e₂).trans e', rfl⟩

/-! tests -/
def truthB (f : EEnv → Option D) : EEnv → Option Bool := fun ρ => (f ρ).bind fun d => match d with | .bool b => some b | _ => none
theorem truth_inv {d : D} {r : Bool} (h : (match d with | .bool b => some b | _ => none) = some r) : d = .bool r := by
  split at h
  · cases h; rfl
  · cases h
theorem val_b (x : EvOK C Γ l e f m) (he : ∀ env whole, isTrue e env whole = (do let v ← whole; standAt e.pos; holding [v] (truthy v))) : BOK C Γ l e (truthB f) := by
  intro A F env ρ s r c fd
  obtain ⟨d, h, fd⟩ := Option.bind_eq_some_iff.mp fd
  refine wpAny_isTrue_value (x.run c h fun v s' e' c' r' => ?_) (he _ _)
  have w := c.weak e' r'
  obtain rfl := truth_inv fd
  obtain rfl := w.inv_bool
  exact wpAny_truthy_bool ⟨e', rfl⟩
def un (g : D → Option D) (f : EEnv → Option D) : EEnv → Option D := fun ρ => (f ρ).bind g
def AllOK (C : Cfg) (Γ : Sc) (l : Nat) (op : BoolOp) (es : List Expr) (b : EEnv → Option Bool) : Prop :=
  ∀ (A : Around) (F : Fx) (env : Env) (ρ : EEnv) (s : Shared) (r : Bool), Cx C Γ l A F env ρ s → b ρ = some r → Wp C A (allTrue op es env) (fun r' s' => Ext C s s' ∧ r' = r) s
def andB (b₁ b₂ : EEnv → Option Bool) : EEnv → Option Bool := fun ρ => (b₁ ρ).bind fun x => if x then b₂ ρ else some false
def orB (b₁ b₂ : EEnv → Option Bool) : EEnv → Option Bool := fun ρ => (b₁ ρ).bind fun x => if x then some true else b₂ ρ
theorem and_nil : AllOK C Γ l .And [] (fun _ => some true) := fun A F env ρ s r c fd => by cases fd; exact wpAny_allTrue_And_nil ⟨Ext.refl C s, rfl⟩
theorem and_cons {es : List Expr} (x : BOK C Γ l e b₁) (y : AllOK C Γ l .And es b₂) : AllOK C Γ l .And (e :: es) (andB b₁ b₂) := by
  intro A F env ρ s r c fd
  obtain ⟨t, h, fd⟩ := Option.bind_eq_some_iff.mp fd
  refine wpAny_allTrue_And_cons (x.run c h fun s' e' c' => ?_)
  cases t with
  | true => exact wpAny_mono (y A F env ρ s' r c' fd) (fun r' s'' q => ⟨e'.trans q.1, q.2⟩) fun _ _ e => e
  | false => cases fd; exact ⟨e', rfl⟩
theorem boolop_b {bop : BoolOp} {es : List Expr} {p : Pos} (x : AllOK C Γ l bop es b) : BOK C Γ l (.BoolOp bop es p) b := fun A F env ρ s r c fd => wpAny_isTrue_BoolOp (x A F env ρ s r c fd)
theorem or2_ok {p : Pos} (x₁ : EvOK C Γ l e₁ f₁ m₁) (x₂ : EvOK C Γ l e₂ f₂ m₂) : EvOK C Γ l (.BoolOp .Or [e₁, e₂] p) (boolF (orB (truthB f₁) (truthB f₂))) (fun _ => .fr) := by
  intro A F env ρ s d c fd
  obtain ⟨r, fd', rfl⟩ := Option.map_eq_some_iff.mp fd; clear fd; have fd := fd'; clear fd'
  obtain ⟨t, h, fd⟩ := Option.bind_eq_some_iff.mp fd
  obtain ⟨d₁, h₁, ht⟩ := Option.bind_eq_some_iff.mp h
  refine wpAny_Or2 (x₁.run c h₁ fun v₁ s₁ e₁ c₁ r₁ => ?_)
  have w := c.weak e₁ r₁
  obtain rfl := truth_inv ht
  obtain rfl := w.inv_bool
  refine wpAny_truthy_bool ?_
  cases t with
  | true => cases fd; exact ⟨e₁, .bool _⟩
  | false =>
    obtain ⟨d₂, h₂, ht₂⟩ := Option.bind_eq_some_iff.mp fd
    refine x₂.run c₁ h₂ fun v₂ s₂ e₂ c₂ r₂ => ?_
    have w := c₁.weak e₂ r₂
    obtain rfl := truth_inv ht₂
    obtain rfl := w.inv_bool
    exact ⟨e₁.trans e₂, .bool _⟩
end
end Mine

set_option autoImplicit false
open PySem PyProof.Rows
namespace Mine
set_option linter.unusedVariables false

/-! iteration -/
def rngN (a b c : Int) : Nat := if c = 1 then (b - a).toNat else (a - b).toNat
def D.items : D → Option (List D)
  | .list xs => some xs
  | .tup xs => some xs
  | .dict kvs => some (kvs.map fun p => .str p.1)
  | .str x => if x.cps.size ≤ lim then some (x.cps.toList.map fun c => .str ⟨#[c]⟩) else Option.none
  | .rng a b c => if (c = 1 ∨ c = -1) ∧ a.natAbs ≤ lim ∧ b.natAbs ≤ lim then some ((List.range (rngN a b c)).map fun (i : Nat) => .int (a + (i : Int) * c)) else Option.none
  | _ => Option.none
/-- an iterable: its root, its items -/
inductive Rep2 (prog : Program) (w : World) (h : Heap) (N N' : Addr → Prop) : Value → D → Prop
  | str (x : Str) (t : Tok) : PyData.strOk x = true → Rep2 prog w h N N' (.str x t) (.str x)
  | list {a : Addr} {vs : List Value} {ds : List D} : N a → h.PlainList a vs.toArray → vs.length ≤ sizeLine → RepL prog w h N' vs ds → Rep2 prog w h N N' (.ref a) (.list ds)
  | tup {a : Addr} {vs : List Value} {ds : List D} : N a → PlainTup h a vs.toArray → vs.length ≤ sizeLine → RepL prog w h N' vs ds → Rep2 prog w h N N' (.ref a) (.tup ds)
  | dict {a : Addr} {kvs : List (Str × Value)} {kds : List (Str × D)} : N a → (a == sysModules) = false → h.DictOf (PySem.strKind prog w) a kvs → kvs.length ≤ sizeLine → RepE prog w h N kvs kds → Rep2 prog w h N N' (.ref a) (.dict kds)
  | rng {a : Addr} {lo hi st : Int} {t u v : Tok} : N a → IsRange h a lo hi st t u v → Rep2 prog w h N N' (.ref a) (.rng lo hi st)
theorem Rep.two {prog : Program} {w : World} {h : Heap} {N : Addr → Prop} {v : Value} {d : D} {ds : List D} (x : Rep prog w h N v d) (hd : d.items = some ds) : Rep2 prog w h N N v d := by
  cases x with
  | str x t e => exact .str x t e
  | list n p l r => exact .list n p l r
  | tup n p l r => exact .tup n p l r
  | dict n e p l r => exact .dict n e p l r
  | rng n p => exact .rng n p
  | _ => cases hd
def D.isL : D → Bool
  | .list _ => true
  | _ => false
def tgtOK (tl : Bool) : Expr → Bool
  | .Name _ _ => true
  | .Tuple _ _ _ => tl
  | _ => false
def IterAt (C : Cfg) (A : Around) (N N' : Addr → Prop) (tl : Bool) (hs : Heap) (ds : List D) (it : Value) (h₂ : Heap) : Prop :=
  ∃ (I : Addr) (fp wr : List Addr) (P : Nat → Value → Prop) (St : Nat → Heap → Prop), it = .ref I ∧ Walks C.prog C.w A I fp wr ds.length P St ∧ St 0 h₂ ∧ (∀ b ∈ wr, hs.get? b = none) ∧ (∀ b ∈ fp, b ∈ wr ∨ N b) ∧ (∀ b ∈ fp, b < h₂.objs.size) ∧ (∀ i v, P i v → ∃ d, ds[i]? = some d ∧ RepC C hs N' v d) ∧
  (∀ (t : Expr) (v : Value) (i : Nat) (s : Shared) (A : Around) (Q : Unit → Shared → Prop) (E : Value → Shared → Prop), tgtOK tl t = true → St i s.heap → Q () s → wpAny (model C.prog C.w) A (letOwnedTupleGo t (.ref I) v) Q E s) ∧
  (∀ i h, St i h → ∀ b ∈ wr, ∃ o, h.get? b = some o) ∧ ds.length ≤ sizeLine

section
variable {C : Cfg} {A : Around} {N N' : Addr → Prop} {s : Shared} {v : Value} {d : D} {ds : List D}
theorem RepE.key {prog : Program} {w : World} {h : Heap} {N : Addr → Prop} {kvs : List (Str × Value)} {kds : List (Str × D)} (r : RepE prog w h N kvs kds) : ∀ {i : Nat} {k : Str} {x : Value}, kvs[i]? = some (k, x) → PyData.strOk k = true ∧ ∃ d, kds[i]? = some (k, d) := by
  induction kvs generalizing kds with
  | nil => intro i k x e; simp at e
  | cons kv kvs ih =>
    cases r with
    | @cons k' v _ d kds e y r =>
      intro i k x q
      cases i with
      | zero => simp at q; obtain ⟨rfl, rfl⟩ := q; exact ⟨e, d, rfl⟩
      | succ i => simpa using ih r (by simpa using q)
theorem RepE.length {prog : Program} {w : World} {h : Heap} {N : Addr → Prop} {kvs : List (Str × Value)} {kds : List (Str × D)} (r : RepE prog w h N kvs kds) : kvs.length = kds.length := by
  induction kvs generalizing kds with
  | nil => cases r; rfl
  | cons kv kvs ih => cases r with | cons _ _ r => rw [List.length_cons, List.length_cons, ih r]
theorem small_rng {a b c : Int} (h : (c = 1 ∨ c = -1) ∧ a.natAbs ≤ lim ∧ b.natAbs ≤ lim) : Builtin.Range.small a b c = true ∧ Builtin.Range.rangeSize a b c = (rngN a b c : Int) := by
  obtain ⟨hc, ha, hb⟩ := h
  unfold lim at ha hb
  have hs : Builtin.Range.rangeSize a b c = (rngN a b c : Int) := by
    unfold Builtin.Range.rangeSize rngN
    rcases hc with rfl | rfl
    · simp; split <;> omega
    · simp; split <;> omega
  refine ⟨?_, hs⟩
  unfold Builtin.Range.small
  rw [hs]
  unfold rngN Builtin.Range.rangeFitsLong
  rcases hc with rfl | rfl <;> simp <;> omega
theorem walks_bound {prog : Program} {w : World} {A : Around} {I : Addr} {fp wr : List Addr} {n : Nat} {P : Nat → Value → Prop} {St : Nat → Heap → Prop} (W : Walks prog w A I fp wr n P St) : Walks prog w A I fp wr n (fun i v => i < n ∧ P i v) St where
  sub := W.sub
  frame := W.frame
  item := fun i s Q E hi st hQ => W.item i s Q E hi st fun v h' tk hP hst hk => hQ v h' tk ⟨hi, hP⟩ hst hk
  done := W.done
  self := W.self
theorem let_name {I : Addr} {t : Expr} {v : Value} {s : Shared} {A : Around} {Q : Unit → Shared → Prop} {E : Value → Shared → Prop} (ht : tgtOK false t = true) (h : Q () s) : wpAny (model C.prog C.w) A (letOwnedTupleGo t (.ref I) v) Q E s := by
  cases t <;> first | exact wpAny_pure h | cases ht
theorem iter_ok (x : Rep2 C.prog C.w s.heap N N' v d) (hd : d.items = some ds) (hh : A.handled = none) : Wp C A (pyIter v) (fun it s₂ => Ext C s s₂ ∧ IterAt C A N N' d.isL s.heap ds it s₂.heap) s := by
  have fr := fresh_size s.heap
  cases x with
  | @list a vs ds' n p l r =>
    cases hd
    refine wpAny_pyIter_list p.isList ⟨push_ext', ?_⟩
    have hne : a ≠ s.heap.objs.size := fun e => by obtain ⟨_, q⟩ := p; rw [e, fr] at q; cases q
    have W := Walks.list (prog := C.prog) (w := C.w) hh s.heap.objs.size a hne vs.toArray
    have el : ds.length = vs.toArray.size := by rw [List.size_toArray, r.length]
    rw [← el] at W
    refine ⟨_, _, _, _, _, rfl, W, ⟨⟨_, Heap.get?_push_size _ rfl, rfl, rfl⟩, p.isList.at fun o e => Heap.get?_push_of_some _ e⟩, ?_, ?_, ?_, ?_, ?_, fun i h st b hb => by rw [List.mem_singleton.mp hb]; obtain ⟨o, q, _⟩ := st.1; exact ⟨o, q⟩, by rw [← r.length]; exact l⟩
    · intro b hb; rw [List.mem_singleton.mp hb]; exact fr
    · intro b hb
      rcases List.mem_cons.mp hb with rfl | hb
      · exact .inl (.head _)
      · rw [List.mem_singleton.mp hb]; exact .inr n
    · intro b hb
      show b < (s.heap.push _).objs.size
      rw [Heap.size_push]
      rcases List.mem_cons.mp hb with rfl | hb
      · exact Nat.lt_succ_self _
      · rw [List.mem_singleton.mp hb]; obtain ⟨m, q⟩ := p; exact Nat.lt_succ_of_lt (Heap.lt_size q)
    · intro i v hv
      exact r.getV (by simpa using hv)
    · intro t v i s A Q E ht st h
      cases t <;> first | exact wpAny_pure h | (cases ht; done) | skip
      cases v <;> first | exact wpAny_letOwnedTupleGo_listiter st.1 h | exact wpAny_pure h
  | @tup a vs ds' n p l r =>
    cases hd
    refine wpAny_pyIter_tuple p.isTup ⟨push_ext', ?_⟩
    have hne : a ≠ s.heap.objs.size := fun e => by obtain ⟨_, q⟩ := p; rw [e, fr] at q; cases q
    have W := Walks.tuple (prog := C.prog) (w := C.w) hh s.heap.objs.size a hne vs.toArray
    have el : ds.length = vs.toArray.size := by rw [List.size_toArray, r.length]
    rw [← el] at W
    refine ⟨_, _, _, _, _, rfl, W, ⟨⟨_, Heap.get?_push_size _ rfl, rfl, rfl⟩, Heap.IsTuple.at (h := s.heap) p.isTup fun o e => Heap.get?_push_of_some _ e⟩, ?_, ?_, ?_, ?_, fun t v i s A Q E ht _ h => let_name ht h, fun i h st b hb => by rw [List.mem_singleton.mp hb]; obtain ⟨o, q, _⟩ := st.1; exact ⟨o, q⟩, by rw [← r.length]; exact l⟩
    · intro b hb; rw [List.mem_singleton.mp hb]; exact fr
    · intro b hb
      rcases List.mem_cons.mp hb with rfl | hb
      · exact .inl (.head _)
      · rw [List.mem_singleton.mp hb]; exact .inr n
    · intro b hb
      show b < (s.heap.push _).objs.size
      rw [Heap.size_push]
      rcases List.mem_cons.mp hb with rfl | hb
      · exact Nat.lt_succ_self _
      · rw [List.mem_singleton.mp hb]; obtain ⟨m, q⟩ := p; exact Nat.lt_succ_of_lt (Heap.lt_size q)
    · intro i v hv
      exact r.getV (by simpa using hv)
  | @dict a kvs kds n e p l r =>
    cases hd
    obtain ⟨o, es, ep, h1, h2, h3, h4, h5, h6⟩ := id p
    have hda : s.heap.DictAt (PySem.strKind C.prog C.w) a kvs ep := ⟨o, es, h1, h2, h3, h4, h5, h6⟩
    refine wpAny_pyIter_dict e hda ⟨push_ext', ?_⟩
    have hne : a ≠ s.heap.objs.size := fun e => by rw [e, fr] at h1; cases h1
    have W := Walks.dictKeys (prog := C.prog) (w := C.w) (knd := PySem.strKind C.prog C.w) hh s.heap.objs.size a hne kvs ep
    have el : (kds.map fun p => D.str p.1).length = kvs.length := by rw [List.length_map, r.length]
    refine ⟨s.heap.objs.size, [s.heap.objs.size, a], [s.heap.objs.size], (fun i v => ∃ k x, kvs[i]? = some (k, x) ∧ (PySem.strKind C.prog C.w).is k v = true), (fun i h => h.IsKeyIter s.heap.objs.size a i kvs.length ep ∧ h.DictAt (PySem.strKind C.prog C.w) a kvs ep), rfl, (by rw [el]; exact W), ⟨⟨_, Heap.get?_push_size _ rfl, rfl, rfl⟩, hda.at' fun o e => Heap.get?_push_of_some _ e⟩, ?_, ?_, ?_, ?_, fun t v i s A Q E ht _ h => let_name ht h, fun i h st b hb => by rw [List.mem_singleton.mp hb]; obtain ⟨o, q, _⟩ := st.1; exact ⟨o, q⟩, by rw [el]; exact l⟩
    · intro b hb; rw [List.mem_singleton.mp hb]; exact fr
    · intro b hb
      rcases List.mem_cons.mp hb with rfl | hb
      · exact .inl (.head _)
      · rw [List.mem_singleton.mp hb]; exact .inr n
    · intro b hb
      show b < (s.heap.push _).objs.size
      rw [Heap.size_push]
      rcases List.mem_cons.mp hb with rfl | hb
      · exact Nat.lt_succ_self _
      · rw [List.mem_singleton.mp hb]; exact Nat.lt_succ_of_lt (Heap.lt_size h1)
    · rintro i v ⟨k, x, hx, hk⟩
      obtain ⟨hok, dd, hd⟩ := r.key hx
      have : ∃ t, v = .str k t := by
        cases v <;> simp [PySem.strKind, Value.isStrOf] at hk
        exact ⟨_, by rw [hk]⟩
      obtain ⟨t, rfl⟩ := this
      exact ⟨.str k, by simp [hd], .str k t hok⟩
  | str x t hx =>
    simp only [D.items] at hd
    split at hd
    · rename_i hxl
      cases hd
      have el : (x.cps.toList.map fun c => D.str ⟨#[c]⟩).length = x.cps.size := by simp
      have key : ∀ (o : Obj) (St : Nat → Heap → Prop), Walks C.prog C.w A s.heap.objs.size [s.heap.objs.size] [s.heap.objs.size] x.cps.size (SignAt x) St → St 0 (s.heap.push o) → (∀ i h, St i h → ∃ o, h.get? s.heap.objs.size = some o) →
          IterAt C A N N' (D.str x).isL s.heap (x.cps.toList.map fun c => D.str ⟨#[c]⟩) (.ref s.heap.objs.size) (s.heap.push o) := by
        intro o St W hst hex
        rw [← el] at W
        refine ⟨_, _, _, _, _, rfl, W, hst, ?_, ?_, ?_, ?_, fun t v i s A Q E ht _ h => let_name ht h, fun i h st b hb => by rw [List.mem_singleton.mp hb]; exact hex i h st, by rw [el]; exact Nat.le_trans hxl lim_le⟩
        · intro b hb; rw [List.mem_singleton.mp hb]; exact fr
        · intro b hb; exact .inl hb
        · intro b hb
          rw [List.mem_singleton.mp hb]
          show _ < (s.heap.push _).objs.size
          rw [Heap.size_push]
          exact Nat.lt_succ_self _
        · rintro i v ⟨c, u, hc, rfl⟩
          refine ⟨.str ⟨#[c]⟩, by simp [hc], .str _ _ ?_⟩
          unfold PyData.strOk at *
          have := Array.all_eq_true.mp hx i (Array.getElem?_eq_some_iff.mp hc).1
          simp [(Array.getElem?_eq_some_iff.mp hc).2] at this
          simp; exact this
      cases ha : x.cps.all (· < 128)
      · exact wpAny_pyIter_wide ha ⟨push_ext', key _ _ (Walks.strWide hh _ x t) ⟨_, Heap.get?_push_size _ rfl, rfl, rfl⟩ fun i h ⟨o, q, _⟩ => ⟨o, q⟩⟩
      · exact wpAny_pyIter_ascii ha ⟨push_ext', key _ _ (Walks.strAscii hh _ x t) ⟨_, Heap.get?_push_size _ rfl, rfl, rfl⟩ fun i h ⟨o, q, _⟩ => ⟨o, q⟩⟩
    · cases hd
  | rng n p =>
    simp only [D.items] at hd
    split at hd
    · rename_i hc
      cases hd
      obtain ⟨hsm, hsz⟩ := small_rng hc
      refine wpAny_pyIter_range p hsm ⟨push_ext', ?_⟩
      rename_i a lo hi st t u v
      have W := Walks.range (prog := C.prog) (w := C.w) hh s.heap.objs.size lo st (rngN lo hi st)
      have el : ((List.range (rngN lo hi st)).map fun (i : Nat) => D.int (lo + (i : Int) * st)).length = rngN lo hi st := by simp
      have W' := walks_bound W
      rw [← el] at W'
      refine ⟨_, _, _, _, _, rfl, W', ?_, ?_, ?_, ?_, ?_, fun t v i s A Q E ht _ h => let_name ht h, fun i h st b hb => by rw [List.mem_singleton.mp hb]; exact ⟨_, st⟩, ?_⟩
      · show IsRangeIter _ _ _ _ _
        rw [hsz]
        simpa using Heap.get?_push_size _ rfl
      · intro b hb; rw [List.mem_singleton.mp hb]; exact fr
      · intro b hb; exact .inl hb
      · intro b hb
        rw [List.mem_singleton.mp hb]
        show _ < (s.heap.push _).objs.size
        rw [Heap.size_push]
        exact Nat.lt_succ_self _
      · rintro i v ⟨hi, t, rfl⟩
        rw [el] at hi
        exact ⟨.int (lo + (i : Int) * st), by rw [List.getElem?_map, List.getElem?_range hi]; rfl, .int _ _⟩
      · rw [el]
        unfold rngN lim at *
        unfold sizeLine
        split <;> omega
    · cases hd
end
end Mine

set_option autoImplicit false
open PySem PyProof.Rows
namespace Mine
set_option linter.unusedVariables false

/-! lists of expressions -/
def ArgsOK (C : Cfg) (Γ : Sc) (l : Nat) (es : List Expr) (fs : EEnv → Option (List D)) (cl : EEnv → Bool) : Prop :=
  ∀ (A : Around) (F : Fx) (env : Env) (ρ : EEnv) (s : Shared) (ds : List D) (pos : Pos), Cx C Γ l A F env ρ s → fs ρ = some ds →
    Wp C A (spliced (backTo pos (starEach es env))) (fun vs s' => Ext C s s' ∧ vs.length = es.length ∧ RepLC C s'.heap (fun a => ¬ F.volc a) vs ds ∧ (cl ρ = true → RepLC C s'.heap (fun a => ¬ F.vol a) vs ds)) s
def consF (f : EEnv → Option D) (fs : EEnv → Option (List D)) : EEnv → Option (List D) := fun ρ => (f ρ).bind fun d => (fs ρ).bind fun ds => some (d :: ds)
section
variable {C : Cfg} {Γ : Sc} {l : Nat} {A : Around} {F : Fx} {env : Env} {ρ : EEnv} {s : Shared} {d : D} {e e₁ e₂ : Expr} {es : List Expr} {f f₁ f₂ : EEnv → Option D} {m m₁ m₂ : EEnv → Mk} {fs : EEnv → Option (List D)} {cl : EEnv → Bool}
theorem args_nil_ok : ArgsOK C Γ l [] (fun _ => some []) (fun _ => true) := fun A F env ρ s ds pos c fd => by
  cases fd; exact args_nil ⟨Ext.refl C s, rfl, .nil, fun _ => .nil⟩
theorem args_cons_ok (x : EvOK C Γ l e f m) (y : ArgsOK C Γ l es fs cl) (he : ∀ env, starEach (e :: es) env = (false, eval e env) :: starEach es env) :
    ArgsOK C Γ l (e :: es) (consF f fs) (fun ρ => (m ρ).clean && cl ρ) := by
  intro A F env ρ s ds pos c fd
  obtain ⟨d, h₁, fd⟩ := Option.bind_eq_some_iff.mp fd
  obtain ⟨ds', h₂, fd⟩ := Option.bind_eq_some_iff.mp fd
  cases fd
  refine args_cons (x.run c h₁ fun v s₁ e₁ c₁ r₁ => ?_) (he env)
  refine wpAny_mono (y A F env ρ s₁ ds' pos c₁ h₂) (fun vs s₂ h => ?_) fun _ _ e => e
  obtain ⟨e₂, hl, w, k⟩ := h
  refine ⟨e₁.trans e₂, by rw [List.length_cons, List.length_cons, hl], .cons (Rep.ext c.notT e₂ (c.weak e₁ r₁)) w, fun hc => ?_⟩
  obtain ⟨q1, q2⟩ := Bool.and_eq_true_iff.mp hc
  exact .cons (Rep.ext c.notT0 e₂ (r₁.clean c.rel.hv (by unfold Mk.cl; rw [q1]; rfl))) (k q2)

/-! displays -/
def listF (fs : EEnv → Option (List D)) : EEnv → Option D := fun ρ => (fs ρ).map D.list
def tupF (fs : EEnv → Option (List D)) : EEnv → Option D := fun ρ => (fs ρ).map D.tup
theorem list_ok {p : Pos} (y : ArgsOK C Γ l es fs cl) (hn : es.length ≤ 100) : EvOK C Γ l (.List es p) (listF fs) (fun ρ => if cl ρ then .own 1 else .fu) := by
  intro A F env ρ s d c fd
  obtain ⟨ds, h, fd⟩ := Option.map_eq_some_iff.mp fd
  subst fd
  refine wpAny_List (wpAny_mono (y A F env ρ s ds p c h) (fun vs s₁ h₁ => ?_) fun _ _ e => e)
  obtain ⟨e₁, hl, w, k⟩ := h₁
  have hsz : vs.length ≤ sizeLine := by rw [hl]; exact Nat.le_trans hn (by unfold sizeLine; decide)
  refine ⟨hsz, e₁.trans push_ext', ?_⟩
  have hfs : s.heap.get? s₁.heap.objs.size = none := e₁.none (fresh_size _)
  show MkRep C F s.heap _ (if cl ρ = true then .own 1 else .fu) _ _
  split
  · rename_i hc
    exact own1_list hfs (fresh_size _) (push_plain _ _) hsz (fun b o _ e => push_keeps b o e) (k hc)
  · refine ⟨.list (fun q => fresh_not_vol (c.vol_later e₁) (fresh_size _) (c.rel.vc _ q)) (push_plain _ _) hsz (w.trans (fun _ n => n) fun b o n e => push_keeps b o e), fun a e => by cases e; exact hfs⟩
theorem tup_ok {k : Nat} {p : Pos} (y : ArgsOK C Γ l es fs cl) (hn : es.length ≤ 100) : EvOK C Γ l (.Tuple es k p) (tupF fs) (fun ρ => if cl ρ then .fr else .unk) := by
  intro A F env ρ s d c fd
  obtain ⟨ds, h, fd⟩ := Option.map_eq_some_iff.mp fd
  subst fd
  refine wpAny_Tuple (wpAny_mono (y A F env ρ s ds p c h) (fun vs s₁ h₁ => ?_) fun _ _ e => e)
  obtain ⟨e₁, hl, w, k⟩ := h₁
  have hsz : vs.length ≤ sizeLine := by rw [hl]; exact Nat.le_trans hn (by unfold sizeLine; decide)
  refine ⟨hsz, e₁.trans push_ext', ?_⟩
  have hfv : ¬ F.vol s₁.heap.objs.size := fresh_not_vol (c.vol_later e₁) (fresh_size _)
  show MkRep C F s.heap _ (if cl ρ = true then .fr else .unk) _ _
  split
  · rename_i hc
    exact .tup hfv (push_tup _ _) hsz ((k hc).trans (fun _ n => n) fun b o n e => push_keeps b o e)
  · exact .tup (fun q => hfv (c.rel.vc _ q)) (push_tup _ _) hsz (w.trans (fun _ n => n) fun b o n e => push_keeps b o e)
theorem dict0_ok {p : Pos} : EvOK C Γ l (.Dict [] [] p) (fun _ => some (.dict [])) (fun _ => .own 1) := by
  intro A F env ρ s d c fd
  cases fd
  refine wpAny_Dict_empty ⟨push_ext', ?_⟩
  have hm : (s.heap.objs.size == sysModules) = false := by
    have h1 : (3 : Nat) < s.heap.objs.size := c.glob.g.lt
    show (s.heap.objs.size == (1 : Nat)) = false
    simp only [beq_eq_false_iff_ne, ne_eq]
    omega
  exact own1_dict (fresh_size _) (fresh_size _) hm (Heap.DictOf.new _) (Nat.zero_le _) (fun b o _ e => push_keeps b o e) .nil

/-! subscripts -/
theorem seqIndex_nat {i : Int} {n : Nat} (h0 : 0 ≤ i) (h : i.toNat < n) : seqIndex? i n = some i.toNat := by
  have h1 : ¬ i < 0 := by omega
  have h2 : i < n := by omega
  simp [seqIndex?, h1, h0, h2]
def idxD : D → D → Option D
  | .list xs, .int i => if 0 ≤ i ∧ i ≤ lim then xs[i.toNat]? else none
  | .tup xs, .int i => if 0 ≤ i ∧ i ≤ lim then xs[i.toNat]? else none
  | .str x, .int i => if 0 ≤ i ∧ i ≤ lim then x.cps[i.toNat]?.map fun c => .str ⟨#[c]⟩ else none
  | .dict kvs, .str k => kvs.lookup k
  | _, _ => none
def childM (m : EEnv → Mk) : EEnv → Mk := fun ρ => if (m ρ).cat then .fr else .unk
/-- a child of a container -/
theorem MkRep.dictItems {hs h : Heap} {mk : Mk} {v : Value} {ds : List (Str × D)} (hv : ∀ a, F.vol a → ∃ o, hs.get? a = some o) (hc : mk.cat = true) (x : MkRep C F hs h mk v (.dict ds)) :
    ∃ a vs, v = .ref a ∧ h.DictOf (PySem.strKind C.prog C.w) a vs ∧ RepE C.prog C.w h (fun a => ¬ F.vol a) vs ds := by
  cases mk with
  | fr => obtain ⟨_, _, rfl, n, q, p, l, r⟩ := Rep.inv_dict x; exact ⟨_, _, rfl, p, r⟩
  | own k =>
    obtain ⟨O, t, _, f⟩ := x
    cases t with
    | fz0 r => obtain ⟨_, _, rfl, n, q, p, l, r⟩ := r.inv_dict; exact ⟨_, _, rfl, p, r.trans (fun _ n => n.1) fun _ _ _ e => e⟩
    | fz c r => cases c
    | dict q p l r => exact ⟨_, _, rfl, p, r.rep (fun _ n => n.1) fun a ha => fresh_not_vol hv (f a (.tail _ ha))⟩
  | bor =>
    obtain ⟨O, t, f⟩ := x
    cases t with
    | fz c r => cases c
    | dict q p l r => exact ⟨_, _, rfl, p, OwnE.zero r⟩
  | unk => cases hc
  | fu => cases hc
theorem MkRep.tupItems {hs h : Heap} {mk : Mk} {v : Value} {ds : List D} (hv : ∀ a, F.vol a → ∃ o, hs.get? a = some o) (hc : mk.cat = true) (x : MkRep C F hs h mk v (.tup ds)) :
    ∃ a vs, v = .ref a ∧ PlainTup h a vs.toArray ∧ RepLC C h (fun a => ¬ F.vol a) vs ds := by
  cases mk with
  | fr => obtain ⟨_, _, rfl, n, p, l, r⟩ := Rep.inv_tup x; exact ⟨_, _, rfl, p, r⟩
  | own k =>
    obtain ⟨O, t, _, f⟩ := x
    cases t with
    | fz0 r => obtain ⟨_, _, rfl, n, p, l, r⟩ := r.inv_tup; exact ⟨_, _, rfl, p, r.trans (fun _ n => n.1) fun _ _ _ e => e⟩
    | fz c r => obtain ⟨_, _, rfl, n, p, l, r⟩ := r.inv_tup; exact ⟨_, _, rfl, p, r.trans (fun _ n => n.1) fun _ _ _ e => e⟩
  | bor =>
    obtain ⟨O, t, f⟩ := x
    cases t with
    | fz c r => obtain ⟨_, _, rfl, n, p, l, r⟩ := r.inv_tup; exact ⟨_, _, rfl, p, r⟩
  | unk => cases hc
  | fu => cases hc
theorem idxD_inv {a b d : D} (h : idxD a b = some d) : (∃ xs i, a = .list xs ∧ b = .int i ∧ (0 ≤ i ∧ i ≤ lim) ∧ xs[i.toNat]? = some d) ∨ (∃ xs i, a = .tup xs ∧ b = .int i ∧ (0 ≤ i ∧ i ≤ lim) ∧ xs[i.toNat]? = some d) ∨
    (∃ x i, a = .str x ∧ b = .int i ∧ (0 ≤ i ∧ i ≤ lim) ∧ (x.cps[i.toNat]?.map fun c => D.str ⟨#[c]⟩) = some d) ∨ (∃ kvs k, a = .dict kvs ∧ b = .str k ∧ kvs.lookup k = some d) := by
  unfold idxD at h; split at h
  · split at h
    · rename_i q; exact .inl ⟨_, _, rfl, rfl, q, h⟩
    · cases h
  · split at h
    · rename_i q; exact .inr (.inl ⟨_, _, rfl, rfl, q, h⟩)
    · cases h
  · split at h
    · rename_i q; exact .inr (.inr (.inl ⟨_, _, rfl, rfl, q, h⟩))
    · cases h
  · exact .inr (.inr (.inr ⟨_, _, rfl, rfl, h⟩))
  · cases h
theorem idx_ok {p : Pos} (x₁ : EvOK C Γ l e₁ f₁ m₁) (x₂ : EvOK C Γ l e₂ f₂ m₂) (hs : ∀ o i, subscripted e₂ false o i = operate [o, i] (getItem o i)) : EvOK C Γ l (.Subscript e₁ e₂ p) (bin idxD f₁ f₂) (childM m₁) := by
  intro A F env ρ s d c fd
  obtain ⟨d₁, h₁, fd⟩ := Option.bind_eq_some_iff.mp fd
  obtain ⟨d₂, h₂, fd⟩ := Option.bind_eq_some_iff.mp fd
  refine Subscript_ (x₁.run c h₁ fun v₁ s₁ e₁ c₁ r₁ => x₂.run c₁ h₂ fun v₂ s₂ e₂ c₂ r₂ => ?_)
  have w₁ := c.weak e₁ r₁
  have w₂ := c₁.weak e₂ r₂
  show Wp C A (subscriptTail _ _ v₁ v₂) (fun v s' => Ext C s s' ∧ MkRep C F s.heap s'.heap (if (m₁ ρ).cat then .fr else .unk) v d) s₂
  rcases idxD_inv fd with ⟨xs, i, rfl, rfl, hi, fq⟩ | ⟨xs, i, rfl, rfl, hi, fq⟩ | ⟨x, i, rfl, rfl, hi, fq⟩ | ⟨kvs, k, rfl, rfl, fq⟩
  · · obtain ⟨u, rfl⟩ := w₂.inv_int
      obtain ⟨a, vs, rfl, n, pl, l, r⟩ := w₁.inv_list
      obtain ⟨v, hv, rv⟩ := r.get fq
      have pl' : s₂.heap.PlainList a vs.toArray := pl.at fun o => e₂.keep _ o (c.notT _ n)
      refine tail_any pl'.isList.typeIs slot_list_getitem.lookup (wpAny_getItem_list pl'.isList hi.1 (by unfold lim at hi; omega) (by simpa using hv) ⟨e₁.trans e₂, ?_⟩) (hs _ _)
      split
      · rename_i hc
        obtain ⟨a', vs', ea, pa, _, ra⟩ := r₁.items c.rel.hv hc
        cases ea
        obtain rfl := plainList_inj pl pa
        obtain ⟨v', hv', rv'⟩ := ra.get fq
        rw [hv] at hv'; cases hv'
        exact Rep.ext c.notT0 e₂ rv'
      · exact Rep.ext c.notT e₂ rv
  · · obtain ⟨u, rfl⟩ := w₂.inv_int
      obtain ⟨a, vs, rfl, n, pl, l, r⟩ := w₁.inv_tup
      obtain ⟨v, hv, rv⟩ := r.get fq
      have pl' : PlainTup s₂.heap a vs.toArray := pl.at fun o => e₂.keep _ o (c.notT _ n)
      have hlt : i.toNat < vs.length := (List.getElem?_eq_some_iff.mp hv).1
      refine item_tupleT pl'.isTup (by omega) (by unfold lim at hi; omega) (j := i.toNat) ?_ hv ⟨e₁.trans e₂, ?_⟩ (hs _ _)
      · exact seqIndex_nat hi.1 hlt
      · split
        · rename_i hc
          obtain ⟨a', vs', ea, pa, ra⟩ := r₁.tupItems c.rel.hv hc
          cases ea
          obtain rfl := plainTup_inj pl pa
          obtain ⟨v', hv', rv'⟩ := ra.get fq
          rw [hv] at hv'; cases hv'
          exact Rep.ext c.notT0 e₂ rv'
        · exact Rep.ext c.notT e₂ rv
  · · obtain ⟨ch, hch, rfl⟩ := Option.map_eq_some_iff.mp fq
      obtain ⟨u, rfl⟩ := w₂.inv_int
      obtain ⟨t, rfl, hx⟩ := w₁.inv_str
      have hlt : i.toNat < x.cps.size := (Array.getElem?_eq_some_iff.mp hch).1
      have hok : PyData.strOk ⟨#[ch]⟩ = true := by
        unfold PyData.strOk at *
        have := Array.all_eq_true.mp hx i.toNat hlt
        rw [(Array.getElem?_eq_some_iff.mp hch).2] at this
        simpa using this
      have hsi : (seqIndex? i x.length).bind (x.cps[·]?) = some ch := by
        rw [show x.length = x.cps.size from rfl, seqIndex_nat hi.1 hlt]
        exact hch
      refine tail_any (typeIs_str s₂ x t) slot_str_getitem.lookup (getItem_str (by unfold lim at hi; simp; omega) hsi ⟨(e₁.trans e₂).trans tok_ext, MkRep.imm (N := fun _ => True) (h₀ := s.heap) rfl (.str _ _ hok)⟩) (hs _ _)
  · obtain ⟨u, rfl, hk⟩ := w₂.inv_str
    obtain ⟨a, vs, rfl, n, q, pl, l, r⟩ := w₁.inv_dict
    have pl' : s₂.heap.DictOf (PySem.strKind C.prog C.w) a vs := DictOf.at pl fun o => e₂.keep _ o (c.notT _ n)
    rcases r.lookup k with ⟨_, h2⟩ | ⟨v, d', h1, h2, rv⟩
    · rw [h2] at fq; cases fq
    · rw [h2] at fq; cases fq
      refine tail_any pl'.typeIs slot_dict_getitem.lookup (wpAny_getItem_of (strKind_is _ _ _ _) pl'.mapOf h1 ⟨(e₁.trans e₂).trans tok_ext, ?_⟩) (hs _ _)
      show MkRep C F s.heap s₂.heap _ _ _
      split
      · rename_i hc
        obtain ⟨a', vs', ea, pa, ra⟩ := r₁.dictItems c.rel.hv hc
        cases ea
        obtain rfl := dictOf_inj pl pa
        rcases ra.lookup k with ⟨h1', _⟩ | ⟨v', d', h1', h2', rv'⟩
        · rw [h1] at h1'; cases h1'
        · rw [h1] at h1'; cases h1'
          rw [h2] at h2'; cases h2'
          exact Rep.ext c.notT0 e₂ rv'
      · exact Rep.ext c.notT e₂ rv
end
end Mine

set_option autoImplicit false
open PySem PyProof.Rows
namespace Mine
set_option linter.unusedVariables false

/-! slices of lists: the bounds left out, or ints that are 0 or more -/
def PartOK (C : Cfg) (Γ : Sc) (l : Nat) (e : Option Expr) (f : EEnv → Option (Option Nat)) : Prop :=
  ∀ (A : Around) (F : Fx) (env : Env) (ρ : EEnv) (s : Shared) (k : Option Nat), Cx C Γ l A F env ρ s → f ρ = some k →
    Wp C A (evalPart e env) (fun v s' => Ext C s s' ∧ IsPart v (k.map Int.ofNat)) s
def natF (f : EEnv → Option D) : EEnv → Option (Option Nat) := fun ρ => (f ρ).bind fun d => match d with | .int i => if 0 ≤ i then some (some i.toNat) else none | _ => none
def sliceL {α : Type} (xs : List α) (lo hi : Option Nat) : List α := match lo, hi with
  | none, none => xs
  | some a, none => xs.drop a
  | none, some b => xs.take b
  | some a, some b => (xs.take b).drop a
def sliceD (d : D) (lo hi : Option Nat) : Option D := match d with
  | .list xs => if lo.isSome && hi.isSome then none else some (.list (sliceL xs lo hi))
  | _ => none
def sliceF (f : EEnv → Option D) (lo hi : EEnv → Option (Option Nat)) : EEnv → Option D := fun ρ => (f ρ).bind fun d => (lo ρ).bind fun a => (hi ρ).bind fun b => sliceD d a b
section
variable {C : Cfg} {Γ : Sc} {l : Nat} {A : Around} {F : Fx} {env : Env} {ρ : EEnv} {s : Shared} {d : D} {e e₁ e₂ : Expr} {es : List Expr} {f f₁ f₂ : EEnv → Option D} {m m₁ m₂ : EEnv → Mk} {fs : EEnv → Option (List D)} {cl : EEnv → Bool}
theorem part_none : PartOK C Γ l none (fun _ => some none) := fun A F env ρ s k c fd => by cases fd; exact wpAny_evalPart_none ⟨Ext.refl C s, .none⟩
theorem part_some (x : EvOK C Γ l e f m) : PartOK C Γ l (some e) (natF f) := fun A F env ρ s k c fd => by
  obtain ⟨d, h, fd⟩ := Option.bind_eq_some_iff.mp fd
  refine wpAny_evalPart_some (x.run c h fun v s' e' c' r' => ?_)
  have w := c.weak e' r'
  cases w <;> simp only [reduceCtorEq] at fd
  split at fd
  · rename_i i t h0
    cases fd
    refine ⟨e', ?_⟩
    have : (some i.toNat).map Int.ofNat = some i := by simp; omega
    rw [this]
    exact .int _ _
  · cases fd
theorem slicePick_nat (vs : List Value) (lo hi : Option Nat) (hb : (lo.isSome && hi.isSome) = false) : slicePick vs.toArray (lo.map Int.ofNat) (hi.map Int.ofNat) none = (sliceL vs lo hi).toArray := by
  cases lo with
  | none =>
    cases hi with
    | none => simpa [sliceL] using slicePick_all vs.toArray
    | some b => simpa [sliceL] using slicePick_upto' vs.toArray b
  | some a =>
    cases hi with
    | none => simpa [sliceL] using slicePick_from' vs.toArray a
    | some b => cases hb
theorem RepL.slice {prog : Program} {w : World} {h : Heap} {N : Addr → Prop} {vs : List Value} {ds : List D} (r : RepL prog w h N vs ds) (lo hi : Option Nat) : RepL prog w h N (sliceL vs lo hi) (sliceL ds lo hi) := by
  cases lo <;> cases hi
  · exact r
  · exact r.take _
  · exact r.drop _
  · exact (r.take _).drop _
theorem sliceL_length {α : Type} (xs : List α) (lo hi : Option Nat) : (sliceL xs lo hi).length ≤ xs.length := by
  cases lo <;> cases hi <;> simp [sliceL] <;> omega
theorem slice_ok {lo hi : Option Expr} {flo fhi : EEnv → Option (Option Nat)} {p pos : Pos} (x : EvOK C Γ l e f m) (xl : PartOK C Γ l lo flo) (xh : PartOK C Γ l hi fhi) :
    EvOK C Γ l (.Subscript e (.Slice lo hi none p) pos) (sliceF f flo fhi) (copyM m) := by
  intro A F env ρ s d c fd
  obtain ⟨d₁, h₁, fd⟩ := Option.bind_eq_some_iff.mp fd
  obtain ⟨a, h₂, fd⟩ := Option.bind_eq_some_iff.mp fd
  obtain ⟨b, h₃, fd⟩ := Option.bind_eq_some_iff.mp fd
  refine Subscript_ (x.run c h₁ fun v₁ s₁ e₁ c₁ r₁ => wpAny_Slice ?_)
  refine wpAny_mono (xl A F env ρ s₁ a c₁ h₂) (fun vl s₂ k₂ => ?_) fun _ _ e => e
  obtain ⟨e₂, il⟩ := k₂
  refine wpAny_mono (xh A F env ρ s₂ b (c₁.ext e₂) h₃) (fun vu s₃ k₃ => ?_) fun _ _ e => e
  obtain ⟨e₃, iu⟩ := k₃
  refine wpAny_evalPart_none ?_
  have w₁ := c.weak e₁ r₁
  cases d₁ <;> simp only [sliceD, reduceCtorEq] at fd
  rename_i xs
  split at fd
  · cases fd
  rename_i hab
  cases fd
  cases w₁ with
  | @list ad vs _ n pl ln r =>
  have e₂₃ := e₂.trans e₃
  have pl3 : s₃.heap.PlainList ad vs.toArray := pl.at fun o => e₂₃.keep _ o (c.notT _ n)
  have pl4 : (s₃.heap.push { cls := .type "slice", data := .fields #[vl, vu, .none] }).PlainList ad vs.toArray := pl3.at fun o e => push_keeps _ o e
  refine tail_any (ops := [_, _]) pl4.isList.typeIs slot_list_getitem.lookup ?_ rfl
  refine wpAny_getItem_list_slice pl4.isList ⟨_, Heap.get?_push_size _ rfl, rfl, rfl⟩ il iu .none (by simp) ?_ (by simpa using ln)
  rw [slicePick_nat _ _ _ (by simpa using hab)]
  have ee := (e₁.trans e₂₃)
  have ee4 : Ext C s { s₃ with heap := s₃.heap.push { cls := .type "slice", data := .fields #[vl, vu, .none] } } := ee.trans push_ext'
  have hsz : (sliceL vs a b).length ≤ sizeLine := Nat.le_trans (sliceL_length _ _ _) ln
  refine ⟨ee4.trans push_ext', ?_⟩
  have hfr := fresh_size (s₃.heap.push { cls := .type "slice", data := .fields #[vl, vu, .none] })
  have hfs := ee4.none hfr
  show MkRep C F s.heap _ (if (m ρ).cat then .own 1 else .fu) _ _
  split
  · rename_i hc
    obtain ⟨a', vs', ea, pa, _, ra⟩ := r₁.items c.rel.hv hc
    cases ea
    obtain rfl := plainList_inj pl pa
    exact own1_list hfs hfr (push_plain _ _) hsz (fun b o _ e => push_keeps b o e) ((ra.trans (fun _ n => n) fun b o n e => push_keeps b o (e₂₃.keep b o (c.notT0 b n) e)).slice a b)
  · refine ⟨.list (fun q => fresh_not_vol (c.vol_later ee4) hfr (c.rel.vc _ q)) (push_plain _ _) hsz ?_, fun a e => by cases e; exact hfs⟩
    exact (r.trans (fun _ n => n) fun b o n e => push_keeps b o (push_keeps b o (e₂₃.keep b o (c.notT b n) e))).slice a b
end
end Mine

set_option autoImplicit false
open PySem PyProof.Rows
namespace Mine
set_option linter.unusedVariables false

/-! calls of the text's own -/
def FnOK (C : Cfg) (f : Addr) (l : Nat) (rf : Bool) (φ : List D → Option D) : Prop :=
  ∀ (A : Around) (s : Shared) (vs : List Value) (ds : List D) (d : D) (N : Addr → Prop), Room A l → GlobOK C s.heap → NOK C s.heap N → RepLC C s.heap N vs ds → φ ds = some d →
    codeAny (model C.prog C.w) A (.call (.ref f) ⟨vs, []⟩) (fun r s' => ∃ v, r = .ok (.ret v) ∧ Ext C s s' ∧ RepC C s'.heap N v d ∧ (rf = true → ∀ a, v = .ref a → s.heap.get? a = none)) s
def FnG (C : Cfg) (x : Str) (l : Nat) (rf : Bool) (φ : List D → Option D) : Prop := ∃ fa o fd, C.mg x = some (.ref fa) ∧ C.K.lookup fa = some o ∧ o.data = .func fd ∧ FnOK C fa l rf φ
theorem Room.le {A : Around} {l l' : Nat} (r : Room A l) (h : l' ≤ l) : Room A l' := ⟨r.1, by have := r.2.1; omega, by have := r.2.2; omega⟩
def callM (cl : EEnv → Bool) (rf : Bool) : EEnv → Mk := fun ρ => if cl ρ then .fr else if rf then .fu else .unk
def callF (φ : List D → Option D) (fs : EEnv → Option (List D)) : EEnv → Option D := fun ρ => (fs ρ).bind φ
section
variable {C : Cfg} {Γ : Sc} {l : Nat} {A : Around} {F : Fx} {env : Env} {ρ : EEnv} {s : Shared} {d : D} {e e₁ e₂ : Expr} {es : List Expr} {f f₁ f₂ : EEnv → Option D} {m m₁ m₂ : EEnv → Mk} {fs : EEnv → Option (List D)} {cl : EEnv → Bool}
theorem Cx.nok (c : Cx C Γ l A F env ρ s) : NOK C s.heap (fun a => ¬ F.volc a) := ⟨fun a e q => c.fresh_vol e (c.rel.vc a q), c.notT, fun a o k q => c.rel.vK a o k (c.rel.vc a q), fun a h q => c.rel.vlow a h (c.rel.vc a q)⟩
theorem Cx.nok0 (c : Cx C Γ l A F env ρ s) : NOK C s.heap (fun a => ¬ F.vol a) := ⟨fun a e => c.fresh_vol e, c.notT0, c.rel.vK, c.rel.vlow⟩
theorem call_ok {x : Str} {np p : Pos} {l' : Nat} {rf : Bool} {φ : List D → Option D} (hf : FnG C x l' rf φ) (hl : l' ≤ l) (hk : Γ.names.lookup x = some .globalImplicit) (hd : (x == ("__debug__" : Str)) = false)
    (y : ArgsOK C Γ l (e :: es) fs cl) (he : ∀ env, starEach (e :: es) env = (false, eval e env) :: starEach es env) : EvOK C Γ l (.Call (.Name x np) (e :: es) [] p) (callF φ fs) (callM cl rf) := by
  intro A F env ρ s d c fd
  obtain ⟨ds, h₁, fd⟩ := Option.bind_eq_some_iff.mp fd
  obtain ⟨fa, o, fdd, hmg, hK, hdat, hF⟩ := hf
  refine wpAny_Call_NameR (global_name c hk hmg hd ?_)
  refine callWith_def hdat (wpAny_mono (y A F env ρ s ds p c h₁) (fun vs s₁ k₁ => ?_) fun _ _ e => e) (he env)
  obtain ⟨e₁, _, w, k⟩ := k₁
  have c₁ := c.ext e₁
  refine ⟨c₁.glob.inK _ _ hK, wpAny_call ?_⟩
  by_cases hc : cl ρ = true
  · refine codeAny_mono (hF A s₁ vs ds d _ (c.room.le hl) c₁.glob c₁.nok0 (k hc) fd) fun r s₂ q => ?_
    obtain ⟨v, rfl, e₂, rv, _⟩ := q
    refine ⟨e₁.trans e₂, ?_⟩
    simp only [callM, hc, if_true]
    exact rv
  · refine codeAny_mono (hF A s₁ vs ds d _ (c.room.le hl) c₁.glob c₁.nok w fd) fun r s₂ q => ?_
    obtain ⟨v, rfl, e₂, rv, hr⟩ := q
    refine ⟨e₁.trans e₂, ?_⟩
    simp only [callM, hc]
    cases rf with
    | true => exact ⟨rv, fun a q => e₁.none (hr rfl a q)⟩
    | false => exact rv

/-! built-in functions -/
/-- a built-in name of the top's is not hidden -/
def BI (C : Cfg) (Γ : Sc) (x : Str) : Prop := Γ.names.lookup x = some .globalImplicit ∧ C.mg x = none ∧ x ≠ "__name__" ∧ (x == ("__debug__" : Str)) = false
def lenD : D → Option D
  | .list xs => some (.int xs.length)
  | .tup xs => some (.int xs.length)
  | .dict kvs => some (.int kvs.length)
  | _ => none
theorem len_lt (n : Nat) (h : n ≤ sizeLine) : (n : Int) < 2 ^ 63 := by unfold sizeLine at h; omega
theorem call1 {x : Str} {np p : Pos} {id : String} {Q : Value → Shared → Prop} (c : Cx C Γ l A F env ρ s) (hb : BI C Γ x) (hv : bootBuiltins x = some (.builtin id)) (he : ∀ env, starEach [e] env = [(false, eval e env)])
    (h : Wp C A (eval e env) (fun v s₁ => Wp C A (call (.builtin id) [v]) Q s₁) s) : Wp C A (eval (.Call (.Name x np) [e] [] p) env) Q s := by
  refine wpAny_Call_NameR (builtin_name c hb.1 hb.2.1 hv hb.2.2.1 hb.2.2.2 ?_)
  exact callWith_builtin1 (args_cons (wpAny_mono h (fun v s₁ k => args_nil k) fun _ _ e => e) (he env)) (he env)
theorem len_ok {np p : Pos} (hb : BI C Γ "len") (x : EvOK C Γ l e f m) (he : ∀ env, starEach [e] env = [(false, eval e env)]) : EvOK C Γ l (.Call (.Name "len" np) [e] [] p) (un lenD f) (fun _ => .fr) := by
  intro A F env ρ s d c fd
  obtain ⟨d₁, h₁, fd⟩ := Option.bind_eq_some_iff.mp fd
  refine call1 c hb (id := "len") (by decide +kernel) he (x.run c h₁ fun v s₁ e₁ c₁ r₁ => ?_)
  have w := c.weak e₁ r₁
  cases w <;> simp only [lenD, reduceCtorEq, Option.some.injEq] at fd
  · rename_i n pl ln r
    subst fd
    refine len_list pl.isList (by simpa using len_lt _ ln) ⟨e₁.trans tok_ext, ?_⟩
    rw [List.size_toArray, r.length]
    exact .int _ _
  · rename_i n pl ln r
    subst fd
    refine len_tuple pl.isTup (by simpa using len_lt _ ln) ⟨e₁.trans tok_ext, ?_⟩
    rw [List.size_toArray, r.length]
    exact .int _ _
  · rename_i n q pl ln r
    subst fd
    refine call_len_dict q pl (len_lt _ ln) ⟨e₁.trans tok_ext, ?_⟩
    rw [r.length]
    exact .int _ _
def rangeD : D → Option D
  | .int n => some (.rng 0 n 1)
  | _ => none
theorem callT {x : Str} {np p : Pos} {T : String} {Q : Value → Shared → Prop} {es : List Expr} (c : Cx C Γ l A F env ρ s) (hb : BI C Γ x) (hv : bootBuiltins x = some (.type T)) (he : ∀ env, starEach (e :: es) env = (false, eval e env) :: starEach es env)
    (hpl : ∀ env, (backTo p (starEach es env)).any (·.1) = false)
    (h : Wp C A (spliced (backTo p (starEach (e :: es) env))) (fun vs s₁ => Wp C A (call (.type T) vs) Q s₁) s) : Wp C A (eval (.Call (.Name x np) (e :: es) [] p) env) Q s := by
  refine wpAny_Call_NameR (builtin_name c hb.1 hb.2.1 hv hb.2.2.1 hb.2.2.2 ?_)
  exact callWith_type1 h (he env) (hpl env)
theorem range_ok {np p : Pos} (hb : BI C Γ "range") (x : EvOK C Γ l e f m) (he : ∀ env, starEach [e] env = [(false, eval e env)]) : EvOK C Γ l (.Call (.Name "range" np) [e] [] p) (un rangeD f) (fun _ => .fr) := by
  intro A F env ρ s d c fd
  obtain ⟨d₁, h₁, fd⟩ := Option.bind_eq_some_iff.mp fd
  refine callT c hb (T := "range") (by decide +kernel) he (fun _ => rfl) (args_cons (x.run c h₁ fun v s₁ e₁ c₁ r₁ => args_nil ?_) (he env))
  have w := c.weak e₁ r₁
  cases w <;> simp only [rangeD, reduceCtorEq, Option.some.injEq] at fd
  subst fd
  exact call_range_1 ⟨e₁.trans push_ext, .rng (fresh_not_vol (c.vol_later e₁) (fresh_size _)) (IsRange.new ..)⟩
end
end Mine

set_option autoImplicit false
open PySem PyProof.Rows
namespace Mine
set_option linter.unusedVariables false

/-! sorting texts -/
def leS (a b : Str) : Bool := !Spec.ltCps b.cps.toList a.cps.toList
theorem leS_iff (a b : Str) : leS a b = true ↔ a.cps.toList ≤ b.cps.toList := by
  unfold leS
  rw [ltCps_eq, Bool.not_eq_true', decide_eq_false_iff_not, List.not_lt]
theorem leS_trans {a b c : Str} (h : leS a b = true) (h' : leS b c = true) : leS a c = true := by
  rw [leS_iff] at *; exact List.le_trans h h'
theorem leS_total (a b : Str) : leS a b = true ∨ leS b a = true := by
  rw [leS_iff, leS_iff]; exact List.le_total _ _
theorem leS_antisymm {a b : Str} (h : leS a b = true) (h' : leS b a = true) : a = b := by
  rw [leS_iff] at *
  have := List.le_antisymm h h'
  obtain ⟨x⟩ := a; obtain ⟨y⟩ := b
  congr
  exact Array.toList_inj.mp this
def insS (x : Str) : List Str → List Str
  | [] => [x]
  | y :: r => if leS x y then x :: y :: r else y :: insS x r
def sortS (l : List Str) : List Str := l.foldr insS []
theorem insS_perm (x : Str) : ∀ l, (insS x l).Perm (x :: l)
  | [] => .refl _
  | y :: r => by
    unfold insS
    split
    · exact .refl _
    · exact ((insS_perm x r).cons y).trans (.swap x y r)
theorem sortS_perm : ∀ l, (sortS l).Perm l
  | [] => .refl _
  | x :: r => (insS_perm x _).trans ((sortS_perm r).cons x)
theorem insS_sorted (x : Str) : ∀ l : List Str, l.Pairwise (fun a b => leS a b = true) → (insS x l).Pairwise (fun a b => leS a b = true)
  | [], _ => List.pairwise_cons.mpr ⟨fun _ h => (nomatch h), .nil⟩
  | y :: r, h => by
    obtain ⟨h1, h2⟩ := List.pairwise_cons.mp h
    unfold insS
    split
    · rename_i hx
      exact List.pairwise_cons.mpr ⟨fun z hz => (List.mem_cons.mp hz).elim (fun e => e ▸ hx) fun hz => leS_trans hx (h1 z hz), h⟩
    · rename_i hx
      have hyx : leS y x = true := (leS_total x y).resolve_left hx
      refine List.pairwise_cons.mpr ⟨fun z hz => ?_, insS_sorted x r h2⟩
      rcases List.mem_cons.mp ((insS_perm x r).mem_iff.mp hz) with rfl | hz
      · exact hyx
      · exact h1 z hz
theorem sortS_sorted : ∀ l, (sortS l).Pairwise (fun a b => leS a b = true)
  | [] => .nil
  | x :: r => insS_sorted x _ (sortS_sorted r)
theorem sortS_unique {l l' : List Str} (hp : l'.Perm l) (hs : l'.Pairwise (fun a b => leS a b = true)) : l' = sortS l :=
  List.Perm.eq_of_pairwise (fun a b _ _ h h' => leS_antisymm h h') hs (sortS_sorted l) (hp.trans (sortS_perm l).symm)
theorem sortedS_pairwise : ∀ {l : List Str}, sortedS l = true → l.Pairwise (fun a b => leS a b = true)
  | [], _ => .nil
  | x :: r, h => by
    have key : ∀ (p : Str) (r : List Str), risingS p r = true → (p :: r).Pairwise (fun a b => leS a b = true) := by
      intro p r
      induction r generalizing p with
      | nil => intro _; exact List.pairwise_cons.mpr ⟨fun _ h => (nomatch h), .nil⟩
      | cons y r ih =>
        intro h
        obtain ⟨h1, h2⟩ := Bool.and_eq_true_iff.mp h
        have ih' := ih y h2
        refine List.pairwise_cons.mpr ⟨fun z hz => ?_, ih'⟩
        rcases List.mem_cons.mp hz with rfl | hz
        · exact h1
        · exact leS_trans h1 ((List.pairwise_cons.mp ih').1 z hz)
    exact key x r h

def unStrs : List D → Option (List Str)
  | [] => some []
  | .str x :: r => (unStrs r).map (x :: ·)
  | _ => none
def sortD : D → Option D
  | .list xs => (unStrs xs).bind fun ss => if ss.length < 64 then some (.list ((sortS ss).map D.str)) else none
  | _ => none
def unBools : List D → Option (List Bool)
  | [] => some []
  | .bool x :: r => (unBools r).map (x :: ·)
  | _ => none
def allD (d : D) : Option D := (d.items.bind unBools).map fun bs => .bool (bs.all id)
section
variable {prog : Program} {w : World} {h : Heap} {N : Addr → Prop}
theorem RepL.strs : ∀ {vs : List Value} {ds : List D} {ss : List Str}, RepL prog w h N vs ds → unStrs ds = some ss → StrsAre vs ss ∧ ∀ x ∈ ss, PyData.strOk x = true
  | _, _, ss, .nil, e => by cases e; exact ⟨.nil, fun _ h => nomatch h⟩
  | _, _, ss, .cons x r, e => by
    cases x with
    | str y t hy =>
      obtain ⟨ss', e', rfl⟩ := Option.map_eq_some_iff.mp e
      obtain ⟨a, b⟩ := RepL.strs r e'
      exact ⟨.cons y t a, fun z hz => (List.mem_cons.mp hz).elim (fun q => q ▸ hy) (b z)⟩
    | _ => simp [unStrs] at e
theorem repL_strs : ∀ {vs : List Value} {ss : List Str}, StrsAre vs ss → (∀ x ∈ ss, PyData.strOk x = true) → RepL prog w h N vs (ss.map D.str)
  | _, _, .nil, _ => .nil
  | _, _, .cons x t r, hk => .cons (.str x t (hk x (.head _))) (repL_strs r fun y hy => hk y (.tail _ hy))
theorem unBools_get : ∀ {ds : List D} {bs : List Bool}, unBools ds = some bs → ds = bs.map D.bool
  | [], bs, e => by cases e; rfl
  | .bool x :: r, bs, e => by
    obtain ⟨bs', e', rfl⟩ := Option.map_eq_some_iff.mp e
    rw [unBools_get e']; rfl
  | .none :: _, _, e | .int _ :: _, _, e | .str _ :: _, _, e | .list _ :: _, _, e | .tup _ :: _, _, e | .dict _ :: _, _, e | .rng _ _ _ :: _, _, e => by simp [unBools] at e
end

section
variable {C : Cfg} {Γ : Sc} {l : Nat} {A : Around} {F : Fx} {env : Env} {ρ : EEnv} {s : Shared} {d : D} {e e₁ e₂ : Expr} {es : List Expr} {f f₁ f₂ : EEnv → Option D} {m m₁ m₂ : EEnv → Mk} {fs : EEnv → Option (List D)} {cl : EEnv → Bool}
theorem sorted_ok {np p : Pos} (hb : BI C Γ "sorted") (x : EvOK C Γ l e f m) (he : ∀ env, starEach [e] env = [(false, eval e env)]) : EvOK C Γ l (.Call (.Name "sorted" np) [e] [] p) (un sortD f) (fun _ => .own 1) := by
  intro A F env ρ s d c fd
  obtain ⟨d₁, h₁, fd⟩ := Option.bind_eq_some_iff.mp fd
  refine call1 c hb (id := "sorted") (by decide +kernel) he (x.run c h₁ fun v s₁ e₁ c₁ r₁ => ?_)
  have w := c.weak e₁ r₁
  cases w <;> simp only [sortD, reduceCtorEq] at fd
  rename_i a vs ds n pl ln r
  obtain ⟨ss, h2, fd⟩ := Option.bind_eq_some_iff.mp fd
  split at fd
  · rename_i h64
    cases fd
    obtain ⟨hS, hk⟩ := r.strs h2
    refine sorted_strs pl.isList hS (by rw [StrsAre.length hS]; exact h64) fun out ss' h1 hp hs => ?_
    have hu := sortS_unique hp (sortedS_pairwise hs)
    subst hu
    have hkeep : ∀ b o, s₁.heap.get? b = some o → (sortedAll s₁.heap vs out).get? b = some o := fun b o e => sortedAll_old e
    obtain ⟨ep, hat⟩ := sortedAll_at s₁.heap vs out
    have hfr : s₁.heap.get? (s₁.heap.objs.size + 1) = none := by
      cases q : s₁.heap.get? (s₁.heap.objs.size + 1) with
      | none => rfl
      | some o => exact absurd (Heap.lt_size q) (Nat.not_lt.mpr (Nat.le_succ _))
    refine ⟨e₁.trans (Ext.of (tk := s₁.toks) hkeep), ?_⟩
    have hlen : out.toList.length ≤ sizeLine := by
      rw [StrsAre.length h1, (sortS_perm ss).length_eq]
      exact Nat.le_trans (Nat.le_of_lt h64) (by unfold sizeLine; decide)
    refine own1_list (h := s₁.heap) (e₁.none hfr) hfr ⟨ep, by simpa [seqObj] using hat⟩ hlen (fun b o _ e => hkeep b o e) (repL_strs h1 fun x hx => hk x ((sortS_perm ss).mem_iff.mp hx))
  · cases fd
theorem truthOf {n : Nat} {P : Nat → Value → Prop} {bs : List Bool} {hs : Heap} {N : Addr → Prop} (hP : ∀ i v, P i v → ∃ d, (bs.map D.bool)[i]? = some d ∧ RepC C hs N v d) : TruthOf C.prog C.w A P (fun i => (bs[i]?).getD false) := by
  intro i v s Q E hp hq
  obtain ⟨d, hd, r⟩ := hP i v hp
  rw [List.getElem?_map] at hd
  obtain ⟨b, hb, rfl⟩ := Option.map_eq_some_iff.mp hd
  cases r
  dsimp only at hq
  rw [hb] at hq
  exact wpAny_truthy_bool hq
theorem range_all (bs : List Bool) : (List.range bs.length).all (fun i => (bs[i]?).getD false) = bs.all id := by
  have : bs = (List.range bs.length).map fun i => (bs[i]?).getD false := by
    apply List.ext_getElem? ; intro i
    by_cases h : i < bs.length
    · simp [h]
    · simp [h]
  conv => rhs; rw [this, List.all_map]
  rfl
theorem all_ok {np p : Pos} (hb : BI C Γ "all") (x : EvOK C Γ l e f m) (he : ∀ env, starEach [e] env = [(false, eval e env)]) : EvOK C Γ l (.Call (.Name "all" np) [e] [] p) (un allD f) (fun _ => .fr) := by
  intro A F env ρ s d c fd
  obtain ⟨d₁, h₁, fd⟩ := Option.bind_eq_some_iff.mp fd
  obtain ⟨bs, fd', rfl⟩ := Option.map_eq_some_iff.mp fd
  obtain ⟨ds, hi, fd''⟩ := Option.bind_eq_some_iff.mp fd'
  obtain rfl := unBools_get fd''
  refine call1 c hb (id := "all") (by decide +kernel) he (x.run c h₁ fun v s₁ e₁ c₁ r₁ => ?_)
  have w := c.weak e₁ r₁
  refine call_all_walk (wpAny_mono (iter_ok (w.two hi) hi (A := A.in1) c.room.1) (fun it s₂ k => ?_) fun _ _ e => e)
  obtain ⟨e₂, I, fp, wr, P, St, rfl, W, st, hwr, hfp, hlt, hP, _, _, _⟩ := k
  refine ⟨I, fp, wr, _, P, St, _, rfl, W, st, truthOf (n := 0) hP, fun h' tk hk => ⟨e₁.trans (Ext.wr c₁.glob e₂ (W := (· ∈ wr)) hwr hk), ?_⟩⟩
  rw [List.length_map, range_all]; exact .bool _
end
end Mine

set_option autoImplicit false
open PySem PyProof.Rows
namespace Mine
set_option linter.unusedVariables false

/-- states where the objects of V may have turned -/
structure ExtV (C : Cfg) (V : Addr → Prop) (s s' : Shared) : Prop where
  keep : ∀ b o, ¬ C.T b → ¬ V b → s.heap.get? b = some o → s'.heap.get? b = some o
  dom : ∀ b o, s.heap.get? b = some o → ∃ o', s'.heap.get? b = some o'
  tab : C.TB s.heap → C.TB s'.heap
  gens : AllBare s.gens → AllBare s'.gens
  os : s'.os = s.os
theorem Ext.v {C : Cfg} {V : Addr → Prop} {s s' : Shared} (e : Ext C s s') : ExtV C V s s' := ⟨fun b o t _ q => e.keep b o t q, e.dom, e.tab, e.gens, e.os⟩
theorem ExtV.none {C : Cfg} {V : Addr → Prop} {s s' : Shared} (x : ExtV C V s s') {a : Addr} (e : s'.heap.get? a = Option.none) : s.heap.get? a = Option.none := by
  cases q : s.heap.get? a with
  | none => rfl
  | some o => obtain ⟨o', e'⟩ := x.dom a o q; rw [e] at e'; cases e'
theorem ExtV.trans {C : Cfg} {V V' : Addr → Prop} {s s' s'' : Shared} (x : ExtV C V s s') (y : ExtV C V' s' s'') (h : ∀ b, V' b → V b ∨ s.heap.get? b = Option.none) : ExtV C V s s'' :=
  ⟨fun b o t n q => y.keep b o t (fun v => (h b v).elim n fun z => by rw [z] at q; cases q) (x.keep b o t n q), fun b o q => let ⟨_, q'⟩ := x.dom b o q; y.dom b _ q', fun t => y.tab (x.tab t), fun g => y.gens (x.gens g), y.os.trans x.os⟩
theorem ExtV.ext {C : Cfg} {V : Addr → Prop} {s s' : Shared} (x : ExtV C V s s') (h : ∀ b, V b → s.heap.get? b = Option.none) : Ext C s s' :=
  ⟨fun b o t q => x.keep b o t (fun v => by rw [h b v] at q; cases q) q, x.dom, x.tab, x.gens, x.os⟩
theorem GlobOK.extV {C : Cfg} {V : Addr → Prop} {s s' : Shared} (x : GlobOK C s.heap) (e : ExtV C V s s') (hK : ∀ a o, C.K.lookup a = some o → ¬ V a) (hg : ¬ V mainGlobals) (hb : ¬ V builtinsNs) (hs : ¬ V cStatics) : GlobOK C s'.heap :=
  ⟨fun a o q => e.keep a o (C.hK a o q) (hK a o q) (x.inK a o q), Ns.kept x.g fun o => e.keep _ o C.hTg hg, Ns.kept x.b fun o => e.keep _ o C.hTb hb, x.bi, (let ⟨mc, p, q⟩ := x.nolim; ⟨mc, Ns.kept p fun o => e.keep _ o C.hTs hs, q⟩), e.tab x.tb,
    fun a t => let ⟨o, q⟩ := x.tdom a t; e.dom a o q⟩

def LocA (F : Fx) (b : Addr) : Prop := ∃ l ∈ F.locs, l.addr = b
def LocI (F : Fx) (is : List Nat) (b : Addr) : Prop := ∃ i ∈ is, ∃ l, F.locs[i]? = some l ∧ l.addr = b
theorem LocI.a {F : Fx} {is : List Nat} {b : Addr} (x : LocI F is b) : LocA F b := let ⟨_, _, l, h, e⟩ := x; ⟨l, List.mem_of_getElem? h, e⟩
theorem LocI.mono {F : Fx} {is js : List Nat} {b : Addr} (h : ∀ i ∈ is, i ∈ js) (x : LocI F is b) : LocI F js b := let ⟨i, hi, r⟩ := x; ⟨i, h i hi, r⟩
theorem ExtV.mono {C : Cfg} {V V' : Addr → Prop} {s s' : Shared} (x : ExtV C V s s') (h : ∀ b, V b → V' b) : ExtV C V' s s' := ⟨fun b o t n q => x.keep b o t (fun v => n (h b v)) q, x.dom, x.tab, x.gens, x.os⟩

section
variable {C : Cfg} {Γ : Sc} {l : Nat} {A : Around} {F : Fx} {env : Env} {ρ : EEnv} {s : Shared} {d : D}
/-- a name of the frame is stored -/
theorem RelE.store {h h' : Heap} {i : Nat} {lc : Loc} {v : Value} (r : RelE C F h ρ) (hi : F.locs[i]? = some lc) (hsb : ∀ b, b ≠ lc.addr → h'.get? b = h.get? b) (hv : LocHas h' lc v)
    (hns : ∀ L x, lc = .ns L x → ∀ m, h.Ns L m → h'.Ns L (fun y => if y = x then some v else m y)) (rv : RepC C h (fun a => ¬ F.vol a) v d) : RelE C F h' (ρ.set i (some (d, .fr))) := by
  have hlv : F.volc lc.addr := (r.loc lc (List.mem_of_getElem? hi)).1
  have hex : ∃ o, h'.get? lc.addr = some o := by
    cases lc with
    | ns L x => obtain ⟨m, ⟨o, _, _, e, _⟩, _⟩ := hv; exact ⟨o, e⟩
    | cell c => obtain ⟨o, e, _⟩ := hv; exact ⟨o, e⟩
  have kv : ∀ a o, ¬ F.vol a → h.get? a = some o → h'.get? a = some o := fun a o n q => (hsb a (fun e => n (e ▸ r.vc _ hlv))).trans q
  have kc : ∀ a o, ¬ F.volc a → h.get? a = some o → h'.get? a = some o := fun a o n q => (hsb a (fun e => n (e ▸ hlv))).trans q
  have other : ∀ (j : Nat) (lj : Loc), F.locs[j]? = some lj → j ≠ i → ∀ u, LocHas h lj u → LocHas h' lj u := by
    intro j lj hj hne u hu
    by_cases ha : lj.addr = lc.addr
    · obtain ⟨L, x, y, rfl, rfl, hxy⟩ := r.dist j i lj lc hj hi hne ha
      obtain ⟨m, hm, hmu⟩ := hu
      exact ⟨_, hns L y rfl m hm, by rw [if_neg hxy]; exact hmu⟩
    · exact hu.kept fun o q => (hsb _ ha).trans q
  refine ⟨fun a q => ?_, r.vc, r.vT, r.vK, r.vlow, r.newc, fun a q => ?_, r.loc, fun lj hlj => ?_, r.dist, by rw [List.length_set]; exact r.len, fun j dj mj q => ?_⟩
  · by_cases ha : a = lc.addr
    · subst ha; exact hex
    · rw [hsb a ha]; exact r.hv a q
  · by_cases ha : a = lc.addr
    · subst ha; obtain ⟨o, e⟩ := hex; rw [e] at q; cases q
    · rw [hsb a ha] at q; exact r.newf a q
  · by_cases ha : lj.addr = lc.addr
    · cases lj with
      | ns L x =>
        obtain ⟨m, hm⟩ := r.locex _ hlj
        cases lc with
        | ns L' x' => cases ha; exact ⟨_, hns _ _ rfl m hm⟩
        | cell c =>
          exfalso
          obtain ⟨j, hj⟩ := List.mem_iff_getElem?.mp hlj
          by_cases hji : j = i
          · subst hji; rw [hi] at hj; cases hj
          · obtain ⟨_, _, _, _, q, _⟩ := r.dist j i _ _ hj hi hji ha; cases q
      | cell c =>
        cases lc with
        | ns L' x' =>
          exfalso
          obtain ⟨j, hj⟩ := List.mem_iff_getElem?.mp hlj
          by_cases hji : j = i
          · subst hji; rw [hi] at hj; cases hj
          · obtain ⟨_, _, _, q, _, _⟩ := r.dist j i _ _ hj hi hji ha; cases q
        | cell c' => cases ha; exact ⟨_, hv⟩
    · exact (r.locex lj hlj).kept fun o q => (hsb _ ha).trans q
  · by_cases hji : j = i
    · subst hji
      have hjl : j < ρ.length := by rw [r.len]; exact (List.getElem?_eq_some_iff.mp hi).1
      rw [List.getElem?_set_self hjl] at q
      cases q
      exact ⟨lc, v, hi, hv, rv.trans (fun _ n => n) kv⟩
    · rw [List.getElem?_set_ne (fun e => hji e.symm)] at q
      obtain ⟨lj, u, h1, h2, h3⟩ := r.slot j dj mj q
      refine ⟨lj, u, h1, other j lj h1 hji u h2, ?_⟩
      cases mj with
      | fr => exact Rep.trans (fun _ n => n) kv h3
      | bor =>
        obtain ⟨O, t, f⟩ := h3
        exact ⟨O, t.trans (fun _ n => n) kv fun a ha o q => kc a o (r.newc a (f a ha)) q, f⟩
      | own k => exact Rep.trans (fun _ n => n) kc h3
      | unk => exact Rep.trans (fun _ n => n) kc h3
      | fu => exact Rep.trans (fun _ n => n) kc h3
theorem vol_tab {h h' : Heap} {V : Addr → Prop} (hT : ∀ b, V b → ¬ C.T b) (hK : ∀ b o, C.K.lookup b = some o → ¬ V b) (k : ∀ b o, ¬ V b → h.get? b = some o → h'.get? b = some o) : C.TB h → C.TB h' :=
  C.hTB _ _ fun b o hb q => k b o (fun v => hb.elim (hT b v) fun z => by obtain ⟨o', z⟩ := Option.isSome_iff_exists.mp z; exact hK b o' z v) q
theorem store_ok {x : Str} {i : Nat} {v : Value} (c : Cx C Γ l A F env ρ s) (hx : Γ.slots.lookup x = some i) (rv : RepC C s.heap (fun a => ¬ F.vol a) v d) :
    Wp C A (storeName env x v) (fun _ s' => ExtV C (LocI F [i]) s s' ∧ RelE C F s'.heap (ρ.set i (some (d, .fr)))) s := by
  have ev : ∀ (lc : Loc) (h' : Heap) (tk : Nat), F.locs[i]? = some lc → (∀ b, b ≠ lc.addr → h'.get? b = s.heap.get? b) → (∃ o, h'.get? lc.addr = some o) → ExtV C (LocI F [i]) s { s with heap := h', toks := tk } := by
    intro lc h' tk hm hsb hex
    have kk : ∀ b o, ¬ LocI F [i] b → s.heap.get? b = some o → h'.get? b = some o := fun b o n q => (hsb b (fun e => n ⟨i, .head _, lc, hm, e.symm⟩)).trans q
    refine ⟨fun b o _ n q => kk b o n q, fun b o q => ?_, vol_tab (V := LocI F [i]) ?_ ?_ kk, id, rfl⟩
    · by_cases hb : b = lc.addr
      · subst hb; exact hex
      · exact ⟨o, (hsb b hb).trans q⟩
    · rintro b ⟨_, _, lc', hm', rfl⟩; exact (c.rel.loc lc' (List.mem_of_getElem? hm')).2
    · rintro b o k ⟨_, _, lc', hm', rfl⟩; exact c.rel.vK _ o k (c.rel.vc _ (c.rel.loc lc' (List.mem_of_getElem? hm')).1)
  rcases c.env.slot x i hx with ⟨q, nk⟩ | ⟨cc, q, nk, ck⟩
  · have hm := List.mem_of_getElem? q
    obtain ⟨m, hn⟩ := c.rel.locex _ hm
    refine wpAny_storeName_local (by unfold Env.kindOf; rw [c.env.names]; exact nk) hn (fun h' hn' hs' => ?_) (by rw [c.env.kind]; rfl)
    refine ⟨ev _ h' _ q (fun b hb => hs'.2 b hb) (let ⟨o, _, _, e, _⟩ := hn'; ⟨o, e⟩), ?_⟩
    refine c.rel.store q (fun b hb => hs'.2 b hb) ⟨_, hn', by simp⟩ (fun L y e m' hm' => ?_) rv
    cases e
    obtain ⟨o1, es1, ep1, a1, a2, a3, a4⟩ := hn
    obtain ⟨o2, es2, ep2, b1, b2, b3, b4⟩ := hm'
    rw [a1] at b1; cases b1
    rw [a2] at b2; cases b2
    have : m' = m := funext fun z => (b4 z).symm.trans (a4 z)
    rw [this]
    exact hn'
  · have hm := List.mem_of_getElem? q
    obtain ⟨v₀, hc₀⟩ := c.rel.locex _ hm
    refine wpAny_storeName_cell c.env.kind (by unfold Env.kindOf; rw [c.env.names]; exact nk) ck hc₀ fun h' hc' hs' => ?_
    refine ⟨ev _ h' _ q (fun b hb => hs'.2 b hb) (let ⟨o, e, _⟩ := hc'; ⟨o, e⟩), ?_⟩
    exact c.rel.store q (fun b hb => hs'.2 b hb) hc' (fun L y e m' hm' => by cases e) rv

/-! targets -/
def AsgOK (C : Cfg) (Γ : Sc) (l : Nat) (t : Expr) (is : List Nat) (upd : EEnv → D → Option EEnv) : Prop :=
  ∀ (A : Around) (F : Fx) (env : Env) (ρ : EEnv) (s : Shared) (v : Value) (d : D) (ρ' : EEnv), Cx C Γ l A F env ρ s → RepC C s.heap (fun a => ¬ F.vol a) v d → upd ρ d = some ρ' →
    Wp C A (assign t env v) (fun _ s' => ExtV C (LocI F is) s s' ∧ RelE C F s'.heap ρ') s
def setN (i : Nat) : EEnv → D → Option EEnv := fun ρ d => some (ρ.set i (some (d, .fr)))
def setL : List Nat → EEnv → List D → Option EEnv
  | [], ρ, [] => some ρ
  | i :: is, ρ, d :: ds => setL is (ρ.set i (some (d, .fr))) ds
  | _, _, _ => none
def setT (is : List Nat) : EEnv → D → Option EEnv := fun ρ d => match d with | .tup ds => setL is ρ ds | _ => none
theorem locA_vol (c : Cx C Γ l A F env ρ s) {b : Addr} : LocA F b → F.vol b := by
  rintro ⟨lc, hm, rfl⟩; exact c.rel.vc _ (c.rel.loc lc hm).1
theorem locA_glob (c : Cx C Γ l A F env ρ s) {s' : Shared} (e : ExtV C (LocA F) s s') : GlobOK C s'.heap :=
  c.glob.extV e (fun a o k v => c.rel.vK a o k (locA_vol c v)) (fun v => c.rel.vlow 3 (.inr (.inr rfl)) (locA_vol c v)) (fun v => c.rel.vlow 0 (.inl rfl) (locA_vol c v)) (fun v => c.rel.vlow 2 (.inr (.inl rfl)) (locA_vol c v))
theorem asg_name {x : Str} {p : Pos} {i : Nat} (hx : Γ.slots.lookup x = some i) : AsgOK C Γ l (.Name x p) [i] (setN i) := by
  intro A F env ρ s v d ρ' c rv hu
  cases hu
  exact wpAny_assign_Name (store_ok c hx rv)
theorem RepC.extV {V : Addr → Prop} {N : Addr → Prop} {s s' : Shared} {v : Value} {d : D} (hN : ∀ a, N a → ¬ C.T a ∧ ¬ V a) (e : ExtV C V s s') (x : RepC C s.heap N v d) : RepC C s'.heap N v d :=
  x.trans (fun _ n => n) fun a o n q => e.keep a o (hN a n).1 (hN a n).2 q
theorem RepLC.extV {V : Addr → Prop} {N : Addr → Prop} {s s' : Shared} {v : List Value} {d : List D} (hN : ∀ a, N a → ¬ C.T a ∧ ¬ V a) (e : ExtV C V s s') (x : RepLC C s.heap N v d) : RepLC C s'.heap N v d :=
  x.trans (fun _ n => n) fun a o n q => e.keep a o (hN a n).1 (hN a n).2 q
/-- names in a row -/
inductive Names (Γ : Sc) : List Expr → List Nat → Prop
  | nil : Names Γ [] []
  | cons {x : Str} {p : Pos} {i : Nat} {es : List Expr} {is : List Nat} : Γ.slots.lookup x = some i → Names Γ es is → Names Γ (.Name x p :: es) (i :: is)
theorem asgs_ok {es : List Expr} {is : List Nat} (hn : Names Γ es is) : ∀ (A : Around) (F : Fx) (env : Env) (ρ : EEnv) (s : Shared) (vs : List Value) (ds : List D) (ρ' : EEnv), Cx C Γ l A F env ρ s → RepLC C s.heap (fun a => ¬ F.vol a) vs ds → setL is ρ ds = some ρ' →
    Wp C A (assignInOrder ((assignEach es env).map (·.2)) vs) (fun _ s' => ExtV C (LocI F is) s s' ∧ RelE C F s'.heap ρ') s := by
  induction hn with
  | nil =>
    intro A F env ρ s vs ds ρ' c rv hu
    cases rv with
    | nil => cases hu; exact wpAny_assignInOrder_none ⟨(Ext.refl C s).v, c.rel⟩
    | cons => cases hu
  | @cons x p i es is hx hn ih =>
    intro A F env ρ s vs ds ρ' c rv hu
    cases rv with
    | nil => cases hu
    | @cons v vs d ds r rs =>
      refine wpAny_assignInOrder_more (wpAny_assign_Name (wpAny_mono (store_ok c hx r) (fun _ s₁ k => ?_) fun _ _ e => e))
      obtain ⟨e₁, r₁⟩ := k
      refine wpAny_mono (ih A F env _ s₁ vs ds ρ' ⟨c.room, c.env, r₁, locA_glob c (e₁.mono fun _ => LocI.a)⟩ (RepLC.extV (fun a n => ⟨c.notT0 a n, fun v => n (locA_vol c v.a)⟩) e₁ rs) hu) (fun _ s₂ k => ?_) fun _ _ e => e
      exact ⟨(e₁.mono fun b => LocI.mono fun j hj => List.mem_singleton.mp hj ▸ .head _).trans k.1 fun b v => .inl (v.mono fun j hj => .tail _ hj), k.2⟩
theorem names_plain {es : List Expr} {is : List Nat} (hn : Names Γ es is) (env : Env) : (assignEach es env).length = is.length ∧ (assignEach es env).findIdx? (·.1) = none := by
  induction hn with
  | nil => exact ⟨rfl, rfl⟩
  | @cons x p i es is hx hn ih =>
    have e : assignEach (.Name x p :: es) env = (false, assign (.Name x p) env) :: assignEach es env := rfl
    rw [e]
    refine ⟨by rw [List.length_cons, List.length_cons, ih.1], ?_⟩
    rw [List.findIdx?_cons]
    simp [ih.2]
theorem setL_len : ∀ {is : List Nat} {ρ : EEnv} {ds : List D} {ρ' : EEnv}, setL is ρ ds = some ρ' → is.length = ds.length
  | [], _, [], _, _ => rfl
  | [], _, _ :: _, _, e => by cases e
  | _ :: _, _, [], _, e => by cases e
  | i :: is, ρ, d :: ds, ρ', e => by rw [List.length_cons, List.length_cons, setL_len (is := is) e]
theorem asg_tuple {es : List Expr} {is : List Nat} {k : Nat} {p : Pos} (hn : Names Γ es is) : AsgOK C Γ l (.Tuple es k p) is (setT is) := by
  intro A F env ρ s v d ρ' c rv hu
  cases rv <;> simp only [setT, reduceCtorEq] at hu
  rename_i a vs ds n pl ln r
  have hl := setL_len hu
  refine wpAny_assign_Tuple c.room.1 pl.isTup (by rw [(names_plain hn env).1, List.size_toArray, r.length]; exact hl) (names_plain hn env).2 fun h' hx => ?_
  have ee : Ext C s { s with heap := h' } := Ext.of (tk := s.toks) fun b o e => hx b o (fun q => by rw [q, fresh_size] at e; cases e) e
  refine wpAny_mono (asgs_ok hn A F env ρ { s with heap := h' } vs ds ρ' (c.ext ee) (RepL.ext c.notT0 ee r) hu) (fun _ s₂ k => ?_) fun _ _ e => e
  exact ⟨(ee.v (V := LocI F is)).trans k.1 fun b v => .inl v, k.2⟩
end
end Mine

set_option autoImplicit false
open PySem PyProof.Rows
namespace Mine
set_option linter.unusedVariables false

section
variable {prog : Program} {w : World} {h : Heap} {N : Addr → Prop}
theorem OwnT.ex {k : Nat} {v : Value} {d : D} {O : List Addr} (x : OwnT prog w h N k v d O) : OwnT prog w h (fun a => N a ∧ ∃ o, h.get? a = some o) k v d O ∧ ∀ a ∈ O, ∃ o, h.get? a = some o :=
  OwnT.rec (motive_1 := fun k v d O _ => OwnT prog w h (fun a => N a ∧ ∃ o, h.get? a = some o) k v d O ∧ ∀ a ∈ O, ∃ o, h.get? a = some o) (motive_2 := fun k v d O _ => OwnL prog w h (fun a => N a ∧ ∃ o, h.get? a = some o) k v d O ∧ ∀ a ∈ O, ∃ o, h.get? a = some o)
    (motive_3 := fun k v d O _ => OwnE prog w h (fun a => N a ∧ ∃ o, h.get? a = some o) k v d O ∧ ∀ a ∈ O, ∃ o, h.get? a = some o)
    (fun r => ⟨.fz0 r.ex, fun _ h => nomatch h⟩) (fun c r => ⟨.fz c r.ex, fun _ h => nomatch h⟩) (fun p l _ r => ⟨.list p l r.1, fun a ha => (List.mem_cons.mp ha).elim (fun e => e ▸ plain_some p) (r.2 a)⟩)
    (fun e p l _ r => ⟨.dict e p l r.1, fun a ha => (List.mem_cons.mp ha).elim (fun e => e ▸ dict_some p) (r.2 a)⟩) ⟨.nil, fun _ h => nomatch h⟩ (fun _ _ x r => ⟨.cons x.1 r.1, fun a ha => (List.mem_append.mp ha).elim (x.2 a) (r.2 a)⟩)
    ⟨.nil, fun _ h => nomatch h⟩ (fun e _ _ x r => ⟨.cons e x.1 r.1, fun a ha => (List.mem_append.mp ha).elim (x.2 a) (r.2 a)⟩) x
theorem OwnL.ex {k : Nat} {v : List Value} {d : List D} {O : List Addr} (x : OwnL prog w h N k v d O) : OwnL prog w h (fun a => N a ∧ ∃ o, h.get? a = some o) k v d O ∧ ∀ a ∈ O, ∃ o, h.get? a = some o := by
  induction v generalizing d O with
  | nil => cases x; exact ⟨.nil, fun _ h => nomatch h⟩
  | cons v vs ih => cases x with | cons y r => exact ⟨.cons y.ex.1 (ih r).1, fun a ha => (List.mem_append.mp ha).elim (y.ex.2 a) ((ih r).2 a)⟩
theorem OwnE.ex {k : Nat} {v : List (Str × Value)} {d : List (Str × D)} {O : List Addr} (x : OwnE prog w h N k v d O) : OwnE prog w h (fun a => N a ∧ ∃ o, h.get? a = some o) k v d O ∧ ∀ a ∈ O, ∃ o, h.get? a = some o := by
  induction v generalizing d O with
  | nil => cases x; exact ⟨.nil, fun _ h => nomatch h⟩
  | cons v vs ih => cases x with | cons e y r => exact ⟨.cons e y.ex.1 (ih r).1, fun a ha => (List.mem_append.mp ha).elim (y.ex.2 a) ((ih r).2 a)⟩
end

/-- a frame with more names and more volatile addresses -/
def Fx.plus (F : Fx) (ls : List Loc) (W : Addr → Prop) : Fx := { locs := F.locs ++ ls, vol := fun a => F.vol a ∨ W a, volc := fun a => F.volc a ∨ W a, new := fun a => F.new a ∧ ¬ W a }
section
variable {C : Cfg} {Γ : Sc} {l : Nat} {A : Around} {F : Fx} {env : Env} {ρ : EEnv} {s : Shared} {d : D} {W : Addr → Prop} {ls : List Loc}
theorem slot_plus {h : Heap} {m : Mk} {v : Value} (hW : ∀ a, W a → h.get? a = none) (x : MkRep C F h h m.sl v d) : MkRep C (F.plus ls W) h h m.sl v d := by
  have nw : ∀ a, (∃ o, h.get? a = some o) → ¬ W a := fun a ⟨o, e⟩ w => by rw [hW a w] at e; cases e
  cases m with
  | fr => exact Rep.trans (fun a n q => q.elim n.1 (nw a n.2)) (fun _ _ _ e => e) (Rep.ex x)
  | bor =>
    obtain ⟨O, t, f⟩ := x
    exact ⟨O, t.ex.1.trans (fun a n q => q.elim n.1 (nw a n.2)) (fun _ _ _ e => e) fun _ _ _ e => e, fun a ha => ⟨f a ha, nw a (t.ex.2 a ha)⟩⟩
  | own k => exact Rep.trans (fun a n q => q.elim n.1 (nw a n.2)) (fun _ _ _ e => e) (Rep.ex x)
  | unk => exact Rep.trans (fun a n q => q.elim n.1 (nw a n.2)) (fun _ _ _ e => e) (Rep.ex x)
  | fu => exact Rep.trans (fun a n q => q.elim n.1 (nw a n.2)) (fun _ _ _ e => e) (Rep.ex x)
/-- the frame of a comprehension, at its start -/
theorem RelE.plus {s s₄ : Shared} {Ca : Addr} {xs : List Str} (r : RelE C F s.heap ρ) (g : GlobOK C s.heap) (e : Ext C s s₄) (hW : ∀ a, W a → s.heap.get? a = none) (hW4 : ∀ a, W a → ∃ o, s₄.heap.get? a = some o) (hC : W Ca) (hns : ∃ m, s₄.heap.Ns Ca m) (hnd : xs.Nodup) :
    RelE C (F.plus (xs.map (.ns Ca)) W) s₄.heap (ρ ++ List.replicate xs.length none) := by
  have r4 := r.ext e
  have hTW : ∀ a, W a → ¬ C.T a := fun a w t => by obtain ⟨o, q⟩ := g.tdom a t; rw [hW a w] at q; cases q
  have hla : ∀ lc ∈ F.locs, lc.addr ≠ Ca := fun lc hl q => by
    have := hW Ca hC
    obtain ⟨o, z⟩ := r.hv lc.addr (r.vc _ (r.loc lc hl).1)
    rw [q, this] at z; cases z
  have memls : ∀ lc ∈ xs.map (Loc.ns Ca), ∃ x, lc = .ns Ca x := fun lc hl => let ⟨x, _, e⟩ := List.mem_map.mp hl; ⟨x, e.symm⟩
  refine ⟨fun a q => q.elim (r4.hv a) (hW4 a), fun a q => q.elim (fun z => .inl (r.vc a z)) .inr, fun a t => .inl (r.vT a t), fun a o k q => q.elim (r.vK a o k) fun w => ?_, fun a ha q => q.elim (r.vlow a ha) fun w => ?_, fun a n q => q.elim (r.newc a n.1) n.2,
    fun a q => ⟨r4.newf a q, fun w => by obtain ⟨o, z⟩ := hW4 a w; rw [q] at z; cases z⟩, fun lc hl => ?_, fun lc hl => ?_, ?_, ?_, fun i d m q => ?_⟩
  · have := g.inK a o k; rw [hW a w] at this; cases this
  · have hh : ∃ o, s.heap.get? a = some o := by
      rcases ha with rfl | rfl | rfl
      · obtain ⟨o, _, _, e, _⟩ := g.b; exact ⟨o, e⟩
      · obtain ⟨_, ⟨o, _, _, e, _⟩, _⟩ := g.nolim; exact ⟨o, e⟩
      · obtain ⟨o, _, _, e, _⟩ := g.g; exact ⟨o, e⟩
    obtain ⟨o, z⟩ := hh; rw [hW a w] at z; cases z
  · rcases List.mem_append.mp hl with hl | hl
    · exact ⟨.inl (r.loc lc hl).1, (r.loc lc hl).2⟩
    · obtain ⟨x, rfl⟩ := memls lc hl; exact ⟨.inr hC, hTW Ca hC⟩
  · rcases List.mem_append.mp hl with hl | hl
    · exact r4.locex lc hl
    · obtain ⟨x, rfl⟩ := memls lc hl; exact hns
  · intro i j li lj hi hj hne ha
    have hi' : (F.locs ++ xs.map (Loc.ns Ca))[i]? = some li := hi
    have hj' : (F.locs ++ xs.map (Loc.ns Ca))[j]? = some lj := hj
    rw [List.getElem?_append] at hi' hj'
    split at hi' <;> split at hj'
    · exact r.dist i j li lj hi' hj' hne ha
    · obtain ⟨x, rfl⟩ := memls lj (List.mem_of_getElem? hj')
      exact absurd ha (hla li (List.mem_of_getElem? hi'))
    · obtain ⟨x, rfl⟩ := memls li (List.mem_of_getElem? hi')
      exact absurd ha.symm (hla lj (List.mem_of_getElem? hj'))
    · rw [List.getElem?_map] at hi' hj'
      obtain ⟨x, hx, rfl⟩ := Option.map_eq_some_iff.mp hi'
      obtain ⟨y, hy, rfl⟩ := Option.map_eq_some_iff.mp hj'
      refine ⟨Ca, x, y, rfl, rfl, fun exy => hne ?_⟩
      subst exy
      have := (List.getElem?_inj (List.getElem?_eq_some_iff.mp hx).1 hnd).mp (hx.trans hy.symm)
      omega
  · show (ρ ++ _).length = (F.locs ++ _).length
    rw [List.length_append, List.length_append, r.len, List.length_replicate, List.length_map]
  · have hlt : i < ρ.length := by
      rcases Nat.lt_or_ge i ρ.length with h | h
      · exact h
      · rw [List.getElem?_append_right h] at q
        rw [List.getElem?_replicate] at q
        split at q <;> cases q
    rw [List.getElem?_append_left hlt] at q
    obtain ⟨lc, v, h1, h2, h3⟩ := r.slot i d m q
    have k4 : ∀ o, s.heap.get? lc.addr = some o → s₄.heap.get? lc.addr = some o := fun o => e.keep _ o (r.loc lc (List.mem_of_getElem? h1)).2
    refine ⟨lc, v, ?_, h2.kept k4, ?_⟩
    · show (F.locs ++ _)[i]? = _
      rw [List.getElem?_append_left (by rw [← r.len]; exact hlt)]; exact h1
    · have h4 := slot_plus (ls := xs.map (.ns Ca)) hW h3
      have hTp : ∀ a, C.T a → (F.plus (xs.map (.ns Ca)) W).volc a := fun a t => .inl (r.vT a t)
      have h5 := MkRep.ext (F := F.plus (xs.map (.ns Ca)) W) (s := s) (s' := s₄) (fun a q => Or.elim q (fun z => .inl (r.vc a z)) .inr) hTp (fun a n q => Or.elim q (r.newc a n.1) n.2) (fun a t => g.tdom a t) e h4
      cases m <;> exact h5
/-- volatile objects that are no names turn -/
theorem RelE.turn {h h' : Heap} {V : Addr → Prop} (r : RelE C F h ρ) (hV : ∀ a, V a → F.volc a) (hl : ∀ lc ∈ F.locs, ¬ V lc.addr) (k : ∀ b o, ¬ V b → h.get? b = some o → h'.get? b = some o) (hex : ∀ b, V b → ∃ o, h'.get? b = some o) : RelE C F h' ρ := by
  have kv : ∀ a o, ¬ F.vol a → h.get? a = some o → h'.get? a = some o := fun a o n q => k a o (fun v => n (r.vc a (hV a v))) q
  have kc : ∀ a o, ¬ F.volc a → h.get? a = some o → h'.get? a = some o := fun a o n q => k a o (fun v => n (hV a v)) q
  have none' : ∀ a, h'.get? a = none → h.get? a = none := fun a q => by
    cases z : h.get? a with
    | none => rfl
    | some o =>
      by_cases hv : V a
      · obtain ⟨o', q'⟩ := hex a hv; rw [q] at q'; cases q'
      · rw [k a o hv z] at q; cases q
  refine ⟨fun a q => ?_, r.vc, r.vT, r.vK, r.vlow, r.newc, fun a q => r.newf a (none' a q), r.loc, fun lc h1 => (r.locex lc h1).kept fun o => k _ o (hl lc h1), r.dist, r.len, fun i d m q => ?_⟩
  · by_cases hv : V a
    · exact hex a hv
    · obtain ⟨o, z⟩ := r.hv a q; exact ⟨o, k a o hv z⟩
  · obtain ⟨lc, v, h1, h2, h3⟩ := r.slot i d m q
    refine ⟨lc, v, h1, h2.kept fun o => k _ o (hl lc (List.mem_of_getElem? h1)), ?_⟩
    cases m with
    | fr => exact Rep.trans (fun _ n => n) kv h3
    | bor =>
      obtain ⟨O, t, f⟩ := h3
      exact ⟨O, t.trans (fun _ n => n) kv fun a ha o q => kc a o (r.newc a (f a ha)) q, f⟩
    | own k => exact Rep.trans (fun _ n => n) kc h3
    | unk => exact Rep.trans (fun _ n => n) kc h3
    | fu => exact Rep.trans (fun _ n => n) kc h3
theorem RelE.weaken {h : Heap} {ρ' : EEnv} (r : RelE C F h ρ) (hlen : ρ'.length = ρ.length) (hw : ∀ (i : Nat) x, ρ'[i]? = some (some x) → ρ[i]? = some (some x)) : RelE C F h ρ' :=
  ⟨r.hv, r.vc, r.vT, r.vK, r.vlow, r.newc, r.newf, r.loc, r.locex, r.dist, hlen.trans r.len, fun i d m q => r.slot i d m (hw i _ q)⟩
end
end Mine

set_option autoImplicit false
open PySem PyProof.Rows
namespace Mine
set_option linter.unusedVariables false

/-! the scope of a comprehension -/
def relabelN (Γn names : List (Str × NameKind)) : List (Str × NameKind) := names.map fun (n, k) => if (k == .free && Γn.lookup n == some .cell) then (n, .cell) else (n, k)
def freeSlots (Γ : Sc) (names : List (Str × NameKind)) : List (Str × Nat) := names.filterMap fun p => if p.2 == .free then (Γ.slots.lookup p.1).map fun i => (p.1, i) else none
def compSc (Γ : Sc) (names : List (Str × NameKind)) (xs : List Str) (n : Nat) : Sc := { names := relabelN Γ.names names, slots := xs.zipIdx n ++ freeSlots Γ names }
def compChk (Γ : Sc) (names : List (Str × NameKind)) (xs : List Str) : Bool :=
  names.all (fun p => p.2 != .cell && (p.2 != .free || (names.lookup p.1 == some .free && Γ.names.lookup p.1 == some .cell && (Γ.slots.lookup p.1).isSome)) && (p.2 != .local || names.lookup p.1 == some .local)) && xs.all (fun x => names.lookup x == some .local) && decide xs.Nodup && !xs.isEmpty

def closL (env : Env) : List (Str × NameKind) → List (Str × Addr) → List (Str × Addr)
  | [], acc => acc
  | (x, k) :: r, acc => closL env r (if k == .free then (x, (env.cells.lookup x).getD 0) :: acc else acc)
theorem closureFor_eq {scope : Scope} {env : Env} (hf : ∀ p ∈ scope.names, p.2 = .free → ∃ c, env.cells.lookup p.1 = some c) : closureFor scope env = pure (closL env scope.names []) := by
  unfold closureFor
  have key : ∀ (names : List (Str × NameKind)) (acc : List (Str × Addr)), (∀ p ∈ names, p.2 = .free → ∃ c, env.cells.lookup p.1 = some c) →
      (forIn names acc (fun (x : Str × NameKind) (r : List (Str × Addr)) => (do
        if x.2 == .free then
          let c ← cellOf env x.1
          pure (ForInStep.yield ((x.1, c) :: r))
        else pure (ForInStep.yield r) : Sem (ForInStep (List (Str × Addr)))))) = pure (closL env names acc) := by
    intro names
    induction names with
    | nil => intro acc _; rfl
    | cons p r ih =>
      intro acc h
      obtain ⟨x, k⟩ := p
      rw [List.forIn_cons]
      have ih' := ih
      by_cases hk : k = .free
      · subst hk
        obtain ⟨c, hc⟩ := h (x, .free) (.head _) rfl
        have e : cellOf env x = pure c := by unfold cellOf; rw [hc]
        simp only [beq_self_eq_true, if_true]
        rw [e]
        show (forIn r ((x, c) :: acc) _ : Sem _) = _
        rw [ih _ fun q hq => h q (.tail _ hq)]
        simp [closL, hc]
      · have hb : (k == NameKind.free) = false := by simpa using hk
        simp only [hb]
        show (forIn r acc _ : Sem _) = _
        rw [ih _ fun q hq => h q (.tail _ hq)]
        simp [closL, hb]
  exact (congrArg (fun t : Sem (List (Str × Addr)) => t >>= fun cs => pure cs) (key scope.names [] hf)).trans rfl
theorem closL_lookup {env : Env} {x : Str} {c : Addr} (hc : env.cells.lookup x = some c) : ∀ (names : List (Str × NameKind)) (acc : List (Str × Addr)), ((x, NameKind.free) ∈ names ∨ acc.lookup x = some c) → (∀ d, acc.lookup x = some d → d = c) → (closL env names acc).lookup x = some c
  | [], acc, h, _ => by rcases h with h | h; cases h; exact h
  | (y, k) :: r, acc, h, h2 => by
    unfold closL
    by_cases hk : k = .free
    · subst hk
      simp only [beq_self_eq_true, if_true]
      by_cases hy : x = y
      · subst hy
        refine closL_lookup hc r _ (.inr ?_) ?_ <;> simp [hc]
      · have hb : (x == y) = false := by simpa using hy
        refine closL_lookup hc r _ ?_ ?_
        · rcases h with h | h
          · rcases List.mem_cons.mp h with h | h
            · cases h; exact absurd rfl hy
            · exact .inl h
          · right; simp [List.lookup_cons, hb, h]
        · simpa [List.lookup_cons, hb] using h2
    · have hb : (k == NameKind.free) = false := by simpa using hk
      simp only [hb]
      refine closL_lookup hc r acc ?_ h2
      rcases h with h | h
      · rcases List.mem_cons.mp h with h | h
        · cases h; exact absurd rfl hk
        · exact .inl h
      · exact .inr h
theorem lookup_relabel {Γn names : List (Str × NameKind)} {x : Str} {k : NameKind} (h : names.lookup x = some k) : (relabelN Γn names).lookup x = some (if (k == .free && Γn.lookup x == some .cell) then .cell else k) := by
  induction names with
  | nil => simp at h
  | cons p r ih =>
    obtain ⟨y, k'⟩ := p
    rw [List.lookup_cons] at h
    have e : relabelN Γn ((y, k') :: r) = (if (k' == .free && Γn.lookup y == some .cell) then (y, NameKind.cell) else (y, k')) :: relabelN Γn r := rfl
    rw [e]
    by_cases hy : x = y
    · subst hy
      simp at h; subst h
      by_cases hc : (k' == .free && Γn.lookup x == some .cell) = true
      · rw [if_pos hc, if_pos hc]; simp [List.lookup_cons]
      · rw [if_neg hc, if_neg hc]; simp [List.lookup_cons]
    · have hb : (x == y) = false := by simpa using hy
      rw [hb] at h
      have ih' := ih h
      by_cases hc : (k' == .free && Γn.lookup y == some .cell) = true
      · rw [if_pos hc]; simpa [List.lookup_cons, hb] using ih'
      · rw [if_neg hc]; simpa [List.lookup_cons, hb] using ih'
theorem lookup_append {α : Type} {l l' : List (Str × α)} {x : Str} {a : α} (h : (l ++ l').lookup x = some a) : l.lookup x = some a ∨ l'.lookup x = some a := by
  induction l with
  | nil => exact .inr h
  | cons p r ih =>
    obtain ⟨y, b⟩ := p
    rw [List.cons_append, List.lookup_cons] at h
    rw [List.lookup_cons]
    split at h
    · exact .inl h
    · exact ih h
theorem lookup_zipIdx {xs : List Str} {n i : Nat} {x : Str} (h : (xs.zipIdx n).lookup x = some i) : n ≤ i ∧ xs[i - n]? = some x := by
  induction xs generalizing n with
  | nil => simp at h
  | cons y r ih =>
    rw [List.zipIdx_cons, List.lookup_cons] at h
    split at h
    · rename_i hb; cases h; simp [beq_iff_eq.mp hb]
    · obtain ⟨h1, h2⟩ := ih h
      refine ⟨by omega, ?_⟩
      have : i - n = (i - (n + 1)) + 1 := by omega
      rw [this]; simpa using h2
theorem mem_freeSlots {Γ : Sc} {names : List (Str × NameKind)} {x : Str} {i : Nat} (h : (freeSlots Γ names).lookup x = some i) : (x, NameKind.free) ∈ names ∧ Γ.slots.lookup x = some i := by
  have hm := mem_of_lookup h
  obtain ⟨p, hp, e⟩ := List.mem_filterMap.mp hm
  obtain ⟨y, k⟩ := p
  dsimp only at e
  split at e
  · rename_i hk
    obtain ⟨j, hj, e⟩ := Option.map_eq_some_iff.mp e
    cases e
    exact ⟨by rw [← beq_iff_eq.mp hk]; exact hp, hj⟩
  · cases e

section
variable {C : Cfg} {Γ : Sc} {l : Nat} {A : Around} {F : Fx} {env : Env} {ρ : EEnv} {s : Shared} {d : D} {W : Addr → Prop}
theorem compChk_free {names : List (Str × NameKind)} {xs : List Str} (h : compChk Γ names xs = true) : ∀ p ∈ names, p.2 = .free → names.lookup p.1 = some .free ∧ Γ.names.lookup p.1 = some .cell ∧ (Γ.slots.lookup p.1).isSome = true := by
  intro p hp hk
  simp only [compChk, Bool.and_eq_true, List.all_eq_true] at h
  have := (h.1.1.1 p hp).1.2
  simp only [hk, Bool.or_eq_true, bne_self_eq_false, Bool.and_eq_true, beq_iff_eq] at this
  rcases this with q | q
  · cases q
  · exact ⟨q.1.1, q.1.2, q.2⟩
theorem compChk_rest {names : List (Str × NameKind)} {xs : List Str} (h : compChk Γ names xs = true) : (∀ p ∈ names, p.2 ≠ .cell) ∧ (∀ p ∈ names, p.2 = .local → names.lookup p.1 = some .local) ∧ (∀ x ∈ xs, names.lookup x = some .local) ∧ xs.Nodup ∧ xs ≠ [] := by
  simp only [compChk, Bool.and_eq_true, List.all_eq_true] at h
  refine ⟨fun p hp => by simpa using (h.1.1.1 p hp).1.1, fun p hp hk => ?_, fun x hx => by simpa using h.1.1.2 x hx, by simpa using h.1.2, by simpa using h.2⟩
  have := (h.1.1.1 p hp).2
  simpa [hk] using this
theorem comp_cells (eo : EnvOK Γ F env) {scope : Scope} {xs : List Str} (hchk : compChk Γ scope.names xs = true) : ∀ p ∈ scope.names, p.2 = .free → ∃ c, env.cells.lookup p.1 = some c := by
  intro p hp hk
  obtain ⟨_, h2, h3⟩ := compChk_free hchk p hp hk
  obtain ⟨i, hi⟩ := Option.isSome_iff_exists.mp h3
  rcases eo.slot p.1 i hi with ⟨_, q⟩ | ⟨c, _, _, q⟩
  · rw [h2] at q; cases q
  · exact ⟨c, q⟩
theorem EnvOK.comp (eo : EnvOK Γ F env) {scope : Scope} {xs : List Str} {Ca : Addr} {n : Nat} (hkind : scope.kind = .function) (hchk : compChk Γ scope.names xs = true) (hn : F.locs.length = n) :
    EnvOK (compSc Γ scope.names xs n) (F.plus (xs.map (.ns Ca)) W) (compEnvC scope (closL env scope.names []) Ca env) := by
  have hrn : (relabel scope env).names = relabelN Γ.names scope.names := by
    unfold relabel relabelN Env.kindOf
    rw [eo.names, eo.kind]
    simp
  obtain ⟨h1, h2, h3, h4, _⟩ := compChk_rest hchk
  refine ⟨by show (relabel scope env).kind = _; exact hkind, hrn, eo.gl, eo.bl, fun x i hi => ?_⟩
  rcases lookup_append hi with hi | hi
  · left
    obtain ⟨ha, hb⟩ := lookup_zipIdx hi
    refine ⟨?_, ?_⟩
    · show (F.locs ++ xs.map (Loc.ns Ca))[i]? = some (.ns Ca x)
      rw [List.getElem?_append_right (by omega), hn, List.getElem?_map, hb]; rfl
    · show (relabelN Γ.names scope.names).lookup x = _
      rw [lookup_relabel (h3 x (List.mem_of_getElem? hb))]; rfl
  · right
    obtain ⟨hm, hs⟩ := mem_freeSlots hi
    obtain ⟨q1, q2, q3⟩ := compChk_free hchk _ hm rfl
    rcases eo.slot x i hs with ⟨_, q⟩ | ⟨c, z1, z2, z3⟩
    · rw [q2] at q; cases q
    · refine ⟨c, ?_, ?_, ?_⟩
      · show (F.locs ++ xs.map (Loc.ns Ca))[i]? = some (.cell c)
        rw [List.getElem?_append_left (List.getElem?_eq_some_iff.mp z1).1]; exact z1
      · show (relabelN Γ.names scope.names).lookup x = _
        rw [lookup_relabel q1, q2]; rfl
      · exact closL_lookup z3 _ _ (.inl hm) (by simp)
end
end Mine

set_option autoImplicit false
open PySem PyProof.Rows
namespace Mine
set_option linter.unusedVariables false

def TestsOK (C : Cfg) (Γ : Sc) (l : Nat) (ifs : List Expr) (b : EEnv → Option Bool) : Prop :=
  ∀ (A : Around) (F : Fx) (env : Env) (ρ : EEnv) (s : Shared) (r : Bool), Cx C Γ l A F env ρ s → b ρ = some r →
    Wp C A (forIn ifs true fun c r => if r = true then do let ok ← isTrue c env (eval c env); pure (ForInStep.yield ok) else pure (ForInStep.yield r)) (fun r' s' => Ext C s s' ∧ r' = r) s
def compL (upd : EEnv → D → Option EEnv) (bs : EEnv → Option Bool) (fe : EEnv → Option D) (me : EEnv → Mk) (ρ : EEnv) : List D → Option (List D)
  | [] => some []
  | x :: xs => (upd ρ x).bind fun ρ₁ => (bs ρ₁).bind fun b => if b then (fe ρ₁).bind fun d => if (me ρ₁).cl d then (compL upd bs fe me ρ xs).bind fun r => some (d :: r) else none else compL upd bs fe me ρ xs
def compF (n k : Nat) (tt : Bool) (fi : EEnv → Option D) (mi : EEnv → Mk) (upd : EEnv → D → Option EEnv) (bs : EEnv → Option Bool) (fe : EEnv → Option D) (me : EEnv → Mk) : EEnv → Option D := fun ρ =>
  if ρ.length = n then (fi ρ).bind fun d => d.items.bind fun ds => if ((mi ρ).cat || ds.all D.imm) && (!tt || d.isL) then (compL upd bs fe me (ρ ++ List.replicate k none) ds).map D.list else none else none
def UpdOK (n k : Nat) (upd : EEnv → D → Option EEnv) : Prop := ∀ (ρ ρ₁ : EEnv) (d : D), ρ.length = n → upd (ρ ++ List.replicate k none) d = some ρ₁ → ρ₁.length = n + k ∧ ∀ i, i < n → ρ₁[i]? = ρ[i]?

section
variable {C : Cfg} {Γ : Sc} {l : Nat} {A : Around} {F : Fx} {env : Env} {ρ : EEnv} {s : Shared} {d : D} {e : Expr} {b : EEnv → Option Bool}
theorem tests_nil : TestsOK C Γ l [] (fun _ => some true) := fun A F env ρ s r c fd => by cases fd; exact wpAny_tests_nil ⟨Ext.refl C s, rfl⟩
theorem tests_one (x : BOK C Γ l e b) : TestsOK C Γ l [e] b := fun A F env ρ s r c fd => wpAny_tests_one (x A F env ρ s r c fd)
theorem upd_set (n : Nat) : UpdOK n 1 (setN n) := by
  intro ρ ρ₁ d hn h
  cases h
  refine ⟨by simp [hn], fun i hi => ?_⟩
  rw [List.getElem?_set_ne (by omega), List.getElem?_append_left (by omega)]
theorem setL_spec {n : Nat} : ∀ {is : List Nat} {ρ : EEnv} {ds : List D} {ρ₁ : EEnv}, (∀ i ∈ is, n ≤ i) → setL is ρ ds = some ρ₁ → ρ₁.length = ρ.length ∧ ∀ i, i < n → ρ₁[i]? = ρ[i]?
  | [], ρ, [], _, _, h => by cases h; exact ⟨rfl, fun _ _ => rfl⟩
  | [], _, _ :: _, _, _, h => by cases h
  | _ :: _, _, [], _, _, h => by cases h
  | i :: is, ρ, d :: ds, ρ₁, hi, h => by
    obtain ⟨a, b⟩ := setL_spec (is := is) (fun j hj => hi j (.tail _ hj)) h
    refine ⟨by rw [a, List.length_set], fun j hj => ?_⟩
    rw [b j hj, List.getElem?_set_ne (by have := hi i (.head _); omega)]
theorem upd_tup {n k : Nat} {is : List Nat} (hi : ∀ i ∈ is, n ≤ i) : UpdOK n k (setT is) := by
  intro ρ ρ₁ d hn h
  unfold setT at h
  split at h
  · obtain ⟨a, b⟩ := setL_spec hi h
    refine ⟨by rw [a]; simp [hn], fun i hi => ?_⟩
    rw [b i hi, List.getElem?_append_left (by omega)]
  · cases h
/-- what a comprehension or a loop goes over -/
theorem MkRep.two {hs h : Heap} {mk : Mk} {v : Value} {ds : List D} (hv : ∀ a, F.vol a → ∃ o, hs.get? a = some o) (vc : ∀ a, F.volc a → F.vol a) (newc : ∀ a, F.new a → ¬ F.volc a) (x : MkRep C F hs h mk v d) (hd : d.items = some ds) (hc : (mk.cat || ds.all D.imm) = true) :
    Rep2 C.prog C.w h (fun a => ¬ F.volc a) (fun a => ¬ F.vol a) v d := by
  have w := x.weak hv vc newc
  cases w with
  | list n p l r =>
    cases hd
    refine .list n p l ?_
    rcases Bool.or_eq_true_iff.mp hc with hc | hc
    · obtain ⟨a', vs', ea, pa, _, ra⟩ := x.items hv hc
      cases ea
      obtain rfl := plainList_inj p pa
      exact ra
    · exact r.ofImm hc
  | tup n p l r =>
    cases hd
    refine .tup n p l ?_
    rcases Bool.or_eq_true_iff.mp hc with hc | hc
    · obtain ⟨a', vs', ea, pa, ra⟩ := x.tupItems hv hc
      cases ea
      obtain rfl := plainTup_inj p pa
      exact ra
    · exact r.ofImm hc
  | dict n e p l r => exact .dict n e p l r
  | str y t e => exact .str y t e
  | rng n p => exact .rng n p
  | none => cases hd
  | bool => cases hd
  | int => cases hd

theorem ext_more {V : Addr → Prop} {s s' s'' : Shared} (e : Ext C s s') (y : ExtV C V s' s'') (hV : ∀ b, V b → s.heap.get? b = none) : Ext C s s'' := ((e.v (V := V)).trans y fun b v => .inl v).ext hV
/-- a change of the objects V alone -/
theorem extV_of {V : Addr → Prop} {s : Shared} {h' : Heap} {tk : Nat} (g : GlobOK C s.heap) (hT : ∀ b, V b → ¬ C.T b) (hK : ∀ b o, C.K.lookup b = some o → ¬ V b) (k : ∀ b o, ¬ V b → s.heap.get? b = some o → h'.get? b = some o) (hex : ∀ b, V b → ∃ o, h'.get? b = some o) :
    ExtV C V s { s with heap := h', toks := tk } :=
  ⟨fun b o _ n q => k b o n q, fun b o q => by
    by_cases hv : V b
    · exact hex b hv
    · exact ⟨o, k b o hv q⟩, vol_tab hT hK k, id, rfl⟩
theorem compLoop_tests' {M : Model} {prog : Program} {w : World} {R : Result → Shared → Prop} {elt target iter : Expr} {ifs : List Expr} {scope : Scope} {pos : Pos} {it acc : Value} {env : Env} (I : Nat → Shared → Prop)
    (turn : ∀ n s, I n s → wpAny (model prog w) A (pyNext it) (fun r s₁ => match r with
      | none => R (.ok .next) s₁
      | some v => wpAny (model prog w) A (letOwnedTupleGo target it v) (fun _ s₁' => wpAny (model prog w) A (assign target env v) (fun _ s₂ =>
          wpAny (model prog w) A (forIn ifs true fun c r => if r = true then do let ok ← isTrue c env (eval c env); pure (ForInStep.yield ok) else pure (ForInStep.yield r)) (fun ok s₃ =>
            if ok = true then wpAny (model prog w) A (eval elt env) (fun x s₄ => wpAny (model prog w) A (call (.builtin "list.append") [acc, x]) (fun _ s₅ => ∃ m, m < n ∧ I m s₅) (fun _ _ => False) s₄) (fun _ _ => False) s₃
            else ∃ m, m < n ∧ I m s₃) (fun _ _ => False) s₂) (fun _ _ => False) s₁') (fun _ _ => False) s₁) (fun _ _ => False) s)
    (n : Nat) (h : I n s) : codeAny (model prog w) A (.compLoop (.ListComp elt [⟨target, iter, ifs, 0⟩] scope pos) 0 it acc env) R s := by
  refine codeAny_loop rfl I (fun n s hI => ?_) n h
  show wpAny _ A ((compTurn (.ListComp elt [⟨target, iter, ifs, 0⟩] scope pos) 0 it acc env).onRaise (fun x => do noteFrame x env; theTreesLotGoes x)) _ _ s
  refine wpAny_noted ?_
  rw [compTurn_list]
  refine wpAny_bind (wpAny_standAt (wpAny_bind (wpAny_mono (turn n s hI) (fun r s₁ h₁ => ?_) fun _ _ f => f.elim)))
  cases r with
  | none => exact wpAny_pure h₁
  | some v =>
    refine wpAny_bind (wpAny_mono h₁ (fun _ s₁' h₁' => wpAny_bind (wpAny_mono h₁' (fun _ s₂ h₂ => wpAny_bind (wpAny_mono h₂ (fun ok s₃ h₃ => ?_) fun _ _ f => f.elim)) fun _ _ f => f.elim)) fun _ _ f => f.elim)
    cases ok with
    | false => exact wpAny_pure ⟨rfl, h₃⟩
    | true =>
      exact wpAny_bind (wpAny_bind (wpAny_mono h₃ (fun x s₄ h₄ => wpAny_bind (wpAny_mono h₄ (fun _ s₅ h₅ => wpAny_pure (wpAny_pure ⟨rfl, h₅⟩)) fun _ _ f => f.elim)) fun _ _ f => f.elim))

theorem comp_core {elt target iter : Expr} {ifs : List Expr} {scope : Scope} {pos pos' : Pos} {fi fe : EEnv → Option D} {mi me : EEnv → Mk} {upd : EEnv → D → Option EEnv} {bs : EEnv → Option Bool} {xs : List Str} {n : Nat} {tt : Bool} {is : List Nat}
    (hkind : scope.kind = .function) (hchk : compChk Γ scope.names xs = true) (xi : EvOK C Γ l iter fi mi) (ht : AsgOK C (compSc Γ scope.names xs n) l target is upd) (hu : UpdOK n xs.length upd) (his : ∀ i ∈ is, n ≤ i)
    (htg : ∀ b, (!tt || b) = true → tgtOK b target = true) (hb : TestsOK C (compSc Γ scope.names xs n) l ifs bs) (he : EvOK C (compSc Γ scope.names xs n) l elt fe me) (hs : ∀ env x, foldedSetIterable iter env x = pure x)
    (c : Cx C Γ l A F env ρ s) (fd : compF n xs.length tt fi mi upd bs fe me ρ = some d) {use : Option (Value → Sem Unit)} {Q : Value → Shared → Prop}
    (hnone : use = none → ∀ v s', Ext C s s' → MkRep C F s.heap s'.heap (.own 1) v d → Q v s')
    (hsome : ∀ u, use = some u → ∀ v s' Ca, Ext C s s' → s.heap.get? Ca = none → (∃ m, s'.heap.Ns Ca m) → MkRep C (F.plus [] (· = Ca)) s.heap s'.heap (.own 1) v d →
      Wp C A (u v) (fun _ s'' => ∃ m, s''.heap.Ns Ca m ∧ ∀ h', Heap.SameBut Ca s''.heap h' → Q .none { s'' with heap := h' }) s') :
    Wp C A (comprehension (.ListComp elt [⟨target, iter, ifs, 0⟩] scope pos) scope env pos' (newList []) false (eval iter env) use) Q s := by
  unfold compF at fd
  split at fd
  case isFalse => cases fd
  rename_i hn
  obtain ⟨di, h₁, fd⟩ := Option.bind_eq_some_iff.mp fd
  obtain ⟨ds, h₂, fd⟩ := Option.bind_eq_some_iff.mp fd
  split at fd
  case isFalse => cases fd
  rename_i hg
  obtain ⟨hg1, hg2⟩ := Bool.and_eq_true_iff.mp hg
  obtain ⟨outs, hco, rfl⟩ := Option.map_eq_some_iff.mp fd
  obtain ⟨hcell, hlocs, hxs, hnd, hne⟩ := compChk_rest hchk
  refine wpAny_comprehension_free (use := use) rfl (hs env) (closureFor_eq (comp_cells c.env hchk)) hkind hlocs ?_
  refine xi.run c h₁ fun v s₁ e₁ c₁ r₁ => ?_
  have r2 := r₁.two c.rel.hv c.rel.vc c.rel.newc h₂ hg1
  refine wpAny_mono (iter_ok r2 h₂ c.room.1) (fun it s₂ k => ?_) fun _ _ e => e
  obtain ⟨e₂, I, fp, wr, P, St, rfl, W, st, hwr, hfp, hlt, hP, hlet, hex, hlen⟩ := k
  refine wpAny_newObj_type (wpAny_newFunctionEnv hcell (by intro y hy; simp at hy) (fun h₁ hns₁ hsb₁ => ?_) hkind)
  dsimp only at hns₁ hsb₁ ⊢
  generalize hH2 : s₂.heap.push { cls := .type "list", dict := none, data := .seq ([] : List Value).toArray } = H2 at hns₁ hsb₁ ⊢
  generalize hDe : s₂.heap.objs.size = Dd
  generalize hCe : H2.objs.size = Ca at hns₁ hsb₁ ⊢
  have hCD : Ca = Dd + 1 := by rw [← hCe, ← hH2, Heap.size_push, hDe]
  have hnl : F.locs.length = n := by rw [← c.rel.len]; exact hn
  have hDC : Dd ≠ Ca := by rw [hCD]; exact Nat.ne_of_lt (Nat.lt_succ_self _)
  have ltC : ∀ b : Nat, b < Dd → b ≠ Ca := fun b hb => by rw [hCD]; exact Nat.ne_of_lt (Nat.lt_succ_of_lt hb)
  -- what is fresh
  have lt_of : ∀ b o, s₂.heap.get? b = some o → b < Dd := fun b o q => hDe ▸ Heap.lt_size q
  have none_ge : ∀ a, Dd ≤ a → s₂.heap.get? a = none := fun a ha => by
    cases q : s₂.heap.get? a with
    | none => rfl
    | some o => exact absurd (lt_of a o q) (Nat.not_lt.mpr ha)
  have frD : s₁.heap.get? Dd = none := e₂.none (none_ge _ (Nat.le_refl _))
  have frC : s₁.heap.get? Ca = none := e₂.none (none_ge _ (hCD ▸ Nat.le_succ _))
  have keep24 : ∀ b o, s₂.heap.get? b = some o → h₁.get? b = some o := fun b o q => by
    have hb := lt_of b o q
    exact hsb₁.extBut b o (ltC b hb) (Heap.get?_push_of_some _ (hH2 ▸ Heap.get?_push_of_some _ q))
  have accD : h₁.PlainList Dd ([] : List Value).toArray := ⟨0, hsb₁.extBut _ _ hDC (Heap.get?_push_of_some _ (by rw [← hH2, ← hDe]; exact Heap.get?_push_size _ rfl))⟩
  have e₂₄ : Ext C s₂ { s₂ with heap := h₁, toks := s₂.toks + ([] : List (Str × Value)).length } := Ext.of keep24
  generalize hs4 : ({ s₂ with heap := h₁, toks := s₂.toks + ([] : List (Str × Value)).length } : Shared) = s₄ at e₂₄ ⊢
  have hh4 : s₄.heap = h₁ := by rw [← hs4]
  rw [← hh4] at hns₁ accD keep24
  have e₁₄ := e₂.trans e₂₄
  -- the frame
  let Ws : Addr → Prop := fun a => a = Ca ∨ a = Dd ∨ a ∈ wr
  have hWf : ∀ a, Ws a → s₁.heap.get? a = none := fun a w => by
    rcases w with rfl | rfl | w
    · exact frC
    · exact frD
    · exact hwr a w
  have hWx : ∀ a, Ws a → ∃ o, s₄.heap.get? a = some o := fun a w => by
    rcases w with rfl | rfl | w
    · obtain ⟨o, _, _, q, _⟩ := hns₁; exact ⟨o, q⟩
    · exact plain_some accD
    · obtain ⟨o, q⟩ := hex 0 _ st a w; exact ⟨o, keep24 a o q⟩
  have rel₄ := c₁.rel.plus c₁.glob e₁₄ hWf hWx (xs := xs) (.inl rfl) ⟨_, hns₁⟩ hnd
  have hWT : ∀ a, Ws a → ¬ C.T a := fun a w t => by obtain ⟨o, q⟩ := c₁.glob.tdom a t; rw [hWf a w] at q; cases q
  have hWK : ∀ a o, C.K.lookup a = some o → ¬ Ws a := fun a o k w => by have := c₁.glob.inK a o k; rw [hWf a w] at this; cases this
  have wrlt : ∀ b ∈ fp, b < Dd := fun b hb => hDe ▸ hlt b hb
  have wrfp := W.sub
  generalize hF' : F.plus (xs.map (.ns Ca)) Ws = F' at rel₄
  have hvol' : ∀ a, F'.vol a ↔ (F.vol a ∨ Ws a) := fun a => by rw [← hF']; rfl
  have hvolc' : ∀ a, F'.volc a ↔ (F.volc a ∨ Ws a) := fun a => by rw [← hF']; rfl
  have hlocs' : F'.locs = F.locs ++ xs.map (.ns Ca) := by rw [← hF']; rfl
  have eo' : EnvOK (compSc Γ scope.names xs n) F' (compEnvC scope (closL env scope.names []) Ca env) := hF' ▸ c.env.comp (W := Ws) hkind hchk hnl
  have notLocW : ∀ lc ∈ F'.locs, ∀ a, a = Dd ∨ a ∈ wr → lc.addr ≠ a := by
    intro lc hl a ha q
    rw [hlocs'] at hl
    rcases List.mem_append.mp hl with hl | hl
    · obtain ⟨o, z⟩ := c₁.rel.hv lc.addr (c₁.rel.vc _ (c₁.rel.loc lc hl).1)
      rw [q, hWf a (.inr ha)] at z; cases z
    · obtain ⟨x, _, rfl⟩ := List.mem_map.mp hl
      have q' : Ca = a := q
      rcases ha with rfl | ha
      · exact hDC q'.symm
      · exact ltC a (wrlt a (wrfp a ha)) q'.symm
  have locI : ∀ b, LocI F' is b → b = Ca := by
    rintro b ⟨i, hi, lc, hlc, rfl⟩
    rw [hlocs', List.getElem?_append_right (by rw [hnl]; exact his i hi), List.getElem?_map] at hlc
    obtain ⟨x, _, rfl⟩ := Option.map_eq_some_iff.mp hlc
    rfl
  have fpT : ∀ b ∈ fp, ¬ C.T b := fun b hb t => by
    rcases hfp b hb with q | q
    · exact hWT b (.inr (.inr q)) t
    · exact q (c.rel.vT b t)
  generalize hρ' : ρ ++ List.replicate xs.length none = ρ' at rel₄ hco
  have st₄ : St 0 s₄.heap := W.frame _ _ _ st fun b _ o q => keep24 b o q
  have loop : codeAny (model C.prog C.w) A (.compLoop (.ListComp elt [⟨target, iter, ifs, 0⟩] scope pos) 0 (.ref I) (.ref Dd) (compEnvC scope (closL env scope.names []) Ca env))
      (compPost (model C.prog C.w) A (fun _ _ => False) use Q (.ref Dd) Ca) s₄ := by
    refine compLoop_tests' (M := model C.prog C.w) (fun m s' => ∃ (j : Nat) (ys : List Value) (os rest : List D), j ≤ ds.length ∧ m = ds.length + 1 - j ∧ St j s'.heap ∧ s'.heap.PlainList Dd ys.toArray ∧ RepLC C s'.heap (fun a => ¬ F'.vol a) ys os ∧ ys.length ≤ j ∧
      compL upd bs fe me ρ' (ds.drop j) = some rest ∧ os ++ rest = outs ∧ RelE C F' s'.heap ρ' ∧ GlobOK C s'.heap ∧ Ext C s₁ s') ?_ (ds.length + 1)
      ⟨0, [], [], outs, Nat.zero_le _, rfl, st₄, accD, .nil, Nat.zero_le _, hco, rfl, rel₄, c₁.glob.ext e₁₄, e₁₄⟩
    rintro m s' ⟨j, ys, os, rest, hj, rfl, stj, pl, ry, hyj, hcl, hout, rel', glob', ext'⟩
    by_cases hlt' : j < ds.length
    · refine W.item j s' _ _ hlt' stj fun v hi tk hPv sti hki => ?_
      -- the iterator has moved
      have x₁ : ExtV C (· ∈ wr) s' { s' with heap := hi, toks := tk } := extV_of glob' (fun b hb => hWT b (.inr (.inr hb))) (fun b o k hb => hWK b o k (.inr (.inr hb))) hki (hex _ _ sti)
      have rel1 : RelE C F' hi ρ' := rel'.turn (V := (· ∈ wr)) (fun a w => (hvolc' a).mpr (.inr (.inr (.inr w)))) (fun lc hl w => notLocW lc hl _ (.inr w) rfl) hki (hex _ _ sti)
      have glob1 : GlobOK C hi := glob'.extV x₁ (fun a o k hb => hWK a o k (.inr (.inr hb))) (fun hb => rel'.vlow 3 (.inr (.inr rfl)) ((hvol' _).mpr (.inr (.inr (.inr hb))))) (fun hb => rel'.vlow 0 (.inl rfl) ((hvol' _).mpr (.inr (.inr (.inr hb))))) (fun hb => rel'.vlow 2 (.inr (.inl rfl)) ((hvol' _).mpr (.inr (.inr (.inr hb)))))
      have ext1 : Ext C s₁ { s' with heap := hi, toks := tk } := ext_more ext' x₁ hwr
      generalize hs1 : ({ s' with heap := hi, toks := tk } : Shared) = sa at x₁ ext1 ⊢
      have hha : sa.heap = hi := by rw [← hs1]
      rw [← hha] at sti rel1 glob1
      refine hlet target v _ sa A _ _ (htg _ hg2) sti ?_
      -- the target
      obtain ⟨dv, hdv, rdv⟩ := hP j v hPv
      have hdrop : ds.drop j = dv :: ds.drop (j + 1) := by
        have := List.drop_eq_getElem_cons hlt'
        rw [this]
        rw [List.getElem?_eq_getElem hlt'] at hdv
        cases hdv; rfl
      rw [hdrop] at hcl
      obtain ⟨ρ₁, hup, hcl⟩ := Option.bind_eq_some_iff.mp hcl
      obtain ⟨bt, hbt, hcl⟩ := Option.bind_eq_some_iff.mp hcl
      have cxa : Cx C (compSc Γ scope.names xs n) l A F' (compEnvC scope (closL env scope.names []) Ca env) ρ' sa := ⟨c.room, eo', rel1, glob1⟩
      have rdv' : RepC C sa.heap (fun a => ¬ F'.vol a) v dv := by
        refine (rdv.ex).trans (fun a q z => ?_) fun a o q z => ext1.keep a o (c.notT0 a q.1) z
        rcases (hvol' a).mp z with z | z
        · exact q.1 z
        · obtain ⟨o, y⟩ := q.2; rw [hWf a z] at y; cases y
      refine wpAny_mono (ht A F' _ ρ' sa v dv ρ₁ cxa rdv' hup) (fun _ sb kb => ?_) fun _ _ e => e
      obtain ⟨x₂, rel2⟩ := kb
      have x₂' : ExtV C (· = Ca) sa sb := x₂.mono locI
      have ext2 : Ext C s₁ sb := ext_more ext1 x₂' fun b hb => hb ▸ frC
      have glob2 : GlobOK C sb.heap := locA_glob cxa (x₂.mono fun _ => LocI.a)
      have cxb : Cx C (compSc Γ scope.names xs n) l A F' (compEnvC scope (closL env scope.names []) Ca env) ρ₁ sb := ⟨c.room, eo', rel2, glob2⟩
      have stb : St (j + 1) sb.heap := W.frame _ _ _ sti fun b hb o q => x₂'.keep b o (fpT b hb) (ltC b (wrlt b hb)) q
      have kD : ∀ o, s'.heap.get? Dd = some o → sb.heap.get? Dd = some o := fun o q => x₂'.keep Dd o (hWT _ (.inr (.inl rfl))) hDC (x₁.keep Dd o (hWT _ (.inr (.inl rfl))) (fun hb => Nat.lt_irrefl _ (wrlt _ (wrfp _ hb))) q)
      have ky : RepLC C sb.heap (fun a => ¬ F'.vol a) ys os := ry.trans (fun _ q => q) fun a o q z =>
        x₂'.keep a o (cxa.notT0 a q) (fun e => q ((hvol' a).mpr (.inr (.inl e)))) (x₁.keep a o (cxa.notT0 a q) (fun e => q ((hvol' a).mpr (.inr (.inr (.inr e))))) z)
      -- the tests
      refine wpAny_mono (hb A F' _ ρ₁ sb bt cxb hbt) (fun ok sc kc => ?_) fun _ _ e => e
      obtain ⟨e₃, rfl⟩ := kc
      have cxc := cxb.ext e₃
      have stc : St (j + 1) sc.heap := W.frame _ _ _ stb fun b hb o q => e₃.keep b o (fpT b hb) q
      obtain ⟨hl1, hl2⟩ := hu ρ ρ₁ dv hn (hρ' ▸ hup)
      have back : ∀ {h : Heap}, RelE C F' h ρ₁ → RelE C F' h ρ' := fun {h} r => r.weaken (by rw [hl1, ← hρ']; simp [hn]) fun i x q => by
        rw [← hρ'] at q
        have hin : i < n := by
          rcases Nat.lt_or_ge i n with h | h
          · exact h
          · rw [List.getElem?_append_right (by omega), List.getElem?_replicate] at q
            split at q <;> cases q
        rw [List.getElem?_append_left (by omega)] at q
        rw [hl2 i hin]; exact q
      cases ok with
      | false =>
        exact ⟨ds.length + 1 - (j + 1), by omega, j + 1, ys, os, rest, hlt', rfl, stc, (pl.at kD).at fun o q => e₃.keep _ o (hWT _ (.inr (.inl rfl))) q, RepL.ext cxb.notT0 e₃ ky, Nat.le_succ_of_le hyj, hcl, hout, back cxc.rel, cxc.glob, ext2.trans e₃⟩
      | true =>
        simp only [if_true] at hcl ⊢
        obtain ⟨de, hde, hcl⟩ := Option.bind_eq_some_iff.mp hcl
        split at hcl
        case isFalse => cases hcl
        rename_i hcln
        obtain ⟨rest', hr', hcl⟩ := Option.bind_eq_some_iff.mp hcl
        cases hcl
        refine he.run cxc hde fun x sd e₄ cxd rx => ?_
        have rx' := rx.clean cxc.rel.hv hcln
        have pld : sd.heap.PlainList Dd ys.toArray := ((pl.at kD).at fun o q => e₃.keep _ o (hWT _ (.inr (.inl rfl))) q).at fun o q => e₄.keep _ o (hWT _ (.inr (.inl rfl))) q
        refine wpAny_list_append_plain pld (fun he' hpl hsb => ?_) (by rw [List.size_toArray]; exact Nat.le_trans hyj (Nat.le_trans hj hlen))
        have x₅ : ExtV C (· = Dd) sd { sd with heap := he' } := extV_of (tk := sd.toks) cxd.glob (fun b q => q ▸ hWT _ (.inr (.inl rfl))) (fun b o k q => hWK b o k (.inr (.inl q))) (fun b o q z => hsb.extBut b o q z) (fun b q => q ▸ plain_some hpl)
        have rel5 : RelE C F' he' ρ₁ := cxd.rel.turn (V := (· = Dd)) (fun a q => (hvolc' a).mpr (.inr (.inr (.inl q)))) (fun lc hl q => notLocW lc hl _ (.inl rfl) q) (fun b o q z => hsb.extBut b o q z) (fun b q => q ▸ plain_some hpl)
        have glob5 : GlobOK C he' := cxd.glob.extV x₅ (fun a o k q => hWK a o k (.inr (.inl q))) (fun q => rel'.vlow 3 (.inr (.inr rfl)) ((hvol' _).mpr (.inr (.inr (.inl q))))) (fun q => rel'.vlow 0 (.inl rfl) ((hvol' _).mpr (.inr (.inr (.inl q))))) (fun q => rel'.vlow 2 (.inr (.inl rfl)) ((hvol' _).mpr (.inr (.inr (.inl q)))))
        have nD : ∀ a, ¬ F'.vol a → a ≠ Dd := fun a q e => q ((hvol' a).mpr (.inr (.inr (.inl e))))
        refine ⟨ds.length + 1 - (j + 1), by omega, j + 1, ys ++ [x], os ++ [de], rest', hlt', rfl, ?_, by simpa using hpl, ?_, by simp; omega, hr', by rw [← hout]; simp, back rel5, glob5, ?_⟩
        · exact W.frame _ _ _ (W.frame _ _ _ stc fun b hb o q => e₄.keep b o (fpT b hb) q) fun b hb o q => hsb.extBut b o (Nat.ne_of_lt (wrlt b hb)) q
        · exact RepL.append (((RepL.ext cxb.notT0 e₃ ky).ext cxb.notT0 e₄).trans (fun _ q => q) fun a o q z => hsb.extBut a o (nD a q) z) (.cons (rx'.trans (fun _ q => q) fun a o q z => hsb.extBut a o (nD a q) z) .nil)
        · exact ext_more ((ext2.trans e₃).trans e₄) x₅ fun b q => q ▸ frD
    · have hjn : j = ds.length := by omega
      refine W.done s' _ _ (hjn ▸ stj) fun hi tk hki => ?_
      have hrest : rest = [] := by
        rw [hjn, List.drop_length] at hcl; cases hcl; rfl
      subst hrest
      rw [List.append_nil] at hout
      subst hout
      have nwC : Ca ∉ wr := fun hb => absurd (wrlt _ (wrfp _ hb)) (by rw [hCD]; exact Nat.not_lt.mpr (Nat.le_succ _))
      have nwD : Dd ∉ wr := fun hb => Nat.lt_irrefl _ (wrlt _ (wrfp _ hb))
      obtain ⟨x0, xr, rfl⟩ : ∃ x0 xr, xs = x0 :: xr := by cases xs with | nil => exact absurd rfl hne | cons a b => exact ⟨a, b, rfl⟩
      obtain ⟨mC, hmC⟩ := rel'.locex (.ns Ca x0) (by rw [hlocs']; exact List.mem_append_right _ (.head _))
      cases use with
      | none =>
        refine ⟨mC, Ns.kept hmC fun o q => hki _ o nwC q, fun h'' hsb => ?_⟩
        have kk : ∀ a o, ¬ Ws a → s'.heap.get? a = some o → h''.get? a = some o := fun a o q z => hsb.extBut a o (fun e => q (.inl e)) (hki a o (fun e => q (.inr (.inr e))) z)
        have kD : ∀ o, s'.heap.get? Dd = some o → h''.get? Dd = some o := fun o z => hsb.extBut _ o hDC (hki _ o nwD z)
        have ef : Ext C s₁ { s' with heap := h'', toks := tk } := Ext.wr c₁.glob ext' (W := Ws) hWf fun b o q z => kk b o q z
        refine hnone rfl _ _ (e₁.trans ef) ⟨[Dd], ?_, List.nodup_cons.mpr ⟨List.not_mem_nil, List.nodup_nil⟩, fun b hb => List.mem_singleton.mp hb ▸ e₁.none frD⟩
        refine .list (pl.at kD) (Nat.le_trans hyj (Nat.le_trans hj hlen)) (OwnL.of0 (ry.trans (fun a q => ?_) fun a o q z => kk a o (fun w => q ((hvol' a).mpr (.inr w))) z))
        exact ⟨fun z => q ((hvol' a).mpr (.inl z)), fun hm => q ((hvol' a).mpr (.inr (.inr (.inl (List.mem_singleton.mp hm)))))⟩
      | some u =>
        have kk : ∀ a o, ¬ Ws a → s'.heap.get? a = some o → hi.get? a = some o := fun a o q z => hki a o (fun e => q (.inr (.inr e))) z
        have kD : ∀ o, s'.heap.get? Dd = some o → hi.get? Dd = some o := fun o z => hki _ o nwD z
        have ef : Ext C s₁ { s' with heap := hi, toks := tk } := Ext.wr c₁.glob ext' (W := Ws) hWf fun b o q z => kk b o q z
        refine hsome u rfl _ _ Ca (e₁.trans ef) (e₁.none frC) ⟨mC, Ns.kept hmC fun o q => hki _ o nwC q⟩ ⟨[Dd], ?_, List.nodup_cons.mpr ⟨List.not_mem_nil, List.nodup_nil⟩, fun b hb => List.mem_singleton.mp hb ▸ e₁.none frD⟩
        refine .list (pl.at kD) (Nat.le_trans hyj (Nat.le_trans hj hlen)) (OwnL.of0 (ry.trans (fun a q => ?_) fun a o q z => kk a o (fun w => q ((hvol' a).mpr (.inr w))) z))
        exact ⟨fun z => q ((hvol' a).mpr (z.elim .inl fun e => .inr (.inl e))), fun hm => q ((hvol' a).mpr (.inr (.inr (.inl (List.mem_singleton.mp hm)))))⟩
  exact codeAny_compStart_list loop (W.self 0 s₄ _ _ st₄ loop)

theorem comp_ok {elt target iter : Expr} {ifs : List Expr} {scope : Scope} {pos : Pos} {fi fe : EEnv → Option D} {mi me : EEnv → Mk} {upd : EEnv → D → Option EEnv} {bs : EEnv → Option Bool} {xs : List Str} {n : Nat} {tt : Bool} {is : List Nat}
    (hkind : scope.kind = .function) (hchk : compChk Γ scope.names xs = true) (xi : EvOK C Γ l iter fi mi) (ht : AsgOK C (compSc Γ scope.names xs n) l target is upd) (hu : UpdOK n xs.length upd) (his : ∀ i ∈ is, n ≤ i)
    (htg : ∀ b, (!tt || b) = true → tgtOK b target = true) (hb : TestsOK C (compSc Γ scope.names xs n) l ifs bs) (he : EvOK C (compSc Γ scope.names xs n) l elt fe me) (hs : ∀ env x, foldedSetIterable iter env x = pure x) :
    EvOK C Γ l (.ListComp elt [⟨target, iter, ifs, 0⟩] scope pos) (compF n xs.length tt fi mi upd bs fe me) (fun _ => .own 1) := by
  intro A F env ρ s d c fd
  rw [eval_ListComp]
  exact comp_core hkind hchk xi ht hu his htg hb he hs c fd (use := none) (fun _ v s' e r => ⟨e, r⟩) fun u q => by cases q
end
end Mine

set_option autoImplicit false
open PySem PyProof.Rows
namespace Mine
set_option linter.unusedVariables false

/-! the state of a frame: un unbound; val 0 d frozen; val k d owned to depth k; pl i key: the dict in slot i, at key -/
inductive Slot where
  | un
  | val (k : Nat) (d : D)
  | pl (i : Nat) (key : Str)
def slotView (ρ : List Slot) : Slot → Option (D × Mk)
  | .un => none
  | .val 0 d => some (d, .fr)
  | .val 1 d => some (d, .bor)
  | .val _ d => some (d, .unk)
  | .pl i key => match ρ[i]? with
    | some (.val _ (.dict kvs)) => (kvs.lookup key).map fun d => (d, .unk)
    | _ => none
def view (ρ : List Slot) : EEnv := ρ.map (slotView ρ)

structure Fs where
  locs : List Loc
  base : Addr → Prop
  hb : Heap
def Fs.loca (S : Fs) (a : Addr) : Prop := ∃ l ∈ S.locs, l.addr = a
def Fs.fx (S : Fs) (own : Addr → Option Nat) : Fx := { locs := S.locs, vol := fun a => S.base a ∨ S.loca a ∨ own a ≠ none, volc := fun a => S.base a ∨ S.loca a, new := fun a => S.hb.get? a = none ∧ ¬ S.loca a }
structure FsOK (C : Cfg) (S : Fs) : Prop where
  bT : ∀ a, C.T a → S.base a
  bx : ∀ a, S.base a → ∃ o, S.hb.get? a = some o
  bK : ∀ a o, C.K.lookup a = some o → ¬ S.base a ∧ ∃ o', S.hb.get? a = some o'
  blow : ∀ a : Nat, a = 0 ∨ a = 2 ∨ a = 3 → ¬ S.base a ∧ ∃ o', S.hb.get? a = some o'
  loc : ∀ l ∈ S.locs, S.hb.get? l.addr = none
  dist : LocsApart S.locs
structure RelS (C : Cfg) (S : Fs) (own : Addr → Option Nat) (h : Heap) (ρ : List Slot) : Prop where
  ok : FsOK C S
  hbx : ∀ a o, S.hb.get? a = some o → ∃ o', h.get? a = some o'
  locex : ∀ l ∈ S.locs, LocEx h l
  len : ρ.length = S.locs.length
  ownx : ∀ a i, own a = some i → S.hb.get? a = none ∧ ¬ S.loca a ∧ ∃ o, h.get? a = some o
  slot0 : ∀ (i : Nat) d, ρ[i]? = some (.val 0 d) → ∃ l v, S.locs[i]? = some l ∧ LocHas h l v ∧ RepC C h (fun a => ¬ (S.fx own).vol a) v d
  tree : ∀ (i k : Nat) d, ρ[i]? = some (.val (k + 1) d) → ∃ l v O, S.locs[i]? = some l ∧ LocHas h l v ∧ OwnT C.prog C.w h (fun a => ¬ (S.fx own).vol a) (k + 1) v d O ∧ O.Nodup ∧ ∀ a ∈ O, own a = some i
  place : ∀ (i j : Nat) key, ρ[i]? = some (.pl j key) → ∃ l lj a v kvs, S.locs[i]? = some l ∧ LocHas h l v ∧ S.locs[j]? = some lj ∧ LocHas h lj (.ref a) ∧ h.DictOf (PySem.strKind C.prog C.w) a kvs ∧ valueAt kvs key = some v ∧ own a = some j

theorem LocHas.inj {h : Heap} {l : Loc} {v v' : Value} (x : LocHas h l v) (y : LocHas h l v') : v = v' := by
  cases l with
  | ns L z =>
    obtain ⟨m, ⟨o, es, ep, a1, a2, a3, a4⟩, b⟩ := x
    obtain ⟨m', ⟨o', es', ep', a1', a2', a3', a4'⟩, b'⟩ := y
    rw [a1] at a1'; cases a1'
    rw [a2] at a2'; cases a2'
    rw [← a4 z] at b; rw [← a4' z] at b'
    exact Option.some.inj (b.symm.trans b')
  | cell c =>
    obtain ⟨o, a, b⟩ := x
    obtain ⟨o', a', b'⟩ := y
    rw [a] at a'; cases a'
    rw [b] at b'; cases b'; rfl
theorem LocEx.some {h : Heap} {l : Loc} (x : LocEx h l) : ∃ o, h.get? l.addr = some o := by
  cases l with
  | ns L z => obtain ⟨m, o, _, _, e, _⟩ := x; exact ⟨o, e⟩
  | cell c => obtain ⟨v, o, e, _⟩ := x; exact ⟨o, e⟩

section
variable {C : Cfg} {Γ : Sc} {l : Nat} {A : Around} {S : Fs} {own : Addr → Option Nat} {env : Env} {ρ : List Slot} {s : Shared} {d : D}
theorem FsOK.locT (ok : FsOK C S) {lc : Loc} (hl : lc ∈ S.locs) : ¬ C.T lc.addr := fun t => by
  obtain ⟨o, e⟩ := ok.bx _ (ok.bT _ t); rw [ok.loc lc hl] at e; cases e
theorem RelS.ownT {h : Heap} (r : RelS C S own h ρ) {a : Addr} {i : Nat} (ho : own a = some i) : ¬ C.T a := fun t => by
  obtain ⟨o, e⟩ := r.ok.bx _ (r.ok.bT _ t); rw [(r.ownx a i ho).1] at e; cases e
theorem FsOK.volNew (ok : FsOK C S) {a : Addr} (hx : ∃ o, S.hb.get? a = some o) (hb : ¬ S.base a) (hown : ∀ i, own a = some i → S.hb.get? a = none) : ¬ (S.fx own).vol a := by
  obtain ⟨o, e⟩ := hx
  rintro (q | q | q)
  · exact hb q
  · obtain ⟨lc, hl, rfl⟩ := q; rw [ok.loc lc hl] at e; cases e
  · obtain ⟨i, hi⟩ := Option.ne_none_iff_exists'.mp q; rw [hown i hi] at e; cases e
theorem lookup_valueAt {h : Heap} {N : Addr → Prop} {kvs : List (Str × Value)} {kds : List (Str × D)} (r : RepE C.prog C.w h N kvs kds) {key : Str} {v : Value} {d : D} (hv : valueAt kvs key = some v) (hd : kds.lookup key = some d) : RepC C h N v d := by
  rcases r.lookup key with ⟨h1, _⟩ | ⟨v', d', h1, h2, r'⟩
  · rw [hv] at h1; cases h1
  · rw [hv] at h1; cases h1; rw [hd] at h2; cases h2; exact r'
theorem RelS.relE {h : Heap} (r : RelS C S own h ρ) : RelE C (S.fx own) h (view ρ) := by
  have hloc : ∀ lc ∈ S.locs, ∃ o, h.get? lc.addr = some o := fun lc hl => (r.locex lc hl).some
  have ownN : ∀ a, own a ≠ none → S.hb.get? a = none ∧ ¬ S.loca a ∧ ∃ o, h.get? a = some o := fun a q => by
    obtain ⟨i, hi⟩ := Option.ne_none_iff_exists'.mp q; exact r.ownx a i hi
  have newc : ∀ a, (S.fx own).new a → ¬ (S.fx own).volc a := fun a n q => by
    rcases q with q | q
    · obtain ⟨o, e⟩ := r.ok.bx a q; rw [n.1] at e; cases e
    · exact n.2 q
  refine ⟨fun a q => ?_, fun a q => q.elim .inl fun z => .inr (.inl z), fun a t => .inl (r.ok.bT a t), fun a o k => ?_, fun a ha => ?_, newc, fun a q => ?_, fun lc hl => ⟨.inr ⟨lc, hl, rfl⟩, r.ok.locT hl⟩, r.locex, r.ok.dist, by rw [view, List.length_map]; exact r.len, fun i d m q => ?_⟩
  · rcases q with q | q | q
    · obtain ⟨o, e⟩ := r.ok.bx a q; exact r.hbx a o e
    · obtain ⟨lc, hl, rfl⟩ := q; exact hloc lc hl
    · exact (ownN a q).2.2
  · exact r.ok.volNew (r.ok.bK a o k).2 (r.ok.bK a o k).1 fun i hi => (r.ownx a i hi).1
  · exact r.ok.volNew (r.ok.blow a ha).2 (r.ok.blow a ha).1 fun i hi => (r.ownx a i hi).1
  · refine ⟨?_, fun z => ?_⟩
    · cases e : S.hb.get? a with
      | none => rfl
      | some o => obtain ⟨o', e'⟩ := r.hbx a o e; rw [q] at e'; cases e'
    · obtain ⟨lc, hl, rfl⟩ := z; obtain ⟨o, e⟩ := hloc lc hl; rw [q] at e; cases e
  · rw [view, List.getElem?_map] at q
    obtain ⟨sl, hsl, hq⟩ := Option.map_eq_some_iff.mp q
    have weakT : ∀ {k : Nat} {v : Value} {d : D} {O : List Addr} {i : Nat}, OwnT C.prog C.w h (fun a => ¬ (S.fx own).vol a) k v d O → (∀ a ∈ O, own a = some i) → RepC C h (fun a => ¬ (S.fx own).volc a) v d :=
      fun t f => t.rep (fun a n q => n (q.elim .inl fun z => .inr (.inl z))) fun a ha => newc a ⟨(r.ownx a _ (f a ha)).1, (r.ownx a _ (f a ha)).2.1⟩
    cases sl with
    | un => cases hq
    | val k dd =>
      match k, hq, hsl with
      | 0, hq, hsl =>
        cases hq
        exact r.slot0 i d hsl
      | 1, hq, hsl =>
        cases hq
        obtain ⟨lc, v, O, h1, h2, h3, h4, h5⟩ := r.tree i 0 d hsl
        exact ⟨lc, v, h1, h2, O, h3, fun a ha => ⟨(r.ownx a i (h5 a ha)).1, (r.ownx a i (h5 a ha)).2.1⟩⟩
      | k + 2, hq, hsl =>
        cases hq
        obtain ⟨lc, v, O, h1, h2, h3, h4, h5⟩ := r.tree i (k + 1) d hsl
        exact ⟨lc, v, h1, h2, weakT h3 h5⟩
    | pl j key =>
      simp only [slotView] at hq
      split at hq
      · rename_i kj kds hj
        obtain ⟨d', hd', e⟩ := Option.map_eq_some_iff.mp hq
        cases e
        obtain ⟨lc, lj, a, v, kvs, h1, h2, h3, h4, h5, h6, _⟩ := r.place i j key hsl
        refine ⟨lc, v, h1, h2, ?_⟩
        show RepC C h (fun a => ¬ (S.fx own).volc a) v d
        have key' : ∀ {v' : Value}, RepC C h (fun a => ¬ (S.fx own).volc a) v' (.dict kds) → v' = .ref a → RepC C h (fun a => ¬ (S.fx own).volc a) v d := by
          intro v' x e
          subst e
          cases x with
          | dict n q p l rr =>
            obtain rfl := dictOf_inj h5 p
            exact lookup_valueAt rr h6 hd'
        cases kj with
        | zero =>
          obtain ⟨l', v', a1, a2, a3⟩ := r.slot0 j _ hj
          rw [h3] at a1; cases a1
          exact key' (a3.trans (fun a n q => n (q.elim .inl fun z => .inr (.inl z))) fun _ _ _ e => e) (a2.inj h4)
        | succ kj =>
          obtain ⟨l', v', O, a1, a2, a3, a4, a5⟩ := r.tree j kj _ hj
          rw [h3] at a1; cases a1
          exact key' (weakT a3 a5) (a2.inj h4)
      · cases hq
theorem RelS.ext {s s' : Shared} (r : RelS C S own s.heap ρ) (e : Ext C s s') : RelS C S own s'.heap ρ := by
  have kl : ∀ lc ∈ S.locs, ∀ o, s.heap.get? lc.addr = some o → s'.heap.get? lc.addr = some o := fun lc hl o => e.keep _ o (r.ok.locT hl)
  have kv : ∀ a o, ¬ (S.fx own).vol a → s.heap.get? a = some o → s'.heap.get? a = some o := fun a o n => e.keep a o fun t => n (.inl (r.ok.bT a t))
  refine ⟨r.ok, fun a o q => let ⟨o', z⟩ := r.hbx a o q; e.dom a o' z, fun lc hl => (r.locex lc hl).kept (kl lc hl), r.len, fun a i ho => ?_, fun i d q => ?_, fun i k d q => ?_, fun i j key q => ?_⟩
  · obtain ⟨h1, h2, o, h3⟩ := r.ownx a i ho; exact ⟨h1, h2, e.dom a o h3⟩
  · obtain ⟨lc, v, h1, h2, h3⟩ := r.slot0 i d q
    exact ⟨lc, v, h1, h2.kept (kl lc (List.mem_of_getElem? h1)), h3.trans (fun _ n => n) kv⟩
  · obtain ⟨lc, v, O, h1, h2, h3, h4, h5⟩ := r.tree i k d q
    exact ⟨lc, v, O, h1, h2.kept (kl lc (List.mem_of_getElem? h1)), h3.trans (fun _ n => n) kv fun a ha o => e.keep a o (r.ownT (h5 a ha)), h4, h5⟩
  · obtain ⟨lc, lj, a, v, kvs, h1, h2, h3, h4, h5, h6, h7⟩ := r.place i j key q
    exact ⟨lc, lj, a, v, kvs, h1, h2.kept (kl lc (List.mem_of_getElem? h1)), h3, h4.kept (kl lj (List.mem_of_getElem? h3)), DictOf.at h5 fun o => e.keep a o (r.ownT h7), h6, h7⟩
end
end Mine

set_option autoImplicit false
open PySem PyProof.Rows
namespace Mine
set_option linter.unusedVariables false

def setOwn (own : Addr → Option Nat) (O : List Addr) (i : Nat) : Addr → Option Nat := fun a => if a ∈ O then some i else own a
def clr (i : Nat) : Slot → Slot
  | .pl j key => if j = i then .un else .pl j key
  | x => x
def put (ρ : List Slot) (i : Nat) (x : Slot) : List Slot := (ρ.map (clr i)).set i x
section
variable {C : Cfg} {Γ : Sc} {l : Nat} {A : Around} {S : Fs} {own : Addr → Option Nat} {env : Env} {ρ : List Slot} {s : Shared} {d : D}
theorem RelS.give' {own' : Addr → Option Nat} {s s' : Shared} (r : RelS C S own s.heap ρ) (e : Ext C s s') (p4 : ∀ a, (∃ o, s.heap.get? a = some o) → own' a = own a) (hx : ∀ a, own' a ≠ none → ∃ o, s'.heap.get? a = some o) : RelS C S own' s'.heap ρ := by
  have r' := r.ext e
  have hloc : ∀ lc ∈ S.locs, ∃ o, s.heap.get? lc.addr = some o := fun lc hl => (r.locex lc hl).some
  have vol' : ∀ a, (∃ o, s.heap.get? a = some o) → ¬ (S.fx own).vol a → ¬ (S.fx own').vol a := fun a hx n q => by
    rcases q with q | q | q
    · exact n (.inl q)
    · exact n (.inr (.inl q))
    · rw [p4 a hx] at q; exact n (.inr (.inr q))
  refine ⟨r.ok, r'.hbx, r'.locex, r.len, fun a j ho => ?_, fun j d q => ?_, fun j k d q => ?_, fun j jj key q => ?_⟩
  · cases z : s.heap.get? a with
    | some o => rw [p4 a ⟨o, z⟩] at ho; exact r'.ownx a j ho
    | none =>
      refine ⟨?_, fun w => ?_, hx a (by rw [ho]; exact fun w => by cases w)⟩
      · cases q : S.hb.get? a with
        | none => rfl
        | some o => obtain ⟨o', q'⟩ := r.hbx a o q; rw [z] at q'; cases q'
      · obtain ⟨lc, hl, rfl⟩ := w; obtain ⟨o, q⟩ := hloc lc hl; rw [z] at q; cases q
  · obtain ⟨lc, v, h1, h2, h3⟩ := r.slot0 j d q
    exact ⟨lc, v, h1, h2.kept fun o => e.keep _ o (r.ok.locT (List.mem_of_getElem? h1)), h3.ex.trans (fun a n => vol' a n.2 n.1) fun a o n z => e.keep a o (fun t => n.1 (.inl (r.ok.bT a t))) z⟩
  · obtain ⟨lc, v, O', h1, h2, h3, h4, h5⟩ := r.tree j k d q
    exact ⟨lc, v, O', h1, h2.kept fun o => e.keep _ o (r.ok.locT (List.mem_of_getElem? h1)), h3.ex.1.trans (fun a n => vol' a n.2 n.1) (fun a o n z => e.keep a o (fun t => n.1 (.inl (r.ok.bT a t))) z) (fun a ha o => e.keep a o (r.ownT (h5 a ha))), h4, fun a ha => (p4 a (h3.ex.2 a ha)).trans (h5 a ha)⟩
  · obtain ⟨lc, lj, a, v, kvs, h1, h2, h3, h4, h5, h6, h7⟩ := r'.place j jj key q
    exact ⟨lc, lj, a, v, kvs, h1, h2, h3, h4, h5, h6, (p4 a (r.ownx a jj h7).2.2).trans h7⟩
/-- fresh objects are given to a slot -/
theorem RelS.give {s s' : Shared} {O : List Addr} {i : Nat} (r : RelS C S own s.heap ρ) (e : Ext C s s') (hf : ∀ a ∈ O, s.heap.get? a = none) (hx : ∀ a ∈ O, ∃ o, s'.heap.get? a = some o) : RelS C S (setOwn own O i) s'.heap ρ :=
  r.give' e (fun a ⟨o, q⟩ => if_neg fun hm => by rw [hf a hm] at q; cases q) fun a q => by
    unfold setOwn at q
    split at q
    · rename_i hm; exact hx a hm
    · obtain ⟨j, hj⟩ := Option.ne_none_iff_exists'.mp q
      obtain ⟨_, _, o, z⟩ := r.ownx a j hj
      exact e.dom a o z
/-- what a stored value must be -/
def StoreOK (C : Cfg) (S : Fs) (own : Addr → Option Nat) (h : Heap) (i : Nat) : Nat → Value → D → Prop
  | 0, v, d => RepC C h (fun a => ¬ (S.fx own).vol a) v d
  | k + 1, v, d => ∃ O, OwnT C.prog C.w h (fun a => ¬ (S.fx own).vol a) (k + 1) v d O ∧ O.Nodup ∧ ∀ a ∈ O, own a = some i
theorem getElem_put {ρ : List Slot} {i j : Nat} {x y : Slot} (h : (put ρ i x)[j]? = some y) (hl : i < ρ.length) : (j = i ∧ y = x) ∨ (j ≠ i ∧ ∃ y', ρ[j]? = some y' ∧ y = clr i y') := by
  unfold put at h
  by_cases hj : j = i
  · subst hj
    rw [List.getElem?_set_self (by simpa using hl)] at h
    cases h; exact .inl ⟨rfl, rfl⟩
  · rw [List.getElem?_set_ne (fun e => hj e.symm), List.getElem?_map] at h
    obtain ⟨y', h1, h2⟩ := Option.map_eq_some_iff.mp h
    exact .inr ⟨hj, y', h1, h2.symm⟩
theorem RelS.store {h h' : Heap} {i k : Nat} {lc : Loc} {v : Value} (r : RelS C S own h ρ) (hi : S.locs[i]? = some lc) (hsb : ∀ b, b ≠ lc.addr → h'.get? b = h.get? b) (hv : LocHas h' lc v)
    (hns : ∀ L x, lc = .ns L x → ∀ m, h.Ns L m → h'.Ns L (fun y => if y = x then some v else m y)) (rv : StoreOK C S own h i k v d) : RelS C S own h' (put ρ i (.val k d)) := by
  have hil : i < ρ.length := by rw [r.len]; exact (List.getElem?_eq_some_iff.mp hi).1
  have hmem := List.mem_of_getElem? hi
  have hla : S.loca lc.addr := ⟨lc, hmem, rfl⟩
  have hex : ∃ o, h'.get? lc.addr = some o := by
    cases lc with
    | ns L x => obtain ⟨m, ⟨o, _, _, e, _⟩, _⟩ := hv; exact ⟨o, e⟩
    | cell c => obtain ⟨o, e, _⟩ := hv; exact ⟨o, e⟩
  have kx : ∀ a, (∃ o, h.get? a = some o) → ∃ o, h'.get? a = some o := fun a ⟨o, q⟩ => by
    by_cases ha : a = lc.addr
    · subst ha; exact hex
    · exact ⟨o, (hsb a ha).trans q⟩
  have kv : ∀ a o, ¬ (S.fx own).vol a → h.get? a = some o → h'.get? a = some o := fun a o n q => (hsb a (fun e => n (.inr (.inl (e ▸ hla))))).trans q
  have ko : ∀ a j, own a = some j → ∀ o, h.get? a = some o → h'.get? a = some o := fun a j ho o q => (hsb a (fun e => (r.ownx a j ho).2.1 (e ▸ hla))).trans q
  have other : ∀ (j : Nat) (lj : Loc), S.locs[j]? = some lj → j ≠ i → ∀ u, LocHas h lj u → LocHas h' lj u := by
    intro j lj hj hne u hu
    by_cases ha : lj.addr = lc.addr
    · obtain ⟨L, x, y, rfl, rfl, hxy⟩ := r.ok.dist j i lj lc hj hi hne ha
      obtain ⟨m, hm, hmu⟩ := hu
      exact ⟨_, hns L y rfl m hm, by rw [if_neg hxy]; exact hmu⟩
    · exact hu.kept fun o q => (hsb _ ha).trans q
  refine ⟨r.ok, fun a o q => kx a (r.hbx a o q), fun lj hlj => ?_, by simp [put, r.len], fun a j ho => ⟨(r.ownx a j ho).1, (r.ownx a j ho).2.1, kx a (r.ownx a j ho).2.2⟩, fun j dj q => ?_, fun j kj dj q => ?_, fun j jj key q => ?_⟩
  · obtain ⟨j, hj⟩ := List.mem_iff_getElem?.mp hlj
    by_cases hji : j = i
    · subst hji; rw [hi] at hj; cases hj
      cases lc with
      | ns L x => obtain ⟨m, a, _⟩ := hv; exact ⟨m, a⟩
      | cell c => exact ⟨_, hv⟩
    · by_cases ha : lj.addr = lc.addr
      · obtain ⟨L, x, y, rfl, rfl, hxy⟩ := r.ok.dist j i lj lc hj hi hji ha
        obtain ⟨m, hm⟩ := r.locex _ hlj
        exact ⟨_, hns L y rfl m hm⟩
      · exact (r.locex lj hlj).kept fun o q => (hsb _ ha).trans q
  · rcases getElem_put q hil with ⟨rfl, e⟩ | ⟨hji, y, hy, e⟩
    · cases e
      exact ⟨lc, v, hi, hv, Rep.trans (fun _ n => n) kv rv⟩
    · cases y with
      | un => cases e
      | val k' d' =>
        cases e
        obtain ⟨lj, u, h1, h2, h3⟩ := r.slot0 j _ hy
        exact ⟨lj, u, h1, other j lj h1 hji u h2, h3.trans (fun _ n => n) kv⟩
      | pl a b => simp only [clr] at e; split at e <;> exact Slot.noConfusion e
  · rcases getElem_put q hil with ⟨rfl, e⟩ | ⟨hji, y, hy, e⟩
    · cases e
      obtain ⟨O, t, nd, f⟩ := rv
      exact ⟨lc, v, O, hi, hv, t.trans (fun _ n => n) kv (fun a ha => ko a _ (f a ha)), nd, f⟩
    · cases y with
      | un => cases e
      | val k' d' =>
        cases e
        obtain ⟨lj, u, O, h1, h2, h3, h4, h5⟩ := r.tree j _ _ hy
        exact ⟨lj, u, O, h1, other j lj h1 hji u h2, h3.trans (fun _ n => n) kv (fun a ha => ko a _ (h5 a ha)), h4, h5⟩
      | pl a b => simp only [clr] at e; split at e <;> exact Slot.noConfusion e
  · rcases getElem_put q hil with ⟨rfl, e⟩ | ⟨hji, y, hy, e⟩
    · cases e
    · cases y with
      | un => cases e
      | val k' d' => cases e
      | pl a b =>
        simp only [clr] at e
        split at e
        · exact Slot.noConfusion e
        · rename_i hai
          obtain ⟨rfl, rfl⟩ := Slot.pl.inj e
          obtain ⟨l1, l2, a, u, kvs, h1, h2, h3, h4, h5, h6, h7⟩ := r.place j jj key hy
          exact ⟨l1, l2, a, u, kvs, h1, other j l1 h1 hji u h2, h3, other jj l2 h3 hai _ h4, DictOf.at h5 fun o => ko a _ h7 o, h6, h7⟩
end
end Mine

set_option autoImplicit false
open PySem PyProof.Rows
namespace Mine
set_option linter.unusedVariables false

inductive Out where
  | next (ρ : List Slot)
  | ret (d : D)
def Fs.mut (S : Fs) (own : Addr → Option Nat) (a : Addr) : Prop := S.loca a ∨ ∃ i, i < S.locs.length ∧ own a = some i
structure SCx (C : Cfg) (Γ : Sc) (l : Nat) (A : Around) (S : Fs) (own : Addr → Option Nat) (env : Env) (ρ : List Slot) (s : Shared) : Prop where
  room : Room A l
  env : EnvOK Γ (S.fx own) env
  rel : RelS C S own s.heap ρ
  glob : GlobOK C s.heap
/-- what becomes of the marks -/
structure OwnStep (S : Fs) (own : Addr → Option Nat) (s : Shared) (own' : Addr → Option Nat) : Prop where
  p1 : ∀ a i, i < S.locs.length → own' a = some i → (∃ i', i' < S.locs.length ∧ own a = some i') ∨ s.heap.get? a = none
  p2 : ∀ a n, S.locs.length ≤ n → own a = some n → own' a = some n
  p3 : ∀ a n, S.locs.length ≤ n → own' a = some n → own a = some n ∨ s.heap.get? a = none
theorem OwnStep.refl (S : Fs) (own : Addr → Option Nat) (s : Shared) : OwnStep S own s own := ⟨fun a i hi q => .inl ⟨i, hi, q⟩, fun a n _ q => q, fun a n _ q => .inl q⟩
theorem OwnStep.trans {S : Fs} {own own' own'' : Addr → Option Nat} {s s' : Shared} (x : OwnStep S own s own') (y : OwnStep S own' s' own'') (hn : ∀ a, s'.heap.get? a = none → s.heap.get? a = none) : OwnStep S own s own'' := by
  refine ⟨fun a i hi q => ?_, fun a n h q => y.p2 a n h (x.p2 a n h q), fun a n h q => ?_⟩
  · rcases y.p1 a i hi q with ⟨i', hi', q'⟩ | z
    · exact x.p1 a i' hi' q'
    · exact .inr (hn a z)
  · rcases y.p3 a n h q with z | z
    · exact x.p3 a n h z
    · exact .inr (hn a z)
def Nx (C : Cfg) (S : Fs) (own : Addr → Option Nat) (s : Shared) (ρ' : List Slot) (s' : Shared) : Prop :=
  ∃ own', RelS C S own' s'.heap ρ' ∧ GlobOK C s'.heap ∧ ExtV C (S.mut own) s s' ∧ OwnStep S own s own'
def SPost (C : Cfg) (S : Fs) (own : Addr → Option Nat) (s : Shared) (rf : Bool) : Out → Flow → Shared → Prop
  | .next ρ', fl, s' => fl = .next ∧ Nx C S own s ρ' s'
  | .ret d, fl, s' => ∃ v, fl = .ret v ∧ ExtV C (S.mut own) s s' ∧ RepC C s'.heap (fun a => ¬ S.base a) v d ∧ (rf = true → ∀ a, v = .ref a → S.hb.get? a = none)
def StOK (C : Cfg) (Γ : Sc) (l : Nat) (rf : Bool) (st : Stmt) (G : List Slot → Option Out) : Prop :=
  ∀ (A : Around) (S : Fs) (own : Addr → Option Nat) (env : Env) (ρ : List Slot) (s : Shared) (out : Out), SCx C Γ l A S own env ρ s → G ρ = some out → Wp C A (exec st env) (SPost C S own s rf out) s
def SOK (C : Cfg) (Γ : Sc) (l : Nat) (rf : Bool) (ss : List Stmt) (G : List Slot → Option Out) : Prop :=
  ∀ (A : Around) (S : Fs) (own : Addr → Option Nat) (env : Env) (ρ : List Slot) (s : Shared) (out : Out), SCx C Γ l A S own env ρ s → G ρ = some out → Wp C A (execs ss env) (SPost C S own s rf out) s
def Out.bind (o : Out) (g : List Slot → Option Out) : Option Out := match o with | .next ρ => g ρ | .ret d => some (.ret d)
def seqG (g₁ g₂ : List Slot → Option Out) : List Slot → Option Out := fun ρ => (g₁ ρ).bind fun o => o.bind g₂

section
variable {C : Cfg} {Γ : Sc} {l : Nat} {A : Around} {S : Fs} {own : Addr → Option Nat} {env : Env} {ρ ρ' : List Slot} {s s' s'' : Shared} {d : D} {rf : Bool} {st : Stmt} {ss : List Stmt} {g g₁ g₂ : List Slot → Option Out} {out : Out}
theorem EnvOK.fx {F F' : Fx} (x : EnvOK Γ F env) (h : F'.locs = F.locs) : EnvOK Γ F' env := ⟨x.kind, x.names, x.gl, x.bl, fun y i q => by rw [h]; exact x.slot y i q⟩
theorem SCx.cx (c : SCx C Γ l A S own env ρ s) : Cx C Γ l A (S.fx own) env (view ρ) s := ⟨c.room, c.env, c.rel.relE, c.glob⟩
theorem SCx.ext (c : SCx C Γ l A S own env ρ s) (e : Ext C s s') : SCx C Γ l A S own env ρ s' := ⟨c.room, c.env, c.rel.ext e, c.glob.ext e⟩
theorem SCx.of {own' : Addr → Option Nat} (c : SCx C Γ l A S own env ρ s) (r : RelS C S own' s'.heap ρ') (g : GlobOK C s'.heap) : SCx C Γ l A S own' env ρ' s' := ⟨c.room, c.env.fx rfl, r, g⟩
theorem mut_old {own' : Addr → Option Nat} (h : ∀ a i, i < S.locs.length → own' a = some i → (∃ i', i' < S.locs.length ∧ own a = some i') ∨ s.heap.get? a = none) : ∀ b, S.mut own' b → S.mut own b ∨ s.heap.get? b = none := fun b q => by
  rcases q with q | ⟨i, hi, q⟩
  · exact .inl (.inl q)
  · rcases h b i hi q with z | z
    · exact .inl (.inr z)
    · exact .inr z
theorem SPost.after (x : Nx C S own s ρ' s') {Q : Prop} (k : ∀ own', RelS C S own' s'.heap ρ' → GlobOK C s'.heap → (∀ out fl s'', SPost C S own' s' rf out fl s'' → SPost C S own s rf out fl s'') → Q) : Q := by
  obtain ⟨own', r, g, e, p⟩ := x
  refine k own' r g fun out fl s'' h => ?_
  cases out with
  | next ρ'' =>
    obtain ⟨rfl, own'', r', g', e', p'⟩ := h
    exact ⟨rfl, own'', r', g', e.trans e' (mut_old p.p1), p.trans p' fun a z => e.none z⟩
  | ret d =>
    obtain ⟨v, rfl, e', rv, f⟩ := h
    exact ⟨v, rfl, e.trans e' (mut_old p.p1), rv, f⟩
theorem Nx.refl (c : SCx C Γ l A S own env ρ s) : Nx C S own s ρ s := ⟨own, c.rel, c.glob, (Ext.refl C s).v, .refl ..⟩
theorem Nx.ext (c : SCx C Γ l A S own env ρ s) (e : Ext C s s') : Nx C S own s ρ s' := ⟨own, c.rel.ext e, c.glob.ext e, e.v, .refl ..⟩
theorem Nx.trans {own' : Addr → Option Nat} (e : Ext C s s') (x : Nx C S own s' ρ' s'') : Nx C S own s ρ' s'' := by
  obtain ⟨own', r, g, ex, p⟩ := x
  exact ⟨own', r, g, (e.v (V := S.mut own)).trans ex fun b v => .inl v, (OwnStep.refl S own s).trans p fun a z => e.none z⟩
theorem SPost.pre (e : Ext C s s') {fl : Flow} (x : SPost C S own s' rf out fl s'') : SPost C S own s rf out fl s'' := by
  cases out with
  | next ρ'' => exact ⟨x.1, Nx.trans (own' := own) e x.2⟩
  | ret d =>
    obtain ⟨v, rfl, e', rv, f⟩ := x
    exact ⟨v, rfl, (e.v (V := S.mut own)).trans e' fun b v => .inl v, rv, f⟩
theorem s_nil : SOK C Γ l rf [] (fun ρ => some (.next ρ)) := by
  intro A S own env ρ s out c h
  cases h
  exact wpAny_execs_nil ⟨rfl, Nx.refl c⟩
theorem s_cons (x : StOK C Γ l rf st g₁) (y : SOK C Γ l rf ss g₂) : SOK C Γ l rf (st :: ss) (seqG g₁ g₂) := by
  intro A S own env ρ s out c h
  obtain ⟨o, h₁, h₂⟩ := Option.bind_eq_some_iff.mp h
  refine wpAny_execs_cons (wpAny_mono (x A S own env ρ s o c h₁) (fun fl s₁ k => ?_) fun _ _ e => e)
  cases o with
  | next ρ₁ =>
    obtain ⟨rfl, k⟩ := k
    exact SPost.after k fun own' r g' tr => wpAny_mono (y A S own' env ρ₁ s₁ out (c.of r g') h₂) (fun fl s₂ k₂ => tr _ _ _ k₂) fun _ _ e => e
  | ret d =>
    cases h₂
    obtain ⟨v, rfl, k⟩ := k
    exact ⟨v, rfl, k⟩
def ifG (b : EEnv → Option Bool) (g₁ g₂ : List Slot → Option Out) : List Slot → Option Out := fun ρ => (b (view ρ)).bind fun r => if r then g₁ ρ else g₂ ρ
theorem s_if {e : Expr} {b : EEnv → Option Bool} {ss₁ ss₂ : List Stmt} {p : Pos} (xb : BOK C Γ l e b) (x : SOK C Γ l rf ss₁ g₁) (y : SOK C Γ l rf ss₂ g₂) : StOK C Γ l rf (.If e ss₁ ss₂ p) (ifG b g₁ g₂) := by
  intro A S own env ρ s out c h
  obtain ⟨r, h₁, h₂⟩ := Option.bind_eq_some_iff.mp h
  refine wpAny_If (xb.run c.cx h₁ fun s₁ e₁ _ => ?_)
  cases r with
  | true => exact wpAny_mono (x A S own env ρ s₁ out (c.ext e₁) h₂) (fun fl s₂ k => k.pre e₁) fun _ _ e => e
  | false => exact wpAny_mono (y A S own env ρ s₁ out (c.ext e₁) h₂) (fun fl s₂ k => k.pre e₁) fun _ _ e => e
/-- is the root of it new since the call? -/
def Mk.fre : Mk → D → Bool
  | .own (_ + 1), d => d.cont || d.imm
  | .bor, d => d.cont || d.imm
  | .fu, _ => true
  | _, d => d.imm
theorem RelS.hbNone {h : Heap} {a : Addr} (r : RelS C S own h ρ) (q : h.get? a = none) : S.hb.get? a = none := by
  cases z : S.hb.get? a with
  | none => rfl
  | some o => obtain ⟨o', z'⟩ := r.hbx a o z; rw [q] at z'; cases z'
theorem imm_ref {N : Addr → Prop} {h : Heap} {a : Addr} (hi : d.imm = true) (x : RepC C h N (.ref a) d) : False := by cases x <;> cases hi
theorem fre_ok {m : Mk} {v : Value} (c : SCx C Γ l A S own env ρ s) (e : Ext C s s') (x : MkRep C (S.fx own) s.heap s'.heap m v d) (hf : m.fre d = true) : ∀ a, v = .ref a → S.hb.get? a = none := by
  intro a ea
  subst ea
  have w := c.cx.weak e x
  cases m with
  | fr => exact (imm_ref hf w).elim
  | unk => exact (imm_ref hf w).elim
  | fu => exact c.rel.hbNone (x.2 a rfl)
  | own k =>
    cases k with
    | zero => exact (imm_ref hf w).elim
    | succ k =>
      obtain ⟨O, t, _, f⟩ := x
      cases t with
      | fz q _ => 
        rcases Bool.or_eq_true_iff.mp hf with z | z
        · rw [q] at z; cases z
        · exact (imm_ref z w).elim
      | list => exact c.rel.hbNone (f a (.head _))
      | dict => exact c.rel.hbNone (f a (.head _))
  | bor =>
    obtain ⟨O, t, f⟩ := x
    cases t with
    | fz q _ => 
      rcases Bool.or_eq_true_iff.mp hf with z | z
      · rw [q] at z; cases z
      · exact (imm_ref z w).elim
    | list => exact (f a (.head _)).1
    | dict => exact (f a (.head _)).1
def retG (rf : Bool) (f : EEnv → Option D) (m : EEnv → Mk) : List Slot → Option Out := fun ρ => (f (view ρ)).bind fun d => if !rf || (m (view ρ)).fre d then some (.ret d) else none
theorem s_ret {e : Expr} {f : EEnv → Option D} {m : EEnv → Mk} {p : Pos} (x : EvOK C Γ l e f m) : StOK C Γ l rf (.Return (some e) p) (retG rf f m) := by
  intro A S own env ρ s out c h
  obtain ⟨d, h₁, h₂⟩ := Option.bind_eq_some_iff.mp h
  split at h₂
  case isFalse => cases h₂
  rename_i hg
  cases h₂
  refine wpAny_Return_some (x.run c.cx h₁ fun v s₁ e₁ c₁ r₁ => ?_)
  refine ⟨v, rfl, e₁.v, (c.cx.weak e₁ r₁).trans (fun a n q => n (.inl q)) fun _ _ _ z => z, fun hr => ?_⟩
  rw [hr] at hg
  exact fre_ok c e₁ r₁ hg
/-- a value is kept in a name -/
theorem storeS {x : Str} {i k : Nat} {v : Value} (c : SCx C Γ l A S own env ρ s) (hx : Γ.slots.lookup x = some i) (rv : StoreOK C S own s.heap i k v d) : Wp C A (storeName env x v) (fun _ s' => Nx C S own s (put ρ i (.val k d)) s' ∧ RelS C S own s'.heap (put ρ i (.val k d)) ∧ ExtV C (S.loca) s s') s := by
  have ev : ∀ (lc : Loc) (h' : Heap) (tk : Nat), S.locs[i]? = some lc → (∀ b, b ≠ lc.addr → h'.get? b = s.heap.get? b) → (∃ o, h'.get? lc.addr = some o) → ExtV C S.loca s { s with heap := h', toks := tk } := by
    intro lc h' tk hm hsb hex
    have hla : S.loca lc.addr := ⟨lc, List.mem_of_getElem? hm, rfl⟩
    have kk : ∀ b o, ¬ S.loca b → s.heap.get? b = some o → h'.get? b = some o := fun b o n q => (hsb b (fun e => n (e ▸ hla))).trans q
    refine ⟨fun b o _ n q => kk b o n q, fun b o q => ?_, vol_tab (V := S.loca) ?_ ?_ kk, id, rfl⟩
    · by_cases hb : b = lc.addr
      · subst hb; exact hex
      · exact ⟨o, (hsb b hb).trans q⟩
    · rintro b ⟨lc', hm', rfl⟩; exact c.rel.ok.locT hm'
    · rintro b o k ⟨lc', hm', rfl⟩; obtain ⟨o', z⟩ := (c.rel.ok.bK _ o k).2; rw [c.rel.ok.loc lc' hm'] at z; cases z
  have fin : ∀ (h' : Heap) (tk : Nat), ExtV C S.loca s { s with heap := h', toks := tk } → RelS C S own h' (put ρ i (.val k d)) → Nx C S own s (put ρ i (.val k d)) { s with heap := h', toks := tk } ∧ RelS C S own h' (put ρ i (.val k d)) ∧ ExtV C S.loca s { s with heap := h', toks := tk } := by
    intro h' tk e r
    refine ⟨⟨own, r, ?_, e.mono fun b q => .inl q, .refl ..⟩, r, e⟩
    exact locA_glob c.cx e
  rcases c.env.slot x i hx with ⟨q, nk⟩ | ⟨cc, q, nk, ck⟩
  · have hm := List.mem_of_getElem? q
    obtain ⟨m, hn⟩ := c.rel.locex _ hm
    refine wpAny_storeName_local (by unfold Env.kindOf; rw [c.env.names]; exact nk) hn (fun h' hn' hs' => ?_) (by rw [c.env.kind]; rfl)
    refine fin h' _ (ev _ h' _ q (fun b hb => hs'.2 b hb) (let ⟨o, _, _, e, _⟩ := hn'; ⟨o, e⟩)) ?_
    refine c.rel.store q (fun b hb => hs'.2 b hb) ⟨_, hn', by simp⟩ (fun L y e m' hm' => ?_) rv
    cases e
    obtain ⟨o1, es1, ep1, a1, a2, a3, a4⟩ := hn
    obtain ⟨o2, es2, ep2, b1, b2, b3, b4⟩ := hm'
    rw [a1] at b1; cases b1
    rw [a2] at b2; cases b2
    have : m' = m := funext fun z => (b4 z).symm.trans (a4 z)
    rw [this]
    exact hn'
  · have hm := List.mem_of_getElem? q
    obtain ⟨v₀, hc₀⟩ := c.rel.locex _ hm
    refine wpAny_storeName_cell c.env.kind (by unfold Env.kindOf; rw [c.env.names]; exact nk) ck hc₀ fun h' hc' hs' => ?_
    exact fin h' _ (ev _ h' _ q (fun b hb => hs'.2 b hb) (let ⟨o, e, _⟩ := hc'; ⟨o, e⟩)) (c.rel.store q (fun b hb => hs'.2 b hb) hc' (fun L y e m' hm' => by cases e) rv)
def keepB (k : Nat) (m : Mk) (d : D) : Bool := match k with | 0 => m.cl d | k + 1 => m.isOwn (k + 1)
def asgG (i k : Nat) (f : EEnv → Option D) (m : EEnv → Mk) : List Slot → Option Out := fun ρ => (f (view ρ)).bind fun d => if keepB k (m (view ρ)) d then some (.next (put ρ i (.val k d))) else none
theorem OwnStep.of {own' : Addr → Option Nat} (c : SCx C Γ l A S own env ρ s) (p : ∀ a, (∃ o, s.heap.get? a = some o) → own' a = own a) : OwnStep S own s own' := by
  refine ⟨fun a i hi q => ?_, fun a n _ q => (p a (c.rel.ownx a n q).2.2).trans q, fun a n _ q => ?_⟩
  · cases z : s.heap.get? a with
    | none => exact .inr rfl
    | some o => rw [p a ⟨o, z⟩] at q; exact .inl ⟨i, hi, q⟩
  · cases z : s.heap.get? a with
    | none => exact .inr rfl
    | some o => rw [p a ⟨o, z⟩] at q; exact .inl q
/-- a new value becomes the slot's -/
theorem keep_new {i k : Nat} {mk : Mk} {v : Value} (c : SCx C Γ l A S own env ρ s) (e : Ext C s s') (x : MkRep C (S.fx own) s.heap s'.heap mk v d) (hk : keepB k mk d = true) :
    ∃ own' O, RelS C S own' s'.heap ρ ∧ OwnT C.prog C.w s'.heap (fun a => ¬ (S.fx own').vol a) k v d O ∧ O.Nodup ∧ (∀ a ∈ O, own' a = some i ∧ s.heap.get? a = none) ∧ (∀ a, (∃ o, s.heap.get? a = some o) → own' a = own a) := by
  cases k with
  | zero => exact ⟨own, [], c.rel.ext e, .fz0 (x.clean c.cx.rel.hv hk), List.nodup_nil, fun _ h => (nomatch h), fun _ _ => rfl⟩
  | succ k =>
    have em : mk = .own (k + 1) := Mk.of_isOwn hk
    subst em
    obtain ⟨O, t, nd, f⟩ := x
    refine ⟨setOwn own O i, O, c.rel.give e f t.ex.2, t.trans (fun a n q => ?_) (fun _ _ _ z => z) fun _ _ _ z => z, nd, fun a ha => ⟨if_pos ha, f a ha⟩, fun a ⟨o, z⟩ => ?_⟩
    · rcases q with q | q | q
      · exact n.1 (.inl q)
      · exact n.1 (.inr (.inl q))
      · unfold setOwn at q; rw [if_neg n.2] at q; exact n.1 (.inr (.inr q))
    · unfold setOwn
      split
      · rename_i hm; rw [f a hm] at z; cases z
      · rfl
theorem storeOK_of {i k : Nat} {h : Heap} {v : Value} {O : List Addr} (x : OwnT C.prog C.w h (fun a => ¬ (S.fx own).vol a) k v d O) (nd : O.Nodup) (f : ∀ a ∈ O, own a = some i) : StoreOK C S own h i k v d := by
  cases k with
  | zero => cases x with | fz0 r => exact r
  | succ k => exact ⟨O, x, nd, f⟩
theorem slot_lt {x : Str} {i : Nat} (c : SCx C Γ l A S own env ρ s) (hx : Γ.slots.lookup x = some i) : i < S.locs.length := by
  rcases c.env.slot x i hx with ⟨q, _⟩ | ⟨_, q, _⟩ <;> exact (List.getElem?_eq_some_iff.mp q).1
theorem s_assign {x : Str} {pp p : Pos} {i k : Nat} {e : Expr} {f : EEnv → Option D} {m : EEnv → Mk} (hx : Γ.slots.lookup x = some i) (y : EvOK C Γ l e f m)
    (hs : ∀ env : Env, env.scope.names = Γ.names → swapsWith e (some (.Name x pp)) p.line env = pure false) : StOK C Γ l rf (.Assign [.Name x pp] e p) (asgG i k f m) := by
  intro A S own env ρ s out c h
  obtain ⟨d, h₁, h₂⟩ := Option.bind_eq_some_iff.mp h
  split at h₂
  case isFalse => cases h₂
  rename_i hg
  cases h₂
  refine wpAny_Assign_Name (y.run c.cx h₁ fun v s₁ e₁ c₁ r₁ => ?_) (hs env c.env.names)
  obtain ⟨own', O, r', t, nd, fn, p4⟩ := keep_new (i := i) c e₁ r₁ hg
  refine wpAny_mono (storeS (c.of r' (c.glob.ext e₁)) hx (storeOK_of t nd fun a ha => (fn a ha).1)) (fun _ s₂ k => ?_) fun _ _ e => e
  obtain ⟨⟨o', k1, k2, k3, k4⟩, kr, ke⟩ := k
  exact ⟨rfl, own', kr, k2, (e₁.v (V := S.mut own)).trans (V' := S.loca) ke fun b q => .inl (.inl q), .of c p4⟩
end
end Mine

set_option autoImplicit false
open PySem PyProof.Rows
namespace Mine
set_option linter.unusedVariables false

def storedD : List (Str × D) → Str → D → List (Str × D)
  | [], k, d => [(k, d)]
  | (k₀, d₀) :: r, k, d => if k₀ = k then (k₀, d) :: r else (k₀, d₀) :: storedD r k d
def storedV : List (Str × Value) → Str → Value → List (Str × Value)
  | [], k, d => [(k, d)]
  | (k₀, d₀) :: r, k, d => if k₀ = k then (k₀, d) :: r else (k₀, d₀) :: storedV r k d
theorem stored_eq : ∀ {kvs : List (Str × Value)} {k : Str} {v : Value}, (kvs.map (·.1)).Nodup → stored kvs k v = storedV kvs k v
  | [], k, v, _ => rfl
  | (k₀, v₀) :: r, k, v, hn => by
    rw [List.map_cons, List.nodup_cons] at hn
    have ih := stored_eq (k := k) (v := v) hn.2
    unfold storedV
    by_cases hk : k₀ = k
    · subst hk
      rw [if_pos rfl]
      unfold stored
      rw [if_pos (by simp)]
      simp only [List.map_cons, if_true]
      congr 1
      refine (List.map_congr_left fun p hp => ?_).trans (List.map_id _)
      rw [if_neg]
      · rfl
      · intro e; exact hn.1 (List.mem_map.mpr ⟨p, hp, e⟩)
    · rw [if_neg hk, ← ih]
      unfold stored
      by_cases ha : (r.any fun kv => decide (kv.1 = k)) = true
      · rw [if_pos (by simp only [List.any_cons, hk, decide_false, Bool.false_or]; exact ha), if_pos ha]
        simp [hk]
      · rw [if_neg (by simp only [List.any_cons, hk, decide_false, Bool.false_or]; exact ha), if_neg ha]
        rfl
theorem dictOf_nodup {prog : Program} {w : World} {h : Heap} {a : Addr} {kvs : List (Str × Value)} (x : h.DictOf (PySem.strKind prog w) a kvs) : (kvs.map (·.1)).Nodup := by
  obtain ⟨o, es, ep, ho, hc, hd, hk, hp, hn⟩ := x; exact hn
theorem storedV_len {kvs : List (Str × Value)} {k : Str} {v : Value} : (storedV kvs k v).length ≤ kvs.length + 1 := by
  induction kvs with
  | nil => exact Nat.le_refl _
  | cons p r ih =>
    obtain ⟨k₀, v₀⟩ := p
    unfold storedV
    split
    · simp
    · simpa using ih
section
variable {prog : Program} {w : World} {h : Heap} {N : Addr → Prop}
theorem OwnL.app {k : Nat} {v : Value} {d : D} {O₁ : List Addr} (t : OwnT prog w h N k v d O₁) : ∀ {vs : List Value} {ds : List D} {O : List Addr}, OwnL prog w h N k vs ds O → OwnL prog w h N k (vs ++ [v]) (ds ++ [d]) (O ++ O₁)
  | _, _, _, .nil => by have := OwnL.cons t (OwnL.nil (prog := prog) (w := w) (h := h) (N := N) (k := k)); rw [List.append_nil] at this; exact this
  | _, _, _, .cons x r => by have := OwnL.cons x (OwnL.app t r); rw [← List.append_assoc] at this; exact this
theorem OwnL.length {k : Nat} {vs : List Value} {ds : List D} {O : List Addr} (x : OwnL prog w h N k vs ds O) : vs.length = ds.length := by
  induction vs generalizing ds O with
  | nil => cases x; rfl
  | cons v vs ih => cases x with | cons a r => rw [List.length_cons, List.length_cons, ih r]
theorem OwnE.length {k : Nat} {vs : List (Str × Value)} {ds : List (Str × D)} {O : List Addr} (x : OwnE prog w h N k vs ds O) : vs.length = ds.length := by
  induction vs generalizing ds O with
  | nil => cases x; rfl
  | cons v vs ih => cases x with | cons _ a r => rw [List.length_cons, List.length_cons, ih r]
theorem OwnE.put {k : Nat} {v : Value} {d : D} {O₁ : List Addr} {x : Str} (hx : PyData.strOk x = true) (t : OwnT prog w h N k v d O₁) : ∀ {vs : List (Str × Value)} {ds : List (Str × D)} {O : List Addr}, OwnE prog w h N k vs ds O →
    ∃ O', OwnE prog w h N k (storedV vs x v) (storedD ds x d) O' ∧ (∀ a ∈ O', a ∈ O ∨ a ∈ O₁) ∧ (O.Nodup → O₁.Nodup → (∀ a ∈ O, a ∉ O₁) → O'.Nodup)
  | _, _, _, .nil => ⟨O₁ ++ [], .cons hx t .nil, fun a ha => .inr (by simpa using ha), fun _ h _ => by simpa using h⟩
  | _, _, _, @OwnE.cons _ _ _ _ _ y _ kvs _ kds P P' hy u r => by
    unfold storedV storedD
    by_cases e : y = x
    · subst e
      rw [if_pos rfl, if_pos rfl]
      refine ⟨O₁ ++ P', .cons hx t r, fun a ha => ?_, fun h1 h2 h3 => ?_⟩
      · rcases List.mem_append.mp ha with q | q
        · exact .inr q
        · exact .inl (List.mem_append_right _ q)
      · refine List.nodup_append.mpr ⟨h2, (List.nodup_append.mp h1).2.1, fun a ha b hb e => ?_⟩
        subst e
        exact h3 a (List.mem_append_right _ hb) ha
    · rw [if_neg e, if_neg e]
      obtain ⟨O', r', s', n'⟩ := OwnE.put hx t r
      refine ⟨P ++ O', .cons hy u r', fun a ha => ?_, fun h1 h2 h3 => ?_⟩
      · rcases List.mem_append.mp ha with q | q
        · exact .inl (List.mem_append_left _ q)
        · exact (s' a q).imp (List.mem_append_right _) id
      · have hh := List.nodup_append.mp h1
        refine List.nodup_append.mpr ⟨hh.1, n' hh.2.1 h2 fun a ha => h3 a (List.mem_append_right _ ha), fun a ha b hb e => ?_⟩
        subst e
        rcases s' a hb with q | q
        · exact hh.2.2 a ha a q rfl
        · exact h3 a (List.mem_append_left _ ha) q
end
section
variable {C : Cfg} {Γ : Sc} {l : Nat} {A : Around} {S : Fs} {own : Addr → Option Nat} {env : Env} {ρ ρ' : List Slot} {s s' s'' : Shared} {d d' : D} {rf : Bool} {e : Expr} {f : EEnv → Option D} {m : EEnv → Mk}
/-- objects of no slot turn -/
theorem RelS.turn {h h' : Heap} {V : Addr → Prop} (r : RelS C S own h ρ) (hV : ∀ a, V a → ∃ n, S.locs.length ≤ n ∧ own a = some n) (k : ∀ b o, ¬ V b → h.get? b = some o → h'.get? b = some o) (hex : ∀ b, V b → ∃ o, h'.get? b = some o) : RelS C S own h' ρ := by
  have kx : ∀ a, (∃ o, h.get? a = some o) → ∃ o, h'.get? a = some o := fun a ⟨o, q⟩ => by
    by_cases hv : V a
    · exact hex a hv
    · exact ⟨o, k a o hv q⟩
  have nl : ∀ lc ∈ S.locs, ¬ V lc.addr := fun lc hl v => by
    obtain ⟨n, _, q⟩ := hV _ v; exact (r.ownx _ n q).2.1 ⟨lc, hl, rfl⟩
  have kl : ∀ lc ∈ S.locs, ∀ o, h.get? lc.addr = some o → h'.get? lc.addr = some o := fun lc hl o => k _ o (nl lc hl)
  have kv : ∀ a o, ¬ (S.fx own).vol a → h.get? a = some o → h'.get? a = some o := fun a o n => k a o fun v => by
    obtain ⟨i, _, q⟩ := hV a v; exact n (.inr (.inr (by rw [q]; exact fun z => by cases z)))
  have ko : ∀ a i, i < S.locs.length → own a = some i → ∀ o, h.get? a = some o → h'.get? a = some o := fun a i hi ho o => k a o fun v => by
    obtain ⟨n, hn, q⟩ := hV a v; rw [ho] at q; cases q; omega
  refine ⟨r.ok, fun a o q => kx a (r.hbx a o q), fun lc hl => (r.locex lc hl).kept (kl lc hl), r.len, fun a i ho => ?_, fun i d q => ?_, fun i kk d q => ?_, fun i j key q => ?_⟩
  · obtain ⟨h1, h2, h3⟩ := r.ownx a i ho; exact ⟨h1, h2, kx a h3⟩
  · obtain ⟨lc, v, h1, h2, h3⟩ := r.slot0 i d q
    exact ⟨lc, v, h1, h2.kept (kl lc (List.mem_of_getElem? h1)), h3.trans (fun _ n => n) kv⟩
  · obtain ⟨lc, v, O, h1, h2, h3, h4, h5⟩ := r.tree i kk d q
    exact ⟨lc, v, O, h1, h2.kept (kl lc (List.mem_of_getElem? h1)), h3.trans (fun _ n => n) kv fun a ha => ko a i (List.getElem?_eq_some_iff.mp h1).1 (h5 a ha), h4, h5⟩
  · obtain ⟨lc, lj, a, v, kvs, h1, h2, h3, h4, h5, h6, h7⟩ := r.place i j key q
    exact ⟨lc, lj, a, v, kvs, h1, h2.kept (kl lc (List.mem_of_getElem? h1)), h3, h4.kept (kl lj (List.mem_of_getElem? h3)), DictOf.at h5 (ko a j (List.getElem?_eq_some_iff.mp h3).1 h7), h6, h7⟩
/-- the object of a slot turns -/
theorem RelS.mutate {h h' : Heap} {i k : Nat} {a : Addr} {O : List Addr} {v : Value} {lc : Loc} (r : RelS C S own h ρ) (hl : S.locs[i]? = some lc) (hv : LocHas h lc v) (ha : own a = some i) (hsb : ∀ b, b ≠ a → h'.get? b = h.get? b) (hex : ∃ o, h'.get? a = some o)
    (t : OwnT C.prog C.w h' (fun a => ¬ (S.fx own).vol a) (k + 1) v d' O) (nd : O.Nodup) (f : ∀ a ∈ O, own a = some i) : RelS C S own h' (put ρ i (.val (k + 1) d')) := by
  have hil : i < ρ.length := by rw [r.len]; exact (List.getElem?_eq_some_iff.mp hl).1
  have kx : ∀ a, (∃ o, h.get? a = some o) → ∃ o, h'.get? a = some o := fun b ⟨o, q⟩ => by
    by_cases hv : b = a
    · subst hv; exact hex
    · exact ⟨o, (hsb b hv).trans q⟩
  have nl : ∀ lc ∈ S.locs, lc.addr ≠ a := fun lc hl v => (r.ownx _ i ha).2.1 ⟨lc, hl, v⟩
  have kl : ∀ lc ∈ S.locs, ∀ o, h.get? lc.addr = some o → h'.get? lc.addr = some o := fun lc hl o q => (hsb _ (nl lc hl)).trans q
  have kv : ∀ a o, ¬ (S.fx own).vol a → h.get? a = some o → h'.get? a = some o := fun b o n q => (hsb b fun e => by subst e; exact n (.inr (.inr (by rw [ha]; exact fun z => by cases z)))).trans q
  have ko : ∀ b j, j ≠ i → own b = some j → ∀ o, h.get? b = some o → h'.get? b = some o := fun b j hj ho o q => (hsb b fun e => by subst e; rw [ho] at ha; cases ha; exact hj rfl).trans q
  refine ⟨r.ok, fun a o q => kx a (r.hbx a o q), fun lc hl => (r.locex lc hl).kept (kl lc hl), by simp [put, r.len], fun a i ho => ?_, fun j dj q => ?_, fun j kj dj q => ?_, fun j jj key q => ?_⟩
  · obtain ⟨h1, h2, h3⟩ := r.ownx a i ho; exact ⟨h1, h2, kx a h3⟩
  · rcases getElem_put q hil with ⟨rfl, e⟩ | ⟨hji, y, hy, e⟩
    · cases e
    · cases y with
      | un => cases e
      | val k' d'' =>
        cases e
        obtain ⟨lj, u, h1, h2, h3⟩ := r.slot0 j _ hy
        exact ⟨lj, u, h1, h2.kept (kl lj (List.mem_of_getElem? h1)), h3.trans (fun _ n => n) kv⟩
      | pl a b => simp only [clr] at e; split at e <;> exact Slot.noConfusion e
  · rcases getElem_put q hil with ⟨rfl, e⟩ | ⟨hji, y, hy, e⟩
    · cases e
      exact ⟨lc, v, O, hl, hv.kept (kl lc (List.mem_of_getElem? hl)), t, nd, f⟩
    · cases y with
      | un => cases e
      | val k' d'' =>
        cases e
        obtain ⟨lj, u, O', h1, h2, h3, h4, h5⟩ := r.tree j _ _ hy
        exact ⟨lj, u, O', h1, h2.kept (kl lj (List.mem_of_getElem? h1)), h3.trans (fun _ n => n) kv fun a ha => ko a j hji (h5 a ha), h4, h5⟩
      | pl a b => simp only [clr] at e; split at e <;> exact Slot.noConfusion e
  · rcases getElem_put q hil with ⟨rfl, e⟩ | ⟨hji, y, hy, e⟩
    · cases e
    · cases y with
      | un => cases e
      | val k' d'' => cases e
      | pl a b =>
        simp only [clr] at e
        split at e
        · exact Slot.noConfusion e
        · rename_i hai
          obtain ⟨rfl, rfl⟩ := Slot.pl.inj e
          obtain ⟨l1, l2, a, u, kvs, h1, h2, h3, h4, h5, h6, h7⟩ := r.place j jj key hy
          exact ⟨l1, l2, a, u, kvs, h1, h2.kept (kl l1 (List.mem_of_getElem? h1)), h3, h4.kept (kl l2 (List.mem_of_getElem? h3)), DictOf.at h5 (ko a jj hai h7), h6, h7⟩
theorem name_raw {x : Str} {p : Pos} {i : Nat} {lc : Loc} {v : Value} {Q : Value → Shared → Prop} (c : SCx C Γ l A S own env ρ s) (hx : Γ.slots.lookup x = some i) (hd : (x == ("__debug__" : Str)) = false) (hl : S.locs[i]? = some lc) (hv : LocHas s.heap lc v) (h : Q v s) : Wp C A (eval (.Name x p) env) Q s := by
  refine wpAny_Name ?_ hd
  rcases c.env.slot x i hx with ⟨q, nk⟩ | ⟨cc, q, nk, ck⟩
  · rw [show (S.fx own).locs[i]? = S.locs[i]? from rfl, hl] at q; cases q
    obtain ⟨mm, hn, hv⟩ := hv
    exact wpAny_loadName_local c.env.kind (by unfold Env.kindOf; rw [c.env.names]; exact nk) hn hv h
  · rw [show (S.fx own).locs[i]? = S.locs[i]? from rfl, hl] at q; cases q
    exact wpAny_loadName_cell c.env.kind (by unfold Env.kindOf; rw [c.env.names]; exact nk) ck hv h
/-- a change of an object of the slot's -/
theorem Nx.mutate {own' : Addr → Option Nat} {i : Nat} {a : Addr} {h' : Heap} {tk : Nat} (c : SCx C Γ l A S own env ρ s) (e : Ext C s s') (r : RelS C S own' s'.heap ρ) (g : GlobOK C s'.heap) (hi : i < S.locs.length) (ha : own a = some i) (ha' : own' a = some i)
    (pp : OwnStep S own s own') (hsb : ∀ b, b ≠ a → h'.get? b = s'.heap.get? b) (hex : ∃ o, h'.get? a = some o) (r' : RelS C S own' h' ρ') :
    Nx C S own s ρ' { s' with heap := h', toks := tk } := by
  have x : ExtV C (fun b => b = a) s' { s' with heap := h', toks := tk } := extV_of g (fun b hb => by subst hb; exact c.rel.ownT ha) (fun b o k hb => by
    subst hb; obtain ⟨o', z⟩ := (c.rel.ok.bK _ o k).2; rw [(c.rel.ownx _ i ha).1] at z; cases z) (fun b o hb q => (hsb b hb).trans q) (fun b hb => by subst hb; exact hex)
  have hm : S.mut own a := .inr ⟨i, hi, ha⟩
  have nlow : ∀ b : Nat, b = 0 ∨ b = 2 ∨ b = 3 → b ≠ a := fun b hb q => by
    subst q; obtain ⟨o', z⟩ := (c.rel.ok.blow _ hb).2; rw [(c.rel.ownx _ i ha).1] at z; cases z
  refine ⟨own', r', g.extV x (fun b o k hb => ?_) (nlow 3 (.inr (.inr rfl))) (nlow 0 (.inl rfl)) (nlow 2 (.inr (.inl rfl))), (e.v (V := S.mut own)).trans x fun b hb => .inl (by subst hb; exact hm), pp⟩
  subst hb; obtain ⟨o', z⟩ := (c.rel.ok.bK _ o k).2; rw [(c.rel.ownx _ i ha).1] at z; cases z

def appG (i k : Nat) (f : EEnv → Option D) (m : EEnv → Mk) : List Slot → Option Out := fun ρ =>
  match ρ[i]? with
  | some (.val k' (.list ds)) => (f (view ρ)).bind fun d => if (k' == k + 1 && keepB k (m (view ρ)) d && decide (ds.length < lim)) = true then some (.next (put ρ i (.val (k + 1) (.list (ds ++ [d]))))) else none
  | _ => none
theorem own_p3 {own' : Addr → Option Nat} (c : SCx C Γ l A S own env ρ s) (p : ∀ a, (∃ o, s.heap.get? a = some o) → own' a = own a) : ∀ a j, own a = some j → own' a = some j := fun a j q => (p a (c.rel.ownx a j q).2.2).trans q
theorem vol_own {own' : Addr → Option Nat} (p : ∀ a, (∃ o, s.heap.get? a = some o) → own' a = own a) {a : Addr} (hx : ∃ o, s.heap.get? a = some o) (n : ¬ (S.fx own).vol a) : ¬ (S.fx own').vol a := fun q => by
  rcases q with q | q | q
  · exact n (.inl q)
  · exact n (.inr (.inl q))
  · rw [p a hx] at q; exact n (.inr (.inr q))
theorem interactive_no (c : SCx C Γ l A S own env ρ s) : interactive env = false := by unfold interactive; rw [c.env.kind]; rfl
theorem s_append {x : Str} {np ap cp p : Pos} {i k : Nat} (hx : Γ.slots.lookup x = some i) (hd : (x == ("__debug__" : Str)) = false) (y : EvOK C Γ l e f m)
    (hbase : ∀ env, attributeBase (.Name x np) "append" env (eval (.Name x np) env) = eval (.Name x np) env)
    (hfew : ∀ env, ((backTo cp (starEach [e] env)).all (fun x => !x.1) && (backToKw cp (keywordEach [] env)).all (fun x => x.1.isSome) && decide (([e] : List Expr).length + ([] : List Keyword).length + (if ([] : List Keyword).isEmpty then 0 else 1) < 30)) = true)
    (hline : (ap.endLine == cp.line) = true) (htrees : ∀ env, backTo cp (starEach [e] env) = [(false, eval e env)]) :
    StOK C Γ l rf (.Expr (.Call (.Attribute (.Name x np) "append" ap) [e] [] cp) p) (appG i k f m) := by
  intro A S own env ρ s out c h
  unfold appG at h
  split at h
  case h_2 => cases h
  rename_i k' ds hρ
  obtain ⟨d, h₁, h₂⟩ := Option.bind_eq_some_iff.mp h
  split at h₂
  case isFalse => cases h₂
  rename_i hg
  cases h₂
  obtain ⟨hg, hlen⟩ := Bool.and_eq_true_iff.mp hg
  obtain ⟨hkk, hgk⟩ := Bool.and_eq_true_iff.mp hg
  have hlen := of_decide_eq_true hlen
  obtain rfl : k' = k + 1 := by simpa using hkk
  obtain ⟨lc, v, O, hl, hv, t, nd, fo⟩ := c.rel.tree i k _ hρ
  cases t with
  | fz q _ => cases q
  | @list _ a vs _ Or pl ln r =>
  have hi : i < S.locs.length := slot_lt c hx
  have ha : own a = some i := fo a (.head _)
  refine wpAny_Expr (wpAny_Call_append (hbase env) (hfew env) hline (htrees env) (name_raw c hx hd hl hv ⟨a, vs.toArray, rfl, ?_, ?_⟩)) (interactive_no c) rfl
  · obtain ⟨n, q⟩ := pl; exact ⟨_, n, q, rfl, rfl, rfl⟩
  refine y.run c.cx h₁ fun u s₁ e₁ c₁ r₁ => ?_
  obtain ⟨own', On, r', tn, ndn, fn, p4⟩ := keep_new (i := i) c e₁ r₁ hgk
  have nT : ¬ C.T a := c.rel.ownT ha
  have pl₁ := pl.at fun o => e₁.keep a o nT
  refine wpAny_list_append_plain pl₁ (fun h' pl' hs' => ?_) (by simpa using ln)
  have hsb : ∀ b, b ≠ a → h'.get? b = s₁.heap.get? b := fun b hb => hs'.2 b hb
  have ha' : own' a = some i := own_p3 c p4 a i ha
  have nOr : a ∉ Or := (List.nodup_cons.mp nd).1
  have nOn : a ∉ On := fun hm => by
    obtain ⟨o, q⟩ := plain_some pl; rw [(fn a hm).2] at q; cases q
  have kk : ∀ b o, ¬ (S.fx own').vol b → s₁.heap.get? b = some o → h'.get? b = some o := fun b o n q => (hsb b (fun z => by subst z; exact n (.inr (.inr (by rw [ha']; exact fun z => by cases z))))).trans q
  have rOld : OwnL C.prog C.w h' (fun a => ¬ (S.fx own').vol a) k vs ds Or := by
    refine OwnL.trans (fun b n => vol_own p4 n.2 n.1) (fun b o n q => ?_) r.ex.1 fun b hb o q => (hsb b (fun z => nOr (z ▸ hb))).trans (e₁.keep b o (c.rel.ownT (fo b (.tail _ hb))) q)
    exact kk b o (vol_own p4 n.2 n.1) (e₁.keep b o (fun t => n.1 (.inl (c.rel.ok.bT b t))) q)
  have tNew : OwnT C.prog C.w h' (fun a => ¬ (S.fx own').vol a) k u d On := tn.trans (fun _ n => n) kk fun b hb o q => (hsb b (fun z => nOn (z ▸ hb))).trans q
  have rel' : RelS C S own' h' (put ρ i (.val (k + 1) (.list (ds ++ [d])))) := by
    refine r'.mutate (O := a :: (Or ++ On)) hl (hv.kept fun o => e₁.keep _ o (c.rel.ok.locT (List.mem_of_getElem? hl))) ha' hsb (plain_some pl') (.list (vs := vs ++ [u]) ?_ ?_ (rOld.app tNew)) ?_ fun b hb => ?_
    · simpa using pl'
    · rw [List.length_append, r.length]
      unfold lim at hlen
      simp only [List.length_cons, List.length_nil]
      unfold sizeLine; omega
    · refine List.nodup_cons.mpr ⟨fun hm => (List.mem_append.mp hm).elim nOr nOn, List.nodup_append.mpr ⟨(List.nodup_cons.mp nd).2, ndn, fun b hb b' hb' z => ?_⟩⟩
      subst z
      obtain ⟨o, q⟩ := r.ex.2 b hb; rw [(fn b hb').2] at q; cases q
    · rcases List.mem_cons.mp hb with rfl | hb
      · exact ha'
      · rcases List.mem_append.mp hb with hb | hb
        · exact own_p3 c p4 b i (fo b (.tail _ hb))
        · exact (fn b hb).1
  exact ⟨rfl, Nx.mutate (tk := s₁.toks) c e₁ r' (c.glob.ext e₁) hi ha ha' (.of c p4) hsb (plain_some pl') rel'⟩
def setG (i k : Nat) (f : EEnv → Option D) (m : EEnv → Mk) (fk : EEnv → Option D) : List Slot → Option Out := fun ρ =>
  match ρ[i]?, fk (view ρ) with
  | some (.val k' (.dict ds)), some (.str key) => (f (view ρ)).bind fun d => if (k' == k + 1 && keepB k (m (view ρ)) d && decide (ds.length < lim)) = true then some (.next (put ρ i (.val (k + 1) (.dict (storedD ds key d))))) else none
  | _, _ => none
theorem s_setitem {x : Str} {np sp p : Pos} {i k : Nat} {ke : Expr} {fk : EEnv → Option D} {mk : EEnv → Mk} (hx : Γ.slots.lookup x = some i) (hd : (x == ("__debug__" : Str)) = false) (y : EvOK C Γ l e f m) (yk : EvOK C Γ l ke fk mk)
    (hs : ∀ env, swapsWith e (some (.Subscript (.Name x np) ke sp)) p.line env = pure false) : StOK C Γ l rf (.Assign [.Subscript (.Name x np) ke sp] e p) (setG i k f m fk) := by
  intro A S own env ρ s out c h
  unfold setG at h
  split at h
  case h_2 => cases h
  rename_i k' ds key hρ hkey
  obtain ⟨d, h₁, h₂⟩ := Option.bind_eq_some_iff.mp h
  split at h₂
  case isFalse => cases h₂
  rename_i hg
  cases h₂
  obtain ⟨hg, hlen⟩ := Bool.and_eq_true_iff.mp hg
  obtain ⟨hkk, hgk⟩ := Bool.and_eq_true_iff.mp hg
  have hlen := of_decide_eq_true hlen
  obtain rfl : k' = k + 1 := by simpa using hkk
  refine wpAny_Assign_Subscript (y.run c.cx h₁ fun u s₁ e₁ c₁ r₁ => ?_) (hs env)
  obtain ⟨own', On, r', tn, ndn, fn, p4⟩ := keep_new (i := i) c e₁ r₁ hgk
  have hi : i < S.locs.length := slot_lt c hx
  have cc := c.of r' (c.glob.ext e₁)
  obtain ⟨lc, v, O, hl, hv, t, nd, fo⟩ := c.rel.tree i k _ hρ
  cases t with
  | fz q _ => cases q
  | @dict _ a kvs _ Or ne dd ln r =>
  have ha : own a = some i := fo a (.head _)
  have hv₁ := hv.kept fun o => e₁.keep _ o (c.rel.ok.locT (List.mem_of_getElem? hl))
  refine name_raw cc hx hd hl hv₁ (yk.run cc.cx hkey fun kv s₂ e₂ c₂ r₂ => ?_)
  have wk := cc.cx.weak e₂ r₂
  cases wk with
  | str _ t hok =>
  have nT : ¬ C.T a := c.rel.ownT ha
  have e₁₂ := e₁.trans e₂
  have dd₂ := DictOf.at dd fun o => e₁₂.keep a o nT
  refine wpAny_setItem_pairs (knd := PySem.strKind C.prog C.w) (k := key) (by simp [PySem.strKind, Value.isStrOf]) dd₂ (fun h' dd' hs' => ?_) ln
  rw [stored_eq (dictOf_nodup dd)] at dd'
  have hsb : ∀ b, b ≠ a → h'.get? b = s₂.heap.get? b := fun b hb => hs'.2 b hb
  have ha' : own' a = some i := own_p3 c p4 a i ha
  have nOr : a ∉ Or := (List.nodup_cons.mp nd).1
  have nOn : a ∉ On := fun hm => by
    obtain ⟨o, q⟩ := dict_some dd; rw [(fn a hm).2] at q; cases q
  have r'' := r'.ext e₂
  have kk : ∀ b o, ¬ (S.fx own').vol b → s₂.heap.get? b = some o → h'.get? b = some o := fun b o n q => (hsb b (fun z => by subst z; exact n (.inr (.inr (by rw [ha']; exact fun z => by cases z))))).trans q
  have rOld : OwnE C.prog C.w h' (fun a => ¬ (S.fx own').vol a) k kvs ds Or := by
    refine OwnE.trans (fun b n => vol_own p4 n.2 n.1) (fun b o n q => ?_) r.ex.1 fun b hb o q => (hsb b (fun z => nOr (z ▸ hb))).trans (e₁₂.keep b o (c.rel.ownT (fo b (.tail _ hb))) q)
    exact kk b o (vol_own p4 n.2 n.1) (e₁₂.keep b o (fun t => n.1 (.inl (c.rel.ok.bT b t))) q)
  have tNew : OwnT C.prog C.w h' (fun a => ¬ (S.fx own').vol a) k u d On := tn.trans (fun _ n => n) (fun b o n q => kk b o n (e₂.keep b o (fun t => n (.inl (c.rel.ok.bT b t))) q)) fun b hb o q => (hsb b (fun z => nOn (z ▸ hb))).trans (e₂.keep b o (r'.ownT (fn b hb).1) q)
  obtain ⟨O', rO', sub, ndO⟩ := rOld.put hok tNew
  have rel' : RelS C S own' h' (put ρ i (.val (k + 1) (.dict (storedD ds key d)))) := by
    refine r''.mutate (O := a :: O') hl (hv.kept fun o => e₁₂.keep _ o (c.rel.ok.locT (List.mem_of_getElem? hl))) ha' hsb (dict_some dd') (.dict ne dd' ?_ rO') ?_ fun b hb => ?_
    · have := storedV_len (kvs := kvs) (k := key) (v := u)
      rw [r.length] at this
      unfold lim at hlen
      unfold sizeLine; omega
    · refine List.nodup_cons.mpr ⟨fun hm => (sub a hm).elim nOr nOn, ndO (List.nodup_cons.mp nd).2 ndn fun b hb hb' => ?_⟩
      obtain ⟨o, q⟩ := r.ex.2 b hb; rw [(fn b hb').2] at q; cases q
    · rcases List.mem_cons.mp hb with rfl | hb
      · exact ha'
      · rcases sub b hb with hb | hb
        · exact own_p3 c p4 b i (fo b (.tail _ hb))
        · exact (fn b hb).1
  exact ⟨rfl, Nx.mutate (tk := s₂.toks + 1) c e₁₂ r'' ((c.glob.ext e₁).ext e₂) hi ha ha' (.of c p4) hsb (dict_some dd') rel'⟩
end
end Mine

set_option autoImplicit false
open PySem PyProof.Rows
namespace Mine
set_option linter.unusedVariables false

def TgtOK (C : Cfg) (Γ : Sc) (l : Nat) (t : Expr) (upd : List Slot → D → Option (List Slot)) : Prop :=
  ∀ (A : Around) (S : Fs) (own : Addr → Option Nat) (env : Env) (ρ : List Slot) (s : Shared) (v : Value) (d : D) (ρ' : List Slot), SCx C Γ l A S own env ρ s → RepC C s.heap (fun a => ¬ (S.fx own).vol a) v d → upd ρ d = some ρ' →
    Wp C A (assign t env v) (fun _ s' => ExtV C S.loca s s' ∧ RelS C S own s'.heap ρ') s
def putN (i : Nat) : List Slot → D → Option (List Slot) := fun ρ d => some (put ρ i (.val 0 d))
def putL : List Nat → List Slot → List D → Option (List Slot)
  | [], ρ, [] => some ρ
  | i :: is, ρ, d :: ds => putL is (put ρ i (.val 0 d)) ds
  | _, _, _ => none
def putT (is : List Nat) : List Slot → D → Option (List Slot) := fun ρ d => match d with | .tup ds => putL is ρ ds | _ => none
theorem putL_len : ∀ {is : List Nat} {ρ : List Slot} {ds : List D} {ρ' : List Slot}, putL is ρ ds = some ρ' → is.length = ds.length
  | [], _, [], _, _ => rfl
  | [], _, _ :: _, _, e => by cases e
  | _ :: _, _, [], _, e => by cases e
  | i :: is, ρ, d :: ds, ρ', e => by rw [List.length_cons, List.length_cons, putL_len (is := is) e]
section
variable {C : Cfg} {Γ : Sc} {l : Nat} {A : Around} {S : Fs} {own : Addr → Option Nat} {env : Env} {ρ ρ' : List Slot} {s s' s'' : Shared} {d d' : D} {rf : Bool} {e : Expr} {f : EEnv → Option D} {m : EEnv → Mk} {g : List Slot → Option Out} {ss : List Stmt}
theorem loca_vol {b : Addr} (x : S.loca b) : (S.fx own).vol b := .inr (.inl x)
theorem SCx.step (c : SCx C Γ l A S own env ρ s) (x : ExtV C S.loca s s') (r : RelS C S own s'.heap ρ') : SCx C Γ l A S own env ρ' s' := c.of r (locA_glob c.cx x)
theorem tgt_name {x : Str} {p : Pos} {i : Nat} (hx : Γ.slots.lookup x = some i) : TgtOK C Γ l (.Name x p) (putN i) := by
  intro A S own env ρ s v d ρ' c rv hu
  cases hu
  exact wpAny_assign_Name (wpAny_mono (storeS (k := 0) c hx rv) (fun _ s₁ k => ⟨k.2.2, k.2.1⟩) fun _ _ e => e)
theorem tgts_ok {es : List Expr} {is : List Nat} (hn : Names Γ es is) : ∀ (A : Around) (S : Fs) (own : Addr → Option Nat) (env : Env) (ρ : List Slot) (s : Shared) (vs : List Value) (ds : List D) (ρ' : List Slot), SCx C Γ l A S own env ρ s → RepLC C s.heap (fun a => ¬ (S.fx own).vol a) vs ds → putL is ρ ds = some ρ' →
    Wp C A (assignInOrder ((assignEach es env).map (·.2)) vs) (fun _ s' => ExtV C S.loca s s' ∧ RelS C S own s'.heap ρ') s := by
  induction hn with
  | nil =>
    intro A S own env ρ s vs ds ρ' c rv hu
    cases rv with
    | nil => cases hu; exact wpAny_assignInOrder_none ⟨(Ext.refl C s).v, c.rel⟩
    | cons => cases hu
  | @cons x p i es is hx hn ih =>
    intro A S own env ρ s vs ds ρ' c rv hu
    cases rv with
    | nil => cases hu
    | @cons v vs d ds r rs =>
      refine wpAny_assignInOrder_more (wpAny_assign_Name (wpAny_mono (storeS (k := 0) c hx r) (fun _ s₁ k => ?_) fun _ _ e => e))
      obtain ⟨_, r₁, e₁⟩ := k
      refine wpAny_mono (ih A S own env _ s₁ vs ds ρ' (c.step e₁ r₁) (RepLC.extV (fun a n => ⟨c.cx.notT0 a n, fun v => n (loca_vol v)⟩) e₁ rs) hu) (fun _ s₂ k => ?_) fun _ _ e => e
      exact ⟨e₁.trans k.1 fun b v => .inl v, k.2⟩
theorem tgt_tuple {es : List Expr} {is : List Nat} {k : Nat} {p : Pos} (hn : Names Γ es is) : TgtOK C Γ l (.Tuple es k p) (putT is) := by
  intro A S own env ρ s v d ρ' c rv hu
  cases rv <;> simp only [putT, reduceCtorEq] at hu
  rename_i a vs ds n pl ln r
  have hl := putL_len hu
  refine wpAny_assign_Tuple c.room.1 pl.isTup (by rw [(names_plain hn env).1, List.size_toArray, r.length]; exact hl) (names_plain hn env).2 fun h' hx => ?_
  have ee : Ext C s { s with heap := h' } := Ext.of (tk := s.toks) fun b o e => hx b o (fun q => by rw [q, fresh_size] at e; cases e) e
  refine wpAny_mono (tgts_ok hn A S own env ρ { s with heap := h' } vs ds ρ' (c.ext ee) (RepL.ext c.cx.notT0 ee r) hu) (fun _ s₂ k => ?_) fun _ _ e => e
  exact ⟨(ee.v (V := S.loca)).trans k.1 fun b v => .inl v, k.2⟩

def unOwn (own : Addr → Option Nat) (O : List Addr) : Addr → Option Nat := fun a => if a ∈ O then none else own a
/-- objects of no slot are let go -/
theorem RelS.drop {h h' : Heap} {O : List Addr} (r : RelS C S own h ρ) (hV : ∀ a ∈ O, ∃ n, S.locs.length ≤ n ∧ own a = some n) (k : ∀ b o, b ∉ O → h.get? b = some o → h'.get? b = some o) : RelS C S (unOwn own O) h' ρ := by
  have nl : ∀ lc ∈ S.locs, lc.addr ∉ O := fun lc hl v => by
    obtain ⟨n, _, q⟩ := hV _ v; exact (r.ownx _ n q).2.1 ⟨lc, hl, rfl⟩
  have kl : ∀ lc ∈ S.locs, ∀ o, h.get? lc.addr = some o → h'.get? lc.addr = some o := fun lc hl o => k _ o (nl lc hl)
  have kv : ∀ a o, ¬ (S.fx own).vol a → h.get? a = some o → h'.get? a = some o := fun a o n => k a o fun v => by
    obtain ⟨i, _, q⟩ := hV a v; exact n (.inr (.inr (by rw [q]; exact fun z => by cases z)))
  have no : ∀ a i, i < S.locs.length → own a = some i → a ∉ O := fun a i hi ho v => by
    obtain ⟨n, hn, q⟩ := hV a v; rw [ho] at q; cases q; omega
  have vv : ∀ a, ¬ (S.fx own).vol a → ¬ (S.fx (unOwn own O)).vol a := fun a n q => by
    rcases q with q | q | q
    · exact n (.inl q)
    · exact n (.inr (.inl q))
    · unfold unOwn at q; split at q
      · exact q rfl
      · exact n (.inr (.inr q))
  refine ⟨r.ok, fun a o q => ?_, fun lc hl => (r.locex lc hl).kept (kl lc hl), r.len, fun a i ho => ?_, fun i d q => ?_, fun i kk d q => ?_, fun i j key q => ?_⟩
  · obtain ⟨o', z⟩ := r.hbx a o q
    exact ⟨o', k a o' (fun hm => by obtain ⟨n, _, w⟩ := hV a hm; rw [(r.ownx a n w).1] at q; cases q) z⟩
  · unfold unOwn at ho
    split at ho
    · cases ho
    · rename_i hm
      obtain ⟨h1, h2, o, h3⟩ := r.ownx a i ho; exact ⟨h1, h2, o, k a o hm h3⟩
  · obtain ⟨lc, v, h1, h2, h3⟩ := r.slot0 i d q
    exact ⟨lc, v, h1, h2.kept (kl lc (List.mem_of_getElem? h1)), h3.trans vv kv⟩
  · obtain ⟨lc, v, O', h1, h2, h3, h4, h5⟩ := r.tree i kk d q
    have hi := (List.getElem?_eq_some_iff.mp h1).1
    exact ⟨lc, v, O', h1, h2.kept (kl lc (List.mem_of_getElem? h1)), h3.trans vv kv fun a ha o => k a o (no a i hi (h5 a ha)), h4, fun a ha => (if_neg (no a i hi (h5 a ha))).trans (h5 a ha)⟩
  · obtain ⟨lc, lj, a, v, kvs, h1, h2, h3, h4, h5, h6, h7⟩ := r.place i j key q
    have hj := (List.getElem?_eq_some_iff.mp h3).1
    exact ⟨lc, lj, a, v, kvs, h1, h2.kept (kl lc (List.mem_of_getElem? h1)), h3, h4.kept (kl lj (List.mem_of_getElem? h3)), DictOf.at h5 fun o => k a o (no a j hj h7), h6, (if_neg (no a j hj h7)).trans h7⟩
theorem mut_glob (c : SCx C Γ l A S own env ρ s) (e : ExtV C (S.mut own) s s') : GlobOK C s'.heap := by
  have nx : ∀ b, (∃ o, S.hb.get? b = some o) → ¬ S.mut own b := fun b ⟨o, z⟩ q => by
    rcases q with ⟨lc, hl, rfl⟩ | ⟨i, hi, w⟩
    · rw [c.rel.ok.loc lc hl] at z; cases z
    · rw [(c.rel.ownx b i w).1] at z; cases z
  exact c.glob.extV e (fun a o k => nx a (c.rel.ok.bK a o k).2) (nx 3 (c.rel.ok.blow 3 (.inr (.inr rfl))).2) (nx 0 (c.rel.ok.blow 0 (.inl rfl)).2) (nx 2 (c.rel.ok.blow 2 (.inr (.inl rfl))).2)
/-! loops -/
def forL (upd : List Slot → D → Option (List Slot)) (g : List Slot → Option Out) : List D → List Slot → Option Out
  | [], ρ => some (.next ρ)
  | x :: xs, ρ => (upd ρ x).bind fun ρ₁ => (g ρ₁).bind fun o => o.bind (forL upd g xs)
def forG (tt : Bool) (f : EEnv → Option D) (m : EEnv → Mk) (upd : List Slot → D → Option (List Slot)) (g : List Slot → Option Out) : List Slot → Option Out := fun ρ =>
  (f (view ρ)).bind fun d => d.items.bind fun ds => if ((m (view ρ)).cl d && (!tt || d.isL)) = true then forL upd g ds ρ else none
theorem s_for {t : Expr} {p : Pos} {tt : Bool} {upd : List Slot → D → Option (List Slot)} (y : EvOK C Γ l e f m) (ht : TgtOK C Γ l t upd) (htg : ∀ b, (!tt || b) = true → tgtOK b t = true) (x : SOK C Γ l rf ss g) (hs : ∀ env x, foldedSetIterable e env x = pure x) :
    StOK C Γ l rf (.For t e ss [] p) (forG tt f m upd g) := by
  intro A S own env ρ s out c h
  obtain ⟨di, h₁, h⟩ := Option.bind_eq_some_iff.mp h
  obtain ⟨ds, h₂, h⟩ := Option.bind_eq_some_iff.mp h
  split at h
  case isFalse => cases h
  rename_i hg
  obtain ⟨hg1, hg2⟩ := Bool.and_eq_true_iff.mp hg
  refine wpAny_For (y.run c.cx h₁ fun v s₁ e₁ c₁ r₁ => ?_) (hs env)
  have r2 := ((r₁.clean c.cx.rel.hv hg1).ex).two h₂
  refine wpAny_mono (iter_ok r2 h₂ c.room.1) (fun it s₂ k => ?_) fun _ _ e => e
  obtain ⟨e₂, I, fp, wr, P, St, rfl, W, st, hwr, hfp, hlt, hP, hlet, hex, hlen⟩ := k
  have cs₁ := c.ext e₁
  have wT : ∀ b ∈ wr, ¬ C.T b := fun b hb t => by obtain ⟨o, q⟩ := cs₁.glob.tdom b t; rw [hwr b hb] at q; cases q
  have wK : ∀ b o, C.K.lookup b = some o → b ∉ wr := fun b o k hb => by have := cs₁.glob.inK b o k; rw [hwr b hb] at this; cases this
  have wlow : ∀ b : Nat, b = 0 ∨ b = 2 ∨ b = 3 → b ∉ wr := fun b hb hm => by
    obtain ⟨o', z⟩ := (c.rel.ok.blow _ hb).2
    obtain ⟨o'', z'⟩ := cs₁.rel.hbx _ _ z
    rw [hwr _ hm] at z'; cases z'
  -- the frame's facts: all is reckoned from s₁
  suffices H : codeAny (model C.prog C.w) A (.forLoop t (.ref I) ss [] env) (fun r s' => ∃ fl, r = .ok fl ∧ SPost C S own s₁ rf out fl s') s₂ from codeAny_mono H fun r s' q => by
    obtain ⟨fl, rfl, q⟩ := q
    exact q.pre e₁
  refine codeAny_forLoop_any (fun n s' => ∃ (j : Nat) (ρj : List Slot) (ownj : Addr → Option Nat), j ≤ ds.length ∧ n = ds.length + 1 - j ∧ St j s'.heap ∧ RelS C S ownj s'.heap ρj ∧ GlobOK C s'.heap ∧ ExtV C (S.mut own) s₁ s' ∧ OwnStep S own s₁ ownj ∧ (∀ b ∈ wr, ownj b = some S.locs.length) ∧ forL upd g (ds.drop j) ρj = some out) ?_ (ds.length + 1)
    ⟨0, ρ, setOwn own wr S.locs.length, Nat.zero_le _, rfl, st, cs₁.rel.give e₂ hwr (hex 0 _ st), cs₁.glob.ext e₂, e₂.v, OwnStep.of cs₁ (fun a ⟨o, z⟩ => if_neg fun hm => by rw [hwr a hm] at z; cases z), fun b hb => if_pos hb, h⟩
  rintro n s' ⟨j, ρj, ownj, hj, rfl, stj, rel', glob', ext', step', tag', hfl⟩
  have fpK : ∀ b ∈ fp, ¬ C.T b ∧ ¬ S.mut ownj b ∧ (b ∈ wr ∨ b ∉ wr) := fun b hb => by
    refine ⟨fun t => ?_, fun q => ?_, Classical.em _⟩
    · rcases hfp b hb with z | z
      · exact wT b z t
      · exact z.1 (.inl (c.rel.ok.bT b t))
    · rcases hfp b hb with z | z
      · rcases q with q | ⟨i, hi, q⟩
        · exact (rel'.ownx b _ (tag' b z)).2.1 q
        · rw [tag' b z] at q; cases q; omega
      · rcases mut_old step'.p1 b q with w | w
        · rcases w with w | ⟨i, hi, w⟩
          · exact z.1 (.inr (.inl w))
          · exact z.1 (.inr (.inr (by rw [w]; exact fun z => by cases z)))
        · obtain ⟨o, y⟩ := z.2; rw [w] at y; cases y
  have turn : ∀ (hi : Heap) (tk : Nat), (∀ b o, b ∉ wr → s'.heap.get? b = some o → hi.get? b = some o) → (∀ b ∈ wr, ∃ o, hi.get? b = some o) → RelS C S ownj hi ρj ∧ GlobOK C hi ∧ ExtV C (S.mut own) s₁ { s' with heap := hi, toks := tk } := by
    intro hi tk hki hexi
    have x₁ : ExtV C (· ∈ wr) s' { s' with heap := hi, toks := tk } := extV_of glob' (fun b hb => wT b hb) (fun b o k hb => wK b o k hb) hki hexi
    refine ⟨rel'.turn (V := (· ∈ wr)) (fun a w => ⟨_, Nat.le_refl _, tag' a w⟩) hki hexi, ?_, ext'.trans x₁ fun b hb => .inr (hwr b hb)⟩
    exact glob'.extV x₁ (fun a o k hb => wK a o k hb) (wlow 3 (.inr (.inr rfl))) (wlow 0 (.inl rfl)) (wlow 2 (.inr (.inl rfl)))
  by_cases hlt' : j < ds.length
  · refine W.item j s' _ _ hlt' stj fun v hi tk hPv sti hki => ?_
    obtain ⟨rel1, glob1, ext1⟩ := turn hi tk hki (hex _ _ sti)
    generalize hs1 : ({ s' with heap := hi, toks := tk } : Shared) = sa at ext1 ⊢
    have hha : sa.heap = hi := by rw [← hs1]
    rw [← hha] at sti rel1 glob1
    refine hlet t v _ sa A _ _ (htg _ hg2) sti ?_
    obtain ⟨dv, hdv, rdv⟩ := hP j v hPv
    have hdrop : ds.drop j = dv :: ds.drop (j + 1) := by
      have := List.drop_eq_getElem_cons hlt'
      rw [this]
      rw [List.getElem?_eq_getElem hlt'] at hdv
      cases hdv; rfl
    rw [hdrop] at hfl
    obtain ⟨ρ₁, hup, hfl⟩ := Option.bind_eq_some_iff.mp hfl
    obtain ⟨o₁, ho₁, hfl⟩ := Option.bind_eq_some_iff.mp hfl
    have ca : SCx C Γ l A S ownj env ρj sa := c.of rel1 glob1
    have keepN : ∀ a, (¬ (S.fx own).vol a ∧ ∃ o, s₁.heap.get? a = some o) → ¬ (S.fx ownj).vol a ∧ ¬ S.mut own a := fun a q => by
      refine ⟨fun z => ?_, fun z => ?_⟩
      · rcases z with z | z | z
        · exact q.1 (.inl z)
        · exact q.1 (.inr (.inl z))
        · obtain ⟨i, hi⟩ := Option.ne_none_iff_exists'.mp z
          obtain ⟨o, y⟩ := q.2
          rcases Nat.lt_or_ge i S.locs.length with hl | hl
          · rcases step'.p1 a i hl hi with ⟨i', _, w⟩ | w
            · exact q.1 (.inr (.inr (by rw [w]; exact fun z => by cases z)))
            · rw [w] at y; cases y
          · rcases step'.p3 a i hl hi with w | w
            · exact q.1 (.inr (.inr (by rw [w]; exact fun z => by cases z)))
            · rw [w] at y; cases y
      · rcases z with z | ⟨i, _, w⟩
        · exact q.1 (.inr (.inl z))
        · exact q.1 (.inr (.inr (by rw [w]; exact fun z => by cases z)))
    have rdv' : RepC C sa.heap (fun a => ¬ (S.fx ownj).vol a) v dv := by
      refine rdv.trans (fun a q => (keepN a q).1) fun a o q z => ext1.keep a o (fun t => q.1 (.inl (c.rel.ok.bT a t))) (keepN a q).2 z
    refine wpAny_mono (wpAny_mono (ht A S ownj env ρj sa v dv ρ₁ ca rdv' hup) (fun _ sb kb => kb) fun _ _ e => e) (fun _ sb kb => ?_) fun _ _ e => e.elim
    obtain ⟨x₂, rel2⟩ := kb
    have cb : SCx C Γ l A S ownj env ρ₁ sb := ca.step x₂ rel2
    have ext2 : ExtV C (S.mut own) s₁ sb := ext1.trans x₂ fun b hb => .inl (.inl hb)
    have stb : St (j + 1) sb.heap := W.frame _ _ _ sti fun b hb o q => x₂.keep b o (fpK b hb).1 (fun z => (fpK b hb).2.1 (.inl z)) q
    refine wpAny_mono (x A S ownj env ρ₁ sb o₁ cb ho₁) (fun fl sc kc => ?_) fun _ _ e => e.elim
    cases o₁ with
    | next ρ₂ =>
      obtain ⟨rfl, own₂, rel3, glob3, ext3, step3⟩ := kc
      refine ⟨ds.length + 1 - (j + 1), by omega, j + 1, ρ₂, own₂, hlt', rfl, ?_, rel3, glob3, ext2.trans ext3 (mut_old step'.p1), step'.trans step3 fun a z => ext2.none z, fun b hb => step3.p2 b _ (Nat.le_refl _) (tag' b hb), hfl⟩
      exact W.frame _ _ _ stb fun b hb o q => ext3.keep b o (fpK b hb).1 (fpK b hb).2.1 q
    | ret dr =>
      cases hfl
      obtain ⟨vr, rfl, ext3, rv, hr⟩ := kc
      exact ⟨_, rfl, vr, rfl, ext2.trans ext3 (mut_old step'.p1), rv, hr⟩
  · obtain rfl : j = ds.length := Nat.le_antisymm hj (Nat.not_lt.mp hlt')
    refine W.done s' _ _ stj fun hi tk hki => ?_
    rw [List.drop_length] at hfl
    cases hfl
    have old : ∀ b o, s₁.heap.get? b = some o → b ∉ wr := fun b o q hm => by rw [hwr b hm] at q; cases q
    have extF : ExtV C (S.mut own) s₁ { s' with heap := hi, toks := tk } := by
      refine ⟨fun b o t n q => hki b o (old b o q) (ext'.keep b o t n q), fun b o q => ?_, fun t => vol_tab (V := (· ∈ wr)) wT wK hki (ext'.tab t), ext'.gens, ext'.os⟩
      obtain ⟨o', z⟩ := ext'.dom b o q
      exact ⟨o', hki b o' (old b o q) z⟩
    refine wpAny_execs_nil ⟨_, rfl, rfl, unOwn ownj wr, rel'.drop (fun a ha => ⟨_, Nat.le_refl _, tag' a ha⟩) hki, mut_glob cs₁ extF, extF, ⟨fun a i hl q => ?_, fun a n hn q => ?_, fun a n hn q => ?_⟩⟩
    · unfold unOwn at q
      split at q
      · cases q
      · exact step'.p1 a i hl q
    · have := step'.p2 a n hn q
      unfold unOwn
      rw [if_neg]
      · exact this
      · intro hm
        obtain ⟨o, z⟩ := (cs₁.rel.ownx a n q).2.2
        exact old a o z hm
    · unfold unOwn at q
      split at q
      · cases q
      · exact step'.p3 a n hn q
end
end Mine

set_option autoImplicit false
open PySem PyProof.Rows
namespace Mine
set_option linter.unusedVariables false

section
variable {C : Cfg} {Γ : Sc} {l : Nat} {A : Around} {S : Fs} {own own' : Addr → Option Nat} {env : Env} {ρ ρ' : List Slot} {s s' s'' : Shared} {d d' : D} {rf : Bool} {e : Expr} {f : EEnv → Option D} {m : EEnv → Mk} {g : List Slot → Option Out} {ss : List Stmt}
def whileL (b : EEnv → Option Bool) (g : List Slot → Option Out) : Nat → List Slot → Option Out
  | 0, _ => none
  | n + 1, ρ => (b (view ρ)).bind fun r => if r then (g ρ).bind fun o => o.bind (whileL b g n) else some (.next ρ)
theorem s_while {b : EEnv → Option Bool} {p : Pos} (n : Nat) (xb : BOK C Γ l e b) (x : SOK C Γ l rf ss g) : StOK C Γ l rf (.While e ss [] p) (whileL b g n) := by
  intro A S own env ρ s out c h
  refine wpAny_While ?_
  suffices H : codeAny (model C.prog C.w) A (.whileLoop e ss [] env) (fun r s' => ∃ fl, r = .ok fl ∧ SPost C S own s rf out fl s') s from codeAny_mono H fun r s' q => by
    obtain ⟨fl, rfl, q⟩ := q
    exact q
  refine codeAny_whileLoop (fun n s' => ∃ (ρn : List Slot) (ownn : Addr → Option Nat), RelS C S ownn s'.heap ρn ∧ GlobOK C s'.heap ∧ ExtV C (S.mut own) s s' ∧ OwnStep S own s ownn ∧ whileL b g n ρn = some out) ?_ n ⟨ρ, own, c.rel, c.glob, (Ext.refl C s).v, .refl .., h⟩
  rintro n s' ⟨ρn, ownn, rel', glob', ext', step', hw⟩
  cases n with
  | zero => cases hw
  | succ n =>
    obtain ⟨r, h₁, h₂⟩ := Option.bind_eq_some_iff.mp hw
    have cn : SCx C Γ l A S ownn env ρn s' := c.of rel' glob'
    refine wpAny_mono (xb.run (Q := fun r' s₁ => Ext C s' s₁ ∧ r' = r) cn.cx h₁ fun s₁ e₁ _ => ⟨e₁, rfl⟩) (fun r' s₁ k => ?_) fun _ _ e => e.elim
    obtain ⟨e₁, rfl⟩ := k
    have c₁ := cn.ext e₁
    have ext1 : ExtV C (S.mut own) s s₁ := ext'.trans (e₁.v (V := S.mut own)) fun b q => .inl q
    cases r' with
    | true =>
      obtain ⟨o₁, h₃, h₄⟩ := Option.bind_eq_some_iff.mp h₂
      refine wpAny_mono (x A S ownn env ρn s₁ o₁ c₁ h₃) (fun fl s₂ k => ?_) fun _ _ e => e.elim
      cases o₁ with
      | next ρ₂ =>
        obtain ⟨rfl, own₂, rel3, glob3, ext3, step3⟩ := k
        exact ⟨n, Nat.lt_succ_self _, ρ₂, own₂, rel3, glob3, ext1.trans ext3 (mut_old step'.p1), step'.trans step3 fun a z => ext1.none z, h₄⟩
      | ret dr =>
        cases h₄
        obtain ⟨vr, rfl, ext3, rv, hr⟩ := k
        exact ⟨_, rfl, vr, rfl, ext1.trans ext3 (mut_old step'.p1), rv, hr⟩
    | false =>
      cases h₂
      exact wpAny_execs_nil ⟨_, rfl, rfl, ownn, c₁.rel, c₁.glob, ext1, step'⟩
/-- a slot is frozen -/
def fz (i : Nat) (ρ : List Slot) : List Slot := match ρ[i]? with | some (.val (_ + 1) d) => put ρ i (.val 0 d) | _ => ρ
theorem OwnL.none0 {prog : Program} {w : World} {h : Heap} {N : Addr → Prop} : ∀ {vs : List Value} {ds : List D} {O : List Addr}, OwnL prog w h N 0 vs ds O → O = []
  | _, _, _, .nil => rfl
  | _, _, _, .cons (.fz0 x) r => by rw [OwnL.none0 r]; rfl
theorem ns_not_list {h : Heap} {a : Addr} {m : Str → Option Value} {vs : Array Value} (x : h.Ns a m) (y : h.PlainList a vs) : False := by
  obtain ⟨o, es, ep, e1, e2, _⟩ := x
  obtain ⟨n, e3⟩ := y
  rw [e1] at e3; cases e3; cases e2
theorem s_assign_comp {x : Str} {pp p : Pos} {i k : Nat} {elt target iter : Expr} {ifs : List Expr} {scope : Scope} {pos : Pos} {fi fe : EEnv → Option D} {mi me : EEnv → Mk} {upd : EEnv → D → Option EEnv} {bs : EEnv → Option Bool} {xs : List Str} {n : Nat} {tt : Bool} {is : List Nat}
    (hx : Γ.slots.lookup x = some i)
    (hkind : scope.kind = .function) (hchk : compChk Γ scope.names xs = true) (xi : EvOK C Γ l iter fi mi) (ht : AsgOK C (compSc Γ scope.names xs n) l target is upd) (hu : UpdOK n xs.length upd) (his : ∀ i ∈ is, n ≤ i)
    (htg : ∀ b, (!tt || b) = true → tgtOK b target = true) (hb : TestsOK C (compSc Γ scope.names xs n) l ifs bs) (he : EvOK C (compSc Γ scope.names xs n) l elt fe me) (hs : ∀ env x, foldedSetIterable iter env x = pure x)
    (hsw : ∀ env : Env, env.scope.kind = .function → env.scope.names = Γ.names → swapsWith (.ListComp elt [⟨target, iter, ifs, 0⟩] scope pos) (some (.Name x pp)) p.line env = pure true) (hk : k ≤ 1) :
    StOK C Γ l rf (.Assign [.Name x pp] (.ListComp elt [⟨target, iter, ifs, 0⟩] scope pos) p) (asgG i k (compF n xs.length tt fi mi upd bs fe me) (fun _ => .own 1)) := by
  intro A S own env ρ s out c h
  obtain ⟨d, h₁, h₂⟩ := Option.bind_eq_some_iff.mp h
  split at h₂
  case isFalse => cases h₂
  rename_i hg
  cases h₂
  rw [exec_Assign_Name_used _ _ _ _ (hsw env c.env.kind c.env.names)]
  refine wpAny_bind (wpAny_standAt (wpAny_bind ?_))
  show wpAny _ A (comprehension (.ListComp elt [⟨target, iter, ifs, 0⟩] scope pos) scope env (firstIterPos [⟨target, iter, ifs, 0⟩] pos) (newList []) false (eval iter env) (some (assign (.Name x pp) env)) >>= fun _ => pure ()) _ _ s
  refine wpAny_bind (comp_core hkind hchk xi ht hu his htg hb he hs c.cx h₁ (use := some (assign (.Name x pp) env)) (Q := fun _ s' => wpAny (model C.prog C.w) A (pure ()) (fun _ s'' => wpAny (model C.prog C.w) A (pure Flow.next) (SPost C S own s rf (.next (put ρ i (.val k d)))) (fun _ _ => False) s'') (fun _ _ => False) s') (fun q => by cases q) fun u hu v s₁ Ca e₁ frC hns rv => ?_)
  cases hu
  obtain ⟨O, t, nd, fr⟩ := rv
  have hdl : d.cont = true := by
    unfold compF at h₁
    split at h₁
    · obtain ⟨_, _, h₁⟩ := Option.bind_eq_some_iff.mp h₁
      obtain ⟨_, _, h₁⟩ := Option.bind_eq_some_iff.mp h₁
      split at h₁
      · obtain ⟨_, _, rfl⟩ := Option.map_eq_some_iff.mp h₁; rfl
      · cases h₁
    · cases h₁
  have nC : Ca ∉ O := by
    cases t with
    | fz q _ => rw [hdl] at q; cases q
    | list pl _ r =>
      obtain rfl := r.none0
      intro hm
      have := List.mem_singleton.mp hm
      subst this
      obtain ⟨m, hm⟩ := hns
      exact ns_not_list hm pl
    | dict _ dd _ r =>
      unfold compF at h₁
      split at h₁
      · obtain ⟨_, _, h₁⟩ := Option.bind_eq_some_iff.mp h₁
        obtain ⟨_, _, h₁⟩ := Option.bind_eq_some_iff.mp h₁
        split at h₁
        · obtain ⟨_, _, q⟩ := Option.map_eq_some_iff.mp h₁; cases q
        · cases h₁
      · cases h₁
  have hil := slot_lt c hx
  obtain ⟨O', hO0, hO1, O'sub⟩ : ∃ O' : List Addr, (k = 0 → O' = []) ∧ (k = 1 → O' = O) ∧ ∀ a ∈ O', a ∈ O := by
    by_cases hk0 : k = 0
    · exact ⟨[], fun _ => rfl, fun q => by omega, fun a ha => by cases ha⟩
    · exact ⟨O, fun q => by omega, fun _ => rfl, fun a ha => ha⟩
  let own₂ : Addr → Option Nat := setOwn (setOwn own O' i) [Ca] S.locs.length
  have p4 : ∀ a, (∃ o, s.heap.get? a = some o) → own₂ a = own a := fun a ⟨o, z⟩ => by
    show setOwn (setOwn own O' i) [Ca] S.locs.length a = own a
    unfold setOwn
    rw [if_neg, if_neg]
    · intro hm; rw [fr a (O'sub a hm)] at z; cases z
    · intro hm; rw [List.mem_singleton.mp hm, frC] at z; cases z
  have hC2 : own₂ Ca = some S.locs.length := if_pos (List.mem_singleton.mpr rfl)
  have r₂ : RelS C S own₂ s₁.heap ρ := by
    refine c.rel.give' e₁ p4 fun a q => ?_
    have q' : setOwn (setOwn own O' i) [Ca] S.locs.length a ≠ none := q
    unfold setOwn at q'
    split at q'
    · rename_i hm
      obtain ⟨m, o, _, _, z, _⟩ := hns
      exact ⟨o, List.mem_singleton.mp hm ▸ z⟩
    · split at q'
      · rename_i hm; exact t.ex.2 a (O'sub a hm)
      · obtain ⟨j, hj⟩ := Option.ne_none_iff_exists'.mp q'
        obtain ⟨_, _, o, z⟩ := c.rel.ownx a j hj
        exact e₁.dom a o z
  have c₂ : SCx C Γ l A S own₂ env ρ s₁ := c.of r₂ (c.glob.ext e₁)
  have frz : ∀ a, (¬ ((S.fx own).plus [] (· = Ca)).vol a ∧ a ∉ O) → ¬ (S.fx own₂).vol a := fun a n q => by
    rcases q with q | q | q
    · exact n.1 (.inl (.inl q))
    · exact n.1 (.inl (.inr (.inl q)))
    · have q' : setOwn (setOwn own O' i) [Ca] S.locs.length a ≠ none := q
      unfold setOwn at q'
      split at q'
      · rename_i hm; exact n.1 (.inr (List.mem_singleton.mp hm))
      · split at q'
        · rename_i hm; exact n.2 (O'sub a hm)
        · exact n.1 (.inl (.inr (.inr q')))
  have sto : StoreOK C S own₂ s₁.heap i k v d := by
    by_cases hk0 : k = 0
    · have hO := hO0 hk0
      subst hk0
      refine t.rep frz fun a ha q => ?_
      have hf := fr a ha
      rcases q with q | q | q
      · obtain ⟨o, z⟩ := c.rel.ok.bx a q; rw [c.rel.hbNone hf] at z; cases z
      · obtain ⟨lc, hl, rfl⟩ := q; obtain ⟨o, z⟩ := (c.rel.locex lc hl).some; rw [hf] at z; cases z
      · have q' : setOwn (setOwn own O' i) [Ca] S.locs.length a ≠ none := q
        rw [hO] at q'
        unfold setOwn at q'
        split at q'
        · rename_i hm; exact nC (List.mem_singleton.mp hm ▸ ha)
        · split at q'
          · rename_i hm; cases hm
          · obtain ⟨j, hj⟩ := Option.ne_none_iff_exists'.mp q'
            obtain ⟨_, _, o, z⟩ := c.rel.ownx a j hj
            rw [hf] at z; cases z
    · have hk1 : k = 1 := by omega
      have hO := hO1 hk1
      subst hk1
      refine ⟨O, t.trans frz (fun _ _ _ z => z) fun _ _ _ z => z, nd, fun a ha => ?_⟩
      show setOwn (setOwn own O' i) [Ca] S.locs.length a = some i
      rw [hO]
      unfold setOwn
      rw [if_neg, if_pos ha]
      intro hm; exact nC (List.mem_singleton.mp hm ▸ ha)
  refine wpAny_assign_Name (wpAny_mono (storeS c₂ hx sto) (fun _ s₂ kk => ?_) fun _ _ e => e)
  obtain ⟨_, r₃, e₃⟩ := kk
  have nl : ¬ S.loca Ca := (r₂.ownx Ca _ hC2).2.1
  obtain ⟨mm, hmm⟩ := hns
  refine ⟨mm, Ns.kept hmm fun o => e₃.keep Ca o (r₂.ownT hC2) nl, fun h' hsb => wpAny_pure (wpAny_pure ?_)⟩
  have kk : ∀ b o, b ∉ [Ca] → s₂.heap.get? b = some o → h'.get? b = some o := fun b o hb q => hsb.extBut b o (fun z => hb (List.mem_singleton.mpr z)) q
  have r₄ := r₃.drop (O := [Ca]) (fun a ha => ⟨_, Nat.le_refl _, List.mem_singleton.mp ha ▸ hC2⟩) kk
  have old : ∀ b o, s.heap.get? b = some o → b ∉ [Ca] := fun b o q hm => by rw [List.mem_singleton.mp hm, frC] at q; cases q
  have e₁₂ : ExtV C (S.mut own) s s₂ := (e₁.v (V := S.mut own)).trans e₃ fun b q => .inl (.inl q)
  have wT : ∀ b ∈ [Ca], ¬ C.T b := fun b hb => List.mem_singleton.mp hb ▸ r₂.ownT hC2
  have wK : ∀ b o, C.K.lookup b = some o → b ∉ [Ca] := fun b o k hb => by have := c.glob.inK b o k; rw [List.mem_singleton.mp hb, frC] at this; cases this
  have extF : ExtV C (S.mut own) s { s₂ with heap := h' } := by
    refine ⟨fun b o t n q => kk b o (old b o q) (e₁₂.keep b o t n q), fun b o q => ?_, fun t => vol_tab (V := (· ∈ [Ca])) wT wK kk (e₁₂.tab t), e₁₂.gens, e₁₂.os⟩
    obtain ⟨o', z⟩ := e₁₂.dom b o q
    exact ⟨o', kk b o' (old b o q) z⟩
  refine ⟨rfl, unOwn own₂ [Ca], r₄, mut_glob c extF, extF, OwnStep.of c fun a ⟨o, z⟩ => ?_⟩
  unfold unOwn
  rw [if_neg (old a o z)]
  exact p4 a ⟨o, z⟩
end
end Mine

set_option autoImplicit false
open PySem PyProof.Rows
namespace Mine
set_option linter.unusedVariables false

def varsOf (names : List (Str × NameKind)) : List Str := (names.filter fun p => p.2 == .local || p.2 == .cell).map (·.1)
def fnSc (names : List (Str × NameKind)) : Sc := { names := names, slots := (varsOf names).zipIdx }
def fnChk (names : List (Str × NameKind)) (ps : List Str) : Bool :=
  decide ((varsOf names).Nodup) && (varsOf names).take ps.length == ps && (varsOf names).all fun x => names.lookup x == some .local || names.lookup x == some .cell
def ini (n : Nat) (ds : List D) : List Slot := ds.map (Slot.val 0) ++ List.replicate (n - ds.length) .un
def fnF (n k : Nat) (G : List Slot → Option Out) (ds : List D) : Option D := if ds.length = k then (G (ini n ds)).bind fun o => match o with | .ret d => some d | .next _ => none else none

theorem bindL_not {kindOf : Str → Option NameKind} {x : Str} : ∀ {binds : List (Str × Value)} {m : Str → Option Value}, x ∉ binds.map (·.1) → bindL kindOf binds m x = m x
  | [], _, _ => rfl
  | (n, v) :: r, m, h => by
    unfold bindL
    rw [bindL_not (fun q => h (List.mem_cons_of_mem _ q))]
    split
    · exact if_neg (show ¬ x = n from fun e => h (e ▸ List.mem_cons_self))
    · rfl
theorem bindL_get {kindOf : Str → Option NameKind} {x : Str} {v : Value} (hk : kindOf x = some .local) : ∀ {binds : List (Str × Value)} {m : Str → Option Value}, (binds.map (·.1)).Nodup → (x, v) ∈ binds → bindL kindOf binds m x = some v
  | [], _, _, h => by cases h
  | (n, u) :: r, m, hn, h => by
    unfold bindL
    rw [List.map_cons, List.nodup_cons] at hn
    rcases List.mem_cons.mp h with e | h
    · cases e
      rw [bindL_not hn.1, if_pos hk]
      simp
    · exact bindL_get hk hn.2 h
theorem bindC_not {kindOf : Str → Option NameKind} {x : Str} : ∀ {binds : List (Str × Value)} {m : Str → Option Value}, x ∉ binds.map (·.1) → bindC kindOf binds m x = m x
  | [], _, _ => rfl
  | (n, v) :: r, m, h => by
    unfold bindC
    rw [bindC_not (fun q => h (List.mem_cons_of_mem _ q))]
    split
    · rfl
    · exact if_neg (show ¬ x = n from fun e => h (e ▸ List.mem_cons_self))
theorem bindC_get {kindOf : Str → Option NameKind} {x : Str} {v : Value} (hk : kindOf x ≠ some .local) : ∀ {binds : List (Str × Value)} {m : Str → Option Value}, (binds.map (·.1)).Nodup → (x, v) ∈ binds → bindC kindOf binds m x = some v
  | [], _, _, h => by cases h
  | (n, u) :: r, m, hn, h => by
    unfold bindC
    rw [List.map_cons, List.nodup_cons] at hn
    rcases List.mem_cons.mp h with e | h
    · cases e
      rw [bindC_not hn.1, if_neg hk]
      simp
    · exact bindC_get hk hn.2 h
def locOf (names : List (Str × NameKind)) (L : Addr) (cells : List (Str × Addr)) (x : Str) : Loc := if names.lookup x = some .local then .ns L x else .cell ((cells.lookup x).getD 0)
theorem lookup_zipIdx' {xs : List Str} {i : Nat} {x : Str} (h : xs.zipIdx.lookup x = some i) : xs[i]? = some x := by
  have := (lookup_zipIdx (n := 0) h).2; simpa using this
theorem get_zip {α β : Type} : ∀ {xs : List α} {ys : List β} {i : Nat} {x : α} {y : β}, xs[i]? = some x → ys[i]? = some y → (x, y) ∈ xs.zip ys
  | [], _, i, _, _, h, _ => by simp at h
  | _ :: _, [], i, _, _, _, h => by simp at h
  | a :: xs, b :: ys, 0, x, y, h, h' => by simp at h h'; subst h; subst h'; exact List.mem_cons_self
  | a :: xs, b :: ys, i + 1, x, y, h, h' => List.mem_cons_of_mem _ (get_zip (by simpa using h) (by simpa using h'))

theorem fn_intro {C : Cfg} {fa : Addr} {o : Obj} {fd : FuncData} {body : List Stmt} {ps : List Str} {l : Nat} {rf : Bool} {G : List Slot → Option Out}
    (hK : C.K.lookup fa = some o) (hdata : o.data = .func fd) (hcd : W.codeIn C.K fd.code fd.qualname = true) (hbody : fd.body = .stmts body)
    (hbind : ∀ vals : List Value, vals.length = ps.length → bindArgs fd ⟨vals, []⟩ = pure (ps.zip vals)) (hclo : fd.closure = []) (hgl : fd.globals = mainGlobals) (hbl : fd.builtins = builtinsNs)
    (hchk : fnChk fd.scope.names ps = true) (hco : fd.scope.isCoroutine = false) (hgen : fd.scope.isGenerator = false) (hk : fd.scope.kind = .function)
    (hb : SOK C (fnSc fd.scope.names) l rf body G) : FnOK C fa (l + 1) rf (fnF (varsOf fd.scope.names).length ps.length G) := by
  intro A s vs ds d N room glob nok rvs hφ
  unfold fnF at hφ
  split at hφ
  case isFalse => cases hφ
  rename_i hlen
  obtain ⟨out, hG, hφ⟩ := Option.bind_eq_some_iff.mp hφ
  cases out with
  | next => cases hφ
  | ret d' =>
  cases hφ
  obtain ⟨hch, hall⟩ := Bool.and_eq_true_iff.mp hchk
  obtain ⟨hnd, hps⟩ := Bool.and_eq_true_iff.mp hch
  have hnd := of_decide_eq_true hnd
  have hps : (varsOf fd.scope.names).take ps.length = ps := by simpa using hps
  have hkinds : ∀ x ∈ varsOf fd.scope.names, fd.scope.names.lookup x = some .local ∨ fd.scope.names.lookup x = some .cell := fun x hx => by
    have := List.all_eq_true.mp hall x hx
    rcases Bool.or_eq_true_iff.mp this with q | q
    · exact .inl (by simpa using q)
    · exact .inr (by simpa using q)
  have hpv : ∀ x ∈ ps, x ∈ varsOf fd.scope.names := fun x hx => List.mem_of_mem_take (hps ▸ hx)
  have hvl : vs.length = ps.length := rvs.length.trans hlen
  have psnd : ps.Nodup := hps ▸ hnd.sublist (List.take_sublist _ _)
  have hmap : ((ps.zip vs).map (·.1)).Nodup := by rw [List.map_fst_zip (Nat.le_of_eq hvl.symm)]; exact psnd
  have cellSome : ∀ n x, fd.scope.names.lookup x = some .cell → ((cellsFrom n fd.scope.names []).lookup x).isSome = true := fun n x h => W.cellsFrom_some _ _ _ (.inl h)
  have In : W.Frag.In C.K s.heap := fun a o h => glob.inK a o h
  refine codeAny_call_cells (Nat.lt_of_le_of_lt (Nat.le_add_right _ _) room.2.1) (glob.inK _ _ hK) hdata glob.nolim (W.codeRec_of In hcd) hbody (hbind vs hvl) hclo (fun x hx => ?_) (fun s₁ ic => ?_) hco hgen hk
  · have := hkinds x.1 (hpv _ (List.of_mem_zip hx).1)
    exact this.imp id fun h => ⟨h, cellSome _ _ h⟩
  generalize henv : callEnvC fd s.heap.objs.size fa = env at ic ⊢
  have eL : env.locals = s.heap.objs.size := by rw [← henv]; rfl
  have eN : env.scope = fd.scope := by rw [← henv]; rfl
  have eC : env.cells = cellsFrom (s.heap.objs.size + 1) fd.scope.names [] := by rw [← henv]; rfl
  have eG : env.globals = fd.globals := by rw [← henv]; rfl
  have eB : env.builtins = fd.builtins := by rw [← henv]; rfl
  have keep : ∀ b o, s.heap.get? b = some o → s₁.heap.get? b = some o := ic.toInCall.keep
  have gone : ∀ b : Nat, s.heap.objs.size ≤ b → s.heap.get? b = none := fun b hb => by
    cases q : s.heap.get? b with
    | none => rfl
    | some o => exact absurd (Heap.lt_size q) (Nat.not_lt.mpr hb)
  have e₁ : Ext C s s₁ := by
    obtain ⟨h, tk, rfl⟩ := ic.toInCall.same
    exact Ext.of keep
  have cellAt : ∀ x, fd.scope.names.lookup x = some .cell → ∃ c, env.cells.lookup x = some c ∧ env.locals < c := fun x h => by
    obtain ⟨c, hc⟩ := Option.isSome_iff_exists.mp (cellSome (s.heap.objs.size + 1) x h)
    rw [← eC] at hc
    exact ⟨c, hc, ic.above x c (mem_of_lookup hc)⟩
  let S : Fs := { locs := (varsOf fd.scope.names).map (locOf fd.scope.names env.locals env.cells), base := fun a => ¬ N a, hb := s.heap }
  have locs_get : ∀ (i : Nat) (lc : Loc), S.locs[i]? = some lc → ∃ x, (varsOf fd.scope.names)[i]? = some x ∧ ((fd.scope.names.lookup x = some .local ∧ lc = .ns env.locals x) ∨ ∃ c, fd.scope.names.lookup x = some .cell ∧ env.cells.lookup x = some c ∧ env.locals < c ∧ lc = .cell c) := by
    intro i lc h
    have h' : ((varsOf fd.scope.names).map (locOf fd.scope.names env.locals env.cells))[i]? = some lc := h
    rw [List.getElem?_map] at h'
    obtain ⟨x, hx, rfl⟩ := Option.map_eq_some_iff.mp h'
    refine ⟨x, hx, ?_⟩
    rcases hkinds x (List.mem_of_getElem? hx) with q | q
    · exact .inl ⟨q, if_pos q⟩
    · obtain ⟨c, hc, hlt⟩ := cellAt x q
      refine .inr ⟨c, q, hc, hlt, ?_⟩
      unfold locOf
      rw [if_neg (by rw [q]; exact fun z => by cases z), hc]
      rfl
  have locs_of : ∀ (i : Nat) (x : Str), (varsOf fd.scope.names)[i]? = some x → S.locs[i]? = some (locOf fd.scope.names env.locals env.cells x) := fun i x h => by
    show ((varsOf fd.scope.names).map _)[i]? = _
    rw [List.getElem?_map, h]; rfl
  have locNone : ∀ lc ∈ S.locs, s.heap.get? lc.addr = none := fun lc hl => by
    obtain ⟨i, hi⟩ := List.mem_iff_getElem?.mp hl
    obtain ⟨x, _, ⟨_, rfl⟩ | ⟨c, _, _, hlt, rfl⟩⟩ := locs_get i lc hi
    · exact gone _ (Nat.le_of_eq eL.symm)
    · exact gone _ (Nat.le_of_lt (eL ▸ hlt))
  have kindEq : ∀ x, env.kindOf x = fd.scope.names.lookup x := fun x => by unfold Env.kindOf; rw [eN]
  have nex : ∀ a, ¬ N a → ∃ o, s.heap.get? a = some o := fun a n => by
    cases q : s.heap.get? a with
    | none => exact absurd (nok.fresh a q) n
    | some o => exact ⟨o, rfl⟩
  have fsok : FsOK C S := by
    refine ⟨fun a t n => nok.notT a n t, nex, fun a o k => ⟨fun n => n (nok.inK a o k), o, glob.inK a o k⟩, fun a ha => ⟨fun n => n (nok.low a ha), ?_⟩, locNone, ?_⟩
    · rcases ha with rfl | rfl | rfl
      · obtain ⟨o, _, _, e, _⟩ := glob.b; exact ⟨o, e⟩
      · obtain ⟨_, ⟨o, _, _, e, _⟩, _⟩ := glob.nolim; exact ⟨o, e⟩
      · obtain ⟨o, _, _, e, _⟩ := glob.g; exact ⟨o, e⟩
    · intro i j li lj hi hj hne ha
      obtain ⟨x, hx, ⟨_, rfl⟩ | ⟨c, hxc, hc, hlt, rfl⟩⟩ := locs_get i li hi <;> obtain ⟨y, hy, ⟨_, rfl⟩ | ⟨c', hyc, hc', hlt', rfl⟩⟩ := locs_get j lj hj
      · refine ⟨env.locals, x, y, rfl, rfl, fun e => hne ?_⟩
        subst e
        exact (List.getElem?_inj (List.getElem?_eq_some_iff.mp hx).1 hnd).mp (hx.trans hy.symm)
      · exact absurd ha (Nat.ne_of_lt hlt')
      · exact absurd ha (Nat.ne_of_gt hlt)
      · exfalso
        have e : c = c' := ha
        subst e
        have := name_of_addr ic.apart (mem_of_lookup hc) (mem_of_lookup hc')
        subst this
        exact hne ((List.getElem?_inj (List.getElem?_eq_some_iff.mp hx).1 hnd).mp (hx.trans hy.symm))
  have inilen : (ini (varsOf fd.scope.names).length ds).length = (varsOf fd.scope.names).length := by
    unfold ini
    have : ds.length ≤ (varsOf fd.scope.names).length := by rw [hlen, ← hps]; simp; omega
    simp; omega
  have ini_get : ∀ (i : Nat) y, (ini (varsOf fd.scope.names).length ds)[i]? = some y → y = .un ∨ ∃ di, ds[i]? = some di ∧ y = .val 0 di := by
    intro i y h
    unfold ini at h
    rw [List.getElem?_append] at h
    split at h
    · rw [List.getElem?_map] at h
      obtain ⟨di, hdi, rfl⟩ := Option.map_eq_some_iff.mp h
      exact .inr ⟨di, hdi, rfl⟩
    · rw [List.getElem?_replicate] at h
      split at h
      · cases h; exact .inl rfl
      · cases h
  have rel : RelS C S (fun _ => none) s₁.heap (ini (varsOf fd.scope.names).length ds) := by
    refine ⟨fsok, fun a o q => ⟨o, keep a o q⟩, fun lc hl => ?_, ?_, fun a i h => (by cases h), fun i di h => ?_, fun i k di h => ?_, fun i j key h => ?_⟩
    · obtain ⟨i, hi⟩ := List.mem_iff_getElem?.mp hl
      obtain ⟨x, _, ⟨_, rfl⟩ | ⟨c, _, hc, hlt, rfl⟩⟩ := locs_get i lc hi
      · exact ⟨_, ic.toInCall.ns⟩
      · exact ⟨_, ic.cell x c hc⟩
    · rw [inilen]; simp [S]
    · rcases ini_get i _ h with q | ⟨dj, hdj, q⟩
      · cases q
      · cases q
        obtain ⟨v, hv, rv⟩ := rvs.get hdj
        have hil : i < ps.length := by rw [← hlen]; exact (List.getElem?_eq_some_iff.mp hdj).1
        obtain ⟨x, hx⟩ : ∃ x, ps[i]? = some x := ⟨_, List.getElem?_eq_getElem hil⟩
        have hxv : (varsOf fd.scope.names)[i]? = some x := by
          have hx' := hx
          rw [← hps, List.getElem?_take, if_pos hil] at hx'
          exact hx'
        have hm := get_zip hx hv
        refine ⟨_, v, locs_of i x hxv, ?_, ?_⟩
        · unfold locOf
          rcases hkinds x (List.mem_of_getElem? hxv) with q | q
          · rw [if_pos q]
            exact ⟨_, ic.toInCall.ns, bindL_get ((kindEq x).trans q) hmap hm⟩
          · rw [if_neg (by rw [q]; exact fun z => by cases z)]
            obtain ⟨c, hc, _⟩ := cellAt x q
            rw [hc]
            have := ic.cell x c hc
            rw [bindC_get (kindOf := env.kindOf) (by rw [kindEq, q]; exact fun z => by cases z) hmap hm] at this
            exact this
        · refine rv.ex.trans (fun a n q => ?_) fun a o n z => keep a o z
          rcases q with q | q | q
          · exact q n.1
          · obtain ⟨lc, hl, rfl⟩ := q
            obtain ⟨o, z⟩ := n.2
            rw [locNone lc hl] at z; cases z
          · exact q rfl
    · rcases ini_get i _ h with q | ⟨dj, _, q⟩ <;> cases q
    · rcases ini_get i _ h with q | ⟨dj, _, q⟩ <;> cases q
  have envok : EnvOK (fnSc fd.scope.names) (S.fx fun _ => none) env := by
    refine ⟨by rw [eN]; exact hk, by rw [eN]; rfl, eG.trans hgl, eB.trans hbl, fun x i h => ?_⟩
    have hx : (varsOf fd.scope.names)[i]? = some x := lookup_zipIdx' h
    have hl := locs_of i x hx
    rcases hkinds x (List.mem_of_getElem? hx) with q | q
    · refine .inl ⟨?_, q⟩
      have : locOf fd.scope.names env.locals env.cells x = .ns env.locals x := if_pos q
      rw [← this]; exact hl
    · obtain ⟨c, hc, _⟩ := cellAt x q
      refine .inr ⟨c, ?_, q, hc⟩
      have : locOf fd.scope.names env.locals env.cells x = .cell c := by
        unfold locOf; rw [if_neg (by rw [q]; exact fun z => by cases z), hc]; rfl
      rw [← this]; exact hl
  have room' : Room (A.deeper env) l := by
    obtain ⟨h1, h2, h3⟩ := room
    refine ⟨h1, ?_, ?_⟩
    · show A.depth + 1 + l < _; omega
    · show A.units + 3 + 10 * l + 200 < _; omega
  refine wpAny_mono (hb (A.deeper env) S _ env _ s₁ (.ret d) ⟨room', envok, rel, glob.ext e₁⟩ hG) (fun fl s' k => ?_) fun _ _ f => f.elim
  obtain ⟨v, rfl, ex, rv, hr⟩ := k
  refine ⟨v, rfl, ((e₁.v (V := S.mut fun _ => none)).trans ex fun b q => .inl q).ext fun b q => ?_, rv.trans (fun a n => Classical.not_not.mp n) fun _ _ _ z => z, hr⟩
  rcases q with ⟨lc, hl, rfl⟩ | ⟨i, _, q⟩
  · exact locNone lc hl
  · cases q
end Mine

set_option autoImplicit false
open PySem PyProof.Rows
namespace Mine
set_option linter.unusedVariables false

/-! dicts compared -/
def hitsD (b : List (Str × D)) : List (Str × D) → Option Bool
  | [] => some true
  | (k, v) :: r => match b.lookup k with
    | none => some false
    | some y => (eqD 38 v y).bind fun e => (hitsD b r).bind fun q => some (e && q)
def eqE : D → D → Option Bool
  | .dict a, .dict b => if a.length = b.length then hitsD b a else some false
  | _, _ => none
section
variable {C : Cfg}
theorem hits_ok {A : Around} {s : Shared} {N N' : Addr → Prop} {kb : List (Str × Value)} {db : List (Str × D)} (hu : A.units + 38 < cLine) (y : RepE C.prog C.w s.heap N' kb db) : ∀ {ka : List (Str × Value)} {da : List (Str × D)} {r : Bool}, RepE C.prog C.w s.heap N ka da → hitsD db da = some r → W.KeqHits A s kb ka r
  | _, _, r, .nil, h => by cases h; exact .nil
  | _, _, r, .cons _ x xs, h => by
    unfold hitsD at h
    rename_i k v kvs d kds _
    rcases y.lookup k with ⟨h1, h2⟩ | ⟨v', d', h1, h2, r'⟩
    · rw [h2] at h; cases h; exact .miss h1
    · rw [h2] at h
      obtain ⟨e, he, h⟩ := Option.bind_eq_some_iff.mp h
      obtain ⟨q, hq, h⟩ := Option.bind_eq_some_iff.mp h
      cases h
      exact .hit h1 (eqAt_rep 38 hu x r' he) (hits_ok hu y xs hq)
theorem eqE_parts {A : Around} {s : Shared} {N N' : Addr → Prop} {a b : Value} {d₁ d₂ : D} {r : Bool} (hu : A.units + 38 < cLine) (x : RepC C s.heap N a d₁) (y : RepC C s.heap N' b d₂) (q : eqE d₁ d₂ = some r) :
    ∃ (p p' : Addr) (ka kb : List (Str × Value)) (r' : Bool), a = .ref p ∧ b = .ref p' ∧ (p == sysModules) = false ∧ (p' == sysModules) = false ∧ s.heap.DictOf (PySem.strKind C.prog C.w) p ka ∧ s.heap.DictOf (PySem.strKind C.prog C.w) p' kb ∧ (ka.length = kb.length → W.KeqHits A s kb ka r') ∧ (ka.length == kb.length && r') = r := by
  obtain ⟨da, db, rfl, rfl⟩ : ∃ da db, d₁ = .dict da ∧ d₂ = .dict db := by
    unfold eqE at q
    split at q
    · exact ⟨_, _, rfl, rfl⟩
    · cases q
  obtain ⟨p, ka, rfl, n, e, dd, l, ra⟩ := x.inv_dict
  obtain ⟨p', kb, rfl, n', e', dd', l', rb⟩ := y.inv_dict
  simp only [eqE] at q
  split at q
  · rename_i hl
    refine ⟨p, p', ka, kb, r, rfl, rfl, e, e', dd, dd', fun _ => hits_ok hu rb ra q, ?_⟩
    rw [ra.length, rb.length, hl]; simp
  · rename_i hl
    cases q
    refine ⟨p, p', ka, kb, true, rfl, rfl, e, e', dd, dd', fun h => absurd (by rw [← ra.length, ← rb.length]; exact h) hl, ?_⟩
    rw [ra.length, rb.length]; simpa using hl
theorem neE_cmp : CmpOK C .NotEq (notO eqE) := fun A l s a b d₁ d₂ r N₁ N₂ R x y q => by
  obtain ⟨r'', q', rfl⟩ := Option.map_eq_some_iff.mp q
  have hu := R.u
  obtain ⟨p, p', ka, kb, r', rfl, rfl, e, e', dd, dd', h, rfl⟩ := eqE_parts (A := A.in1) (by rw [Around.in1_units]; omega) x y q'
  exact W.keq_ne e e' dd dd' (by omega) h ⟨Ext.refl C s, rfl⟩
end

/-! functions of the text -/
def dBody (p : Program) (i : Nat) : List Stmt := match p.main.body.drop i with | .FunctionDef _ _ b _ _ _ _ _ _ _ :: _ => b | _ => []
def HasFn (C : Cfg) (x : Str) (ps : List Str) (body : List Stmt) (names : List (Str × NameKind)) : Prop :=
  ∃ fa o fd, C.mg x = some (.ref fa) ∧ C.K.lookup fa = some o ∧ o.data = .func fd ∧ W.codeIn C.K fd.code fd.qualname = true ∧ fd.body = .stmts body ∧ (∀ vals : List Value, vals.length = ps.length → bindArgs fd ⟨vals, []⟩ = pure (ps.zip vals)) ∧ fd.closure = [] ∧ fd.globals = mainGlobals ∧ fd.builtins = builtinsNs ∧
    fd.scope.names = names ∧ fd.scope.isCoroutine = false ∧ fd.scope.isGenerator = false ∧ fd.scope.kind = .function
theorem fn_G {C : Cfg} {x : Str} {ps : List Str} {body : List Stmt} {names : List (Str × NameKind)} {l : Nat} {rf : Bool} {G : List Slot → Option Out} (h : HasFn C x ps body names) (hchk : fnChk names ps = true) (hb : SOK C (fnSc names) l rf body G) :
    FnG C x (l + 1) rf (fnF (varsOf names).length ps.length G) := by
  obtain ⟨fa, o, fd, h1, h2, h3, h4, h5, h6, h7, h8, h9, rfl, h11, h12, h13⟩ := h
  exact ⟨fa, o, fd, h1, h2, h3, fn_intro h2 h3 h4 h5 h6 h7 h8 h9 hchk h11 h12 h13 hb⟩
theorem ns_some {K : W.Frag} {h : Heap} {N : Addr} {mg : Str → Option Value} {n : Str} {v : Value} (X : W.Frag.In K h) (G : h.Ns N mg) (e : W.nsIn K N n = some (some v)) : mg n = some v := by
  obtain ⟨o, es, ep, ho, hd, _, hf⟩ := G
  unfold W.nsIn at e
  split at e
  · rename_i c d es' n' sl q
    have := X _ _ q
    rw [ho] at this
    cases this
    cases hd
    split at e
    · rename_i he
      cases e
      rw [← hf]
      unfold nsFind findBy
      rw [← Array.find?_toList, he]
      rfl
    · split at e <;> cases e
  · cases e
/-! the end -/
theorem law_end {c : W.ClaimW} {cl : Str → Option Addr} {mean : ExcName → Option Value} {args : List W.WData} {C : Cfg} {x : Str} {fa : Addr} {l : Nat} {rf : Bool} {φ : List D → Option D} {s₁ : Shared} {vals : List Value} {ds : List D} (hf : FnG C x l rf φ) (hx : C.mg x = some (.ref fa)) (hroom : Room callerA l) (glob : GlobOK C s₁.heap)
    (hT : ∀ a, ¬ C.T a) (rv : RepLC C s₁.heap (fun _ => True) vals ds) (hφ : φ ds = some (.bool true)) (hn : ∀ cls, c.raises args cls = false) (hp : c.post args (.bool true) args = true) (hg : s₁.gens = #[]) :
    wpAny (model C.prog C.w) callerA (call (.ref fa) vals) (fun v s' => W.GoodWG c cl mean args s₁ (.ok (.ret v)) s') (fun e s' => W.GoodWG c cl mean args s₁ (.error e) s') s₁ := by
  obtain ⟨fa', o, fd, h1, h2, h3, hF⟩ := hf
  rw [hx] at h1; cases h1
  refine wpAny_call (codeAny_mono (hF callerA s₁ vals ds (.bool true) (fun _ => True) hroom glob ⟨fun _ _ => trivial, fun a _ => hT a, fun _ _ _ => trivial, fun _ _ => trivial⟩ rv hφ) fun r s' q => ?_)
  obtain ⟨v, rfl, e, rv, _⟩ := q
  cases rv
  refine ⟨.inl ⟨_, .bool true, [], rfl, hn, .bool true, hp, fun _ => ⟨List.nodup_nil, fun _ h => nomatch h⟩⟩, .of_keep fun b o q => e.keep b o (hT b) q, e.os, e.gens (.of_eq hg)⟩
theorem rep_ints {C : Cfg} {h : Heap} {N : Addr → Prop} {vs : List Value} {ns : List Int} (x : W.WellAll C.w.params h vs (ns.map W.WData.int)) : RepLC C h N vs (ns.map D.int) := by
  induction ns generalizing vs with
  | nil => cases x; exact .nil
  | cons n ns ih =>
    cases x with
    | cons a r =>
      cases a
      exact .cons (.int _ _) (ih r)
theorem ofPys_ints (ns : List Int) : W.ofPys (ns.map PyData.int) = ns.map W.WData.int := by
  induction ns with
  | nil => rfl
  | cons n ns ih => simp only [List.map_cons, W.ofPys, ih]; rfl
theorem WellAll.len {P : Params} {h : Heap} {vs : List Value} {ns : List W.WData} (x : W.WellAll P h vs ns) : vs.length = ns.length := by
  induction vs generalizing ns with
  | nil => cases x; rfl
  | cons v vs ih => cases x with | cons _ r => rw [List.length_cons, List.length_cons, ih r]
theorem rep_script {C : Cfg} {h : Heap} {N : Addr → Prop} {a : Addr} {ns : List Int} (hN : N a) (hl : ns.length ≤ sizeLine) (x : W.Well C.w.params h (.ref a) (W.ofPy (.list (ns.map PyData.int)))) : RepLC C h N [.ref a] [.list (ns.map D.int)] := by
  have e : W.ofPy (.list (ns.map PyData.int)) = W.WData.list (ns.map W.WData.int) := by
    show W.WData.list (W.ofPys (ns.map PyData.int)) = _
    rw [ofPys_ints]
  rw [e] at x
  cases x with
  | list hg r => exact .cons (.list hN ⟨_, hg⟩ (by rw [WellAll.len r, List.length_map]; exact hl) (rep_ints r)) .nil
end Mine

set_option autoImplicit false
open PySem PyProof.Rows
namespace Mine
set_option linter.unusedVariables false
def dNames (p : Program) (i : Nat) : List (Str × NameKind) := match p.main.body.drop i with | .FunctionDef _ _ _ _ _ _ sc _ _ _ :: _ => sc.names | _ => []
/-- does the store of a comprehension's value come ahead of the letting go? -/
def swapChk (Γ : Sc) (x : Str) (pp vp : Pos) (scope : Scope) : Bool := Γ.names.lookup x == some .local && pp.line == vp.line && !(scope.names.any fun (n, k) => n == x && (k == .local || k == .cell))
theorem swap_yes {Γ : Sc} {x : Str} {pp vp : Pos} {scope : Scope} {elt : Expr} {gens : List Comprehension} {line : Nat} (h : swapChk Γ x pp vp scope = true) :
    ∀ env : Env, env.scope.kind = .function → env.scope.names = Γ.names → swapsWith (.ListComp elt gens scope vp) (some (.Name x pp)) line env = pure true := by
  intro env hk hn
  unfold swapChk at h
  have e : swapsWith (.ListComp elt gens scope vp) (some (.Name x pp)) line env = pure (env.blockKind == .function && env.kindOf x == some .local && pp.line == vp.line && !(scope.names.any fun (n, k) => n == x && (k == .local || k == .cell))) := rfl
  have hb : env.blockKind = .function := by unfold Env.blockKind; rw [hk]; rfl
  have hkx : env.kindOf x = Γ.names.lookup x := by unfold Env.kindOf; rw [hn]
  rw [e, hb, hkx]
  rw [show (ScopeKind.function == ScopeKind.function) = true from rfl, Bool.true_and, h]
theorem swap_no {Γ : Sc} {x : Str} {pp vp : Pos} {scope : Scope} {elt : Expr} {gens : List Comprehension} {line : Nat} (h : swapChk Γ x pp vp scope = false) :
    ∀ env : Env, env.scope.names = Γ.names → swapsWith (.ListComp elt gens scope vp) (some (.Name x pp)) line env = pure false := by
  intro env hn
  unfold swapChk at h
  have e : swapsWith (.ListComp elt gens scope vp) (some (.Name x pp)) line env = pure (env.blockKind == .function && env.kindOf x == some .local && pp.line == vp.line && !(scope.names.any fun (n, k) => n == x && (k == .local || k == .cell))) := rfl
  have hkx : env.kindOf x = Γ.names.lookup x := by unfold Env.kindOf; rw [hn]
  rw [e, hkx, Bool.and_assoc, Bool.and_assoc, ← Bool.and_assoc (Γ.names.lookup x == some .local), h, Bool.and_false]
end Mine

set_option autoImplicit false
open PySem PyProof.Rows
namespace Mine
set_option linter.unusedVariables false
def cfgOf (prog : Program) (w : World) (K : W.Frag) (mg mb : Str → Option Value) : Cfg where
  prog := prog
  w := w
  K := K
  mg := mg
  mb := mb
  T := fun _ => False
  TB := fun _ => True
  hK := fun _ _ _ h => h
  hTg := fun h => h
  hTb := fun h => h
  hTs := fun h => h
  hTB := fun _ _ _ h => h
theorem glob_of {prog : Program} {w : World} {K : W.Frag} {mg mb : Str → Option Value} {h : Heap} (KX : W.Frag.In K h) (g : h.Ns mainGlobals mg) (b : h.Ns builtinsNs mb) (bi : ∀ x : Str, x ≠ "__name__" → mb x = bootBuiltins x) (nolim : h.NoLimit) : GlobOK (cfgOf prog w K mg mb) h :=
  ⟨KX, g, b, bi, nolim, trivial, fun _ h => h.elim⟩
theorem has_fn {prog : Program} {w : World} {K : W.Frag} {mg mb : Str → Option Value} {h : Heap} {x : Str} {ps : List Str} {body : List Stmt} {names : List (Str × NameKind)} {fa : Addr} {o : Obj} {fd : FuncData} (KX : W.Frag.In K h) (g : h.Ns mainGlobals mg) (h1 : W.nsIn K mainGlobals x = some (some (.ref fa))) (h2 : K.lookup fa = some o) (h3 : o.data = .func fd)
    (h4 : W.codeIn K fd.code fd.qualname = true) (h5 : fd.body = .stmts body) (h6 : ∀ vals : List Value, vals.length = ps.length → bindArgs fd ⟨vals, []⟩ = pure (ps.zip vals)) (h7 : fd.closure = []) (h8 : fd.globals = mainGlobals) (h9 : fd.builtins = builtinsNs) (h10 : fd.scope.names = names)
    (h11 : fd.scope.isCoroutine = false) (h12 : fd.scope.isGenerator = false) (h13 : fd.scope.kind = .function) : HasFn (cfgOf prog w K mg mb) x ps body names :=
  ⟨fa, o, fd, ns_some KX g h1, h2, h3, h4, h5, h6, h7, h8, h9, h10, h11, h12, h13⟩
theorem bind1 {fd : FuncData} {a : Str} (h : ∀ v, bindArgs fd ⟨[v], []⟩ = pure [(a, v)]) (vals : List Value) (hl : vals.length = [a].length) : bindArgs fd ⟨vals, []⟩ = pure ([a].zip vals) := by
  obtain ⟨v, rfl⟩ := List.length_eq_one_iff.mp hl
  exact h v
theorem bind2 {fd : FuncData} {a b : Str} (h : ∀ v u, bindArgs fd ⟨[v, u], []⟩ = pure [(a, v), (b, u)]) (vals : List Value) (hl : vals.length = [a, b].length) : bindArgs fd ⟨vals, []⟩ = pure ([a, b].zip vals) := by
  cases vals with
  | nil => cases hl
  | cons v r =>
    obtain ⟨u, rfl⟩ := List.length_eq_one_iff.mp (show r.length = 1 from Nat.succ.inj hl)
    exact h v u
theorem bind3 {fd : FuncData} {a b c : Str} (h : ∀ v u t, bindArgs fd ⟨[v, u, t], []⟩ = pure [(a, v), (b, u), (c, t)]) (vals : List Value) (hl : vals.length = [a, b, c].length) : bindArgs fd ⟨vals, []⟩ = pure ([a, b, c].zip vals) := by
  cases vals with
  | nil => cases hl
  | cons v r =>
    cases r with
    | nil => cases hl
    | cons u r =>
      obtain ⟨t, rfl⟩ := List.length_eq_one_iff.mp (show r.length = 1 from Nat.succ.inj (Nat.succ.inj hl))
      exact h v u t
/-- a tuple of strs or ints of the text's top -/
theorem gc_tup {prog : Program} {w : World} {K : W.Frag} {mg mb : Str → Option Value} {h : Heap} {x : Str} {a : Addr} {n : Nat} {vs : List Value} {ds : List D} (KX : W.Frag.In K h) (g : h.Ns mainGlobals mg) (h1 : W.nsIn K mainGlobals x = some (some (.ref a))) (h2 : K.lookup a = some { cls := .type "tuple", data := .seq vs.toArray n }) (hl : vs.length ≤ sizeLine)
    (h3 : ∀ h N, RepL prog w h N vs ds) : GC (cfgOf prog w K mg mb) x (.tup ds) :=
  ⟨.ref a, ns_some KX g h1, fun h' k => .tup ⟨_, h2⟩ ⟨n, k _ _ h2⟩ hl (h3 _ _)⟩
theorem law_fin {c : W.ClaimW} {cl : Str → Option Addr} {mean : ExcName → Option Value} {args : List W.WData} {prog : Program} {w : World} {K : W.Frag} {mg mb : Str → Option Value} {s₁ : Shared} {fa a : Addr} {l : Nat} {rf : Bool} {φ : List D → Option D} {x : Str} {ns : List Int}
    (KX : W.Frag.In K s₁.heap) (g : s₁.heap.Ns mainGlobals mg) (b : s₁.heap.Ns builtinsNs mb) (bi : ∀ x : Str, x ≠ "__name__" → mb x = bootBuiltins x) (nolim : s₁.heap.NoLimit) (hx : mg x = some (.ref fa)) (hf : FnG (cfgOf prog w K mg mb) x l rf φ) (hl : l ≤ 30)
    (wl : W.Well w.params s₁.heap (.ref a) (W.ofPy (.list (ns.map PyData.int)))) (hlen : ns.length ≤ 1000) (hφ : φ [.list (ns.map .int)] = some (.bool true)) (hn : ∀ cls, c.raises args cls = false) (hp : c.post args (.bool true) args = true) (hg : s₁.gens = #[]) :
    wpAny (model prog w) callerA (call (.ref fa) [.ref a]) (fun v s' => W.GoodWG c cl mean args s₁ (.ok (.ret v)) s') (fun e s' => W.GoodWG c cl mean args s₁ (.error e) s') s₁ := by
  refine law_end (C := cfgOf prog w K mg mb) hf hx ⟨rfl, ?_, ?_⟩ (glob_of KX g b bi nolim) (fun _ h => h) (rep_script trivial ?_ wl) hφ hn hp hg
  · have : callerA.depth + 30 < recursionLimit := by decide
    omega
  · have : callerA.units + 10 * 30 + 200 < cLine := by decide
    omega
  · unfold sizeLine; omega
end Mine

open PySem PySem.W PyProof.Rows
namespace Mine
set_option maxRecDepth 100000
set_option maxHeartbeats 8000000
open_top hd for PySem.Challenge.rw_pd_augur_2_06
end Mine

set_option autoImplicit false
set_option maxRecDepth 100000
open PySem PyProof.Rows
namespace Mine
set_option linter.unusedVariables false
abbrev P : Program := PySem.Challenge.pw_pd_augur_2_06
def d__law_names : D := (D.tup [(D.str "S"), (D.str "A"), (D.str "B"), (D.str "a"), (D.str "b"), (D.str "c")])
structure Laid (C : Cfg) : Prop where
  f_heads_of : HasFn C "heads_of" ["g"] (dBody P 1) (dNames P 1)
  f_merged : HasFn C "merged" ["a", "b"] (dBody P 2) (dNames P 2)
  f_heads_built_from : HasFn C "heads_built_from" ["g", "given"] (dBody P 3) (dNames P 3)
  f_nullable_heads : HasFn C "nullable_heads" ["g"] (dBody P 4) (dNames P 4)
  f_first_of_string : HasFn C "first_of_string" ["symbols", "firsts", "nullables"] (dBody P 5) (dNames P 5)
  f_first_sets : HasFn C "first_sets" ["g"] (dBody P 6) (dNames P 6)
  f__law_cell : HasFn C "_law_cell" ["script", "i"] (dBody P 9) (dNames P 9)
  f__law_grammar : HasFn C "_law_grammar" ["script"] (dBody P 10) (dNames P 10)
  f__law_nullable : HasFn C "_law_nullable" ["g", "heads"] (dBody P 11) (dNames P 11)
  f__law_corners : HasFn C "_law_corners" ["body", "nulls"] (dBody P 12) (dNames P 12)
  f__law_begins : HasFn C "_law_begins" ["starts", "edges", "heads"] (dBody P 13) (dNames P 13)
  f_law : HasFn C "law" ["script"] (dBody P 14) (dNames P 14)
  c__law_names : GC C "_law_names" d__law_names
  b_all : C.mg "all" = none
  b_len : C.mg "len" = none
  b_range : C.mg "range" = none
  b_sorted : C.mg "sorted" = none
def B_heads_of_1 : List Slot → Option Out :=
  (seqG (ifG (cmpB (notO inD) (bin idxD (nameF 2) (fun _ => some (D.int 0))) (nameF 1)) (seqG (appG 1 0 (bin idxD (nameF 2) (fun _ => some (D.int 0))) (childM (nameM 2)))
  (fun ρ => some (Out.next ρ))) (fun ρ => some (Out.next ρ)))
  (fun ρ => some (Out.next ρ)))
def G_heads_of : List Slot → Option Out :=
  (seqG (asgG 1 1 (listF (fun _ => some [])) (fun ρ => if (fun _ => true) ρ then Mk.own 1 else Mk.fu))
  (seqG (forG false (nameF 0) (nameM 0) (putN 2) B_heads_of_1)
  (seqG (retG true (nameF 1) (nameM 1))
  (fun ρ => some (Out.next ρ)))))
def φ_heads_of : List D → Option D := fnF 3 1 G_heads_of
def B_merged_1 : List Slot → Option Out :=
  (seqG (ifG (cmpB (notO inD) (nameF 3) (nameF 2)) (seqG (appG 2 0 (nameF 3) (nameM 3))
  (fun ρ => some (Out.next ρ))) (fun ρ => some (Out.next ρ)))
  (fun ρ => some (Out.next ρ)))
def G_merged : List Slot → Option Out :=
  (seqG (asgG 2 1 (listF (fun _ => some [])) (fun ρ => if (fun _ => true) ρ then Mk.own 1 else Mk.fu))
  (seqG (forG false (bin addD (nameF 0) (nameF 1)) (catM (nameM 0) (nameM 1)) (putN 3) B_merged_1)
  (seqG (retG true (un sortD (nameF 2)) (fun _ => Mk.own 1))
  (fun ρ => some (Out.next ρ)))))
def φ_merged : List D → Option D := fnF 4 2 G_merged
def K_heads_built_from_1 : EEnv → Option D :=
  (compF 5 1 false (bin idxD (nameF 4) (fun _ => some (D.int 1))) (childM (nameM 4)) (setN 5) (fun _ => some true) (boolF (orB (truthB (boolF (cmpB inD (nameF 5) (nameF 1)))) (truthB (boolF (cmpB inD (nameF 5) (nameF 2)))))) (fun _ => Mk.fr))
def B_heads_built_from_1 : List Slot → Option Out :=
  (seqG (ifG (andB (cmpB (notO inD) (bin idxD (nameF 4) (fun _ => some (D.int 0))) (nameF 2)) (andB (truthB (un allD K_heads_built_from_1)) (fun _ => some true))) (seqG (appG 2 0 (bin idxD (nameF 4) (fun _ => some (D.int 0))) (childM (nameM 4)))
  (seqG (asgG 3 0 (fun _ => some (D.bool true)) (fun _ => Mk.fr))
  (fun ρ => some (Out.next ρ)))) (fun ρ => some (Out.next ρ)))
  (fun ρ => some (Out.next ρ)))
def B_heads_built_from_2 : List Slot → Option Out :=
  (seqG (asgG 3 0 (fun _ => some (D.bool false)) (fun _ => Mk.fr))
  (seqG (forG false (nameF 0) (nameM 0) (putN 4) B_heads_built_from_1)
  (fun ρ => some (Out.next ρ))))
def G_heads_built_from : List Slot → Option Out :=
  (seqG (asgG 2 1 (listF (fun _ => some [])) (fun ρ => if (fun _ => true) ρ then Mk.own 1 else Mk.fu))
  (seqG (asgG 3 0 (fun _ => some (D.bool true)) (fun _ => Mk.fr))
  (seqG (whileL (truthB (nameF 3)) B_heads_built_from_2 1000)
  (seqG (retG true (un sortD (nameF 2)) (fun _ => Mk.own 1))
  (fun ρ => some (Out.next ρ))))))
def φ_heads_built_from : List D → Option D := fnF 5 2 G_heads_built_from
def G_nullable_heads : List Slot → Option Out :=
  (seqG (retG false (callF φ_heads_built_from (consF (nameF 0) (consF (listF (fun _ => some [])) (fun _ => some [])))) (callM (fun ρ => ((nameM 0) ρ).clean && (fun ρ => ((fun ρ => if (fun _ => true) ρ then Mk.own 1 else Mk.fu) ρ).clean && (fun _ => true) ρ) ρ) true))
  (fun ρ => some (Out.next ρ)))
def φ_nullable_heads : List D → Option D := fnF 1 1 G_nullable_heads
def B_first_of_string_1 : List Slot → Option Out :=
  (seqG (ifG (cmpB (notO inD) (nameF 4) (nameF 1)) (seqG (retG false (tupF (consF (callF φ_merged (consF (nameF 3) (consF (listF (consF (nameF 4) (fun _ => some []))) (fun _ => some [])))) (consF (fun _ => some (D.bool false)) (fun _ => some [])))) (fun ρ => if (fun ρ => ((callM (fun ρ => ((nameM 3) ρ).clean && (fun ρ => ((fun ρ => if (fun ρ => ((nameM 4) ρ).clean && (fun _ => true) ρ) ρ then Mk.own 1 else Mk.fu) ρ).clean && (fun _ => true) ρ) ρ) true) ρ).clean && (fun ρ => ((fun _ => Mk.fr) ρ).clean && (fun _ => true) ρ) ρ) ρ then Mk.fr else Mk.unk))
  (fun ρ => some (Out.next ρ))) (fun ρ => some (Out.next ρ)))
  (seqG (asgG 3 0 (callF φ_merged (consF (nameF 3) (consF (bin idxD (nameF 1) (nameF 4)) (fun _ => some [])))) (callM (fun ρ => ((nameM 3) ρ).clean && (fun ρ => ((childM (nameM 1)) ρ).clean && (fun _ => true) ρ) ρ) true))
  (seqG (ifG (cmpB (notO inD) (nameF 4) (nameF 2)) (seqG (retG false (tupF (consF (nameF 3) (consF (fun _ => some (D.bool false)) (fun _ => some [])))) (fun ρ => if (fun ρ => ((nameM 3) ρ).clean && (fun ρ => ((fun _ => Mk.fr) ρ).clean && (fun _ => true) ρ) ρ) ρ then Mk.fr else Mk.unk))
  (fun ρ => some (Out.next ρ))) (fun ρ => some (Out.next ρ)))
  (fun ρ => some (Out.next ρ)))))
def G_first_of_string : List Slot → Option Out :=
  (seqG (asgG 3 0 (listF (fun _ => some [])) (fun ρ => if (fun _ => true) ρ then Mk.own 1 else Mk.fu))
  (seqG (forG false (nameF 0) (nameM 0) (putN 4) B_first_of_string_1)
  (seqG (retG false (tupF (consF (nameF 3) (consF (fun _ => some (D.bool true)) (fun _ => some [])))) (fun ρ => if (fun ρ => ((nameM 3) ρ).clean && (fun ρ => ((fun _ => Mk.fr) ρ).clean && (fun _ => true) ρ) ρ) ρ then Mk.fr else Mk.unk))
  (fun ρ => some (Out.next ρ)))))
def φ_first_of_string : List D → Option D := fnF 5 3 G_first_of_string
def B_first_sets_1 : List Slot → Option Out :=
  (seqG (setG 2 0 (listF (fun _ => some [])) (fun ρ => if (fun _ => true) ρ then Mk.own 1 else Mk.fu) (nameF 3))
  (fun ρ => some (Out.next ρ)))
def B_first_sets_2 : List Slot → Option Out :=
  (seqG (asgG 6 0 (callF φ_merged (consF (bin idxD (nameF 2) (bin idxD (nameF 5) (fun _ => some (D.int 0)))) (consF (bin idxD (callF φ_first_of_string (consF (bin idxD (nameF 5) (fun _ => some (D.int 1))) (consF (nameF 2) (consF (nameF 1) (fun _ => some []))))) (fun _ => some (D.int 0))) (fun _ => some [])))) (callM (fun ρ => ((childM (nameM 2)) ρ).clean && (fun ρ => ((childM (callM (fun ρ => ((childM (nameM 5)) ρ).clean && (fun ρ => ((nameM 2) ρ).clean && (fun ρ => ((nameM 1) ρ).clean && (fun _ => true) ρ) ρ) ρ) false)) ρ).clean && (fun _ => true) ρ) ρ) true))
  (seqG (ifG (cmpB (notO (eqD 40)) (nameF 6) (bin idxD (nameF 2) (bin idxD (nameF 5) (fun _ => some (D.int 0))))) (seqG (setG 2 0 (nameF 6) (nameM 6) (bin idxD (nameF 5) (fun _ => some (D.int 0))))
  (seqG (asgG 4 0 (fun _ => some (D.bool true)) (fun _ => Mk.fr))
  (fun ρ => some (Out.next ρ)))) (fun ρ => some (Out.next ρ)))
  (fun ρ => some (Out.next ρ))))
def B_first_sets_3 : List Slot → Option Out :=
  (seqG (asgG 4 0 (fun _ => some (D.bool false)) (fun _ => Mk.fr))
  (seqG (forG false (nameF 0) (nameM 0) (putN 5) B_first_sets_2)
  (fun ρ => some (Out.next ρ))))
def G_first_sets : List Slot → Option Out :=
  (seqG (asgG 1 0 (callF φ_nullable_heads (consF (nameF 0) (fun _ => some []))) (callM (fun ρ => ((nameM 0) ρ).clean && (fun _ => true) ρ) false))
  (seqG (asgG 2 1 (fun _ => some (D.dict [])) (fun _ => Mk.own 1))
  (seqG (forG false (callF φ_heads_of (consF (nameF 0) (fun _ => some []))) (callM (fun ρ => ((nameM 0) ρ).clean && (fun _ => true) ρ) true) (putN 3) B_first_sets_1)
  (seqG (asgG 4 0 (fun _ => some (D.bool true)) (fun _ => Mk.fr))
  (seqG (whileL (truthB (nameF 4)) B_first_sets_3 1000)
  (seqG (retG false (nameF 2) (nameM 2))
  (fun ρ => some (Out.next ρ))))))))
def φ_first_sets : List D → Option D := fnF 7 1 G_first_sets
def G__law_cell : List Slot → Option Out :=
  (seqG (ifG (cmpB ltD (nameF 1) (un lenD (nameF 0))) (seqG (retG false (bin idxD (nameF 0) (nameF 1)) (childM (nameM 0)))
  (fun ρ => some (Out.next ρ))) (fun ρ => some (Out.next ρ)))
  (seqG (retG false (fun _ => some (D.int 0)) (fun _ => Mk.fr))
  (fun ρ => some (Out.next ρ))))
def φ__law_cell : List D → Option D := fnF 2 2 G__law_cell
def K__law_grammar_1 : EEnv → Option D :=
  (compF 6 1 false (un rangeD (bin divD (nameF 4) (fun _ => some (D.int 3)))) (fun _ => Mk.fr) (setN 6) (fun _ => some true) (bin idxD (fun _ => some d__law_names) (bin modD (callF φ__law_cell (consF (nameF 0) (consF (bin addD (bin addD (nameF 3) (fun _ => some (D.int 1))) (nameF 6)) (fun _ => some [])))) (fun _ => some (D.int 6)))) (childM (fun _ => Mk.fr)))
def B__law_grammar_1 : List Slot → Option Out :=
  (seqG (asgG 3 0 (bin addD (fun _ => some (D.int 1)) (bin mulD (fun _ => some (D.int 4)) (nameF 2))) (catM (fun _ => Mk.fr) (copyM (fun _ => Mk.fr))))
  (seqG (asgG 4 0 (bin modD (callF φ__law_cell (consF (nameF 0) (consF (nameF 3) (fun _ => some [])))) (fun _ => some (D.int 12))) (fun _ => Mk.fr))
  (seqG (asgG 5 0 K__law_grammar_1 (fun _ => Mk.own 1))
  (seqG (appG 1 0 (tupF (consF (bin idxD (fun _ => some d__law_names) (bin modD (nameF 4) (fun _ => some (D.int 3)))) (consF (nameF 5) (fun _ => some [])))) (fun ρ => if (fun ρ => ((childM (fun _ => Mk.fr)) ρ).clean && (fun ρ => ((nameM 5) ρ).clean && (fun _ => true) ρ) ρ) ρ then Mk.fr else Mk.unk))
  (fun ρ => some (Out.next ρ))))))
def G__law_grammar : List Slot → Option Out :=
  (seqG (asgG 1 1 (listF (fun _ => some [])) (fun ρ => if (fun _ => true) ρ then Mk.own 1 else Mk.fu))
  (seqG (forG false (un rangeD (bin addD (fun _ => some (D.int 1)) (bin modD (callF φ__law_cell (consF (nameF 0) (consF (fun _ => some (D.int 0)) (fun _ => some [])))) (fun _ => some (D.int 5))))) (fun _ => Mk.fr) (putN 2) B__law_grammar_1)
  (seqG (retG false (nameF 1) (nameM 1))
  (fun ρ => some (Out.next ρ)))))
def φ__law_grammar : List D → Option D := fnF 6 1 G__law_grammar
def K__law_nullable_1 : EEnv → Option D :=
  (compF 6 1 false (nameF 5) (nameM 5) (setN 6) (fun _ => some true) (boolF (cmpB inD (nameF 6) (nameF 2))) (fun _ => Mk.fr))
def K__law_nullable_2 : EEnv → Option D :=
  (compF 4 2 true (nameF 0) (nameM 0) (setT [4, 5]) (truthB (un allD K__law_nullable_1)) (nameF 4) (nameM 4))
def B__law_nullable_1 : List Slot → Option Out :=
  (seqG (asgG 2 0 K__law_nullable_2 (fun _ => Mk.own 1))
  (fun ρ => some (Out.next ρ)))
def K__law_nullable_3 : EEnv → Option D :=
  (compF 4 1 false (nameF 1) (nameM 1) (setN 4) (cmpB inD (nameF 4) (nameF 2)) (nameF 4) (nameM 4))
def G__law_nullable : List Slot → Option Out :=
  (seqG (asgG 2 0 (listF (fun _ => some [])) (fun ρ => if (fun _ => true) ρ then Mk.own 1 else Mk.fu))
  (seqG (forG false (un rangeD (un lenD (nameF 1))) (fun _ => Mk.fr) (putN 3) B__law_nullable_1)
  (seqG (retG false (un sortD K__law_nullable_3) (fun _ => Mk.own 1))
  (fun ρ => some (Out.next ρ)))))
def φ__law_nullable : List D → Option D := fnF 4 2 G__law_nullable
def B__law_corners_1 : List Slot → Option Out :=
  (seqG (appG 2 0 (nameF 3) (nameM 3))
  (seqG (ifG (cmpB (notO inD) (nameF 3) (nameF 1)) (seqG (retG true (nameF 2) (nameM 2))
  (fun ρ => some (Out.next ρ))) (fun ρ => some (Out.next ρ)))
  (fun ρ => some (Out.next ρ))))
def G__law_corners : List Slot → Option Out :=
  (seqG (asgG 2 1 (listF (fun _ => some [])) (fun ρ => if (fun _ => true) ρ then Mk.own 1 else Mk.fu))
  (seqG (forG false (nameF 0) (nameM 0) (putN 3) B__law_corners_1)
  (seqG (retG true (nameF 2) (nameM 2))
  (fun ρ => some (Out.next ρ)))))
def φ__law_corners : List D → Option D := fnF 4 2 G__law_corners
def B__law_begins_1 : List Slot → Option Out :=
  (seqG (ifG (andB (cmpB inD (nameF 5) (nameF 3)) (andB (cmpB (notO inD) (nameF 6) (nameF 3)) (fun _ => some true))) (seqG (appG 3 0 (nameF 6) (nameM 6))
  (fun ρ => some (Out.next ρ))) (fun ρ => some (Out.next ρ)))
  (fun ρ => some (Out.next ρ)))
def B__law_begins_2 : List Slot → Option Out :=
  (seqG (forG true (nameF 1) (nameM 1) (putT [5, 6]) B__law_begins_1)
  (fun ρ => some (Out.next ρ)))
def K__law_begins_1 : EEnv → Option D :=
  (compF 7 1 false (nameF 3) (nameM 3) (setN 7) (cmpB (notO inD) (nameF 7) (nameF 2)) (nameF 7) (nameM 7))
def G__law_begins : List Slot → Option Out :=
  (seqG (asgG 3 1 (sliceF (nameF 0) (fun _ => some none) (fun _ => some none)) (copyM (nameM 0)))
  (seqG (forG false (un rangeD (bin addD (un lenD (nameF 2)) (fun _ => some (D.int 1)))) (fun _ => Mk.fr) (putN 4) B__law_begins_2)
  (seqG (retG true (un sortD K__law_begins_1) (fun _ => Mk.own 1))
  (fun ρ => some (Out.next ρ)))))
def φ__law_begins : List D → Option D := fnF 7 3 G__law_begins
def K_law_1 : EEnv → Option D :=
  (compF 14 2 true (nameF 1) (nameM 1) (setT [14, 15]) (fun _ => some true) (nameF 14) (nameM 14))
def K_law_2 : EEnv → Option D :=
  (compF 14 1 false (un rangeD (un lenD (nameF 5))) (fun _ => Mk.fr) (setN 14) (cmpB (notO inD) (bin idxD (nameF 5) (nameF 14)) (sliceF (nameF 5) (fun _ => some none) (natF (nameF 14)))) (bin idxD (nameF 5) (nameF 14)) (childM (nameM 5)))
def B_law_1 : List Slot → Option Out :=
  (seqG (appG 8 0 (tupF (consF (nameF 3) (consF (nameF 9) (fun _ => some [])))) (fun ρ => if (fun ρ => ((nameM 3) ρ).clean && (fun ρ => ((nameM 9) ρ).clean && (fun _ => true) ρ) ρ) ρ then Mk.fr else Mk.unk))
  (fun ρ => some (Out.next ρ)))
def B_law_2 : List Slot → Option Out :=
  (seqG (forG false (callF φ__law_corners (consF (nameF 4) (consF (nameF 7) (fun _ => some [])))) (callM (fun ρ => ((nameM 4) ρ).clean && (fun ρ => ((nameM 7) ρ).clean && (fun _ => true) ρ) ρ) true) (putN 9) B_law_1)
  (fun ρ => some (Out.next ρ)))
def B_law_3 : List Slot → Option Out :=
  (seqG (setG 10 0 (callF φ__law_begins (consF (listF (consF (nameF 11) (fun _ => some []))) (consF (nameF 8) (consF (nameF 6) (fun _ => some []))))) (callM (fun ρ => ((fun ρ => if (fun ρ => ((nameM 11) ρ).clean && (fun _ => true) ρ) ρ then Mk.own 1 else Mk.fu) ρ).clean && (fun ρ => ((nameM 8) ρ).clean && (fun ρ => ((nameM 6) ρ).clean && (fun _ => true) ρ) ρ) ρ) true) (nameF 11))
  (fun ρ => some (Out.next ρ)))
def K_law_3 : EEnv → Option D :=
  (compF 14 1 false (nameF 4) (nameM 4) (setN 14) (fun _ => some true) (boolF (cmpB inD (nameF 14) (nameF 7))) (fun _ => Mk.fr))
def B_law_4 : List Slot → Option Out :=
  (seqG (asgG 12 0 (callF φ__law_begins (consF (callF φ__law_corners (consF (nameF 4) (consF (nameF 7) (fun _ => some [])))) (consF (nameF 8) (consF (nameF 6) (fun _ => some []))))) (callM (fun ρ => ((callM (fun ρ => ((nameM 4) ρ).clean && (fun ρ => ((nameM 7) ρ).clean && (fun _ => true) ρ) ρ) true) ρ).clean && (fun ρ => ((nameM 8) ρ).clean && (fun ρ => ((nameM 6) ρ).clean && (fun _ => true) ρ) ρ) ρ) true))
  (seqG (asgG 13 0 (un allD K_law_3) (fun _ => Mk.fr))
  (seqG (ifG (cmpB (notO (eqD 40)) (callF φ_first_of_string (consF (nameF 4) (consF (nameF 10) (consF (nameF 7) (fun _ => some []))))) (tupF (consF (nameF 12) (consF (nameF 13) (fun _ => some []))))) (seqG (retG false (fun _ => some (D.bool false)) (fun _ => Mk.fr))
  (fun ρ => some (Out.next ρ))) (fun ρ => some (Out.next ρ)))
  (fun ρ => some (Out.next ρ)))))
def G_law : List Slot → Option Out :=
  (seqG (asgG 1 0 (callF φ__law_grammar (consF (nameF 0) (fun _ => some []))) (callM (fun ρ => ((nameM 0) ρ).clean && (fun _ => true) ρ) false))
  (seqG (asgG 2 0 (callF φ__law_grammar (consF (nameF 0) (fun _ => some []))) (callM (fun ρ => ((nameM 0) ρ).clean && (fun _ => true) ρ) false))
  (seqG (asgG 5 0 K_law_1 (fun _ => Mk.own 1))
  (seqG (asgG 6 0 K_law_2 (fun _ => Mk.own 1))
  (seqG (asgG 7 0 (callF φ__law_nullable (consF (nameF 1) (consF (nameF 6) (fun _ => some [])))) (callM (fun ρ => ((nameM 1) ρ).clean && (fun ρ => ((nameM 6) ρ).clean && (fun _ => true) ρ) ρ) false))
  (seqG (asgG 8 1 (listF (fun _ => some [])) (fun ρ => if (fun _ => true) ρ then Mk.own 1 else Mk.fu))
  (seqG (forG true (nameF 1) (nameM 1) (putT [3, 4]) B_law_2)
  (seqG (asgG 10 1 (fun _ => some (D.dict [])) (fun _ => Mk.own 1))
  (seqG (forG false (nameF 6) (nameM 6) (putN 11) B_law_3)
  (seqG (ifG (cmpB (notO (eqD 40)) (callF φ_heads_of (consF (nameF 1) (fun _ => some []))) (nameF 6)) (seqG (retG false (fun _ => some (D.bool false)) (fun _ => Mk.fr))
  (fun ρ => some (Out.next ρ))) (fun ρ => some (Out.next ρ)))
  (seqG (ifG (cmpB (notO (eqD 40)) (callF φ_nullable_heads (consF (nameF 1) (fun _ => some []))) (nameF 7)) (seqG (retG false (fun _ => some (D.bool false)) (fun _ => Mk.fr))
  (fun ρ => some (Out.next ρ))) (fun ρ => some (Out.next ρ)))
  (seqG (ifG (cmpB (notO eqE) (callF φ_first_sets (consF (nameF 1) (fun _ => some []))) (nameF 10)) (seqG (retG false (fun _ => some (D.bool false)) (fun _ => Mk.fr))
  (fun ρ => some (Out.next ρ))) (fun ρ => some (Out.next ρ)))
  (seqG (forG true (nameF 2) (nameM 2) (putT [3, 4]) B_law_4)
  (seqG (ifG (cmpB (notO (eqD 40)) (nameF 1) (callF φ__law_grammar (consF (nameF 0) (fun _ => some [])))) (seqG (retG false (fun _ => some (D.bool false)) (fun _ => Mk.fr))
  (fun ρ => some (Out.next ρ))) (fun ρ => some (Out.next ρ)))
  (seqG (ifG (cmpB (notO (eqD 40)) (nameF 2) (nameF 1)) (seqG (retG false (fun _ => some (D.bool false)) (fun _ => Mk.fr))
  (fun ρ => some (Out.next ρ))) (fun ρ => some (Out.next ρ)))
  (seqG (retG false (fun _ => some (D.bool true)) (fun _ => Mk.fr))
  (fun ρ => some (Out.next ρ))))))))))))))))))
def φ_law : List D → Option D := fnF 14 1 G_law
theorem hf_heads_of {C : Cfg} (h : Laid C) : FnG C "heads_of" 1 true φ_heads_of :=
  fn_G (l := 0) (G := G_heads_of) h.f_heads_of (by decide +kernel) (show SOK C _ 0 true (dBody P 1) _ from
  (s_cons (s_assign (i := 1) (k := 1) (by decide +kernel) (list_ok args_nil_ok (by decide)) (fun _ _ => rfl))
  (s_cons (s_for (tt := false) (name_ok (i := 0) (by decide +kernel) (by decide +kernel)) (tgt_name (i := 2) (by decide +kernel)) (fun _ _ => rfl) (s_cons (s_if (cmp_b notIn_cmp (idx_ok (name_ok (i := 2) (by decide +kernel) (by decide +kernel)) (int_ok 0) (fun _ _ => rfl)) (name_ok (i := 1) (by decide +kernel) (by decide +kernel)) rfl) (s_cons (s_append (i := 1) (k := 0) (by decide +kernel) (by decide +kernel) (idx_ok (name_ok (i := 2) (by decide +kernel) (by decide +kernel)) (int_ok 0) (fun _ _ => rfl)) (fun _ => rfl) (fun _ => rfl) rfl (fun _ => rfl))
  s_nil) s_nil)
  s_nil) (fun _ _ => rfl))
  (s_cons (s_ret (name_ok (i := 1) (by decide +kernel) (by decide +kernel)))
  s_nil))))
theorem hf_merged {C : Cfg} (h : Laid C) : FnG C "merged" 1 true φ_merged :=
  fn_G (l := 0) (G := G_merged) h.f_merged (by decide +kernel) (show SOK C _ 0 true (dBody P 2) _ from
  (s_cons (s_assign (i := 2) (k := 1) (by decide +kernel) (list_ok args_nil_ok (by decide)) (fun _ _ => rfl))
  (s_cons (s_for (tt := false) (add_ok (name_ok (i := 0) (by decide +kernel) (by decide +kernel)) (name_ok (i := 1) (by decide +kernel) (by decide +kernel))) (tgt_name (i := 3) (by decide +kernel)) (fun _ _ => rfl) (s_cons (s_if (cmp_b notIn_cmp (name_ok (i := 3) (by decide +kernel) (by decide +kernel)) (name_ok (i := 2) (by decide +kernel) (by decide +kernel)) rfl) (s_cons (s_append (i := 2) (k := 0) (by decide +kernel) (by decide +kernel) (name_ok (i := 3) (by decide +kernel) (by decide +kernel)) (fun _ => rfl) (fun _ => rfl) rfl (fun _ => rfl))
  s_nil) s_nil)
  s_nil) (fun _ _ => rfl))
  (s_cons (s_ret (sorted_ok ⟨(by decide +kernel), h.b_sorted, (by decide +kernel), (by decide +kernel)⟩ (name_ok (i := 2) (by decide +kernel) (by decide +kernel)) (fun _ => rfl)))
  s_nil))))
theorem hf_heads_built_from {C : Cfg} (h : Laid C) : FnG C "heads_built_from" 1 true φ_heads_built_from :=
  fn_G (l := 0) (G := G_heads_built_from) h.f_heads_built_from (by decide +kernel) (show SOK C _ 0 true (dBody P 3) _ from
  (s_cons (s_assign (i := 2) (k := 1) (by decide +kernel) (list_ok args_nil_ok (by decide)) (fun _ _ => rfl))
  (s_cons (s_assign (i := 3) (k := 0) (by decide +kernel) (bool_ok true) (fun _ _ => rfl))
  (s_cons (s_while 1000 (val_b (name_ok (i := 3) (by decide +kernel) (by decide +kernel)) (fun _ _ => rfl)) (s_cons (s_assign (i := 3) (k := 0) (by decide +kernel) (bool_ok false) (fun _ _ => rfl))
  (s_cons (s_for (tt := false) (name_ok (i := 0) (by decide +kernel) (by decide +kernel)) (tgt_name (i := 4) (by decide +kernel)) (fun _ _ => rfl) (s_cons (s_if (boolop_b (and_cons (cmp_b notIn_cmp (idx_ok (name_ok (i := 4) (by decide +kernel) (by decide +kernel)) (int_ok 0) (fun _ _ => rfl)) (name_ok (i := 2) (by decide +kernel) (by decide +kernel)) rfl) (and_cons (val_b (all_ok ⟨(by decide +kernel), h.b_all, (by decide +kernel), (by decide +kernel)⟩ (comp_ok (xs := ["s"]) (n := 5) (tt := false) (is := [5]) rfl (by decide +kernel) (idx_ok (name_ok (i := 4) (by decide +kernel) (by decide +kernel)) (int_ok 1) (fun _ _ => rfl)) (asg_name (i := 5) (by decide +kernel)) (upd_set 5) (by decide +kernel) (fun _ _ => rfl) tests_nil (or2_ok (cmp_ok in_cmp (name_ok (i := 5) (by decide +kernel) (by decide +kernel)) (name_ok (i := 1) (by decide +kernel) (by decide +kernel)) rfl) (cmp_ok in_cmp (name_ok (i := 5) (by decide +kernel) (by decide +kernel)) (name_ok (i := 2) (by decide +kernel) (by decide +kernel)) rfl)) (fun _ _ => rfl)) (fun _ => rfl)) (fun _ _ => rfl)) and_nil))) (s_cons (s_append (i := 2) (k := 0) (by decide +kernel) (by decide +kernel) (idx_ok (name_ok (i := 4) (by decide +kernel) (by decide +kernel)) (int_ok 0) (fun _ _ => rfl)) (fun _ => rfl) (fun _ => rfl) rfl (fun _ => rfl))
  (s_cons (s_assign (i := 3) (k := 0) (by decide +kernel) (bool_ok true) (fun _ _ => rfl))
  s_nil)) s_nil)
  s_nil) (fun _ _ => rfl))
  s_nil)))
  (s_cons (s_ret (sorted_ok ⟨(by decide +kernel), h.b_sorted, (by decide +kernel), (by decide +kernel)⟩ (name_ok (i := 2) (by decide +kernel) (by decide +kernel)) (fun _ => rfl)))
  s_nil)))))
theorem hf_nullable_heads {C : Cfg} (h : Laid C) : FnG C "nullable_heads" 2 false φ_nullable_heads :=
  fn_G (l := 1) (G := G_nullable_heads) h.f_nullable_heads (by decide +kernel) (show SOK C _ 1 false (dBody P 4) _ from
  (s_cons (s_ret (call_ok (hf_heads_built_from h) (by decide +kernel) (by decide +kernel) (by decide +kernel) (args_cons_ok (name_ok (i := 0) (by decide +kernel) (by decide +kernel)) (args_cons_ok (list_ok args_nil_ok (by decide)) args_nil_ok (fun _ => rfl)) (fun _ => rfl)) (fun _ => rfl)))
  s_nil))
theorem hf_first_of_string {C : Cfg} (h : Laid C) : FnG C "first_of_string" 2 false φ_first_of_string :=
  fn_G (l := 1) (G := G_first_of_string) h.f_first_of_string (by decide +kernel) (show SOK C _ 1 false (dBody P 5) _ from
  (s_cons (s_assign (i := 3) (k := 0) (by decide +kernel) (list_ok args_nil_ok (by decide)) (fun _ _ => rfl))
  (s_cons (s_for (tt := false) (name_ok (i := 0) (by decide +kernel) (by decide +kernel)) (tgt_name (i := 4) (by decide +kernel)) (fun _ _ => rfl) (s_cons (s_if (cmp_b notIn_cmp (name_ok (i := 4) (by decide +kernel) (by decide +kernel)) (name_ok (i := 1) (by decide +kernel) (by decide +kernel)) rfl) (s_cons (s_ret (tup_ok (args_cons_ok (call_ok (hf_merged h) (by decide +kernel) (by decide +kernel) (by decide +kernel) (args_cons_ok (name_ok (i := 3) (by decide +kernel) (by decide +kernel)) (args_cons_ok (list_ok (args_cons_ok (name_ok (i := 4) (by decide +kernel) (by decide +kernel)) args_nil_ok (fun _ => rfl)) (by decide)) args_nil_ok (fun _ => rfl)) (fun _ => rfl)) (fun _ => rfl)) (args_cons_ok (bool_ok false) args_nil_ok (fun _ => rfl)) (fun _ => rfl)) (by decide)))
  s_nil) s_nil)
  (s_cons (s_assign (i := 3) (k := 0) (by decide +kernel) (call_ok (hf_merged h) (by decide +kernel) (by decide +kernel) (by decide +kernel) (args_cons_ok (name_ok (i := 3) (by decide +kernel) (by decide +kernel)) (args_cons_ok (idx_ok (name_ok (i := 1) (by decide +kernel) (by decide +kernel)) (name_ok (i := 4) (by decide +kernel) (by decide +kernel)) (fun _ _ => rfl)) args_nil_ok (fun _ => rfl)) (fun _ => rfl)) (fun _ => rfl)) (fun _ _ => rfl))
  (s_cons (s_if (cmp_b notIn_cmp (name_ok (i := 4) (by decide +kernel) (by decide +kernel)) (name_ok (i := 2) (by decide +kernel) (by decide +kernel)) rfl) (s_cons (s_ret (tup_ok (args_cons_ok (name_ok (i := 3) (by decide +kernel) (by decide +kernel)) (args_cons_ok (bool_ok false) args_nil_ok (fun _ => rfl)) (fun _ => rfl)) (by decide)))
  s_nil) s_nil)
  s_nil))) (fun _ _ => rfl))
  (s_cons (s_ret (tup_ok (args_cons_ok (name_ok (i := 3) (by decide +kernel) (by decide +kernel)) (args_cons_ok (bool_ok true) args_nil_ok (fun _ => rfl)) (fun _ => rfl)) (by decide)))
  s_nil))))
theorem hf_first_sets {C : Cfg} (h : Laid C) : FnG C "first_sets" 3 false φ_first_sets :=
  fn_G (l := 2) (G := G_first_sets) h.f_first_sets (by decide +kernel) (show SOK C _ 2 false (dBody P 6) _ from
  (s_cons (s_assign (i := 1) (k := 0) (by decide +kernel) (call_ok (hf_nullable_heads h) (by decide +kernel) (by decide +kernel) (by decide +kernel) (args_cons_ok (name_ok (i := 0) (by decide +kernel) (by decide +kernel)) args_nil_ok (fun _ => rfl)) (fun _ => rfl)) (fun _ _ => rfl))
  (s_cons (s_assign (i := 2) (k := 1) (by decide +kernel) dict0_ok (fun _ _ => rfl))
  (s_cons (s_for (tt := false) (call_ok (hf_heads_of h) (by decide +kernel) (by decide +kernel) (by decide +kernel) (args_cons_ok (name_ok (i := 0) (by decide +kernel) (by decide +kernel)) args_nil_ok (fun _ => rfl)) (fun _ => rfl)) (tgt_name (i := 3) (by decide +kernel)) (fun _ _ => rfl) (s_cons (s_setitem (i := 2) (k := 0) (by decide +kernel) (by decide +kernel) (list_ok args_nil_ok (by decide)) (name_ok (i := 3) (by decide +kernel) (by decide +kernel)) (fun _ => rfl))
  s_nil) (fun _ _ => rfl))
  (s_cons (s_assign (i := 4) (k := 0) (by decide +kernel) (bool_ok true) (fun _ _ => rfl))
  (s_cons (s_while 1000 (val_b (name_ok (i := 4) (by decide +kernel) (by decide +kernel)) (fun _ _ => rfl)) (s_cons (s_assign (i := 4) (k := 0) (by decide +kernel) (bool_ok false) (fun _ _ => rfl))
  (s_cons (s_for (tt := false) (name_ok (i := 0) (by decide +kernel) (by decide +kernel)) (tgt_name (i := 5) (by decide +kernel)) (fun _ _ => rfl) (s_cons (s_assign (i := 6) (k := 0) (by decide +kernel) (call_ok (hf_merged h) (by decide +kernel) (by decide +kernel) (by decide +kernel) (args_cons_ok (idx_ok (name_ok (i := 2) (by decide +kernel) (by decide +kernel)) (idx_ok (name_ok (i := 5) (by decide +kernel) (by decide +kernel)) (int_ok 0) (fun _ _ => rfl)) (fun _ _ => rfl)) (args_cons_ok (idx_ok (call_ok (hf_first_of_string h) (by decide +kernel) (by decide +kernel) (by decide +kernel) (args_cons_ok (idx_ok (name_ok (i := 5) (by decide +kernel) (by decide +kernel)) (int_ok 1) (fun _ _ => rfl)) (args_cons_ok (name_ok (i := 2) (by decide +kernel) (by decide +kernel)) (args_cons_ok (name_ok (i := 1) (by decide +kernel) (by decide +kernel)) args_nil_ok (fun _ => rfl)) (fun _ => rfl)) (fun _ => rfl)) (fun _ => rfl)) (int_ok 0) (fun _ _ => rfl)) args_nil_ok (fun _ => rfl)) (fun _ => rfl)) (fun _ => rfl)) (fun _ _ => rfl))
  (s_cons (s_if (cmp_b ne_cmp (name_ok (i := 6) (by decide +kernel) (by decide +kernel)) (idx_ok (name_ok (i := 2) (by decide +kernel) (by decide +kernel)) (idx_ok (name_ok (i := 5) (by decide +kernel) (by decide +kernel)) (int_ok 0) (fun _ _ => rfl)) (fun _ _ => rfl)) rfl) (s_cons (s_setitem (i := 2) (k := 0) (by decide +kernel) (by decide +kernel) (name_ok (i := 6) (by decide +kernel) (by decide +kernel)) (idx_ok (name_ok (i := 5) (by decide +kernel) (by decide +kernel)) (int_ok 0) (fun _ _ => rfl)) (fun _ => rfl))
  (s_cons (s_assign (i := 4) (k := 0) (by decide +kernel) (bool_ok true) (fun _ _ => rfl))
  s_nil)) s_nil)
  s_nil)) (fun _ _ => rfl))
  s_nil)))
  (s_cons (s_ret (name_ok (i := 2) (by decide +kernel) (by decide +kernel)))
  s_nil)))))))
theorem hf__law_cell {C : Cfg} (h : Laid C) : FnG C "_law_cell" 1 false φ__law_cell :=
  fn_G (l := 0) (G := G__law_cell) h.f__law_cell (by decide +kernel) (show SOK C _ 0 false (dBody P 9) _ from
  (s_cons (s_if (cmp_b lt_cmp (name_ok (i := 1) (by decide +kernel) (by decide +kernel)) (len_ok ⟨(by decide +kernel), h.b_len, (by decide +kernel), (by decide +kernel)⟩ (name_ok (i := 0) (by decide +kernel) (by decide +kernel)) (fun _ => rfl)) rfl) (s_cons (s_ret (idx_ok (name_ok (i := 0) (by decide +kernel) (by decide +kernel)) (name_ok (i := 1) (by decide +kernel) (by decide +kernel)) (fun _ _ => rfl)))
  s_nil) s_nil)
  (s_cons (s_ret (int_ok 0))
  s_nil)))
theorem hf__law_grammar {C : Cfg} (h : Laid C) : FnG C "_law_grammar" 2 false φ__law_grammar :=
  fn_G (l := 1) (G := G__law_grammar) h.f__law_grammar (by decide +kernel) (show SOK C _ 1 false (dBody P 10) _ from
  (s_cons (s_assign (i := 1) (k := 1) (by decide +kernel) (list_ok args_nil_ok (by decide)) (fun _ _ => rfl))
  (s_cons (s_for (tt := false) (range_ok ⟨(by decide +kernel), h.b_range, (by decide +kernel), (by decide +kernel)⟩ (add_ok (int_ok 1) (mod_ok (call_ok (hf__law_cell h) (by decide +kernel) (by decide +kernel) (by decide +kernel) (args_cons_ok (name_ok (i := 0) (by decide +kernel) (by decide +kernel)) (args_cons_ok (int_ok 0) args_nil_ok (fun _ => rfl)) (fun _ => rfl)) (fun _ => rfl)) (int_ok 5))) (fun _ => rfl)) (tgt_name (i := 2) (by decide +kernel)) (fun _ _ => rfl) (s_cons (s_assign (i := 3) (k := 0) (by decide +kernel) (add_ok (int_ok 1) (mul_ok (int_ok 4) (name_ok (i := 2) (by decide +kernel) (by decide +kernel)))) (fun _ _ => rfl))
  (s_cons (s_assign (i := 4) (k := 0) (by decide +kernel) (mod_ok (call_ok (hf__law_cell h) (by decide +kernel) (by decide +kernel) (by decide +kernel) (args_cons_ok (name_ok (i := 0) (by decide +kernel) (by decide +kernel)) (args_cons_ok (name_ok (i := 3) (by decide +kernel) (by decide +kernel)) args_nil_ok (fun _ => rfl)) (fun _ => rfl)) (fun _ => rfl)) (int_ok 12)) (fun _ _ => rfl))
  (s_cons (s_assign_comp (i := 5) (k := 0) (by decide +kernel) (xs := ["j"]) (n := 6) (tt := false) (is := [6]) rfl (by decide +kernel) (range_ok ⟨(by decide +kernel), h.b_range, (by decide +kernel), (by decide +kernel)⟩ (div_ok (name_ok (i := 4) (by decide +kernel) (by decide +kernel)) (int_ok 3)) (fun _ => rfl)) (asg_name (i := 6) (by decide +kernel)) (upd_set 6) (by decide +kernel) (fun _ _ => rfl) tests_nil (idx_ok (gconst_ok h.c__law_names (by decide +kernel) (by decide +kernel)) (mod_ok (call_ok (hf__law_cell h) (by decide +kernel) (by decide +kernel) (by decide +kernel) (args_cons_ok (name_ok (i := 0) (by decide +kernel) (by decide +kernel)) (args_cons_ok (add_ok (add_ok (name_ok (i := 3) (by decide +kernel) (by decide +kernel)) (int_ok 1)) (name_ok (i := 6) (by decide +kernel) (by decide +kernel))) args_nil_ok (fun _ => rfl)) (fun _ => rfl)) (fun _ => rfl)) (int_ok 6)) (fun _ _ => rfl)) (fun _ _ => rfl) (swap_yes (by decide +kernel)) (by decide))
  (s_cons (s_append (i := 1) (k := 0) (by decide +kernel) (by decide +kernel) (tup_ok (args_cons_ok (idx_ok (gconst_ok h.c__law_names (by decide +kernel) (by decide +kernel)) (mod_ok (name_ok (i := 4) (by decide +kernel) (by decide +kernel)) (int_ok 3)) (fun _ _ => rfl)) (args_cons_ok (name_ok (i := 5) (by decide +kernel) (by decide +kernel)) args_nil_ok (fun _ => rfl)) (fun _ => rfl)) (by decide)) (fun _ => rfl) (fun _ => rfl) rfl (fun _ => rfl))
  s_nil)))) (fun _ _ => rfl))
  (s_cons (s_ret (name_ok (i := 1) (by decide +kernel) (by decide +kernel)))
  s_nil))))
theorem hf__law_nullable {C : Cfg} (h : Laid C) : FnG C "_law_nullable" 1 false φ__law_nullable :=
  fn_G (l := 0) (G := G__law_nullable) h.f__law_nullable (by decide +kernel) (show SOK C _ 0 false (dBody P 11) _ from
  (s_cons (s_assign (i := 2) (k := 0) (by decide +kernel) (list_ok args_nil_ok (by decide)) (fun _ _ => rfl))
  (s_cons (s_for (tt := false) (range_ok ⟨(by decide +kernel), h.b_range, (by decide +kernel), (by decide +kernel)⟩ (len_ok ⟨(by decide +kernel), h.b_len, (by decide +kernel), (by decide +kernel)⟩ (name_ok (i := 1) (by decide +kernel) (by decide +kernel)) (fun _ => rfl)) (fun _ => rfl)) (tgt_name (i := 3) (by decide +kernel)) (fun _ _ => rfl) (s_cons (s_assign (i := 2) (k := 0) (by decide +kernel) (comp_ok (xs := ["head", "body"]) (n := 4) (tt := true) (is := [4, 5]) rfl (by decide +kernel) (name_ok (i := 0) (by decide +kernel) (by decide +kernel)) (asg_tuple (is := [4, 5]) (.cons (by decide +kernel) (.cons (by decide +kernel) .nil))) (upd_tup (by decide +kernel)) (by decide +kernel) (fun _ hb => hb) (tests_one (val_b (all_ok ⟨(by decide +kernel), h.b_all, (by decide +kernel), (by decide +kernel)⟩ (comp_ok (xs := ["s"]) (n := 6) (tt := false) (is := [6]) rfl (by decide +kernel) (name_ok (i := 5) (by decide +kernel) (by decide +kernel)) (asg_name (i := 6) (by decide +kernel)) (upd_set 6) (by decide +kernel) (fun _ _ => rfl) tests_nil (cmp_ok in_cmp (name_ok (i := 6) (by decide +kernel) (by decide +kernel)) (name_ok (i := 2) (by decide +kernel) (by decide +kernel)) rfl) (fun _ _ => rfl)) (fun _ => rfl)) (fun _ _ => rfl))) (name_ok (i := 4) (by decide +kernel) (by decide +kernel)) (fun _ _ => rfl)) (swap_no (by decide +kernel)))
  s_nil) (fun _ _ => rfl))
  (s_cons (s_ret (sorted_ok ⟨(by decide +kernel), h.b_sorted, (by decide +kernel), (by decide +kernel)⟩ (comp_ok (xs := ["h"]) (n := 4) (tt := false) (is := [4]) rfl (by decide +kernel) (name_ok (i := 1) (by decide +kernel) (by decide +kernel)) (asg_name (i := 4) (by decide +kernel)) (upd_set 4) (by decide +kernel) (fun _ _ => rfl) (tests_one (cmp_b in_cmp (name_ok (i := 4) (by decide +kernel) (by decide +kernel)) (name_ok (i := 2) (by decide +kernel) (by decide +kernel)) rfl)) (name_ok (i := 4) (by decide +kernel) (by decide +kernel)) (fun _ _ => rfl)) (fun _ => rfl)))
  s_nil))))
theorem hf__law_corners {C : Cfg} (h : Laid C) : FnG C "_law_corners" 1 true φ__law_corners :=
  fn_G (l := 0) (G := G__law_corners) h.f__law_corners (by decide +kernel) (show SOK C _ 0 true (dBody P 12) _ from
  (s_cons (s_assign (i := 2) (k := 1) (by decide +kernel) (list_ok args_nil_ok (by decide)) (fun _ _ => rfl))
  (s_cons (s_for (tt := false) (name_ok (i := 0) (by decide +kernel) (by decide +kernel)) (tgt_name (i := 3) (by decide +kernel)) (fun _ _ => rfl) (s_cons (s_append (i := 2) (k := 0) (by decide +kernel) (by decide +kernel) (name_ok (i := 3) (by decide +kernel) (by decide +kernel)) (fun _ => rfl) (fun _ => rfl) rfl (fun _ => rfl))
  (s_cons (s_if (cmp_b notIn_cmp (name_ok (i := 3) (by decide +kernel) (by decide +kernel)) (name_ok (i := 1) (by decide +kernel) (by decide +kernel)) rfl) (s_cons (s_ret (name_ok (i := 2) (by decide +kernel) (by decide +kernel)))
  s_nil) s_nil)
  s_nil)) (fun _ _ => rfl))
  (s_cons (s_ret (name_ok (i := 2) (by decide +kernel) (by decide +kernel)))
  s_nil))))
theorem hf__law_begins {C : Cfg} (h : Laid C) : FnG C "_law_begins" 1 true φ__law_begins :=
  fn_G (l := 0) (G := G__law_begins) h.f__law_begins (by decide +kernel) (show SOK C _ 0 true (dBody P 13) _ from
  (s_cons (s_assign (i := 3) (k := 1) (by decide +kernel) (slice_ok (name_ok (i := 0) (by decide +kernel) (by decide +kernel)) part_none part_none) (fun _ _ => rfl))
  (s_cons (s_for (tt := false) (range_ok ⟨(by decide +kernel), h.b_range, (by decide +kernel), (by decide +kernel)⟩ (add_ok (len_ok ⟨(by decide +kernel), h.b_len, (by decide +kernel), (by decide +kernel)⟩ (name_ok (i := 2) (by decide +kernel) (by decide +kernel)) (fun _ => rfl)) (int_ok 1)) (fun _ => rfl)) (tgt_name (i := 4) (by decide +kernel)) (fun _ _ => rfl) (s_cons (s_for (tt := true) (name_ok (i := 1) (by decide +kernel) (by decide +kernel)) (tgt_tuple (is := [5, 6]) (.cons (by decide +kernel) (.cons (by decide +kernel) .nil))) (fun _ hb => hb) (s_cons (s_if (boolop_b (and_cons (cmp_b in_cmp (name_ok (i := 5) (by decide +kernel) (by decide +kernel)) (name_ok (i := 3) (by decide +kernel) (by decide +kernel)) rfl) (and_cons (cmp_b notIn_cmp (name_ok (i := 6) (by decide +kernel) (by decide +kernel)) (name_ok (i := 3) (by decide +kernel) (by decide +kernel)) rfl) and_nil))) (s_cons (s_append (i := 3) (k := 0) (by decide +kernel) (by decide +kernel) (name_ok (i := 6) (by decide +kernel) (by decide +kernel)) (fun _ => rfl) (fun _ => rfl) rfl (fun _ => rfl))
  s_nil) s_nil)
  s_nil) (fun _ _ => rfl))
  s_nil) (fun _ _ => rfl))
  (s_cons (s_ret (sorted_ok ⟨(by decide +kernel), h.b_sorted, (by decide +kernel), (by decide +kernel)⟩ (comp_ok (xs := ["s"]) (n := 7) (tt := false) (is := [7]) rfl (by decide +kernel) (name_ok (i := 3) (by decide +kernel) (by decide +kernel)) (asg_name (i := 7) (by decide +kernel)) (upd_set 7) (by decide +kernel) (fun _ _ => rfl) (tests_one (cmp_b notIn_cmp (name_ok (i := 7) (by decide +kernel) (by decide +kernel)) (name_ok (i := 2) (by decide +kernel) (by decide +kernel)) rfl)) (name_ok (i := 7) (by decide +kernel) (by decide +kernel)) (fun _ _ => rfl)) (fun _ => rfl)))
  s_nil))))
theorem hf_law {C : Cfg} (h : Laid C) : FnG C "law" 4 false φ_law :=
  fn_G (l := 3) (G := G_law) h.f_law (by decide +kernel) (show SOK C _ 3 false (dBody P 14) _ from
  (s_cons (s_assign (i := 1) (k := 0) (by decide +kernel) (call_ok (hf__law_grammar h) (by decide +kernel) (by decide +kernel) (by decide +kernel) (args_cons_ok (name_ok (i := 0) (by decide +kernel) (by decide +kernel)) args_nil_ok (fun _ => rfl)) (fun _ => rfl)) (fun _ _ => rfl))
  (s_cons (s_assign (i := 2) (k := 0) (by decide +kernel) (call_ok (hf__law_grammar h) (by decide +kernel) (by decide +kernel) (by decide +kernel) (args_cons_ok (name_ok (i := 0) (by decide +kernel) (by decide +kernel)) args_nil_ok (fun _ => rfl)) (fun _ => rfl)) (fun _ _ => rfl))
  (s_cons (s_assign (i := 5) (k := 0) (by decide +kernel) (comp_ok (xs := ["head", "body"]) (n := 14) (tt := true) (is := [14, 15]) rfl (by decide +kernel) (name_ok (i := 1) (by decide +kernel) (by decide +kernel)) (asg_tuple (is := [14, 15]) (.cons (by decide +kernel) (.cons (by decide +kernel) .nil))) (upd_tup (by decide +kernel)) (by decide +kernel) (fun _ hb => hb) tests_nil (name_ok (i := 14) (by decide +kernel) (by decide +kernel)) (fun _ _ => rfl)) (swap_no (by decide +kernel)))
  (s_cons (s_assign_comp (i := 6) (k := 0) (by decide +kernel) (xs := ["i"]) (n := 14) (tt := false) (is := [14]) rfl (by decide +kernel) (range_ok ⟨(by decide +kernel), h.b_range, (by decide +kernel), (by decide +kernel)⟩ (len_ok ⟨(by decide +kernel), h.b_len, (by decide +kernel), (by decide +kernel)⟩ (name_ok (i := 5) (by decide +kernel) (by decide +kernel)) (fun _ => rfl)) (fun _ => rfl)) (asg_name (i := 14) (by decide +kernel)) (upd_set 14) (by decide +kernel) (fun _ _ => rfl) (tests_one (cmp_b notIn_cmp (idx_ok (name_ok (i := 5) (by decide +kernel) (by decide +kernel)) (name_ok (i := 14) (by decide +kernel) (by decide +kernel)) (fun _ _ => rfl)) (slice_ok (name_ok (i := 5) (by decide +kernel) (by decide +kernel)) part_none (part_some (name_ok (i := 14) (by decide +kernel) (by decide +kernel)))) rfl)) (idx_ok (name_ok (i := 5) (by decide +kernel) (by decide +kernel)) (name_ok (i := 14) (by decide +kernel) (by decide +kernel)) (fun _ _ => rfl)) (fun _ _ => rfl) (swap_yes (by decide +kernel)) (by decide))
  (s_cons (s_assign (i := 7) (k := 0) (by decide +kernel) (call_ok (hf__law_nullable h) (by decide +kernel) (by decide +kernel) (by decide +kernel) (args_cons_ok (name_ok (i := 1) (by decide +kernel) (by decide +kernel)) (args_cons_ok (name_ok (i := 6) (by decide +kernel) (by decide +kernel)) args_nil_ok (fun _ => rfl)) (fun _ => rfl)) (fun _ => rfl)) (fun _ _ => rfl))
  (s_cons (s_assign (i := 8) (k := 1) (by decide +kernel) (list_ok args_nil_ok (by decide)) (fun _ _ => rfl))
  (s_cons (s_for (tt := true) (name_ok (i := 1) (by decide +kernel) (by decide +kernel)) (tgt_tuple (is := [3, 4]) (.cons (by decide +kernel) (.cons (by decide +kernel) .nil))) (fun _ hb => hb) (s_cons (s_for (tt := false) (call_ok (hf__law_corners h) (by decide +kernel) (by decide +kernel) (by decide +kernel) (args_cons_ok (name_ok (i := 4) (by decide +kernel) (by decide +kernel)) (args_cons_ok (name_ok (i := 7) (by decide +kernel) (by decide +kernel)) args_nil_ok (fun _ => rfl)) (fun _ => rfl)) (fun _ => rfl)) (tgt_name (i := 9) (by decide +kernel)) (fun _ _ => rfl) (s_cons (s_append (i := 8) (k := 0) (by decide +kernel) (by decide +kernel) (tup_ok (args_cons_ok (name_ok (i := 3) (by decide +kernel) (by decide +kernel)) (args_cons_ok (name_ok (i := 9) (by decide +kernel) (by decide +kernel)) args_nil_ok (fun _ => rfl)) (fun _ => rfl)) (by decide)) (fun _ => rfl) (fun _ => rfl) rfl (fun _ => rfl))
  s_nil) (fun _ _ => rfl))
  s_nil) (fun _ _ => rfl))
  (s_cons (s_assign (i := 10) (k := 1) (by decide +kernel) dict0_ok (fun _ _ => rfl))
  (s_cons (s_for (tt := false) (name_ok (i := 6) (by decide +kernel) (by decide +kernel)) (tgt_name (i := 11) (by decide +kernel)) (fun _ _ => rfl) (s_cons (s_setitem (i := 10) (k := 0) (by decide +kernel) (by decide +kernel) (call_ok (hf__law_begins h) (by decide +kernel) (by decide +kernel) (by decide +kernel) (args_cons_ok (list_ok (args_cons_ok (name_ok (i := 11) (by decide +kernel) (by decide +kernel)) args_nil_ok (fun _ => rfl)) (by decide)) (args_cons_ok (name_ok (i := 8) (by decide +kernel) (by decide +kernel)) (args_cons_ok (name_ok (i := 6) (by decide +kernel) (by decide +kernel)) args_nil_ok (fun _ => rfl)) (fun _ => rfl)) (fun _ => rfl)) (fun _ => rfl)) (name_ok (i := 11) (by decide +kernel) (by decide +kernel)) (fun _ => rfl))
  s_nil) (fun _ _ => rfl))
  (s_cons (s_if (cmp_b ne_cmp (call_ok (hf_heads_of h) (by decide +kernel) (by decide +kernel) (by decide +kernel) (args_cons_ok (name_ok (i := 1) (by decide +kernel) (by decide +kernel)) args_nil_ok (fun _ => rfl)) (fun _ => rfl)) (name_ok (i := 6) (by decide +kernel) (by decide +kernel)) rfl) (s_cons (s_ret (bool_ok false))
  s_nil) s_nil)
  (s_cons (s_if (cmp_b ne_cmp (call_ok (hf_nullable_heads h) (by decide +kernel) (by decide +kernel) (by decide +kernel) (args_cons_ok (name_ok (i := 1) (by decide +kernel) (by decide +kernel)) args_nil_ok (fun _ => rfl)) (fun _ => rfl)) (name_ok (i := 7) (by decide +kernel) (by decide +kernel)) rfl) (s_cons (s_ret (bool_ok false))
  s_nil) s_nil)
  (s_cons (s_if (cmp_b neE_cmp (call_ok (hf_first_sets h) (by decide +kernel) (by decide +kernel) (by decide +kernel) (args_cons_ok (name_ok (i := 1) (by decide +kernel) (by decide +kernel)) args_nil_ok (fun _ => rfl)) (fun _ => rfl)) (name_ok (i := 10) (by decide +kernel) (by decide +kernel)) rfl) (s_cons (s_ret (bool_ok false))
  s_nil) s_nil)
  (s_cons (s_for (tt := true) (name_ok (i := 2) (by decide +kernel) (by decide +kernel)) (tgt_tuple (is := [3, 4]) (.cons (by decide +kernel) (.cons (by decide +kernel) .nil))) (fun _ hb => hb) (s_cons (s_assign (i := 12) (k := 0) (by decide +kernel) (call_ok (hf__law_begins h) (by decide +kernel) (by decide +kernel) (by decide +kernel) (args_cons_ok (call_ok (hf__law_corners h) (by decide +kernel) (by decide +kernel) (by decide +kernel) (args_cons_ok (name_ok (i := 4) (by decide +kernel) (by decide +kernel)) (args_cons_ok (name_ok (i := 7) (by decide +kernel) (by decide +kernel)) args_nil_ok (fun _ => rfl)) (fun _ => rfl)) (fun _ => rfl)) (args_cons_ok (name_ok (i := 8) (by decide +kernel) (by decide +kernel)) (args_cons_ok (name_ok (i := 6) (by decide +kernel) (by decide +kernel)) args_nil_ok (fun _ => rfl)) (fun _ => rfl)) (fun _ => rfl)) (fun _ => rfl)) (fun _ _ => rfl))
  (s_cons (s_assign (i := 13) (k := 0) (by decide +kernel) (all_ok ⟨(by decide +kernel), h.b_all, (by decide +kernel), (by decide +kernel)⟩ (comp_ok (xs := ["s"]) (n := 14) (tt := false) (is := [14]) rfl (by decide +kernel) (name_ok (i := 4) (by decide +kernel) (by decide +kernel)) (asg_name (i := 14) (by decide +kernel)) (upd_set 14) (by decide +kernel) (fun _ _ => rfl) tests_nil (cmp_ok in_cmp (name_ok (i := 14) (by decide +kernel) (by decide +kernel)) (name_ok (i := 7) (by decide +kernel) (by decide +kernel)) rfl) (fun _ _ => rfl)) (fun _ => rfl)) (fun _ _ => rfl))
  (s_cons (s_if (cmp_b ne_cmp (call_ok (hf_first_of_string h) (by decide +kernel) (by decide +kernel) (by decide +kernel) (args_cons_ok (name_ok (i := 4) (by decide +kernel) (by decide +kernel)) (args_cons_ok (name_ok (i := 10) (by decide +kernel) (by decide +kernel)) (args_cons_ok (name_ok (i := 7) (by decide +kernel) (by decide +kernel)) args_nil_ok (fun _ => rfl)) (fun _ => rfl)) (fun _ => rfl)) (fun _ => rfl)) (tup_ok (args_cons_ok (name_ok (i := 12) (by decide +kernel) (by decide +kernel)) (args_cons_ok (name_ok (i := 13) (by decide +kernel) (by decide +kernel)) args_nil_ok (fun _ => rfl)) (fun _ => rfl)) (by decide)) rfl) (s_cons (s_ret (bool_ok false))
  s_nil) s_nil)
  s_nil))) (fun _ _ => rfl))
  (s_cons (s_if (cmp_b ne_cmp (name_ok (i := 1) (by decide +kernel) (by decide +kernel)) (call_ok (hf__law_grammar h) (by decide +kernel) (by decide +kernel) (by decide +kernel) (args_cons_ok (name_ok (i := 0) (by decide +kernel) (by decide +kernel)) args_nil_ok (fun _ => rfl)) (fun _ => rfl)) rfl) (s_cons (s_ret (bool_ok false))
  s_nil) s_nil)
  (s_cons (s_if (cmp_b ne_cmp (name_ok (i := 2) (by decide +kernel) (by decide +kernel)) (name_ok (i := 1) (by decide +kernel) (by decide +kernel)) rfl) (s_cons (s_ret (bool_ok false))
  s_nil) s_nil)
  (s_cons (s_ret (bool_ok true))
  s_nil)))))))))))))))))
end Mine

set_option autoImplicit false
open PySem PyProof.Rows
namespace Mine
set_option linter.unusedVariables false
set_option linter.unusedSimpArgs false
set_option maxRecDepth 100000

abbrev Gr := List (Str × List Str)
def sL (ss : List Str) : D := .list (ss.map .str)
def ruleD (r : Str × List Str) : D := .tup [.str r.1, sL r.2]
def gramD (g : Gr) : D := .list (g.map ruleD)
def dictD (f : Gr) : D := .dict (f.map fun p => (p.1, sL p.2))

theorem inL_strs (x : Str) (ss : List Str) : inL (eqD 40) (.str x) (ss.map .str) = some (decide (x ∈ ss)) := by
  induction ss with
  | nil => simp [inL]
  | cons y r ih =>
    simp only [List.map_cons, inL]
    rw [ih]
    simp only [eqD]
    by_cases h : y = x
    · simp [h]
    · simp [h, Ne.symm h]
theorem unStrs_sL (ss : List Str) : unStrs (ss.map .str) = some ss := by
  induction ss with
  | nil => rfl
  | cons x r ih => simp [unStrs, ih]
theorem clr_val (i k : Nat) (d : D) : clr i (.val k d) = .val k d := rfl
theorem clr_un (i : Nat) : clr i .un = .un := rfl
theorem lim_eq : lim = 100000 := rfl
    
def addU (u : List Str) (x : Str) : List Str := if x ∈ u then u else u ++ [x]
def dedup (xs : List Str) : List Str := xs.foldl addU []
theorem addU_len (u : List Str) (x : Str) : (addU u x).length ≤ u.length + 1 := by unfold addU; split <;> simp
theorem foldU_len (xs : List Str) : ∀ u : List Str, (xs.foldl addU u).length ≤ u.length + xs.length := by
  induction xs with
  | nil => intro u; simp
  | cons x r ih => intro u; have := ih (addU u x); have := addU_len u x; simp only [List.foldl_cons, List.length_cons]; omega
theorem foldU_mem (xs : List Str) : ∀ (u : List Str) (y : Str), y ∈ xs.foldl addU u ↔ y ∈ u ∨ y ∈ xs := by
  induction xs with
  | nil => intro u y; simp
  | cons x r ih =>
    intro u y
    rw [List.foldl_cons, ih]
    unfold addU
    split
    · rename_i h
      constructor
      · rintro (a | a)
        · exact .inl a
        · exact .inr (.tail _ a)
      · rintro (a | a)
        · exact .inl a
        · rcases List.mem_cons.mp a with rfl | a
          · exact .inl h
          · exact .inr a
    · simp [or_assoc]
theorem addU_nodup {u : List Str} {x : Str} (h : u.Nodup) : (addU u x).Nodup := by
  unfold addU
  split
  · exact h
  · rename_i hx
    exact List.nodup_append.mpr ⟨h, by simp, fun a ha b hb e => hx (by simp at hb; subst hb; exact e ▸ ha)⟩
theorem foldU_nodup (xs : List Str) : ∀ u : List Str, u.Nodup → (xs.foldl addU u).Nodup := by
  induction xs with
  | nil => intro u h; exact h
  | cons x r ih => intro u h; exact ih _ (addU_nodup h)
theorem mem_dedup {xs : List Str} {y : Str} : y ∈ dedup xs ↔ y ∈ xs := by unfold dedup; rw [foldU_mem]; simp
theorem dedup_nodup (xs : List Str) : (dedup xs).Nodup := foldU_nodup xs [] List.nodup_nil
theorem dedup_len (xs : List Str) : (dedup xs).length ≤ xs.length := by have := foldU_len xs []; simpa [dedup] using this
theorem mem_sortS {l : List Str} {x : Str} : x ∈ sortS l ↔ x ∈ l := (sortS_perm l).mem_iff

/-! heads_of -/
theorem heads_loop (dg : D) : ∀ (g : Gr) (hs : List Str) (last : Slot), hs.length + g.length < lim →
    ∃ last', forL (putN 2) B_heads_of_1 (g.map ruleD) [.val 0 dg, .val 1 (sL hs), last] = some (.next [.val 0 dg, .val 1 (sL ((g.map (·.1)).foldl addU hs)), last'])
  | [], hs, last, _ => ⟨last, rfl⟩
  | r :: g, hs, last, hl => by
    have h2 : hs.length < lim := by rw [List.length_cons] at hl; omega
    obtain ⟨last', ih⟩ := heads_loop dg g (addU hs r.1) (.val 0 (ruleD r)) (by have := addU_len hs r.1; rw [List.length_cons] at hl; omega)
    refine ⟨last', ?_⟩
    rw [List.map_cons, forL, List.map_cons, List.foldl_cons, ← ih]
    rw [lim_eq] at h2
    by_cases h : r.1 ∈ hs
    · simp [putN, put, clr_val, clr_un, seqG, ifG, asgG, appG, setG, retG, forG, cmpB, notO, view, slotView, bin, un, nameF, nameM, idxD, inD, Out.bind, keepB, Mk.isFu, Mk.isOwn, Mk.cl, childM, callF, callM, consF, listF, tupF, Mk.cat, Mk.sl, Mk.clean, D.imm, D.flat, Mk.fre, D.cont, boolF, truthB, andB, orB, D.items, D.isL, fnF, ini, lim, inL_strs, sL, B_heads_of_1, ruleD, h, addU]
    · simp [putN, put, clr_val, clr_un, seqG, ifG, asgG, appG, setG, retG, forG, cmpB, notO, view, slotView, bin, un, nameF, nameM, idxD, inD, Out.bind, keepB, Mk.isFu, Mk.isOwn, Mk.cl, childM, callF, callM, consF, listF, tupF, Mk.cat, Mk.sl, Mk.clean, D.imm, D.flat, Mk.fre, D.cont, boolF, truthB, andB, orB, D.items, D.isL, fnF, ini, lim, inL_strs, sL, B_heads_of_1, ruleD, h, addU, h2]
theorem φ_heads (g : Gr) (hg : g.length < lim) : φ_heads_of [gramD g] = some (sL (dedup (g.map (·.1)))) := by
  obtain ⟨last', h⟩ := heads_loop (gramD g) g [] .un (by simpa using hg)
  have h' : forL (putN 2) B_heads_of_1 (g.map ruleD) [.val 0 (.list (g.map ruleD)), .val 1 (.list []), .un] = some (.next [.val 0 (gramD g), .val 1 (sL (dedup (g.map (·.1)))), last']) := h
  simp [φ_heads_of, G_heads_of, putN, put, clr_val, clr_un, seqG, ifG, asgG, appG, setG, retG, forG, cmpB, notO, view, slotView, bin, un, nameF, nameM, idxD, inD, Out.bind, keepB, Mk.isFu, Mk.isOwn, Mk.cl, childM, callF, callM, consF, listF, tupF, Mk.cat, Mk.sl, Mk.clean, D.imm, D.flat, Mk.fre, D.cont, boolF, truthB, andB, orB, D.items, D.isL, fnF, ini, lim, inL_strs, sL, gramD, List.replicate]
  rw [h']
  simp [putN, put, clr_val, clr_un, seqG, ifG, asgG, appG, setG, retG, forG, cmpB, notO, view, slotView, bin, un, nameF, nameM, idxD, inD, Out.bind, keepB, Mk.isFu, Mk.isOwn, Mk.cl, childM, callF, callM, consF, listF, tupF, Mk.cat, Mk.sl, Mk.clean, D.imm, D.flat, Mk.fre, D.cont, boolF, truthB, andB, orB, D.items, D.isL, fnF, ini, lim, inL_strs, sL]
/-! merged -/
def mrg (a b : List Str) : List Str := sortS (dedup (a ++ b))
theorem merged_loop (x y : D) : ∀ (g : List Str) (hs : List Str) (last : Slot), hs.length + g.length < lim →
    ∃ last', forL (putN 3) B_merged_1 (g.map .str) [.val 0 x, .val 0 y, .val 1 (sL hs), last] = some (.next [.val 0 x, .val 0 y, .val 1 (sL (g.foldl addU hs)), last'])
  | [], hs, last, _ => ⟨last, rfl⟩
  | r :: g, hs, last, hl => by
    have h2 : hs.length < lim := by rw [List.length_cons] at hl; omega
    obtain ⟨last', ih⟩ := merged_loop x y g (addU hs r) (.val 0 (.str r)) (by have := addU_len hs r; rw [List.length_cons] at hl; omega)
    refine ⟨last', ?_⟩
    rw [List.map_cons, forL, List.foldl_cons, ← ih]
    rw [lim_eq] at h2
    by_cases h : r ∈ hs
    · simp [putN, put, clr_val, clr_un, seqG, ifG, asgG, appG, setG, retG, forG, cmpB, notO, view, slotView, bin, un, nameF, nameM, idxD, inD, Out.bind, keepB, Mk.isFu, Mk.isOwn, Mk.cl, childM, callF, callM, consF, listF, tupF, Mk.cat, Mk.sl, Mk.clean, D.imm, D.flat, Mk.fre, D.cont, boolF, truthB, andB, orB, D.items, D.isL, fnF, ini, lim, inL_strs, sL, B_merged_1, h, addU]
    · simp [putN, put, clr_val, clr_un, seqG, ifG, asgG, appG, setG, retG, forG, cmpB, notO, view, slotView, bin, un, nameF, nameM, idxD, inD, Out.bind, keepB, Mk.isFu, Mk.isOwn, Mk.cl, childM, callF, callM, consF, listF, tupF, Mk.cat, Mk.sl, Mk.clean, D.imm, D.flat, Mk.fre, D.cont, boolF, truthB, andB, orB, D.items, D.isL, fnF, ini, lim, inL_strs, sL, B_merged_1, h, addU, h2]
theorem φ_mrg (a b : List Str) (h : a.length + b.length < 64) : φ_merged [sL a, sL b] = some (sL (mrg a b)) := by
  have hl : (dedup (a ++ b)).length < 64 := by have := dedup_len (a ++ b); rw [List.length_append] at this; omega
  obtain ⟨last', h1⟩ := merged_loop (sL a) (sL b) (a ++ b) [] .un (by rw [List.length_append, lim_eq]; simp; omega)
  have h' : forL (putN 3) B_merged_1 (a.map D.str ++ b.map D.str) [.val 0 (.list (a.map .str)), .val 0 (.list (b.map .str)), .val 1 (.list []), .un] = some (.next [.val 0 (sL a), .val 0 (sL b), .val 1 (sL (dedup (a ++ b))), last']) := by rw [← List.map_append]; exact h1
  simp [φ_merged, G_merged, putN, put, clr_val, clr_un, seqG, ifG, asgG, appG, setG, retG, forG, cmpB, notO, view, slotView, bin, un, nameF, nameM, idxD, inD, Out.bind, keepB, Mk.isFu, Mk.isOwn, Mk.cl, childM, callF, callM, consF, listF, tupF, Mk.cat, Mk.sl, Mk.clean, D.imm, D.flat, Mk.fre, D.cont, boolF, truthB, andB, orB, D.items, D.isL, fnF, ini, lim, inL_strs, sL, addD, catM, List.replicate, show a.length + b.length ≤ 100000 by omega]
  rw [h']
  simp [putN, put, clr_val, clr_un, seqG, ifG, asgG, appG, setG, retG, forG, cmpB, notO, view, slotView, bin, un, nameF, nameM, idxD, inD, Out.bind, keepB, Mk.isFu, Mk.isOwn, Mk.cl, childM, callF, callM, consF, listF, tupF, Mk.cat, Mk.sl, Mk.clean, D.imm, D.flat, Mk.fre, D.cont, boolF, truthB, andB, orB, D.items, D.isL, fnF, ini, lim, inL_strs, sL, sortD, unStrs_sL, hl, mrg]
end Mine

set_option autoImplicit false
open PySem PyProof.Rows
namespace Mine
set_option linter.unusedVariables false
set_option linter.unusedSimpArgs false
set_option maxRecDepth 100000

theorem compL_map {α : Type} {upd : EEnv → D → Option EEnv} {bs : EEnv → Option Bool} {fe : EEnv → Option D} {me : EEnv → Mk} {ρ : EEnv} (enc : α → D) (keep : α → Bool) (val : α → D) : ∀ (xs : List α),
    (∀ a ∈ xs, ∃ ρ₁, upd ρ (enc a) = some ρ₁ ∧ bs ρ₁ = some (keep a) ∧ (keep a = true → fe ρ₁ = some (val a) ∧ (me ρ₁).cl (val a) = true)) → compL upd bs fe me ρ (xs.map enc) = some ((xs.filter keep).map val)
  | [], _ => rfl
  | a :: xs, h => by
    obtain ⟨ρ₁, h1, h2, h3⟩ := h a (.head _)
    have ih := compL_map enc keep val xs fun b hb => h b (.tail _ hb)
    rw [List.map_cons, compL, h1, Option.bind_some, h2, Option.bind_some]
    cases hk : keep a with
    | false => simp [hk, ih]
    | true =>
      obtain ⟨h4, h5⟩ := h3 hk
      simp [hk, h4, h5, ih]
theorem unBools_map {α : Type} (f : α → Bool) (xs : List α) : unBools (xs.map fun a => D.bool (f a)) = some (xs.map f) := by
  induction xs with
  | nil => rfl
  | cons x r ih => simp [unBools, ih]
theorem nodup_le : ∀ {l m : List Str}, l.Nodup → (∀ x ∈ l, x ∈ m) → l.length ≤ m.length
  | [], m, _, _ => Nat.zero_le _
  | x :: l, m, hn, hs => by
    rw [List.nodup_cons] at hn
    have hx := hs x (.head _)
    have := nodup_le (l := l) (m := m.erase x) hn.2 fun y hy => by
      have hne : y ≠ x := fun e => hn.1 (e ▸ hy)
      exact (List.mem_erase_of_ne hne).mpr (hs y (.tail _ hy))
    rw [List.length_erase_of_mem hx] at this
    have : 0 < m.length := List.length_pos_of_mem hx
    rw [List.length_cons]; omega

/-! heads_built_from -/
def ready (given found : List Str) (r : Str × List Str) : Bool := !decide (r.1 ∈ found) && r.2.all fun s => decide (s ∈ given) || decide (s ∈ found)
def hbStep (given : List Str) (p : List Str × Bool) (r : Str × List Str) : List Str × Bool := if ready given p.1 r then (p.1 ++ [r.1], true) else p
theorem hb_comp (dg : D) (given found : List Str) (c : D) (r : Str × List Str) : K_heads_built_from_1 (view [.val 0 dg, .val 0 (sL given), .val 1 (sL found), .val 0 c, .val 0 (ruleD r)]) = some (.list (r.2.map fun s => .bool (decide (s ∈ given) || decide (s ∈ found)))) := by
  have h := compL_map (upd := setN 5) (bs := fun _ => some true) (fe := boolF (orB (truthB (boolF (cmpB inD (nameF 5) (nameF 1)))) (truthB (boolF (cmpB inD (nameF 5) (nameF 2)))))) (me := fun _ => Mk.fr)
    (ρ := view [.val 0 dg, .val 0 (sL given), .val 1 (sL found), .val 0 c, .val 0 (ruleD r)] ++ [none]) D.str (fun _ => true) (fun s => .bool (decide (s ∈ given) || decide (s ∈ found))) r.2 fun s _ => by
      refine ⟨_, rfl, rfl, fun _ => ⟨?_, rfl⟩⟩
      by_cases h1 : s ∈ given <;> by_cases h2 : s ∈ found <;> simp [putN, put, clr_val, clr_un, seqG, ifG, asgG, appG, setG, retG, forG, cmpB, notO, view, slotView, bin, un, nameF, nameM, idxD, inD, Out.bind, keepB, Mk.isFu, Mk.isOwn, Mk.cl, childM, callF, callM, consF, listF, tupF, Mk.cat, Mk.sl, Mk.clean, D.imm, D.flat, Mk.fre, D.cont, boolF, truthB, andB, orB, D.items, D.isL, fnF, ini, lim, inL_strs, sL, setN, h1, h2]
  have e : r.2.filter (fun _ => true) = r.2 := List.filter_eq_self.mpr fun _ _ => rfl
  rw [e] at h
  unfold K_heads_built_from_1 compF
  simp only [putN, put, clr_val, clr_un, seqG, ifG, asgG, appG, setG, retG, forG, cmpB, notO, view, slotView, bin, un, nameF, nameM, idxD, inD, Out.bind, keepB, Mk.isFu, Mk.isOwn, Mk.cl, childM, callF, callM, consF, listF, tupF, Mk.cat, Mk.sl, Mk.clean, D.imm, D.flat, Mk.fre, D.cont, boolF, truthB, andB, orB, D.items, D.isL, fnF, ini, lim, inL_strs, sL, ruleD, List.map_cons, List.map_nil, List.length_cons, List.length_nil, List.replicate] at h ⊢
  simp
  exact h
theorem hb_loop (dg : D) (given : List Str) : ∀ (g : Gr) (found : List Str) (c : Bool) (last : Slot), found.length + g.length < lim →
    ∃ last', forL (putN 4) B_heads_built_from_1 (g.map ruleD) [.val 0 dg, .val 0 (sL given), .val 1 (sL found), .val 0 (.bool c), last] =
      some (.next [.val 0 dg, .val 0 (sL given), .val 1 (sL (g.foldl (hbStep given) (found, c)).1), .val 0 (.bool (g.foldl (hbStep given) (found, c)).2), last'])
  | [], found, c, last, _ => ⟨last, rfl⟩
  | r :: g, found, c, last, hl => by
    have h2 : found.length < lim := by rw [List.length_cons] at hl; omega
    have hc := hb_comp dg given found (.bool c) r
    rw [lim_eq] at h2
    rw [List.map_cons, forL, List.foldl_cons]
    have hall : un allD K_heads_built_from_1 (view [.val 0 dg, .val 0 (sL given), .val 1 (sL found), .val 0 (.bool c), .val 0 (ruleD r)]) = some (.bool (r.2.all fun s => decide (s ∈ given) || decide (s ∈ found))) := by
      unfold un
      rw [hc]
      simp [allD, D.items, unBools_map]
    have hput : putN 4 [.val 0 dg, .val 0 (sL given), .val 1 (sL found), .val 0 (.bool c), last] (ruleD r) = some [.val 0 dg, .val 0 (sL given), .val 1 (sL found), .val 0 (.bool c), .val 0 (ruleD r)] := rfl
    rw [hput, Option.bind_some]
    by_cases h : r.1 ∈ found
    · have hr : hbStep given (found, c) r = (found, c) := by simp [hbStep, ready, h]
      obtain ⟨last', ih⟩ := hb_loop dg given g found c (.val 0 (ruleD r)) (by rw [List.length_cons] at hl; omega)
      refine ⟨last', ?_⟩
      rw [hr, ← ih]
      simp [putN, put, clr_val, clr_un, seqG, ifG, asgG, appG, setG, retG, forG, cmpB, notO, view, slotView, bin, un, nameF, nameM, idxD, inD, Out.bind, keepB, Mk.isFu, Mk.isOwn, Mk.cl, childM, callF, callM, consF, listF, tupF, Mk.cat, Mk.sl, Mk.clean, D.imm, D.flat, Mk.fre, D.cont, boolF, truthB, andB, orB, D.items, D.isL, fnF, ini, lim, inL_strs, sL, B_heads_built_from_1, ruleD, h]
    · by_cases ha : (r.2.all fun s => decide (s ∈ given) || decide (s ∈ found)) = true
      · have hr : hbStep given (found, c) r = (found ++ [r.1], true) := by simp only [hbStep, ready, ha]; simp [h]
        obtain ⟨last', ih⟩ := hb_loop dg given g (found ++ [r.1]) true (.val 0 (ruleD r)) (by rw [List.length_cons] at hl; simp; omega)
        refine ⟨last', ?_⟩
        rw [hr, ← ih]
        rw [ha] at hall
        simp only [B_heads_built_from_1, seqG, ifG, andB, cmpB, truthB, hall]
        simp [putN, put, clr_val, clr_un, seqG, ifG, asgG, appG, setG, retG, forG, cmpB, notO, view, slotView, bin, un, nameF, nameM, idxD, inD, Out.bind, keepB, Mk.isFu, Mk.isOwn, Mk.cl, childM, callF, callM, consF, listF, tupF, Mk.cat, Mk.sl, Mk.clean, D.imm, D.flat, Mk.fre, D.cont, boolF, truthB, andB, orB, D.items, D.isL, fnF, ini, lim, inL_strs, sL, ruleD, h, h2]
      · have ha' : (r.2.all fun s => decide (s ∈ given) || decide (s ∈ found)) = false := by simpa using ha
        have hr : hbStep given (found, c) r = (found, c) := by simp only [hbStep, ready, ha']; simp
        obtain ⟨last', ih⟩ := hb_loop dg given g found c (.val 0 (ruleD r)) (by rw [List.length_cons] at hl; omega)
        refine ⟨last', ?_⟩
        rw [hr, ← ih]
        rw [ha'] at hall
        simp only [B_heads_built_from_1, seqG, ifG, andB, cmpB, truthB, hall]
        simp [putN, put, clr_val, clr_un, seqG, ifG, asgG, appG, setG, retG, forG, cmpB, notO, view, slotView, bin, un, nameF, nameM, idxD, inD, Out.bind, keepB, Mk.isFu, Mk.isOwn, Mk.cl, childM, callF, callM, consF, listF, tupF, Mk.cat, Mk.sl, Mk.clean, D.imm, D.flat, Mk.fre, D.cont, boolF, truthB, andB, orB, D.items, D.isL, fnF, ini, lim, inL_strs, sL, ruleD, h]
/-- the closed sets of heads -/
def Closed (g : Gr) (given : List Str) (S : Str → Prop) : Prop := ∀ r ∈ g, (∀ s ∈ r.2, s ∈ given ∨ S s) → S r.1
def Nul (g : Gr) (given : List Str) (x : Str) : Prop := ∀ S : Str → Prop, Closed g given S → S x
theorem hb_pass (given : List Str) : ∀ (g : Gr) (f : List Str) (c : Bool), f.Nodup →
    (g.foldl (hbStep given) (f, c)).1.Nodup ∧ (∀ x ∈ f, x ∈ (g.foldl (hbStep given) (f, c)).1) ∧ (∀ x ∈ (g.foldl (hbStep given) (f, c)).1, x ∈ f ∨ x ∈ g.map (·.1)) ∧
    (∀ S : Str → Prop, (∀ r ∈ g, (∀ s ∈ r.2, s ∈ given ∨ S s) → S r.1) → (∀ x ∈ f, S x) → ∀ x ∈ (g.foldl (hbStep given) (f, c)).1, S x) ∧
    ((g.foldl (hbStep given) (f, c)).2 = true → c = true ∨ f.length < (g.foldl (hbStep given) (f, c)).1.length) ∧
    ((g.foldl (hbStep given) (f, c)).2 = false → (g.foldl (hbStep given) (f, c)).1 = f ∧ ∀ r ∈ g, ready given f r = false) ∧ f.length ≤ (g.foldl (hbStep given) (f, c)).1.length
  | [], f, c, hn => ⟨hn, fun _ h => h, fun _ h => .inl h, fun _ _ h => h, fun h => .inl h, fun _ => ⟨rfl, fun _ h => nomatch h⟩, Nat.le_refl _⟩
  | r :: g, f, c, hn => by
    rw [List.foldl_cons]
    cases hr : ready given f r with
    | false =>
      have e : hbStep given (f, c) r = (f, c) := by unfold hbStep; simp [hr]
      rw [e]
      obtain ⟨a1, a2, a3, a4, a5, a6, a7⟩ := hb_pass given g f c hn
      refine ⟨a1, a2, fun x hx => (a3 x hx).imp id fun h => List.mem_cons_of_mem _ h, fun S hS => a4 S fun q hq => hS q (.tail _ hq), a5, fun h => ⟨(a6 h).1, fun q hq => ?_⟩, a7⟩
      rcases List.mem_cons.mp hq with rfl | hq
      · exact hr
      · exact (a6 h).2 q hq
    | true =>
      have e : hbStep given (f, c) r = (f ++ [r.1], true) := by unfold hbStep; simp [hr]
      rw [e]
      unfold ready at hr
      obtain ⟨h1, h2⟩ := Bool.and_eq_true_iff.mp hr
      have h1 : r.1 ∉ f := by simpa using h1
      have hn' : (f ++ [r.1]).Nodup := List.nodup_append.mpr ⟨hn, by simp, fun a ha b hb e => h1 (by simp at hb; subst hb; exact e ▸ ha)⟩
      obtain ⟨a1, a2, a3, a4, a5, a6, a7⟩ := hb_pass given g (f ++ [r.1]) true hn'
      have hlen : f.length < (g.foldl (hbStep given) (f ++ [r.1], true)).1.length := by simp at a7; omega
      refine ⟨a1, fun x hx => a2 x (List.mem_append_left _ hx), fun x hx => ?_, fun S hS hf => a4 S (fun q hq => hS q (.tail _ hq)) fun x hx => ?_, fun _ => .inr hlen, fun h => ?_, Nat.le_of_lt hlen⟩
      · rcases a3 x hx with h | h
        · rcases List.mem_append.mp h with h | h
          · exact .inl h
          · simp at h; subst h; exact .inr List.mem_cons_self
        · exact .inr (List.mem_cons_of_mem _ h)
      · rcases List.mem_append.mp hx with h | h
        · exact hf x h
        · simp at h; subst h
          refine hS r (.head _) fun s hs => ?_
          have := List.all_eq_true.mp h2 s hs
          simp at this
          exact this.imp id fun h => hf s h
      · obtain ⟨b1, b2⟩ := a6 h
        have : f.length < f.length + 1 := by omega
        -- the mark was set and never cleared
        exfalso
        have key : ∀ (g : Gr) (f : List Str), (g.foldl (hbStep given) (f, true)).2 = true := by
          intro g
          induction g with
          | nil => intro f; rfl
          | cons q g ih =>
            intro f
            rw [List.foldl_cons]
            unfold hbStep
            split
            · exact ih _
            · exact ih _
        rw [key] at h; cases h
theorem hb_while (g : Gr) (given : List Str) (hg : g.length < 1000) : ∀ (n : Nat) (f : List Str) (last : Slot), f.Nodup → (∀ x ∈ f, x ∈ g.map (·.1)) → (∀ x ∈ f, Nul g given x) → g.length + 2 ≤ n + f.length →
    ∃ f' last', whileL (truthB (nameF 3)) B_heads_built_from_2 n [.val 0 (gramD g), .val 0 (sL given), .val 1 (sL f), .val 0 (.bool true), last] = some (.next [.val 0 (gramD g), .val 0 (sL given), .val 1 (sL f'), .val 0 (.bool false), last']) ∧
      f'.Nodup ∧ (∀ x ∈ f', x ∈ g.map (·.1)) ∧ (∀ x ∈ f', Nul g given x) ∧ ∀ r ∈ g, ready given f' r = false
  | 0, f, last, hn, hh, hs, hl => by
    have := nodup_le hn hh
    rw [List.length_map] at this
    omega
  | n + 1, f, last, hn, hh, hs, hl => by
    have hfl := nodup_le hn hh
    rw [List.length_map] at hfl
    obtain ⟨last₁, h1⟩ := hb_loop (gramD g) given g f false (clr 3 last) (by rw [lim_eq]; omega)
    obtain ⟨a1, a2, a3, a4, a5, a6, a7⟩ := hb_pass given g f false hn
    have hh' : ∀ x ∈ (g.foldl (hbStep given) (f, false)).1, x ∈ g.map (·.1) := fun x hx => (a3 x hx).elim (hh x) id
    have hs' : ∀ x ∈ (g.foldl (hbStep given) (f, false)).1, Nul g given x := fun x hx S hS => a4 S hS (fun y hy => hs y hy S hS) x hx
    generalize hq : g.foldl (hbStep given) (f, false) = q at *
    obtain ⟨f₁, c₁⟩ := q
    have h1' : forL (putN 4) B_heads_built_from_1 (g.map ruleD) [.val 0 (.list (g.map ruleD)), .val 0 (.list (given.map .str)), .val 1 (.list (f.map .str)), .val 0 (.bool false), clr 3 last] = some (.next [.val 0 (gramD g), .val 0 (sL given), .val 1 (sL f₁), .val 0 (.bool c₁), last₁]) := h1
    have body : B_heads_built_from_2 [.val 0 (gramD g), .val 0 (sL given), .val 1 (sL f), .val 0 (.bool true), last] = some (.next [.val 0 (gramD g), .val 0 (sL given), .val 1 (sL f₁), .val 0 (.bool c₁), last₁]) := by
      simp [B_heads_built_from_2, putN, put, clr_val, clr_un, seqG, ifG, asgG, appG, setG, retG, forG, cmpB, notO, view, slotView, bin, un, nameF, nameM, idxD, inD, Out.bind, keepB, Mk.isFu, Mk.isOwn, Mk.cl, childM, callF, callM, consF, listF, tupF, Mk.cat, Mk.sl, Mk.clean, D.imm, D.flat, Mk.fre, D.cont, boolF, truthB, andB, orB, D.items, D.isL, fnF, ini, lim, inL_strs, sL, gramD]
      rw [h1']
      simp [putN, put, clr_val, clr_un, seqG, ifG, asgG, appG, setG, retG, forG, cmpB, notO, view, slotView, bin, un, nameF, nameM, idxD, inD, Out.bind, keepB, Mk.isFu, Mk.isOwn, Mk.cl, childM, callF, callM, consF, listF, tupF, Mk.cat, Mk.sl, Mk.clean, D.imm, D.flat, Mk.fre, D.cont, boolF, truthB, andB, orB, D.items, D.isL, fnF, ini, lim, inL_strs, sL, gramD]
    have test : ∀ (x : Slot) (b : Bool), truthB (nameF 3) (view [.val 0 (gramD g), .val 0 (sL given), x, .val 0 (.bool b), last]) = some b := fun x b => rfl
    rw [whileL, test, Option.bind_some, if_pos rfl, body, Option.bind_some]
    show ∃ f' last', whileL (truthB (nameF 3)) B_heads_built_from_2 n _ = _ ∧ _
    cases c₁ with
    | true =>
      have hlt : f.length < f₁.length := (a5 rfl).elim (fun h => by cases h) id
      exact hb_while g given hg n f₁ last₁ a1 hh' hs' (by omega)
    | false =>
      obtain ⟨b1, b2⟩ := a6 rfl
      dsimp only at b1 b2
      subst b1
      obtain ⟨n', rfl⟩ : ∃ n', n = n' + 1 := ⟨n - 1, by omega⟩
      refine ⟨f₁, last₁, ?_, a1, hh', hs', b2⟩
      rfl
theorem φ_hbf (g : Gr) (given : List Str) (hg : g.length < 60) : ∃ f, φ_heads_built_from [gramD g, sL given] = some (sL (sortS f)) ∧ f.Nodup ∧ (∀ x ∈ f, x ∈ g.map (·.1)) ∧ ∀ x, x ∈ f ↔ Nul g given x := by
  obtain ⟨f, last', h, h1, h2, h3, h4⟩ := hb_while g given (by omega) 1000 [] .un List.nodup_nil (fun _ h => nomatch h) (fun _ h => nomatch h) (by simp; omega)
  have hl := nodup_le h1 h2
  rw [List.length_map] at hl
  have h' : whileL (truthB (nameF 3)) B_heads_built_from_2 1000 [.val 0 (.list (g.map ruleD)), .val 0 (.list (given.map .str)), .val 1 (.list []), .val 0 (.bool true), .un] = _ := h
  refine ⟨f, ?_, h1, h2, fun x => ⟨h3 x, fun hx => ?_⟩⟩
  · simp [φ_heads_built_from, G_heads_built_from, putN, put, clr_val, clr_un, seqG, ifG, asgG, appG, setG, retG, forG, cmpB, notO, view, slotView, bin, un, nameF, nameM, idxD, inD, Out.bind, keepB, Mk.isFu, Mk.isOwn, Mk.cl, childM, callF, callM, consF, listF, tupF, Mk.cat, Mk.sl, Mk.clean, D.imm, D.flat, Mk.fre, D.cont, boolF, truthB, andB, orB, D.items, D.isL, fnF, ini, lim, inL_strs, sL, gramD, List.replicate]
    rw [h']
    simp [putN, put, clr_val, clr_un, seqG, ifG, asgG, appG, setG, retG, forG, cmpB, notO, view, slotView, bin, un, nameF, nameM, idxD, inD, Out.bind, keepB, Mk.isFu, Mk.isOwn, Mk.cl, childM, callF, callM, consF, listF, tupF, Mk.cat, Mk.sl, Mk.clean, D.imm, D.flat, Mk.fre, D.cont, boolF, truthB, andB, orB, D.items, D.isL, fnF, ini, lim, inL_strs, sL, sortD, unStrs_sL, show f.length < 64 by omega]
  · refine hx (· ∈ f) fun r hr hs => ?_
    have := h4 r hr
    unfold ready at this
    by_cases hm : r.1 ∈ f
    · exact hm
    · exfalso
      have ha : (r.2.all fun s => decide (s ∈ given) || decide (s ∈ f)) = true := List.all_eq_true.mpr fun s hs' => by simpa using hs s hs'
      rw [ha] at this
      simp [hm] at this
theorem φ_null (g : Gr) (hg : g.length < 60) : ∃ f, φ_nullable_heads [gramD g] = some (sL (sortS f)) ∧ f.Nodup ∧ (∀ x ∈ f, x ∈ g.map (·.1)) ∧ ∀ x, x ∈ f ↔ Nul g [] x := by
  obtain ⟨f, h, r⟩ := φ_hbf g [] hg
  have h' : φ_heads_built_from [.list (g.map ruleD), .list []] = _ := h
  refine ⟨f, ?_, r⟩
  simp [φ_nullable_heads, G_nullable_heads, putN, put, clr_val, clr_un, seqG, ifG, asgG, appG, setG, retG, forG, cmpB, notO, view, slotView, bin, un, nameF, nameM, idxD, inD, Out.bind, keepB, Mk.isFu, Mk.isOwn, Mk.cl, childM, callF, callM, consF, listF, tupF, Mk.cat, Mk.sl, Mk.clean, D.imm, D.flat, Mk.fre, D.cont, boolF, truthB, andB, orB, D.items, D.isL, fnF, ini, lim, inL_strs, sL, gramD, List.replicate]
  rw [h']
  simp [putN, put, clr_val, clr_un, seqG, ifG, asgG, appG, setG, retG, forG, cmpB, notO, view, slotView, bin, un, nameF, nameM, idxD, inD, Out.bind, keepB, Mk.isFu, Mk.isOwn, Mk.cl, childM, callF, callM, consF, listF, tupF, Mk.cat, Mk.sl, Mk.clean, D.imm, D.flat, Mk.fre, D.cont, boolF, truthB, andB, orB, D.items, D.isL, fnF, ini, lim, inL_strs, sL]
end Mine

set_option autoImplicit false
open PySem PyProof.Rows
namespace Mine
set_option linter.unusedVariables false
set_option linter.unusedSimpArgs false
set_option maxRecDepth 100000

theorem flat_strs (ss : List Str) : (ss.map D.str).all D.imm = true := by
  rw [List.all_eq_true]
  intro d hd
  obtain ⟨s, _, rfl⟩ := List.mem_map.mp hd
  rfl
theorem lookup_dict (F : Gr) (s : Str) : (F.map fun p => (p.1, sL p.2)).lookup s = (F.lookup s).map sL := by
  induction F with
  | nil => rfl
  | cons p r ih =>
    obtain ⟨k, v⟩ := p
    rw [List.map_cons, List.lookup_cons, List.lookup_cons]
    cases h : s == k with
    | true => rfl
    | false => exact ih
theorem eqL_strs : ∀ (a b : List Str), a.length = b.length → eqL (eqD 39) (a.map .str) (b.map .str) = some (decide (a = b))
  | [], [], _ => by simp [eqL]
  | [], _ :: _, h => by simp at h
  | _ :: _, [], h => by simp at h
  | x :: a, y :: b, h => by
    have ih := eqL_strs a b (by simpa using h)
    simp only [List.map_cons, eqL, eqD, Option.bind_some, ih]
    by_cases h1 : x = y <;> by_cases h2 : a = b <;> simp [h1, h2]
theorem eqD_strs (a b : List Str) : eqD 40 (.list (a.map .str)) (.list (b.map .str)) = some (decide (a = b)) := by
  unfold eqD
  by_cases h : a.length = b.length
  · rw [if_pos (by simpa using h), eqL_strs a b h]
  · rw [if_neg (by simpa using h)]
    have : a ≠ b := fun e => h (e ▸ rfl)
    simp [this]
/-! canonical lists -/
def Canon (l : List Str) : Prop := l.Nodup ∧ l.Pairwise fun a b => leS a b = true
theorem canon_sort {l : List Str} (h : l.Nodup) : Canon (sortS l) := ⟨(sortS_perm l).nodup_iff.mpr h, sortS_sorted l⟩
theorem canon_eq {a b : List Str} (ha : Canon a) (hb : Canon b) (h : ∀ x, x ∈ a ↔ x ∈ b) : a = b := by
  have hp : a.Perm b := (List.perm_ext_iff_of_nodup ha.1 hb.1).mpr h
  exact List.Perm.eq_of_pairwise (fun x y _ _ h h' => leS_antisymm h h') ha.2 hb.2 hp
theorem canon_nil : Canon [] := ⟨List.nodup_nil, .nil⟩
theorem canon_mrg (a b : List Str) : Canon (mrg a b) := canon_sort (dedup_nodup _)
theorem mem_mrg {a b : List Str} {x : Str} : x ∈ mrg a b ↔ x ∈ a ∨ x ∈ b := by unfold mrg; rw [mem_sortS, mem_dedup, List.mem_append]
theorem nodup_sub_eq {a b : List Str} (ha : a.Nodup) (hs : ∀ x ∈ a, x ∈ b) (hl : b.length ≤ a.length) : ∀ x ∈ b, x ∈ a := fun x hx => by
  refine Classical.byContradiction fun hn => ?_
  have := nodup_le (l := x :: a) (m := b) (List.nodup_cons.mpr ⟨hn, ha⟩) fun y hy => (List.mem_cons.mp hy).elim (fun e => e ▸ hx) (hs y)
  rw [List.length_cons] at this; omega
theorem mrg_grows {a b : List Str} (ha : Canon a) (h : mrg a b ≠ a) : a.length < (mrg a b).length := by
  refine Nat.lt_of_not_le fun hl => h ?_
  have hs : ∀ x ∈ a, x ∈ mrg a b := fun x hx => mem_mrg.mpr (.inl hx)
  exact canon_eq (canon_mrg a b) ha fun x => ⟨nodup_sub_eq ha.1 hs hl x, hs x⟩
/-! first_of_string -/
def fos (F : Gr) (N : List Str) : List Str → List Str → List Str × Bool
  | acc, [] => (acc, true)
  | acc, s :: r => match F.lookup s with
    | none => (mrg acc [s], false)
    | some l => if s ∈ N then fos F N (mrg acc l) r else (mrg acc l, false)
def Within (U l : List Str) : Prop := l.Nodup ∧ ∀ x ∈ l, x ∈ U
def OkF (U : List Str) (F : Gr) : Prop := ∀ s l, F.lookup s = some l → Within U l
theorem Within.len {U l : List Str} (h : Within U l) : l.length ≤ U.length := nodup_le h.1 h.2
theorem within_mrg {U a b : List Str} (ha : ∀ x ∈ a, x ∈ U) (hb : ∀ x ∈ b, x ∈ U) : Within U (mrg a b) := ⟨(canon_mrg a b).1, fun x hx => (mem_mrg.mp hx).elim (ha x) (hb x)⟩
theorem fos_loop (U : List Str) (hU : U.length ≤ 30) (dsy : D) (F : Gr) (N : List Str) (hF : OkF U F) : ∀ (body acc : List Str) (last : Slot), Within U acc →
    (∃ r, fos F N acc body = (r, true) ∧ ∃ last', forL (putN 4) B_first_of_string_1 (body.map .str) [.val 0 dsy, .val 0 (dictD F), .val 0 (sL N), .val 0 (sL acc), last] = some (.next [.val 0 dsy, .val 0 (dictD F), .val 0 (sL N), .val 0 (sL r), last'])) ∨
    (∃ r, fos F N acc body = (r, false) ∧ forL (putN 4) B_first_of_string_1 (body.map .str) [.val 0 dsy, .val 0 (dictD F), .val 0 (sL N), .val 0 (sL acc), last] = some (.ret (.tup [sL r, .bool false])))
  | [], acc, last, _ => .inl ⟨acc, rfl, last, rfl⟩
  | s :: body, acc, last, hacc => by
    have hput : putN 4 [.val 0 dsy, .val 0 (dictD F), .val 0 (sL N), .val 0 (sL acc), last] (.str s) = some [.val 0 dsy, .val 0 (dictD F), .val 0 (sL N), .val 0 (sL acc), .val 0 (.str s)] := rfl
    rw [List.map_cons, forL, hput, Option.bind_some, fos]
    have hlook := lookup_dict F s
    have hal := hacc.len
    cases hs : F.lookup s with
    | none =>
      right
      rw [hs] at hlook
      refine ⟨_, rfl, ?_⟩
      have hm : φ_merged [.list (acc.map .str), .list [.str s]] = some (sL (mrg acc [s])) := φ_mrg acc [s] (by simp; omega)
      simp only [sL, Option.map_none] at hlook hm
      simp [B_first_of_string_1, putN, put, clr_val, clr_un, seqG, ifG, asgG, appG, setG, retG, forG, cmpB, notO, view, slotView, bin, un, nameF, nameM, idxD, inD, Out.bind, keepB, Mk.isFu, Mk.isOwn, Mk.cl, childM, callF, callM, consF, listF, tupF, Mk.cat, Mk.sl, Mk.clean, D.imm, D.flat, Mk.fre, D.cont, boolF, truthB, andB, orB, D.items, D.isL, fnF, ini, lim, inL_strs, sL, dictD, hlook, hm]
    | some l =>
      rw [hs] at hlook
      have hl := hF s l hs
      have hll := hl.len
      have hm : φ_merged [.list (acc.map .str), .list (l.map .str)] = some (sL (mrg acc l)) := φ_mrg acc l (by omega)
      by_cases hN : s ∈ N
      · simp only [if_pos hN]
        have key : B_first_of_string_1 [.val 0 dsy, .val 0 (dictD F), .val 0 (sL N), .val 0 (sL acc), .val 0 (.str s)] = some (.next [.val 0 dsy, .val 0 (dictD F), .val 0 (sL N), .val 0 (sL (mrg acc l)), .val 0 (.str s)]) := by
          simp only [sL, Option.map_some] at hlook hm
          simp [B_first_of_string_1, putN, put, clr_val, clr_un, seqG, ifG, asgG, appG, setG, retG, forG, cmpB, notO, view, slotView, bin, un, nameF, nameM, idxD, inD, Out.bind, keepB, Mk.isFu, Mk.isOwn, Mk.cl, childM, callF, callM, consF, listF, tupF, Mk.cat, Mk.sl, Mk.clean, D.imm, D.flat, Mk.fre, D.cont, boolF, truthB, andB, orB, D.items, D.isL, fnF, ini, lim, inL_strs, sL, dictD, hlook, hm, hN]
        rw [key, Option.bind_some]
        exact fos_loop U hU dsy F N hF body (mrg acc l) (.val 0 (.str s)) (within_mrg hacc.2 hl.2)
      · simp only [if_neg hN]
        right
        refine ⟨_, rfl, ?_⟩
        simp only [sL, Option.map_some] at hlook hm
        simp [B_first_of_string_1, putN, put, clr_val, clr_un, seqG, ifG, asgG, appG, setG, retG, forG, cmpB, notO, view, slotView, bin, un, nameF, nameM, idxD, inD, Out.bind, keepB, Mk.isFu, Mk.isOwn, Mk.cl, childM, callF, callM, consF, listF, tupF, Mk.cat, Mk.sl, Mk.clean, D.imm, D.flat, Mk.fre, D.cont, boolF, truthB, andB, orB, D.items, D.isL, fnF, ini, lim, inL_strs, sL, dictD, hlook, hm, hN]
theorem φ_fos (U : List Str) (hU : U.length ≤ 30) (F : Gr) (N body : List Str) (hF : OkF U F) : φ_first_of_string [sL body, dictD F, sL N] = some (.tup [sL (fos F N [] body).1, .bool (fos F N [] body).2]) := by
  rcases fos_loop U hU (sL body) F N hF body [] .un ⟨List.nodup_nil, fun _ h => nomatch h⟩ with ⟨r, h1, last', h2⟩ | ⟨r, h1, h2⟩
  · have h2' : forL (putN 4) B_first_of_string_1 (body.map .str) [.val 0 (.list (body.map .str)), .val 0 (.dict (F.map fun p => (p.1, .list (p.2.map .str)))), .val 0 (.list (N.map .str)), .val 0 (.list []), .un] = _ := h2
    simp [φ_first_of_string, G_first_of_string, putN, put, clr_val, clr_un, seqG, ifG, asgG, appG, setG, retG, forG, cmpB, notO, view, slotView, bin, un, nameF, nameM, idxD, inD, Out.bind, keepB, Mk.isFu, Mk.isOwn, Mk.cl, childM, callF, callM, consF, listF, tupF, Mk.cat, Mk.sl, Mk.clean, D.imm, D.flat, Mk.fre, D.cont, boolF, truthB, andB, orB, D.items, D.isL, fnF, ini, lim, inL_strs, sL, dictD, List.replicate, h1]
    rw [h2']
    simp [putN, put, clr_val, clr_un, seqG, ifG, asgG, appG, setG, retG, forG, cmpB, notO, view, slotView, bin, un, nameF, nameM, idxD, inD, Out.bind, keepB, Mk.isFu, Mk.isOwn, Mk.cl, childM, callF, callM, consF, listF, tupF, Mk.cat, Mk.sl, Mk.clean, D.imm, D.flat, Mk.fre, D.cont, boolF, truthB, andB, orB, D.items, D.isL, fnF, ini, lim, inL_strs, sL]
  · have h2' : forL (putN 4) B_first_of_string_1 (body.map .str) [.val 0 (.list (body.map .str)), .val 0 (.dict (F.map fun p => (p.1, .list (p.2.map .str)))), .val 0 (.list (N.map .str)), .val 0 (.list []), .un] = _ := h2
    simp [φ_first_of_string, G_first_of_string, putN, put, clr_val, clr_un, seqG, ifG, asgG, appG, setG, retG, forG, cmpB, notO, view, slotView, bin, un, nameF, nameM, idxD, inD, Out.bind, keepB, Mk.isFu, Mk.isOwn, Mk.cl, childM, callF, callM, consF, listF, tupF, Mk.cat, Mk.sl, Mk.clean, D.imm, D.flat, Mk.fre, D.cont, boolF, truthB, andB, orB, D.items, D.isL, fnF, ini, lim, inL_strs, sL, dictD, List.replicate, h1]
    rw [h2']
    simp [putN, put, clr_val, clr_un, seqG, ifG, asgG, appG, setG, retG, forG, cmpB, notO, view, slotView, bin, un, nameF, nameM, idxD, inD, Out.bind, keepB, Mk.isFu, Mk.isOwn, Mk.cl, childM, callF, callM, consF, listF, tupF, Mk.cat, Mk.sl, Mk.clean, D.imm, D.flat, Mk.fre, D.cont, boolF, truthB, andB, orB, D.items, D.isL, fnF, ini, lim, inL_strs, sL]
/-- what a string can begin with, by a relation T of heads to tokens -/
def InFos (hs N : List Str) (T : Str → Str → Prop) : List Str → Str → Prop
  | [], _ => False
  | s :: r, x => (s ∉ hs ∧ x = s) ∨ (s ∈ hs ∧ (T s x ∨ (s ∈ N ∧ InFos hs N T r x)))
theorem InFos.mono {hs N : List Str} {T T' : Str → Str → Prop} (h : ∀ s x, T s x → T' s x) : ∀ {body : List Str} {x : Str}, InFos hs N T body x → InFos hs N T' body x
  | s :: r, x, .inl a => .inl a
  | s :: r, x, .inr ⟨a, .inl b⟩ => .inr ⟨a, .inl (h s x b)⟩
  | s :: r, x, .inr ⟨a, .inr ⟨b, c⟩⟩ => .inr ⟨a, .inr ⟨b, InFos.mono h c⟩⟩
def relOf (F : Gr) (s x : Str) : Prop := ∃ l, F.lookup s = some l ∧ x ∈ l
theorem lookup_keys {F : Gr} {s : Str} : F.lookup s = none ↔ s ∉ F.map (·.1) := by
  induction F with
  | nil => simp
  | cons p r ih =>
    obtain ⟨k, v⟩ := p
    rw [List.lookup_cons]
    by_cases h : s = k
    · subst h; simp
    · have hb : (s == k) = false := by simpa using h
      rw [hb]
      simp only [List.map_cons, List.mem_cons, h, false_or]
      exact ih
theorem mem_fos {F : Gr} {N : List Str} : ∀ {body acc : List Str} {x : Str}, x ∈ (fos F N acc body).1 ↔ x ∈ acc ∨ InFos (F.map (·.1)) N (relOf F) body x
  | [], acc, x => by simp [fos, InFos]
  | s :: r, acc, x => by
    unfold fos InFos
    cases h : F.lookup s with
    | none =>
      have hk := lookup_keys.mp h
      simp only [mem_mrg, List.mem_singleton]
      constructor
      · rintro (a | a)
        · exact .inl a
        · exact .inr (.inl ⟨hk, a⟩)
      · rintro (a | ⟨_, a⟩ | ⟨a, _⟩)
        · exact .inl a
        · exact .inr a
        · exact absurd a hk
    | some l =>
      have hk : s ∈ F.map (·.1) := Classical.byContradiction fun hn => by rw [lookup_keys.mpr hn] at h; cases h
      have hrel : relOf F s x ↔ x ∈ l := ⟨fun ⟨l', a, b⟩ => by rw [h] at a; cases a; exact b, fun a => ⟨l, h, a⟩⟩
      by_cases hN : s ∈ N
      · simp only [hN, if_true]
        rw [mem_fos (body := r), mem_mrg, hrel]
        constructor
        · rintro ((a | a) | a)
          · exact .inl a
          · exact .inr (.inr ⟨hk, .inl a⟩)
          · exact .inr (.inr ⟨hk, .inr ⟨trivial, a⟩⟩)
        · rintro (a | ⟨a, _⟩ | ⟨_, a | ⟨_, a⟩⟩)
          · exact .inl (.inl a)
          · exact absurd hk a
          · exact .inl (.inr a)
          · exact .inr a
      · simp only [hN, if_false]
        rw [mem_mrg, hrel]
        constructor
        · rintro (a | a)
          · exact .inl a
          · exact .inr (.inr ⟨hk, .inl a⟩)
        · rintro (a | ⟨a, _⟩ | ⟨_, a | ⟨a, _⟩⟩)
          · exact .inl a
          · exact absurd hk a
          · exact .inr a
          · exact absurd a id
theorem fos_canon {F : Gr} {N : List Str} : ∀ {body acc : List Str}, Canon acc → Canon (fos F N acc body).1
  | [], acc, h => h
  | s :: r, acc, h => by
    unfold fos
    split
    · exact canon_mrg _ _
    · split
      · exact fos_canon (canon_mrg _ _)
      · exact canon_mrg _ _
theorem fos_vanish {F : Gr} {N : List Str} (hN : ∀ s ∈ N, s ∈ F.map (·.1)) : ∀ {body acc : List Str}, (fos F N acc body).2 = decide (∀ s ∈ body, s ∈ N)
  | [], acc => by simp [fos]
  | s :: r, acc => by
    unfold fos
    cases h : F.lookup s with
    | none =>
      have hk := lookup_keys.mp h
      have : s ∉ N := fun a => hk (hN s a)
      simp [this]
    | some l =>
      by_cases hs : s ∈ N
      · simp only [hs, if_true]
        rw [fos_vanish hN]
        simp [hs]
      · simp [hs]
theorem fos_within {U : List Str} {F : Gr} {N : List Str} (hF : OkF U F) : ∀ {body acc : List Str}, (∀ s ∈ body, s ∈ U) → (∀ s ∈ acc, s ∈ U) → ∀ x ∈ (fos F N acc body).1, x ∈ U
  | [], acc, _, h => h
  | s :: r, acc, hb, h => by
    unfold fos
    split
    · intro x hx; exact (mem_mrg.mp hx).elim (h x) fun q => by simp at q; subst q; exact hb x (.head _)
    · rename_i l hl
      have : ∀ x ∈ mrg acc l, x ∈ U := fun x hx => (mem_mrg.mp hx).elim (h x) fun q => (hF s l hl).2 x q
      split
      · exact fos_within hF (fun t ht => hb t (.tail _ ht)) this
      · exact this
end Mine

set_option autoImplicit false
open PySem PyProof.Rows
namespace Mine
set_option linter.unusedVariables false
set_option linter.unusedSimpArgs false
set_option maxRecDepth 100000

def storeF : Gr → Str → List Str → Gr
  | [], k, v => [(k, v)]
  | (k₀, v₀) :: r, k, v => if k₀ = k then (k₀, v) :: r else (k₀, v₀) :: storeF r k v
theorem storedD_map (F : Gr) (k : Str) (v : List Str) : storedD (F.map fun p => (p.1, sL p.2)) k (sL v) = (storeF F k v).map fun p => (p.1, sL p.2) := by
  induction F with
  | nil => rfl
  | cons p r ih =>
    obtain ⟨k₀, v₀⟩ := p
    simp only [List.map_cons, storedD, storeF]
    split
    · rfl
    · rw [ih]; rfl
theorem storeF_lookup (F : Gr) (k : Str) (v : List Str) (s : Str) : (storeF F k v).lookup s = if s = k then some v else F.lookup s := by
  induction F with
  | nil =>
    simp only [storeF, List.lookup_cons, List.lookup_nil]
    by_cases h : s = k
    · subst h; simp
    · have hb : (s == k) = false := by simpa using h
      simp [hb, h]
  | cons p r ih =>
    obtain ⟨k₀, v₀⟩ := p
    unfold storeF
    split
    · rename_i h
      subst h
      rw [List.lookup_cons, List.lookup_cons]
      by_cases h : s = k₀
      · subst h; simp
      · have hb : (s == k₀) = false := by simpa using h
        rw [hb, if_neg h]
    · rename_i h
      rw [List.lookup_cons, List.lookup_cons, ih]
      by_cases h1 : s = k₀
      · subst h1
        have hb : (s == s) = true := by simp
        simp [hb, h]
      · have hb : (s == k₀) = false := by simpa using h1
        rw [hb]
theorem storeF_keys {F : Gr} {k : Str} {v : List Str} (h : k ∈ F.map (·.1)) : (storeF F k v).map (·.1) = F.map (·.1) := by
  induction F with
  | nil => cases h
  | cons p r ih =>
    obtain ⟨k₀, v₀⟩ := p
    unfold storeF
    split
    · rfl
    · rename_i hk
      rw [List.map_cons, List.map_cons, ih]
      rcases List.mem_cons.mp h with e | e
      · exact absurd e.symm hk
      · exact e
theorem storeF_new {F : Gr} {k : Str} {v : List Str} (h : k ∉ F.map (·.1)) : storeF F k v = F ++ [(k, v)] := by
  induction F with
  | nil => rfl
  | cons p r ih =>
    obtain ⟨k₀, v₀⟩ := p
    unfold storeF
    rw [if_neg (show ¬ k₀ = k from fun e => h (e ▸ List.mem_cons_self)), ih fun e => h (List.mem_cons_of_mem _ e)]
    rfl
theorem keys_len (F : Gr) : (F.map fun p => (p.1, sL p.2)).length = F.length := List.length_map ..
/-! first_sets: the start -/
theorem fs_start (dg dN : D) : ∀ (hs : List Str) (F : Gr) (s3 s4 s5 s6 : Slot), F.length + hs.length < lim → (F.map (·.1) ++ hs).Nodup →
    ∃ s3' s4' s5' s6', forL (putN 3) B_first_sets_1 (hs.map .str) [.val 0 dg, .val 0 dN, .val 1 (dictD F), s3, s4, s5, s6] = some (.next [.val 0 dg, .val 0 dN, .val 1 (dictD (F ++ hs.map fun h => (h, []))), s3', s4', s5', s6'])
  | [], F, s3, s4, s5, s6, _, _ => ⟨s3, s4, s5, s6, by simp [forL]⟩
  | h :: hs, F, s3, s4, s5, s6, hl, hn => by
    rw [List.length_cons] at hl
    have hnk : h ∉ F.map (·.1) := fun hm => (List.nodup_append.mp hn).2.2 h hm h (.head _) rfl
    obtain ⟨a3, a4, a5, a6, ih⟩ := fs_start dg dN hs (F ++ [(h, [])]) (.val 0 (.str h)) (clr 2 (clr 3 s4)) (clr 2 (clr 3 s5)) (clr 2 (clr 3 s6)) (by simp; omega) (by simpa using hn)
    refine ⟨a3, a4, a5, a6, ?_⟩
    rw [List.map_cons, forL]
    have e : (F ++ [(h, [])]) ++ hs.map (fun h => (h, ([] : List Str))) = F ++ (h :: hs).map fun h => (h, []) := by simp
    rw [e] at ih
    rw [← ih]
    have hst := storedD_map F h []
    rw [storeF_new hnk] at hst
    have h2 : F.length < 100000 := by rw [lim_eq] at hl; omega
    have hst' : storedD (F.map fun p => (p.1, .list (p.2.map .str))) h (.list []) = _ := hst
    simp [B_first_sets_1, putN, put, clr_val, clr_un, seqG, ifG, asgG, appG, setG, retG, forG, cmpB, notO, view, slotView, bin, un, nameF, nameM, idxD, inD, Out.bind, keepB, Mk.isFu, Mk.isOwn, Mk.cl, childM, callF, callM, consF, listF, tupF, Mk.cat, Mk.sl, Mk.clean, D.imm, D.flat, Mk.fre, D.cont, boolF, truthB, andB, orB, D.items, D.isL, fnF, ini, lim, inL_strs, sL, dictD, hst', h2]
/-! first_sets: the passes -/
def fsStep (N : List Str) (p : Gr × Bool) (r : Str × List Str) : Gr × Bool :=
  match p.1.lookup r.1 with
  | none => p
  | some l => if mrg l (fos p.1 N [] r.2).1 = l then p else (storeF p.1 r.1 (mrg l (fos p.1 N [] r.2).1), true)
structure FsInv (U hs : List Str) (F : Gr) : Prop where
  keys : F.map (·.1) = hs
  ok : OkF U F
  can : ∀ s l, F.lookup s = some l → Canon l
theorem FsInv.some {U hs : List Str} {F : Gr} (i : FsInv U hs F) {s : Str} (h : s ∈ hs) : ∃ l, F.lookup s = some l := by
  cases e : F.lookup s with
  | none => exact absurd (i.keys ▸ h) (lookup_keys.mp e)
  | some l => exact ⟨l, rfl⟩
theorem FsInv.store {U hs : List Str} {F : Gr} (i : FsInv U hs F) {k : Str} {v : List Str} (hk : k ∈ hs) (hv : ∀ x ∈ v, x ∈ U) (hc : Canon v) : FsInv U hs (storeF F k v) := by
  refine ⟨(storeF_keys (i.keys ▸ hk)).trans i.keys, fun s l h => ?_, fun s l h => ?_⟩
  · rw [storeF_lookup] at h
    split at h
    · cases h; exact ⟨hc.1, hv⟩
    · exact i.ok s l h
  · rw [storeF_lookup] at h
    split at h
    · cases h; exact hc
    · exact i.can s l h
theorem fs_step {U hs N : List Str} (hU : U.length ≤ 30) {F : Gr} {c : Bool} {r : Str × List Str} (i : FsInv U hs F) (hr : r.1 ∈ hs) (hb : ∀ s ∈ r.2, s ∈ U) : FsInv U hs (fsStep N (F, c) r).1 := by
  obtain ⟨l, hl⟩ := i.some hr
  unfold fsStep
  simp only [hl]
  split
  · exact i
  · refine i.store hr (fun x hx => ?_) (canon_mrg _ _)
    rcases mem_mrg.mp hx with h | h
    · exact (i.ok _ l hl).2 x h
    · exact fos_within i.ok hb (by intro _ h; cases h) x h
theorem fs_loop (U hs N : List Str) (hU : U.length ≤ 30) (hlh : hs.length < 1000) (dg : D) : ∀ (g : Gr) (F : Gr) (c : Bool) (s3 s5 s6 : Slot), FsInv U hs F → (∀ r ∈ g, r.1 ∈ hs ∧ ∀ s ∈ r.2, s ∈ U) →
    ∃ s3' s5' s6', forL (putN 5) B_first_sets_2 (g.map ruleD) [.val 0 dg, .val 0 (sL N), .val 1 (dictD F), s3, .val 0 (.bool c), s5, s6] = some (.next [.val 0 dg, .val 0 (sL N), .val 1 (dictD (g.foldl (fsStep N) (F, c)).1), s3', .val 0 (.bool (g.foldl (fsStep N) (F, c)).2), s5', s6'])
  | [], F, c, s3, s5, s6, _, _ => ⟨s3, s5, s6, rfl⟩
  | r :: g, F, c, s3, s5, s6, i, hg => by
    obtain ⟨hr, hb⟩ := hg r (.head _)
    have i' : FsInv U hs (fsStep N (F, c) r).1 := fs_step hU i hr hb
    obtain ⟨l, hl⟩ := i.some hr
    have hFl : F.length < 100000 := by have := congrArg List.length i.keys; rw [List.length_map] at this; omega
    have hlook := lookup_dict F r.1
    rw [hl] at hlook
    have hwl := (i.ok _ l hl).len
    have hfw : Within U (fos F N [] r.2).1 := ⟨(fos_canon canon_nil).1, fos_within i.ok hb (by intro _ h; cases h)⟩
    have hfl := hfw.len
    have hfos : φ_first_of_string [.list (r.2.map .str), .dict (F.map fun p => (p.1, .list (p.2.map .str))), .list (N.map .str)] = _ := φ_fos U hU F N r.2 i.ok
    have hm : φ_merged [.list (l.map .str), .list ((fos F N [] r.2).1.map .str)] = some (sL (mrg l (fos F N [] r.2).1)) := φ_mrg l _ (by omega)
    have hst : storedD (F.map fun p => (p.1, .list (p.2.map .str))) r.1 (.list ((mrg l (fos F N [] r.2).1).map .str)) = _ := storedD_map F r.1 (mrg l (fos F N [] r.2).1)
    simp only [sL, Option.map_some] at hlook hm hfos hst
    rw [List.map_cons, forL, List.foldl_cons]
    have hput : putN 5 [.val 0 dg, .val 0 (sL N), .val 1 (dictD F), s3, .val 0 (.bool c), s5, s6] (ruleD r) = some [.val 0 dg, .val 0 (sL N), .val 1 (dictD F), clr 5 s3, .val 0 (.bool c), .val 0 (ruleD r), clr 5 s6] := rfl
    rw [hput, Option.bind_some]
    by_cases he : mrg l (fos F N [] r.2).1 = l
    · have hstep : fsStep N (F, c) r = (F, c) := by unfold fsStep; simp only [hl, he, if_true]
      rw [hstep] at i' ⊢
      obtain ⟨a3, a5, a6, ih⟩ := fs_loop U hs N hU hlh dg g F c (clr 6 (clr 5 s3)) (.val 0 (ruleD r)) (.val 0 (sL l)) i fun q hq => hg q (.tail _ hq)
      refine ⟨a3, a5, a6, ?_⟩
      rw [← ih]
      rw [he] at hm
      simp [B_first_sets_2, putN, put, clr_val, clr_un, seqG, ifG, asgG, appG, setG, retG, forG, cmpB, notO, view, slotView, bin, un, nameF, nameM, idxD, inD, Out.bind, keepB, Mk.isFu, Mk.isOwn, Mk.cl, childM, callF, callM, consF, listF, tupF, Mk.cat, Mk.sl, Mk.clean, D.imm, D.flat, Mk.fre, D.cont, boolF, truthB, andB, orB, D.items, D.isL, fnF, ini, lim, inL_strs, sL, dictD, ruleD, hlook, hfos, hm, eqD_strs, flat_strs]
    · have hstep : fsStep N (F, c) r = (storeF F r.1 (mrg l (fos F N [] r.2).1), true) := by unfold fsStep; simp only [hl, he, if_false]
      rw [hstep] at i' ⊢
      obtain ⟨a3, a5, a6, ih⟩ := fs_loop U hs N hU hlh dg g (storeF F r.1 (mrg l (fos F N [] r.2).1)) true (clr 4 (clr 2 (clr 6 (clr 5 s3)))) (.val 0 (ruleD r)) (.val 0 (sL (mrg l (fos F N [] r.2).1))) i' fun q hq => hg q (.tail _ hq)
      refine ⟨a3, a5, a6, ?_⟩
      rw [← ih]
      simp [B_first_sets_2, putN, put, clr_val, clr_un, seqG, ifG, asgG, appG, setG, retG, forG, cmpB, notO, view, slotView, bin, un, nameF, nameM, idxD, inD, Out.bind, keepB, Mk.isFu, Mk.isOwn, Mk.cl, childM, callF, callM, consF, listF, tupF, Mk.cat, Mk.sl, Mk.clean, D.imm, D.flat, Mk.fre, D.cont, boolF, truthB, andB, orB, D.items, D.isL, fnF, ini, lim, inL_strs, sL, dictD, ruleD, hlook, hfos, hm, eqD_strs, flat_strs, he, hst, hFl]
end Mine

set_option autoImplicit false
open PySem PyProof.Rows
namespace Mine
set_option linter.unusedVariables false
set_option linter.unusedSimpArgs false
set_option maxRecDepth 100000

def FClosed (g : Gr) (hs N : List Str) (T : Str → Str → Prop) : Prop := ∀ r ∈ g, ∀ x, InFos hs N T r.2 x → T r.1 x
def First (g : Gr) (hs N : List Str) (h x : Str) : Prop := ∀ T : Str → Str → Prop, FClosed g hs N T → T h x
def total (F : Gr) : Nat := (F.map fun p => p.2.length).sum
theorem total_store : ∀ {F : Gr} {k : Str} {l v : List Str}, F.lookup k = some l → total (storeF F k v) + l.length = total F + v.length
  | [], k, l, v, h => by cases h
  | (k₀, v₀) :: r, k, l, v, h => by
    rw [List.lookup_cons] at h
    unfold storeF
    by_cases e : k₀ = k
    · subst e
      simp at h
      subst h
      rw [if_pos rfl]
      simp [total]; omega
    · have hb : (k == k₀) = false := by simpa using Ne.symm e
      rw [hb] at h
      rw [if_neg e]
      have := total_store (v := v) h
      simp only [total, List.map_cons, List.sum_cons] at this ⊢
      omega
theorem lookup_of_mem : ∀ {F : Gr} {p : Str × List Str}, (F.map (·.1)).Nodup → p ∈ F → F.lookup p.1 = some p.2
  | [], p, _, h => by cases h
  | (k₀, v₀) :: r, p, hn, h => by
    rw [List.map_cons, List.nodup_cons] at hn
    rw [List.lookup_cons]
    rcases List.mem_cons.mp h with e | e
    · subst e; simp
    · have : p.1 ≠ k₀ := fun q => hn.1 (q ▸ List.mem_map_of_mem (f := (·.1)) e)
      have hb : (p.1 == k₀) = false := by simpa using this
      rw [hb]
      exact lookup_of_mem hn.2 e
theorem total_le : ∀ {F : Gr} {B : Nat}, (∀ p ∈ F, p.2.length ≤ B) → total F ≤ F.length * B
  | [], B, _ => by simp [total]
  | p :: r, B, h => by
    have := total_le (F := r) (B := B) fun q hq => h q (.tail _ hq)
    have := h p (.head _)
    simp only [total, List.map_cons, List.sum_cons, List.length_cons] at *
    rw [Nat.add_mul]; omega
theorem FsInv.total_le {U hs : List Str} {F : Gr} (i : FsInv U hs F) (hn : hs.Nodup) : total F ≤ hs.length * U.length := by
  have hl : F.length = hs.length := by rw [← i.keys, List.length_map]
  rw [← hl]
  exact Mine.total_le fun p hp => (i.ok p.1 p.2 (lookup_of_mem (i.keys ▸ hn) hp)).len
theorem relOf_store {F : Gr} {k : Str} {v : List Str} {s x : Str} (h : relOf (storeF F k v) s x) : (s = k ∧ x ∈ v) ∨ (s ≠ k ∧ relOf F s x) := by
  obtain ⟨l, h1, h2⟩ := h
  rw [storeF_lookup] at h1
  split at h1
  · rename_i e; cases h1; exact .inl ⟨e, h2⟩
  · rename_i e; exact .inr ⟨e, l, h1, h2⟩
theorem fs_pass {U hs N : List Str} (hU : U.length ≤ 30) : ∀ (g : Gr) (F : Gr) (c : Bool), FsInv U hs F → (∀ r ∈ g, r.1 ∈ hs ∧ ∀ s ∈ r.2, s ∈ U) →
    FsInv U hs (g.foldl (fsStep N) (F, c)).1 ∧ total F ≤ total (g.foldl (fsStep N) (F, c)).1 ∧ ((g.foldl (fsStep N) (F, c)).2 = true → c = true ∨ total F < total (g.foldl (fsStep N) (F, c)).1) ∧
    ((g.foldl (fsStep N) (F, c)).2 = false → c = false ∧ (g.foldl (fsStep N) (F, c)).1 = F ∧ ∀ r ∈ g, ∀ l, F.lookup r.1 = some l → mrg l (fos F N [] r.2).1 = l) ∧
    (∀ T : Str → Str → Prop, (∀ r ∈ g, ∀ x, InFos hs N T r.2 x → T r.1 x) → (∀ s x, relOf F s x → T s x) → ∀ s x, relOf (g.foldl (fsStep N) (F, c)).1 s x → T s x)
  | [], F, c, i, _ => ⟨i, Nat.le_refl _, fun h => .inl h, fun h => ⟨h, rfl, fun _ h => nomatch h⟩, fun _ _ h => h⟩
  | r :: g, F, c, i, hg => by
    obtain ⟨hr, hb⟩ := hg r (.head _)
    obtain ⟨l, hl⟩ := i.some hr
    have i' : FsInv U hs (fsStep N (F, c) r).1 := fs_step hU i hr hb
    rw [List.foldl_cons]
    by_cases he : mrg l (fos F N [] r.2).1 = l
    · have hstep : fsStep N (F, c) r = (F, c) := by unfold fsStep; simp only [hl, he, if_true]
      rw [hstep]
      obtain ⟨a1, a2, a3, a4, a5⟩ := fs_pass hU g F c i fun q hq => hg q (.tail _ hq)
      refine ⟨a1, a2, a3, fun h => ?_, fun T hT => a5 T fun q hq => hT q (.tail _ hq)⟩
      obtain ⟨b1, b2, b3⟩ := a4 h
      refine ⟨b1, b2, fun q hq l' hl' => ?_⟩
      rcases List.mem_cons.mp hq with rfl | hq
      · rw [hl] at hl'; cases hl'; exact he
      · exact b3 q hq l' hl'
    · have hstep : fsStep N (F, c) r = (storeF F r.1 (mrg l (fos F N [] r.2).1), true) := by unfold fsStep; simp only [hl, he, if_false]
      rw [hstep] at i' ⊢
      obtain ⟨a1, a2, a3, a4, a5⟩ := fs_pass hU g (storeF F r.1 (mrg l (fos F N [] r.2).1)) true i' fun q hq => hg q (.tail _ hq)
      have ht := total_store (v := mrg l (fos F N [] r.2).1) hl
      have hgr := mrg_grows (i.can _ l hl) he
      refine ⟨a1, by omega, fun _ => .inr (by omega), fun h => ?_, fun T hT hF => a5 T (fun q hq => hT q (.tail _ hq)) fun s x hs => ?_⟩
      · have := (a4 h).1; cases this
      · rcases relOf_store hs with ⟨rfl, hx⟩ | ⟨_, hx⟩
        · rcases mem_mrg.mp hx with hx | hx
          · exact hF _ x ⟨l, hl, hx⟩
          · rcases mem_fos.mp hx with h | h
            · cases h
            · rw [i.keys] at h
              exact hT r (.head _) x (h.mono hF)
        · exact hF s x hx
theorem fs_while {U hs N : List Str} (hU : U.length ≤ 30) (hn : hs.Nodup) (hlh : hs.length < 1000) (g : Gr) (hg : ∀ r ∈ g, r.1 ∈ hs ∧ ∀ s ∈ r.2, s ∈ U) : ∀ (n : Nat) (F : Gr) (s3 s5 s6 : Slot), FsInv U hs F → (∀ s x, relOf F s x → First g hs N s x) → hs.length * U.length + 2 ≤ n + total F →
    ∃ F' s3' s5' s6', whileL (truthB (nameF 4)) B_first_sets_3 n [.val 0 (gramD g), .val 0 (sL N), .val 1 (dictD F), s3, .val 0 (.bool true), s5, s6] = some (.next [.val 0 (gramD g), .val 0 (sL N), .val 1 (dictD F'), s3', .val 0 (.bool false), s5', s6']) ∧
      FsInv U hs F' ∧ (∀ s x, relOf F' s x → First g hs N s x) ∧ ∀ r ∈ g, ∀ l, F'.lookup r.1 = some l → mrg l (fos F' N [] r.2).1 = l
  | 0, F, s3, s5, s6, i, hs, hl => by have := i.total_le hn; omega
  | n + 1, F, s3, s5, s6, i, hs, hl => by
    have htl := i.total_le hn
    obtain ⟨a1, a2, a3, a4, a5⟩ := fs_pass (N := N) hU g F false i hg
    obtain ⟨t3, t5, t6, h1⟩ := fs_loop U _ N hU hlh (gramD g) g F false (clr 4 s3) (clr 4 s5) (clr 4 s6) i hg
    have hs' : ∀ s x, relOf (g.foldl (fsStep N) (F, false)).1 s x → First g _ N s x := fun s x hx T hT => a5 T hT (fun s x h => hs s x h T hT) s x hx
    generalize hq : g.foldl (fsStep N) (F, false) = q at *
    obtain ⟨F₁, c₁⟩ := q
    dsimp only at *
    have h1' : forL (putN 5) B_first_sets_2 (g.map ruleD) [.val 0 (.list (g.map ruleD)), .val 0 (.list (N.map .str)), .val 1 (.dict (F.map fun p => (p.1, .list (p.2.map .str)))), clr 4 s3, .val 0 (.bool false), clr 4 s5, clr 4 s6] = some (.next [.val 0 (gramD g), .val 0 (sL N), .val 1 (dictD F₁), t3, .val 0 (.bool c₁), t5, t6]) := h1
    have body : B_first_sets_3 [.val 0 (gramD g), .val 0 (sL N), .val 1 (dictD F), s3, .val 0 (.bool true), s5, s6] = some (.next [.val 0 (gramD g), .val 0 (sL N), .val 1 (dictD F₁), t3, .val 0 (.bool c₁), t5, t6]) := by
      simp [B_first_sets_3, putN, put, clr_val, clr_un, seqG, ifG, asgG, appG, setG, retG, forG, cmpB, notO, view, slotView, bin, un, nameF, nameM, idxD, inD, Out.bind, keepB, Mk.isFu, Mk.isOwn, Mk.cl, childM, callF, callM, consF, listF, tupF, Mk.cat, Mk.sl, Mk.clean, D.imm, D.flat, Mk.fre, D.cont, boolF, truthB, andB, orB, D.items, D.isL, fnF, ini, lim, inL_strs, sL, gramD, dictD]
      rw [h1']
      simp [putN, put, clr_val, clr_un, seqG, ifG, asgG, appG, setG, retG, forG, cmpB, notO, view, slotView, bin, un, nameF, nameM, idxD, inD, Out.bind, keepB, Mk.isFu, Mk.isOwn, Mk.cl, childM, callF, callM, consF, listF, tupF, Mk.cat, Mk.sl, Mk.clean, D.imm, D.flat, Mk.fre, D.cont, boolF, truthB, andB, orB, D.items, D.isL, fnF, ini, lim, inL_strs, sL, gramD, dictD]
    have test : truthB (nameF 4) (view [.val 0 (gramD g), .val 0 (sL N), .val 1 (dictD F), s3, .val 0 (.bool true), s5, s6]) = some true := rfl
    rw [whileL, test, Option.bind_some, if_pos rfl, body, Option.bind_some]
    show ∃ F' s3' s5' s6', whileL (truthB (nameF 4)) B_first_sets_3 n _ = _ ∧ _
    cases c₁ with
    | true =>
      have hlt : total F < total F₁ := (a3 rfl).elim (fun h => by cases h) id
      exact fs_while hU hn hlh g hg n F₁ t3 t5 t6 a1 hs' (by omega)
    | false =>
      obtain ⟨_, b1, b2⟩ := a4 rfl
      subst b1
      obtain ⟨n', rfl⟩ : ∃ n', n = n' + 1 := ⟨n - 1, by omega⟩
      exact ⟨F₁, t3, t5, t6, rfl, a1, hs', b2⟩
/-- what first_sets answers -/
theorem φ_fs (U : List Str) (hU : U.length ≤ 30) (g : Gr) (hg : g.length ≤ 20) (hb : ∀ r ∈ g, ∀ s ∈ r.2, s ∈ U) : ∃ N F, φ_nullable_heads [gramD g] = some (sL N) ∧ Canon N ∧ (∀ x, x ∈ N ↔ Nul g [] x) ∧ (∀ x ∈ N, x ∈ g.map (·.1)) ∧ φ_first_sets [gramD g] = some (dictD F) ∧ FsInv U (dedup (g.map (·.1))) F ∧
    ∀ h x, relOf F h x ↔ (h ∈ g.map (·.1) ∧ First g (dedup (g.map (·.1))) N h x) := by
  obtain ⟨f, h1, h2, h3, h4⟩ := φ_null g (by omega)
  have hhs := φ_heads g (by rw [lim_eq]; omega)
  have hhl : (dedup (g.map (·.1))).length ≤ 20 := by have := dedup_len (g.map (·.1)); rw [List.length_map] at this; omega
  generalize hhsd : dedup (g.map (·.1)) = hs at *
  have hmem : ∀ x, x ∈ hs ↔ x ∈ g.map (·.1) := fun x => by rw [← hhsd]; exact mem_dedup
  have hnd : hs.Nodup := by rw [← hhsd]; exact dedup_nodup _
  obtain ⟨s3, s4, s5, s6, hst⟩ := fs_start (gramD g) (sL (sortS f)) hs [] .un .un .un .un (by rw [lim_eq]; simp; omega) (by simpa using hnd)
  have i0 : FsInv U hs (hs.map fun h => (h, ([] : List Str))) := by
    have hv : ∀ s l, (hs.map fun h => (h, ([] : List Str))).lookup s = some l → l = [] := fun s l h => by
      have := mem_of_lookup h
      obtain ⟨_, _, e⟩ := List.mem_map.mp this
      cases e; rfl
    refine ⟨by simp [List.map_map, Function.comp_def], fun s l h => ?_, fun s l h => ?_⟩
    · rw [hv s l h]; exact ⟨List.nodup_nil, by intro _ h; cases h⟩
    · rw [hv s l h]; exact canon_nil
  have r0 : ∀ s x, ¬ relOf (hs.map fun h => (h, ([] : List Str))) s x := by
    rintro s x ⟨l, h, hx⟩
    have := mem_of_lookup h
    obtain ⟨_, _, e⟩ := List.mem_map.mp this
    cases e; cases hx
  have hg' : ∀ r ∈ g, r.1 ∈ hs ∧ ∀ s ∈ r.2, s ∈ U := fun r hr => ⟨(hmem _).mpr (List.mem_map_of_mem (f := (·.1)) hr), hb r hr⟩
  have hprod : hs.length * U.length ≤ 20 * 30 := Nat.mul_le_mul hhl hU
  obtain ⟨F, t3, t5, t6, hw, hi, hsd, hcl⟩ := fs_while (N := sortS f) hU hnd (by omega) g hg' 1000 (hs.map fun h => (h, [])) (clr 4 s3) (clr 4 s5) (clr 4 s6) i0 (fun s x h => absurd h (r0 s x)) (by omega)
  refine ⟨sortS f, F, h1, canon_sort h2, fun x => by rw [mem_sortS]; exact h4 x, fun x hx => h3 x (mem_sortS.mp hx), ?_, hi, fun h x => ⟨fun hx => ⟨?_, hsd h x hx⟩, fun ⟨hh, hx⟩ => ?_⟩⟩
  · have h1' : φ_nullable_heads [.list (g.map ruleD)] = _ := h1
    have hhs' : φ_heads_of [.list (g.map ruleD)] = _ := hhs
    have hst' : forL (putN 3) B_first_sets_1 (hs.map .str) [.val 0 (.list (g.map ruleD)), .val 0 (.list ((sortS f).map .str)), .val 1 (.dict []), .un, .un, .un, .un] = _ := hst
    have hw' : whileL (truthB (nameF 4)) B_first_sets_3 1000 [.val 0 (.list (g.map ruleD)), .val 0 (.list ((sortS f).map .str)), .val 1 (.dict ((hs.map fun h => (h, ([] : List Str))).map fun p => (p.1, .list (p.2.map .str)))), clr 4 s3, .val 0 (.bool true), clr 4 s5, clr 4 s6] = _ := hw
    simp [φ_first_sets, G_first_sets, putN, put, clr_val, clr_un, seqG, ifG, asgG, appG, setG, retG, forG, cmpB, notO, view, slotView, bin, un, nameF, nameM, idxD, inD, Out.bind, keepB, Mk.isFu, Mk.isOwn, Mk.cl, childM, callF, callM, consF, listF, tupF, Mk.cat, Mk.sl, Mk.clean, D.imm, D.flat, Mk.fre, D.cont, boolF, truthB, andB, orB, D.items, D.isL, fnF, ini, lim, inL_strs, sL, gramD, List.replicate, h1', hhs', hst']
    simp [putN, put, clr_val, clr_un, seqG, ifG, asgG, appG, setG, retG, forG, cmpB, notO, view, slotView, bin, un, nameF, nameM, idxD, inD, Out.bind, keepB, Mk.isFu, Mk.isOwn, Mk.cl, childM, callF, callM, consF, listF, tupF, Mk.cat, Mk.sl, Mk.clean, D.imm, D.flat, Mk.fre, D.cont, boolF, truthB, andB, orB, D.items, D.isL, fnF, ini, lim, inL_strs, sL, gramD, dictD] at hw'
    simp [putN, put, clr_val, clr_un, seqG, ifG, asgG, appG, setG, retG, forG, cmpB, notO, view, slotView, bin, un, nameF, nameM, idxD, inD, Out.bind, keepB, Mk.isFu, Mk.isOwn, Mk.cl, childM, callF, callM, consF, listF, tupF, Mk.cat, Mk.sl, Mk.clean, D.imm, D.flat, Mk.fre, D.cont, boolF, truthB, andB, orB, D.items, D.isL, fnF, ini, lim, inL_strs, sL, dictD, gramD, hw']
  · obtain ⟨l, hl, _⟩ := hx
    have : h ∈ F.map (·.1) := Classical.byContradiction fun hn => by rw [lookup_keys.mpr hn] at hl; cases hl
    rw [hi.keys] at this
    exact (hmem h).mp this
  · have := hx (fun s x => s ∈ hs → relOf F s x) ?_ ((hmem h).mpr hh)
    · exact this
    · intro r hr x hx hrs
      obtain ⟨l, hl⟩ := hi.some hrs
      have he := hcl r hr l hl
      refine ⟨l, hl, ?_⟩
      rw [← he]
      refine mem_mrg.mpr (.inr (mem_fos.mpr (.inr ?_)))
      rw [hi.keys]
      have conv : ∀ (body : List Str), InFos hs (sortS f) (fun s x => s ∈ hs → relOf F s x) body x → InFos hs (sortS f) (relOf F) body x := by
        intro body
        induction body with
        | nil => exact id
        | cons s r ih =>
          rintro (a | ⟨a, b | ⟨b, c⟩⟩)
          · exact .inl a
          · exact .inr ⟨a, .inl (b a)⟩
          · exact .inr ⟨a, .inr ⟨b, ih c⟩⟩
      exact conv r.2 hx
end Mine

set_option autoImplicit false
open PySem PyProof.Rows
namespace Mine
set_option linter.unusedVariables false
set_option linter.unusedSimpArgs false
set_option maxRecDepth 100000

theorem seqG_next {g₁ g₂ : List Slot → Option Out} {ρ ρ' : List Slot} (h : g₁ ρ = some (.next ρ')) : seqG g₁ g₂ ρ = g₂ ρ' := by unfold seqG; rw [h]; rfl
theorem seqG_ret {g₁ g₂ : List Slot → Option Out} {ρ : List Slot} {d : D} (h : g₁ ρ = some (.ret d)) : seqG g₁ g₂ ρ = some (.ret d) := by unfold seqG; rw [h]; rfl
theorem fnF_ret {n k : Nat} {G : List Slot → Option Out} {ds : List D} {d : D} (h : ds.length = k) (h2 : G (ini n ds) = some (.ret d)) : fnF n k G ds = some d := by unfold fnF; rw [if_pos h, h2]; rfl
theorem compL_ex {upd : EEnv → D → Option EEnv} {bs : EEnv → Option Bool} {fe : EEnv → Option D} {me : EEnv → Mk} {ρ : EEnv} (Q : D → Prop) : ∀ (xs : List D),
    (∀ a ∈ xs, ∃ ρ₁ d, upd ρ a = some ρ₁ ∧ bs ρ₁ = some true ∧ fe ρ₁ = some d ∧ (me ρ₁).cl d = true ∧ Q d) → ∃ ds, compL upd bs fe me ρ xs = some ds ∧ ds.length = xs.length ∧ ∀ d ∈ ds, Q d
  | [], _ => ⟨[], rfl, rfl, fun _ h => nomatch h⟩
  | a :: xs, h => by
    obtain ⟨ρ₁, d, h1, h2, h3, h4, h5⟩ := h a (.head _)
    obtain ⟨ds, e, hl, hq⟩ := compL_ex Q xs fun b hb => h b (.tail _ hb)
    refine ⟨d :: ds, ?_, by simp [hl], fun x hx => ?_⟩
    · rw [compL, h1, Option.bind_some, h2, Option.bind_some, if_pos rfl, h3, Option.bind_some, if_pos h4, e]; rfl
    · rcases List.mem_cons.mp hx with rfl | hx
      · exact h5
      · exact hq x hx
theorem unmap {U : List Str} : ∀ (ds : List D), (∀ d ∈ ds, ∃ s ∈ U, d = .str s) → ∃ ss : List Str, ds = ss.map .str ∧ ∀ s ∈ ss, s ∈ U
  | [], _ => ⟨[], rfl, fun _ h => nomatch h⟩
  | d :: ds, h => by
    obtain ⟨s, hs, rfl⟩ := h d (.head _)
    obtain ⟨ss, rfl, hss⟩ := unmap ds fun x hx => h x (.tail _ hx)
    exact ⟨s :: ss, rfl, fun x hx => (List.mem_cons.mp hx).elim (fun e => e ▸ hs) (hss x)⟩
def U6 : List Str := ["S", "A", "B", "a", "b", "c"]
theorem fmod_cases (c : Int) : ∃ k : Nat, k < 6 ∧ c.fmod 6 = (k : Int) := by
  have h1 := Int.fmod_nonneg_of_pos c (b := 6) (by omega)
  have h2 := Int.fmod_lt_of_pos c (b := 6) (by omega)
  exact ⟨(c.fmod 6).toNat, by omega, by omega⟩
theorem pick6 (c : Int) : ∃ s ∈ U6, idxD d__law_names (.int (c.fmod 6)) = some (.str s) := by
  obtain ⟨k, hk, e⟩ := fmod_cases c
  rw [e]
  match k, hk with
  | 0, _ => exact ⟨"S", by decide +kernel, rfl⟩
  | 1, _ => exact ⟨"A", by decide +kernel, rfl⟩
  | 2, _ => exact ⟨"B", by decide +kernel, rfl⟩
  | 3, _ => exact ⟨"a", by decide +kernel, rfl⟩
  | 4, _ => exact ⟨"b", by decide +kernel, rfl⟩
  | 5, _ => exact ⟨"c", by decide +kernel, rfl⟩
theorem pick3 (c : Int) : ∃ s ∈ U6, idxD d__law_names (.int (c.fmod 3)) = some (.str s) := by
  have h1 := Int.fmod_nonneg_of_pos c (b := 3) (by omega)
  have h2 := Int.fmod_lt_of_pos c (b := 3) (by omega)
  obtain ⟨k, hk, e⟩ : ∃ k : Nat, k < 3 ∧ c.fmod 3 = (k : Int) := ⟨(c.fmod 3).toNat, by omega, by omega⟩
  rw [e]
  match k, hk with
  | 0, _ => exact ⟨"S", by decide +kernel, rfl⟩
  | 1, _ => exact ⟨"A", by decide +kernel, rfl⟩
  | 2, _ => exact ⟨"B", by decide +kernel, rfl⟩
/-! the script -/
def iL (ns : List Int) : D := .list (ns.map .int)
theorem φ_cell (ns : List Int) (i : Nat) (hn : ns.length ≤ 1000) : ∃ c : Int, φ__law_cell [iL ns, .int i] = some (.int c) := by
  by_cases h : i < ns.length
  · refine ⟨ns[i], ?_⟩
    have h1 : (i : Int) < (ns.length : Int) := by omega
    have h2 : (i : Int) ≤ 100000 := by omega
    have h3 : ns[i]? = some ns[i] := List.getElem?_eq_getElem h
    simp [φ__law_cell, G__law_cell, putN, put, clr_val, clr_un, seqG, ifG, asgG, appG, setG, retG, forG, cmpB, notO, view, slotView, bin, un, nameF, nameM, idxD, inD, Out.bind, keepB, Mk.isFu, Mk.isOwn, Mk.cl, childM, callF, callM, consF, listF, tupF, Mk.cat, Mk.sl, Mk.clean, D.imm, D.flat, Mk.fre, D.cont, boolF, truthB, andB, orB, D.items, D.isL, fnF, ini, lim, inL_strs, sL, iL, List.replicate, ltD, lenD, h1, h2, h3, h]
  · refine ⟨0, ?_⟩
    have h1 : ¬ (i : Int) < (ns.length : Int) := by omega
    simp [φ__law_cell, G__law_cell, putN, put, clr_val, clr_un, seqG, ifG, asgG, appG, setG, retG, forG, cmpB, notO, view, slotView, bin, un, nameF, nameM, idxD, inD, Out.bind, keepB, Mk.isFu, Mk.isOwn, Mk.cl, childM, callF, callM, consF, listF, tupF, Mk.cat, Mk.sl, Mk.clean, D.imm, D.flat, Mk.fre, D.cont, boolF, truthB, andB, orB, D.items, D.isL, fnF, ini, lim, inL_strs, sL, iL, List.replicate, ltD, lenD, h1, h]
end Mine

set_option autoImplicit false
open PySem PyProof.Rows
namespace Mine
set_option linter.unusedVariables false
set_option linter.unusedSimpArgs false
set_option maxRecDepth 100000

theorem k12 (c : Int) : ∃ kk q : Nat, kk < 12 ∧ q ≤ 3 ∧ c.fmod 12 = (kk : Int) ∧ (kk : Int).fdiv 3 = (q : Int) := by
  have h1 := Int.fmod_nonneg_of_pos c (b := 12) (by omega)
  have h2 := Int.fmod_lt_of_pos c (b := 12) (by omega)
  obtain ⟨k, hk, e⟩ : ∃ k : Nat, k < 12 ∧ c.fmod 12 = (k : Int) := ⟨(c.fmod 12).toNat, by omega, by omega⟩
  refine ⟨k, k / 3, hk, by omega, e, ?_⟩
  rw [Int.fdiv_eq_ediv_of_nonneg _ (by omega)]
  omega
theorem rng_items (n : Nat) (h : n ≤ 1000) : D.items (.rng 0 (n : Int) 1) = some ((List.range n).map fun i : Nat => .int (i : Int)) := by
  have h1 : (n : Int).natAbs ≤ lim := by rw [lim_eq]; omega
  have h2 : (0 : Int).natAbs ≤ lim := by rw [lim_eq]; decide
  have hr : rngN 0 (n : Int) 1 = n := by simp [rngN]
  simp only [D.items, h1, h2, hr]
  simp
def GOK (r : Str × List Str) : Prop := r.1 ∈ U6 ∧ r.2.length ≤ 3 ∧ ∀ s ∈ r.2, s ∈ U6
theorem gram_comp (ns : List Int) (hn : ns.length ≤ 1000) (j kk q : Nat) (hj : j ≤ 10) (hq : q ≤ 3) (hkk : (kk : Int).fdiv 3 = (q : Int)) (dg d2 : D) (mg : Mk) (x : Option (D × Mk)) :
    ∃ b : List Str, K__law_grammar_1 [some (iL ns, .fr), some (dg, mg), some (d2, .fr), some (.int (1 + 4 * (j : Int)), .fr), some (.int (kk : Int), .fr), x] = some (sL b) ∧ b.length ≤ 3 ∧ ∀ s ∈ b, s ∈ U6 := by
  have key := compL_ex (upd := setN 6) (bs := fun _ => some true) (fe := bin idxD (fun _ => some d__law_names) (bin modD (callF φ__law_cell (consF (nameF 0) (consF (bin addD (bin addD (nameF 3) (fun _ => some (D.int 1))) (nameF 6)) (fun _ => some [])))) (fun _ => some (D.int 6)))) (me := childM (fun _ => Mk.fr))
    (ρ := [some (iL ns, .fr), some (dg, mg), some (d2, .fr), some (.int (1 + 4 * (j : Int)), .fr), some (.int (kk : Int), .fr), x, none]) (fun d => ∃ s ∈ U6, d = .str s) ((List.range q).map fun i : Nat => .int (i : Int)) fun a ha => by
      obtain ⟨i, hi, rfl⟩ := List.mem_map.mp ha
      have hi := List.mem_range.mp hi
      obtain ⟨c, hc⟩ := φ_cell ns (1 + 4 * j + 1 + i) hn
      obtain ⟨s, hs, hp⟩ := pick6 c
      refine ⟨_, _, rfl, rfl, ?_, rfl, s, hs, rfl⟩
      have e : ((1 + 4 * j + 1 + i : Nat) : Int) = 1 + 4 * (j : Int) + 1 + (i : Int) := by omega
      rw [e] at hc
      simp [putN, put, clr_val, clr_un, seqG, ifG, asgG, appG, setG, retG, forG, cmpB, notO, view, slotView, bin, un, nameF, nameM, inD, Out.bind, keepB, Mk.isFu, Mk.isOwn, Mk.cl, childM, callF, callM, consF, listF, tupF, Mk.cat, Mk.sl, Mk.clean, D.imm, D.flat, Mk.fre, D.cont, boolF, truthB, andB, orB, D.isL, fnF, ini, lim, sL, setN, addD, hc, modD, hp]
  obtain ⟨ds, h1, h2, h3⟩ := key
  obtain ⟨b, rfl, hb⟩ := unmap ds h3
  refine ⟨b, ?_, by simp at h2; omega, hb⟩
  have hr := rng_items q (by omega)
  unfold K__law_grammar_1 compF
  simp [putN, put, clr_val, clr_un, seqG, ifG, asgG, appG, setG, retG, forG, cmpB, notO, view, slotView, bin, un, nameF, nameM, inD, Out.bind, keepB, Mk.isFu, Mk.isOwn, Mk.cl, childM, callF, callM, consF, listF, tupF, Mk.cat, Mk.sl, Mk.clean, D.imm, D.flat, Mk.fre, D.cont, boolF, truthB, andB, orB, D.isL, fnF, ini, lim, sL, divD, rangeD, hkk, List.replicate]
  rw [hr]
  simp [putN, put, clr_val, clr_un, seqG, ifG, asgG, appG, setG, retG, forG, cmpB, notO, view, slotView, bin, un, nameF, nameM, inD, Out.bind, keepB, Mk.isFu, Mk.isOwn, Mk.cl, childM, callF, callM, consF, listF, tupF, Mk.cat, Mk.sl, Mk.clean, D.imm, D.flat, Mk.fre, D.cont, boolF, truthB, andB, orB, D.isL, fnF, ini, lim, sL]
  exact h1
theorem gram_step (ns : List Int) (hn : ns.length ≤ 1000) (j : Nat) (hj : j ≤ 10) (g : Gr) (hg : g.length ≤ 100) (s2 s3 s4 s5 : Slot) : ∃ r t3 t4 t5, GOK r ∧
    (putN 2 [.val 0 (iL ns), .val 1 (gramD g), s2, s3, s4, s5] (.int (j : Int))).bind B__law_grammar_1 = some (.next [.val 0 (iL ns), .val 1 (gramD (g ++ [r])), .val 0 (.int (j : Int)), t3, t4, t5]) := by
  obtain ⟨c, hc⟩ := φ_cell ns (1 + 4 * j) hn
  obtain ⟨kk, q, hkk, hq, e1, e2⟩ := k12 c
  obtain ⟨b, hb, hb2, hb3⟩ := gram_comp ns hn j kk q hj hq e2 (gramD g) (.int (j : Int)) .bor (slotView [.val 0 (iL ns), .val 1 (gramD g), .val 0 (.int (j : Int)), .val 0 (.int (1 + 4 * (j : Int))), .val 0 (.int (kk : Int)), clr 4 (clr 3 (clr 2 s5))] (clr 4 (clr 3 (clr 2 s5))))
  obtain ⟨s, hs, hp⟩ := pick3 (kk : Int)
  have e : ((1 + 4 * j : Nat) : Int) = 1 + 4 * (j : Int) := by omega
  rw [e] at hc
  refine ⟨(s, b), .val 0 (.int (1 + 4 * (j : Int))), .val 0 (.int (kk : Int)), .val 0 (sL b), ⟨hs, hb2, hb3⟩, ?_⟩
  have hj' : (j : Int).natAbs ≤ 100000 := by omega
  have hm : mulD (.int 4) (.int (j : Int)) = some (.int (4 * (j : Int))) := by simp [mulD, lim_eq]; omega
  unfold B__law_grammar_1
  have step1 : asgG 3 0 (bin addD (fun _ => some (D.int 1)) (bin mulD (fun _ => some (D.int 4)) (nameF 2))) (catM (fun _ => Mk.fr) (copyM (fun _ => Mk.fr))) [.val 0 (iL ns), .val 1 (gramD g), .val 0 (.int (j : Int)), clr 2 s3, clr 2 s4, clr 2 s5] = some (.next [.val 0 (iL ns), .val 1 (gramD g), .val 0 (.int (j : Int)), .val 0 (.int (1 + 4 * (j : Int))), clr 3 (clr 2 s4), clr 3 (clr 2 s5)]) := by
    simp [putN, put, clr_val, clr_un, seqG, ifG, asgG, appG, setG, retG, forG, cmpB, notO, view, slotView, bin, un, nameF, nameM, idxD, inD, Out.bind, keepB, Mk.isFu, Mk.isOwn, Mk.cl, childM, callF, callM, consF, listF, tupF, Mk.cat, Mk.sl, Mk.clean, D.imm, D.flat, Mk.fre, D.cont, boolF, truthB, andB, orB, D.items, D.isL, fnF, ini, lim, inL_strs, sL, hm, addD, catM, copyM, gramD, iL]
  have step2 : asgG 4 0 (bin modD (callF φ__law_cell (consF (nameF 0) (consF (nameF 3) (fun _ => some [])))) (fun _ => some (D.int 12))) (fun _ => Mk.fr) [.val 0 (iL ns), .val 1 (gramD g), .val 0 (.int (j : Int)), .val 0 (.int (1 + 4 * (j : Int))), clr 3 (clr 2 s4), clr 3 (clr 2 s5)] = some (.next [.val 0 (iL ns), .val 1 (gramD g), .val 0 (.int (j : Int)), .val 0 (.int (1 + 4 * (j : Int))), .val 0 (.int (kk : Int)), clr 4 (clr 3 (clr 2 s5))]) := by
    simp [putN, put, clr_val, clr_un, seqG, ifG, asgG, appG, setG, retG, forG, cmpB, notO, view, slotView, bin, un, nameF, nameM, idxD, inD, Out.bind, keepB, Mk.isFu, Mk.isOwn, Mk.cl, childM, callF, callM, consF, listF, tupF, Mk.cat, Mk.sl, Mk.clean, D.imm, D.flat, Mk.fre, D.cont, boolF, truthB, andB, orB, D.items, D.isL, fnF, ini, lim, inL_strs, sL, hc, modD, e1]
  have step3 : asgG 5 0 K__law_grammar_1 (fun _ => Mk.own 1) [.val 0 (iL ns), .val 1 (gramD g), .val 0 (.int (j : Int)), .val 0 (.int (1 + 4 * (j : Int))), .val 0 (.int (kk : Int)), clr 4 (clr 3 (clr 2 s5))] = some (.next [.val 0 (iL ns), .val 1 (gramD g), .val 0 (.int (j : Int)), .val 0 (.int (1 + 4 * (j : Int))), .val 0 (.int (kk : Int)), .val 0 (sL b)]) := by
    unfold asgG
    have hv : view [.val 0 (iL ns), .val 1 (gramD g), .val 0 (.int (j : Int)), .val 0 (.int (1 + 4 * (j : Int))), .val 0 (.int (kk : Int)), clr 4 (clr 3 (clr 2 s5))] = [some (iL ns, .fr), some (gramD g, .bor), some (.int (j : Int), .fr), some (.int (1 + 4 * (j : Int)), .fr), some (.int (kk : Int), .fr), slotView [.val 0 (iL ns), .val 1 (gramD g), .val 0 (.int (j : Int)), .val 0 (.int (1 + 4 * (j : Int))), .val 0 (.int (kk : Int)), clr 4 (clr 3 (clr 2 s5))] (clr 4 (clr 3 (clr 2 s5)))] := rfl
    rw [hv, hb]
    rfl
  show (seqG _ _) [.val 0 (iL ns), .val 1 (gramD g), .val 0 (.int (j : Int)), clr 2 s3, clr 2 s4, clr 2 s5] = _
  rw [seqG_next step1, seqG_next step2, seqG_next step3]
  have hgl : g.length < 100000 := by omega
  simp [putN, put, clr_val, clr_un, seqG, ifG, asgG, appG, setG, retG, forG, cmpB, notO, view, slotView, bin, un, nameF, nameM, inD, Out.bind, keepB, Mk.isFu, Mk.isOwn, Mk.cl, childM, callF, callM, consF, listF, tupF, Mk.cat, Mk.sl, Mk.clean, D.imm, D.flat, Mk.fre, D.cont, boolF, truthB, andB, orB, D.isL, fnF, ini, lim, sL, gramD, hp, modD, hgl, ruleD]
theorem gram_loop (ns : List Int) (hn : ns.length ≤ 1000) : ∀ (js : List Nat) (g : Gr) (s2 s3 s4 s5 : Slot), (∀ j ∈ js, j ≤ 10) → g.length + js.length ≤ 100 → (∀ r ∈ g, GOK r) →
    ∃ g' t2 t3 t4 t5, forL (putN 2) B__law_grammar_1 (js.map fun j : Nat => .int (j : Int)) [.val 0 (iL ns), .val 1 (gramD g), s2, s3, s4, s5] = some (.next [.val 0 (iL ns), .val 1 (gramD g'), t2, t3, t4, t5]) ∧ (∀ r ∈ g', GOK r) ∧ g'.length = g.length + js.length
  | [], g, s2, s3, s4, s5, _, _, hg => ⟨g, s2, s3, s4, s5, rfl, hg, rfl⟩
  | j :: js, g, s2, s3, s4, s5, hj, hl, hg => by
    rw [List.length_cons] at hl
    obtain ⟨r, t3, t4, t5, hr, h⟩ := gram_step ns hn j (hj j (.head _)) g (by omega) s2 s3 s4 s5
    obtain ⟨g', a2, a3, a4, a5, h', hg', hl'⟩ := gram_loop ns hn js (g ++ [r]) (.val 0 (.int (j : Int))) t3 t4 t5 (fun i hi => hj i (.tail _ hi)) (by simp; omega) (fun q hq => by
      rcases List.mem_append.mp hq with q' | q'
      · exact hg q q'
      · simp at q'; exact q' ▸ hr)
    refine ⟨g', a2, a3, a4, a5, ?_, hg', by simp at hl'; rw [hl', List.length_cons]; omega⟩
    rw [List.map_cons, forL]
    obtain ⟨ρ₁, e1, e2⟩ := Option.bind_eq_some_iff.mp h
    rw [e1, Option.bind_some, e2, Option.bind_some]
    exact h'
theorem φ_gram (ns : List Int) (hn : ns.length ≤ 1000) : ∃ g : Gr, φ__law_grammar [iL ns] = some (gramD g) ∧ (∀ r ∈ g, GOK r) ∧ g.length ≤ 5 ∧ 1 ≤ g.length := by
  obtain ⟨c, hc⟩ := φ_cell ns 0 hn
  have h1 := Int.fmod_nonneg_of_pos c (b := 5) (by omega)
  have h2 := Int.fmod_lt_of_pos c (b := 5) (by omega)
  obtain ⟨k, hk, e⟩ : ∃ k : Nat, k < 5 ∧ c.fmod 5 = (k : Int) := ⟨(c.fmod 5).toNat, by omega, by omega⟩
  obtain ⟨g, a2, a3, a4, a5, h, hg, hl⟩ := gram_loop ns hn (List.range (1 + k)) [] .un .un .un .un (fun j hj => by have := List.mem_range.mp hj; omega) (by simp; omega) (fun _ h => nomatch h)
  refine ⟨g, ?_, hg, by simp at hl; omega, by simp at hl; omega⟩
  have hr := rng_items (1 + k) (by omega)
  have ek : ((1 + k : Nat) : Int) = 1 + (k : Int) := by omega
  rw [ek] at hr
  have h' : forL (putN 2) B__law_grammar_1 ((List.range (1 + k)).map fun j : Nat => .int (j : Int)) [.val 0 (iL ns), .val 1 (.list []), .un, .un, .un, .un] = _ := h
  have hc' : φ__law_cell [iL ns, .int 0] = some (.int c) := hc
  refine fnF_ret rfl ?_
  show G__law_grammar [.val 0 (iL ns), .un, .un, .un, .un, .un] = _
  unfold G__law_grammar
  have s1 : asgG 1 1 (listF (fun _ => some [])) (fun ρ => if (fun _ => true) ρ then Mk.own 1 else Mk.fu) [.val 0 (iL ns), .un, .un, .un, .un, .un] = some (.next [.val 0 (iL ns), .val 1 (.list []), .un, .un, .un, .un]) := rfl
  rw [seqG_next s1]
  have s2 : forG false (un rangeD (bin addD (fun _ => some (D.int 1)) (bin modD (callF φ__law_cell (consF (nameF 0) (consF (fun _ => some (D.int 0)) (fun _ => some [])))) (fun _ => some (D.int 5))))) (fun _ => Mk.fr) (putN 2) B__law_grammar_1 [.val 0 (iL ns), .val 1 (.list []), .un, .un, .un, .un] = some (.next [.val 0 (iL ns), .val 1 (gramD g), a2, a3, a4, a5]) := by
    unfold forG
    have hf : un rangeD (bin addD (fun _ => some (D.int 1)) (bin modD (callF φ__law_cell (consF (nameF 0) (consF (fun _ => some (D.int 0)) (fun _ => some [])))) (fun _ => some (D.int 5)))) (view [.val 0 (iL ns), .val 1 (.list []), .un, .un, .un, .un]) = some (.rng 0 (1 + (k : Int)) 1) := by
      simp only [un, bin, callF, consF, nameF, view, slotView, List.map_cons, List.map_nil, List.getElem?_cons_zero, Option.bind_some, hc', modD, addD, rangeD, e]
      rfl
    rw [hf, Option.bind_some, hr, Option.bind_some]
    exact h'
  rw [seqG_next s2]
  rfl
end Mine

set_option autoImplicit false
open PySem PyProof.Rows
namespace Mine
set_option linter.unusedVariables false
set_option linter.unusedSimpArgs false
set_option maxRecDepth 100000

def nlStep (g : Gr) (found : List Str) : List Str := (g.filter fun r => r.2.all fun s => decide (s ∈ found)).map (·.1)
def nlIter (g : Gr) : Nat → List Str → List Str
  | 0, f => f
  | k + 1, f => nlIter g k (nlStep g f)
theorem nl_inner (a b x : Option (D × Mk)) (found : List Str) (h : D) (body : List Str) : K__law_nullable_1 [a, b, some (sL found, .fr), x, some (h, .fr), some (sL body, .fr)] = some (.list (body.map fun s => .bool (decide (s ∈ found)))) := by
  have k := compL_map (upd := setN 6) (bs := fun _ => some true) (fe := boolF (cmpB inD (nameF 6) (nameF 2))) (me := fun _ => Mk.fr) (ρ := [a, b, some (sL found, .fr), x, some (h, .fr), some (sL body, .fr), none]) D.str (fun _ => true) (fun s => .bool (decide (s ∈ found))) body fun s _ => by
    refine ⟨_, rfl, rfl, fun _ => ⟨?_, rfl⟩⟩
    simp [putN, put, clr_val, clr_un, seqG, ifG, asgG, appG, setG, retG, forG, cmpB, notO, view, slotView, bin, un, nameF, nameM, idxD, inD, Out.bind, keepB, Mk.isFu, Mk.isOwn, Mk.cl, childM, callF, callM, consF, listF, tupF, Mk.cat, Mk.sl, Mk.clean, D.imm, D.flat, Mk.fre, D.cont, boolF, truthB, andB, orB, D.items, D.isL, fnF, ini, lim, inL_strs, sL, setN]
  rw [List.filter_eq_self.mpr fun _ _ => rfl] at k
  unfold K__law_nullable_1 compF
  simp [putN, put, clr_val, clr_un, seqG, ifG, asgG, appG, setG, retG, forG, cmpB, notO, view, slotView, bin, un, nameF, nameM, idxD, inD, Out.bind, keepB, Mk.isFu, Mk.isOwn, Mk.cl, childM, callF, callM, consF, listF, tupF, Mk.cat, Mk.sl, Mk.clean, D.imm, D.flat, Mk.fre, D.cont, boolF, truthB, andB, orB, D.items, D.isL, fnF, ini, lim, inL_strs, sL, List.replicate]
  simp only [putN, put, clr_val, clr_un, seqG, ifG, asgG, appG, setG, retG, forG, cmpB, notO, view, slotView, bin, un, nameF, nameM, idxD, inD, Out.bind, keepB, Mk.isFu, Mk.isOwn, Mk.cl, childM, callF, callM, consF, listF, tupF, Mk.cat, Mk.sl, Mk.clean, D.imm, D.flat, Mk.fre, D.cont, boolF, truthB, andB, orB, D.items, D.isL, fnF, ini, lim, inL_strs, sL] at k
  exact k
theorem nl_comp (b x : Option (D × Mk)) (g : Gr) (found : List Str) : K__law_nullable_2 [some (gramD g, .fr), b, some (sL found, .fr), x] = some (sL (nlStep g found)) := by
  have k := compL_map (upd := setT [4, 5]) (bs := truthB (un allD K__law_nullable_1)) (fe := nameF 4) (me := nameM 4) (ρ := [some (gramD g, .fr), b, some (sL found, .fr), x, none, none]) ruleD (fun r => r.2.all fun s => decide (s ∈ found)) (fun r => .str r.1) g fun r _ => by
    refine ⟨[some (gramD g, .fr), b, some (sL found, .fr), x, some (.str r.1, .fr), some (sL r.2, .fr)], rfl, ?_, fun _ => ⟨rfl, rfl⟩⟩
    unfold truthB un
    rw [nl_inner]
    simp [allD, D.items, unBools_map]
  unfold K__law_nullable_2 compF
  have e : (g.filter fun r => r.2.all fun s => decide (s ∈ found)).map (fun r => D.str r.1) = (nlStep g found).map .str := by unfold nlStep; rw [List.map_map]; rfl
  rw [e] at k
  simp only [nameF, nameM, List.length_cons, List.length_nil, List.getElem?_cons_zero, gramD, D.items, Mk.sl, Mk.cat, D.isL, List.replicate]
  simp
  first | exact k | exact ⟨_, k, rfl⟩
theorem nl_filter (a x : Option (D × Mk)) (hs found : List Str) : K__law_nullable_3 [a, some (sL hs, .fr), some (sL found, .fr), x] = some (sL (hs.filter fun h => decide (h ∈ found))) := by
  have k := compL_map (upd := setN 4) (bs := cmpB inD (nameF 4) (nameF 2)) (fe := nameF 4) (me := nameM 4) (ρ := [a, some (sL hs, .fr), some (sL found, .fr), x, none]) D.str (fun h => decide (h ∈ found)) D.str hs fun h _ => by
    refine ⟨[a, some (sL hs, .fr), some (sL found, .fr), x, some (.str h, .fr)], rfl, ?_, fun _ => ⟨rfl, rfl⟩⟩
    simp [putN, put, clr_val, clr_un, seqG, ifG, asgG, appG, setG, retG, forG, cmpB, notO, view, slotView, bin, un, nameF, nameM, idxD, inD, Out.bind, keepB, Mk.isFu, Mk.isOwn, Mk.cl, childM, callF, callM, consF, listF, tupF, Mk.cat, Mk.sl, Mk.clean, D.imm, D.flat, Mk.fre, D.cont, boolF, truthB, andB, orB, D.items, D.isL, fnF, ini, lim, inL_strs, sL]
  unfold K__law_nullable_3 compF
  simp only [nameF, nameM, List.length_cons, List.length_nil, List.getElem?_cons_succ, List.getElem?_cons_zero, sL, D.items, Mk.sl, Mk.cat, D.isL, List.replicate]
  simp
  first | exact k | exact ⟨_, k, rfl⟩
theorem nl_loop (g : Gr) (hs : List Str) : ∀ (js : List Nat) (found : List Str) (s3 : Slot), ∃ t3, forL (putN 3) B__law_nullable_1 (js.map fun j : Nat => .int (j : Int)) [.val 0 (gramD g), .val 0 (sL hs), .val 0 (sL found), s3] = some (.next [.val 0 (gramD g), .val 0 (sL hs), .val 0 (sL (nlIter g js.length found)), t3])
  | [], found, s3 => ⟨s3, rfl⟩
  | j :: js, found, s3 => by
    obtain ⟨t3, ih⟩ := nl_loop g hs js (nlStep g found) (.val 0 (.int (j : Int)))
    refine ⟨t3, ?_⟩
    rw [List.map_cons, forL]
    have hb : B__law_nullable_1 [.val 0 (gramD g), .val 0 (sL hs), .val 0 (sL found), .val 0 (.int (j : Int))] = some (.next [.val 0 (gramD g), .val 0 (sL hs), .val 0 (sL (nlStep g found)), .val 0 (.int (j : Int))]) := by
      unfold B__law_nullable_1
      refine (seqG_next (ρ' := [.val 0 (gramD g), .val 0 (sL hs), .val 0 (sL (nlStep g found)), .val 0 (.int (j : Int))]) ?_).trans rfl
      unfold asgG
      have hv : view [.val 0 (gramD g), .val 0 (sL hs), .val 0 (sL found), .val 0 (.int (j : Int))] = [some (gramD g, .fr), some (sL hs, .fr), some (sL found, .fr), some (.int (j : Int), .fr)] := rfl
      rw [hv, nl_comp]
      rfl
    have hp : putN 3 [.val 0 (gramD g), .val 0 (sL hs), .val 0 (sL found), s3] (.int (j : Int)) = some [.val 0 (gramD g), .val 0 (sL hs), .val 0 (sL found), .val 0 (.int (j : Int))] := rfl
    rw [hp, Option.bind_some, hb, Option.bind_some]
    exact ih
theorem φ_nl (g : Gr) (hs : List Str) (hl : hs.length < 60) : φ__law_nullable [gramD g, sL hs] = some (sL (sortS (hs.filter fun h => decide (h ∈ nlIter g hs.length [])))) := by
  obtain ⟨t3, h⟩ := nl_loop g hs (List.range hs.length) [] .un
  rw [List.length_range] at h
  refine fnF_ret rfl ?_
  show G__law_nullable [.val 0 (gramD g), .val 0 (sL hs), .un, .un] = _
  unfold G__law_nullable
  have s1 : asgG 2 0 (listF (fun _ => some [])) (fun ρ => if (fun _ => true) ρ then Mk.own 1 else Mk.fu) [.val 0 (gramD g), .val 0 (sL hs), .un, .un] = some (.next [.val 0 (gramD g), .val 0 (sL hs), .val 0 (sL []), .un]) := rfl
  rw [seqG_next s1]
  have hr := rng_items hs.length (by omega)
  have s2 : forG false (un rangeD (un lenD (nameF 1))) (fun _ => Mk.fr) (putN 3) B__law_nullable_1 [.val 0 (gramD g), .val 0 (sL hs), .val 0 (sL []), .un] = some (.next [.val 0 (gramD g), .val 0 (sL hs), .val 0 (sL (nlIter g hs.length [])), t3]) := by
    unfold forG
    have hf : un rangeD (un lenD (nameF 1)) (view [.val 0 (gramD g), .val 0 (sL hs), .val 0 (sL []), .un]) = some (.rng 0 (hs.length : Int) 1) := by
      simp [putN, put, clr_val, clr_un, seqG, ifG, asgG, appG, setG, retG, forG, cmpB, notO, view, slotView, bin, un, nameF, nameM, inD, Out.bind, keepB, Mk.isFu, Mk.isOwn, Mk.cl, childM, callF, callM, consF, listF, tupF, Mk.cat, Mk.sl, Mk.clean, D.imm, D.flat, Mk.fre, D.cont, boolF, truthB, andB, orB, D.isL, fnF, ini, lim, sL, lenD, rangeD]
    rw [hf, Option.bind_some, hr, Option.bind_some]
    exact h
  rw [seqG_next s2]
  refine seqG_ret ?_
  unfold retG un
  have hv : view [.val 0 (gramD g), .val 0 (sL hs), .val 0 (sL (nlIter g hs.length [])), t3] = [some (gramD g, .fr), some (sL hs, .fr), some (sL (nlIter g hs.length []), .fr), slotView [.val 0 (gramD g), .val 0 (sL hs), .val 0 (sL (nlIter g hs.length [])), t3] t3] := rfl
  rw [hv, nl_filter]
  have hfl : (hs.filter fun h => decide (h ∈ nlIter g hs.length [])).length < 64 := Nat.lt_of_le_of_lt (List.length_filter_le _ _) (by omega)
  simp [sortD, sL, unStrs_sL, hfl]
/-! it is the least closed set -/
theorem mem_nlStep {g : Gr} {f : List Str} {x : Str} : x ∈ nlStep g f ↔ ∃ r ∈ g, r.1 = x ∧ ∀ s ∈ r.2, s ∈ f := by
  unfold nlStep
  rw [List.mem_map]
  constructor
  · rintro ⟨r, hr, rfl⟩
    obtain ⟨h1, h2⟩ := List.mem_filter.mp hr
    exact ⟨r, h1, rfl, fun s hs => by simpa using List.all_eq_true.mp h2 s hs⟩
  · rintro ⟨r, h1, rfl, h2⟩
    exact ⟨r, List.mem_filter.mpr ⟨h1, List.all_eq_true.mpr fun s hs => by simpa using h2 s hs⟩, rfl⟩
theorem nlStep_mono {g : Gr} {f f' : List Str} (h : ∀ x ∈ f, x ∈ f') : ∀ x ∈ nlStep g f, x ∈ nlStep g f' := fun x hx => by
  obtain ⟨r, h1, h2, h3⟩ := mem_nlStep.mp hx
  exact mem_nlStep.mpr ⟨r, h1, h2, fun s hs => h s (h3 s hs)⟩
theorem nlIter_sound {g : Gr} : ∀ (k : Nat) (f : List Str), (∀ x ∈ f, Nul g [] x) → ∀ x ∈ nlIter g k f, Nul g [] x
  | 0, f, h => h
  | k + 1, f, h => nlIter_sound k _ fun x hx S hS => by
    obtain ⟨r, h1, rfl, h3⟩ := mem_nlStep.mp hx
    exact hS r h1 fun s hs => .inr (h s (h3 s hs) S hS)
theorem nlIter_closed {g : Gr} {hs : List Str} (hh : ∀ r ∈ g, r.1 ∈ hs) : ∀ (k : Nat) (f : List Str), (∀ x ∈ f, x ∈ nlStep g f) → hs.length ≤ k + (hs.filter fun h => decide (h ∈ f)).length → ∀ x ∈ nlStep g (nlIter g k f), x ∈ nlIter g k f
  | 0, f, hf, hl => fun x hx => by
    obtain ⟨r, h1, rfl, _⟩ := mem_nlStep.mp hx
    have e : hs.filter (fun h => decide (h ∈ f)) = hs := List.Sublist.eq_of_length_le List.filter_sublist (by omega)
    have : r.1 ∈ hs.filter (fun h => decide (h ∈ f)) := e.symm ▸ hh r h1
    show r.1 ∈ f
    simpa using (List.mem_filter.mp this).2
  | k + 1, f, hf, hl => by
    show ∀ x ∈ nlStep g (nlIter g k (nlStep g f)), x ∈ nlIter g k (nlStep g f)
    by_cases hc : ∀ x ∈ nlStep g f, x ∈ f
    · -- closed already: it stays
      have stay : ∀ (k : Nat) (f : List Str), (∀ x ∈ nlStep g f, x ∈ f) → ∀ x ∈ nlStep g (nlIter g k f), x ∈ nlIter g k f := by
        intro k
        induction k with
        | zero => intro f h; exact h
        | succ k ih => intro f h; exact ih (nlStep g f) (nlStep_mono h)
      exact stay k _ (nlStep_mono hc)
    · refine nlIter_closed hh k (nlStep g f) (nlStep_mono hf) ?_
      have : (hs.filter fun h => decide (h ∈ f)).length < (hs.filter fun h => decide (h ∈ nlStep g f)).length := by
        obtain ⟨x, hx⟩ := Classical.not_forall.mp hc
        obtain ⟨hx, hxn⟩ := Classical.not_imp.mp hx
        obtain ⟨r, h1, rfl, _⟩ := mem_nlStep.mp hx
        have key : ∀ (l : List Str), r.1 ∈ l → (l.filter fun h => decide (h ∈ f)).length < (l.filter fun h => decide (h ∈ nlStep g f)).length := by
          have le : ∀ l : List Str, (l.filter fun h => decide (h ∈ f)).length ≤ (l.filter fun h => decide (h ∈ nlStep g f)).length := by
            intro l
            induction l with
            | nil => exact Nat.le_refl _
            | cons y l ih =>
              rw [List.filter_cons, List.filter_cons]
              by_cases h1 : y ∈ f
              · simp [h1, hf y h1]; exact ih
              · by_cases h2 : y ∈ nlStep g f
                · simp [h1, h2]; omega
                · simp [h1, h2]; exact ih
          intro l
          induction l with
          | nil => intro h; cases h
          | cons y l ih =>
            intro h
            rw [List.filter_cons, List.filter_cons]
            rcases List.mem_cons.mp h with e | e
            · subst e
              simp [hxn, hx]
              exact Nat.lt_succ_of_le (le l)
            · have := ih e
              by_cases h1 : y ∈ f
              · simp [h1, hf y h1]; exact this
              · by_cases h2 : y ∈ nlStep g f
                · simp [h1, h2]; omega
                · simp [h1, h2]; exact this
        exact key hs (hh r h1)
      omega
theorem nl_mem {g : Gr} {hs : List Str} (hh : ∀ r ∈ g, r.1 ∈ hs) (x : Str) : x ∈ nlIter g hs.length [] ↔ Nul g [] x := by
  refine ⟨nlIter_sound _ [] (by intro _ h; cases h) x, fun h => ?_⟩
  have hc := nlIter_closed hh hs.length [] (by intro _ h; cases h) (by omega)
  exact h (· ∈ nlIter g hs.length []) fun r hr hs' => hc _ (mem_nlStep.mpr ⟨r, hr, rfl, fun s hs'' => (hs' s hs'').elim (fun q => by cases q) id⟩)
end Mine

set_option autoImplicit false
open PySem PyProof.Rows
namespace Mine
set_option linter.unusedVariables false
set_option linter.unusedSimpArgs false
set_option maxRecDepth 100000

def corners (nulls : List Str) : List Str → List Str
  | [] => []
  | s :: r => if s ∈ nulls then s :: corners nulls r else [s]
theorem co_loop (db : D) (nulls : List Str) : ∀ (body acc : List Str) (last : Slot), acc.length + body.length < 1000 →
    (∃ last', forL (putN 3) B__law_corners_1 (body.map .str) [.val 0 db, .val 0 (sL nulls), .val 1 (sL acc), last] = some (.next [.val 0 db, .val 0 (sL nulls), .val 1 (sL (acc ++ corners nulls body)), last'])) ∨
    forL (putN 3) B__law_corners_1 (body.map .str) [.val 0 db, .val 0 (sL nulls), .val 1 (sL acc), last] = some (.ret (sL (acc ++ corners nulls body)))
  | [], acc, last, _ => .inl ⟨last, by simp [forL, corners]⟩
  | s :: body, acc, last, hl => by
    rw [List.length_cons] at hl
    have hput : putN 3 [.val 0 db, .val 0 (sL nulls), .val 1 (sL acc), last] (.str s) = some [.val 0 db, .val 0 (sL nulls), .val 1 (sL acc), .val 0 (.str s)] := rfl
    have ha : acc.length < 100000 := by omega
    rw [List.map_cons, forL, hput, Option.bind_some]
    unfold corners
    by_cases h : s ∈ nulls
    · rw [if_pos h]
      have hb : B__law_corners_1 [.val 0 db, .val 0 (sL nulls), .val 1 (sL acc), .val 0 (.str s)] = some (.next [.val 0 db, .val 0 (sL nulls), .val 1 (sL (acc ++ [s])), .val 0 (.str s)]) := by
        simp [B__law_corners_1, putN, put, clr_val, clr_un, seqG, ifG, asgG, appG, setG, retG, forG, cmpB, notO, view, slotView, bin, un, nameF, nameM, idxD, inD, Out.bind, keepB, Mk.isFu, Mk.isOwn, Mk.cl, childM, callF, callM, consF, listF, tupF, Mk.cat, Mk.sl, Mk.clean, D.imm, D.flat, Mk.fre, D.cont, boolF, truthB, andB, orB, D.items, D.isL, fnF, ini, lim, inL_strs, sL, ha, h]
      rw [hb, Option.bind_some]
      have := co_loop db nulls body (acc ++ [s]) (.val 0 (.str s)) (by simp; omega)
      rw [List.append_assoc] at this
      exact this
    · rw [if_neg h]
      right
      simp [B__law_corners_1, putN, put, clr_val, clr_un, seqG, ifG, asgG, appG, setG, retG, forG, cmpB, notO, view, slotView, bin, un, nameF, nameM, idxD, inD, Out.bind, keepB, Mk.isFu, Mk.isOwn, Mk.cl, childM, callF, callM, consF, listF, tupF, Mk.cat, Mk.sl, Mk.clean, D.imm, D.flat, Mk.fre, D.cont, boolF, truthB, andB, orB, D.items, D.isL, fnF, ini, lim, inL_strs, sL, ha, h]
theorem φ_co (nulls body : List Str) (hl : body.length < 1000) : φ__law_corners [sL body, sL nulls] = some (sL (corners nulls body)) := by
  refine fnF_ret rfl ?_
  show G__law_corners [.val 0 (sL body), .val 0 (sL nulls), .un, .un] = _
  unfold G__law_corners
  have s1 : asgG 2 1 (listF (fun _ => some [])) (fun ρ => if (fun _ => true) ρ then Mk.own 1 else Mk.fu) [.val 0 (sL body), .val 0 (sL nulls), .un, .un] = some (.next [.val 0 (sL body), .val 0 (sL nulls), .val 1 (sL []), .un]) := rfl
  rw [seqG_next s1]
  rcases co_loop (sL body) nulls body [] .un (by simpa using hl) with ⟨last', h⟩ | h
  · rw [seqG_next (ρ' := _) (show forG false (nameF 0) (nameM 0) (putN 3) B__law_corners_1 [.val 0 (sL body), .val 0 (sL nulls), .val 1 (sL []), .un] = _ from h)]
    rfl
  · rw [seqG_ret (show forG false (nameF 0) (nameM 0) (putN 3) B__law_corners_1 [.val 0 (sL body), .val 0 (sL nulls), .val 1 (sL []), .un] = _ from h)]
    rfl
/-! begins -/
abbrev Ed := List (Str × Str)
def pairD (e : Str × Str) : D := .tup [.str e.1, .str e.2]
def edD (e : Ed) : D := .list (e.map pairD)
def bgStep (seen : List Str) (e : Str × Str) : List Str := if e.1 ∈ seen ∧ e.2 ∉ seen then seen ++ [e.2] else seen
def bgIter (E : Ed) : Nat → List Str → List Str
  | 0, s => s
  | k + 1, s => bgIter E k (E.foldl bgStep s)
theorem bgStep_len (s : List Str) (e : Str × Str) : (bgStep s e).length ≤ s.length + 1 := by unfold bgStep; split <;> simp
theorem bgPass_len (E : Ed) : ∀ s : List Str, (E.foldl bgStep s).length ≤ s.length + E.length := by
  induction E with
  | nil => intro s; simp
  | cons e E ih => intro s; have := ih (bgStep s e); have := bgStep_len s e; simp only [List.foldl_cons, List.length_cons]; omega
theorem bg_inner (d0 d1 d2 : D) (s4 : Slot) : ∀ (E : Ed) (seen : List Str) (s5 s6 : Slot), seen.length + E.length < 10000 →
    ∃ t4 t5 t6, forL (putT [5, 6]) B__law_begins_1 (E.map pairD) [.val 0 d0, .val 0 d1, .val 0 d2, .val 1 (sL seen), s4, s5, s6] = some (.next [.val 0 d0, .val 0 d1, .val 0 d2, .val 1 (sL (E.foldl bgStep seen)), t4, t5, t6])
  | [], seen, s5, s6, _ => ⟨s4, s5, s6, rfl⟩
  | e :: E, seen, s5, s6, hl => by
    rw [List.length_cons] at hl
    rw [List.map_cons, forL, List.foldl_cons]
    have hput : putT [5, 6] [.val 0 d0, .val 0 d1, .val 0 d2, .val 1 (sL seen), s4, s5, s6] (pairD e) = some [.val 0 d0, .val 0 d1, .val 0 d2, .val 1 (sL seen), clr 6 (clr 5 s4), .val 0 (.str e.1), .val 0 (.str e.2)] := rfl
    rw [hput, Option.bind_some]
    have ha : seen.length < 100000 := by omega
    by_cases h1 : e.1 ∈ seen
    · by_cases h2 : e.2 ∈ seen
      · have hb : B__law_begins_1 [.val 0 d0, .val 0 d1, .val 0 d2, .val 1 (sL seen), clr 6 (clr 5 s4), .val 0 (.str e.1), .val 0 (.str e.2)] = some (.next [.val 0 d0, .val 0 d1, .val 0 d2, .val 1 (sL (bgStep seen e)), clr 6 (clr 5 s4), .val 0 (.str e.1), .val 0 (.str e.2)]) := by
          simp [B__law_begins_1, putN, put, clr_val, clr_un, seqG, ifG, asgG, appG, setG, retG, forG, cmpB, notO, view, slotView, bin, un, nameF, nameM, idxD, inD, Out.bind, keepB, Mk.isFu, Mk.isOwn, Mk.cl, childM, callF, callM, consF, listF, tupF, Mk.cat, Mk.sl, Mk.clean, D.imm, D.flat, Mk.fre, D.cont, boolF, truthB, andB, orB, D.items, D.isL, fnF, ini, lim, inL_strs, sL, h1, h2, bgStep]
        rw [hb, Option.bind_some]
        exact bg_inner d0 d1 d2 (clr 6 (clr 5 s4)) E (bgStep seen e) _ _ (by have := bgStep_len seen e; omega)
      · have hb : B__law_begins_1 [.val 0 d0, .val 0 d1, .val 0 d2, .val 1 (sL seen), clr 6 (clr 5 s4), .val 0 (.str e.1), .val 0 (.str e.2)] = some (.next [.val 0 d0, .val 0 d1, .val 0 d2, .val 1 (sL (bgStep seen e)), clr 3 (clr 6 (clr 5 s4)), .val 0 (.str e.1), .val 0 (.str e.2)]) := by
          simp [B__law_begins_1, putN, put, clr_val, clr_un, seqG, ifG, asgG, appG, setG, retG, forG, cmpB, notO, view, slotView, bin, un, nameF, nameM, idxD, inD, Out.bind, keepB, Mk.isFu, Mk.isOwn, Mk.cl, childM, callF, callM, consF, listF, tupF, Mk.cat, Mk.sl, Mk.clean, D.imm, D.flat, Mk.fre, D.cont, boolF, truthB, andB, orB, D.items, D.isL, fnF, ini, lim, inL_strs, sL, h1, h2, bgStep, ha]
        rw [hb, Option.bind_some]
        exact bg_inner d0 d1 d2 (clr 3 (clr 6 (clr 5 s4))) E (bgStep seen e) _ _ (by have := bgStep_len seen e; omega)
    · have hb : B__law_begins_1 [.val 0 d0, .val 0 d1, .val 0 d2, .val 1 (sL seen), clr 6 (clr 5 s4), .val 0 (.str e.1), .val 0 (.str e.2)] = some (.next [.val 0 d0, .val 0 d1, .val 0 d2, .val 1 (sL (bgStep seen e)), clr 6 (clr 5 s4), .val 0 (.str e.1), .val 0 (.str e.2)]) := by
        simp [B__law_begins_1, putN, put, clr_val, clr_un, seqG, ifG, asgG, appG, setG, retG, forG, cmpB, notO, view, slotView, bin, un, nameF, nameM, idxD, inD, Out.bind, keepB, Mk.isFu, Mk.isOwn, Mk.cl, childM, callF, callM, consF, listF, tupF, Mk.cat, Mk.sl, Mk.clean, D.imm, D.flat, Mk.fre, D.cont, boolF, truthB, andB, orB, D.items, D.isL, fnF, ini, lim, inL_strs, sL, h1, bgStep]
      rw [hb, Option.bind_some]
      exact bg_inner d0 d1 d2 (clr 6 (clr 5 s4)) E (bgStep seen e) _ _ (by have := bgStep_len seen e; omega)
theorem bg_loop (d0 d2 : D) (E : Ed) : ∀ (js : List Nat) (seen : List Str) (s4 s5 s6 : Slot), seen.length + E.length * js.length < 10000 →
    ∃ t4 t5 t6, forL (putN 4) B__law_begins_2 (js.map fun j : Nat => .int (j : Int)) [.val 0 d0, .val 0 (edD E), .val 0 d2, .val 1 (sL seen), s4, s5, s6] = some (.next [.val 0 d0, .val 0 (edD E), .val 0 d2, .val 1 (sL (bgIter E js.length seen)), t4, t5, t6])
  | [], seen, s4, s5, s6, _ => ⟨s4, s5, s6, rfl⟩
  | j :: js, seen, s4, s5, s6, hl => by
    rw [List.length_cons, Nat.mul_add] at hl
    obtain ⟨t4, t5, t6, h⟩ := bg_inner d0 (edD E) d2 (.val 0 (.int (j : Int))) E seen (clr 4 s5) (clr 4 s6) (by omega)
    obtain ⟨u4, u5, u6, h'⟩ := bg_loop d0 d2 E js (E.foldl bgStep seen) t4 t5 t6 (by have := bgPass_len E seen; omega)
    refine ⟨u4, u5, u6, ?_⟩
    rw [List.map_cons, forL]
    have hput : putN 4 [.val 0 d0, .val 0 (edD E), .val 0 d2, .val 1 (sL seen), s4, s5, s6] (.int (j : Int)) = some [.val 0 d0, .val 0 (edD E), .val 0 d2, .val 1 (sL seen), .val 0 (.int (j : Int)), clr 4 s5, clr 4 s6] := rfl
    have hb : B__law_begins_2 [.val 0 d0, .val 0 (edD E), .val 0 d2, .val 1 (sL seen), .val 0 (.int (j : Int)), clr 4 s5, clr 4 s6] = some (.next [.val 0 d0, .val 0 (edD E), .val 0 d2, .val 1 (sL (E.foldl bgStep seen)), t4, t5, t6]) := by
      unfold B__law_begins_2
      rw [seqG_next (show forG true (nameF 1) (nameM 1) (putT [5, 6]) B__law_begins_1 [.val 0 d0, .val 0 (edD E), .val 0 d2, .val 1 (sL seen), .val 0 (.int (j : Int)), clr 4 s5, clr 4 s6] = _ from h)]
    rw [hput, Option.bind_some, hb, Option.bind_some]
    exact h'
theorem bg_filter (a b d x y z : Option (D × Mk)) (hs seen : List Str) : K__law_begins_1 [a, b, some (sL hs, .fr), some (sL seen, .bor), x, y, z] = some (sL (seen.filter fun s => !decide (s ∈ hs))) := by
  have k := compL_map (upd := setN 7) (bs := cmpB (notO inD) (nameF 7) (nameF 2)) (fe := nameF 7) (me := nameM 7) (ρ := [a, b, some (sL hs, .fr), some (sL seen, .bor), x, y, z, none]) D.str (fun s => !decide (s ∈ hs)) D.str seen fun s _ => by
    refine ⟨[a, b, some (sL hs, .fr), some (sL seen, .bor), x, y, z, some (.str s, .fr)], rfl, ?_, fun _ => ⟨rfl, rfl⟩⟩
    simp [putN, put, clr_val, clr_un, seqG, ifG, asgG, appG, setG, retG, forG, cmpB, notO, view, slotView, bin, un, nameF, nameM, idxD, inD, Out.bind, keepB, Mk.isFu, Mk.isOwn, Mk.cl, childM, callF, callM, consF, listF, tupF, Mk.cat, Mk.sl, Mk.clean, D.imm, D.flat, Mk.fre, D.cont, boolF, truthB, andB, orB, D.items, D.isL, fnF, ini, lim, inL_strs, sL]
  unfold K__law_begins_1 compF
  simp only [nameF, nameM, List.length_cons, List.length_nil, List.getElem?_cons_succ, List.getElem?_cons_zero, sL, D.items, Mk.sl, Mk.cat, D.isL, List.replicate]
  simp
  first | exact k | exact ⟨_, k, rfl⟩
theorem φ_bg (E : Ed) (starts hs : List Str) (h1 : hs.length ≤ 20) (h2 : starts.length + E.length * (hs.length + 1) < 10000) (h3 : ((bgIter E (hs.length + 1) starts).filter fun s => !decide (s ∈ hs)).length < 64) :
    φ__law_begins [sL starts, edD E, sL hs] = some (sL (sortS ((bgIter E (hs.length + 1) starts).filter fun s => !decide (s ∈ hs)))) := by
  obtain ⟨t4, t5, t6, h⟩ := bg_loop (sL starts) (sL hs) E (List.range (hs.length + 1)) starts .un .un .un (by rw [List.length_range]; exact h2)
  rw [List.length_range] at h
  refine fnF_ret rfl ?_
  show G__law_begins [.val 0 (sL starts), .val 0 (edD E), .val 0 (sL hs), .un, .un, .un, .un] = _
  unfold G__law_begins
  have s1 : asgG 3 1 (sliceF (nameF 0) (fun _ => some none) (fun _ => some none)) (copyM (nameM 0)) [.val 0 (sL starts), .val 0 (edD E), .val 0 (sL hs), .un, .un, .un, .un] = some (.next [.val 0 (sL starts), .val 0 (edD E), .val 0 (sL hs), .val 1 (sL starts), .un, .un, .un]) := rfl
  rw [seqG_next s1]
  have hr := rng_items (hs.length + 1) (by omega)
  have ek : ((hs.length + 1 : Nat) : Int) = (hs.length : Int) + 1 := by omega
  rw [ek] at hr
  have s2 : forG false (un rangeD (bin addD (un lenD (nameF 2)) (fun _ => some (D.int 1)))) (fun _ => Mk.fr) (putN 4) B__law_begins_2 [.val 0 (sL starts), .val 0 (edD E), .val 0 (sL hs), .val 1 (sL starts), .un, .un, .un] = some (.next [.val 0 (sL starts), .val 0 (edD E), .val 0 (sL hs), .val 1 (sL (bgIter E (hs.length + 1) starts)), t4, t5, t6]) := by
    unfold forG
    have hf : un rangeD (bin addD (un lenD (nameF 2)) (fun _ => some (D.int 1))) (view [.val 0 (sL starts), .val 0 (edD E), .val 0 (sL hs), .val 1 (sL starts), .un, .un, .un]) = some (.rng 0 ((hs.length : Int) + 1) 1) := by
      simp [putN, put, clr_val, clr_un, seqG, ifG, asgG, appG, setG, retG, forG, cmpB, notO, view, slotView, bin, un, nameF, nameM, inD, Out.bind, keepB, Mk.isFu, Mk.isOwn, Mk.cl, childM, callF, callM, consF, listF, tupF, Mk.cat, Mk.sl, Mk.clean, D.imm, D.flat, Mk.fre, D.cont, boolF, truthB, andB, orB, D.isL, fnF, ini, lim, sL, lenD, rangeD, addD]
    rw [hf, Option.bind_some, hr, Option.bind_some]
    exact h
  rw [seqG_next s2]
  refine seqG_ret ?_
  unfold retG un
  have hv : view [.val 0 (sL starts), .val 0 (edD E), .val 0 (sL hs), .val 1 (sL (bgIter E (hs.length + 1) starts)), t4, t5, t6] = [some (sL starts, .fr), some (edD E, .fr), some (sL hs, .fr), some (sL (bgIter E (hs.length + 1) starts), .bor), slotView [.val 0 (sL starts), .val 0 (edD E), .val 0 (sL hs), .val 1 (sL (bgIter E (hs.length + 1) starts)), t4, t5, t6] t4, slotView [.val 0 (sL starts), .val 0 (edD E), .val 0 (sL hs), .val 1 (sL (bgIter E (hs.length + 1) starts)), t4, t5, t6] t5, slotView [.val 0 (sL starts), .val 0 (edD E), .val 0 (sL hs), .val 1 (sL (bgIter E (hs.length + 1) starts)), t4, t5, t6] t6] := rfl
  rw [hv, bg_filter _ _ none]
  simp only [sL, Option.bind_some, sortD, unStrs_sL, h3, if_true]
  rfl
/-! it is the closure -/
def Cl (E : Ed) (starts : List Str) (x : Str) : Prop := ∀ S : Str → Prop, (∀ s ∈ starts, S s) → (∀ e ∈ E, S e.1 → S e.2) → S x
theorem bgPass_sub (E : Ed) : ∀ (s : List Str), ∀ x ∈ s, x ∈ E.foldl bgStep s := by
  induction E with
  | nil => intro s x h; exact h
  | cons e E ih => intro s x h; exact ih _ x (by unfold bgStep; split; exact List.mem_append_left _ h; exact h)
theorem bgPass_sound {S : Str → Prop} (E : Ed) : ∀ (s : List Str), (∀ e ∈ E, S e.1 → S e.2) → (∀ x ∈ s, S x) → ∀ x ∈ E.foldl bgStep s, S x := by
  induction E with
  | nil => intro s _ h; exact h
  | cons e E ih =>
    intro s hE h
    refine ih _ (fun q hq => hE q (.tail _ hq)) fun x hx => ?_
    unfold bgStep at hx
    split at hx
    · rename_i hc
      rcases List.mem_append.mp hx with q | q
      · exact h x q
      · simp at q; subst q; exact hE e (.head _) (h _ hc.1)
    · exact h x hx
theorem bgPass_has (E : Ed) : ∀ (s : List Str), ∀ e ∈ E, e.1 ∈ s → e.2 ∈ E.foldl bgStep s := by
  induction E with
  | nil => intro s e h; cases h
  | cons q E ih =>
    intro s e he h
    rw [List.foldl_cons]
    rcases List.mem_cons.mp he with rfl | he
    · refine bgPass_sub E _ _ ?_
      unfold bgStep
      by_cases hc : e.2 ∈ s
      · rw [if_neg fun z => z.2 hc]; exact hc
      · rw [if_pos ⟨h, hc⟩]; simp
    · exact ih _ e he (by unfold bgStep; split; exact List.mem_append_left _ h; exact h)
def ClosedE (E : Ed) (s : List Str) : Prop := ∀ e ∈ E, e.1 ∈ s → e.2 ∈ s
theorem bgPass_fix (E : Ed) : ∀ (s : List Str), ClosedE E s → E.foldl bgStep s = s := by
  induction E with
  | nil => intro s _; rfl
  | cons e E ih =>
    intro s h
    have : bgStep s e = s := by
      unfold bgStep
      rw [if_neg]
      rintro ⟨a, b⟩
      exact b (h e (.head _) a)
    rw [List.foldl_cons, this]
    exact ih s fun q hq => h q (.tail _ hq)
theorem bgIter_fix (E : Ed) : ∀ (k : Nat) (s : List Str), ClosedE E s → bgIter E k s = s
  | 0, s, _ => rfl
  | k + 1, s, h => by unfold bgIter; rw [bgPass_fix E s h]; exact bgIter_fix E k s h
theorem filter_le {hs : List Str} {a b : List Str} (h : ∀ x ∈ a, x ∈ b) : (hs.filter fun x => decide (x ∈ a)).length ≤ (hs.filter fun x => decide (x ∈ b)).length ∧
    ((hs.filter fun x => decide (x ∈ b)).length ≤ (hs.filter fun x => decide (x ∈ a)).length → ∀ x ∈ hs, x ∈ b → x ∈ a) := by
  induction hs with
  | nil => exact ⟨Nat.le_refl _, fun _ _ h => by cases h⟩
  | cons y l ih =>
    rw [List.filter_cons, List.filter_cons]
    by_cases h1 : y ∈ a
    · simp only [h1, h y h1, decide_true, if_true, List.length_cons]
      refine ⟨by omega, fun hl x hx hb => ?_⟩
      rcases List.mem_cons.mp hx with rfl | hx
      · exact h1
      · exact ih.2 (by omega) x hx hb
    · by_cases h2 : y ∈ b
      · simp only [h1, h2, decide_true, decide_false, if_true, List.length_cons]
        have := ih.1
        refine ⟨by simp; omega, fun hl => ?_⟩
        simp at hl
        omega
      · simp only [h1, h2, decide_false]
        refine ⟨by simpa using ih.1, fun hl x hx hb => ?_⟩
        rcases List.mem_cons.mp hx with rfl | hx
        · exact absurd hb h2
        · exact ih.2 (by simpa using hl) x hx hb
theorem bgIter_closed {E : Ed} {hs : List Str} (hh : ∀ e ∈ E, e.1 ∈ hs) : ∀ (k : Nat) (s : List Str), hs.length + 1 ≤ k + (hs.filter fun x => decide (x ∈ s)).length → ClosedE E (bgIter E k s)
  | 0, s, h => by have := List.length_filter_le (fun x => decide (x ∈ s)) hs; omega
  | k + 1, s, h => by
    show ClosedE E (bgIter E k (E.foldl bgStep s))
    obtain ⟨f1, f2⟩ := filter_le (hs := hs) (bgPass_sub E s)
    by_cases hc : (hs.filter fun x => decide (x ∈ E.foldl bgStep s)).length ≤ (hs.filter fun x => decide (x ∈ s)).length
    · have cl : ClosedE E (E.foldl bgStep s) := fun e he h1 => bgPass_has E s e he (f2 hc e.1 (hh e he) h1)
      rw [bgIter_fix E k _ cl]
      exact cl
    · exact bgIter_closed hh k _ (by omega)
theorem bgIter_sound {E : Ed} {S : Str → Prop} (hE : ∀ e ∈ E, S e.1 → S e.2) : ∀ (k : Nat) (s : List Str), (∀ x ∈ s, S x) → ∀ x ∈ bgIter E k s, S x
  | 0, s, h => h
  | k + 1, s, h => bgIter_sound hE k _ (bgPass_sound E s hE h)
theorem bgIter_sub (E : Ed) : ∀ (k : Nat) (s : List Str), ∀ x ∈ s, x ∈ bgIter E k s
  | 0, s, x, h => h
  | k + 1, s, x, h => bgIter_sub E k _ x (bgPass_sub E s x h)
theorem mem_bg {E : Ed} {hs : List Str} (hh : ∀ e ∈ E, e.1 ∈ hs) (starts : List Str) (x : Str) : x ∈ bgIter E (hs.length + 1) starts ↔ Cl E starts x := by
  constructor
  · intro h S h1 h2
    exact bgIter_sound h2 _ starts h1 x h
  · intro h
    exact h (· ∈ bgIter E (hs.length + 1) starts) (bgIter_sub E _ starts) (bgIter_closed hh _ starts (by omega))
/-- tokens stand there once -/
theorem bgPass_nodup (hs : List Str) (E : Ed) : ∀ (s : List Str), (s.filter fun x => !decide (x ∈ hs)).Nodup → ((E.foldl bgStep s).filter fun x => !decide (x ∈ hs)).Nodup := by
  induction E with
  | nil => intro s h; exact h
  | cons e E ih =>
    intro s h
    refine ih _ ?_
    unfold bgStep
    split
    · rename_i hc
      rw [List.filter_append]
      refine List.nodup_append.mpr ⟨h, ?_, fun a ha b hb e' => ?_⟩
      · by_cases hq : e.2 ∈ hs <;> simp [hq]
      · subst e'
        have h1 := (List.mem_filter.mp ha).1
        have h2 := (List.mem_filter.mp hb).1
        simp at h2
        subst h2
        exact hc.2 h1
    · exact h
theorem bgIter_nodup (hs : List Str) (E : Ed) : ∀ (k : Nat) (s : List Str), (s.filter fun x => !decide (x ∈ hs)).Nodup → ((bgIter E k s).filter fun x => !decide (x ∈ hs)).Nodup
  | 0, s, h => h
  | k + 1, s, h => bgIter_nodup hs E k _ (bgPass_nodup hs E s h)
end Mine

set_option autoImplicit false
open PySem PyProof.Rows
namespace Mine
set_option linter.unusedVariables false
set_option linter.unusedSimpArgs false
set_option maxRecDepth 100000

theorem InFos_corner {hs N : List Str} {T : Str → Str → Prop} : ∀ {body : List Str} {x : Str}, InFos hs N T body x → ∃ s ∈ corners N body, (s ∉ hs ∧ x = s) ∨ (s ∈ hs ∧ T s x)
  | s :: r, x, h => by
    have hd : s ∈ corners N (s :: r) := by unfold corners; split <;> simp
    rcases h with h | ⟨h1, h2 | ⟨h2, h3⟩⟩
    · exact ⟨s, hd, .inl h⟩
    · exact ⟨s, hd, .inr ⟨h1, h2⟩⟩
    · obtain ⟨t, ht, hq⟩ := InFos_corner h3
      refine ⟨t, ?_, hq⟩
      unfold corners
      rw [if_pos h2]
      exact List.mem_cons_of_mem _ ht
theorem corner_InFos {hs N : List Str} (hN : ∀ s ∈ N, s ∈ hs) {T : Str → Str → Prop} : ∀ {body : List Str} {s x : Str}, s ∈ corners N body → (s ∉ hs ∧ x = s) ∨ (s ∈ hs ∧ T s x) → InFos hs N T body x
  | t :: r, s, x, hs', h => by
    unfold corners at hs'
    split at hs'
    · rename_i ht
      rcases List.mem_cons.mp hs' with e | e
      · subst e
        rcases h with h | ⟨h1, h2⟩
        · exact .inl h
        · exact .inr ⟨h1, .inl h2⟩
      · exact .inr ⟨hN t ht, .inr ⟨ht, corner_InFos hN e h⟩⟩
    · simp at hs'
      subst hs'
      rcases h with h | ⟨h1, h2⟩
      · exact .inl h
      · exact .inr ⟨h1, .inl h2⟩
theorem first_closed (g : Gr) (hs N : List Str) : FClosed g hs N (First g hs N) := fun r hr x h T hT => hT r hr x (h.mono fun s y q => q T hT)
def edgesOf (g : Gr) (N : List Str) : Ed := g.flatMap fun r => (corners N r.2).map fun s => (r.1, s)
theorem mem_edges {g : Gr} {N : List Str} {e : Str × Str} : e ∈ edgesOf g N ↔ ∃ r ∈ g, r.1 = e.1 ∧ e.2 ∈ corners N r.2 := by
  unfold edgesOf
  rw [List.mem_flatMap]
  constructor
  · rintro ⟨r, hr, h⟩
    obtain ⟨s, hs, rfl⟩ := List.mem_map.mp h
    exact ⟨r, hr, rfl, hs⟩
  · rintro ⟨r, hr, h1, h2⟩
    exact ⟨r, hr, List.mem_map.mpr ⟨e.2, h2, by rw [h1]⟩⟩
theorem Cl.trans {E : Ed} {a : List Str} {s x : Str} (h : Cl E a s) (h' : Cl E [s] x) : Cl E a x := fun S h1 h2 => h' S (fun t ht => by simp at ht; subst ht; exact h S h1 h2) h2
theorem Cl.base {E : Ed} {a : List Str} {s : Str} (h : s ∈ a) : Cl E a s := fun S h1 _ => h1 s h
theorem Cl.edge {E : Ed} {a : List Str} {e : Str × Str} (he : e ∈ E) (h : Cl E a e.1) : Cl E a e.2 := fun S h1 h2 => h2 e he (h S h1 h2)
theorem Cl.split {E : Ed} {a : List Str} {x : Str} (h : Cl E a x) : ∃ s ∈ a, Cl E [s] x :=
  h (fun y => ∃ s ∈ a, Cl E [s] y) (fun s hs => ⟨s, hs, .base (.head _)⟩) fun e he ⟨s, hs, q⟩ => ⟨s, hs, q.edge he⟩
theorem Cl.stuck {E : Ed} {s x : Str} (hn : ∀ e ∈ E, e.1 ≠ s) (h : Cl E [s] x) : x = s :=
  h (fun y => y = s) (fun t ht => by simpa using ht) fun e he q => absurd q (hn e he)
/-- the least relation is reachability -/
theorem first_iff {g : Gr} {hs N : List Str} (hh : ∀ x, x ∈ hs ↔ x ∈ g.map (·.1)) (hN : ∀ s ∈ N, s ∈ hs) {h x : Str} (hm : h ∈ hs) : First g hs N h x ↔ x ∉ hs ∧ Cl (edgesOf g N) [h] x := by
  constructor
  · intro hf
    refine hf (fun h x => x ∉ hs ∧ Cl (edgesOf g N) [h] x) fun r hr x hx => ?_
    obtain ⟨s, hs', hq⟩ := InFos_corner hx
    have he : (r.1, s) ∈ edgesOf g N := mem_edges.mpr ⟨r, hr, rfl, hs'⟩
    have hc : Cl (edgesOf g N) [r.1] s := Cl.edge he (.base (.head _))
    rcases hq with ⟨h1, rfl⟩ | ⟨_, h1, h2⟩
    · exact ⟨h1, hc⟩
    · exact ⟨h1, hc.trans h2⟩
  · rintro ⟨hx, hc⟩
    have := hc (fun y => (y ∉ hs → First g hs N h y) ∧ (y ∈ hs → ∀ z, First g hs N y z → First g hs N h z)) (fun s hs' => by
      simp at hs'; subst hs'; exact ⟨fun q => absurd hm q, fun _ _ q => q⟩) fun e he hp => by
      obtain ⟨r, hr, h1, h2⟩ := mem_edges.mp he
      have hph : e.1 ∈ hs := (hh _).mpr (h1 ▸ List.mem_map_of_mem (f := (·.1)) hr)
      have step : ∀ z, (e.2 ∉ hs ∧ z = e.2) ∨ (e.2 ∈ hs ∧ First g hs N e.2 z) → First g hs N h z := fun z q =>
        hp.2 hph z (h1 ▸ first_closed g hs N r hr z (corner_InFos hN h2 q))
      exact ⟨fun q => step _ (.inl ⟨q, rfl⟩), fun q z hz => step z (.inr ⟨q, hz⟩)⟩
    exact this.1 hx
theorem corners_len (N : List Str) : ∀ body, (corners N body).length ≤ body.length
  | [] => Nat.le_refl _
  | s :: r => by unfold corners; split <;> simp; exact corners_len N r
theorem corners_sub (N : List Str) : ∀ {body : List Str} {s : Str}, s ∈ corners N body → s ∈ body
  | [], s, h => h
  | t :: r, s, h => by
    unfold corners at h
    split at h
    · rcases List.mem_cons.mp h with rfl | h
      · exact .head _
      · exact .tail _ (corners_sub N h)
    · simp at h; subst h; exact .head _
theorem corners_once {hs N : List Str} (hN : ∀ s ∈ N, s ∈ hs) : ∀ body, ((corners N body).filter fun x => !decide (x ∈ hs)).Nodup
  | [] => List.nodup_nil
  | s :: r => by
    unfold corners
    split
    · rename_i h
      rw [List.filter_cons]
      simp only [hN s h, decide_true, Bool.not_true]
      exact corners_once hN r
    · by_cases h : s ∈ hs <;> simp [h]
def bgs (E : Ed) (hs starts : List Str) : List Str := sortS ((bgIter E (hs.length + 1) starts).filter fun s => !decide (s ∈ hs))
theorem canon_bgs {E : Ed} {hs starts : List Str} (h : (starts.filter fun x => !decide (x ∈ hs)).Nodup) : Canon (bgs E hs starts) := canon_sort (bgIter_nodup hs E _ starts h)
theorem mem_bgs {E : Ed} {hs starts : List Str} (hh : ∀ e ∈ E, e.1 ∈ hs) {x : Str} : x ∈ bgs E hs starts ↔ x ∉ hs ∧ Cl E starts x := by
  unfold bgs
  rw [mem_sortS, List.mem_filter, mem_bg hh]
  constructor
  · rintro ⟨a, b⟩; exact ⟨by simpa using b, a⟩
  · rintro ⟨a, b⟩; exact ⟨b, by simpa using a⟩
theorem gr_ext : ∀ {F : Gr} {hs : List Str} {f : Str → List Str}, F.map (·.1) = hs → hs.Nodup → (∀ h ∈ hs, F.lookup h = some (f h)) → F = hs.map fun h => (h, f h)
  | [], hs, f, h, _, _ => by subst h; rfl
  | (k, v) :: r, hs, f, h, hn, hl => by
    subst h
    rw [List.map_cons, List.nodup_cons] at hn
    have h1 := hl k (.head _)
    simp at h1
    rw [List.map_cons, List.map_cons, ← h1]
    congr 1
    refine gr_ext rfl hn.2 fun h hh => ?_
    have := hl h (.tail _ hh)
    rw [List.lookup_cons] at this
    have hne : (h == k) = false := by
      have : h ≠ k := fun e => hn.1 (e ▸ hh)
      simpa using this
    rw [hne] at this
    exact this
/-- the sets are as due -/
theorem firsts_due {U : List Str} {g : Gr} {hs N : List Str} {F : Gr} (hhs : hs = dedup (g.map (·.1))) (hN : ∀ s ∈ N, s ∈ g.map (·.1)) (i : FsInv U hs F) (hr : ∀ h x, relOf F h x ↔ (h ∈ g.map (·.1) ∧ First g hs N h x)) :
    F = hs.map fun h => (h, bgs (edgesOf g N) hs [h]) := by
  have hh : ∀ x, x ∈ hs ↔ x ∈ g.map (·.1) := fun x => by rw [hhs]; exact mem_dedup
  have hE : ∀ e ∈ edgesOf g N, e.1 ∈ hs := fun e he => by obtain ⟨r, hr, h1, _⟩ := mem_edges.mp he; exact (hh _).mpr (h1 ▸ List.mem_map_of_mem (f := (·.1)) hr)
  refine gr_ext i.keys (hhs ▸ dedup_nodup _) fun h hm => ?_
  obtain ⟨l, hl⟩ := i.some hm
  rw [hl]
  congr 1
  refine canon_eq (i.can h l hl) (canon_bgs ?_) fun x => ?_
  · by_cases q : h ∈ hs <;> simp [q]
  · rw [mem_bgs hE, ← first_iff hh (fun s q => (hh s).mpr (hN s q)) hm]
    have := hr h x
    constructor
    · intro hx; exact (this.mp ⟨l, hl, hx⟩).2
    · intro hx
      obtain ⟨l', a, b⟩ := this.mpr ⟨(hh h).mp hm, hx⟩
      rw [hl] at a; cases a; exact b
theorem fos_due {U : List Str} {g : Gr} {hs N : List Str} {F : Gr} (hhs : hs = dedup (g.map (·.1))) (hN : ∀ s ∈ N, s ∈ g.map (·.1)) (i : FsInv U hs F) (hr : ∀ h x, relOf F h x ↔ (h ∈ g.map (·.1) ∧ First g hs N h x)) (body : List Str) :
    (fos F N [] body).1 = bgs (edgesOf g N) hs (corners N body) ∧ (fos F N [] body).2 = decide (∀ s ∈ body, s ∈ N) := by
  have hh : ∀ x, x ∈ hs ↔ x ∈ g.map (·.1) := fun x => by rw [hhs]; exact mem_dedup
  have hE : ∀ e ∈ edgesOf g N, e.1 ∈ hs := fun e he => by obtain ⟨r, hr, h1, _⟩ := mem_edges.mp he; exact (hh _).mpr (h1 ▸ List.mem_map_of_mem (f := (·.1)) hr)
  have hN' : ∀ s ∈ N, s ∈ hs := fun s q => (hh s).mpr (hN s q)
  have hrel : ∀ h x, h ∈ hs → (relOf F h x ↔ x ∉ hs ∧ Cl (edgesOf g N) [h] x) := fun h x hm => by
    rw [hr, first_iff hh hN' hm]
    exact ⟨fun q => q.2, fun q => ⟨(hh h).mp hm, q⟩⟩
  refine ⟨canon_eq (fos_canon canon_nil) (canon_bgs (corners_once hN' body)) fun x => ?_, fos_vanish (by rw [i.keys]; exact hN')⟩
  rw [mem_fos, mem_bgs hE, i.keys]
  constructor
  · rintro (h | h)
    · cases h
    · obtain ⟨s, hs', hq⟩ := InFos_corner h
      rcases hq with ⟨h1, rfl⟩ | ⟨h1, h2⟩
      · exact ⟨h1, .base hs'⟩
      · obtain ⟨a, b⟩ := (hrel s x h1).mp h2
        exact ⟨a, (Cl.base hs').trans b⟩
  · rintro ⟨hx, hc⟩
    obtain ⟨s, hs', hq⟩ := hc.split
    refine .inr (corner_InFos hN' hs' ?_)
    by_cases hm : s ∈ hs
    · exact .inr ⟨hm, (hrel s x hm).mpr ⟨hx, hq⟩⟩
    · exact .inl ⟨hm, hq.stuck fun e he q => hm (q ▸ hE e he)⟩
end Mine

set_option autoImplicit false
open PySem PyProof.Rows
namespace Mine
set_option linter.unusedVariables false
set_option linter.unusedSimpArgs false
set_option maxRecDepth 100000

theorem compF_eq {n k : Nat} {tt : Bool} {fi : EEnv → Option D} {mi : EEnv → Mk} {upd : EEnv → D → Option EEnv} {bs : EEnv → Option Bool} {fe : EEnv → Option D} {me : EEnv → Mk} {ρ : EEnv} {d : D} {ds outs : List D} (h1 : ρ.length = n) (h2 : fi ρ = some d) (h3 : d.items = some ds)
    (h4 : (((mi ρ).cat || ds.all D.imm) && (!tt || d.isL)) = true) (h5 : compL upd bs fe me (ρ ++ List.replicate k none) ds = some outs) : compF n k tt fi mi upd bs fe me ρ = some (.list outs) := by
  unfold compF
  rw [if_pos h1, h2, Option.bind_some, h3, Option.bind_some, if_pos h4, h5]
  rfl
theorem forG_eq {tt : Bool} {f : EEnv → Option D} {m : EEnv → Mk} {upd : List Slot → D → Option (List Slot)} {g : List Slot → Option Out} {ρ : List Slot} {d : D} {ds : List D} (h1 : f (view ρ) = some d) (h2 : d.items = some ds) (h3 : ((m (view ρ)).cl d && (!tt || d.isL)) = true) : forG tt f m upd g ρ = forL upd g ds ρ := by
  unfold forG
  rw [h1, Option.bind_some, h2, Option.bind_some, if_pos h3]
theorem eqL_strsN (n : Nat) : ∀ (a b : List Str), a.length = b.length → eqL (eqD n) (a.map .str) (b.map .str) = some (decide (a = b))
  | [], [], _ => by simp [eqL]
  | [], _ :: _, h => by simp at h
  | _ :: _, [], h => by simp at h
  | x :: a, y :: b, h => by
    have ih := eqL_strsN n a b (by simpa using h)
    have e : eqD n (.str x) (.str y) = some (x == y) := by cases n <;> rfl
    simp only [List.map_cons, eqL, e, Option.bind_some, ih]
    by_cases h1 : x = y <;> by_cases h2 : a = b <;> simp [h1, h2]
theorem eqD_strsN (n : Nat) (a b : List Str) : eqD (n + 1) (.list (a.map .str)) (.list (b.map .str)) = some (decide (a = b)) := by
  unfold eqD
  by_cases h : a.length = b.length
  · rw [if_pos (by simpa using h), eqL_strsN n a b h]
  · rw [if_neg (by simpa using h)]
    have : a ≠ b := fun e => h (e ▸ rfl)
    simp [this]
theorem eqD_rule (n : Nat) (r : Str × List Str) : eqD (n + 2) (ruleD r) (ruleD r) = some true := by
  unfold ruleD sL
  have h1 : eqD (n + 1) (.str r.1) (.str r.1) = some true := by simp [eqD]
  have h2 := eqD_strsN n r.2 r.2
  unfold eqD
  simp only [eqL, h1, h2, Option.bind_some]
  simp
theorem eqL_rules (n : Nat) : ∀ g : Gr, eqL (eqD (n + 2)) (g.map ruleD) (g.map ruleD) = some true
  | [] => rfl
  | r :: g => by rw [List.map_cons, eqL, eqD_rule, Option.bind_some, eqL_rules n g]; rfl
theorem eqD_gram (g : Gr) : eqD 40 (gramD g) (gramD g) = some true := by
  unfold gramD eqD
  rw [if_pos rfl]
  exact eqL_rules 37 g
theorem hits_self {F : Gr} (hn : (F.map (·.1)).Nodup) : ∀ (G : Gr), (∀ p ∈ G, p ∈ F) → hitsD (F.map fun p => (p.1, sL p.2)) (G.map fun p => (p.1, sL p.2)) = some true
  | [], _ => rfl
  | p :: G, h => by
    have hl := lookup_dict F p.1
    rw [lookup_of_mem hn (h p (.head _))] at hl
    rw [List.map_cons, hitsD]
    simp only [hl, Option.map_some]
    rw [show eqD 38 (sL p.2) (sL p.2) = some true by unfold sL; rw [eqD_strsN 37]; simp, Option.bind_some, hits_self hn G fun q hq => h q (.tail _ hq)]
    rfl
theorem eqE_self {F : Gr} (hn : (F.map (·.1)).Nodup) : eqE (dictD F) (dictD F) = some true := by
  show (if _ then _ else _) = _
  exact (if_pos rfl).trans (hits_self hn F fun _ h => h)
/-! the pieces of law -/
theorem take_succ_dedup (xs : List Str) (k : Nat) (h : k < xs.length) : dedup (xs.take (k + 1)) = addU (dedup (xs.take k)) xs[k] := by
  unfold dedup
  rw [List.take_succ_eq_append_getElem h, List.foldl_append]
  rfl
theorem heads_eq (xs : List Str) : ∀ k, k ≤ xs.length → ((List.range k).filter fun i => !decide ((xs[i]?).getD Str.empty ∈ xs.take i)).map (fun i => (xs[i]?).getD Str.empty) = dedup (xs.take k)
  | 0, _ => rfl
  | k + 1, h => by
    rw [List.range_succ, List.filter_append, List.map_append, heads_eq xs k (by omega), take_succ_dedup xs k (by omega)]
    have e : xs[k]? = some xs[k] := List.getElem?_eq_getElem (by omega)
    unfold addU
    by_cases hm : xs[k] ∈ xs.take k
    · have : xs[k] ∈ dedup (xs.take k) := mem_dedup.mpr hm
      simp [e, hm, this]
    · have : xs[k] ∉ dedup (xs.take k) := fun q => hm (mem_dedup.mp q)
      simp [e, hm, this]
section
variable (ns : List Int) (g : Gr)
abbrev Z (ds dn dh dN : D) (e8 e10 x3 x4 x9 x11 x12 x13 : Slot) : List Slot := [.val 0 ds, .val 0 (gramD g), .val 0 (gramD g), x3, x4, .val 0 dn, .val 0 dh, .val 0 dN, e8, x9, e10, x11, x12, x13]
theorem law_names (a b1 b2 b3 b4 b5 b6 b7 b8 b9 b10 b11 b12 : Option (D × Mk)) : K_law_1 [a, some (gramD g, .fr), b1, b2, b3, b4, b5, b6, b7, b8, b9, b10, b11, b12] = some (sL (g.map (·.1))) := by
  have k := compL_map (upd := setT [14, 15]) (bs := fun _ => some true) (fe := nameF 14) (me := nameM 14) (ρ := [a, some (gramD g, .fr), b1, b2, b3, b4, b5, b6, b7, b8, b9, b10, b11, b12, none, none]) ruleD (fun _ => true) (fun r => .str r.1) g fun r _ => ⟨_, rfl, rfl, fun _ => ⟨rfl, rfl⟩⟩
  rw [List.filter_eq_self.mpr fun _ _ => rfl] at k
  have e : g.map (fun r => D.str r.1) = (g.map (·.1)).map .str := by rw [List.map_map]; rfl
  rw [e] at k
  exact compF_eq rfl rfl rfl rfl k
theorem law_heads (xs : List Str) (hx : xs.length ≤ 100) (a0 a1 a2 a3 a4 a6 a7 a8 a9 a10 a11 a12 a13 : Option (D × Mk)) : K_law_2 [a0, a1, a2, a3, a4, some (sL xs, .fr), a6, a7, a8, a9, a10, a11, a12, a13] = some (sL (dedup xs)) := by
  have k := compL_map (upd := setN 14) (bs := cmpB (notO inD) (bin idxD (nameF 5) (nameF 14)) (sliceF (nameF 5) (fun _ => some none) (natF (nameF 14)))) (fe := bin idxD (nameF 5) (nameF 14)) (me := childM (nameM 5)) (ρ := [a0, a1, a2, a3, a4, some (sL xs, .fr), a6, a7, a8, a9, a10, a11, a12, a13, none])
    (fun i : Nat => D.int (i : Int)) (fun i => !decide ((xs[i]?).getD Str.empty ∈ xs.take i)) (fun i => .str ((xs[i]?).getD Str.empty)) (List.range xs.length) fun i hi => by
      have hi := List.mem_range.mp hi
      have e : xs[i]? = some xs[i] := List.getElem?_eq_getElem hi
      refine ⟨[a0, a1, a2, a3, a4, some (sL xs, .fr), a6, a7, a8, a9, a10, a11, a12, a13, some (.int (i : Int), .fr)], rfl, ?_, fun _ => ⟨?_, rfl⟩⟩
      · have h1 : bin idxD (nameF 5) (nameF 14) [a0, a1, a2, a3, a4, some (sL xs, .fr), a6, a7, a8, a9, a10, a11, a12, a13, some (.int (i : Int), .fr)] = some (.str xs[i]) := by
          show (if 0 ≤ (i : Int) ∧ (i : Int) ≤ lim then (xs.map D.str)[(i : Int).toNat]? else none) = _
          rw [if_pos ⟨by omega, by rw [lim_eq]; omega⟩]
          simp [e]
        have hn : natF (nameF 14) [a0, a1, a2, a3, a4, some (sL xs, .fr), a6, a7, a8, a9, a10, a11, a12, a13, some (.int (i : Int), .fr)] = some (some i) := by
          show (if 0 ≤ (i : Int) then some (some (i : Int).toNat) else none) = _
          rw [if_pos (by omega)]
          simp
        have h2 : sliceF (nameF 5) (fun _ => some none) (natF (nameF 14)) [a0, a1, a2, a3, a4, some (sL xs, .fr), a6, a7, a8, a9, a10, a11, a12, a13, some (.int (i : Int), .fr)] = some (.list ((xs.take i).map .str)) := by
          unfold sliceF
          rw [hn]
          simp [nameF, sliceD, sliceL, sL, List.map_take]
        unfold cmpB
        rw [h1, h2]
        show Option.map (fun b => !b) (inL (eqD 40) (.str xs[i]) ((xs.take i).map .str)) = _
        rw [inL_strs]
        simp [e]
      · show (if 0 ≤ (i : Int) ∧ (i : Int) ≤ lim then (xs.map D.str)[(i : Int).toNat]? else none) = _
        rw [if_pos ⟨by omega, by rw [lim_eq]; omega⟩]
        simp [e]
  have hr := rng_items xs.length (by omega)
  have e := heads_eq xs xs.length (Nat.le_refl _)
  rw [List.take_length] at e
  have e2 : ((List.range xs.length).filter fun i => !decide ((xs[i]?).getD Str.empty ∈ xs.take i)).map (fun i => D.str ((xs[i]?).getD Str.empty)) = (dedup xs).map .str := by rw [← e, List.map_map]; rfl
  rw [e2] at k
  refine compF_eq rfl ?_ hr rfl k
  show un rangeD (un lenD (fun _ => some (sL xs))) [] = _
  simp [un, lenD, rangeD, sL]
theorem law_edges1 (ds dn dh dN : D) (e10 x11 x12 x13 : Slot) (h : Str) (body : List Str) : ∀ (cs : List Str) (E : Ed) (x9 : Slot) , E.length + cs.length < 1000 → ∀ (e10 x11 x12 x13 : Slot),
    ∃ y9 y10 y11 y12 y13, forL (putN 9) B_law_1 (cs.map .str) (Z g ds dn dh dN (.val 1 (edD E)) e10 (.val 0 (.str h)) (.val 0 (sL body)) x9 x11 x12 x13) = some (.next (Z g ds dn dh dN (.val 1 (edD (E ++ cs.map fun s => (h, s)))) y10 (.val 0 (.str h)) (.val 0 (sL body)) y9 y11 y12 y13))
  | [], E, x9, _, e10, x11, x12, x13 => ⟨x9, e10, x11, x12, x13, by simp [forL]⟩
  | c :: cs, E, x9, hl, e10, x11, x12, x13 => by
    rw [List.length_cons] at hl
    obtain ⟨y9, y10, y11, y12, y13, ih⟩ := law_edges1 ds dn dh dN e10 x11 x12 x13 h body cs (E ++ [(h, c)]) (.val 0 (.str c)) (by simp; omega) (clr 8 (clr 9 e10)) (clr 8 (clr 9 x11)) (clr 8 (clr 9 x12)) (clr 8 (clr 9 x13))
    refine ⟨y9, y10, y11, y12, y13, ?_⟩
    have e : (E ++ [(h, c)]) ++ cs.map (fun s => (h, s)) = E ++ (c :: cs).map fun s => (h, s) := by simp
    rw [e] at ih
    rw [List.map_cons, forL, ← ih]
    have hE : E.length < 100000 := by omega
    simp [B_law_1, putN, put, clr_val, clr_un, seqG, ifG, asgG, appG, setG, retG, forG, cmpB, notO, view, slotView, bin, un, nameF, nameM, idxD, inD, Out.bind, keepB, Mk.isFu, Mk.isOwn, Mk.cl, childM, callF, callM, consF, listF, tupF, Mk.cat, Mk.sl, Mk.clean, D.imm, D.flat, Mk.fre, D.cont, boolF, truthB, andB, orB, D.items, D.isL, fnF, ini, lim, inL_strs, sL, Z, edD, pairD, hE]
theorem law_edges (ds dn dh : D) (N : List Str) : ∀ (rs : Gr) (E : Ed) (e10 x3 x4 x9 x11 x12 x13 : Slot), (∀ r ∈ rs, r.2.length ≤ 3) → E.length + 3 * rs.length < 1000 →
    ∃ y3 y4 y9 y10 y11 y12 y13, forL (putT [3, 4]) B_law_2 (rs.map ruleD) (Z g ds dn dh (sL N) (.val 1 (edD E)) e10 x3 x4 x9 x11 x12 x13) = some (.next (Z g ds dn dh (sL N) (.val 1 (edD (E ++ edgesOf rs N))) y10 y3 y4 y9 y11 y12 y13))
  | [], E, e10, x3, x4, x9, x11, x12, x13, _, _ => ⟨x3, x4, x9, e10, x11, x12, x13, by simp [forL, edgesOf]⟩
  | r :: rs, E, e10, x3, x4, x9, x11, x12, x13, hr, hl => by
    rw [List.length_cons] at hl
    have h3 := hr r (.head _)
    have hc := corners_len N r.2
    obtain ⟨y9, y10, y11, y12, y13, h1⟩ := law_edges1 g ds dn dh (sL N) e10 x11 x12 x13 r.1 r.2 (corners N r.2) E (clr 4 (clr 3 x9)) (by omega) (clr 4 (clr 3 e10)) (clr 4 (clr 3 x11)) (clr 4 (clr 3 x12)) (clr 4 (clr 3 x13))
    obtain ⟨z3, z4, z9, z10, z11, z12, z13, h2⟩ := law_edges ds dn dh N rs (E ++ (corners N r.2).map fun s => (r.1, s)) y10 (.val 0 (.str r.1)) (.val 0 (sL r.2)) y9 y11 y12 y13 (fun q hq => hr q (.tail _ hq)) (by simp; omega)
    refine ⟨z3, z4, z9, z10, z11, z12, z13, ?_⟩
    have e : (E ++ (corners N r.2).map fun s => (r.1, s)) ++ edgesOf rs N = E ++ edgesOf (r :: rs) N := by simp [edgesOf]
    rw [e] at h2
    rw [List.map_cons, forL]
    have hput : putT [3, 4] (Z g ds dn dh (sL N) (.val 1 (edD E)) e10 x3 x4 x9 x11 x12 x13) (ruleD r) = some (Z g ds dn dh (sL N) (.val 1 (edD E)) (clr 4 (clr 3 e10)) (.val 0 (.str r.1)) (.val 0 (sL r.2)) (clr 4 (clr 3 x9)) (clr 4 (clr 3 x11)) (clr 4 (clr 3 x12)) (clr 4 (clr 3 x13))) := rfl
    have hb : B_law_2 (Z g ds dn dh (sL N) (.val 1 (edD E)) (clr 4 (clr 3 e10)) (.val 0 (.str r.1)) (.val 0 (sL r.2)) (clr 4 (clr 3 x9)) (clr 4 (clr 3 x11)) (clr 4 (clr 3 x12)) (clr 4 (clr 3 x13))) = some (.next (Z g ds dn dh (sL N) (.val 1 (edD (E ++ (corners N r.2).map fun s => (r.1, s)))) y10 (.val 0 (.str r.1)) (.val 0 (sL r.2)) y9 y11 y12 y13)) := by
      unfold B_law_2
      refine (seqG_next ?_).trans rfl
      have hf : callF φ__law_corners (consF (nameF 4) (consF (nameF 7) (fun _ => some []))) (view (Z g ds dn dh (sL N) (.val 1 (edD E)) (clr 4 (clr 3 e10)) (.val 0 (.str r.1)) (.val 0 (sL r.2)) (clr 4 (clr 3 x9)) (clr 4 (clr 3 x11)) (clr 4 (clr 3 x12)) (clr 4 (clr 3 x13)))) = φ__law_corners [sL r.2, sL N] := rfl
      exact (forG_eq (hf.trans (φ_co N r.2 (by omega))) rfl rfl).trans h1
    rw [hput, Option.bind_some, hb, Option.bind_some]
    exact h2
end
end Mine

set_option autoImplicit false
open PySem PyProof.Rows
namespace Mine
set_option linter.unusedVariables false
set_option linter.unusedSimpArgs false
set_option maxRecDepth 100000

theorem bg_len {E : Ed} {U hs starts : List Str} (h1 : ∀ s ∈ starts, s ∈ U) (h2 : ∀ e ∈ E, e.2 ∈ U) (h3 : (starts.filter fun x => !decide (x ∈ hs)).Nodup) : ((bgIter E (hs.length + 1) starts).filter fun s => !decide (s ∈ hs)).length ≤ U.length :=
  nodup_le (bgIter_nodup hs E _ starts h3) fun x hx => bgIter_sound (S := (· ∈ U)) (fun e he _ => h2 e he) _ starts h1 x (List.mem_filter.mp hx).1
theorem φ_bgs (E : Ed) (U hs starts : List Str) (hU : U.length ≤ 30) (hh : hs.length ≤ 20) (hs' : starts.length ≤ 100) (hE : E.length ≤ 100) (h1 : ∀ s ∈ starts, s ∈ U) (h2 : ∀ e ∈ E, e.2 ∈ U) (h3 : (starts.filter fun x => !decide (x ∈ hs)).Nodup) :
    φ__law_begins [sL starts, edD E, sL hs] = some (sL (bgs E hs starts)) := by
  have hp : E.length * (hs.length + 1) ≤ 100 * 21 := Nat.mul_le_mul hE (by omega)
  exact φ_bg E starts hs hh (by omega) (by have := bg_len h1 h2 h3; omega)
section
variable (g : Gr)
theorem law_due (ds dn dN : D) (U hs : List Str) (E : Ed) (hU : U.length ≤ 30) (hh : hs.length ≤ 20) (hE : E.length ≤ 100) (h2 : ∀ e ∈ E, e.2 ∈ U) : ∀ (ks : List Str) (F : Gr) (x3 x4 x9 x11 x12 x13 : Slot), (∀ k ∈ ks, k ∈ U ∧ k ∈ hs) → (F.map (·.1) ++ ks).Nodup → F.length + ks.length < 1000 →
    ∃ y3 y4 y9 y11 y12 y13, forL (putN 11) B_law_3 (ks.map .str) (Z g ds dn (sL hs) dN (.val 1 (edD E)) (.val 1 (dictD F)) x3 x4 x9 x11 x12 x13) = some (.next (Z g ds dn (sL hs) dN (.val 1 (edD E)) (.val 1 (dictD (F ++ ks.map fun h => (h, bgs E hs [h])))) y3 y4 y9 y11 y12 y13))
  | [], F, x3, x4, x9, x11, x12, x13, _, _, _ => ⟨x3, x4, x9, x11, x12, x13, by simp [forL]⟩
  | k :: ks, F, x3, x4, x9, x11, x12, x13, hk, hn, hl => by
    rw [List.length_cons] at hl
    obtain ⟨hkU, hkh⟩ := hk k (.head _)
    have hnk : k ∉ F.map (·.1) := fun hm => (List.nodup_append.mp hn).2.2 k hm k (.head _) rfl
    have hbg := φ_bgs E U hs [k] hU hh (by simp) hE (fun s q => by simp at q; subst q; exact hkU) h2 (by simp [hkh])
    obtain ⟨y3, y4, y9, y11, y12, y13, ih⟩ := law_due ds dn dN U hs E hU hh hE h2 ks (F ++ [(k, bgs E hs [k])]) (clr 10 (clr 11 x3)) (clr 10 (clr 11 x4)) (clr 10 (clr 11 x9)) (.val 0 (.str k)) (clr 10 (clr 11 x12)) (clr 10 (clr 11 x13)) (fun q hq => hk q (.tail _ hq)) (by simpa using hn) (by simp; omega)
    refine ⟨y3, y4, y9, y11, y12, y13, ?_⟩
    have e : (F ++ [(k, bgs E hs [k])]) ++ ks.map (fun h => (h, bgs E hs [h])) = F ++ (k :: ks).map fun h => (h, bgs E hs [h]) := by simp
    rw [e] at ih
    have hput : putN 11 (Z g ds dn (sL hs) dN (.val 1 (edD E)) (.val 1 (dictD F)) x3 x4 x9 x11 x12 x13) (.str k) = some (Z g ds dn (sL hs) dN (.val 1 (edD E)) (.val 1 (dictD F)) (clr 11 x3) (clr 11 x4) (clr 11 x9) (.val 0 (.str k)) (clr 11 x12) (clr 11 x13)) := rfl
    have hst := storedD_map F k (bgs E hs [k])
    rw [storeF_new hnk] at hst
    have hb : B_law_3 (Z g ds dn (sL hs) dN (.val 1 (edD E)) (.val 1 (dictD F)) (clr 11 x3) (clr 11 x4) (clr 11 x9) (.val 0 (.str k)) (clr 11 x12) (clr 11 x13)) = some (.next (Z g ds dn (sL hs) dN (.val 1 (edD E)) (.val 1 (dictD (F ++ [(k, bgs E hs [k])]))) (clr 10 (clr 11 x3)) (clr 10 (clr 11 x4)) (clr 10 (clr 11 x9)) (.val 0 (.str k)) (clr 10 (clr 11 x12)) (clr 10 (clr 11 x13)))) := by
      unfold B_law_3
      refine (seqG_next ?_).trans rfl
      have hf : callF φ__law_begins (consF (listF (consF (nameF 11) (fun _ => some []))) (consF (nameF 8) (consF (nameF 6) (fun _ => some [])))) (view (Z g ds dn (sL hs) dN (.val 1 (edD E)) (.val 1 (dictD F)) (clr 11 x3) (clr 11 x4) (clr 11 x9) (.val 0 (.str k)) (clr 11 x12) (clr 11 x13))) = φ__law_begins [sL [k], edD E, sL hs] := rfl
      unfold setG
      show (Option.bind (callF φ__law_begins _ _) _) = _
      rw [hf, hbg, Option.bind_some]
      have hlen : (F.map fun p => (p.1, sL p.2)).length < lim := by rw [keys_len, lim_eq]; omega
      have hcl : keepB 0 Mk.fu (sL (bgs E hs [k])) = true := by
        show (false || false || (true && (List.map D.str (bgs E hs [k])).all D.imm)) = true
        rw [flat_strs]; rfl
      show (if ((true && keepB 0 Mk.fu (sL (bgs E hs [k])) && decide ((F.map fun p => (p.1, sL p.2)).length < lim)) = true) then _ else _) = _
      rw [hcl, decide_eq_true hlen]
      show some (Out.next (put _ 10 (.val 1 (.dict (storedD (F.map fun p => (p.1, sL p.2)) k (sL (bgs E hs [k]))))))) = _
      rw [hst]
      rfl
    rw [List.map_cons, forL, hput, Option.bind_some, hb, Option.bind_some]
    exact ih
theorem law_all (a0 a1 a2 a3 a5 a6 a8 a9 a10 a11 a12 a13 : Option (D × Mk)) (body N : List Str) : K_law_3 [a0, a1, a2, a3, some (sL body, .fr), a5, a6, some (sL N, .fr), a8, a9, a10, a11, a12, a13] = some (.list (body.map fun s => .bool (decide (s ∈ N)))) := by
  have k := compL_map (upd := setN 14) (bs := fun _ => some true) (fe := boolF (cmpB inD (nameF 14) (nameF 7))) (me := fun _ => Mk.fr) (ρ := [a0, a1, a2, a3, some (sL body, .fr), a5, a6, some (sL N, .fr), a8, a9, a10, a11, a12, a13, none]) D.str (fun _ => true) (fun s => .bool (decide (s ∈ N))) body fun s _ => by
    refine ⟨[a0, a1, a2, a3, some (sL body, .fr), a5, a6, some (sL N, .fr), a8, a9, a10, a11, a12, a13, some (.str s, .fr)], rfl, rfl, fun _ => ⟨?_, rfl⟩⟩
    show (inL (eqD 40) (.str s) (N.map .str)).map D.bool = _
    rw [inL_strs]; rfl
  rw [List.filter_eq_self.mpr fun _ _ => rfl] at k
  exact compF_eq rfl rfl rfl rfl k
theorem eqD_pair (a : List Str) (b : Bool) : eqD 40 (.tup [sL a, .bool b]) (.tup [sL a, .bool b]) = some true := by
  have h1 : eqD 39 (sL a) (sL a) = some true := by unfold sL; rw [eqD_strsN 38]; simp
  have h2 : eqD 39 (.bool b) (.bool b) = some true := by simp [eqD]
  show eqL (eqD 39) [sL a, .bool b] [sL a, .bool b] = some true
  simp only [eqL, h1, h2, Option.bind_some]
  rfl
theorem law_kept (ds dn : D) (U hs N : List Str) (E : Ed) (F : Gr) (hU : U.length ≤ 30) (hh : hs.length ≤ 20) (hE : E.length ≤ 100) (h2 : ∀ e ∈ E, e.2 ∈ U) (hN : ∀ s ∈ N, s ∈ hs) (hF : OkF U F)
    (hfos : ∀ body, (fos F N [] body).1 = bgs E hs (corners N body) ∧ (fos F N [] body).2 = decide (∀ s ∈ body, s ∈ N)) : ∀ (rs : Gr) (x3 x4 x9 x11 x12 x13 : Slot), (∀ r ∈ rs, r.2.length ≤ 3 ∧ ∀ s ∈ r.2, s ∈ U) →
    ∃ y3 y4 y9 y11 y12 y13, forL (putT [3, 4]) B_law_4 (rs.map ruleD) (Z g ds dn (sL hs) (sL N) (.val 1 (edD E)) (.val 1 (dictD F)) x3 x4 x9 x11 x12 x13) = some (.next (Z g ds dn (sL hs) (sL N) (.val 1 (edD E)) (.val 1 (dictD F)) y3 y4 y9 y11 y12 y13))
  | [], x3, x4, x9, x11, x12, x13, _ => ⟨x3, x4, x9, x11, x12, x13, rfl⟩
  | r :: rs, x3, x4, x9, x11, x12, x13, hr => by
    obtain ⟨h3, h4⟩ := hr r (.head _)
    have hc := corners_len N r.2
    have hco := φ_co N r.2 (by omega)
    have hbg := φ_bgs E U hs (corners N r.2) hU hh (by omega) hE (fun s q => h4 s (corners_sub N q)) h2 (corners_once hN r.2)
    obtain ⟨hf1, hf2⟩ := hfos r.2
    have hfo := φ_fos U hU F N r.2 hF
    rw [hf1, hf2] at hfo
    let b : Bool := decide (∀ s ∈ r.2, s ∈ N)
    let B : List Str := bgs E hs (corners N r.2)
    let Z₀ := Z g ds dn (sL hs) (sL N) (.val 1 (edD E)) (.val 1 (dictD F)) (.val 0 (.str r.1)) (.val 0 (sL r.2)) (clr 4 (clr 3 x9)) (clr 4 (clr 3 x11)) (clr 4 (clr 3 x12)) (clr 4 (clr 3 x13))
    let Z₁ := Z g ds dn (sL hs) (sL N) (.val 1 (edD E)) (.val 1 (dictD F)) (.val 0 (.str r.1)) (.val 0 (sL r.2)) (clr 12 (clr 4 (clr 3 x9))) (clr 12 (clr 4 (clr 3 x11))) (.val 0 (sL B)) (clr 12 (clr 4 (clr 3 x13)))
    let Z₂ := Z g ds dn (sL hs) (sL N) (.val 1 (edD E)) (.val 1 (dictD F)) (.val 0 (.str r.1)) (.val 0 (sL r.2)) (clr 13 (clr 12 (clr 4 (clr 3 x9)))) (clr 13 (clr 12 (clr 4 (clr 3 x11)))) (.val 0 (sL B)) (.val 0 (.bool b))
    obtain ⟨y3, y4, y9, y11, y12, y13, ih⟩ := law_kept ds dn U hs N E F hU hh hE h2 hN hF hfos rs (.val 0 (.str r.1)) (.val 0 (sL r.2)) (clr 13 (clr 12 (clr 4 (clr 3 x9)))) (clr 13 (clr 12 (clr 4 (clr 3 x11)))) (.val 0 (sL B)) (.val 0 (.bool b)) fun q hq => hr q (.tail _ hq)
    refine ⟨y3, y4, y9, y11, y12, y13, ?_⟩
    have hput : putT [3, 4] (Z g ds dn (sL hs) (sL N) (.val 1 (edD E)) (.val 1 (dictD F)) x3 x4 x9 x11 x12 x13) (ruleD r) = some Z₀ := rfl
    have hb : B_law_4 Z₀ = some (.next Z₂) := by
      unfold B_law_4
      have s1 : asgG 12 0 (callF φ__law_begins (consF (callF φ__law_corners (consF (nameF 4) (consF (nameF 7) (fun _ => some [])))) (consF (nameF 8) (consF (nameF 6) (fun _ => some []))))) (callM (fun ρ => ((callM (fun ρ => ((nameM 4) ρ).clean && (fun ρ => ((nameM 7) ρ).clean && (fun _ => true) ρ) ρ) true) ρ).clean && (fun ρ => ((nameM 8) ρ).clean && (fun ρ => ((nameM 6) ρ).clean && (fun _ => true) ρ) ρ) ρ) true) Z₀ = some (.next Z₁) := by
        have hf : callF φ__law_begins (consF (callF φ__law_corners (consF (nameF 4) (consF (nameF 7) (fun _ => some [])))) (consF (nameF 8) (consF (nameF 6) (fun _ => some [])))) (view Z₀) = some (sL B) := by
          show Option.bind (Option.bind (φ__law_corners [sL r.2, sL N]) fun d => some [d, edD E, sL hs]) φ__law_begins = _
          rw [hco]
          exact hbg
        unfold asgG
        rw [hf, Option.bind_some]
        have hcl : keepB 0 Mk.fu (sL B) = true := by
          show (false || false || (true && (List.map D.str B).all D.imm)) = true
          rw [flat_strs]; rfl
        show (if keepB 0 Mk.fu (sL B) = true then _ else _) = _
        rw [hcl]
        rfl
      rw [seqG_next s1]
      have s2 : asgG 13 0 (un allD K_law_3) (fun _ => Mk.fr) Z₁ = some (.next Z₂) := by
        have hf : un allD K_law_3 (view Z₁) = some (.bool b) := by
          unfold un
          have := law_all (some (ds, .fr)) (some (gramD g, .fr)) (some (gramD g, .fr)) (some (.str r.1, .fr)) (some (dn, .fr)) (some (sL hs, .fr)) (some (edD E, .bor)) (slotView Z₁ (clr 12 (clr 4 (clr 3 x9)))) (some (dictD F, .bor)) (slotView Z₁ (clr 12 (clr 4 (clr 3 x11)))) (some (sL B, .fr)) (slotView Z₁ (clr 12 (clr 4 (clr 3 x13)))) r.2 N
          have hv : K_law_3 (view Z₁) = _ := this
          rw [hv]
          simp [allD, D.items, unBools_map]
          simp only [b]
          rw [Bool.eq_iff_iff]
          simp
        unfold asgG
        rw [hf]
        rfl
      rw [seqG_next s2]
      have s3 : ifG (cmpB (notO (eqD 40)) (callF φ_first_of_string (consF (nameF 4) (consF (nameF 10) (consF (nameF 7) (fun _ => some []))))) (tupF (consF (nameF 12) (consF (nameF 13) (fun _ => some []))))) (seqG (retG false (fun _ => some (D.bool false)) (fun _ => Mk.fr)) (fun ρ => some (Out.next ρ))) (fun ρ => some (Out.next ρ)) Z₂ = some (.next Z₂) := by
        have hf : cmpB (notO (eqD 40)) (callF φ_first_of_string (consF (nameF 4) (consF (nameF 10) (consF (nameF 7) (fun _ => some []))))) (tupF (consF (nameF 12) (consF (nameF 13) (fun _ => some [])))) (view Z₂) = some false := by
          show Option.bind (φ_first_of_string [sL r.2, dictD F, sL N]) (fun a => notO (eqD 40) a (.tup [sL B, .bool b])) = _
          rw [hfo, Option.bind_some]
          unfold notO
          rw [eqD_pair]
          rfl
        unfold ifG
        rw [hf]
        rfl
      rw [seqG_next s3]
    rw [List.map_cons, forL, hput, Option.bind_some, hb, Option.bind_some]
    exact ih
end
end Mine

set_option autoImplicit false
open PySem PyProof.Rows
namespace Mine
set_option linter.unusedVariables false
set_option linter.unusedSimpArgs false
set_option maxRecDepth 100000

theorem skipIf {b : EEnv → Option Bool} {g₁ : List Slot → Option Out} {ρ : List Slot} (h : b (view ρ) = some false) : ifG b g₁ (fun ρ => some (Out.next ρ)) ρ = some (.next ρ) := by unfold ifG; rw [h]; rfl
theorem edges_len {N : List Str} : ∀ (g : Gr), (∀ r ∈ g, r.2.length ≤ 3) → (edgesOf g N).length ≤ 3 * g.length
  | [], _ => by simp [edgesOf]
  | r :: g, h => by
    have := edges_len (N := N) g fun q hq => h q (.tail _ hq)
    have h1 := h r (.head _)
    have h2 := corners_len N r.2
    unfold edgesOf at this ⊢
    rw [List.flatMap_cons, List.length_append, List.length_map, List.length_cons]
    omega
theorem maths (ns : List Int) (hns : ns.length ≤ 63) : φ_law [.list (ns.map .int)] = some (.bool true) := by
  obtain ⟨g, hg, hok, hg5, hg1⟩ := φ_gram ns (by omega)
  obtain ⟨N, F, hnu, hNc, hNn, hNh, hfs, hinv, hrel⟩ := φ_fs U6 (by decide) g (by omega) fun r hr s hs => (hok r hr).2.2 s hs
  have hhd := φ_heads g (by rw [lim_eq]; omega)
  have hlen3 : ∀ r ∈ g, r.2.length ≤ 3 := fun r hr => (hok r hr).2.1
  have hElen := edges_len (N := N) g hlen3
  have hE2 : ∀ e ∈ edgesOf g N, e.2 ∈ U6 := fun e he => by
    obtain ⟨r, hr, _, h⟩ := mem_edges.mp he
    exact (hok r hr).2.2 _ (corners_sub N h)
  have hhl : (dedup (g.map (·.1))).length ≤ 20 := by have := dedup_len (g.map (·.1)); rw [List.length_map] at this; omega
  have hdue := firsts_due rfl hNh hinv hrel
  have hfos := fos_due rfl hNh hinv hrel
  have hmem : ∀ x, x ∈ dedup (g.map (·.1)) ↔ x ∈ g.map (·.1) := fun x => mem_dedup
  have hnd := dedup_nodup (g.map (·.1))
  have hnl := φ_nl g (dedup (g.map (·.1))) (by omega)
  generalize hhsd : dedup (g.map (·.1)) = hs at *
  have hNeq : sortS (hs.filter fun h => decide (h ∈ nlIter g hs.length [])) = N := by
    refine canon_eq (canon_sort (hnd.sublist List.filter_sublist)) hNc fun x => ?_
    rw [mem_sortS, List.mem_filter, hNn, decide_eq_true_iff, nl_mem fun r hr => (hmem _).mpr (List.mem_map_of_mem (f := (·.1)) hr)]
    exact ⟨fun q => q.2, fun q => ⟨(hmem x).mpr (hNh x ((hNn x).mpr q)), q⟩⟩
  rw [hNeq] at hnl
  refine fnF_ret rfl ?_
  show G_law [.val 0 (iL ns), .un, .un, .un, .un, .un, .un, .un, .un, .un, .un, .un, .un, .un] = _
  unfold G_law
  have t1 : asgG 1 0 (callF φ__law_grammar (consF (nameF 0) (fun _ => some []))) (callM (fun ρ => ((nameM 0) ρ).clean && (fun _ => true) ρ) false) [.val 0 (iL ns), .un, .un, .un, .un, .un, .un, .un, .un, .un, .un, .un, .un, .un] = some (.next [.val 0 (iL ns), .val 0 (gramD g), .un, .un, .un, .un, .un, .un, .un, .un, .un, .un, .un, .un]) := by
    unfold asgG
    rw [show callF φ__law_grammar (consF (nameF 0) (fun _ => some [])) (view [.val 0 (iL ns), .un, .un, .un, .un, .un, .un, .un, .un, .un, .un, .un, .un, .un]) = some (gramD g) from hg]
    rfl
  rw [seqG_next t1]
  have t2 : asgG 2 0 (callF φ__law_grammar (consF (nameF 0) (fun _ => some []))) (callM (fun ρ => ((nameM 0) ρ).clean && (fun _ => true) ρ) false) [.val 0 (iL ns), .val 0 (gramD g), .un, .un, .un, .un, .un, .un, .un, .un, .un, .un, .un, .un] = some (.next [.val 0 (iL ns), .val 0 (gramD g), .val 0 (gramD g), .un, .un, .un, .un, .un, .un, .un, .un, .un, .un, .un]) := by
    unfold asgG
    rw [show callF φ__law_grammar (consF (nameF 0) (fun _ => some [])) (view [.val 0 (iL ns), .val 0 (gramD g), .un, .un, .un, .un, .un, .un, .un, .un, .un, .un, .un, .un]) = some (gramD g) from hg]
    rfl
  rw [seqG_next t2]
  have t3 : asgG 5 0 K_law_1 (fun _ => Mk.own 1) [.val 0 (iL ns), .val 0 (gramD g), .val 0 (gramD g), .un, .un, .un, .un, .un, .un, .un, .un, .un, .un, .un] = some (.next [.val 0 (iL ns), .val 0 (gramD g), .val 0 (gramD g), .un, .un, .val 0 (sL (g.map (·.1))), .un, .un, .un, .un, .un, .un, .un, .un]) := by
    unfold asgG
    rw [show K_law_1 (view [.val 0 (iL ns), .val 0 (gramD g), .val 0 (gramD g), .un, .un, .un, .un, .un, .un, .un, .un, .un, .un, .un]) = some (sL (g.map (·.1))) from law_names g _ _ _ _ _ _ _ _ _ _ _ _ _]
    rfl
  rw [seqG_next t3]
  have t4 : asgG 6 0 K_law_2 (fun _ => Mk.own 1) [.val 0 (iL ns), .val 0 (gramD g), .val 0 (gramD g), .un, .un, .val 0 (sL (g.map (·.1))), .un, .un, .un, .un, .un, .un, .un, .un] = some (.next [.val 0 (iL ns), .val 0 (gramD g), .val 0 (gramD g), .un, .un, .val 0 (sL (g.map (·.1))), .val 0 (sL hs), .un, .un, .un, .un, .un, .un, .un]) := by
    unfold asgG
    have := law_heads (g.map (·.1)) (by rw [List.length_map]; omega) (some (iL ns, .fr)) (some (gramD g, .fr)) (some (gramD g, .fr)) none none none none none none none none none none
    rw [hhsd] at this
    rw [show K_law_2 (view [.val 0 (iL ns), .val 0 (gramD g), .val 0 (gramD g), .un, .un, .val 0 (sL (g.map (·.1))), .un, .un, .un, .un, .un, .un, .un, .un]) = some (sL hs) from this]
    rfl
  rw [seqG_next t4]
  have t5 : asgG 7 0 (callF φ__law_nullable (consF (nameF 1) (consF (nameF 6) (fun _ => some [])))) (callM (fun ρ => ((nameM 1) ρ).clean && (fun ρ => ((nameM 6) ρ).clean && (fun _ => true) ρ) ρ) false) [.val 0 (iL ns), .val 0 (gramD g), .val 0 (gramD g), .un, .un, .val 0 (sL (g.map (·.1))), .val 0 (sL hs), .un, .un, .un, .un, .un, .un, .un] = some (.next [.val 0 (iL ns), .val 0 (gramD g), .val 0 (gramD g), .un, .un, .val 0 (sL (g.map (·.1))), .val 0 (sL hs), .val 0 (sL N), .un, .un, .un, .un, .un, .un]) := by
    unfold asgG
    rw [show callF φ__law_nullable (consF (nameF 1) (consF (nameF 6) (fun _ => some []))) (view [.val 0 (iL ns), .val 0 (gramD g), .val 0 (gramD g), .un, .un, .val 0 (sL (g.map (·.1))), .val 0 (sL hs), .un, .un, .un, .un, .un, .un, .un]) = some (sL N) from hnl]
    rfl
  rw [seqG_next t5]
  have t6 : asgG 8 1 (listF (fun _ => some [])) (fun ρ => if (fun _ => true) ρ then Mk.own 1 else Mk.fu) [.val 0 (iL ns), .val 0 (gramD g), .val 0 (gramD g), .un, .un, .val 0 (sL (g.map (·.1))), .val 0 (sL hs), .val 0 (sL N), .un, .un, .un, .un, .un, .un] = some (.next (Z g (iL ns) (sL (g.map (·.1))) (sL hs) (sL N) (.val 1 (edD [])) .un .un .un .un .un .un .un)) := rfl
  rw [seqG_next t6]
  obtain ⟨a3, a4, a9, a10, a11, a12, a13, h7⟩ := law_edges g (iL ns) (sL (g.map (·.1))) (sL hs) N g [] .un .un .un .un .un .un .un hlen3 (by simp; omega)
  rw [List.nil_append] at h7
  have t7 := (forG_eq (tt := true) (f := nameF 1) (m := nameM 1) (upd := putT [3, 4]) (g := B_law_2) (ρ := Z g (iL ns) (sL (g.map (·.1))) (sL hs) (sL N) (.val 1 (edD [])) .un .un .un .un .un .un .un) (d := gramD g) (ds := g.map ruleD) rfl rfl rfl).trans h7
  rw [seqG_next t7]
  have t8 : asgG 10 1 (fun _ => some (D.dict [])) (fun _ => Mk.own 1) (Z g (iL ns) (sL (g.map (·.1))) (sL hs) (sL N) (.val 1 (edD (edgesOf g N))) a10 a3 a4 a9 a11 a12 a13) = some (.next (Z g (iL ns) (sL (g.map (·.1))) (sL hs) (sL N) (.val 1 (edD (edgesOf g N))) (.val 1 (dictD [])) (clr 10 a3) (clr 10 a4) (clr 10 a9) (clr 10 a11) (clr 10 a12) (clr 10 a13))) := rfl
  rw [seqG_next t8]
  obtain ⟨b3, b4, b9, b11, b12, b13, h9⟩ := law_due g (iL ns) (sL (g.map (·.1))) (sL N) U6 hs (edgesOf g N) (by decide) hhl (by omega) hE2 hs [] (clr 10 a3) (clr 10 a4) (clr 10 a9) (clr 10 a11) (clr 10 a12) (clr 10 a13) (fun k hk => ⟨by
    obtain ⟨r, hr, rfl⟩ := List.mem_map.mp ((hmem k).mp hk)
    exact (hok r hr).1, hk⟩) (by simpa using hnd) (by simp; omega)
  rw [List.nil_append, ← hdue] at h9
  have t9 := (forG_eq (tt := false) (f := nameF 6) (m := nameM 6) (upd := putN 11) (g := B_law_3) (ρ := Z g (iL ns) (sL (g.map (·.1))) (sL hs) (sL N) (.val 1 (edD (edgesOf g N))) (.val 1 (dictD [])) (clr 10 a3) (clr 10 a4) (clr 10 a9) (clr 10 a11) (clr 10 a12) (clr 10 a13)) (d := sL hs) (ds := hs.map .str) rfl rfl rfl).trans h9
  rw [seqG_next t9]
  rw [seqG_next (skipIf (b := cmpB (notO (eqD 40)) (callF φ_heads_of (consF (nameF 1) (fun _ => some []))) (nameF 6)) (by
    show Option.bind (φ_heads_of [gramD g]) (fun a => notO (eqD 40) a (sL hs)) = _
    rw [hhd, Option.bind_some]
    unfold notO sL
    rw [eqD_strs]
    simp))]
  rw [seqG_next (skipIf (b := cmpB (notO (eqD 40)) (callF φ_nullable_heads (consF (nameF 1) (fun _ => some []))) (nameF 7)) (by
    show Option.bind (φ_nullable_heads [gramD g]) (fun a => notO (eqD 40) a (sL N)) = _
    rw [hnu, Option.bind_some]
    unfold notO sL
    rw [eqD_strs]
    simp))]
  rw [seqG_next (skipIf (b := cmpB (notO eqE) (callF φ_first_sets (consF (nameF 1) (fun _ => some []))) (nameF 10)) (by
    show Option.bind (φ_first_sets [gramD g]) (fun a => notO eqE a (dictD F)) = _
    rw [hfs, Option.bind_some]
    unfold notO
    rw [eqE_self (by rw [hinv.keys]; exact hnd)]
    rfl))]
  obtain ⟨c3, c4, c9, c11, c12, c13, h13⟩ := law_kept g (iL ns) (sL (g.map (·.1))) U6 hs N (edgesOf g N) F (by decide) hhl (by omega) hE2 (fun s hs' => (hmem s).mpr (hNh s hs')) hinv.ok hfos g b3 b4 b9 b11 b12 b13 fun r hr => (hok r hr).2
  have t13 := (forG_eq (tt := true) (f := nameF 2) (m := nameM 2) (upd := putT [3, 4]) (g := B_law_4) (ρ := Z g (iL ns) (sL (g.map (·.1))) (sL hs) (sL N) (.val 1 (edD (edgesOf g N))) (.val 1 (dictD F)) b3 b4 b9 b11 b12 b13) (d := gramD g) (ds := g.map ruleD) rfl rfl rfl).trans h13
  rw [seqG_next t13]
  rw [seqG_next (skipIf (b := cmpB (notO (eqD 40)) (nameF 1) (callF φ__law_grammar (consF (nameF 0) (fun _ => some [])))) (by
    show Option.bind (φ__law_grammar [iL ns]) (fun b => notO (eqD 40) (gramD g) b) = _
    rw [hg, Option.bind_some]
    unfold notO
    rw [eqD_gram]
    rfl))]
  rw [seqG_next (skipIf (b := cmpB (notO (eqD 40)) (nameF 2) (nameF 1)) (by
    show notO (eqD 40) (gramD g) (gramD g) = _
    unfold notO
    rw [eqD_gram]
    rfl))]
  rfl
end Mine

open PySem PySem.W PyProof.Rows
namespace Mine
set_option maxRecDepth 100000
set_option maxHeartbeats 8000000
theorem holds0 (maths : ∀ ns : List Int, ns.length ≤ 63 → φ_law [.list (ns.map .int)] = some (.bool true)) : PySem.Challenge.rw_pd_augur_2_06.Holds := by
  refine hd ?_
  intro w s₀ s₁ mg mb G Y fa o pm cd doc dV kV ho hd hcd hD hmg hg args vals as hpre hlay hrd hwl hlo
  have KX := kIn_of Y
  refine Ground.open G ?_
  intro T B D TE TW
  clear hd hcd hD ho
  wrow_args hpre hlay hrd hwl hlo
  refine law_fin KX T.g T.b T.builtins T.nolimit hmg (hf_law (C := cfgOf P w _ mg mb) ?L) (by decide) (by assumption) ?_ (maths _ ?_) ?_ ?_ hg
  case L =>
    exact {
      f_heads_of := has_fn KX T.g rfl rfl rfl rfl rfl (bind1 fun _ => rfl) rfl rfl rfl rfl rfl rfl rfl
      f_merged := has_fn KX T.g rfl rfl rfl rfl rfl (bind2 fun _ _ => rfl) rfl rfl rfl rfl rfl rfl rfl
      f_heads_built_from := has_fn KX T.g rfl rfl rfl rfl rfl (bind2 fun _ _ => rfl) rfl rfl rfl rfl rfl rfl rfl
      f_nullable_heads := has_fn KX T.g rfl rfl rfl rfl rfl (bind1 fun _ => rfl) rfl rfl rfl rfl rfl rfl rfl
      f_first_of_string := has_fn KX T.g rfl rfl rfl rfl rfl (bind3 fun _ _ _ => rfl) rfl rfl rfl rfl rfl rfl rfl
      f_first_sets := has_fn KX T.g rfl rfl rfl rfl rfl (bind1 fun _ => rfl) rfl rfl rfl rfl rfl rfl rfl
      f__law_cell := has_fn KX T.g rfl rfl rfl rfl rfl (bind2 fun _ _ => rfl) rfl rfl rfl rfl rfl rfl rfl
      f__law_grammar := has_fn KX T.g rfl rfl rfl rfl rfl (bind1 fun _ => rfl) rfl rfl rfl rfl rfl rfl rfl
      f__law_nullable := has_fn KX T.g rfl rfl rfl rfl rfl (bind2 fun _ _ => rfl) rfl rfl rfl rfl rfl rfl rfl
      f__law_corners := has_fn KX T.g rfl rfl rfl rfl rfl (bind2 fun _ _ => rfl) rfl rfl rfl rfl rfl rfl rfl
      f__law_begins := has_fn KX T.g rfl rfl rfl rfl rfl (bind3 fun _ _ _ => rfl) rfl rfl rfl rfl rfl rfl rfl
      f_law := has_fn KX T.g rfl rfl rfl rfl rfl (bind1 fun _ => rfl) rfl rfl rfl rfl rfl rfl rfl
      c__law_names := gc_tup KX T.g rfl rfl (by decide) fun _ _ => .cons (.str _ _ (by decide +kernel)) (.cons (.str _ _ (by decide +kernel)) (.cons (.str _ _ (by decide +kernel)) (.cons (.str _ _ (by decide +kernel)) (.cons (.str _ _ (by decide +kernel)) (.cons (.str _ _ (by decide +kernel)) .nil)))))
      b_all := ns_none_of KX T.g rfl
      b_len := ns_none_of KX T.g rfl
      b_range := ns_none_of KX T.g rfl
      b_sorted := ns_none_of KX T.g rfl }
  · omega
  · omega
  · exact fun _ => rfl
  · wrow_post
end Mine


theorem PySem.Challenge.cw_pd_augur_2_06_holds : PySem.Challenge.rw_pd_augur_2_06.Holds :=
  Mine.holds0 Mine.maths
