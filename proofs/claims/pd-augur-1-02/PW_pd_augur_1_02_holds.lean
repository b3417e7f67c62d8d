import PyProof.Rows.All
import Wide.All
import OpenK.AllK
import Wide.FinOn
import PyProof.DictList
import PyProof.P3In
import PyProof.EqLayable
import PyProof.NeData
import PyProof.WalksPairs
import PyProof.SliceMore
import PyProof.DictTruth
import PyProof.ConsumeWalk
import PyProof.Rows.SortStr
import PyProof.CompFree
import PyProof.ForAny
import PyProof.ForAppend
import PyProof.CompUse
import PyProof.DictRoads
import PyProof.ListStr
import PyProof.ListOps
import PyProof.CallRoads
import KE.KItem
import KE.KEqDict
import PyProof.RulesAssignMore
import PyProof.DictDisplay
import PyProof.Rows.Range3
import PyProof.TypeOfCall
import PyProof.NeKinds
import KE.KRevSl
import PySem.Challenge.RW_pd_augur_1_02
set_option Elab.async false

set_option autoImplicit false
set_option genSizeOf false
open PySem PyProof.Rows
namespace Mine

theorem sub_step {n i : Nat} (h : i < n) : n - i = n - (i + 1) + 1 := by rw [Nat.sub_add_eq]; exact (Nat.sub_add_cancel (Nat.sub_pos_of_lt h)).symm
inductive D where
  | none
  | bool (b : Bool)
  | int (i : Int)
  | str (s : Str)
  | list (xs : List D)
  | tup (xs : List D)
  | dict (kvs : List (Str × D))
  | rng (a b c : Int)

noncomputable def D.imm : D → Bool
  | .none | .bool _ | .int _ | .str _ => true
  | _ => false
noncomputable def D.flat : D → Bool
  | .list xs => xs.all D.imm
  | d => d.imm
noncomputable def D.cont : D → Bool
  | .list _ | .dict _ => true
  | _ => false

/-! what a datum is -/
noncomputable def dcase {α : Type} (d : D) (n : α) (b : Bool → α) (i : Int → α) (s : Str → α) (l : List D → α) (t : List D → α) (e : List (Str × D) → α) (r : Int → Int → Int → α) : α := @D.casesOn (fun _ => α) d n b i s l t e r
noncomputable def toN (d : D) : Option Unit := dcase d (some ()) (fun _ => none) (fun _ => none) (fun _ => none) (fun _ => none) (fun _ => none) (fun _ => none) fun _ _ _ => none
noncomputable def toB (d : D) : Option Bool := dcase d none some (fun _ => none) (fun _ => none) (fun _ => none) (fun _ => none) (fun _ => none) fun _ _ _ => none
noncomputable def toI (d : D) : Option Int := dcase d none (fun _ => none) some (fun _ => none) (fun _ => none) (fun _ => none) (fun _ => none) fun _ _ _ => none
noncomputable def toS (d : D) : Option Str := dcase d none (fun _ => none) (fun _ => none) some (fun _ => none) (fun _ => none) (fun _ => none) fun _ _ _ => none
noncomputable def toL (d : D) : Option (List D) := dcase d none (fun _ => none) (fun _ => none) (fun _ => none) some (fun _ => none) (fun _ => none) fun _ _ _ => none
noncomputable def toT (d : D) : Option (List D) := dcase d none (fun _ => none) (fun _ => none) (fun _ => none) (fun _ => none) some (fun _ => none) fun _ _ _ => none
noncomputable def toD (d : D) : Option (List (Str × D)) := dcase d none (fun _ => none) (fun _ => none) (fun _ => none) (fun _ => none) (fun _ => none) some fun _ _ _ => none
theorem toN_inv {d : D} {x : Unit} (h : toN d = some x) : d = .none := by cases d <;> cases h; rfl
theorem toB_inv {d : D} {x : Bool} (h : toB d = some x) : d = .bool x := by cases d <;> cases h; rfl
theorem toI_inv {d : D} {x : Int} (h : toI d = some x) : d = .int x := by cases d <;> cases h; rfl
theorem toS_inv {d : D} {x : Str} (h : toS d = some x) : d = .str x := by cases d <;> cases h; rfl
theorem toL_inv {d : D} {x : List D} (h : toL d = some x) : d = .list x := by cases d <;> cases h; rfl
theorem toT_inv {d : D} {x : List D} (h : toT d = some x) : d = .tup x := by cases d <;> cases h; rfl
theorem toD_inv {d : D} {x : List (Str × D)} (h : toD d = some x) : d = .dict x := by cases d <;> cases h; rfl
theorem ite_inv {α : Type} {p : Prop} [Decidable p] {a b : α} (h : (if p then some a else none) = some b) : p ∧ a = b := by
  by_cases q : p
  · rw [if_pos q] at h; exact ⟨q, Option.some.inj h⟩
  · rw [if_neg q] at h; cases h

theorem ite_inv2 {α : Type} {p : Prop} [Decidable p] {o : Option α} {b : α} (h : (if p then o else none) = some b) : p ∧ o = some b := by
  by_cases q : p
  · rw [if_pos q] at h; exact ⟨q, h⟩
  · rw [if_neg q] at h; cases h
noncomputable def PlainTup (h : Heap) (a : Addr) (items : Array Value) : Prop := ∃ n, h.get? a = some { cls := .type "tuple", data := .seq items n }
theorem PlainTup.isTup {h : Heap} {a : Addr} {items : Array Value} (x : PlainTup h a items) : IsTup h a items := let ⟨n, e⟩ := x; ⟨_, e, rfl, n, rfl⟩

section
variable (prog : Program) (w : World) (h : Heap) (N : Addr → Prop)
mutual
inductive Rep : Value → D → Prop
  | none : Rep .none .none
  | bool (b : Bool) : Rep (.bool b) (.bool b)
  | int (i : Int) (t : Tok) : Rep (.int i t) (.int i)
  | str (x : Str) (t : Tok) : PyData.strOk x = true → Rep (.str x t) (.str x)
  | list {a : Addr} {vs : List Value} {ds : List D} : N a → h.PlainList a vs.toArray → vs.length ≤ sizeLine → RepL vs ds → Rep (.ref a) (.list ds)
  | tup {a : Addr} {vs : List Value} {ds : List D} : N a → PlainTup h a vs.toArray → vs.length ≤ sizeLine → RepL vs ds → Rep (.ref a) (.tup ds)
  | dict {a : Addr} {kvs : List (Str × Value)} {kds : List (Str × D)} : N a → (a == sysModules) = false → h.DictOf (PySem.strKind prog w) a kvs → kvs.length ≤ sizeLine → RepE kvs kds → Rep (.ref a) (.dict kds)
  | rng {a : Addr} {lo hi st : Int} {t u v : Tok} : N a → IsRange h a lo hi st t u v → Rep (.ref a) (.rng lo hi st)
inductive RepL : List Value → List D → Prop
  | nil : RepL [] []
  | cons {v : Value} {vs : List Value} {d : D} {ds : List D} : Rep v d → RepL vs ds → RepL (v :: vs) (d :: ds)
inductive RepE : List (Str × Value) → List (Str × D) → Prop
  | nil : RepE [] []
  | cons {k : Str} {v : Value} {kvs : List (Str × Value)} {d : D} {kds : List (Str × D)} : PyData.strOk k = true → Rep v d → RepE kvs kds → RepE ((k, v) :: kvs) ((k, d) :: kds)
end

mutual
inductive OwnT : Nat → Value → D → List Addr → Prop
  | fz0 {v : Value} {d : D} : Rep prog w h N v d → OwnT 0 v d []
  | fz {k : Nat} {v : Value} {d : D} : d.cont = false → Rep prog w h N v d → OwnT (k + 1) v d []
  | list {k : Nat} {a : Addr} {vs : List Value} {ds : List D} {O : List Addr} : h.PlainList a vs.toArray → vs.length ≤ sizeLine → OwnL k vs ds O → OwnT (k + 1) (.ref a) (.list ds) (a :: O)
  | dict {k : Nat} {a : Addr} {kvs : List (Str × Value)} {kds : List (Str × D)} {O : List Addr} : (a == sysModules) = false → h.DictOf (PySem.strKind prog w) a kvs → kvs.length ≤ sizeLine → OwnE k kvs kds O →
      OwnT (k + 1) (.ref a) (.dict kds) (a :: O)
inductive OwnL : Nat → List Value → List D → List Addr → Prop
  | nil {k : Nat} : OwnL k [] [] []
  | cons {k : Nat} {v : Value} {vs : List Value} {d : D} {ds : List D} {O O' : List Addr} : OwnT k v d O → OwnL k vs ds O' → OwnL k (v :: vs) (d :: ds) (O ++ O')
inductive OwnE : Nat → List (Str × Value) → List (Str × D) → List Addr → Prop
  | nil {k : Nat} : OwnE k [] [] []
  | cons {k : Nat} {x : Str} {v : Value} {kvs : List (Str × Value)} {d : D} {kds : List (Str × D)} {O O' : List Addr} : PyData.strOk x = true → OwnT k v d O → OwnE k kvs kds O' →
      OwnE k ((x, v) :: kvs) ((x, d) :: kds) (O ++ O')
end
end

section
variable {prog : Program} {w : World} {h h' : Heap} {N N' : Addr → Prop}

theorem DictOf.at {h h' : Heap} {a : Addr} {kvs : List (Str × Value)} (x : h.DictOf (PySem.strKind prog w) a kvs) (hk : ∀ o, h.get? a = some o → h'.get? a = some o) : h'.DictOf (PySem.strKind prog w) a kvs :=
  let ⟨o, es, ep, ho, r⟩ := x; ⟨o, es, ep, hk _ ho, r⟩
theorem PlainTup.at {h h' : Heap} {a : Addr} {items : Array Value} (x : PlainTup h a items) (hk : ∀ o, h.get? a = some o → h'.get? a = some o) : PlainTup h' a items := let ⟨n, e⟩ := x; ⟨n, hk _ e⟩

theorem Rep.trans (hN : ∀ a, N a → N' a) (hk : ∀ a o, N a → h.get? a = some o → h'.get? a = some o) {v : Value} {d : D} (x : Rep prog w h N v d) : Rep prog w h' N' v d :=
  Rep.rec (motive_1 := fun v d _ => Rep prog w h' N' v d) (motive_2 := fun v d _ => RepL prog w h' N' v d) (motive_3 := fun v d _ => RepE prog w h' N' v d)
    .none (fun b => .bool b) (fun i t => .int i t) (fun x t e => .str x t e) (fun n p l _ r => .list (hN _ n) (p.at fun o => hk _ o n) l r) (fun n p l _ r => .tup (hN _ n) (p.at fun o => hk _ o n) l r)
    (fun n e p l _ r => .dict (hN _ n) e (DictOf.at p fun o => hk _ o n) l r) (fun n p => .rng (hN _ n) (hk _ _ n p)) .nil (fun _ _ x r => .cons x r) .nil (fun e _ _ x r => .cons e x r) x
theorem RepL.trans (hN : ∀ a, N a → N' a) (hk : ∀ a o, N a → h.get? a = some o → h'.get? a = some o) {v : List Value} {d : List D} (x : RepL prog w h N v d) : RepL prog w h' N' v d := by
  induction v generalizing d with
  | nil => cases x; exact .nil
  | cons v vs ih => cases x with | cons a r => exact .cons (a.trans hN hk) (ih r)
theorem RepE.trans (hN : ∀ a, N a → N' a) (hk : ∀ a o, N a → h.get? a = some o → h'.get? a = some o) {v : List (Str × Value)} {d : List (Str × D)} (x : RepE prog w h N v d) : RepE prog w h' N' v d := by
  induction v generalizing d with
  | nil => cases x; exact .nil
  | cons v vs ih => cases x with | cons e a r => exact .cons e (a.trans hN hk) (ih r)

/-- the tree is carried over where the frozen nodes and its own are kept -/
theorem OwnT.trans (hN : ∀ a, N a → N' a) (hk : ∀ a o, N a → h.get? a = some o → h'.get? a = some o) {k : Nat} {v : Value} {d : D} {O : List Addr} (x : OwnT prog w h N k v d O) (ho : ∀ a ∈ O, ∀ o, h.get? a = some o → h'.get? a = some o) : OwnT prog w h' N' k v d O :=
  OwnT.rec (motive_1 := fun k v d O _ => (∀ a ∈ O, ∀ o, h.get? a = some o → h'.get? a = some o) → OwnT prog w h' N' k v d O) (motive_2 := fun k v d O _ => (∀ a ∈ O, ∀ o, h.get? a = some o → h'.get? a = some o) → OwnL prog w h' N' k v d O)
    (motive_3 := fun k v d O _ => (∀ a ∈ O, ∀ o, h.get? a = some o → h'.get? a = some o) → OwnE prog w h' N' k v d O)
    (fun r _ => .fz0 (r.trans hN hk)) (fun c r _ => .fz c (r.trans hN hk)) (fun p l _ r ho => .list (p.at fun o => ho _ (.head _) o) l (r fun a ha => ho a (.tail _ ha)))
    (fun e p l _ r ho => .dict e (DictOf.at p fun o => ho _ (.head _) o) l (r fun a ha => ho a (.tail _ ha))) (fun _ => .nil)
    (fun _ _ x r ho => .cons (x fun a ha => ho a (List.mem_append_left _ ha)) (r fun a ha => ho a (List.mem_append_right _ ha))) (fun _ => .nil)
    (fun e _ _ x r ho => .cons e (x fun a ha => ho a (List.mem_append_left _ ha)) (r fun a ha => ho a (List.mem_append_right _ ha))) x ho
theorem OwnL.trans (hN : ∀ a, N a → N' a) (hk : ∀ a o, N a → h.get? a = some o → h'.get? a = some o) {k : Nat} {v : List Value} {d : List D} {O : List Addr} (x : OwnL prog w h N k v d O) (ho : ∀ a ∈ O, ∀ o, h.get? a = some o → h'.get? a = some o) : OwnL prog w h' N' k v d O := by
  induction v generalizing d O with
  | nil => cases x; exact .nil
  | cons v vs ih => cases x with | cons a r => exact .cons (a.trans hN hk fun a ha => ho a (List.mem_append_left _ ha)) (ih r fun a ha => ho a (List.mem_append_right _ ha))
theorem OwnE.trans (hN : ∀ a, N a → N' a) (hk : ∀ a o, N a → h.get? a = some o → h'.get? a = some o) {k : Nat} {v : List (Str × Value)} {d : List (Str × D)} {O : List Addr} (x : OwnE prog w h N k v d O) (ho : ∀ a ∈ O, ∀ o, h.get? a = some o → h'.get? a = some o) : OwnE prog w h' N' k v d O := by
  induction v generalizing d O with
  | nil => cases x; exact .nil
  | cons v vs ih => cases x with | cons e a r => exact .cons e (a.trans hN hk fun a ha => ho a (List.mem_append_left _ ha)) (ih r fun a ha => ho a (List.mem_append_right _ ha))

/-- an owned tree, looked at as plain data -/
theorem OwnT.rep (hN : ∀ a, N a → N' a) {k : Nat} {v : Value} {d : D} {O : List Addr} (x : OwnT prog w h N k v d O) (ho : ∀ a ∈ O, N' a) : Rep prog w h N' v d :=
  OwnT.rec (motive_1 := fun k v d O _ => (∀ a ∈ O, N' a) → Rep prog w h N' v d) (motive_2 := fun k v d O _ => (∀ a ∈ O, N' a) → RepL prog w h N' v d) (motive_3 := fun k v d O _ => (∀ a ∈ O, N' a) → RepE prog w h N' v d)
    (fun r _ => r.trans hN fun _ _ _ e => e) (fun _ r _ => r.trans hN fun _ _ _ e => e) (fun p l _ r ho => .list (ho _ (.head _)) p l (r fun a ha => ho a (.tail _ ha))) (fun e p l _ r ho => .dict (ho _ (.head _)) e p l (r fun a ha => ho a (.tail _ ha)))
    (fun _ => .nil) (fun _ _ x r ho => .cons (x fun a ha => ho a (List.mem_append_left _ ha)) (r fun a ha => ho a (List.mem_append_right _ ha))) (fun _ => .nil) (fun e _ _ x r ho => .cons e (x fun a ha => ho a (List.mem_append_left _ ha)) (r fun a ha => ho a (List.mem_append_right _ ha))) x ho

theorem OwnL.rep (hN : ∀ a, N a → N' a) {k : Nat} {v : List Value} {d : List D} {O : List Addr} (x : OwnL prog w h N k v d O) (ho : ∀ a ∈ O, N' a) : RepL prog w h N' v d := by
  induction v generalizing d O with
  | nil => cases x; exact .nil
  | cons v vs ih => cases x with | cons a r => exact .cons (a.rep hN fun a ha => ho a (List.mem_append_left _ ha)) (ih r fun a ha => ho a (List.mem_append_right _ ha))
theorem OwnE.rep (hN : ∀ a, N a → N' a) {k : Nat} {v : List (Str × Value)} {d : List (Str × D)} {O : List Addr} (x : OwnE prog w h N k v d O) (ho : ∀ a ∈ O, N' a) : RepE prog w h N' v d := by
  induction v generalizing d O with
  | nil => cases x; exact .nil
  | cons v vs ih => cases x with | cons e a r => exact .cons e (a.rep hN fun a ha => ho a (List.mem_append_left _ ha)) (ih r fun a ha => ho a (List.mem_append_right _ ha))
theorem RepL.length {vs : List Value} {ds : List D} (x : RepL prog w h N vs ds) : vs.length = ds.length := by
  induction vs generalizing ds with
  | nil => cases x; rfl
  | cons v vs ih => cases x with | cons _ r => rw [List.length_cons, List.length_cons, ih r]
theorem RepL.get {vs : List Value} {ds : List D} (x : RepL prog w h N vs ds) {i : Nat} {d : D} (hd : ds[i]? = some d) : ∃ v, vs[i]? = some v ∧ Rep prog w h N v d := by
  induction vs generalizing ds i with
  | nil => cases x; simp at hd
  | cons v vs ih =>
    cases x with
    | cons y r =>
      cases i with
      | zero => simp at hd; subst hd; exact ⟨v, rfl, y⟩
      | succ i => exact ih r (by simpa using hd)
theorem RepL.getV {vs : List Value} {ds : List D} (x : RepL prog w h N vs ds) {i : Nat} {v : Value} (hv : vs[i]? = some v) : ∃ d, ds[i]? = some d ∧ Rep prog w h N v d := by
  have hi : i < ds.length := by rw [← x.length]; exact (List.getElem?_eq_some_iff.mp hv).1
  obtain ⟨v', hv', r⟩ := x.get (i := i) (List.getElem?_eq_getElem hi)
  rw [hv] at hv'; cases hv'
  exact ⟨_, List.getElem?_eq_getElem hi, r⟩
theorem RepL.append {vs us : List Value} {ds es : List D} (x : RepL prog w h N vs ds) (y : RepL prog w h N us es) : RepL prog w h N (vs ++ us) (ds ++ es) := by
  induction vs generalizing ds with
  | nil => cases x; exact y
  | cons v vs ih => cases x with | cons a r => exact .cons a (ih r)
theorem RepL.take {vs : List Value} {ds : List D} (x : RepL prog w h N vs ds) (n : Nat) : RepL prog w h N (vs.take n) (ds.take n) := by
  induction vs generalizing ds n with
  | nil => cases x; simpa using RepL.nil
  | cons v vs ih =>
    cases x with
    | cons a r =>
      cases n with
      | zero => exact .nil
      | succ n => exact .cons a (ih r n)
theorem RepL.drop {vs : List Value} {ds : List D} (x : RepL prog w h N vs ds) (n : Nat) : RepL prog w h N (vs.drop n) (ds.drop n) := by
  induction vs generalizing ds n with
  | nil => cases x; simpa using RepL.nil
  | cons v vs ih =>
    cases n with
    | zero => exact x
    | succ n => cases x with | cons a r => exact ih r n
theorem RepL.replicate {v : Value} {d : D} (x : Rep prog w h N v d) (n : Nat) : RepL prog w h N (List.replicate n v) (List.replicate n d) := by
  induction n with
  | zero => exact .nil
  | succ n ih => exact .cons x ih

theorem Rep.ofImm {v : Value} {d : D} (hi : d.imm = true) (x : Rep prog w h N v d) : Rep prog w h' N' v d := by
  cases x with
  | none => exact .none
  | bool b => exact .bool b
  | int i t => exact .int i t
  | str s t e => exact .str s t e
  | list => cases hi
  | tup => cases hi
  | dict => cases hi
  | rng => cases hi
theorem RepL.ofImm {vs : List Value} {ds : List D} (hi : ds.all D.imm = true) (x : RepL prog w h N vs ds) : RepL prog w h' N' vs ds := by
  induction vs generalizing ds with
  | nil => cases x; exact .nil
  | cons v vs ih =>
    cases x with
    | cons a r =>
      rw [List.all_cons] at hi
      obtain ⟨h1, h2⟩ := Bool.and_eq_true_iff.mp hi
      exact .cons (Rep.ofImm h1 a) (ih h2 r)
end

/-! the configuration: program, world, the written part, globals; T: the code tables that a generator expression grows -/
set_option genInjectivity false in
structure Cfg where
  prog : Program
  w : World
  K : List (Addr × Obj)
  mg : Str → Option Value
  mb : Str → Option Value
  T : Addr → Prop
  TB : Heap → Prop
  hK : ∀ a o, K.lookup a = some o → ¬ T a
  hTg : ¬ T mainGlobals
  hTb : ¬ T builtinsNs
  hTs : ¬ T cStatics
  hTB : ∀ h h' : Heap, (∀ b o, (T b ∨ (K.lookup b).isSome = true) → h.get? b = some o → h'.get? b = some o) → TB h → TB h'

structure Ext (C : Cfg) (s s' : Shared) : Prop where
  keep : ∀ b o, ¬ C.T b → s.heap.get? b = some o → s'.heap.get? b = some o
  dom : ∀ b o, s.heap.get? b = some o → ∃ o', s'.heap.get? b = some o'
  tab : C.TB s.heap → C.TB s'.heap
  gens : AllBare s.gens → AllBare s'.gens
  os : s'.os = s.os

theorem Ext.refl (C : Cfg) (s : Shared) : Ext C s s := ⟨fun _ _ _ e => e, fun _ o e => ⟨o, e⟩, id, id, rfl⟩
theorem Ext.trans {C : Cfg} {s s' s'' : Shared} (x : Ext C s s') (y : Ext C s' s'') : Ext C s s'' :=
  ⟨fun b o t e => y.keep b o t (x.keep b o t e), fun b o e => let ⟨_, e'⟩ := x.dom b o e; y.dom b _ e', fun t => y.tab (x.tab t), fun g => y.gens (x.gens g), y.os.trans x.os⟩
theorem Ext.of {C : Cfg} {s : Shared} {h' : Heap} {tk : Nat} (k : ∀ b o, s.heap.get? b = some o → h'.get? b = some o) : Ext C s { s with heap := h', toks := tk } :=
  ⟨fun b o _ e => k b o e, fun b o e => ⟨o, k b o e⟩, fun t => C.hTB _ _ (fun b o _ e => k b o e) t, id, rfl⟩
theorem Ext.none {C : Cfg} {s s' : Shared} (x : Ext C s s') {a : Addr} (e : s'.heap.get? a = none) : s.heap.get? a = none := by
  cases q : s.heap.get? a with
  | none => rfl
  | some o => obtain ⟨o', e'⟩ := x.dom a o q; rw [e] at e'; cases e'

structure GlobOK (C : Cfg) (h : Heap) : Prop where
  inK : ∀ a o, C.K.lookup a = some o → h.get? a = some o
  g : h.Ns mainGlobals C.mg
  b : h.Ns builtinsNs C.mb
  bi : ∀ x : Str, x ≠ "__name__" → C.mb x = bootBuiltins x
  nolim : h.NoLimit
  tb : C.TB h
  tdom : ∀ a, C.T a → ∃ o, h.get? a = some o
theorem Ns.kept {h h' : Heap} {a : Addr} {m : Str → Option Value} (x : h.Ns a m) (hk : ∀ o, h.get? a = some o → h'.get? a = some o) : h'.Ns a m :=
  let ⟨o, es, ep, e, r⟩ := x; ⟨o, es, ep, hk _ e, r⟩
theorem GlobOK.ext {C : Cfg} {s s' : Shared} (x : GlobOK C s.heap) (e : Ext C s s') : GlobOK C s'.heap :=
  ⟨fun a o q => e.keep a o (C.hK a o q) (x.inK a o q), Ns.kept x.g fun o => e.keep _ o C.hTg, Ns.kept x.b fun o => e.keep _ o C.hTb, x.bi, (let ⟨mc, p, q⟩ := x.nolim; ⟨mc, Ns.kept p fun o => e.keep _ o C.hTs, q⟩), e.tab x.tb, fun a t => let ⟨o, q⟩ := x.tdom a t; e.dom a o q⟩

/-- steps that write to fresh objects alone -/
theorem Ext.wr {C : Cfg} {s s₂ : Shared} {h' : Heap} {tk : Nat} {W : Addr → Prop} (g : GlobOK C s.heap) (e : Ext C s s₂) (hw : ∀ b, W b → s.heap.get? b = Option.none) (hk : ∀ b o, ¬ W b → s₂.heap.get? b = some o → h'.get? b = some o) :
    Ext C s { s₂ with heap := h', toks := tk } := by
  have nw : ∀ b o, s.heap.get? b = some o → ¬ W b := fun b o q w => by rw [hw b w] at q; cases q
  refine ⟨fun b o t q => hk b o (nw b o q) (e.keep b o t q), fun b o q => ?_, fun t => ?_, e.gens, e.os⟩
  · obtain ⟨o', q'⟩ := e.dom b o q; exact ⟨o', hk b o' (nw b o q) q'⟩
  · refine C.hTB _ _ (fun b o hb q => hk b o ?_ q) (e.tab t)
    rcases hb with hb | hb
    · obtain ⟨o', q'⟩ := g.tdom b hb; exact nw b o' q'
    · obtain ⟨o', q'⟩ := Option.isSome_iff_exists.mp hb; exact nw b o' (g.inK b o' q')
/-- a set of addresses that data may live at -/
structure NOK (C : Cfg) (h : Heap) (N : Addr → Prop) : Prop where
  fresh : ∀ a, h.get? a = none → N a
  notT : ∀ a, N a → ¬ C.T a
  inK : ∀ a o, C.K.lookup a = some o → N a
  low : ∀ a : Nat, a = 0 ∨ a = 2 ∨ a = 3 → N a
theorem NOK.ext {C : Cfg} {s s' : Shared} {N : Addr → Prop} (x : NOK C s.heap N) (e : Ext C s s') : NOK C s'.heap N := ⟨fun a q => x.fresh a (e.none q), x.notT, x.inK, x.low⟩

abbrev RepC (C : Cfg) (h : Heap) (N : Addr → Prop) (v : Value) (d : D) : Prop := Rep C.prog C.w h N v d
abbrev RepLC (C : Cfg) (h : Heap) (N : Addr → Prop) (v : List Value) (d : List D) : Prop := RepL C.prog C.w h N v d
theorem Rep.ext {C : Cfg} {s s' : Shared} {N : Addr → Prop} {v : Value} {d : D} (hN : ∀ a, N a → ¬ C.T a) (e : Ext C s s') (x : RepC C s.heap N v d) : RepC C s'.heap N v d :=
  x.trans (fun _ n => n) fun a o n q => e.keep a o (hN a n) q
theorem RepL.ext {C : Cfg} {s s' : Shared} {N : Addr → Prop} {v : List Value} {d : List D} (hN : ∀ a, N a → ¬ C.T a) (e : Ext C s s') (x : RepLC C s.heap N v d) : RepLC C s'.heap N v d :=
  x.trans (fun _ n => n) fun a o n q => e.keep a o (hN a n) q

noncomputable def Room (A : Around) (l : Nat) : Prop := A.handled = none ∧ A.depth + l < recursionLimit ∧ A.units + 10 * l + 200 < cLine

/-! frames -/
inductive Loc where
  | ns (L : Addr) (x : Str)
  | cell (c : Addr)
noncomputable def Loc.addr : Loc → Addr
  | .ns L _ => L
  | .cell c => c
noncomputable def LocHas (h : Heap) : Loc → Value → Prop
  | .ns L x, v => ∃ m, h.Ns L m ∧ m x = some v
  | .cell c, v => h.IsCell c (some v)
theorem LocHas.kept {h h' : Heap} {l : Loc} {v : Value} (x : LocHas h l v) (hk : ∀ o, h.get? l.addr = some o → h'.get? l.addr = some o) : LocHas h' l v := by
  cases l with
  | ns L y => obtain ⟨m, a, b⟩ := x; exact ⟨m, Ns.kept a hk, b⟩
  | cell c => obtain ⟨o, a, b⟩ := x; exact ⟨o, hk o a, b⟩

noncomputable def LocEx (h : Heap) : Loc → Prop
  | .ns L _ => ∃ m, h.Ns L m
  | .cell c => ∃ v, h.IsCell c v
theorem LocEx.kept {h h' : Heap} {l : Loc} (x : LocEx h l) (hk : ∀ o, h.get? l.addr = some o → h'.get? l.addr = some o) : LocEx h' l := by
  cases l with
  | ns L y => obtain ⟨m, a⟩ := x; exact ⟨m, Ns.kept a hk⟩
  | cell c => obtain ⟨v, o, a, b⟩ := x; exact ⟨v, o, hk o a, b⟩
noncomputable def LocsApart (ls : List Loc) : Prop := ∀ (i j : Nat) (li lj : Loc), ls[i]? = some li → ls[j]? = some lj → i ≠ j → li.addr = lj.addr → ∃ L x y, li = .ns L x ∧ lj = .ns L y ∧ x ≠ y
/-- what is known of an expression's value: fr frozen; own k: fresh to depth k; bor: an owned slot's; unk: unknown; fu: a fresh root, unknown below -/
inductive Mk where
  | fr
  | own (k : Nat)
  | bor
  | unk
  | fu
noncomputable def Mk.isFu : Mk → Bool
  | .fu => true
  | _ => false
noncomputable def Mk.isOwn (k : Nat) : Mk → Bool
  | .own j => decide (j = k)
  | _ => false
theorem Mk.of_isFu {m : Mk} (h : m.isFu = true) : m = .fu := by cases m <;> first | rfl | cases h
theorem Mk.of_isOwn {m : Mk} {k : Nat} (h : m.isOwn k = true) : m = .own k := by
  cases m with
  | own j => exact congrArg Mk.own (of_decide_eq_true h)
  | _ => cases h
structure Fx where
  locs : List Loc
  vol : Addr → Prop
  volc : Addr → Prop
  new : Addr → Prop

noncomputable def MkRep (C : Cfg) (F : Fx) (hs h : Heap) : Mk → Value → D → Prop
  | .fr, v, d => RepC C h (fun a => ¬ F.vol a) v d
  | .own k, v, d => ∃ O, OwnT C.prog C.w h (fun a => ¬ F.vol a ∧ a ∉ O) k v d O ∧ O.Nodup ∧ ∀ a ∈ O, hs.get? a = none
  | .bor, v, d => ∃ O, OwnT C.prog C.w h (fun a => ¬ F.vol a) 1 v d O ∧ ∀ a ∈ O, F.new a
  | .unk, v, d => RepC C h (fun a => ¬ F.volc a) v d
  | .fu, v, d => RepC C h (fun a => ¬ F.volc a) v d ∧ ∀ a, v = .ref a → hs.get? a = none

abbrev EEnv := List (Option (D × Mk))
noncomputable def Mk.sl : Mk → Mk
  | .fr => .fr
  | .bor => .bor
  | _ => .unk

set_option genInjectivity false in
inductive SlotE (C : Cfg) (F : Fx) (h : Heap) (i : Nat) (d : D) (m : Mk) : Prop
  | mk (l : Loc) (v : Value) : F.locs[i]? = some l → LocHas h l v → MkRep C F h h m.sl v d → SlotE C F h i d m
structure RelE (C : Cfg) (F : Fx) (h : Heap) (ρ : EEnv) : Prop where
  hv : ∀ a, F.vol a → ∃ o, h.get? a = some o
  vc : ∀ a, F.volc a → F.vol a
  vT : ∀ a, C.T a → F.volc a
  vK : ∀ a o, C.K.lookup a = some o → ¬ F.vol a
  vlow : ∀ a : Nat, a = 0 ∨ a = 2 ∨ a = 3 → ¬ F.vol a
  newc : ∀ a, F.new a → ¬ F.volc a
  newf : ∀ a, h.get? a = none → F.new a
  loc : ∀ l ∈ F.locs, F.volc l.addr ∧ ¬ C.T l.addr
  locex : ∀ l ∈ F.locs, LocEx h l
  dist : LocsApart F.locs
  len : ρ.length = F.locs.length
  slot : ∀ (i : Nat) (d : D) (m : Mk), ρ[i]? = some (some (d, m)) → SlotE C F h i d m

section
variable {C : Cfg} {F : Fx} {hs hs' h h' : Heap} {m : Mk} {v : Value} {d : D}
theorem fresh_not_vol (hv : ∀ a, F.vol a → ∃ o, h.get? a = some o) {a : Addr} (e : h.get? a = none) : ¬ F.vol a := fun q => by obtain ⟨o, q⟩ := hv a q; rw [e] at q; cases q
/-- whatever is known, it is data away from the caller's -/
theorem MkRep.weak (hv : ∀ a, F.vol a → ∃ o, hs.get? a = some o) (vc : ∀ a, F.volc a → F.vol a) (newc : ∀ a, F.new a → ¬ F.volc a) (x : MkRep C F hs h m v d) : RepC C h (fun a => ¬ F.volc a) v d := by
  cases m with
  | fr => exact Rep.trans (fun a n q => n (vc a q)) (fun _ _ _ e => e) x
  | own k =>
    obtain ⟨O, t, _, f⟩ := x
    exact t.rep (fun a n q => n.1 (vc a q)) fun a ha q => fresh_not_vol hv (f a ha) (vc a q)
  | bor =>
    obtain ⟨O, t, f⟩ := x
    exact t.rep (fun a n q => n (vc a q)) fun a ha => newc a (f a ha)
  | unk => exact x
  | fu => exact x.1
noncomputable def Mk.clean : Mk → Bool
  | .fr | .own _ => true
  | _ => false
/-- may it be kept as frozen data? -/
noncomputable def Mk.cl (m : Mk) (d : D) : Bool := m.clean || d.imm || (m.isFu && d.flat)
theorem MkRep.clean (hv : ∀ a, F.vol a → ∃ o, hs.get? a = some o) (c : m.cl d = true) (x : MkRep C F hs h m v d) : RepC C h (fun a => ¬ F.vol a) v d := by
  unfold Mk.cl at c
  rcases Bool.or_eq_true_iff.mp c with c | c
  · rcases Bool.or_eq_true_iff.mp c with c | c
    · cases m with
      | fr => exact x
      | own k =>
        obtain ⟨O, t, _, f⟩ := x
        exact t.rep (fun a n => n.1) fun a ha => fresh_not_vol hv (f a ha)
      | bor => cases c
      | unk => cases c
      | fu => cases c
    · cases m with
      | fr => exact x
      | own k =>
        obtain ⟨O, t, _, f⟩ := x
        exact t.rep (fun a n => n.1) fun a ha => fresh_not_vol hv (f a ha)
      | bor =>
        obtain ⟨O, t, f⟩ := x
        exact Rep.ofImm c (t.rep (N' := fun _ => True) (fun _ _ => trivial) fun _ _ => trivial)
      | unk => exact Rep.ofImm c x
      | fu => exact Rep.ofImm c x.1
  · obtain ⟨c1, c2⟩ := Bool.and_eq_true_iff.mp c
    have e : m = .fu := Mk.of_isFu c1
    subst e
    obtain ⟨x, f⟩ := x
    cases x with
    | none => exact .none
    | bool b => exact .bool b
    | int i t => exact .int i t
    | str s t e => exact .str s t e
    | list n p l r => exact .list (fresh_not_vol hv (f _ rfl)) p l (RepL.ofImm c2 r)
    | tup => cases c2
    | dict => cases c2
    | rng => cases c2
/-- later heaps -/
theorem MkRep.ext {s s' : Shared} (vc : ∀ a, F.volc a → F.vol a) (vT : ∀ a, C.T a → F.volc a) (newc : ∀ a, F.new a → ¬ F.volc a) (hsT : ∀ a, C.T a → ∃ o, hs.get? a = some o) (e : Ext C s s') (x : MkRep C F hs s.heap m v d) : MkRep C F hs s'.heap m v d := by
  have k0 : ∀ a, ¬ F.vol a → ¬ C.T a := fun a n t => n (vc a (vT a t))
  cases m with
  | fr => exact Rep.ext k0 e x
  | own k =>
    obtain ⟨O, t, nd, f⟩ := x
    refine ⟨O, t.trans (fun _ n => n) (fun a o n q => e.keep a o (k0 a n.1) q) (fun a ha o q => e.keep a o (fun t => ?_) q), nd, f⟩
    obtain ⟨o', q'⟩ := hsT a t; rw [f a ha] at q'; cases q'
  | bor =>
    obtain ⟨O, t, f⟩ := x
    exact ⟨O, t.trans (fun _ n => n) (fun a o n q => e.keep a o (k0 a n) q) (fun a ha o q => e.keep a o (fun t => newc a (f a ha) (vT a t)) q), f⟩
  | unk => exact Rep.ext (fun a n t => n (vT a t)) e x
  | fu => exact ⟨Rep.ext (fun a n t => n (vT a t)) e x.1, x.2⟩
/-- an earlier start -/
theorem MkRep.earlier (e : ∀ a, hs.get? a = none → hs'.get? a = none) (x : MkRep C F hs h m v d) : MkRep C F hs' h m v d := by
  cases m with
  | fr => exact x
  | own k => obtain ⟨O, t, nd, f⟩ := x; exact ⟨O, t, nd, fun a ha => e a (f a ha)⟩
  | bor => exact x
  | unk => exact x
  | fu => exact ⟨x.1, fun a q => e a (x.2 a q)⟩
theorem RelE.ext {ρ : EEnv} {s s' : Shared} (x : RelE C F s.heap ρ) (e : Ext C s s') : RelE C F s'.heap ρ where
  hv := fun a q => let ⟨o, q⟩ := x.hv a q; e.dom a o q
  vc := x.vc
  vT := x.vT
  vK := x.vK
  vlow := x.vlow
  newc := x.newc
  newf := fun a q => x.newf a (e.none q)
  loc := x.loc
  locex := fun l hl => (x.locex l hl).kept fun o => e.keep _ o (x.loc l hl).2
  dist := x.dist
  len := x.len
  slot := fun i d m q => by
    obtain ⟨l, v, a, b, c⟩ := x.slot i d m q
    refine ⟨l, v, a, b.kept fun o => e.keep _ o (x.loc l (List.mem_of_getElem? a)).2, ?_⟩
    have c' := c.ext x.vc x.vT x.newc (fun a t => x.hv a (x.vc a (x.vT a t))) e
    cases m <;> exact c'
end
end Mine

set_option autoImplicit false
open PySem PyProof.Rows
namespace Mine

/-! equality of data -/
noncomputable def eqL (q : D → D → Option Bool) (xs : List D) : List D → Option Bool := @List.rec D (fun _ => List D → Option Bool) (fun ys => some ys.isEmpty) (fun x _ ih ys => @List.casesOn D (fun _ => Option Bool) ys (some false) fun y ys => (q x y).bind fun a => (ih ys).bind fun b => some (a && b)) xs
/-- one round of eqD -/
noncomputable def eqR (ql qt : List D → List D → Option Bool) (a b : D) : Option Bool := dcase a ((toN b).bind fun _ => some true) (fun x => (toB b).bind fun y => some (x == y)) (fun x => (toI b).bind fun y => some (x == y)) (fun x => (toS b).bind fun y => some (x == y))
  (fun x => (toL b).bind fun y => ql x y) (fun x => (toT b).bind fun y => qt x y) (fun _ => none) fun _ _ _ => none
noncomputable def eqD (n : Nat) : D → D → Option Bool := @Nat.rec (fun _ => D → D → Option Bool) (eqR (fun _ _ => none) fun _ _ => none) (fun _ q => eqR (fun xs ys => if xs.length = ys.length then eqL q xs ys else some false) (eqL q)) n
theorem eqD_list {n : Nat} {xs ys : List D} : eqD (n + 1) (.list xs) (.list ys) = if xs.length = ys.length then eqL (eqD n) xs ys else some false := rfl
theorem eqD_tup {n : Nat} {xs ys : List D} : eqD (n + 1) (.tup xs) (.tup ys) = eqL (eqD n) xs ys := rfl
theorem eqL_cons {q : D → D → Option Bool} {x y : D} {xs ys : List D} : eqL q (x :: xs) (y :: ys) = (q x y).bind fun a => (eqL q xs ys).bind fun b => some (a && b) := rfl
theorem eqL_inv {q : D → D → Option Bool} {x y : D} {xs ys : List D} {r : Bool} (h : eqL q (x :: xs) (y :: ys) = some r) : ∃ a b, q x y = some a ∧ eqL q xs ys = some b ∧ r = (a && b) := by
  rw [eqL_cons] at h
  obtain ⟨a, ha, h⟩ := Option.bind_eq_some_iff.mp h
  obtain ⟨b, hb, h⟩ := Option.bind_eq_some_iff.mp h
  exact ⟨a, b, ha, hb, (Option.some.inj h).symm⟩

section
variable {prog : Program} {w : World} {h : Heap} {N N' : Addr → Prop}
open SeqAt

noncomputable def pairOf (q : D → D → Option Bool) (xs ys : List D) (j : Nat) : Bool := ((xs[j]?.bind fun x => ys[j]?.bind fun y => q x y)).getD true
theorem succ_beq {n m : Nat} : (n + 1 == m + 1) = (n == m) := by rw [Bool.eq_iff_iff, beq_iff_eq, beq_iff_eq, Nat.add_right_cancel_iff]
theorem eqL_all {q : D → D → Option Bool} {xs ys : List D} {r : Bool} (e : eqL q xs ys = some r) : ((List.range (min xs.length ys.length)).all (pairOf q xs ys) && xs.length == ys.length) = r := by
  induction xs generalizing ys r with
  | nil =>
    cases ys with
    | nil => cases e; rfl
    | cons y ys => cases e; exact Bool.and_false _
  | cons x xs ih =>
    cases ys with
    | nil => cases e; exact Bool.and_false _
    | cons y ys =>
      obtain ⟨a, b, ha, hb, rfl⟩ := eqL_inv e
      have h0 : pairOf q (x :: xs) (y :: ys) 0 = a := by show (q x y).getD true = a; rw [ha]; rfl
      rw [← ih hb, List.length_cons, List.length_cons, Nat.add_min_add_right, List.range_succ_eq_map, List.all_cons, List.all_map, h0, Bool.and_assoc, succ_beq]
      rfl
theorem eqL_pair {q : D → D → Option Bool} {xs ys : List D} {r : Bool} (e : eqL q xs ys = some r) {j : Nat} {x y : D} (h1 : xs[j]? = some x) (h2 : ys[j]? = some y) : q x y = some (pairOf q xs ys j) := by
  induction xs generalizing ys r j with
  | nil => cases h1
  | cons x' xs ih =>
    cases ys with
    | nil => cases h2
    | cons y' ys =>
      obtain ⟨a, b, ha, hb, _⟩ := eqL_inv e
      cases j with
      | zero => cases h1; cases h2; show q x y = some ((q x y).getD true); rw [ha]; rfl
      | succ j => exact ih hb h1 h2

theorem plainList_inj {h : Heap} {a : Addr} {xs ys : List Value} (x : h.PlainList a xs.toArray) (y : h.PlainList a ys.toArray) : xs = ys := by
  obtain ⟨n, e⟩ := x; obtain ⟨n', e'⟩ := y; rw [e] at e'; cases e'; rfl
theorem plainTup_inj {h : Heap} {a : Addr} {xs ys : List Value} (x : PlainTup h a xs.toArray) (y : PlainTup h a ys.toArray) : xs = ys := by
  obtain ⟨n, e⟩ := x; obtain ⟨n', e'⟩ := y; rw [e] at e'; cases e'; rfl

theorem dictOf_inj {h : Heap} {a : Addr} {xs ys : List (Str × Value)} (x : h.DictOf (PySem.strKind prog w) a xs) (y : h.DictOf (PySem.strKind prog w) a ys) : ys = xs := by
  obtain ⟨o, es, ep, e1, _, e2, _, p, nd⟩ := x
  obtain ⟨o', es', ep', e1', _, e2', _, p', nd'⟩ := y
  rw [e1] at e1'; cases e1'
  rw [e2] at e2'; cases e2'
  clear e1 e2 nd nd'
  generalize es.toList = l at p p'
  induction p generalizing ys with
  | nil => cases p'; rfl
  | @cons e kv es kvs h1 h2 _ ih =>
    cases p' with
    | @cons _ kv' _ kvs' h1' h2' p'' =>
      rw [ih p'']
      have : kv'.1 = kv.1 := (PySem.strKind prog w).inj _ _ _ h1' h1
      rw [show kv' = kv from Prod.ext this (h2'.symm.trans h2)]
theorem Rep.inv_none {v : Value} (x : Rep prog w h N v .none) : v = .none := by cases x; rfl
theorem Rep.inv_bool {v : Value} {b : Bool} (x : Rep prog w h N v (.bool b)) : v = .bool b := by cases x; rfl
theorem Rep.inv_int {v : Value} {i : Int} (x : Rep prog w h N v (.int i)) : ∃ t, v = .int i t := by cases x; exact ⟨_, rfl⟩
theorem Rep.inv_str {v : Value} {i : Str} (x : Rep prog w h N v (.str i)) : ∃ t, v = .str i t ∧ PyData.strOk i = true := by cases x with | str _ t e => exact ⟨_, rfl, e⟩
set_option genInjectivity false in
inductive InvL (prog : Program) (w : World) (h : Heap) (N : Addr → Prop) (v : Value) (ds : List D) : Prop
  | mk (a : Addr) (vs : List Value) : v = .ref a → N a → h.PlainList a vs.toArray → vs.length ≤ sizeLine → RepL prog w h N vs ds → InvL prog w h N v ds
set_option genInjectivity false in
inductive InvT (prog : Program) (w : World) (h : Heap) (N : Addr → Prop) (v : Value) (ds : List D) : Prop
  | mk (a : Addr) (vs : List Value) : v = .ref a → N a → PlainTup h a vs.toArray → vs.length ≤ sizeLine → RepL prog w h N vs ds → InvT prog w h N v ds
set_option genInjectivity false in
inductive InvD (prog : Program) (w : World) (h : Heap) (N : Addr → Prop) (v : Value) (ds : List (Str × D)) : Prop
  | mk (a : Addr) (vs : List (Str × Value)) : v = .ref a → N a → (a == sysModules) = false → h.DictOf (PySem.strKind prog w) a vs → vs.length ≤ sizeLine → RepE prog w h N vs ds → InvD prog w h N v ds
theorem Rep.inv_list {v : Value} {ds : List D} (x : Rep prog w h N v (.list ds)) : InvL prog w h N v ds := by cases x with | list n p l r => exact ⟨_, _, rfl, n, p, l, r⟩
theorem Rep.inv_tup {v : Value} {ds : List D} (x : Rep prog w h N v (.tup ds)) : InvT prog w h N v ds := by cases x with | tup n p l r => exact ⟨_, _, rfl, n, p, l, r⟩
theorem Rep.inv_dict {v : Value} {ds : List (Str × D)} (x : Rep prog w h N v (.dict ds)) : InvD prog w h N v ds := by cases x with | dict n e p l r => exact ⟨_, _, rfl, n, e, p, l, r⟩
/-- what eqD answers, case by case -/
inductive EqV : Nat → D → D → Bool → Prop
  | none {n : Nat} : EqV n .none .none true
  | bool {n : Nat} (a b : Bool) : EqV n (.bool a) (.bool b) (a == b)
  | int {n : Nat} (a b : Int) : EqV n (.int a) (.int b) (a == b)
  | str {n : Nat} (a b : Str) : EqV n (.str a) (.str b) (a == b)
  | lists {n : Nat} {xs ys : List D} {r : Bool} : xs.length = ys.length → eqL (eqD n) xs ys = some r → EqV (n + 1) (.list xs) (.list ys) r
  | lens {n : Nat} {xs ys : List D} : ¬ xs.length = ys.length → EqV (n + 1) (.list xs) (.list ys) false
  | tups {n : Nat} {xs ys : List D} {r : Bool} : eqL (eqD n) xs ys = some r → EqV (n + 1) (.tup xs) (.tup ys) r
theorem eqR_V {n : Nat} {ql qt : List D → List D → Option Bool} {a b : D} {r : Bool} (q : eqR ql qt a b = some r) (hl : ∀ xs ys, ql xs ys = some r → EqV n (.list xs) (.list ys) r) (ht : ∀ xs ys, qt xs ys = some r → EqV n (.tup xs) (.tup ys) r) : EqV n a b r := by
  cases a with
  | none => obtain ⟨y, hy, q⟩ := Option.bind_eq_some_iff.mp q; cases q; rw [toN_inv hy]; exact .none
  | bool x => obtain ⟨y, hy, q⟩ := Option.bind_eq_some_iff.mp q; cases q; rw [toB_inv hy]; exact .bool _ _
  | int x => obtain ⟨y, hy, q⟩ := Option.bind_eq_some_iff.mp q; cases q; rw [toI_inv hy]; exact .int _ _
  | str x => obtain ⟨y, hy, q⟩ := Option.bind_eq_some_iff.mp q; cases q; rw [toS_inv hy]; exact .str _ _
  | list x => obtain ⟨y, hy, q⟩ := Option.bind_eq_some_iff.mp q; rw [toL_inv hy]; exact hl _ _ q
  | tup x => obtain ⟨y, hy, q⟩ := Option.bind_eq_some_iff.mp q; rw [toT_inv hy]; exact ht _ _ q
  | dict => cases q
  | rng => cases q
theorem eqD_V {n : Nat} {a b : D} {r : Bool} (q : eqD n a b = some r) : EqV n a b r := by
  cases n with
  | zero => exact eqR_V q (fun _ _ h => nomatch h) fun _ _ h => nomatch h
  | succ n =>
    refine eqR_V q (fun xs ys h => ?_) fun _ _ h => .tups h
    by_cases hl : xs.length = ys.length
    · rw [if_pos hl] at h; exact .lists hl h
    · rw [if_neg hl] at h; cases h; exact .lens hl
theorem eqL_same {n : Nat} (ih : ∀ {v : Value} {d e : D} {r : Bool}, Rep prog w h N v d → Rep prog w h N' v e → eqD n d e = some r → r = true) : ∀ {vs : List Value} {ds es : List D} {r : Bool}, RepL prog w h N vs ds → RepL prog w h N' vs es → eqL (eqD n) ds es = some r → r = true := by
  intro vs
  induction vs with
  | nil => intro ds es r x y q; cases x; cases y; cases q; rfl
  | cons v vs ih' =>
    intro ds es r x y q
    cases x with
    | cons x1 x2 =>
      cases y with
      | cons y1 y2 =>
        obtain ⟨a, b, ha, hb, rfl⟩ := eqL_inv q
        rw [ih x1 y1 ha, ih' x2 y2 hb]; rfl
/-- the same value cannot stand for two sides that differ -/
theorem eqD_same (n : Nat) : ∀ {v : Value} {d e : D} {r : Bool}, Rep prog w h N v d → Rep prog w h N' v e → eqD n d e = some r → r = true := by
  induction n using Nat.strongRecOn with
  | _ n ih =>
    intro v d e r x y q
    cases eqD_V q with
    | none => rfl
    | bool a b => obtain rfl := x.inv_bool; cases y.inv_bool; exact beq_self_eq_true _
    | int a b => obtain ⟨t, rfl⟩ := x.inv_int; obtain ⟨u, e⟩ := y.inv_int; cases e; exact beq_self_eq_true _
    | str a b => obtain ⟨t, rfl, _⟩ := x.inv_str; obtain ⟨u, e, _⟩ := y.inv_str; cases e; exact beq_self_eq_true _
    | lists hl q =>
      obtain ⟨_, _, rfl, _, p, _, r1⟩ := x.inv_list
      obtain ⟨_, _, e, _, p', _, r2⟩ := y.inv_list
      cases e
      obtain rfl := plainList_inj p p'
      exact eqL_same (ih _ (Nat.lt_succ_self _)) r1 r2 q
    | lens hl =>
      obtain ⟨_, _, rfl, _, p, _, r1⟩ := x.inv_list
      obtain ⟨_, _, e, _, p', _, r2⟩ := y.inv_list
      cases e
      obtain rfl := plainList_inj p p'
      exact absurd (r1.length.symm.trans r2.length) hl
    | tups q =>
      obtain ⟨_, _, rfl, _, p, _, r1⟩ := x.inv_tup
      obtain ⟨_, _, e, _, p', _, r2⟩ := y.inv_tup
      cases e
      obtain rfl := plainTup_inj p p'
      exact eqL_same (ih _ (Nat.lt_succ_self _)) r1 r2 q
theorem pairs_at {n : Nat} {A : Around} {s : Shared} {vs us : List Value} {ds es : List D} {r : Bool} (ih : ∀ {a b : Value} {da db : D} {r : Bool}, Rep prog w s.heap N a da → Rep prog w s.heap N' b db → eqD n da db = some r → EqAt A s a b r) (r1 : RepL prog w s.heap N vs ds) (r2 : RepL prog w s.heap N' us es) (q : eqL (eqD n) ds es = some r) :
    ∀ (j : Nat) (h1 : j < vs.toArray.size) (h2 : j < us.toArray.size), EqAt A s vs.toArray[j] us.toArray[j] (pairOf (eqD n) ds es j) := fun j h1 h2 => by
  have h1' : j < vs.length := by simpa using h1
  have h2' : j < us.length := by simpa using h2
  obtain ⟨d1, hd1, rd1⟩ := r1.getV (List.getElem?_eq_getElem h1')
  obtain ⟨d2, hd2, rd2⟩ := r2.getV (List.getElem?_eq_getElem h2')
  have := ih rd1 rd2 (eqL_pair q hd1 hd2)
  simpa using this
theorem lists_all {q : D → D → Option Bool} {vs : List Value} {ds es : List D} {r : Bool} (hl : ds.length = es.length) (e : vs.length = ds.length) (h : eqL q ds es = some r) : (List.range vs.toArray.size).all (pairOf q ds es) = r := by
  have ha := eqL_all h
  rw [← hl, Nat.min_self, beq_self_eq_true, Bool.and_true, ← e] at ha
  rw [List.size_toArray]; exact ha
theorem tups_all {q : D → D → Option Bool} {vs us : List Value} {ds es : List D} {r : Bool} (e : vs.length = ds.length) (e' : us.length = es.length) (h : eqL q ds es = some r) : ((List.range (min vs.toArray.size us.toArray.size)).all (pairOf q ds es) && vs.toArray.size == us.toArray.size) = r := by
  have ha := eqL_all h
  rw [← e, ← e'] at ha
  rw [List.size_toArray, List.size_toArray]; exact ha
theorem size_eq {vs us : List Value} {ds es : List D} (e : vs.length = ds.length) (e' : us.length = es.length) (h : ds.length = es.length) : vs.toArray.size = us.toArray.size := by rw [List.size_toArray, List.size_toArray, e, e', h]
theorem size_ne {vs us : List Value} {ds es : List D} (e : vs.length = ds.length) (e' : us.length = es.length) (h : ¬ ds.length = es.length) : (vs.toArray.size != us.toArray.size) = true := by rw [List.size_toArray, List.size_toArray, e, e']; simpa using h

theorem eqAt_rep (n : Nat) : ∀ {A : Around} {s : Shared} {a b : Value} {da db : D} {r : Bool}, A.units + n < cLine → Rep prog w s.heap N a da → Rep prog w s.heap N' b db → eqD n da db = some r → EqAt A s a b r := by
  induction n using Nat.strongRecOn with
  | _ n ih =>
    intro A s a b da db r hu x y q
    have hc : A.units < cLine := by omega
    cases eqD_V q with
    | none => obtain rfl := x.inv_none; obtain rfl := y.inv_none; exact EqAt.same _
    | bool => obtain rfl := x.inv_bool; obtain rfl := y.inv_bool; exact EqAt.bool_bool _ _
    | int => obtain ⟨_, rfl⟩ := x.inv_int; obtain ⟨_, rfl⟩ := y.inv_int; exact EqAt.int_int _ _ _ _
    | str => obtain ⟨_, rfl, _⟩ := x.inv_str; obtain ⟨_, rfl, _⟩ := y.inv_str; exact EqAt.str_str _ _ _ _
    | @lists m _ _ _ hl q' =>
      obtain ⟨l1, vs, rfl, n1, p, l, r1⟩ := x.inv_list
      obtain ⟨l2, us, rfl, n2, p', l', r2⟩ := y.inv_list
      by_cases hll : l1 = l2
      · subst hll
        cases eqD_same _ x y q
        exact EqAt.same _
      · refine EqAt.of_refs hll (lists_all hl r1.length q' ▸ ?_)
        exact RcAt.lists p.isList p'.isList (size_eq r1.length r2.length hl) hc (pairs_at (ih m (Nat.lt_succ_self _) (A := A.in1) (by rw [Around.in1_units]; omega)) r1 r2 q')
    | lens hl =>
      obtain ⟨l1, vs, rfl, n1, p, l, r1⟩ := x.inv_list
      obtain ⟨l2, us, rfl, n2, p', l', r2⟩ := y.inv_list
      by_cases hll : l1 = l2
      · subst hll
        cases eqD_same _ x y q
      · exact EqAt.of_refs hll (RcAt.lists_lengths p.isList p'.isList (size_ne r1.length r2.length hl) hc)
    | @tups m _ _ _ q' =>
      obtain ⟨l1, vs, rfl, n1, p, l, r1⟩ := x.inv_tup
      obtain ⟨l2, us, rfl, n2, p', l', r2⟩ := y.inv_tup
      by_cases hll : l1 = l2
      · subst hll
        cases eqD_same _ x y q
        exact EqAt.same _
      · refine EqAt.of_refs hll (tups_all r1.length r2.length q' ▸ ?_)
        exact RcAt.tuples p.isTup p'.isTup hc (pairs_at (ih m (Nat.lt_succ_self _) (A := A.in1) (by rw [Around.in1_units]; omega)) r1 r2 q')
theorem rcAt_rep (n : Nat) {A : Around} {s : Shared} {a b : Value} {da db : D} {r : Bool} (hu : A.units + n < cLine) (x : Rep prog w s.heap N a da) (y : Rep prog w s.heap N' b db) (q : eqD n da db = some r) : RcAt A s a b r := by
  have hc : A.units < cLine := by omega
  cases eqD_V q with
  | none => obtain rfl := x.inv_none; obtain rfl := y.inv_none; exact RcAt.none_none
  | bool => obtain rfl := x.inv_bool; obtain rfl := y.inv_bool; exact RcAt.bool_bool _ _
  | int => obtain ⟨_, rfl⟩ := x.inv_int; obtain ⟨_, rfl⟩ := y.inv_int; exact RcAt.int_int _ _ _ _
  | str => obtain ⟨_, rfl, _⟩ := x.inv_str; obtain ⟨_, rfl, _⟩ := y.inv_str; exact RcAt.str_str _ _ _ _
  | @lists m _ _ _ hl q' =>
    obtain ⟨l1, vs, rfl, n1, p, l, r1⟩ := x.inv_list
    obtain ⟨l2, us, rfl, n2, p', l', r2⟩ := y.inv_list
    exact lists_all hl r1.length q' ▸ RcAt.lists p.isList p'.isList (size_eq r1.length r2.length hl) hc (pairs_at (eqAt_rep m (A := A.in1) (by rw [Around.in1_units]; omega)) r1 r2 q')
  | lens hl =>
    obtain ⟨l1, vs, rfl, n1, p, l, r1⟩ := x.inv_list
    obtain ⟨l2, us, rfl, n2, p', l', r2⟩ := y.inv_list
    exact RcAt.lists_lengths p.isList p'.isList (size_ne r1.length r2.length hl) hc
  | @tups m _ _ _ q' =>
    obtain ⟨l1, vs, rfl, n1, p, l, r1⟩ := x.inv_tup
    obtain ⟨l2, us, rfl, n2, p', l', r2⟩ := y.inv_tup
    exact tups_all r1.length r2.length q' ▸ RcAt.tuples p.isTup p'.isTup hc (pairs_at (eqAt_rep m (A := A.in1) (by rw [Around.in1_units]; omega)) r1 r2 q')
theorem rcNeAt_rep (n : Nat) {A : Around} {s : Shared} {a b : Value} {da db : D} {r : Bool} (hu : A.units + n < cLine) (x : Rep prog w s.heap N a da) (y : Rep prog w s.heap N' b db) (q : eqD n da db = some r) : RcNeAt A s a b (!r) := by
  have hc : A.units < cLine := by omega
  cases eqD_V q with
  | none => obtain rfl := x.inv_none; obtain rfl := y.inv_none; exact RcNeAt.none_none
  | bool => obtain rfl := x.inv_bool; obtain rfl := y.inv_bool; exact RcNeAt.bool_bool _ _
  | int => obtain ⟨_, rfl⟩ := x.inv_int; obtain ⟨_, rfl⟩ := y.inv_int; exact RcNeAt.int_int _ _ _ _
  | str => obtain ⟨_, rfl, _⟩ := x.inv_str; obtain ⟨_, rfl, _⟩ := y.inv_str; exact RcNeAt.str_str _ _ _ _
  | @lists m _ _ _ hl q' =>
    obtain ⟨l1, vs, rfl, n1, p, l, r1⟩ := x.inv_list
    obtain ⟨l2, us, rfl, n2, p', l', r2⟩ := y.inv_list
    exact lists_all hl r1.length q' ▸ RcNeAt.lists p.isList p'.isList (size_eq r1.length r2.length hl) hc (pairs_at (eqAt_rep m (A := A.in1) (by rw [Around.in1_units]; omega)) r1 r2 q')
  | lens hl =>
    obtain ⟨l1, vs, rfl, n1, p, l, r1⟩ := x.inv_list
    obtain ⟨l2, us, rfl, n2, p', l', r2⟩ := y.inv_list
    exact RcNeAt.lists_lengths p.isList p'.isList (size_ne r1.length r2.length hl) hc
  | @tups m _ _ _ q' =>
    obtain ⟨l1, vs, rfl, n1, p, l, r1⟩ := x.inv_tup
    obtain ⟨l2, us, rfl, n2, p', l', r2⟩ := y.inv_tup
    exact tups_all r1.length r2.length q' ▸ RcNeAt.tuples p.isTup p'.isTup hc (pairs_at (eqAt_rep m (A := A.in1) (by rw [Around.in1_units]; omega)) r1 r2 q')

/-! membership -/
noncomputable def inL (q : D → D → Option Bool) (x : D) : List D → Option Bool
  | [] => some false
  | y :: ys => (q y x).bind fun a => (inL q x ys).bind fun b => some (a || b)
theorem inL_pair {q : D → D → Option Bool} {x : D} : ∀ {ys : List D} {r : Bool}, inL q x ys = some r → ∀ y ∈ ys, ∃ b, q y x = some b
  | y :: ys, r, e, z, hz => by
    simp only [inL, Option.bind_eq_some_iff, Option.some.injEq] at e
    obtain ⟨a, ha, b, hb, _⟩ := e
    rcases List.mem_cons.mp hz with rfl | hz
    · exact ⟨a, ha⟩
    · exact inL_pair hb z hz
open Classical in
/-- the look of a value: which answer its comparison with x gives -/
noncomputable def looked (prog : Program) (w : World) (h : Heap) (N : Addr → Prop) (q : D → D → Option Bool) (x : D) (v : Value) : Bool :=
  if ∃ d, Rep prog w h N v d ∧ q d x = some true then true else false
theorem notListTup {a : Addr} {vs us : Array Value} (p : h.PlainList a vs) (p' : PlainTup h a us) : False := by
  obtain ⟨n, e⟩ := p; obtain ⟨n', e'⟩ := p'; rw [e] at e'; simp at e'
theorem notListDict {a : Addr} {vs : Array Value} {kvs : List (Str × Value)} (p : h.PlainList a vs) (p' : h.DictOf (PySem.strKind prog w) a kvs) : False := by
  obtain ⟨n, e⟩ := p; obtain ⟨o, _, _, e', hc, _⟩ := p'; rw [e] at e'; cases e'; exact absurd hc.1 (by simp)
theorem notListRng {a : Addr} {vs : Array Value} {i j k : Int} {t u v : Tok} (p : h.PlainList a vs) (p' : IsRange h a i j k t u v) : False := by
  obtain ⟨n, e⟩ := p; unfold IsRange at p'; rw [e] at p'; simp at p'
theorem notTupDict {a : Addr} {vs : Array Value} {kvs : List (Str × Value)} (p : PlainTup h a vs) (p' : h.DictOf (PySem.strKind prog w) a kvs) : False := by
  obtain ⟨n, e⟩ := p; obtain ⟨o, _, _, e', hc, _⟩ := p'; rw [e] at e'; cases e'; exact absurd hc.1 (by simp)
theorem notTupRng {a : Addr} {vs : Array Value} {i j k : Int} {t u v : Tok} (p : PlainTup h a vs) (p' : IsRange h a i j k t u v) : False := by
  obtain ⟨n, e⟩ := p; unfold IsRange at p'; rw [e] at p'; simp at p'
theorem notDictRng {a : Addr} {kvs : List (Str × Value)} {i j k : Int} {t u v : Tok} (p : h.DictOf (PySem.strKind prog w) a kvs) (p' : IsRange h a i j k t u v) : False := by
  obtain ⟨o, _, _, e', hc, _⟩ := p; unfold IsRange at p'; rw [p'] at e'; cases e'; exact absurd hc.1 (by simp)
theorem Rep.unique {v : Value} {d e : D} (x : Rep prog w h N v d) (y : Rep prog w h N v e) : d = e :=
  Rep.rec (motive_1 := fun v d _ => ∀ e, Rep prog w h N v e → d = e) (motive_2 := fun v d _ => ∀ e, RepL prog w h N v e → d = e) (motive_3 := fun v d _ => ∀ e, RepE prog w h N v e → d = e)
    (fun e y => by cases y; rfl) (fun b e y => by cases y; rfl) (fun i t e y => by cases y; rfl) (fun x t q e y => by cases y; rfl)
    (fun n p l r ih e y => by
      cases y with
      | list _ p' _ r' => obtain rfl := plainList_inj p p'; rw [ih _ r']
      | tup _ p' _ r' => exact (notListTup p p').elim
      | dict _ _ p' _ r' => exact (notListDict p p').elim
      | rng _ p' => exact (notListRng p p').elim)
    (fun n p l r ih e y => by
      cases y with
      | tup _ p' _ r' => obtain rfl := plainTup_inj p p'; rw [ih _ r']
      | list _ p' _ r' => exact (notListTup p' p).elim
      | dict _ _ p' _ r' => exact (notTupDict p p').elim
      | rng _ p' => exact (notTupRng p p').elim)
    (fun n q p l r ih e y => by
      cases y with
      | tup _ p' _ r' => exact (notTupDict p' p).elim
      | list _ p' _ r' => exact (notListDict p' p).elim
      | rng _ p' => exact (notDictRng p p').elim
      | dict _ _ p' _ r' => obtain rfl := dictOf_inj p p'; rw [ih _ r'])
    (fun n p e y => by
      cases y with
      | tup _ p' _ r' => exact (notTupRng p' p).elim
      | list _ p' _ r' => exact (notListRng p' p).elim
      | rng _ p' => unfold IsRange at p p'; rw [p] at p'; cases p'; rfl
      | dict _ _ p' _ r' => exact (notDictRng p' p).elim)
    (fun e y => by cases y; rfl) (fun x r ihx ihr e y => by cases y with | cons y r' => rw [ihx _ y, ihr _ r'])
    (fun e y => by cases y; rfl) (fun q x r ihx ihr e y => by cases y with | cons _ y r' => rw [ihx _ y, ihr _ r']) x e y
theorem looked_eq {q : D → D → Option Bool} {x d : D} {v : Value} {b : Bool} (r : Rep prog w h N v d) (e : q d x = some b) : looked prog w h N q x v = b := by
  unfold looked
  cases b with
  | true => rw [if_pos ⟨d, r, e⟩]
  | false =>
    rw [if_neg]
    rintro ⟨d', r', e'⟩
    rw [Rep.unique r' r, e] at e'
    cases e'
theorem looked_any {q : D → D → Option Bool} {x : D} {vs : List Value} {ds : List D} {b : Bool} (r : RepL prog w h N vs ds) (e : inL q x ds = some b) : vs.any (looked prog w h N q x) = b := by
  induction vs generalizing ds b with
  | nil => cases r; cases e; rfl
  | cons v vs ih =>
    cases r with
    | cons r rs =>
      obtain ⟨a, ha, e⟩ := Option.bind_eq_some_iff.mp e
      obtain ⟨c, hc, e⟩ := Option.bind_eq_some_iff.mp e
      cases e
      rw [List.any_cons, looked_eq r ha, ih rs hc]
theorem looked_at {n : Nat} {x : D} {A : Around} {s : Shared} {vx : Value} (hu : A.units + n < cLine) (rx : Rep prog w s.heap N' vx x) {vs : List Value} {ds : List D} {b : Bool} (rs : RepL prog w s.heap N vs ds) (e : inL (eqD n) x ds = some b) :
    ∀ y, y ∈ vs.toArray → EqAt A s y vx (looked prog w s.heap N (eqD n) x y) := by
  intro y hy
  obtain ⟨i, hi⟩ := List.mem_iff_getElem?.mp (by simpa using hy)
  obtain ⟨d, hd, r⟩ := rs.getV hi
  obtain ⟨c, hc⟩ := inL_pair e d (List.mem_of_getElem? hd)
  rw [looked_eq r hc]
  exact eqAt_rep n hu r rx hc
end
end Mine

set_option autoImplicit false
open PySem PyProof.Rows
namespace Mine

section
variable {prog : Program} {w : World} {h h' : Heap} {N N' : Addr → Prop}
theorem plain_some {a : Addr} {vs : Array Value} (p : h.PlainList a vs) : ∃ o, h.get? a = some o := let ⟨_, e⟩ := p; ⟨_, e⟩
theorem tup_some {a : Addr} {vs : Array Value} (p : PlainTup h a vs) : ∃ o, h.get? a = some o := let ⟨_, e⟩ := p; ⟨_, e⟩
theorem dict_some {a : Addr} {kvs : List (Str × Value)} (p : h.DictOf (PySem.strKind prog w) a kvs) : ∃ o, h.get? a = some o := let ⟨o, _, _, e, _⟩ := p; ⟨o, e⟩
/-- the nodes of data lie in the heap -/
theorem Rep.ex {v : Value} {d : D} (x : Rep prog w h N v d) : Rep prog w h (fun a => N a ∧ ∃ o, h.get? a = some o) v d :=
  Rep.rec (motive_1 := fun v d _ => Rep prog w h (fun a => N a ∧ ∃ o, h.get? a = some o) v d) (motive_2 := fun v d _ => RepL prog w h (fun a => N a ∧ ∃ o, h.get? a = some o) v d) (motive_3 := fun v d _ => RepE prog w h (fun a => N a ∧ ∃ o, h.get? a = some o) v d)
    .none (fun b => .bool b) (fun i t => .int i t) (fun x t e => .str x t e) (fun n p l _ r => .list ⟨n, plain_some p⟩ p l r) (fun n p l _ r => .tup ⟨n, tup_some p⟩ p l r) (fun n e p l _ r => .dict ⟨n, dict_some p⟩ e p l r) (fun n p => .rng ⟨n, _, p⟩ p)
    .nil (fun _ _ x r => .cons x r) .nil (fun e _ _ x r => .cons e x r) x
theorem RepL.ex {v : List Value} {d : List D} (x : RepL prog w h N v d) : RepL prog w h (fun a => N a ∧ ∃ o, h.get? a = some o) v d := by
  induction v generalizing d with
  | nil => cases x; exact .nil
  | cons v vs ih => cases x with | cons a r => exact .cons a.ex (ih r)
theorem RepE.ex {v : List (Str × Value)} {d : List (Str × D)} (x : RepE prog w h N v d) : RepE prog w h (fun a => N a ∧ ∃ o, h.get? a = some o) v d := by
  induction v generalizing d with
  | nil => cases x; exact .nil
  | cons v vs ih => cases x with | cons e a r => exact .cons e a.ex (ih r)
theorem OwnL.of0 {vs : List Value} {ds : List D} (x : RepL prog w h N vs ds) : OwnL prog w h N 0 vs ds [] := by
  induction vs generalizing ds with
  | nil => cases x; exact .nil
  | cons v vs ih => cases x with | cons a r => exact OwnL.cons (O := []) (.fz0 a) (ih r)
theorem OwnE.of0 {vs : List (Str × Value)} {ds : List (Str × D)} (x : RepE prog w h N vs ds) : OwnE prog w h N 0 vs ds [] := by
  induction vs generalizing ds with
  | nil => cases x; exact .nil
  | cons v vs ih => cases x with | cons e a r => exact OwnE.cons (O := []) e (.fz0 a) (ih r)
/-- data carried to a later heap, away from a fresh address -/
theorem RepL.away {vs : List Value} {ds : List D} {a : Addr} (r : RepL prog w h N vs ds) (hfr : h.get? a = none) (k : ∀ b o, N b → h.get? b = some o → h'.get? b = some o) : RepL prog w h' (fun x => N x ∧ x ∉ [a]) vs ds :=
  r.ex.trans (fun x n => ⟨n.1, fun hm => by obtain ⟨o, e⟩ := n.2; rw [List.mem_singleton.mp hm, hfr] at e; cases e⟩) fun b o n e => k b o n.1 e
theorem RepE.away {vs : List (Str × Value)} {ds : List (Str × D)} {a : Addr} (r : RepE prog w h N vs ds) (hfr : h.get? a = none) (k : ∀ b o, N b → h.get? b = some o → h'.get? b = some o) : RepE prog w h' (fun x => N x ∧ x ∉ [a]) vs ds :=
  r.ex.trans (fun x n => ⟨n.1, fun hm => by obtain ⟨o, e⟩ := n.2; rw [List.mem_singleton.mp hm, hfr] at e; cases e⟩) fun b o n e => k b o n.1 e
end

section
variable {C : Cfg} {F : Fx} {hs h h' : Heap} {a : Addr} {vs : List Value} {ds : List D}
theorem own1_list (hfs : hs.get? a = none) (hfr : h.get? a = none) (p : h'.PlainList a vs.toArray) (l : vs.length ≤ sizeLine) (k : ∀ b o, ¬ F.vol b → h.get? b = some o → h'.get? b = some o) (r : RepLC C h (fun a => ¬ F.vol a) vs ds) :
    MkRep C F hs h' (.own 1) (.ref a) (.list ds) :=
  ⟨[a], .list p l (OwnL.of0 (r.away hfr k)), List.nodup_cons.mpr ⟨List.not_mem_nil, List.nodup_nil⟩, fun b hb => List.mem_singleton.mp hb ▸ hfs⟩
theorem MkRep.imm {N : Addr → Prop} {m : Mk} {v : Value} {d : D} {h₀ : Heap} (hi : d.imm = true) (x : RepC C h₀ N v d) : MkRep C F hs h m v d := by
  have hn : ∀ b, v ≠ .ref b := by intro b e; subst e; cases x <;> cases hi
  cases m with
  | fr => exact Rep.ofImm hi x
  | own k =>
    refine ⟨[], ?_, List.nodup_nil, fun _ ha => nomatch ha⟩
    cases k with
    | zero => exact .fz0 (Rep.ofImm hi x)
    | succ k => exact .fz (by cases d <;> first | rfl | cases hi) (Rep.ofImm hi x)
  | bor => exact ⟨[], .fz (by cases d <;> first | rfl | cases hi) (Rep.ofImm hi x), fun _ ha => nomatch ha⟩
  | unk => exact Rep.ofImm hi x
  | fu => exact ⟨Rep.ofImm hi x, fun b e => absurd e (hn b)⟩
end

/-! judgements -/
structure Sc where
  names : List (Str × NameKind)
  slots : List (Str × Nat)
structure EnvOK (Γ : Sc) (F : Fx) (env : Env) : Prop where
  kind : env.scope.kind = .function
  names : env.scope.names = Γ.names
  gl : env.globals = mainGlobals
  bl : env.builtins = builtinsNs
  slot : ∀ x i, Γ.slots.lookup x = some i → (F.locs[i]? = some (.ns env.locals x) ∧ Γ.names.lookup x = some .local) ∨ (∃ c, F.locs[i]? = some (.cell c) ∧ Γ.names.lookup x = some .cell ∧ env.cells.lookup x = some c)
structure Cx (C : Cfg) (Γ : Sc) (l : Nat) (A : Around) (F : Fx) (env : Env) (ρ : EEnv) (s : Shared) : Prop where
  room : Room A l
  env : EnvOK Γ F env
  rel : RelE C F s.heap ρ
  glob : GlobOK C s.heap
theorem Cx.ext {C : Cfg} {Γ : Sc} {l : Nat} {A : Around} {F : Fx} {env : Env} {ρ : EEnv} {s s' : Shared} (x : Cx C Γ l A F env ρ s) (e : Ext C s s') : Cx C Γ l A F env ρ s' := ⟨x.room, x.env, x.rel.ext e, x.glob.ext e⟩

abbrev Wp (C : Cfg) (A : Around) {α : Type} (t : Sem α) (Q : α → Shared → Prop) (s : Shared) : Prop := wpAny (model C.prog C.w) A t Q (fun _ _ => False) s

structure EvOK (C : Cfg) (Γ : Sc) (l : Nat) (e : Expr) (f : EEnv → Option D) (m : EEnv → Mk) : Prop where
  ev : ∀ (A : Around) (F : Fx) (env : Env) (ρ : EEnv) (s : Shared) (d : D), Cx C Γ l A F env ρ s → f ρ = some d → Wp C A (eval e env) (fun v s' => Ext C s s' ∧ MkRep C F s.heap s'.heap (m ρ) v d) s
noncomputable def BOK (C : Cfg) (Γ : Sc) (l : Nat) (e : Expr) (b : EEnv → Option Bool) : Prop :=
  ∀ (A : Around) (F : Fx) (env : Env) (ρ : EEnv) (s : Shared) (r : Bool), Cx C Γ l A F env ρ s → b ρ = some r → Wp C A (isTrue e env (eval e env)) (fun r' s' => Ext C s s' ∧ r' = r) s

section
variable {C : Cfg} {Γ : Sc} {l : Nat} {A : Around} {F : Fx} {env : Env} {ρ : EEnv} {s : Shared} {d : D} {e : Expr} {f : EEnv → Option D} {m : EEnv → Mk}
theorem EvOK.run (x : EvOK C Γ l e f m) (c : Cx C Γ l A F env ρ s) (fd : f ρ = some d) {Q : Value → Shared → Prop}
    (k : ∀ v s', Ext C s s' → Cx C Γ l A F env ρ s' → MkRep C F s.heap s'.heap (m ρ) v d → Q v s') : Wp C A (eval e env) Q s :=
  wpAny_mono (x.ev A F env ρ s d c fd) (fun v s' h => k v s' h.1 (c.ext h.1) h.2) fun _ _ e => e
theorem BOK.run {b : EEnv → Option Bool} {r : Bool} (x : BOK C Γ l e b) (c : Cx C Γ l A F env ρ s) (fd : b ρ = some r) {Q : Bool → Shared → Prop}
    (k : ∀ s', Ext C s s' → Cx C Γ l A F env ρ s' → Q r s') : Wp C A (isTrue e env (eval e env)) Q s :=
  wpAny_mono (x A F env ρ s r c fd) (fun v s' h => h.2 ▸ k s' h.1 (c.ext h.1)) fun _ _ e => e
theorem Cx.weak (c : Cx C Γ l A F env ρ s) {s' : Shared} {mk : Mk} {v : Value} (_ : Ext C s s') (x : MkRep C F s.heap s'.heap mk v d) : RepC C s'.heap (fun a => ¬ F.volc a) v d := x.weak c.rel.hv c.rel.vc c.rel.newc
theorem Cx.notT (c : Cx C Γ l A F env ρ s) : ∀ a, ¬ F.volc a → ¬ C.T a := fun a n t => n (c.rel.vT a t)
theorem Cx.notT0 (c : Cx C Γ l A F env ρ s) : ∀ a, ¬ F.vol a → ¬ C.T a := fun a n t => n (c.rel.vc a (c.rel.vT a t))

/-! names -/
noncomputable def nameF (i : Nat) : EEnv → Option D := fun ρ => match ρ[i]? with | some (some (d, _)) => some d | _ => none
noncomputable def nameM (i : Nat) : EEnv → Mk := fun ρ => match ρ[i]? with | some (some (_, m)) => m.sl | _ => .unk
theorem name_ok {x : Str} {p : Pos} {i : Nat} (hi : Γ.slots.lookup x = some i) (hd : (x == ("__debug__" : Str)) = false) : EvOK C Γ l (.Name x p) (nameF i) (nameM i) := by
  refine ⟨fun A F env ρ s d c fd => ?_⟩
  unfold nameF at fd
  split at fd
  · rename_i d' m' hr
    cases fd
    obtain ⟨lc, v, h1, h2, h3⟩ := c.rel.slot i _ _ hr
    have hm : nameM i ρ = m'.sl := by unfold nameM; rw [hr]
    rw [hm]
    refine wpAny_Name ?_ hd
    rcases c.env.slot x i hi with ⟨q, nk⟩ | ⟨cc, q, nk, ck⟩
    · rw [q] at h1; cases h1
      obtain ⟨mm, hn, hv⟩ := h2
      exact wpAny_loadName_local c.env.kind (by unfold Env.kindOf; rw [c.env.names]; exact nk) hn hv ⟨Ext.refl C s, h3⟩
    · rw [q] at h1; cases h1
      exact wpAny_loadName_cell c.env.kind (by unfold Env.kindOf; rw [c.env.names]; exact nk) ck h2 ⟨Ext.refl C s, h3⟩
  · cases fd

/-- a constant of the module's top -/
noncomputable def GC (C : Cfg) (x : Str) (d : D) : Prop := ∃ v, C.mg x = some v ∧ ∀ h : Heap, (∀ a o, C.K.lookup a = some o → h.get? a = some o) → RepC C h (fun a => ∃ o, C.K.lookup a = some o) v d
theorem gconst_ok {x : Str} {p : Pos} (hg : GC C x d) (hk : Γ.names.lookup x = some .globalImplicit) (hd : (x == ("__debug__" : Str)) = false) : EvOK C Γ l (.Name x p) (fun _ => some d) (fun _ => .fr) := by
  refine ⟨fun A F env ρ s d' c fd => ?_⟩
  cases fd
  obtain ⟨v, hv, hr⟩ := hg
  refine Calls.Name_function_global c.env.kind (by unfold Env.kindOf; rw [c.env.names]; exact hk) (Calls.loadGlobal_global (by rw [c.env.gl]; exact c.glob.g) hv ⟨Ext.refl C s, ?_⟩) hd
  exact (hr _ c.glob.inK).trans (fun a ⟨o, n⟩ => c.rel.vK a o n) fun _ _ _ e => e
/-- a built-in of that name -/
theorem builtin_name {x : Str} {p : Pos} {v : Value} {Q : Value → Shared → Prop} (c : Cx C Γ l A F env ρ s) (hk : Γ.names.lookup x = some .globalImplicit) (hm : C.mg x = none) (hb : bootBuiltins x = some v) (hn : x ≠ "__name__")
    (hd : (x == ("__debug__" : Str)) = false) (h : Q v s) : Wp C A (eval (.Name x p) env) Q s :=
  Calls.Name_function_global c.env.kind (by unfold Env.kindOf; rw [c.env.names]; exact hk) (Calls.loadGlobal_builtin (by rw [c.env.gl]; exact c.glob.g) hm (by rw [c.env.bl]; exact c.glob.b) ((c.glob.bi x hn).trans hb) h) hd
theorem global_name {x : Str} {p : Pos} {v : Value} {Q : Value → Shared → Prop} (c : Cx C Γ l A F env ρ s) (hk : Γ.names.lookup x = some .globalImplicit) (hm : C.mg x = some v)
    (hd : (x == ("__debug__" : Str)) = false) (h : Q v s) : Wp C A (eval (.Name x p) env) Q s :=
  Calls.Name_function_global c.env.kind (by unfold Env.kindOf; rw [c.env.names]; exact hk) (Calls.loadGlobal_global (by rw [c.env.gl]; exact c.glob.g) hm h) hd

/-! literals -/
theorem tok_ext {s : Shared} {n : Nat} : Ext C s { s with toks := n } := Ext.of (h' := s.heap) fun _ _ e => e
theorem int_ok (i : Int) {k : Nat} {p : Pos} : EvOK C Γ l (.Constant (.int i) k p) (fun _ => some (.int i)) (fun _ => .fr) := by
  refine ⟨fun A F env ρ s d c fd => ?_⟩
  cases fd; exact wpAny_Constant_int ⟨tok_ext, .int _ _⟩
theorem str_ok (x : Str) {k : Nat} {p : Pos} (hx : PyData.strOk x = true) : EvOK C Γ l (.Constant (.str x) k p) (fun _ => some (.str x)) (fun _ => .fr) := by
  refine ⟨fun A F env ρ s d c fd => ?_⟩
  cases fd; exact wpAny_Constant_str ⟨tok_ext, .str _ _ hx⟩
theorem bool_ok (b : Bool) {k : Nat} {p : Pos} : EvOK C Γ l (.Constant (.bool b) k p) (fun _ => some (.bool b)) (fun _ => .fr) := by
  refine ⟨fun A F env ρ s d c fd => ?_⟩
  cases fd; exact wpAny_Constant_bool ⟨Ext.refl C s, .bool _⟩
theorem none_ok {k : Nat} {p : Pos} : EvOK C Γ l (.Constant .none k p) (fun _ => some .none) (fun _ => .fr) := by
  refine ⟨fun A F env ρ s d c fd => ?_⟩
  cases fd; exact wpAny_Constant_none ⟨Ext.refl C s, .none⟩
end
end Mine

set_option autoImplicit false
open PySem PyProof.Rows
namespace Mine
set_option linter.unusedVariables false

theorem fresh_size (h : Heap) : h.get? h.objs.size = none := by
  cases e : h.get? h.objs.size with
  | none => rfl
  | some o => exact absurd (Heap.lt_size e) (Nat.lt_irrefl _)
theorem push_keeps {h : Heap} {o : Obj} : ∀ b x, h.get? b = some x → (h.push o).get? b = some x := fun b x e => Heap.get?_push_of_some _ e
theorem push_ext {C : Cfg} {s : Shared} {o : Obj} {n : Nat} : Ext C s { s with heap := s.heap.push o, toks := n } := Ext.of push_keeps
theorem push_ext' {C : Cfg} {s : Shared} {o : Obj} : Ext C s { s with heap := s.heap.push o } := Ext.of (tk := s.toks) push_keeps
theorem push_plain (h : Heap) (vs : List Value) : (h.push { cls := .type "list", data := .seq vs.toArray }).PlainList h.objs.size vs.toArray := ⟨0, Heap.get?_push_size _ rfl⟩
theorem push_tup (h : Heap) (vs : List Value) : PlainTup (h.push { cls := .type "tuple", data := .seq vs.toArray }) h.objs.size vs.toArray := ⟨0, Heap.get?_push_size _ rfl⟩

section
variable {prog : Program} {w : World} {A : Around} {E : Value → Shared → Prop} {s : Shared}
theorem add_raw {l b : Addr} {vs ws : List Value} {Q : Value → Shared → Prop} (hl : s.heap.PlainList l vs.toArray) (hb : s.heap.PlainList b ws.toArray)
    (h : Q (.ref s.heap.objs.size) { s with heap := s.heap.push { cls := .type "list", data := .seq (vs ++ ws).toArray } })
    (hsz : vs.length + ws.length ≤ sizeLine) : wpAny (model prog w) A (binaryOp .Add (.ref l) (.ref b)) Q E s := by
  obtain ⟨n, ho⟩ := hl
  obtain ⟨n2, ho2⟩ := hb
  have e : vs.toArray ++ ws.toArray = (vs ++ ws).toArray := by simp
  refine concat_meets ⟨_, ho, rfl⟩ ⟨_, ho2, rfl⟩ noFill_list_add seq_list_add PySem.F.slot_list_add PySem.F.entry_list_add (PySem.F.args_list_add_2 _ _) (list_addW l b vs.toArray ws.toArray n n2 none none #[] #[] (by simpa using hsz)) ⟨ho, ho2, ?_⟩
  rw [e]
  exact h
theorem mul_raw {l : Addr} {vs : List Value} {x : Int} {u : Tok} {Q : Value → Shared → Prop} (hl : s.heap.PlainList l vs.toArray) (h0 : 0 ≤ x) (hhi : x < 2 ^ 20) (hsz : vs.length * x.toNat ≤ 2 ^ 24)
    (h : Q (.ref s.heap.objs.size) { s with heap := s.heap.push { cls := .type "list", data := .seq (List.replicate x.toNat vs).flatten.toArray } }) : wpAny (model prog w) A (binaryOp .Mult (.ref l) (.int x u)) Q E s := by
  obtain ⟨n, ho⟩ := hl
  have e : ∀ (k : Nat) (b : List Value), List.foldl (fun x1 x2 => x1 ++ x2) b.toArray (List.replicate k vs.toArray) = (b ++ (List.replicate k vs).flatten).toArray := by
    intro k
    induction k with
    | zero => intro b; simp
    | succ k ih =>
      intro b
      rw [List.replicate_succ, List.foldl_cons, List.replicate_succ, List.flatten_cons, ← List.append_assoc]
      have : b.toArray ++ vs.toArray = (b ++ vs).toArray := by simp
      rw [this, ih]
  have e2 : List.foldl (fun x1 x2 => x1 ++ x2) #[] (List.replicate (if vs.toArray.isEmpty = true then 0 else x.toNat) vs.toArray) = (List.replicate x.toNat vs).flatten.toArray := by
    have := e (if vs.toArray.isEmpty = true then 0 else x.toNat) []
    rw [show (#[] : Array Value) = ([] : List Value).toArray from rfl, this]
    cases vs with
    | nil => simp
    | cons v vs => simp
  have h1 : vs.toArray.size * x.toNat = vs.length * x.toNat := by rw [List.size_toArray]
  have g1 : ¬ vs.toArray.size * x.toNat > (2 ^ 63 - 1) / 8 := by rw [h1]; omega
  have g2 : Builtin.List.listTooLong (vs.toArray.size * x.toNat) = false := by rw [h1]; simp [Builtin.List.listTooLong, sizeLine]; omega
  have g3 : Builtin.List.listFitsIndex x = true := by simp [Builtin.List.listFitsIndex]; omega
  refine wpAny_binaryOp_repeat_ref (T := "list") (U := "int") (by decide) ⟨_, ho, rfl⟩ (fun s' => typeIs_int s' x u) noFill_list_mul PySem.F.fills_int_mul PySem.F.slot_int_rmul repeat_list PySem.F.slot_int_index.lookup
    (call_meets PySem.F.slot_int_rmul (typeIs_int s x u) PySem.F.entry_int_rmul (PySem.F.args_int_rmul_2 _ _) (int___rmul___int_list x u l vs.toArray n)
      ⟨ho, rfl, ⟨_, ho, rfl⟩, call_meets PySem.F.slot_list_mul ⟨_, ho, rfl⟩ PySem.F.entry_list_mul (PySem.F.args_list_mul_2 _ _)
        (AutoListH.list___mul___list_int_3 l vs.toArray n x u (by simpa using g3) g1 (by simpa using g2)) ⟨ho, ?_⟩⟩)
  rw [e2]
  exact h
end

noncomputable def lim : Nat := 100000
theorem lim_le : lim ≤ sizeLine := by unfold lim sizeLine; decide

theorem OwnL.zero {prog : Program} {w : World} {h : Heap} {N : Addr → Prop} {vs : List Value} {ds : List D} {O : List Addr} (x : OwnL prog w h N 0 vs ds O) : RepL prog w h N vs ds := by
  induction vs generalizing ds O with
  | nil => cases x; exact .nil
  | cons v vs ih => cases x with | cons a r => cases a with | fz0 y => exact .cons y (ih r)
theorem OwnE.zero {prog : Program} {w : World} {h : Heap} {N : Addr → Prop} {vs : List (Str × Value)} {ds : List (Str × D)} {O : List Addr} (x : OwnE prog w h N 0 vs ds O) : RepE prog w h N vs ds := by
  induction vs generalizing ds O with
  | nil => cases x; exact .nil
  | cons v vs ih => cases x with | cons e a r => cases a with | fz0 y => exact .cons e y (ih r)

/-! operators -/
noncomputable def addD (a b : D) : Option D := dcase a none (fun _ => none) (fun x => (toI b).bind fun y => some (.int (x + y))) (fun x => (toS b).bind fun y => if (x ++ y).length ≤ lim then some (.str (x ++ y)) else none)
  (fun x => (toL b).bind fun y => if x.length + y.length ≤ lim then some (.list (x ++ y)) else none) (fun _ => none) (fun _ => none) fun _ _ _ => none
noncomputable def subD (a b : D) : Option D := (toI a).bind fun x => (toI b).bind fun y => some (.int (x - y))
noncomputable def modD (a b : D) : Option D := (toI a).bind fun x => (toI b).bind fun y => if y ≠ 0 then some (.int (x.fmod y)) else none
noncomputable def mulD (a b : D) : Option D := (toI b).bind fun y => dcase a none (fun _ => none) (fun x => if x.natAbs ≤ lim ∧ y.natAbs ≤ lim then some (.int (x * y)) else none) (fun _ => none)
  (fun x => if 0 ≤ y ∧ y ≤ 1000 ∧ x.length ≤ 1000 then some (.list (List.replicate y.toNat x).flatten) else none) (fun _ => none) (fun _ => none) fun _ _ _ => none

noncomputable def bin (g : D → D → Option D) (f₁ f₂ : EEnv → Option D) : EEnv → Option D := fun ρ => (f₁ ρ).bind fun a => (f₂ ρ).bind fun b => g a b
/-- a fresh container made out of the operands' items -/
noncomputable def Mk.cat (m : Mk) : Bool := match m with | .fr | .own _ | .bor => true | _ => false
noncomputable def catM (m₁ m₂ : EEnv → Mk) : EEnv → Mk := fun ρ => if (m₁ ρ).cat && (m₂ ρ).cat then .own 1 else .fu
noncomputable def copyM (m₁ : EEnv → Mk) : EEnv → Mk := fun ρ => if (m₁ ρ).cat then .own 1 else .fu

set_option genInjectivity false in
inductive ItemsX (C : Cfg) (h : Heap) (N : Addr → Prop) (v : Value) (ds : List D) : Prop
  | mk (a : Addr) (vs : List Value) : v = .ref a → h.PlainList a vs.toArray → vs.length ≤ sizeLine → RepLC C h N vs ds → ItemsX C h N v ds
section
variable {C : Cfg} {Γ : Sc} {l : Nat} {A : Around} {F : Fx} {env : Env} {ρ : EEnv} {s : Shared} {d : D} {e e₁ e₂ : Expr} {f f₁ f₂ : EEnv → Option D} {m m₁ m₂ : EEnv → Mk}

/-- the items of a list whose root may be a slot's own -/
theorem MkRep.items {hs h : Heap} {mk : Mk} {v : Value} {ds : List D} (hv : ∀ a, F.vol a → ∃ o, hs.get? a = some o) (hc : mk.cat = true) (x : MkRep C F hs h mk v (.list ds)) :
    ItemsX C h (fun a => ¬ F.vol a) v ds := by
  cases mk with
  | fr => obtain ⟨_, _, rfl, n, p, l, r⟩ := Rep.inv_list x; exact ⟨_, _, rfl, p, l, r⟩
  | own k =>
    obtain ⟨O, t, _, f⟩ := x
    cases t with
    | fz0 r => obtain ⟨_, _, rfl, n, p, l, r₀⟩ := r.inv_list; exact ⟨_, _, rfl, p, l, r₀.trans (fun _ n => n.1) fun _ _ _ e => e⟩
    | fz c r => cases c
    | list p l r => exact ⟨_, _, rfl, p, l, r.rep (fun _ n => n.1) fun a ha => fresh_not_vol hv (f a (.tail _ ha))⟩
  | bor =>
    obtain ⟨O, t, f⟩ := x
    cases t with
    | fz c r => cases c
    | list p l r =>
      exact ⟨_, _, rfl, p, l, OwnL.zero r⟩
  | unk => cases hc
  | fu => cases hc
theorem Cx.fresh_vol (c : Cx C Γ l A F env ρ s) {a : Addr} (e : s.heap.get? a = none) : ¬ F.vol a := fresh_not_vol c.rel.hv e
theorem Cx.vol_later (c : Cx C Γ l A F env ρ s) {s' : Shared} (e : Ext C s s') : ∀ a, F.vol a → ∃ o, s'.heap.get? a = some o := fun a q => let ⟨o, x⟩ := c.rel.hv a q; e.dom a o x

theorem subD_inv {a b d : D} (h : subD a b = some d) : ∃ x y, a = .int x ∧ b = .int y ∧ d = .int (x - y) := by
  obtain ⟨x, hx, h⟩ := Option.bind_eq_some_iff.mp h
  obtain ⟨y, hy, h⟩ := Option.bind_eq_some_iff.mp h
  exact ⟨x, y, toI_inv hx, toI_inv hy, (Option.some.inj h).symm⟩
theorem modD_inv {a b d : D} (h : modD a b = some d) : ∃ x y : Int, a = .int x ∧ b = .int y ∧ y ≠ 0 ∧ d = .int (x.fmod y) := by
  obtain ⟨x, hx, h⟩ := Option.bind_eq_some_iff.mp h
  obtain ⟨y, hy, h⟩ := Option.bind_eq_some_iff.mp h
  obtain ⟨q, h⟩ := ite_inv h
  exact ⟨x, y, toI_inv hx, toI_inv hy, q, h.symm⟩
set_option genInjectivity false in
inductive AddX : D → D → D → Prop
  | ofI (x y : Int) : AddX (.int x) (.int y) (.int (x + y))
  | ofS (x y : Str) : (x ++ y).length ≤ lim → AddX (.str x) (.str y) (.str (x ++ y))
  | ofL (x y : List D) : x.length + y.length ≤ lim → AddX (.list x) (.list y) (.list (x ++ y))
theorem addD_inv {a b d : D} (h : addD a b = some d) : AddX a b d := by
  cases a with
  | int x => obtain ⟨y, hy, h⟩ := Option.bind_eq_some_iff.mp h; cases h; rw [toI_inv hy]; exact .ofI _ _
  | str x => obtain ⟨y, hy, h⟩ := Option.bind_eq_some_iff.mp h; obtain ⟨q, rfl⟩ := ite_inv h; rw [toS_inv hy]; exact .ofS _ _ q
  | list x => obtain ⟨y, hy, h⟩ := Option.bind_eq_some_iff.mp h; obtain ⟨q, rfl⟩ := ite_inv h; rw [toL_inv hy]; exact .ofL _ _ q
  | _ => cases h
theorem mulD_inv {a b d : D} (h : mulD a b = some d) : (∃ x y : Int, a = .int x ∧ b = .int y ∧ (x.natAbs ≤ lim ∧ y.natAbs ≤ lim) ∧ d = .int (x * y)) ∨ (∃ (x : List D) (y : Int), a = .list x ∧ b = .int y ∧ (0 ≤ y ∧ y ≤ 1000 ∧ x.length ≤ 1000) ∧ d = .list (List.replicate y.toNat x).flatten) := by
  obtain ⟨y, hy, h⟩ := Option.bind_eq_some_iff.mp h
  cases a with
  | int x => obtain ⟨q, h⟩ := ite_inv h; exact .inl ⟨x, y, rfl, toI_inv hy, q, h.symm⟩
  | list x => obtain ⟨q, h⟩ := ite_inv h; exact .inr ⟨x, y, rfl, toI_inv hy, q, h.symm⟩
  | _ => cases h
theorem sub_ok {p : Pos} (x₁ : EvOK C Γ l e₁ f₁ m₁) (x₂ : EvOK C Γ l e₂ f₂ m₂) : EvOK C Γ l (.BinOp e₁ .Sub e₂ p) (bin subD f₁ f₂) (fun _ => .fr) := by
  refine ⟨fun A F env ρ s d c fd => ?_⟩
  obtain ⟨d₁, h₁, fd⟩ := Option.bind_eq_some_iff.mp fd
  obtain ⟨d₂, h₂, fd⟩ := Option.bind_eq_some_iff.mp fd
  refine wpAny_BinOp (x₁.run c h₁ fun v₁ s₁ e₁ c₁ r₁ => x₂.run c₁ h₂ fun v₂ s₂ e₂ c₂ r₂ => ?_)
  have w₁ := c.weak e₁ r₁
  have w₂ := c₁.weak e₂ r₂
  obtain ⟨_, _, rfl, rfl, rfl⟩ := subD_inv fd
  obtain ⟨_, rfl⟩ := w₁.inv_int
  obtain ⟨_, rfl⟩ := w₂.inv_int
  exact sub_int ⟨(e₁.trans e₂).trans tok_ext, .int _ _⟩
theorem mod_ok {p : Pos} (x₁ : EvOK C Γ l e₁ f₁ m₁) (x₂ : EvOK C Γ l e₂ f₂ m₂) : EvOK C Γ l (.BinOp e₁ .Mod e₂ p) (bin modD f₁ f₂) (fun _ => .fr) := by
  refine ⟨fun A F env ρ s d c fd => ?_⟩
  obtain ⟨d₁, h₁, fd⟩ := Option.bind_eq_some_iff.mp fd
  obtain ⟨d₂, h₂, fd⟩ := Option.bind_eq_some_iff.mp fd
  refine wpAny_BinOp (x₁.run c h₁ fun v₁ s₁ e₁ c₁ r₁ => x₂.run c₁ h₂ fun v₂ s₂ e₂ c₂ r₂ => ?_)
  have w₁ := c.weak e₁ r₁
  have w₂ := c₁.weak e₂ r₂
  obtain ⟨_, _, rfl, rfl, q, rfl⟩ := modD_inv fd
  obtain ⟨_, rfl⟩ := w₁.inv_int
  obtain ⟨_, rfl⟩ := w₂.inv_int
  exact mod_int' q ⟨(e₁.trans e₂).trans tok_ext, .int _ _⟩
theorem add_ok {p : Pos} (x₁ : EvOK C Γ l e₁ f₁ m₁) (x₂ : EvOK C Γ l e₂ f₂ m₂) : EvOK C Γ l (.BinOp e₁ .Add e₂ p) (bin addD f₁ f₂) (catM m₁ m₂) := by
  refine ⟨fun A F env ρ s d c fd => ?_⟩
  obtain ⟨d₁, h₁, fd⟩ := Option.bind_eq_some_iff.mp fd
  obtain ⟨d₂, h₂, fd⟩ := Option.bind_eq_some_iff.mp fd
  refine wpAny_BinOp (x₁.run c h₁ fun v₁ s₁ e₁ c₁ r₁ => x₂.run c₁ h₂ fun v₂ s₂ e₂ c₂ r₂ => ?_)
  have w₁ := c.weak e₁ r₁
  have w₂ := c₁.weak e₂ r₂
  cases addD_inv fd with
  | ofI =>
    obtain ⟨_, rfl⟩ := w₁.inv_int
    obtain ⟨_, rfl⟩ := w₂.inv_int
    exact add_int ⟨(e₁.trans e₂).trans tok_ext, MkRep.imm (N := fun _ => True) (h₀ := s.heap) rfl (.int _ _)⟩
  | ofS a b hlen =>
    obtain ⟨t, rfl, k₁⟩ := w₁.inv_str
    obtain ⟨u, rfl, k₂⟩ := w₂.inv_str
    have hok : PyData.strOk (a ++ b) = true := by
      unfold PyData.strOk at *
      show (a.cps ++ b.cps).all _ = true
      rw [Array.all_append, k₁, k₂]; rfl
    have hl : a.length + b.length ≤ lim := by rw [← Str.length_append]; exact hlen
    exact add_str (fun t' tk => ⟨(e₁.trans e₂).trans tok_ext, MkRep.imm (N := fun _ => True) (h₀ := s.heap) rfl (.str _ _ hok)⟩) (Nat.le_trans hl lim_le)
  | ofL a b hlen =>
    obtain ⟨a₁, vs, rfl, n₁, p₁, l₁, rr₁⟩ := w₁.inv_list
    obtain ⟨a₂, us, rfl, n₂, p₂, l₂, rr₂⟩ := w₂.inv_list
    have k₁ : s₂.heap.PlainList a₁ vs.toArray := p₁.at fun o => e₂.keep _ o (c.notT _ n₁)
    have hl2 : vs.length + us.length ≤ lim := by rw [rr₁.length, rr₂.length]; exact hlen
    refine add_raw k₁ p₂ ⟨(e₁.trans e₂).trans push_ext', ?_⟩ (Nat.le_trans hl2 lim_le)
    have hsz : (vs ++ us).length ≤ sizeLine := by rw [List.length_append]; exact Nat.le_trans hl2 lim_le
    have hfs : s.heap.get? s₂.heap.objs.size = none := (e₁.trans e₂).none (fresh_size _)
    show MkRep C F s.heap _ (if (m₁ ρ).cat && (m₂ ρ).cat then .own 1 else .fu) _ _
    split
    · rename_i hcat
      obtain ⟨hc1, hc2⟩ := Bool.and_eq_true_iff.mp hcat
      obtain ⟨a₁', vs', ea, pa, _, ra⟩ := r₁.items c.rel.hv hc1
      cases ea
      obtain rfl := plainList_inj p₁ pa
      obtain ⟨a₂', us', eb, pb, _, rb⟩ := r₂.items c₁.rel.hv hc2
      cases eb
      obtain rfl := plainList_inj p₂ pb
      exact own1_list hfs (fresh_size _) (push_plain _ _) hsz (fun b o _ e => push_keeps b o e) ((ra.trans (fun _ n => n) fun b o n e => e₂.keep b o (c.notT0 b n) e).append rb)
    · refine ⟨.list (fun q => c₂.fresh_vol (fresh_size _) (c.rel.vc _ q)) (push_plain _ _) hsz ?_, fun a e => by cases e; exact hfs⟩
      exact (((rr₁.trans (fun _ n => n) fun b o n e => e₂.keep b o (c.notT b n) e).append rr₂)).trans (fun _ n => n) fun b o n e => push_keeps b o e
theorem mul_ok {p : Pos} (x₁ : EvOK C Γ l e₁ f₁ m₁) (x₂ : EvOK C Γ l e₂ f₂ m₂) : EvOK C Γ l (.BinOp e₁ .Mult e₂ p) (bin mulD f₁ f₂) (copyM m₁) := by
  refine ⟨fun A F env ρ s d c fd => ?_⟩
  obtain ⟨d₁, h₁, fd⟩ := Option.bind_eq_some_iff.mp fd
  obtain ⟨d₂, h₂, fd⟩ := Option.bind_eq_some_iff.mp fd
  refine wpAny_BinOp (x₁.run c h₁ fun v₁ s₁ e₁ c₁ r₁ => x₂.run c₁ h₂ fun v₂ s₂ e₂ c₂ r₂ => ?_)
  have w₁ := c.weak e₁ r₁
  have w₂ := c₁.weak e₂ r₂
  rcases mulD_inv fd with ⟨_, _, rfl, rfl, hb, rfl⟩ | ⟨a, x, rfl, rfl, hx, rfl⟩
  · obtain ⟨_, rfl⟩ := w₁.inv_int
    obtain ⟨_, rfl⟩ := w₂.inv_int
    exact mul_int ⟨(e₁.trans e₂).trans tok_ext, MkRep.imm (N := fun _ => True) (h₀ := s.heap) rfl (.int _ _)⟩ (IntMulOk.of_left (intBits_le_64 (by unfold lim at hb; omega) (by unfold lim at hb; omega)))
  · obtain ⟨u, rfl⟩ := w₂.inv_int
    obtain ⟨a₁, vs, rfl, n₁, p₁, l₁, rr₁⟩ := w₁.inv_list
    · skip
      have k₁ : s₂.heap.PlainList a₁ vs.toArray := p₁.at fun o => e₂.keep _ o (c.notT _ n₁)
      have hvl : vs.length ≤ 1000 := by rw [rr₁.length]; exact hx.2.2
      have hxn : x.toNat ≤ 1000 := by omega
      have hml : vs.length * x.toNat ≤ 1000000 := by
        calc vs.length * x.toNat ≤ 1000 * 1000 := Nat.mul_le_mul hvl hxn
          _ = 1000000 := rfl
      have hlen : (List.replicate x.toNat vs).flatten.length ≤ sizeLine := by
        have : (List.replicate x.toNat vs).flatten.length = x.toNat * vs.length := by simp
        rw [this, Nat.mul_comm]
        exact Nat.le_trans hml (by unfold sizeLine; decide)
      have hrep : ∀ {N : Addr → Prop} {h : Heap}, RepLC C h N vs a → RepLC C h N (List.replicate x.toNat vs).flatten (List.replicate x.toNat a).flatten := by
        intro N h r
        generalize x.toNat = k
        induction k with
        | zero => exact .nil
        | succ k ih => rw [List.replicate_succ, List.replicate_succ, List.flatten_cons, List.flatten_cons]; exact r.append ih
      refine mul_raw k₁ hx.1 (by omega) (Nat.le_trans hml (by decide)) ⟨(e₁.trans e₂).trans push_ext', ?_⟩
      have hfs : s.heap.get? s₂.heap.objs.size = none := (e₁.trans e₂).none (fresh_size _)
      show MkRep C F s.heap _ (if (m₁ ρ).cat then .own 1 else .fu) _ _
      split
      · rename_i hc1
        obtain ⟨a₁', vs', ea, pa, _, ra⟩ := r₁.items c.rel.hv hc1
        cases ea
        obtain rfl := plainList_inj p₁ pa
        exact own1_list hfs (fresh_size _) (push_plain _ _) hlen (fun b o _ e => push_keeps b o e) (hrep (ra.trans (fun _ n => n) fun b o n e => e₂.keep b o (c.notT0 b n) e))
      · refine ⟨.list (fun q => c₂.fresh_vol (fresh_size _) (c.rel.vc _ q)) (push_plain _ _) hlen ?_, fun a e => by cases e; exact hfs⟩
        exact (hrep (rr₁.trans (fun _ n => n) fun b o n e => e₂.keep b o (c.notT b n) e)).trans (fun _ n => n) fun b o n e => push_keeps b o e
end
end Mine

set_option autoImplicit false
open PySem PyProof.Rows
namespace Mine
set_option linter.unusedVariables false

/-! comparisons -/
noncomputable def CmpOK (C : Cfg) (op : CmpOp) (g : D → D → Option Bool) : Prop := ∀ (A : Around) (l : Nat) (s : Shared) (a b : Value) (d₁ d₂ : D) (r : Bool) (N₁ N₂ : Addr → Prop),
  Room A l → RepC C s.heap N₁ a d₁ → RepC C s.heap N₂ b d₂ → g d₁ d₂ = some r → Wp C A (compareOp op a b) (fun v s' => Ext C s s' ∧ v = .bool r) s
noncomputable def cmpB (g : D → D → Option Bool) (f₁ f₂ : EEnv → Option D) : EEnv → Option Bool := fun ρ => (f₁ ρ).bind fun a => (f₂ ρ).bind fun b => g a b
noncomputable def boolF (b : EEnv → Option Bool) : EEnv → Option D := fun ρ => (b ρ).map D.bool

noncomputable def ltD (a b : D) : Option Bool := (toI a).bind fun x => (toI b).bind fun y => some (decide (x < y))
noncomputable def leD (a b : D) : Option Bool := (toI a).bind fun x => (toI b).bind fun y => some (decide (x ≤ y))
noncomputable def inD (x y : D) : Option Bool := dcase y none (fun _ => none) (fun _ => none) (fun _ => none) (fun ys => inL (eqD 40) x ys) (fun ys => inL (eqD 40) x ys) (fun kvs => (toS x).bind fun k => some (kvs.lookup k).isSome) fun _ _ _ => none
/-- identity of bools -/
noncomputable def isD (a b : D) : Option Bool := (toB a).bind fun x => (toB b).bind fun y => some (x == y)
noncomputable def notO (g : D → D → Option Bool) : D → D → Option Bool := fun a b => (g a b).map (!·)

section
variable {prog : Program} {w : World} {h : Heap} {N : Addr → Prop}
theorem RepE.lookup {kvs : List (Str × Value)} {kds : List (Str × D)} (r : RepE prog w h N kvs kds) (k : Str) :
    (valueAt kvs k = none ∧ kds.lookup k = none) ∨ ∃ v d, valueAt kvs k = some v ∧ kds.lookup k = some d ∧ Rep prog w h N v d := by
  induction kvs generalizing kds with
  | nil => cases r; exact .inl ⟨rfl, rfl⟩
  | cons kv kvs ih =>
    cases r with
    | @cons x v _ d kds e y r =>
      rw [List.lookup_cons]
      by_cases hk : k = x
      · subst hk
        refine .inr ⟨v, d, ?_, by simp, y⟩
        simp [valueAt]
      · have h1 : (k == x) = false := by simpa using hk
        have h2 : ¬ x = k := fun q => hk q.symm
        have h3 : valueAt ((x, v) :: kvs) k = valueAt kvs k := by simp [valueAt, h2]
        rw [h1, h3]
        exact ih r
end

section
variable {C : Cfg}
theorem Room.u {A : Around} {l : Nat} (r : Room A l) : A.units + 200 < cLine := Nat.lt_of_le_of_lt (Nat.add_le_add_right (Nat.le_add_right _ _) _) r.2.2
theorem eq_cmp : CmpOK C .Eq (eqD 40) := fun A l s a b d₁ d₂ r N₁ N₂ R x y q => by
  have := R.u
  exact rcAt_rep 40 (by omega) x y q C.prog C.w _ _ ⟨Ext.refl C s, rfl⟩
theorem ne_cmp : CmpOK C .NotEq (notO (eqD 40)) := fun A l s a b d₁ d₂ r N₁ N₂ R x y q => by
  obtain ⟨r', q', rfl⟩ := Option.map_eq_some_iff.mp q; clear q; have q := q'; clear q'
  have := R.u
  exact rcNeAt_rep 40 (by omega) x y q C.prog C.w _ _ ⟨Ext.refl C s, rfl⟩
theorem ltD_inv {a b : D} {r : Bool} (h : ltD a b = some r) : ∃ x y : Int, a = .int x ∧ b = .int y ∧ r = decide (x < y) := by
  obtain ⟨x, hx, h⟩ := Option.bind_eq_some_iff.mp h
  obtain ⟨y, hy, h⟩ := Option.bind_eq_some_iff.mp h
  exact ⟨x, y, toI_inv hx, toI_inv hy, (Option.some.inj h).symm⟩
theorem leD_inv {a b : D} {r : Bool} (h : leD a b = some r) : ∃ x y : Int, a = .int x ∧ b = .int y ∧ r = decide (x ≤ y) := by
  obtain ⟨x, hx, h⟩ := Option.bind_eq_some_iff.mp h
  obtain ⟨y, hy, h⟩ := Option.bind_eq_some_iff.mp h
  exact ⟨x, y, toI_inv hx, toI_inv hy, (Option.some.inj h).symm⟩
theorem lt_cmp : CmpOK C .Lt ltD := fun A l s a b d₁ d₂ r N₁ N₂ R x y q => by
  obtain ⟨_, _, rfl, rfl, rfl⟩ := ltD_inv q
  obtain ⟨_, rfl⟩ := x.inv_int
  obtain ⟨_, rfl⟩ := y.inv_int
  exact lt_int ⟨Ext.refl C s, rfl⟩
theorem le_cmp : CmpOK C .LtE leD := fun A l s a b d₁ d₂ r N₁ N₂ R x y q => by
  obtain ⟨_, _, rfl, rfl, rfl⟩ := leD_inv q
  obtain ⟨_, rfl⟩ := x.inv_int
  obtain ⟨_, rfl⟩ := y.inv_int
  exact le_int ⟨Ext.refl C s, rfl⟩
theorem gt_cmp : CmpOK C .Gt (fun a b => ltD b a) := fun A l s a b d₁ d₂ r N₁ N₂ R x y q => by
  obtain ⟨_, _, rfl, rfl, rfl⟩ := ltD_inv q
  obtain ⟨_, rfl⟩ := x.inv_int
  obtain ⟨_, rfl⟩ := y.inv_int
  exact gt_int ⟨Ext.refl C s, rfl⟩
theorem ge_cmp : CmpOK C .GtE (fun a b => leD b a) := fun A l s a b d₁ d₂ r N₁ N₂ R x y q => by
  obtain ⟨_, _, rfl, rfl, rfl⟩ := leD_inv q
  obtain ⟨_, rfl⟩ := x.inv_int
  obtain ⟨_, rfl⟩ := y.inv_int
  exact ge_int ⟨Ext.refl C s, rfl⟩
theorem inDict_inv {x : D} {kvs : List (Str × D)} {r : Bool} (h : inD x (.dict kvs) = some r) : ∃ k, x = .str k ∧ r = (kvs.lookup k).isSome := by
  obtain ⟨k, hk, h⟩ := Option.bind_eq_some_iff.mp h
  exact ⟨k, toS_inv hk, (Option.some.inj h).symm⟩
theorem in_cmp : CmpOK C .In inD := fun A l s a b d₁ d₂ r N₁ N₂ R x y q => by
  have hu := R.u
  cases y with
  | list n p l r2 =>
    refine SeqAt.in_listAt _ p.isList (looked_at (n := 40) (by show A.units + 1 + 40 < cLine; omega) x r2 q) ⟨Ext.refl C s, ?_⟩
    rw [← looked_any r2 q]; simp
  | tup n p l r2 =>
    refine SeqAt.in_tupleAt _ p.isTup (looked_at (n := 40) (by show A.units + 1 + 40 < cLine; omega) x r2 q) ⟨Ext.refl C s, ?_⟩
    rw [← looked_any r2 q]; simp
  | dict n e p l r2 =>
    obtain ⟨k, rfl, rfl⟩ := inDict_inv q
    obtain ⟨_, rfl, _⟩ := x.inv_str
    refine wpAny_in_of (strKind_is _ _ _ _) e p.mapOf ⟨tok_ext, ?_⟩
    rcases r2.lookup _ with ⟨h1, h2⟩ | ⟨v, d, h1, h2, _⟩ <;> rw [h1, h2] <;> rfl
  | _ => cases q
theorem notIn_cmp : CmpOK C .NotIn (notO inD) := fun A l s a b d₁ d₂ r N₁ N₂ R x y q => by
  obtain ⟨r', q', rfl⟩ := Option.map_eq_some_iff.mp q; clear q; have q := q'; clear q'
  have hu := R.u
  cases y with
  | list n p l r2 =>
    refine SeqAt.notIn_listAt _ p.isList (looked_at (n := 40) (by show A.units + 1 + 40 < cLine; omega) x r2 q) ⟨Ext.refl C s, ?_⟩
    rw [← looked_any r2 q]; simp
  | tup n p l r2 =>
    refine SeqAt.notIn_tupleAt _ p.isTup (looked_at (n := 40) (by show A.units + 1 + 40 < cLine; omega) x r2 q) ⟨Ext.refl C s, ?_⟩
    rw [← looked_any r2 q]; simp
  | dict n e p l r2 =>
    obtain ⟨k, rfl, rfl⟩ := inDict_inv q
    obtain ⟨_, rfl, _⟩ := x.inv_str
    refine wpAny_notIn_of (strKind_is _ _ _ _) e p.mapOf ⟨tok_ext, ?_⟩
    rcases r2.lookup _ with ⟨h1, h2⟩ | ⟨v, d, h1, h2, _⟩ <;> rw [h1, h2] <;> rfl
  | _ => cases q
/-- identity of bools, on the values -/
theorem isD_same {a b : Value} {d₁ d₂ : D} {r : Bool} {h : Heap} {N₁ N₂ : Addr → Prop} (x : RepC C h N₁ a d₁) (y : RepC C h N₂ b d₂) (q : isD d₁ d₂ = some r) : plainIs a b = true ∧ (a == b) = r := by
  obtain ⟨u, hu, q⟩ := Option.bind_eq_some_iff.mp q
  obtain ⟨v, hv, q⟩ := Option.bind_eq_some_iff.mp q
  cases toB_inv hu
  cases toB_inv hv
  obtain rfl := x.inv_bool
  obtain rfl := y.inv_bool
  cases q
  exact ⟨rfl, by cases u <;> cases v <;> rfl⟩
theorem isNot_cmp : CmpOK C .IsNot (notO isD) := fun A l s a b d₁ d₂ r N₁ N₂ R x y q => by
  obtain ⟨r', q', rfl⟩ := Option.map_eq_some_iff.mp q
  obtain ⟨h1, rfl⟩ := isD_same x y q'
  exact wpAny_isNot_plain h1 ⟨Ext.refl C s, rfl⟩
end

section
variable {C : Cfg} {Γ : Sc} {l : Nat} {A : Around} {F : Fx} {env : Env} {ρ : EEnv} {s : Shared} {d : D} {e e₁ e₂ : Expr} {f f₁ f₂ : EEnv → Option D} {m m₁ m₂ : EEnv → Mk} {op : CmpOp} {g : D → D → Option Bool} {b b₁ b₂ : EEnv → Option Bool}

theorem cmp_ok {p : Pos} (hc : CmpOK C op g) (x₁ : EvOK C Γ l e₁ f₁ m₁) (x₂ : EvOK C Γ l e₂ f₂ m₂) (hm : behindInMarks op e₂ = false) : EvOK C Γ l (.Compare e₁ [op] [e₂] p) (boolF (cmpB g f₁ f₂)) (fun _ => .fr) := by
  refine ⟨fun A F env ρ s d c fd => ?_⟩
  obtain ⟨r, fd', rfl⟩ := Option.map_eq_some_iff.mp fd; clear fd; have fd := fd'; clear fd'
  obtain ⟨d₁, h₁, fd⟩ := Option.bind_eq_some_iff.mp fd
  obtain ⟨d₂, h₂, fd⟩ := Option.bind_eq_some_iff.mp fd
  refine wpAny_Compare1 (x₁.run c h₁ fun v₁ s₁ e₁ c₁ r₁ => x₂.run c₁ h₂ fun v₂ s₂ e₂ c₂ r₂ => ?_) hm
  refine wpAny_mono (hc A l s₂ v₁ v₂ d₁ d₂ r _ _ c.room (Rep.ext c.notT e₂ (c.weak e₁ r₁)) (c₁.weak e₂ r₂) fd) (fun v s' h => ?_) fun _ _ e => e
  obtain ⟨e', rfl⟩ := h
  exact ⟨(e₁.trans e₂).trans e', .bool _⟩
theorem cmp_b {p : Pos} (hc : CmpOK C op g) (x₁ : EvOK C Γ l e₁ f₁ m₁) (x₂ : EvOK C Γ l e₂ f₂ m₂) (hm : behindInMarks op e₂ = false) : BOK C Γ l (.Compare e₁ [op] [e₂] p) (cmpB g f₁ f₂) := by
  intro A F env ρ s r c fd
  obtain ⟨d₁, h₁, fd⟩ := Option.bind_eq_some_iff.mp fd
  obtain ⟨d₂, h₂, fd⟩ := Option.bind_eq_some_iff.mp fd
  refine wpAny_isTrue_Compare1 (x₁.run c h₁ fun v₁ s₁ e₁ c₁ r₁ => x₂.run c₁ h₂ fun v₂ s₂ e₂ c₂ r₂ => ?_) hm
  refine wpAny_mono (hc A l s₂ v₁ v₂ d₁ d₂ r _ _ c.room (Rep.ext c.notT e₂ (c.weak e₁ r₁)) (c₁.weak e₂ r₂) fd) (fun v s' h => ?_) fun _ _ e => e
  obtain ⟨e', rfl⟩ := h
  exact wpAny_truthy_bool ⟨(e₁.trans e₂).trans e', rfl⟩

/-! tests -/
noncomputable def truthB (f : EEnv → Option D) : EEnv → Option Bool := fun ρ => (f ρ).bind toB
theorem truth_inv {d : D} {r : Bool} (h : toB d = some r) : d = .bool r := toB_inv h
theorem val_b (x : EvOK C Γ l e f m) (he : ∀ env whole, isTrue e env whole = (do let v ← whole; standAt e.pos; holding [v] (truthy v))) : BOK C Γ l e (truthB f) := by
  intro A F env ρ s r c fd
  obtain ⟨d, h, fd⟩ := Option.bind_eq_some_iff.mp fd
  refine wpAny_isTrue_value (x.run c h fun v s' e' c' r' => ?_) (he _ _)
  have w := c.weak e' r'
  obtain rfl := truth_inv fd
  obtain rfl := w.inv_bool
  exact wpAny_truthy_bool ⟨e', rfl⟩
noncomputable def notB (b : EEnv → Option Bool) : EEnv → Option Bool := fun ρ => (b ρ).map (!·)
theorem not_b {p : Pos} (x : BOK C Γ l e b) : BOK C Γ l (.UnaryOp .Not e p) (notB b) := by
  intro A F env ρ s r c fd
  obtain ⟨r', h, rfl⟩ := Option.map_eq_some_iff.mp fd
  exact wpAny_isTrue_Not (x.run c h fun s' e' c' => ⟨e', rfl⟩)
noncomputable def un (g : D → Option D) (f : EEnv → Option D) : EEnv → Option D := fun ρ => (f ρ).bind g
noncomputable def AllOK (C : Cfg) (Γ : Sc) (l : Nat) (op : BoolOp) (es : List Expr) (b : EEnv → Option Bool) : Prop :=
  ∀ (A : Around) (F : Fx) (env : Env) (ρ : EEnv) (s : Shared) (r : Bool), Cx C Γ l A F env ρ s → b ρ = some r → Wp C A (allTrue op es env) (fun r' s' => Ext C s s' ∧ r' = r) s
noncomputable def andB (b₁ b₂ : EEnv → Option Bool) : EEnv → Option Bool := fun ρ => (b₁ ρ).bind fun x => if x then b₂ ρ else some false
noncomputable def orB (b₁ b₂ : EEnv → Option Bool) : EEnv → Option Bool := fun ρ => (b₁ ρ).bind fun x => if x then some true else b₂ ρ
theorem and_nil : AllOK C Γ l .And [] (fun _ => some true) := fun A F env ρ s r c fd => by cases fd; exact wpAny_allTrue_And_nil ⟨Ext.refl C s, rfl⟩
theorem or_nil : AllOK C Γ l .Or [] (fun _ => some false) := fun A F env ρ s r c fd => by cases fd; exact wpAny_allTrue_Or_nil ⟨Ext.refl C s, rfl⟩
theorem and_cons {es : List Expr} (x : BOK C Γ l e b₁) (y : AllOK C Γ l .And es b₂) : AllOK C Γ l .And (e :: es) (andB b₁ b₂) := by
  intro A F env ρ s r c fd
  obtain ⟨t, h, fd⟩ := Option.bind_eq_some_iff.mp fd
  refine wpAny_allTrue_And_cons (x.run c h fun s' e' c' => ?_)
  cases t with
  | true => exact wpAny_mono (y A F env ρ s' r c' fd) (fun r' s'' q => ⟨e'.trans q.1, q.2⟩) fun _ _ e => e
  | false => cases fd; exact ⟨e', rfl⟩
theorem or_cons {es : List Expr} (x : BOK C Γ l e b₁) (y : AllOK C Γ l .Or es b₂) : AllOK C Γ l .Or (e :: es) (orB b₁ b₂) := by
  intro A F env ρ s r c fd
  obtain ⟨t, h, fd⟩ := Option.bind_eq_some_iff.mp fd
  refine wpAny_allTrue_Or_cons (x.run c h fun s' e' c' => ?_)
  cases t with
  | false => exact wpAny_mono (y A F env ρ s' r c' fd) (fun r' s'' q => ⟨e'.trans q.1, q.2⟩) fun _ _ e => e
  | true => cases fd; exact ⟨e', rfl⟩
theorem boolop_b {bop : BoolOp} {es : List Expr} {p : Pos} (x : AllOK C Γ l bop es b) : BOK C Γ l (.BoolOp bop es p) b := fun A F env ρ s r c fd => wpAny_isTrue_BoolOp (x A F env ρ s r c fd)
theorem and2_ok {p : Pos} (x₁ : EvOK C Γ l e₁ f₁ m₁) (x₂ : EvOK C Γ l e₂ f₂ m₂) : EvOK C Γ l (.BoolOp .And [e₁, e₂] p) (boolF (andB (truthB f₁) (truthB f₂))) (fun _ => .fr) := by
  refine ⟨fun A F env ρ s d c fd => ?_⟩
  obtain ⟨r, fd', rfl⟩ := Option.map_eq_some_iff.mp fd; clear fd; have fd := fd'; clear fd'
  obtain ⟨t, h, fd⟩ := Option.bind_eq_some_iff.mp fd
  obtain ⟨d₁, h₁, ht⟩ := Option.bind_eq_some_iff.mp h
  refine wpAny_And2 (x₁.run c h₁ fun v₁ s₁ e₁ c₁ r₁ => ?_)
  have w := c.weak e₁ r₁
  obtain rfl := truth_inv ht
  obtain rfl := w.inv_bool
  refine wpAny_truthy_bool ?_
  cases t with
  | false => cases fd; exact ⟨e₁, .bool _⟩
  | true =>
    obtain ⟨d₂, h₂, ht₂⟩ := Option.bind_eq_some_iff.mp fd
    refine x₂.run c₁ h₂ fun v₂ s₂ e₂ c₂ r₂ => ?_
    have w := c₁.weak e₂ r₂
    obtain rfl := truth_inv ht₂
    obtain rfl := w.inv_bool
    exact ⟨e₁.trans e₂, .bool _⟩
end
end Mine

set_option autoImplicit false
open PySem PyProof.Rows
namespace Mine
set_option linter.unusedVariables false

/-! iteration -/
noncomputable def rngN (a b c : Int) : Nat := if c = 1 then (b - a).toNat else (a - b).toNat
noncomputable def D.items (d : D) : Option (List D) := dcase d Option.none (fun _ => Option.none) (fun _ => Option.none)
  (fun x => if x.cps.size ≤ lim then some (x.cps.toList.map fun c => .str ⟨#[c]⟩) else Option.none)
  some some
  (fun kvs => some (kvs.map fun p => .str p.1))
  fun a b c => if (c = 1 ∨ c = -1) ∧ (-1000000 < a ∧ a < 1000000) ∧ (-1000000 < b ∧ b < 1000000) then some ((List.range (rngN a b c)).map fun (i : Nat) => .int (a + (i : Int) * c)) else Option.none
/-- an iterable: its root, its items -/
inductive Rep2 (prog : Program) (w : World) (h : Heap) (N N' : Addr → Prop) : Value → D → Prop
  | str (x : Str) (t : Tok) : PyData.strOk x = true → Rep2 prog w h N N' (.str x t) (.str x)
  | list {a : Addr} {vs : List Value} {ds : List D} : N a → h.PlainList a vs.toArray → vs.length ≤ sizeLine → RepL prog w h N' vs ds → Rep2 prog w h N N' (.ref a) (.list ds)
  | tup {a : Addr} {vs : List Value} {ds : List D} : N a → PlainTup h a vs.toArray → vs.length ≤ sizeLine → RepL prog w h N' vs ds → Rep2 prog w h N N' (.ref a) (.tup ds)
  | dict {a : Addr} {kvs : List (Str × Value)} {kds : List (Str × D)} : N a → (a == sysModules) = false → h.DictOf (PySem.strKind prog w) a kvs → kvs.length ≤ sizeLine → RepE prog w h N kvs kds → Rep2 prog w h N N' (.ref a) (.dict kds)
  | rng {a : Addr} {lo hi st : Int} {t u v : Tok} : N a → IsRange h a lo hi st t u v → Rep2 prog w h N N' (.ref a) (.rng lo hi st)
theorem Rep.two {prog : Program} {w : World} {h : Heap} {N : Addr → Prop} {v : Value} {d : D} {ds : List D} (x : Rep prog w h N v d) (hd : d.items = some ds) : Rep2 prog w h N N v d := by
  cases x with
  | str x t e => exact .str x t e
  | list n p l r => exact .list n p l r
  | tup n p l r => exact .tup n p l r
  | dict n e p l r => exact .dict n e p l r
  | rng n p => exact .rng n p
  | _ => cases hd
noncomputable def D.isL : D → Bool
  | .list _ => true
  | _ => false
noncomputable def tgtOK (tl : Bool) : Expr → Bool
  | .Name _ _ => true
  | .Tuple _ _ _ => tl
  | _ => false
set_option genInjectivity false in
inductive IterAt (C : Cfg) (A : Around) (N N' : Addr → Prop) (tl : Bool) (hs : Heap) (ds : List D) (it : Value) (h₂ : Heap) : Prop
  | mk (I : Addr) (fp wr : List Addr) (P : Nat → Value → Prop) (St : Nat → Heap → Prop) : it = .ref I → Walks C.prog C.w A I fp wr ds.length P St → St 0 h₂ → (∀ b ∈ wr, hs.get? b = none) → (∀ b ∈ fp, b ∈ wr ∨ N b) → (∀ b ∈ fp, b < h₂.objs.size) → (∀ i v, P i v → ∃ d, ds[i]? = some d ∧ RepC C hs N' v d) →
  (∀ (t : Expr) (v : Value) (i : Nat) (s : Shared) (A : Around) (Q : Unit → Shared → Prop) (E : Value → Shared → Prop), tgtOK tl t = true → St i s.heap → Q () s → wpAny (model C.prog C.w) A (letOwnedTupleGo t (.ref I) v) Q E s) →
  (∀ i h, St i h → ∀ b ∈ wr, ∃ o, h.get? b = some o) → ds.length ≤ sizeLine → IterAt C A N N' tl hs ds it h₂

section
variable {C : Cfg} {A : Around} {N N' : Addr → Prop} {s : Shared} {v : Value} {d : D} {ds : List D}
theorem RepE.key {prog : Program} {w : World} {h : Heap} {N : Addr → Prop} {kvs : List (Str × Value)} {kds : List (Str × D)} (r : RepE prog w h N kvs kds) : ∀ {i : Nat} {k : Str} {x : Value}, kvs[i]? = some (k, x) → PyData.strOk k = true ∧ ∃ d, kds[i]? = some (k, d) := by
  induction kvs generalizing kds with
  | nil => intro i k x e; simp at e
  | cons kv kvs ih =>
    cases r with
    | @cons k' v _ d kds e y r =>
      intro i k x q
      cases i with
      | zero => simp at q; obtain ⟨rfl, rfl⟩ := q; exact ⟨e, d, rfl⟩
      | succ i => simpa using ih r (by simpa using q)
theorem RepE.length {prog : Program} {w : World} {h : Heap} {N : Addr → Prop} {kvs : List (Str × Value)} {kds : List (Str × D)} (r : RepE prog w h N kvs kds) : kvs.length = kds.length := by
  induction kvs generalizing kds with
  | nil => cases r; rfl
  | cons kv kvs ih => cases r with | cons _ _ r => rw [List.length_cons, List.length_cons, ih r]
theorem size_up {a b : Int} : Builtin.Range.rangeSize a b 1 = (((b - a).toNat : Nat) : Int) := by
  unfold Builtin.Range.rangeSize
  rw [if_pos (by decide), Int.ediv_one, Int.sub_add_cancel]
  by_cases h : a < b
  · rw [if_pos h, Int.toNat_of_nonneg (Int.sub_nonneg_of_le (Int.le_of_lt h))]
  · rw [if_neg h, Int.toNat_eq_zero.mpr (Int.sub_nonpos_of_le (Int.not_lt.mp h))]; rfl
theorem size_down {a b : Int} : Builtin.Range.rangeSize a b (-1) = (((a - b).toNat : Nat) : Int) := by
  unfold Builtin.Range.rangeSize
  rw [if_neg (by decide), Int.neg_neg, Int.ediv_one, Int.sub_add_cancel]
  by_cases h : a > b
  · rw [if_pos h, Int.toNat_of_nonneg (Int.sub_nonneg_of_le (Int.le_of_lt h))]
  · rw [if_neg h, Int.toNat_eq_zero.mpr (Int.sub_nonpos_of_le (Int.not_lt.mp h))]; rfl
theorem fits {z : Int} (h : -10000000 < z) (h' : z < 10000000) : Builtin.Range.rangeFitsLong z = true := by
  unfold Builtin.Range.rangeFitsLong
  simp only [Bool.and_eq_true, decide_eq_true_eq]
  omega
theorem small_rng {a b c : Int} (h : (c = 1 ∨ c = -1) ∧ (-1000000 < a ∧ a < 1000000) ∧ (-1000000 < b ∧ b < 1000000)) : Builtin.Range.small a b c = true ∧ Builtin.Range.rangeSize a b c = (rngN a b c : Int) := by
  obtain ⟨hc, ha, hb⟩ := h
  rcases hc with rfl | rfl
  · have e : rngN a b 1 = (b - a).toNat := rfl
    refine ⟨?_, size_up⟩
    unfold Builtin.Range.small
    rw [size_up, fits (z := a) (by omega) (by omega), fits (z := b) (by omega) (by omega), fits (z := 1) (by omega) (by omega), fits (z := (((b - a).toNat : Nat) : Int)) (by omega) (by omega), if_pos (by decide), fits (z := b + (1 - 1)) (by omega) (by omega), Bool.or_true]
    rfl
  · have e : rngN a b (-1) = (a - b).toNat := rfl
    refine ⟨?_, size_down⟩
    unfold Builtin.Range.small
    rw [size_down, fits (z := a) (by omega) (by omega), fits (z := b) (by omega) (by omega), fits (z := -1) (by omega) (by omega), fits (z := (((a - b).toNat : Nat) : Int)) (by omega) (by omega), if_neg (by decide), fits (z := b + (-1 + 1)) (by omega) (by omega), Bool.or_true]
    rfl
theorem walks_bound {prog : Program} {w : World} {A : Around} {I : Addr} {fp wr : List Addr} {n : Nat} {P : Nat → Value → Prop} {St : Nat → Heap → Prop} (W : Walks prog w A I fp wr n P St) : Walks prog w A I fp wr n (fun i v => i < n ∧ P i v) St where
  sub := W.sub
  frame := W.frame
  item := fun i s Q E hi st hQ => W.item i s Q E hi st fun v h' tk hP hst hk => hQ v h' tk ⟨hi, hP⟩ hst hk
  done := W.done
  self := W.self
theorem let_name {I : Addr} {t : Expr} {v : Value} {s : Shared} {A : Around} {Q : Unit → Shared → Prop} {E : Value → Shared → Prop} (ht : tgtOK false t = true) (h : Q () s) : wpAny (model C.prog C.w) A (letOwnedTupleGo t (.ref I) v) Q E s := by
  cases t <;> first | exact wpAny_pure h | cases ht
theorem iter_ok (x : Rep2 C.prog C.w s.heap N N' v d) (hd : d.items = some ds) (hh : A.handled = none) : Wp C A (pyIter v) (fun it s₂ => Ext C s s₂ ∧ IterAt C A N N' d.isL s.heap ds it s₂.heap) s := by
  have fr := fresh_size s.heap
  cases x with
  | @list a vs ds' n p l r =>
    cases hd
    refine wpAny_pyIter_list p.isList ⟨push_ext', ?_⟩
    have hne : a ≠ s.heap.objs.size := fun e => by obtain ⟨_, q⟩ := p; rw [e, fr] at q; cases q
    have W := Walks.list (prog := C.prog) (w := C.w) hh s.heap.objs.size a hne vs.toArray
    have el : ds.length = vs.toArray.size := by rw [List.size_toArray, r.length]
    rw [← el] at W
    refine ⟨_, _, _, _, _, rfl, W, ⟨⟨_, Heap.get?_push_size _ rfl, rfl, rfl⟩, p.isList.at fun o e => Heap.get?_push_of_some _ e⟩, ?_, ?_, ?_, ?_, ?_, fun i h st b hb => by rw [List.mem_singleton.mp hb]; obtain ⟨o, q, _⟩ := st.1; exact ⟨o, q⟩, by rw [← r.length]; exact l⟩
    · intro b hb; rw [List.mem_singleton.mp hb]; exact fr
    · intro b hb
      rcases List.mem_cons.mp hb with rfl | hb
      · exact .inl (.head _)
      · rw [List.mem_singleton.mp hb]; exact .inr n
    · intro b hb
      show b < (s.heap.push _).objs.size
      rw [Heap.size_push]
      rcases List.mem_cons.mp hb with rfl | hb
      · exact Nat.lt_succ_self _
      · rw [List.mem_singleton.mp hb]; obtain ⟨m, q⟩ := p; exact Nat.lt_succ_of_lt (Heap.lt_size q)
    · intro i v hv
      exact r.getV (by simpa using hv)
    · intro t v i s A Q E ht st h
      cases t <;> first | exact wpAny_pure h | (cases ht; done) | skip
      cases v <;> first | exact wpAny_letOwnedTupleGo_listiter st.1 h | exact wpAny_pure h
  | @tup a vs ds' n p l r =>
    cases hd
    refine wpAny_pyIter_tuple p.isTup ⟨push_ext', ?_⟩
    have hne : a ≠ s.heap.objs.size := fun e => by obtain ⟨_, q⟩ := p; rw [e, fr] at q; cases q
    have W := Walks.tuple (prog := C.prog) (w := C.w) hh s.heap.objs.size a hne vs.toArray
    have el : ds.length = vs.toArray.size := by rw [List.size_toArray, r.length]
    rw [← el] at W
    refine ⟨_, _, _, _, _, rfl, W, ⟨⟨_, Heap.get?_push_size _ rfl, rfl, rfl⟩, Heap.IsTuple.at (h := s.heap) p.isTup fun o e => Heap.get?_push_of_some _ e⟩, ?_, ?_, ?_, ?_, fun t v i s A Q E ht _ h => let_name ht h, fun i h st b hb => by rw [List.mem_singleton.mp hb]; obtain ⟨o, q, _⟩ := st.1; exact ⟨o, q⟩, by rw [← r.length]; exact l⟩
    · intro b hb; rw [List.mem_singleton.mp hb]; exact fr
    · intro b hb
      rcases List.mem_cons.mp hb with rfl | hb
      · exact .inl (.head _)
      · rw [List.mem_singleton.mp hb]; exact .inr n
    · intro b hb
      show b < (s.heap.push _).objs.size
      rw [Heap.size_push]
      rcases List.mem_cons.mp hb with rfl | hb
      · exact Nat.lt_succ_self _
      · rw [List.mem_singleton.mp hb]; obtain ⟨m, q⟩ := p; exact Nat.lt_succ_of_lt (Heap.lt_size q)
    · intro i v hv
      exact r.getV (by simpa using hv)
  | @dict a kvs kds n e p l r =>
    cases hd
    obtain ⟨o, es, ep, h1, h2, h3, h4, h5, h6⟩ := id p
    have hda : s.heap.DictAt (PySem.strKind C.prog C.w) a kvs ep := ⟨o, es, h1, h2, h3, h4, h5, h6⟩
    refine wpAny_pyIter_dict e hda ⟨push_ext', ?_⟩
    have hne : a ≠ s.heap.objs.size := fun e => by rw [e, fr] at h1; cases h1
    have W := Walks.dictKeys (prog := C.prog) (w := C.w) (knd := PySem.strKind C.prog C.w) hh s.heap.objs.size a hne kvs ep
    have el : (kds.map fun p => D.str p.1).length = kvs.length := by rw [List.length_map, r.length]
    refine ⟨s.heap.objs.size, [s.heap.objs.size, a], [s.heap.objs.size], (fun i v => ∃ k x, kvs[i]? = some (k, x) ∧ (PySem.strKind C.prog C.w).is k v = true), (fun i h => h.IsKeyIter s.heap.objs.size a i kvs.length ep ∧ h.DictAt (PySem.strKind C.prog C.w) a kvs ep), rfl, (by rw [el]; exact W), ⟨⟨_, Heap.get?_push_size _ rfl, rfl, rfl⟩, hda.at' fun o e => Heap.get?_push_of_some _ e⟩, ?_, ?_, ?_, ?_, fun t v i s A Q E ht _ h => let_name ht h, fun i h st b hb => by rw [List.mem_singleton.mp hb]; obtain ⟨o, q, _⟩ := st.1; exact ⟨o, q⟩, by rw [el]; exact l⟩
    · intro b hb; rw [List.mem_singleton.mp hb]; exact fr
    · intro b hb
      rcases List.mem_cons.mp hb with rfl | hb
      · exact .inl (.head _)
      · rw [List.mem_singleton.mp hb]; exact .inr n
    · intro b hb
      show b < (s.heap.push _).objs.size
      rw [Heap.size_push]
      rcases List.mem_cons.mp hb with rfl | hb
      · exact Nat.lt_succ_self _
      · rw [List.mem_singleton.mp hb]; exact Nat.lt_succ_of_lt (Heap.lt_size h1)
    · rintro i v ⟨k, x, hx, hk⟩
      obtain ⟨hok, dd, hd⟩ := r.key hx
      have : ∃ t, v = .str k t := by
        cases v <;> simp [PySem.strKind, Value.isStrOf] at hk
        exact ⟨_, by rw [hk]⟩
      obtain ⟨t, rfl⟩ := this
      exact ⟨.str k, by simp [hd], .str k t hok⟩
  | str x t hx =>
    obtain ⟨hxl, hd⟩ := ite_inv hd
    cases hd
    · skip
      have el : (x.cps.toList.map fun c => D.str ⟨#[c]⟩).length = x.cps.size := by simp
      have key : ∀ (o : Obj) (St : Nat → Heap → Prop), Walks C.prog C.w A s.heap.objs.size [s.heap.objs.size] [s.heap.objs.size] x.cps.size (SignAt x) St → St 0 (s.heap.push o) → (∀ i h, St i h → ∃ o, h.get? s.heap.objs.size = some o) →
          IterAt C A N N' (D.str x).isL s.heap (x.cps.toList.map fun c => D.str ⟨#[c]⟩) (.ref s.heap.objs.size) (s.heap.push o) := by
        intro o St W hst hex
        rw [← el] at W
        refine ⟨_, _, _, _, _, rfl, W, hst, ?_, ?_, ?_, ?_, fun t v i s A Q E ht _ h => let_name ht h, fun i h st b hb => by rw [List.mem_singleton.mp hb]; exact hex i h st, by rw [el]; exact Nat.le_trans hxl lim_le⟩
        · intro b hb; rw [List.mem_singleton.mp hb]; exact fr
        · intro b hb; exact .inl hb
        · intro b hb
          rw [List.mem_singleton.mp hb]
          show _ < (s.heap.push _).objs.size
          rw [Heap.size_push]
          exact Nat.lt_succ_self _
        · rintro i v ⟨c, u, hc, rfl⟩
          refine ⟨.str ⟨#[c]⟩, by simp [hc], .str _ _ ?_⟩
          unfold PyData.strOk at *
          have := Array.all_eq_true.mp hx i (Array.getElem?_eq_some_iff.mp hc).1
          simp [(Array.getElem?_eq_some_iff.mp hc).2] at this
          simp; exact this
      cases ha : x.cps.all (· < 128)
      · exact wpAny_pyIter_wide ha ⟨push_ext', key _ _ (Walks.strWide hh _ x t) ⟨_, Heap.get?_push_size _ rfl, rfl, rfl⟩ fun i h ⟨o, q, _⟩ => ⟨o, q⟩⟩
      · exact wpAny_pyIter_ascii ha ⟨push_ext', key _ _ (Walks.strAscii hh _ x t) ⟨_, Heap.get?_push_size _ rfl, rfl, rfl⟩ fun i h ⟨o, q, _⟩ => ⟨o, q⟩⟩
  | rng n p =>
    obtain ⟨hc, hd⟩ := ite_inv hd
    cases hd
    · skip
      obtain ⟨hsm, hsz⟩ := small_rng hc
      refine wpAny_pyIter_range p hsm ⟨push_ext', ?_⟩
      rename_i a lo hi st t u v
      have W := Walks.range (prog := C.prog) (w := C.w) hh s.heap.objs.size lo st (rngN lo hi st)
      have el : ((List.range (rngN lo hi st)).map fun (i : Nat) => D.int (lo + (i : Int) * st)).length = rngN lo hi st := by simp
      have W' := walks_bound W
      rw [← el] at W'
      refine ⟨_, _, _, _, _, rfl, W', ?_, ?_, ?_, ?_, ?_, fun t v i s A Q E ht _ h => let_name ht h, fun i h st b hb => by rw [List.mem_singleton.mp hb]; exact ⟨_, st⟩, ?_⟩
      · show IsRangeIter _ _ _ _ _
        rw [hsz]
        simpa using Heap.get?_push_size _ rfl
      · intro b hb; rw [List.mem_singleton.mp hb]; exact fr
      · intro b hb; exact .inl hb
      · intro b hb
        rw [List.mem_singleton.mp hb]
        show _ < (s.heap.push _).objs.size
        rw [Heap.size_push]
        exact Nat.lt_succ_self _
      · rintro i v ⟨hi, t, rfl⟩
        rw [el] at hi
        exact ⟨.int (lo + (i : Int) * st), by rw [List.getElem?_map, List.getElem?_range hi]; rfl, .int _ _⟩
      · rw [el]
        obtain ⟨_, h1, h2⟩ := hc
        unfold rngN sizeLine
        split <;> omega
end
end Mine

set_option autoImplicit false
open PySem PyProof.Rows
namespace Mine
set_option linter.unusedVariables false

/-! what stands in a list of expressions is not starred -/
theorem star_Constant {a : Const} {b : Nat} {p : Pos} {es : List Expr} : ∀ env, starEach (.Constant a b p :: es) env = (false, eval (.Constant a b p) env) :: starEach es env := fun _ => rfl
theorem star_Name {a : Str} {p : Pos} {es : List Expr} : ∀ env, starEach (.Name a p :: es) env = (false, eval (.Name a p) env) :: starEach es env := fun _ => rfl
theorem star_List {a : List Expr} {p : Pos} {es : List Expr} : ∀ env, starEach (.List a p :: es) env = (false, eval (.List a p) env) :: starEach es env := fun _ => rfl
theorem star_Call {a : Expr} {b : List Expr} {c : List Keyword} {p : Pos} {es : List Expr} : ∀ env, starEach (.Call a b c p :: es) env = (false, eval (.Call a b c p) env) :: starEach es env := fun _ => rfl
theorem star_Subscript {a b : Expr} {p : Pos} {es : List Expr} : ∀ env, starEach (.Subscript a b p :: es) env = (false, eval (.Subscript a b p) env) :: starEach es env := fun _ => rfl
theorem star_BinOp {a : Expr} {b : Operator} {c : Expr} {p : Pos} {es : List Expr} : ∀ env, starEach (.BinOp a b c p :: es) env = (false, eval (.BinOp a b c p) env) :: starEach es env := fun _ => rfl
theorem star_ListComp {a : Expr} {b : List Comprehension} {c : Scope} {p : Pos} {es : List Expr} : ∀ env, starEach (.ListComp a b c p :: es) env = (false, eval (.ListComp a b c p) env) :: starEach es env := fun _ => rfl
/-! lists of expressions -/
set_option genInjectivity false in
inductive ArgsX (C : Cfg) (F : Fx) (s s' : Shared) (n : Nat) (c : Bool) (vs : List Value) (ds : List D) : Prop
  | mk : Ext C s s' → vs.length = n → RepLC C s'.heap (fun a => ¬ F.volc a) vs ds → (c = true → RepLC C s'.heap (fun a => ¬ F.vol a) vs ds) → ArgsX C F s s' n c vs ds
structure ArgsOK (C : Cfg) (Γ : Sc) (l : Nat) (es : List Expr) (fs : EEnv → Option (List D)) (cl : EEnv → Bool) : Prop where
  ev : ∀ (A : Around) (F : Fx) (env : Env) (ρ : EEnv) (s : Shared) (ds : List D) (pos : Pos), Cx C Γ l A F env ρ s → fs ρ = some ds →
    Wp C A (spliced (backTo pos (starEach es env))) (fun vs s' => ArgsX C F s s' es.length (cl ρ) vs ds) s
noncomputable def consF (f : EEnv → Option D) (fs : EEnv → Option (List D)) : EEnv → Option (List D) := fun ρ => (f ρ).bind fun d => (fs ρ).bind fun ds => some (d :: ds)
section
variable {C : Cfg} {Γ : Sc} {l : Nat} {A : Around} {F : Fx} {env : Env} {ρ : EEnv} {s : Shared} {d : D} {e e₁ e₂ : Expr} {es : List Expr} {f f₁ f₂ : EEnv → Option D} {m m₁ m₂ : EEnv → Mk} {fs : EEnv → Option (List D)} {cl : EEnv → Bool}
theorem args_nil_ok : ArgsOK C Γ l [] (fun _ => some []) (fun _ => true) := by
  refine ⟨fun A F env ρ s ds pos c fd => ?_⟩
  cases fd; exact args_nil ⟨Ext.refl C s, rfl, .nil, fun _ => .nil⟩
theorem args_cons_ok (x : EvOK C Γ l e f m) (y : ArgsOK C Γ l es fs cl) (he : ∀ env, starEach (e :: es) env = (false, eval e env) :: starEach es env) :
    ArgsOK C Γ l (e :: es) (consF f fs) (fun ρ => (m ρ).clean && cl ρ) := by
  refine ⟨fun A F env ρ s ds pos c fd => ?_⟩
  obtain ⟨d, h₁, fd⟩ := Option.bind_eq_some_iff.mp fd
  obtain ⟨ds', h₂, fd⟩ := Option.bind_eq_some_iff.mp fd
  cases fd
  refine args_cons (x.run c h₁ fun v s₁ e₁ c₁ r₁ => ?_) (he env)
  refine wpAny_mono (y.ev A F env ρ s₁ ds' pos c₁ h₂) (fun vs s₂ h => ?_) fun _ _ e => e
  obtain ⟨e₂, hl, w, k⟩ := h
  refine ⟨e₁.trans e₂, by rw [List.length_cons, List.length_cons, hl], .cons (Rep.ext c.notT e₂ (c.weak e₁ r₁)) w, fun hc => ?_⟩
  obtain ⟨q1, q2⟩ := Bool.and_eq_true_iff.mp hc
  exact .cons (Rep.ext c.notT0 e₂ (r₁.clean c.rel.hv (by unfold Mk.cl; rw [q1]; rfl))) (k q2)

/-! displays -/
noncomputable def listF (fs : EEnv → Option (List D)) : EEnv → Option D := fun ρ => (fs ρ).map D.list
noncomputable def tupF (fs : EEnv → Option (List D)) : EEnv → Option D := fun ρ => (fs ρ).map D.tup
theorem args_Constant {a : Const} {b : Nat} {p : Pos} (x : EvOK C Γ l (.Constant a b p) f m) (y : ArgsOK C Γ l es fs cl) : ArgsOK C Γ l (.Constant a b p :: es) (consF f fs) (fun ρ => (m ρ).clean && cl ρ) := args_cons_ok x y star_Constant
theorem args_Name {a : Str} {p : Pos} (x : EvOK C Γ l (.Name a p) f m) (y : ArgsOK C Γ l es fs cl) : ArgsOK C Γ l (.Name a p :: es) (consF f fs) (fun ρ => (m ρ).clean && cl ρ) := args_cons_ok x y star_Name
theorem args_List {a : List Expr} {p : Pos} (x : EvOK C Γ l (.List a p) f m) (y : ArgsOK C Γ l es fs cl) : ArgsOK C Γ l (.List a p :: es) (consF f fs) (fun ρ => (m ρ).clean && cl ρ) := args_cons_ok x y star_List
theorem args_Call {a : Expr} {b : List Expr} {c : List Keyword} {p : Pos} (x : EvOK C Γ l (.Call a b c p) f m) (y : ArgsOK C Γ l es fs cl) : ArgsOK C Γ l (.Call a b c p :: es) (consF f fs) (fun ρ => (m ρ).clean && cl ρ) := args_cons_ok x y star_Call
theorem args_Subscript {a b : Expr} {p : Pos} (x : EvOK C Γ l (.Subscript a b p) f m) (y : ArgsOK C Γ l es fs cl) : ArgsOK C Γ l (.Subscript a b p :: es) (consF f fs) (fun ρ => (m ρ).clean && cl ρ) := args_cons_ok x y star_Subscript
theorem args_BinOp {a : Expr} {b : Operator} {c : Expr} {p : Pos} (x : EvOK C Γ l (.BinOp a b c p) f m) (y : ArgsOK C Γ l es fs cl) : ArgsOK C Γ l (.BinOp a b c p :: es) (consF f fs) (fun ρ => (m ρ).clean && cl ρ) := args_cons_ok x y star_BinOp
theorem list_ok {p : Pos} (y : ArgsOK C Γ l es fs cl) (hn : es.length ≤ 100) : EvOK C Γ l (.List es p) (listF fs) (fun ρ => if cl ρ then .own 1 else .fu) := by
  refine ⟨fun A F env ρ s d c fd => ?_⟩
  obtain ⟨ds, h, fd⟩ := Option.map_eq_some_iff.mp fd
  subst fd
  refine wpAny_List (wpAny_mono (y.ev A F env ρ s ds p c h) (fun vs s₁ h₁ => ?_) fun _ _ e => e)
  obtain ⟨e₁, hl, w, k⟩ := h₁
  have hsz : vs.length ≤ sizeLine := by rw [hl]; exact Nat.le_trans hn (by unfold sizeLine; decide)
  refine ⟨hsz, e₁.trans push_ext', ?_⟩
  have hfs : s.heap.get? s₁.heap.objs.size = none := e₁.none (fresh_size _)
  show MkRep C F s.heap _ (if cl ρ = true then .own 1 else .fu) _ _
  split
  · rename_i hc
    exact own1_list hfs (fresh_size _) (push_plain _ _) hsz (fun b o _ e => push_keeps b o e) (k hc)
  · refine ⟨.list (fun q => fresh_not_vol (c.vol_later e₁) (fresh_size _) (c.rel.vc _ q)) (push_plain _ _) hsz (w.trans (fun _ n => n) fun b o n e => push_keeps b o e), fun a e => by cases e; exact hfs⟩
theorem tup_ok {k : Nat} {p : Pos} (y : ArgsOK C Γ l es fs cl) (hn : es.length ≤ 100) : EvOK C Γ l (.Tuple es k p) (tupF fs) (fun ρ => if cl ρ then .fr else .unk) := by
  refine ⟨fun A F env ρ s d c fd => ?_⟩
  obtain ⟨ds, h, fd⟩ := Option.map_eq_some_iff.mp fd
  subst fd
  refine wpAny_Tuple (wpAny_mono (y.ev A F env ρ s ds p c h) (fun vs s₁ h₁ => ?_) fun _ _ e => e)
  obtain ⟨e₁, hl, w, k⟩ := h₁
  have hsz : vs.length ≤ sizeLine := by rw [hl]; exact Nat.le_trans hn (by unfold sizeLine; decide)
  refine ⟨hsz, e₁.trans push_ext', ?_⟩
  have hfv : ¬ F.vol s₁.heap.objs.size := fresh_not_vol (c.vol_later e₁) (fresh_size _)
  show MkRep C F s.heap _ (if cl ρ = true then .fr else .unk) _ _
  split
  · rename_i hc
    exact .tup hfv (push_tup _ _) hsz ((k hc).trans (fun _ n => n) fun b o n e => push_keeps b o e)
  · exact .tup (fun q => hfv (c.rel.vc _ q)) (push_tup _ _) hsz (w.trans (fun _ n => n) fun b o n e => push_keeps b o e)
/-! subscripts -/
theorem seqIndex_nat {i : Int} {n : Nat} (h0 : 0 ≤ i) (h : i.toNat < n) : seqIndex? i n = some i.toNat := by
  have h1 : ¬ i < 0 := by omega
  have h2 : i < n := by omega
  simp [seqIndex?, h1, h0, h2]
noncomputable def idxD (a b : D) : Option D := dcase a none (fun _ => none) (fun _ => none)
  (fun x => (toI b).bind fun i => if 0 ≤ i ∧ i ≤ lim then x.cps[i.toNat]?.map fun c => .str ⟨#[c]⟩ else none)
  (fun xs => (toI b).bind fun i => if 0 ≤ i ∧ i ≤ lim then xs[i.toNat]? else none)
  (fun xs => (toI b).bind fun i => if 0 ≤ i ∧ i ≤ lim then xs[i.toNat]? else none)
  (fun kvs => (toS b).bind fun k => kvs.lookup k) fun _ _ _ => none
noncomputable def childM (m : EEnv → Mk) : EEnv → Mk := fun ρ => if (m ρ).cat then .fr else .unk
set_option genInjectivity false in
inductive DItemsX (C : Cfg) (h : Heap) (N : Addr → Prop) (v : Value) (ds : List (Str × D)) : Prop
  | mk (a : Addr) (vs : List (Str × Value)) : v = .ref a → h.DictOf (PySem.strKind C.prog C.w) a vs → RepE C.prog C.w h N vs ds → DItemsX C h N v ds
set_option genInjectivity false in
inductive TItemsX (C : Cfg) (h : Heap) (N : Addr → Prop) (v : Value) (ds : List D) : Prop
  | mk (a : Addr) (vs : List Value) : v = .ref a → PlainTup h a vs.toArray → RepLC C h N vs ds → TItemsX C h N v ds
/-- a child of a container -/
theorem MkRep.dictItems {hs h : Heap} {mk : Mk} {v : Value} {ds : List (Str × D)} (hv : ∀ a, F.vol a → ∃ o, hs.get? a = some o) (hc : mk.cat = true) (x : MkRep C F hs h mk v (.dict ds)) :
    DItemsX C h (fun a => ¬ F.vol a) v ds := by
  cases mk with
  | fr => obtain ⟨_, _, rfl, n, q, p, l, r⟩ := Rep.inv_dict x; exact ⟨_, _, rfl, p, r⟩
  | own k =>
    obtain ⟨O, t, _, f⟩ := x
    cases t with
    | fz0 r => obtain ⟨_, _, rfl, n, q, p, l, r₀⟩ := r.inv_dict; exact ⟨_, _, rfl, p, r₀.trans (fun _ n => n.1) fun _ _ _ e => e⟩
    | fz c r => cases c
    | dict q p l r => exact ⟨_, _, rfl, p, r.rep (fun _ n => n.1) fun a ha => fresh_not_vol hv (f a (.tail _ ha))⟩
  | bor =>
    obtain ⟨O, t, f⟩ := x
    cases t with
    | fz c r => cases c
    | dict q p l r => exact ⟨_, _, rfl, p, OwnE.zero r⟩
  | unk => cases hc
  | fu => cases hc
theorem MkRep.tupItems {hs h : Heap} {mk : Mk} {v : Value} {ds : List D} (hv : ∀ a, F.vol a → ∃ o, hs.get? a = some o) (hc : mk.cat = true) (x : MkRep C F hs h mk v (.tup ds)) :
    TItemsX C h (fun a => ¬ F.vol a) v ds := by
  cases mk with
  | fr => obtain ⟨_, _, rfl, n, p, l, r⟩ := Rep.inv_tup x; exact ⟨_, _, rfl, p, r⟩
  | own k =>
    obtain ⟨O, t, _, f⟩ := x
    cases t with
    | fz0 r => obtain ⟨_, _, rfl, n, p, l, r₀⟩ := r.inv_tup; exact ⟨_, _, rfl, p, r₀.trans (fun _ n => n.1) fun _ _ _ e => e⟩
    | fz c r => obtain ⟨_, _, rfl, n, p, l, r₀⟩ := r.inv_tup; exact ⟨_, _, rfl, p, r₀.trans (fun _ n => n.1) fun _ _ _ e => e⟩
  | bor =>
    obtain ⟨O, t, f⟩ := x
    cases t with
    | fz c r => obtain ⟨_, _, rfl, n, p, l, r₀⟩ := r.inv_tup; exact ⟨_, _, rfl, p, r₀⟩
  | unk => cases hc
  | fu => cases hc
set_option genInjectivity false in
inductive IdxX (d : D) : D → D → Prop
  | list (xs : List D) (i : Int) : (0 ≤ i ∧ i ≤ lim) → xs[i.toNat]? = some d → IdxX d (.list xs) (.int i)
  | tup (xs : List D) (i : Int) : (0 ≤ i ∧ i ≤ lim) → xs[i.toNat]? = some d → IdxX d (.tup xs) (.int i)
  | str (x : Str) (i : Int) : (0 ≤ i ∧ i ≤ lim) → (x.cps[i.toNat]?.map fun c => D.str ⟨#[c]⟩) = some d → IdxX d (.str x) (.int i)
  | dict (kvs : List (Str × D)) (k : Str) : kvs.lookup k = some d → IdxX d (.dict kvs) (.str k)
theorem idxD_inv {a b d : D} (h : idxD a b = some d) : IdxX d a b := by
  cases a with
  | list xs => obtain ⟨i, hi, h⟩ := Option.bind_eq_some_iff.mp h; obtain ⟨q, h⟩ := ite_inv2 h; rw [toI_inv hi]; exact .list _ _ q h
  | tup xs => obtain ⟨i, hi, h⟩ := Option.bind_eq_some_iff.mp h; obtain ⟨q, h⟩ := ite_inv2 h; rw [toI_inv hi]; exact .tup _ _ q h
  | str x => obtain ⟨i, hi, h⟩ := Option.bind_eq_some_iff.mp h; obtain ⟨q, h⟩ := ite_inv2 h; rw [toI_inv hi]; exact .str _ _ q h
  | dict kvs => obtain ⟨k, hk, h⟩ := Option.bind_eq_some_iff.mp h; rw [toS_inv hk]; exact .dict _ _ h
  | _ => cases h
theorem idx_ok {p : Pos} (x₁ : EvOK C Γ l e₁ f₁ m₁) (x₂ : EvOK C Γ l e₂ f₂ m₂) (hs : ∀ o i, subscripted e₂ false o i = operate [o, i] (getItem o i)) : EvOK C Γ l (.Subscript e₁ e₂ p) (bin idxD f₁ f₂) (childM m₁) := by
  refine ⟨fun A F env ρ s d c fd => ?_⟩
  obtain ⟨d₁, h₁, fd⟩ := Option.bind_eq_some_iff.mp fd
  obtain ⟨d₂, h₂, fd⟩ := Option.bind_eq_some_iff.mp fd
  refine Subscript_ (x₁.run c h₁ fun v₁ s₁ e₁ c₁ r₁ => x₂.run c₁ h₂ fun v₂ s₂ e₂ c₂ r₂ => ?_)
  have w₁ := c.weak e₁ r₁
  have w₂ := c₁.weak e₂ r₂
  show Wp C A (subscriptTail _ _ v₁ v₂) (fun v s' => Ext C s s' ∧ MkRep C F s.heap s'.heap (if (m₁ ρ).cat then .fr else .unk) v d) s₂
  cases idxD_inv fd with
  | list xs i hi fq =>
    · obtain ⟨u, rfl⟩ := w₂.inv_int
      obtain ⟨a, vs, rfl, n, pl, l, r⟩ := w₁.inv_list
      obtain ⟨v, hv, rv⟩ := r.get fq
      have pl' : s₂.heap.PlainList a vs.toArray := pl.at fun o => e₂.keep _ o (c.notT _ n)
      refine tail_any pl'.isList.typeIs slot_list_getitem.lookup (wpAny_getItem_list pl'.isList hi.1 (by unfold lim at hi; omega) (by simpa using hv) ⟨e₁.trans e₂, ?_⟩) (hs _ _)
      split
      · rename_i hc
        obtain ⟨a', vs', ea, pa, _, ra⟩ := r₁.items c.rel.hv hc
        cases ea
        obtain rfl := plainList_inj pl pa
        obtain ⟨v', hv', rv'⟩ := ra.get fq
        rw [hv] at hv'; cases hv'
        exact Rep.ext c.notT0 e₂ rv'
      · exact Rep.ext c.notT e₂ rv
  | tup xs i hi fq =>
    · obtain ⟨u, rfl⟩ := w₂.inv_int
      obtain ⟨a, vs, rfl, n, pl, l, r⟩ := w₁.inv_tup
      obtain ⟨v, hv, rv⟩ := r.get fq
      have pl' : PlainTup s₂.heap a vs.toArray := pl.at fun o => e₂.keep _ o (c.notT _ n)
      have hlt : i.toNat < vs.length := (List.getElem?_eq_some_iff.mp hv).1
      refine item_tupleT pl'.isTup (by omega) (by unfold lim at hi; omega) (j := i.toNat) ?_ hv ⟨e₁.trans e₂, ?_⟩ (hs _ _)
      · exact seqIndex_nat hi.1 hlt
      · split
        · rename_i hc
          obtain ⟨a', vs', ea, pa, ra⟩ := r₁.tupItems c.rel.hv hc
          cases ea
          obtain rfl := plainTup_inj pl pa
          obtain ⟨v', hv', rv'⟩ := ra.get fq
          rw [hv] at hv'; cases hv'
          exact Rep.ext c.notT0 e₂ rv'
        · exact Rep.ext c.notT e₂ rv
  | str x i hi fq =>
    · obtain ⟨ch, hch, rfl⟩ := Option.map_eq_some_iff.mp fq
      obtain ⟨u, rfl⟩ := w₂.inv_int
      obtain ⟨t, rfl, hx⟩ := w₁.inv_str
      have hlt : i.toNat < x.cps.size := (Array.getElem?_eq_some_iff.mp hch).1
      have hok : PyData.strOk ⟨#[ch]⟩ = true := by
        unfold PyData.strOk at *
        have := Array.all_eq_true.mp hx i.toNat hlt
        rw [(Array.getElem?_eq_some_iff.mp hch).2] at this
        simpa using this
      have hsi : (seqIndex? i x.length).bind (x.cps[·]?) = some ch := by
        rw [show x.length = x.cps.size from rfl, seqIndex_nat hi.1 hlt]
        exact hch
      refine tail_any (typeIs_str s₂ x t) slot_str_getitem.lookup (getItem_str (by unfold lim at hi; simp; omega) hsi ⟨(e₁.trans e₂).trans tok_ext, MkRep.imm (N := fun _ => True) (h₀ := s.heap) rfl (.str _ _ hok)⟩) (hs _ _)
  | dict kvs k fq =>
    obtain ⟨u, rfl, hk⟩ := w₂.inv_str
    obtain ⟨a, vs, rfl, n, q, pl, l, r⟩ := w₁.inv_dict
    have pl' : s₂.heap.DictOf (PySem.strKind C.prog C.w) a vs := DictOf.at pl fun o => e₂.keep _ o (c.notT _ n)
    rcases r.lookup k with ⟨_, h2⟩ | ⟨v, d', h1, h2, rv⟩
    · rw [h2] at fq; cases fq
    · rw [h2] at fq; cases fq
      refine tail_any pl'.typeIs slot_dict_getitem.lookup (wpAny_getItem_of (strKind_is _ _ _ _) pl'.mapOf h1 ⟨(e₁.trans e₂).trans tok_ext, ?_⟩) (hs _ _)
      show MkRep C F s.heap s₂.heap _ _ _
      split
      · rename_i hc
        obtain ⟨a', vs', ea, pa, ra⟩ := r₁.dictItems c.rel.hv hc
        cases ea
        obtain rfl := dictOf_inj pl pa
        rcases ra.lookup k with ⟨h1', _⟩ | ⟨v', d', h1', h2', rv'⟩
        · rw [h1] at h1'; cases h1'
        · rw [h1] at h1'; cases h1'
          rw [h2] at h2'; cases h2'
          exact Rep.ext c.notT0 e₂ rv'
      · exact Rep.ext c.notT e₂ rv
end
end Mine

set_option autoImplicit false
open PySem PyProof.Rows
namespace Mine
set_option linter.unusedVariables false

/-! slices of lists: the bounds left out, or ints that are 0 or more -/
noncomputable def PartOK (C : Cfg) (Γ : Sc) (l : Nat) (e : Option Expr) (f : EEnv → Option (Option Nat)) : Prop :=
  ∀ (A : Around) (F : Fx) (env : Env) (ρ : EEnv) (s : Shared) (k : Option Nat), Cx C Γ l A F env ρ s → f ρ = some k →
    Wp C A (evalPart e env) (fun v s' => Ext C s s' ∧ IsPart v (k.map Int.ofNat)) s
noncomputable def natF (f : EEnv → Option D) : EEnv → Option (Option Nat) := fun ρ => (f ρ).bind fun d => (toI d).bind fun i => if 0 ≤ i then some (some i.toNat) else none
noncomputable def sliceL {α : Type} (xs : List α) (lo hi : Option Nat) : List α := match lo, hi with
  | none, none => xs
  | some a, none => xs.drop a
  | none, some b => xs.take b
  | some a, some b => (xs.take b).drop a
noncomputable def sliceD (d : D) (lo hi : Option Nat) : Option D := (toL d).bind fun xs => if (lo.isSome && hi.isSome) = false then some (.list (sliceL xs lo hi)) else none
theorem sliceD_inv {d₁ d : D} {lo hi : Option Nat} (h : sliceD d₁ lo hi = some d) : ∃ xs, d₁ = .list xs ∧ (lo.isSome && hi.isSome) = false ∧ d = .list (sliceL xs lo hi) := by
  obtain ⟨xs, hx, h⟩ := Option.bind_eq_some_iff.mp h
  obtain ⟨q, h⟩ := ite_inv h
  exact ⟨xs, toL_inv hx, q, h.symm⟩
noncomputable def sliceF (f : EEnv → Option D) (lo hi : EEnv → Option (Option Nat)) : EEnv → Option D := fun ρ => (f ρ).bind fun d => (lo ρ).bind fun a => (hi ρ).bind fun b => sliceD d a b
section
variable {C : Cfg} {Γ : Sc} {l : Nat} {A : Around} {F : Fx} {env : Env} {ρ : EEnv} {s : Shared} {d : D} {e e₁ e₂ : Expr} {es : List Expr} {f f₁ f₂ : EEnv → Option D} {m m₁ m₂ : EEnv → Mk} {fs : EEnv → Option (List D)} {cl : EEnv → Bool}
theorem part_none : PartOK C Γ l none (fun _ => some none) := fun A F env ρ s k c fd => by cases fd; exact wpAny_evalPart_none ⟨Ext.refl C s, .none⟩
theorem part_some (x : EvOK C Γ l e f m) : PartOK C Γ l (some e) (natF f) := fun A F env ρ s k c fd => by
  obtain ⟨d, h, fd⟩ := Option.bind_eq_some_iff.mp fd
  refine wpAny_evalPart_some (x.run c h fun v s' e' c' r' => ?_)
  have w := c.weak e' r'
  obtain ⟨i, hi, fd⟩ := Option.bind_eq_some_iff.mp fd
  obtain ⟨h0, rfl⟩ := ite_inv fd
  cases toI_inv hi
  obtain ⟨t, rfl⟩ := w.inv_int
  have : (some i.toNat).map Int.ofNat = some i := congrArg some (Int.toNat_of_nonneg h0)
  rw [this]
  exact ⟨e', .int _ _⟩
theorem slicePick_nat (vs : List Value) (lo hi : Option Nat) (hb : (lo.isSome && hi.isSome) = false) : slicePick vs.toArray (lo.map Int.ofNat) (hi.map Int.ofNat) none = (sliceL vs lo hi).toArray := by
  cases lo with
  | none =>
    cases hi with
    | none => simpa [sliceL] using slicePick_all vs.toArray
    | some b => simpa [sliceL] using slicePick_upto' vs.toArray b
  | some a =>
    cases hi with
    | none => simpa [sliceL] using slicePick_from' vs.toArray a
    | some b => cases hb
theorem RepL.slice {prog : Program} {w : World} {h : Heap} {N : Addr → Prop} {vs : List Value} {ds : List D} (r : RepL prog w h N vs ds) (lo hi : Option Nat) : RepL prog w h N (sliceL vs lo hi) (sliceL ds lo hi) := by
  cases lo <;> cases hi
  · exact r
  · exact r.take _
  · exact r.drop _
  · exact (r.take _).drop _
theorem sliceL_length {α : Type} (xs : List α) (lo hi : Option Nat) : (sliceL xs lo hi).length ≤ xs.length := by
  cases lo <;> cases hi <;> simp [sliceL] <;> omega
theorem slice_ok {lo hi : Option Expr} {flo fhi : EEnv → Option (Option Nat)} {p pos : Pos} (x : EvOK C Γ l e f m) (xl : PartOK C Γ l lo flo) (xh : PartOK C Γ l hi fhi) :
    EvOK C Γ l (.Subscript e (.Slice lo hi none p) pos) (sliceF f flo fhi) (copyM m) := by
  refine ⟨fun A F env ρ s d c fd => ?_⟩
  obtain ⟨d₁, h₁, fd⟩ := Option.bind_eq_some_iff.mp fd
  obtain ⟨a, h₂, fd⟩ := Option.bind_eq_some_iff.mp fd
  obtain ⟨b, h₃, fd⟩ := Option.bind_eq_some_iff.mp fd
  obtain ⟨xs, rfl, hab, rfl⟩ := sliceD_inv fd
  refine Subscript_ (x.run c h₁ fun v₁ s₁ e₁ c₁ r₁ => wpAny_Slice ?_)
  refine wpAny_mono (xl A F env ρ s₁ a c₁ h₂) (fun vl s₂ k₂ => ?_) fun _ _ e => e
  obtain ⟨e₂, il⟩ := k₂
  refine wpAny_mono (xh A F env ρ s₂ b (c₁.ext e₂) h₃) (fun vu s₃ k₃ => ?_) fun _ _ e => e
  obtain ⟨e₃, iu⟩ := k₃
  refine wpAny_evalPart_none ?_
  have w₁ := c.weak e₁ r₁
  obtain ⟨ad, vs, rfl, n, pl, ln, r⟩ := w₁.inv_list
  have e₂₃ := e₂.trans e₃
  have pl3 : s₃.heap.PlainList ad vs.toArray := pl.at fun o => e₂₃.keep _ o (c.notT _ n)
  have pl4 : (s₃.heap.push { cls := .type "slice", data := .fields #[vl, vu, .none] }).PlainList ad vs.toArray := pl3.at fun o e => push_keeps _ o e
  refine tail_any (ops := [_, _]) pl4.isList.typeIs slot_list_getitem.lookup ?_ rfl
  refine wpAny_getItem_list_slice pl4.isList ⟨_, Heap.get?_push_size _ rfl, rfl, rfl⟩ il iu .none (by simp) ?_ (by simpa using ln)
  rw [slicePick_nat _ _ _ hab]
  have ee := (e₁.trans e₂₃)
  have ee4 : Ext C s { s₃ with heap := s₃.heap.push { cls := .type "slice", data := .fields #[vl, vu, .none] } } := ee.trans push_ext'
  have hsz : (sliceL vs a b).length ≤ sizeLine := Nat.le_trans (sliceL_length _ _ _) ln
  refine ⟨ee4.trans push_ext', ?_⟩
  have hfr := fresh_size (s₃.heap.push { cls := .type "slice", data := .fields #[vl, vu, .none] })
  have hfs := ee4.none hfr
  show MkRep C F s.heap _ (if (m ρ).cat then .own 1 else .fu) _ _
  split
  · rename_i hc
    obtain ⟨a', vs', ea, pa, _, ra⟩ := r₁.items c.rel.hv hc
    cases ea
    obtain rfl := plainList_inj pl pa
    exact own1_list hfs hfr (push_plain _ _) hsz (fun b o _ e => push_keeps b o e) ((ra.trans (fun _ n => n) fun b o n e => push_keeps b o (e₂₃.keep b o (c.notT0 b n) e)).slice a b)
  · refine ⟨.list (fun q => fresh_not_vol (c.vol_later ee4) hfr (c.rel.vc _ q)) (push_plain _ _) hsz ?_, fun a e => by cases e; exact hfs⟩
    exact (r.trans (fun _ n => n) fun b o n e => push_keeps b o (push_keeps b o (e₂₃.keep b o (c.notT b n) e))).slice a b
end
end Mine

set_option autoImplicit false
open PySem PyProof.Rows
namespace Mine
set_option linter.unusedVariables false

/-! calls of the text's own -/
set_option genInjectivity false in
inductive FnPost (C : Cfg) (s : Shared) (N : Addr → Prop) (rf : Bool) (d : D) (r : Result) (s' : Shared) : Prop
  | mk (v : Value) : r = .ok (.ret v) → Ext C s s' → RepC C s'.heap N v d → (rf = true → ∀ a, v = .ref a → s.heap.get? a = none) → FnPost C s N rf d r s'
noncomputable def FnOK (C : Cfg) (f : Addr) (l : Nat) (rf : Bool) (φ : List D → Option D) : Prop :=
  ∀ (A : Around) (s : Shared) (vs : List Value) (ds : List D) (d : D) (N : Addr → Prop), Room A l → GlobOK C s.heap → NOK C s.heap N → RepLC C s.heap N vs ds → φ ds = some d →
    codeAny (model C.prog C.w) A (.call (.ref f) ⟨vs, []⟩) (FnPost C s N rf d) s
set_option genInjectivity false in
inductive FnG (C : Cfg) (x : Str) (l : Nat) (rf : Bool) (φ : List D → Option D) : Prop
  | mk (fa : Addr) (o : Obj) (fd : FuncData) : C.mg x = some (.ref fa) → C.K.lookup fa = some o → o.data = .func fd → FnOK C fa l rf φ → FnG C x l rf φ
theorem Room.le {A : Around} {l l' : Nat} (r : Room A l) (h : l' ≤ l) : Room A l' := ⟨r.1, Nat.lt_of_le_of_lt (Nat.add_le_add_left h _) r.2.1, Nat.lt_of_le_of_lt (Nat.add_le_add_right (Nat.add_le_add_left (Nat.mul_le_mul_left 10 h) _) _) r.2.2⟩
noncomputable def callM (cl : EEnv → Bool) (rf : Bool) : EEnv → Mk := fun ρ => if cl ρ then .fr else if rf then .fu else .unk
noncomputable def callF (φ : List D → Option D) (fs : EEnv → Option (List D)) : EEnv → Option D := fun ρ => (fs ρ).bind φ
section
variable {C : Cfg} {Γ : Sc} {l : Nat} {A : Around} {F : Fx} {env : Env} {ρ : EEnv} {s : Shared} {d : D} {e e₁ e₂ : Expr} {es : List Expr} {f f₁ f₂ : EEnv → Option D} {m m₁ m₂ : EEnv → Mk} {fs : EEnv → Option (List D)} {cl : EEnv → Bool}
theorem Cx.nok (c : Cx C Γ l A F env ρ s) : NOK C s.heap (fun a => ¬ F.volc a) := ⟨fun a e q => c.fresh_vol e (c.rel.vc a q), c.notT, fun a o k q => c.rel.vK a o k (c.rel.vc a q), fun a h q => c.rel.vlow a h (c.rel.vc a q)⟩
theorem Cx.nok0 (c : Cx C Γ l A F env ρ s) : NOK C s.heap (fun a => ¬ F.vol a) := ⟨fun a e => c.fresh_vol e, c.notT0, c.rel.vK, c.rel.vlow⟩
theorem call_ok {x : Str} {np p : Pos} {l' : Nat} {rf : Bool} {φ : List D → Option D} (hf : FnG C x l' rf φ) (hl : l' ≤ l) (hk : Γ.names.lookup x = some .globalImplicit) (hd : (x == ("__debug__" : Str)) = false)
    (y : ArgsOK C Γ l (e :: es) fs cl) (he : ∀ env, starEach (e :: es) env = (false, eval e env) :: starEach es env) : EvOK C Γ l (.Call (.Name x np) (e :: es) [] p) (callF φ fs) (callM cl rf) := by
  refine ⟨fun A F env ρ s d c fd => ?_⟩
  obtain ⟨ds, h₁, fd⟩ := Option.bind_eq_some_iff.mp fd
  obtain ⟨fa, o, fdd, hmg, hK, hdat, hF⟩ := hf
  refine wpAny_Call_NameR (global_name c hk hmg hd ?_)
  refine callWith_def hdat (wpAny_mono (y.ev A F env ρ s ds p c h₁) (fun vs s₁ k₁ => ?_) fun _ _ e => e) (he env)
  obtain ⟨e₁, _, w, k⟩ := k₁
  have c₁ := c.ext e₁
  refine ⟨c₁.glob.inK _ _ hK, wpAny_call ?_⟩
  by_cases hc : cl ρ = true
  · refine codeAny_mono (hF A s₁ vs ds d _ (c.room.le hl) c₁.glob c₁.nok0 (k hc) fd) fun r s₂ q => ?_
    obtain ⟨v, rfl, e₂, rv, _⟩ := q
    refine ⟨e₁.trans e₂, ?_⟩
    simp only [callM, hc, if_true]
    exact rv
  · refine codeAny_mono (hF A s₁ vs ds d _ (c.room.le hl) c₁.glob c₁.nok w fd) fun r s₂ q => ?_
    obtain ⟨v, rfl, e₂, rv, hr⟩ := q
    refine ⟨e₁.trans e₂, ?_⟩
    simp only [callM, hc]
    cases rf with
    | true => exact ⟨rv, fun a q => e₁.none (hr rfl a q)⟩
    | false => exact rv

/-! built-in functions -/
/-- a built-in name of the top's is not hidden -/
noncomputable def BI (C : Cfg) (Γ : Sc) (x : Str) : Prop := Γ.names.lookup x = some .globalImplicit ∧ C.mg x = none ∧ x ≠ "__name__" ∧ (x == ("__debug__" : Str)) = false
noncomputable def lenD (d : D) : Option D := dcase d none (fun _ => none) (fun _ => none) (fun _ => none) (fun xs => some (.int xs.length)) (fun xs => some (.int xs.length)) (fun kvs => some (.int kvs.length)) fun _ _ _ => none
theorem len_lt (n : Nat) (h : n ≤ sizeLine) : (n : Int) < 2 ^ 63 := by unfold sizeLine at h; omega
theorem call1 {x : Str} {np p : Pos} {id : String} {Q : Value → Shared → Prop} (c : Cx C Γ l A F env ρ s) (hb : BI C Γ x) (hv : bootBuiltins x = some (.builtin id)) (he : ∀ env, starEach [e] env = [(false, eval e env)])
    (h : Wp C A (eval e env) (fun v s₁ => Wp C A (call (.builtin id) [v]) Q s₁) s) : Wp C A (eval (.Call (.Name x np) [e] [] p) env) Q s := by
  refine wpAny_Call_NameR (builtin_name c hb.1 hb.2.1 hv hb.2.2.1 hb.2.2.2 ?_)
  exact callWith_builtin1 (args_cons (wpAny_mono h (fun v s₁ k => args_nil k) fun _ _ e => e) (he env)) (he env)
theorem len_ok {np p : Pos} (hb : BI C Γ "len") (x : EvOK C Γ l e f m) (he : ∀ env, starEach [e] env = [(false, eval e env)]) : EvOK C Γ l (.Call (.Name "len" np) [e] [] p) (un lenD f) (fun _ => .fr) := by
  refine ⟨fun A F env ρ s d c fd => ?_⟩
  obtain ⟨d₁, h₁, fd⟩ := Option.bind_eq_some_iff.mp fd
  refine call1 c hb (id := "len") (by decide +kernel) he (x.run c h₁ fun v s₁ e₁ c₁ r₁ => ?_)
  have w := c.weak e₁ r₁
  cases w with
  | list n pl ln r =>
    cases fd
    refine len_list pl.isList (by simpa using len_lt _ ln) ⟨e₁.trans tok_ext, ?_⟩
    rw [List.size_toArray, r.length]
    exact .int _ _
  | tup n pl ln r =>
    cases fd
    refine len_tuple pl.isTup (by simpa using len_lt _ ln) ⟨e₁.trans tok_ext, ?_⟩
    rw [List.size_toArray, r.length]
    exact .int _ _
  | dict n q pl ln r =>
    cases fd
    refine call_len_dict q pl (len_lt _ ln) ⟨e₁.trans tok_ext, ?_⟩
    rw [r.length]
    exact .int _ _
  | _ => cases fd
noncomputable def rangeD (d : D) : Option D := (toI d).bind fun n => some (.rng 0 n 1)
theorem callT {x : Str} {np p : Pos} {T : String} {Q : Value → Shared → Prop} {es : List Expr} (c : Cx C Γ l A F env ρ s) (hb : BI C Γ x) (hv : bootBuiltins x = some (.type T)) (he : ∀ env, starEach (e :: es) env = (false, eval e env) :: starEach es env)
    (hpl : ∀ env, (backTo p (starEach es env)).any (·.1) = false)
    (h : Wp C A (spliced (backTo p (starEach (e :: es) env))) (fun vs s₁ => Wp C A (call (.type T) vs) Q s₁) s) : Wp C A (eval (.Call (.Name x np) (e :: es) [] p) env) Q s := by
  refine wpAny_Call_NameR (builtin_name c hb.1 hb.2.1 hv hb.2.2.1 hb.2.2.2 ?_)
  exact callWith_type1 h (he env) (hpl env)
theorem range_ok {np p : Pos} (hb : BI C Γ "range") (x : EvOK C Γ l e f m) (he : ∀ env, starEach [e] env = [(false, eval e env)]) : EvOK C Γ l (.Call (.Name "range" np) [e] [] p) (un rangeD f) (fun _ => .fr) := by
  refine ⟨fun A F env ρ s d c fd => ?_⟩
  obtain ⟨d₁, h₁, fd⟩ := Option.bind_eq_some_iff.mp fd
  refine callT c hb (T := "range") (by decide +kernel) he (fun _ => rfl) (args_cons (x.run c h₁ fun v s₁ e₁ c₁ r₁ => args_nil ?_) (he env))
  have w := c.weak e₁ r₁
  obtain ⟨i, hi, fd⟩ := Option.bind_eq_some_iff.mp fd
  cases fd
  cases toI_inv hi
  obtain ⟨_, rfl⟩ := w.inv_int
  exact call_range_1 ⟨e₁.trans push_ext, .rng (fresh_not_vol (c.vol_later e₁) (fresh_size _)) (IsRange.new ..)⟩
end
end Mine

set_option autoImplicit false
open PySem PyProof.Rows
namespace Mine
set_option linter.unusedVariables false

/-! sorting texts -/
noncomputable def unStrs : List D → Option (List Str)
  | [] => some []
  | d :: r => (toS d).bind fun x => (unStrs r).map (x :: ·)
noncomputable def unBools : List D → Option (List Bool)
  | [] => some []
  | d :: r => (toB d).bind fun x => (unBools r).map (x :: ·)
noncomputable def anyD (d : D) : Option D := (d.items.bind unBools).map fun bs => .bool (bs.any id)

section
variable {prog : Program} {w : World} {h : Heap} {N : Addr → Prop}
theorem RepL.strs {vs : List Value} {ds : List D} {ss : List Str} (x : RepL prog w h N vs ds) (e : unStrs ds = some ss) : StrsAre vs ss ∧ ∀ x ∈ ss, PyData.strOk x = true := by
  induction vs generalizing ds ss with
  | nil => cases x; cases e; exact ⟨.nil, fun _ h => nomatch h⟩
  | cons v vs ih =>
    cases x with
    | @cons _ _ d ds a r =>
      obtain ⟨y, hd, e⟩ := Option.bind_eq_some_iff.mp e
      cases toS_inv hd
      obtain ⟨t, rfl, hy⟩ := a.inv_str
      obtain ⟨ss', e', rfl⟩ := Option.map_eq_some_iff.mp e
      obtain ⟨p, q⟩ := ih r e'
      exact ⟨.cons y t p, fun z hz => (List.mem_cons.mp hz).elim (fun q => q ▸ hy) (q z)⟩
theorem unBools_get {ds : List D} {bs : List Bool} (e : unBools ds = some bs) : ds = bs.map D.bool := by
  induction ds generalizing bs with
  | nil => cases e; rfl
  | cons d r ih =>
    obtain ⟨x, hx, e⟩ := Option.bind_eq_some_iff.mp e
    obtain ⟨bs', e', rfl⟩ := Option.map_eq_some_iff.mp e
    rw [ih e', toB_inv hx]; rfl
end

section
variable {C : Cfg} {Γ : Sc} {l : Nat} {A : Around} {F : Fx} {env : Env} {ρ : EEnv} {s : Shared} {d : D} {e e₁ e₂ : Expr} {es : List Expr} {f f₁ f₂ : EEnv → Option D} {m m₁ m₂ : EEnv → Mk} {fs : EEnv → Option (List D)} {cl : EEnv → Bool}
theorem truthOf {n : Nat} {P : Nat → Value → Prop} {bs : List Bool} {hs : Heap} {N : Addr → Prop} (hP : ∀ i v, P i v → ∃ d, (bs.map D.bool)[i]? = some d ∧ RepC C hs N v d) : TruthOf C.prog C.w A P (fun i => (bs[i]?).getD false) := by
  intro i v s Q E hp hq
  obtain ⟨d, hd, r⟩ := hP i v hp
  rw [List.getElem?_map] at hd
  obtain ⟨b, hb, rfl⟩ := Option.map_eq_some_iff.mp hd
  cases r
  dsimp only at hq
  rw [hb] at hq
  exact wpAny_truthy_bool hq
theorem range_any (bs : List Bool) : (List.range bs.length).any (fun i => (bs[i]?).getD false) = bs.any id := by
  have : bs = (List.range bs.length).map fun i => (bs[i]?).getD false := by
    apply List.ext_getElem? ; intro i
    by_cases h : i < bs.length
    · simp [h]
    · simp [h]
  conv => rhs; rw [this, List.any_map]
  rfl
theorem any_ok {np p : Pos} (hb : BI C Γ "any") (x : EvOK C Γ l e f m) (he : ∀ env, starEach [e] env = [(false, eval e env)]) : EvOK C Γ l (.Call (.Name "any" np) [e] [] p) (un anyD f) (fun _ => .fr) := by
  refine ⟨fun A F env ρ s d c fd => ?_⟩
  obtain ⟨d₁, h₁, fd⟩ := Option.bind_eq_some_iff.mp fd
  obtain ⟨bs, fd', rfl⟩ := Option.map_eq_some_iff.mp fd
  obtain ⟨ds, hi, fd''⟩ := Option.bind_eq_some_iff.mp fd'
  obtain rfl := unBools_get fd''
  refine call1 c hb (id := "any") (by decide +kernel) he (x.run c h₁ fun v s₁ e₁ c₁ r₁ => ?_)
  have w := c.weak e₁ r₁
  refine call_any_walk (wpAny_mono (iter_ok (w.two hi) hi (A := A.in1) c.room.1) (fun it s₂ k => ?_) fun _ _ e => e)
  obtain ⟨e₂, I, fp, wr, P, St, rfl, W, st, hwr, hfp, hlt, hP, _, _, _⟩ := k
  refine ⟨I, fp, wr, _, P, St, _, rfl, W, st, truthOf (n := 0) hP, fun h' tk hk => ⟨e₁.trans (Ext.wr c₁.glob e₂ (W := (· ∈ wr)) hwr hk), ?_⟩⟩
  rw [List.length_map, range_any]; exact .bool _
end
end Mine

set_option autoImplicit false
open PySem PyProof.Rows
namespace Mine
set_option linter.unusedVariables false

/-- states where the objects of V may have turned -/
structure ExtV (C : Cfg) (V : Addr → Prop) (s s' : Shared) : Prop where
  keep : ∀ b o, ¬ C.T b → ¬ V b → s.heap.get? b = some o → s'.heap.get? b = some o
  dom : ∀ b o, s.heap.get? b = some o → ∃ o', s'.heap.get? b = some o'
  tab : C.TB s.heap → C.TB s'.heap
  gens : AllBare s.gens → AllBare s'.gens
  os : s'.os = s.os
theorem Ext.v {C : Cfg} {V : Addr → Prop} {s s' : Shared} (e : Ext C s s') : ExtV C V s s' := ⟨fun b o t _ q => e.keep b o t q, e.dom, e.tab, e.gens, e.os⟩
theorem ExtV.none {C : Cfg} {V : Addr → Prop} {s s' : Shared} (x : ExtV C V s s') {a : Addr} (e : s'.heap.get? a = Option.none) : s.heap.get? a = Option.none := by
  cases q : s.heap.get? a with
  | none => rfl
  | some o => obtain ⟨o', e'⟩ := x.dom a o q; rw [e] at e'; cases e'
theorem ExtV.trans {C : Cfg} {V V' : Addr → Prop} {s s' s'' : Shared} (x : ExtV C V s s') (y : ExtV C V' s' s'') (h : ∀ b, V' b → V b ∨ s.heap.get? b = Option.none) : ExtV C V s s'' :=
  ⟨fun b o t n q => y.keep b o t (fun v => (h b v).elim n fun z => by rw [z] at q; cases q) (x.keep b o t n q), fun b o q => let ⟨_, q'⟩ := x.dom b o q; y.dom b _ q', fun t => y.tab (x.tab t), fun g => y.gens (x.gens g), y.os.trans x.os⟩
theorem ExtV.ext {C : Cfg} {V : Addr → Prop} {s s' : Shared} (x : ExtV C V s s') (h : ∀ b, V b → s.heap.get? b = Option.none) : Ext C s s' :=
  ⟨fun b o t q => x.keep b o t (fun v => by rw [h b v] at q; cases q) q, x.dom, x.tab, x.gens, x.os⟩
theorem GlobOK.extV {C : Cfg} {V : Addr → Prop} {s s' : Shared} (x : GlobOK C s.heap) (e : ExtV C V s s') (hK : ∀ a o, C.K.lookup a = some o → ¬ V a) (hg : ¬ V mainGlobals) (hb : ¬ V builtinsNs) (hs : ¬ V cStatics) : GlobOK C s'.heap :=
  ⟨fun a o q => e.keep a o (C.hK a o q) (hK a o q) (x.inK a o q), Ns.kept x.g fun o => e.keep _ o C.hTg hg, Ns.kept x.b fun o => e.keep _ o C.hTb hb, x.bi, (let ⟨mc, p, q⟩ := x.nolim; ⟨mc, Ns.kept p fun o => e.keep _ o C.hTs hs, q⟩), e.tab x.tb,
    fun a t => let ⟨o, q⟩ := x.tdom a t; e.dom a o q⟩

noncomputable def LocA (F : Fx) (b : Addr) : Prop := ∃ l ∈ F.locs, l.addr = b
noncomputable def LocI (F : Fx) (is : List Nat) (b : Addr) : Prop := ∃ i ∈ is, ∃ l, F.locs[i]? = some l ∧ l.addr = b
theorem LocI.a {F : Fx} {is : List Nat} {b : Addr} (x : LocI F is b) : LocA F b := let ⟨_, _, l, h, e⟩ := x; ⟨l, List.mem_of_getElem? h, e⟩
theorem LocI.mono {F : Fx} {is js : List Nat} {b : Addr} (h : ∀ i ∈ is, i ∈ js) (x : LocI F is b) : LocI F js b := let ⟨i, hi, r⟩ := x; ⟨i, h i hi, r⟩
theorem ExtV.mono {C : Cfg} {V V' : Addr → Prop} {s s' : Shared} (x : ExtV C V s s') (h : ∀ b, V b → V' b) : ExtV C V' s s' := ⟨fun b o t n q => x.keep b o t (fun v => n (h b v)) q, x.dom, x.tab, x.gens, x.os⟩

section
variable {C : Cfg} {Γ : Sc} {l : Nat} {A : Around} {F : Fx} {env : Env} {ρ : EEnv} {s : Shared} {d : D}
/-- a name of the frame is stored -/
theorem RelE.store {h h' : Heap} {i : Nat} {lc : Loc} {v : Value} (r : RelE C F h ρ) (hi : F.locs[i]? = some lc) (hsb : ∀ b, b ≠ lc.addr → h'.get? b = h.get? b) (hv : LocHas h' lc v)
    (hns : ∀ L x, lc = .ns L x → ∀ m, h.Ns L m → h'.Ns L (fun y => if y = x then some v else m y)) (rv : RepC C h (fun a => ¬ F.vol a) v d) : RelE C F h' (ρ.set i (some (d, .fr))) := by
  have hlv : F.volc lc.addr := (r.loc lc (List.mem_of_getElem? hi)).1
  have hex : ∃ o, h'.get? lc.addr = some o := by
    cases lc with
    | ns L x => obtain ⟨m, ⟨o, _, _, e, _⟩, _⟩ := hv; exact ⟨o, e⟩
    | cell c => obtain ⟨o, e, _⟩ := hv; exact ⟨o, e⟩
  have kv : ∀ a o, ¬ F.vol a → h.get? a = some o → h'.get? a = some o := fun a o n q => (hsb a (fun e => n (e ▸ r.vc _ hlv))).trans q
  have kc : ∀ a o, ¬ F.volc a → h.get? a = some o → h'.get? a = some o := fun a o n q => (hsb a (fun e => n (e ▸ hlv))).trans q
  have other : ∀ (j : Nat) (lj : Loc), F.locs[j]? = some lj → j ≠ i → ∀ u, LocHas h lj u → LocHas h' lj u := by
    intro j lj hj hne u hu
    by_cases ha : lj.addr = lc.addr
    · obtain ⟨L, x, y, rfl, rfl, hxy⟩ := r.dist j i lj lc hj hi hne ha
      obtain ⟨m, hm, hmu⟩ := hu
      exact ⟨_, hns L y rfl m hm, by rw [if_neg hxy]; exact hmu⟩
    · exact hu.kept fun o q => (hsb _ ha).trans q
  refine ⟨fun a q => ?_, r.vc, r.vT, r.vK, r.vlow, r.newc, fun a q => ?_, r.loc, fun lj hlj => ?_, r.dist, by rw [List.length_set]; exact r.len, fun j dj mj q => ?_⟩
  · by_cases ha : a = lc.addr
    · subst ha; exact hex
    · rw [hsb a ha]; exact r.hv a q
  · by_cases ha : a = lc.addr
    · subst ha; obtain ⟨o, e⟩ := hex; rw [e] at q; cases q
    · rw [hsb a ha] at q; exact r.newf a q
  · by_cases ha : lj.addr = lc.addr
    · cases lj with
      | ns L x =>
        obtain ⟨m, hm⟩ := r.locex _ hlj
        cases lc with
        | ns L' x' => cases ha; exact ⟨_, hns _ _ rfl m hm⟩
        | cell c =>
          exfalso
          obtain ⟨j, hj⟩ := List.mem_iff_getElem?.mp hlj
          by_cases hji : j = i
          · subst hji; rw [hi] at hj; cases hj
          · obtain ⟨_, _, _, _, q, _⟩ := r.dist j i _ _ hj hi hji ha; cases q
      | cell c =>
        cases lc with
        | ns L' x' =>
          exfalso
          obtain ⟨j, hj⟩ := List.mem_iff_getElem?.mp hlj
          by_cases hji : j = i
          · subst hji; rw [hi] at hj; cases hj
          · obtain ⟨_, _, _, q, _, _⟩ := r.dist j i _ _ hj hi hji ha; cases q
        | cell c' => cases ha; exact ⟨_, hv⟩
    · exact (r.locex lj hlj).kept fun o q => (hsb _ ha).trans q
  · by_cases hji : j = i
    · subst hji
      have hjl : j < ρ.length := by rw [r.len]; exact (List.getElem?_eq_some_iff.mp hi).1
      rw [List.getElem?_set_self hjl] at q
      cases q
      exact ⟨lc, v, hi, hv, rv.trans (fun _ n => n) kv⟩
    · rw [List.getElem?_set_ne (fun e => hji e.symm)] at q
      obtain ⟨lj, u, h1, h2, h3⟩ := r.slot j dj mj q
      refine ⟨lj, u, h1, other j lj h1 hji u h2, ?_⟩
      cases mj with
      | fr => exact Rep.trans (fun _ n => n) kv h3
      | bor =>
        obtain ⟨O, t, f⟩ := h3
        exact ⟨O, t.trans (fun _ n => n) kv fun a ha o q => kc a o (r.newc a (f a ha)) q, f⟩
      | own k => exact Rep.trans (fun _ n => n) kc h3
      | unk => exact Rep.trans (fun _ n => n) kc h3
      | fu => exact Rep.trans (fun _ n => n) kc h3
theorem vol_tab {h h' : Heap} {V : Addr → Prop} (hT : ∀ b, V b → ¬ C.T b) (hK : ∀ b o, C.K.lookup b = some o → ¬ V b) (k : ∀ b o, ¬ V b → h.get? b = some o → h'.get? b = some o) : C.TB h → C.TB h' :=
  C.hTB _ _ fun b o hb q => k b o (fun v => hb.elim (hT b v) fun z => by obtain ⟨o', z⟩ := Option.isSome_iff_exists.mp z; exact hK b o' z v) q
theorem store_ok {x : Str} {i : Nat} {v : Value} (c : Cx C Γ l A F env ρ s) (hx : Γ.slots.lookup x = some i) (rv : RepC C s.heap (fun a => ¬ F.vol a) v d) :
    Wp C A (storeName env x v) (fun _ s' => ExtV C (LocI F [i]) s s' ∧ RelE C F s'.heap (ρ.set i (some (d, .fr)))) s := by
  have ev : ∀ (lc : Loc) (h' : Heap) (tk : Nat), F.locs[i]? = some lc → (∀ b, b ≠ lc.addr → h'.get? b = s.heap.get? b) → (∃ o, h'.get? lc.addr = some o) → ExtV C (LocI F [i]) s { s with heap := h', toks := tk } := by
    intro lc h' tk hm hsb hex
    have kk : ∀ b o, ¬ LocI F [i] b → s.heap.get? b = some o → h'.get? b = some o := fun b o n q => (hsb b (fun e => n ⟨i, .head _, lc, hm, e.symm⟩)).trans q
    refine ⟨fun b o _ n q => kk b o n q, fun b o q => ?_, vol_tab (V := LocI F [i]) ?_ ?_ kk, id, rfl⟩
    · by_cases hb : b = lc.addr
      · subst hb; exact hex
      · exact ⟨o, (hsb b hb).trans q⟩
    · rintro b ⟨_, _, lc', hm', rfl⟩; exact (c.rel.loc lc' (List.mem_of_getElem? hm')).2
    · rintro b o k ⟨_, _, lc', hm', rfl⟩; exact c.rel.vK _ o k (c.rel.vc _ (c.rel.loc lc' (List.mem_of_getElem? hm')).1)
  rcases c.env.slot x i hx with ⟨q, nk⟩ | ⟨cc, q, nk, ck⟩
  · have hm := List.mem_of_getElem? q
    obtain ⟨m, hn⟩ := c.rel.locex _ hm
    refine wpAny_storeName_local (by unfold Env.kindOf; rw [c.env.names]; exact nk) hn (fun h' hn' hs' => ?_) (by rw [c.env.kind]; rfl)
    refine ⟨ev _ h' _ q (fun b hb => hs'.2 b hb) (let ⟨o, _, _, e, _⟩ := hn'; ⟨o, e⟩), ?_⟩
    refine c.rel.store q (fun b hb => hs'.2 b hb) ⟨_, hn', by simp⟩ (fun L y e m' hm' => ?_) rv
    cases e
    obtain ⟨o1, es1, ep1, a1, a2, a3, a4⟩ := hn
    obtain ⟨o2, es2, ep2, b1, b2, b3, b4⟩ := hm'
    rw [a1] at b1; cases b1
    rw [a2] at b2; cases b2
    have : m' = m := funext fun z => (b4 z).symm.trans (a4 z)
    rw [this]
    exact hn'
  · have hm := List.mem_of_getElem? q
    obtain ⟨v₀, hc₀⟩ := c.rel.locex _ hm
    refine wpAny_storeName_cell c.env.kind (by unfold Env.kindOf; rw [c.env.names]; exact nk) ck hc₀ fun h' hc' hs' => ?_
    refine ⟨ev _ h' _ q (fun b hb => hs'.2 b hb) (let ⟨o, e, _⟩ := hc'; ⟨o, e⟩), ?_⟩
    exact c.rel.store q (fun b hb => hs'.2 b hb) hc' (fun L y e m' hm' => by cases e) rv

/-! targets -/
noncomputable def AsgOK (C : Cfg) (Γ : Sc) (l : Nat) (t : Expr) (is : List Nat) (upd : EEnv → D → Option EEnv) : Prop :=
  ∀ (A : Around) (F : Fx) (env : Env) (ρ : EEnv) (s : Shared) (v : Value) (d : D) (ρ' : EEnv), Cx C Γ l A F env ρ s → RepC C s.heap (fun a => ¬ F.vol a) v d → upd ρ d = some ρ' →
    Wp C A (assign t env v) (fun _ s' => ExtV C (LocI F is) s s' ∧ RelE C F s'.heap ρ') s
noncomputable def setN (i : Nat) : EEnv → D → Option EEnv := fun ρ d => some (ρ.set i (some (d, .fr)))
theorem locA_vol (c : Cx C Γ l A F env ρ s) {b : Addr} : LocA F b → F.vol b := by
  rintro ⟨lc, hm, rfl⟩; exact c.rel.vc _ (c.rel.loc lc hm).1
theorem locA_glob (c : Cx C Γ l A F env ρ s) {s' : Shared} (e : ExtV C (LocA F) s s') : GlobOK C s'.heap :=
  c.glob.extV e (fun a o k v => c.rel.vK a o k (locA_vol c v)) (fun v => c.rel.vlow 3 (.inr (.inr rfl)) (locA_vol c v)) (fun v => c.rel.vlow 0 (.inl rfl) (locA_vol c v)) (fun v => c.rel.vlow 2 (.inr (.inl rfl)) (locA_vol c v))
theorem asg_name {x : Str} {p : Pos} {i : Nat} (hx : Γ.slots.lookup x = some i) : AsgOK C Γ l (.Name x p) [i] (setN i) := by
  intro A F env ρ s v d ρ' c rv hu
  cases hu
  exact wpAny_assign_Name (store_ok c hx rv)
theorem RepC.extV {V : Addr → Prop} {N : Addr → Prop} {s s' : Shared} {v : Value} {d : D} (hN : ∀ a, N a → ¬ C.T a ∧ ¬ V a) (e : ExtV C V s s') (x : RepC C s.heap N v d) : RepC C s'.heap N v d :=
  x.trans (fun _ n => n) fun a o n q => e.keep a o (hN a n).1 (hN a n).2 q
theorem RepLC.extV {V : Addr → Prop} {N : Addr → Prop} {s s' : Shared} {v : List Value} {d : List D} (hN : ∀ a, N a → ¬ C.T a ∧ ¬ V a) (e : ExtV C V s s') (x : RepLC C s.heap N v d) : RepLC C s'.heap N v d :=
  x.trans (fun _ n => n) fun a o n q => e.keep a o (hN a n).1 (hN a n).2 q
end
end Mine

set_option autoImplicit false
open PySem PyProof.Rows
namespace Mine
set_option linter.unusedVariables false

section
variable {prog : Program} {w : World} {h : Heap} {N : Addr → Prop}
theorem OwnT.ex {k : Nat} {v : Value} {d : D} {O : List Addr} (x : OwnT prog w h N k v d O) : OwnT prog w h (fun a => N a ∧ ∃ o, h.get? a = some o) k v d O ∧ ∀ a ∈ O, ∃ o, h.get? a = some o :=
  OwnT.rec (motive_1 := fun k v d O _ => OwnT prog w h (fun a => N a ∧ ∃ o, h.get? a = some o) k v d O ∧ ∀ a ∈ O, ∃ o, h.get? a = some o) (motive_2 := fun k v d O _ => OwnL prog w h (fun a => N a ∧ ∃ o, h.get? a = some o) k v d O ∧ ∀ a ∈ O, ∃ o, h.get? a = some o)
    (motive_3 := fun k v d O _ => OwnE prog w h (fun a => N a ∧ ∃ o, h.get? a = some o) k v d O ∧ ∀ a ∈ O, ∃ o, h.get? a = some o)
    (fun r => ⟨.fz0 r.ex, fun _ h => nomatch h⟩) (fun c r => ⟨.fz c r.ex, fun _ h => nomatch h⟩) (fun p l _ r => ⟨.list p l r.1, fun a ha => (List.mem_cons.mp ha).elim (fun e => e ▸ plain_some p) (r.2 a)⟩)
    (fun e p l _ r => ⟨.dict e p l r.1, fun a ha => (List.mem_cons.mp ha).elim (fun e => e ▸ dict_some p) (r.2 a)⟩) ⟨.nil, fun _ h => nomatch h⟩ (fun _ _ x r => ⟨.cons x.1 r.1, fun a ha => (List.mem_append.mp ha).elim (x.2 a) (r.2 a)⟩)
    ⟨.nil, fun _ h => nomatch h⟩ (fun e _ _ x r => ⟨.cons e x.1 r.1, fun a ha => (List.mem_append.mp ha).elim (x.2 a) (r.2 a)⟩) x
theorem OwnL.ex {k : Nat} {v : List Value} {d : List D} {O : List Addr} (x : OwnL prog w h N k v d O) : OwnL prog w h (fun a => N a ∧ ∃ o, h.get? a = some o) k v d O ∧ ∀ a ∈ O, ∃ o, h.get? a = some o := by
  induction v generalizing d O with
  | nil => cases x; exact ⟨.nil, fun _ h => nomatch h⟩
  | cons v vs ih => cases x with | cons y r => exact ⟨.cons y.ex.1 (ih r).1, fun a ha => (List.mem_append.mp ha).elim (y.ex.2 a) ((ih r).2 a)⟩
theorem OwnE.ex {k : Nat} {v : List (Str × Value)} {d : List (Str × D)} {O : List Addr} (x : OwnE prog w h N k v d O) : OwnE prog w h (fun a => N a ∧ ∃ o, h.get? a = some o) k v d O ∧ ∀ a ∈ O, ∃ o, h.get? a = some o := by
  induction v generalizing d O with
  | nil => cases x; exact ⟨.nil, fun _ h => nomatch h⟩
  | cons v vs ih => cases x with | cons e y r => exact ⟨.cons e y.ex.1 (ih r).1, fun a ha => (List.mem_append.mp ha).elim (y.ex.2 a) ((ih r).2 a)⟩
end

/-- a frame with more names and more volatile addresses -/
noncomputable def Fx.plus (F : Fx) (ls : List Loc) (W : Addr → Prop) : Fx := { locs := F.locs ++ ls, vol := fun a => F.vol a ∨ W a, volc := fun a => F.volc a ∨ W a, new := fun a => F.new a ∧ ¬ W a }
section
variable {C : Cfg} {Γ : Sc} {l : Nat} {A : Around} {F : Fx} {env : Env} {ρ : EEnv} {s : Shared} {d : D} {W : Addr → Prop} {ls : List Loc}
theorem slot_plus {h : Heap} {m : Mk} {v : Value} (hW : ∀ a, W a → h.get? a = none) (x : MkRep C F h h m.sl v d) : MkRep C (F.plus ls W) h h m.sl v d := by
  have nw : ∀ a, (∃ o, h.get? a = some o) → ¬ W a := fun a ⟨o, e⟩ w => by rw [hW a w] at e; cases e
  cases m with
  | fr => exact Rep.trans (fun a n q => q.elim n.1 (nw a n.2)) (fun _ _ _ e => e) (Rep.ex x)
  | bor =>
    obtain ⟨O, t, f⟩ := x
    exact ⟨O, t.ex.1.trans (fun a n q => q.elim n.1 (nw a n.2)) (fun _ _ _ e => e) fun _ _ _ e => e, fun a ha => ⟨f a ha, nw a (t.ex.2 a ha)⟩⟩
  | own k => exact Rep.trans (fun a n q => q.elim n.1 (nw a n.2)) (fun _ _ _ e => e) (Rep.ex x)
  | unk => exact Rep.trans (fun a n q => q.elim n.1 (nw a n.2)) (fun _ _ _ e => e) (Rep.ex x)
  | fu => exact Rep.trans (fun a n q => q.elim n.1 (nw a n.2)) (fun _ _ _ e => e) (Rep.ex x)
/-- the frame of a comprehension, at its start -/
theorem RelE.plus {s s₄ : Shared} {Ca : Addr} {xs : List Str} (r : RelE C F s.heap ρ) (g : GlobOK C s.heap) (e : Ext C s s₄) (hW : ∀ a, W a → s.heap.get? a = none) (hW4 : ∀ a, W a → ∃ o, s₄.heap.get? a = some o) (hC : ∀ x ∈ xs, W Ca) (hns : ∀ x ∈ xs, ∃ m, s₄.heap.Ns Ca m) (hnd : xs.Nodup) :
    RelE C (F.plus (xs.map (.ns Ca)) W) s₄.heap (ρ ++ List.replicate xs.length none) := by
  have r4 := r.ext e
  have hTW : ∀ a, W a → ¬ C.T a := fun a w t => by obtain ⟨o, q⟩ := g.tdom a t; rw [hW a w] at q; cases q
  have hla : ∀ x ∈ xs, ∀ lc ∈ F.locs, lc.addr ≠ Ca := fun x hx lc hl q => by
    have := hW Ca (hC x hx)
    obtain ⟨o, z⟩ := r.hv lc.addr (r.vc _ (r.loc lc hl).1)
    rw [q, this] at z; cases z
  have memls : ∀ lc ∈ xs.map (Loc.ns Ca), ∃ x, x ∈ xs ∧ lc = .ns Ca x := fun lc hl => let ⟨x, h, e⟩ := List.mem_map.mp hl; ⟨x, h, e.symm⟩
  refine ⟨fun a q => q.elim (r4.hv a) (hW4 a), fun a q => q.elim (fun z => .inl (r.vc a z)) .inr, fun a t => .inl (r.vT a t), fun a o k q => q.elim (r.vK a o k) fun w => ?_, fun a ha q => q.elim (r.vlow a ha) fun w => ?_, fun a n q => q.elim (r.newc a n.1) n.2,
    fun a q => ⟨r4.newf a q, fun w => by obtain ⟨o, z⟩ := hW4 a w; rw [q] at z; cases z⟩, fun lc hl => ?_, fun lc hl => ?_, ?_, ?_, fun i d m q => ?_⟩
  · have := g.inK a o k; rw [hW a w] at this; cases this
  · have hh : ∃ o, s.heap.get? a = some o := by
      rcases ha with rfl | rfl | rfl
      · obtain ⟨o, _, _, e, _⟩ := g.b; exact ⟨o, e⟩
      · obtain ⟨_, ⟨o, _, _, e, _⟩, _⟩ := g.nolim; exact ⟨o, e⟩
      · obtain ⟨o, _, _, e, _⟩ := g.g; exact ⟨o, e⟩
    obtain ⟨o, z⟩ := hh; rw [hW a w] at z; cases z
  · rcases List.mem_append.mp hl with hl | hl
    · exact ⟨.inl (r.loc lc hl).1, (r.loc lc hl).2⟩
    · obtain ⟨x, hx, rfl⟩ := memls lc hl; exact ⟨.inr (hC x hx), hTW Ca (hC x hx)⟩
  · rcases List.mem_append.mp hl with hl | hl
    · exact r4.locex lc hl
    · obtain ⟨x, hx, rfl⟩ := memls lc hl; exact hns x hx
  · intro i j li lj hi hj hne ha
    have hi' : (F.locs ++ xs.map (Loc.ns Ca))[i]? = some li := hi
    have hj' : (F.locs ++ xs.map (Loc.ns Ca))[j]? = some lj := hj
    rw [List.getElem?_append] at hi' hj'
    split at hi' <;> split at hj'
    · exact r.dist i j li lj hi' hj' hne ha
    · obtain ⟨x, hx, rfl⟩ := memls lj (List.mem_of_getElem? hj')
      exact absurd ha (hla x hx li (List.mem_of_getElem? hi'))
    · obtain ⟨x, hx, rfl⟩ := memls li (List.mem_of_getElem? hi')
      exact absurd ha.symm (hla x hx lj (List.mem_of_getElem? hj'))
    · rw [List.getElem?_map] at hi' hj'
      obtain ⟨x, hx, rfl⟩ := Option.map_eq_some_iff.mp hi'
      obtain ⟨y, hy, rfl⟩ := Option.map_eq_some_iff.mp hj'
      refine ⟨Ca, x, y, rfl, rfl, fun exy => hne ?_⟩
      subst exy
      have := (List.getElem?_inj (List.getElem?_eq_some_iff.mp hx).1 hnd).mp (hx.trans hy.symm)
      omega
  · show (ρ ++ _).length = (F.locs ++ _).length
    rw [List.length_append, List.length_append, r.len, List.length_replicate, List.length_map]
  · have hlt : i < ρ.length := by
      rcases Nat.lt_or_ge i ρ.length with h | h
      · exact h
      · rw [List.getElem?_append_right h] at q
        rw [List.getElem?_replicate] at q
        split at q <;> cases q
    rw [List.getElem?_append_left hlt] at q
    obtain ⟨lc, v, h1, h2, h3⟩ := r.slot i d m q
    have k4 : ∀ o, s.heap.get? lc.addr = some o → s₄.heap.get? lc.addr = some o := fun o => e.keep _ o (r.loc lc (List.mem_of_getElem? h1)).2
    refine ⟨lc, v, ?_, h2.kept k4, ?_⟩
    · show (F.locs ++ _)[i]? = _
      rw [List.getElem?_append_left (by rw [← r.len]; exact hlt)]; exact h1
    · have h4 := slot_plus (ls := xs.map (.ns Ca)) hW h3
      have hTp : ∀ a, C.T a → (F.plus (xs.map (.ns Ca)) W).volc a := fun a t => .inl (r.vT a t)
      have h5 := MkRep.ext (F := F.plus (xs.map (.ns Ca)) W) (s := s) (s' := s₄) (fun a q => Or.elim q (fun z => .inl (r.vc a z)) .inr) hTp (fun a n q => Or.elim q (r.newc a n.1) n.2) (fun a t => g.tdom a t) e h4
      cases m <;> exact h5
/-- volatile objects that are no names turn -/
theorem RelE.turn {h h' : Heap} {V : Addr → Prop} (r : RelE C F h ρ) (hV : ∀ a, V a → F.volc a) (hl : ∀ lc ∈ F.locs, ¬ V lc.addr) (k : ∀ b o, ¬ V b → h.get? b = some o → h'.get? b = some o) (hex : ∀ b, V b → ∃ o, h'.get? b = some o) : RelE C F h' ρ := by
  have kv : ∀ a o, ¬ F.vol a → h.get? a = some o → h'.get? a = some o := fun a o n q => k a o (fun v => n (r.vc a (hV a v))) q
  have kc : ∀ a o, ¬ F.volc a → h.get? a = some o → h'.get? a = some o := fun a o n q => k a o (fun v => n (hV a v)) q
  have none' : ∀ a, h'.get? a = none → h.get? a = none := fun a q => by
    cases z : h.get? a with
    | none => rfl
    | some o =>
      by_cases hv : V a
      · obtain ⟨o', q'⟩ := hex a hv; rw [q] at q'; cases q'
      · rw [k a o hv z] at q; cases q
  refine ⟨fun a q => ?_, r.vc, r.vT, r.vK, r.vlow, r.newc, fun a q => r.newf a (none' a q), r.loc, fun lc h1 => (r.locex lc h1).kept fun o => k _ o (hl lc h1), r.dist, r.len, fun i d m q => ?_⟩
  · by_cases hv : V a
    · exact hex a hv
    · obtain ⟨o, z⟩ := r.hv a q; exact ⟨o, k a o hv z⟩
  · obtain ⟨lc, v, h1, h2, h3⟩ := r.slot i d m q
    refine ⟨lc, v, h1, h2.kept fun o => k _ o (hl lc (List.mem_of_getElem? h1)), ?_⟩
    cases m with
    | fr => exact Rep.trans (fun _ n => n) kv h3
    | bor =>
      obtain ⟨O, t, f⟩ := h3
      exact ⟨O, t.trans (fun _ n => n) kv fun a ha o q => kc a o (r.newc a (f a ha)) q, f⟩
    | own k => exact Rep.trans (fun _ n => n) kc h3
    | unk => exact Rep.trans (fun _ n => n) kc h3
    | fu => exact Rep.trans (fun _ n => n) kc h3
theorem RelE.weaken {h : Heap} {ρ' : EEnv} (r : RelE C F h ρ) (hlen : ρ'.length = ρ.length) (hw : ∀ (i : Nat) x, ρ'[i]? = some (some x) → ρ[i]? = some (some x)) : RelE C F h ρ' :=
  ⟨r.hv, r.vc, r.vT, r.vK, r.vlow, r.newc, r.newf, r.loc, r.locex, r.dist, hlen.trans r.len, fun i d m q => r.slot i d m (hw i _ q)⟩
end
end Mine

set_option autoImplicit false
open PySem PyProof.Rows
namespace Mine
set_option linter.unusedVariables false

/-! the scope of a comprehension -/
noncomputable def relabelN (Γn names : List (Str × NameKind)) : List (Str × NameKind) := names.map fun (n, k) => if (k == .free && Γn.lookup n == some .cell) then (n, .cell) else (n, k)
noncomputable def freeSlots (Γ : Sc) (names : List (Str × NameKind)) : List (Str × Nat) := names.filterMap fun p => if p.2 == .free then (Γ.slots.lookup p.1).map fun i => (p.1, i) else none
noncomputable def compSc (Γ : Sc) (names : List (Str × NameKind)) (xs : List Str) (n : Nat) : Sc := { names := relabelN Γ.names names, slots := xs.zipIdx n ++ freeSlots Γ names }
noncomputable def compChk (Γ : Sc) (names : List (Str × NameKind)) (xs : List Str) : Bool :=
  names.all (fun p => p.2 != .cell && (p.2 != .free || (names.lookup p.1 == some .free && Γ.names.lookup p.1 == some .cell && (Γ.slots.lookup p.1).isSome)) && (p.2 != .local || names.lookup p.1 == some .local)) && xs.all (fun x => names.lookup x == some .local) && decide xs.Nodup && !xs.isEmpty

noncomputable def closL (env : Env) : List (Str × NameKind) → List (Str × Addr) → List (Str × Addr)
  | [], acc => acc
  | (x, k) :: r, acc => closL env r (if k == .free then (x, (env.cells.lookup x).getD 0) :: acc else acc)
theorem closureFor_eq {scope : Scope} {env : Env} (hf : ∀ p ∈ scope.names, p.2 = .free → ∃ c, env.cells.lookup p.1 = some c) : closureFor scope env = pure (closL env scope.names []) := by
  unfold closureFor
  have key : ∀ (names : List (Str × NameKind)) (acc : List (Str × Addr)), (∀ p ∈ names, p.2 = .free → ∃ c, env.cells.lookup p.1 = some c) →
      (forIn names acc (fun (x : Str × NameKind) (r : List (Str × Addr)) => (do
        if x.2 == .free then
          let c ← cellOf env x.1
          pure (ForInStep.yield ((x.1, c) :: r))
        else pure (ForInStep.yield r) : Sem (ForInStep (List (Str × Addr)))))) = pure (closL env names acc) := by
    intro names
    induction names with
    | nil => intro acc _; rfl
    | cons p r ih =>
      intro acc h
      obtain ⟨x, k⟩ := p
      rw [List.forIn_cons]
      have ih' := ih
      by_cases hk : k = .free
      · subst hk
        obtain ⟨c, hc⟩ := h (x, .free) (.head _) rfl
        have e : cellOf env x = pure c := by unfold cellOf; rw [hc]
        simp only [beq_self_eq_true, if_true]
        rw [e]
        show (forIn r ((x, c) :: acc) _ : Sem _) = _
        rw [ih _ fun q hq => h q (.tail _ hq)]
        simp [closL, hc]
      · have hb : (k == NameKind.free) = false := by simpa using hk
        simp only [hb]
        show (forIn r acc _ : Sem _) = _
        rw [ih _ fun q hq => h q (.tail _ hq)]
        simp [closL, hb]
  exact (congrArg (fun t : Sem (List (Str × Addr)) => t >>= fun cs => pure cs) (key scope.names [] hf)).trans rfl
theorem closL_lookup {env : Env} {x : Str} {c : Addr} (hc : env.cells.lookup x = some c) : ∀ (names : List (Str × NameKind)) (acc : List (Str × Addr)), ((x, NameKind.free) ∈ names ∨ acc.lookup x = some c) → (∀ d, acc.lookup x = some d → d = c) → (closL env names acc).lookup x = some c
  | [], acc, h, _ => by rcases h with h | h; cases h; exact h
  | (y, k) :: r, acc, h, h2 => by
    unfold closL
    by_cases hk : k = .free
    · subst hk
      simp only [beq_self_eq_true, if_true]
      by_cases hy : x = y
      · subst hy
        refine closL_lookup hc r _ (.inr ?_) ?_ <;> simp [hc]
      · have hb : (x == y) = false := by simpa using hy
        refine closL_lookup hc r _ ?_ ?_
        · rcases h with h | h
          · rcases List.mem_cons.mp h with h | h
            · cases h; exact absurd rfl hy
            · exact .inl h
          · right; simp [List.lookup_cons, hb, h]
        · simpa [List.lookup_cons, hb] using h2
    · have hb : (k == NameKind.free) = false := by simpa using hk
      simp only [hb]
      refine closL_lookup hc r acc ?_ h2
      rcases h with h | h
      · rcases List.mem_cons.mp h with h | h
        · cases h; exact absurd rfl hk
        · exact .inl h
      · exact .inr h
theorem lookup_relabel {Γn names : List (Str × NameKind)} {x : Str} {k : NameKind} (h : names.lookup x = some k) : (relabelN Γn names).lookup x = some (if (k == .free && Γn.lookup x == some .cell) then .cell else k) := by
  induction names with
  | nil => simp at h
  | cons p r ih =>
    obtain ⟨y, k'⟩ := p
    rw [List.lookup_cons] at h
    have e : relabelN Γn ((y, k') :: r) = (if (k' == .free && Γn.lookup y == some .cell) then (y, NameKind.cell) else (y, k')) :: relabelN Γn r := rfl
    rw [e]
    by_cases hy : x = y
    · subst hy
      simp at h; subst h
      by_cases hc : (k' == .free && Γn.lookup x == some .cell) = true
      · rw [if_pos hc, if_pos hc]; simp [List.lookup_cons]
      · rw [if_neg hc, if_neg hc]; simp [List.lookup_cons]
    · have hb : (x == y) = false := by simpa using hy
      rw [hb] at h
      have ih' := ih h
      by_cases hc : (k' == .free && Γn.lookup y == some .cell) = true
      · rw [if_pos hc]; simpa [List.lookup_cons, hb] using ih'
      · rw [if_neg hc]; simpa [List.lookup_cons, hb] using ih'
theorem lookup_append {α : Type} {l l' : List (Str × α)} {x : Str} {a : α} (h : (l ++ l').lookup x = some a) : l.lookup x = some a ∨ l'.lookup x = some a := by
  induction l with
  | nil => exact .inr h
  | cons p r ih =>
    obtain ⟨y, b⟩ := p
    rw [List.cons_append, List.lookup_cons] at h
    rw [List.lookup_cons]
    split at h
    · exact .inl h
    · exact ih h
theorem lookup_zipIdx {xs : List Str} {n i : Nat} {x : Str} (h : (xs.zipIdx n).lookup x = some i) : n ≤ i ∧ xs[i - n]? = some x := by
  induction xs generalizing n with
  | nil => simp at h
  | cons y r ih =>
    rw [List.zipIdx_cons, List.lookup_cons] at h
    split at h
    · rename_i hb; cases h; simp [beq_iff_eq.mp hb]
    · obtain ⟨h1, h2⟩ := ih h
      refine ⟨Nat.le_of_succ_le h1, ?_⟩
      have : i - n = (i - (n + 1)) + 1 := sub_step h1
      rw [this]; simpa using h2
theorem mem_freeSlots {Γ : Sc} {names : List (Str × NameKind)} {x : Str} {i : Nat} (h : (freeSlots Γ names).lookup x = some i) : (x, NameKind.free) ∈ names ∧ Γ.slots.lookup x = some i := by
  have hm := mem_of_lookup h
  obtain ⟨p, hp, e⟩ := List.mem_filterMap.mp hm
  obtain ⟨y, k⟩ := p
  dsimp only at e
  split at e
  · rename_i hk
    obtain ⟨j, hj, e⟩ := Option.map_eq_some_iff.mp e
    cases e
    exact ⟨by rw [← beq_iff_eq.mp hk]; exact hp, hj⟩
  · cases e

section
variable {C : Cfg} {Γ : Sc} {l : Nat} {A : Around} {F : Fx} {env : Env} {ρ : EEnv} {s : Shared} {d : D} {W : Addr → Prop}
theorem compChk_free {names : List (Str × NameKind)} {xs : List Str} (h : compChk Γ names xs = true) : ∀ p ∈ names, p.2 = .free → names.lookup p.1 = some .free ∧ Γ.names.lookup p.1 = some .cell ∧ (Γ.slots.lookup p.1).isSome = true := by
  intro p hp hk
  simp only [compChk, Bool.and_eq_true, List.all_eq_true] at h
  have := (h.1.1.1 p hp).1.2
  simp only [hk, Bool.or_eq_true, bne_self_eq_false, Bool.and_eq_true, beq_iff_eq] at this
  rcases this with q | q
  · cases q
  · exact ⟨q.1.1, q.1.2, q.2⟩
theorem compChk_rest {names : List (Str × NameKind)} {xs : List Str} (h : compChk Γ names xs = true) : (∀ p ∈ names, p.2 ≠ .cell) ∧ (∀ p ∈ names, p.2 = .local → names.lookup p.1 = some .local) ∧ (∀ x ∈ xs, names.lookup x = some .local) ∧ xs.Nodup ∧ xs ≠ [] := by
  simp only [compChk, Bool.and_eq_true, List.all_eq_true] at h
  refine ⟨fun p hp => by simpa using (h.1.1.1 p hp).1.1, fun p hp hk => ?_, fun x hx => by simpa using h.1.1.2 x hx, by simpa using h.1.2, by simpa using h.2⟩
  have := (h.1.1.1 p hp).2
  simpa [hk] using this
theorem comp_cells (eo : EnvOK Γ F env) {scope : Scope} {xs : List Str} (hchk : compChk Γ scope.names xs = true) : ∀ p ∈ scope.names, p.2 = .free → ∃ c, env.cells.lookup p.1 = some c := by
  intro p hp hk
  obtain ⟨_, h2, h3⟩ := compChk_free hchk p hp hk
  obtain ⟨i, hi⟩ := Option.isSome_iff_exists.mp h3
  rcases eo.slot p.1 i hi with ⟨_, q⟩ | ⟨c, _, _, q⟩
  · rw [h2] at q; cases q
  · exact ⟨c, q⟩
theorem EnvOK.comp (eo : EnvOK Γ F env) {scope : Scope} {xs : List Str} {Ca : Addr} {n : Nat} (hkind : scope.kind = .function) (hchk : compChk Γ scope.names xs = true) (hn : F.locs.length = n) :
    EnvOK (compSc Γ scope.names xs n) (F.plus (xs.map (.ns Ca)) W) (compEnvC scope (closL env scope.names []) Ca env) := by
  have hrn : (relabel scope env).names = relabelN Γ.names scope.names := by
    unfold relabel relabelN Env.kindOf
    rw [eo.names, eo.kind]
    simp
  obtain ⟨h1, h2, h3, h4, _⟩ := compChk_rest hchk
  refine ⟨by show (relabel scope env).kind = _; exact hkind, hrn, eo.gl, eo.bl, fun x i hi => ?_⟩
  rcases lookup_append hi with hi | hi
  · left
    obtain ⟨ha, hb⟩ := lookup_zipIdx hi
    refine ⟨?_, ?_⟩
    · show (F.locs ++ xs.map (Loc.ns Ca))[i]? = some (.ns Ca x)
      rw [List.getElem?_append_right (by omega), hn, List.getElem?_map, hb]; rfl
    · show (relabelN Γ.names scope.names).lookup x = _
      rw [lookup_relabel (h3 x (List.mem_of_getElem? hb))]; rfl
  · right
    obtain ⟨hm, hs⟩ := mem_freeSlots hi
    obtain ⟨q1, q2, q3⟩ := compChk_free hchk _ hm rfl
    rcases eo.slot x i hs with ⟨_, q⟩ | ⟨c, z1, z2, z3⟩
    · rw [q2] at q; cases q
    · refine ⟨c, ?_, ?_, ?_⟩
      · show (F.locs ++ xs.map (Loc.ns Ca))[i]? = some (.cell c)
        rw [List.getElem?_append_left (List.getElem?_eq_some_iff.mp z1).1]; exact z1
      · show (relabelN Γ.names scope.names).lookup x = _
        rw [lookup_relabel q1, q2]; rfl
      · exact closL_lookup z3 _ _ (.inl hm) (by simp)
end
end Mine

set_option autoImplicit false
open PySem PyProof.Rows
namespace Mine
set_option linter.unusedVariables false

noncomputable def keepB (k : Nat) (m : Mk) (d : D) : Bool := match k with | 0 => m.cl d | k + 1 => m.isOwn (k + 1)
/-- may an item be gathered, owned to depth k? -/
noncomputable def emB (k : Nat) (m : Mk) (d : D) : Bool := match k with | 0 => m.cl d | 1 => m.isOwn 1 && d.flat | _ => false
noncomputable def TestsOK (C : Cfg) (Γ : Sc) (l : Nat) (ifs : List Expr) (b : EEnv → Option Bool) : Prop :=
  ∀ (A : Around) (F : Fx) (env : Env) (ρ : EEnv) (s : Shared) (r : Bool), Cx C Γ l A F env ρ s → b ρ = some r →
    Wp C A (forIn ifs true fun c r => if r = true then do let ok ← isTrue c env (eval c env); pure (ForInStep.yield ok) else pure (ForInStep.yield r)) (fun r' s' => Ext C s s' ∧ r' = r) s
noncomputable def compL (upd : EEnv → D → Option EEnv) (bs : EEnv → Option Bool) (fe : EEnv → Option D) (me : EEnv → Mk) (ρ : EEnv) : List D → Option (List D)
  | [] => some []
  | x :: xs => (upd ρ x).bind fun ρ₁ => (bs ρ₁).bind fun b => if b then (fe ρ₁).bind fun d => if (me ρ₁).cl d then (compL upd bs fe me ρ xs).bind fun r => some (d :: r) else none else compL upd bs fe me ρ xs
noncomputable def compF (n k : Nat) (tt : Bool) (fi : EEnv → Option D) (mi : EEnv → Mk) (upd : EEnv → D → Option EEnv) (bs : EEnv → Option Bool) (fe : EEnv → Option D) (me : EEnv → Mk) : EEnv → Option D := fun ρ =>
  if ρ.length = n then (fi ρ).bind fun d => d.items.bind fun ds => if ((mi ρ).cat || ds.all D.imm) && (!tt || d.isL) then (compL upd bs fe me (ρ ++ List.replicate k none) ds).map D.list else none else none
/-- a comprehension whose items are owned, kk deep -/
noncomputable def compLk (kk : Nat) (upd : EEnv → D → Option EEnv) (fe : EEnv → Option D) (me : EEnv → Mk) (ρ : EEnv) : List D → Option (List D)
  | [] => some []
  | x :: xs => (upd ρ x).bind fun ρ₁ => (fe ρ₁).bind fun d => if emB kk (me ρ₁) d then (compLk kk upd fe me ρ xs).bind fun r => some (d :: r) else none
noncomputable def compFk (kk n k : Nat) (fi : EEnv → Option D) (mi : EEnv → Mk) (upd : EEnv → D → Option EEnv) (fe : EEnv → Option D) (me : EEnv → Mk) : EEnv → Option D := fun ρ =>
  if ρ.length = n then (fi ρ).bind fun d => d.items.bind fun ds => if (mi ρ).cat || ds.all D.imm then (compLk kk upd fe me (ρ ++ List.replicate k none) ds).map D.list else none else none
/-- two generators -/
noncomputable def comp2L (u₁ u₂ : EEnv → D → Option EEnv) (fi : EEnv → Option D) (fe : EEnv → Option D) (me : EEnv → Mk) (ρ : EEnv) : List D → Option (List D)
  | [] => some []
  | x :: xs => (u₁ ρ x).bind fun ρ₁ => (fi ρ₁).bind fun d => d.items.bind fun ds => if ds.all D.imm then (compL u₂ (fun _ => some true) fe me ρ₁ ds).bind fun r => (comp2L u₁ u₂ fi fe me ρ xs).bind fun r' => some (r ++ r') else none
noncomputable def comp2F (n k : Nat) (f₁ : EEnv → Option D) (m₁ : EEnv → Mk) (u₁ u₂ : EEnv → D → Option EEnv) (f₂ : EEnv → Option D) (fe : EEnv → Option D) (me : EEnv → Mk) : EEnv → Option D := fun ρ =>
  if ρ.length = n then (f₁ ρ).bind fun d => d.items.bind fun ds => if (m₁ ρ).cat || ds.all D.imm then (comp2L u₁ u₂ f₂ fe me (ρ ++ List.replicate k none) ds).bind fun outs => if outs.length ≤ lim then some (.list outs) else none else none else none
/-- what a loop of a comprehension gathers -/
noncomputable def gL (upd : EEnv → D → Option EEnv) (bs : EEnv → Option Bool) (em : EEnv → Option (List D)) (ρ : EEnv) : List D → Option (List D)
  | [] => some []
  | x :: xs => (upd ρ x).bind fun ρ₁ => (bs ρ₁).bind fun b => if b then (em ρ₁).bind fun r => (gL upd bs em ρ xs).bind fun r' => some (r ++ r') else gL upd bs em ρ xs
noncomputable def em1 (kk : Nat) (fe : EEnv → Option D) (me : EEnv → Mk) : EEnv → Option (List D) := fun ρ => (fe ρ).bind fun d => if emB kk (me ρ) d then some [d] else none
noncomputable def em2 (fi : EEnv → Option D) (u₂ : EEnv → D → Option EEnv) (em : EEnv → Option (List D)) : EEnv → Option (List D) := fun ρ => (fi ρ).bind fun d => d.items.bind fun ds => if ds.all D.imm then gL u₂ (fun _ => some true) em ρ ds else none
section
variable {upd u₁ u₂ : EEnv → D → Option EEnv} {bs : EEnv → Option Bool} {fi fe : EEnv → Option D} {me : EEnv → Mk} {ρ : EEnv}
theorem compL_g (xs : List D) : compL upd bs fe me ρ xs = gL upd bs (em1 0 fe me) ρ xs := by
  induction xs with
  | nil => rfl
  | cons x xs ih =>
    rw [compL, gL]
    cases upd ρ x with
    | none => rfl
    | some ρ₁ =>
      rw [Option.bind_some, Option.bind_some]
      cases bs ρ₁ with
      | none => rfl
      | some b =>
        rw [Option.bind_some, Option.bind_some]
        cases b with
        | false => exact ih
        | true =>
          rw [if_pos rfl, if_pos rfl]
          unfold em1
          cases fe ρ₁ with
          | none => rfl
          | some d =>
            rw [Option.bind_some, Option.bind_some]
            show (if (me ρ₁).cl d = true then _ else none) = Option.bind (if (me ρ₁).cl d = true then some [d] else none) _
            cases (me ρ₁).cl d with
            | false => rfl
            | true => exact congrArg (fun t => Option.bind t fun r => some (d :: r)) ih
theorem compLk_g (kk : Nat) (xs : List D) : compLk kk upd fe me ρ xs = gL upd (fun _ => some true) (em1 kk fe me) ρ xs := by
  induction xs with
  | nil => rfl
  | cons x xs ih =>
    rw [compLk, gL]
    cases upd ρ x with
    | none => rfl
    | some ρ₁ =>
      rw [Option.bind_some, Option.bind_some, Option.bind_some, if_pos rfl]
      unfold em1
      cases fe ρ₁ with
      | none => rfl
      | some d =>
        rw [Option.bind_some, Option.bind_some]
        cases emB kk (me ρ₁) d with
        | false => rfl
        | true => exact congrArg (fun t => Option.bind t fun r => some (d :: r)) ih
theorem comp2L_g (xs : List D) : comp2L u₁ u₂ fi fe me ρ xs = gL u₁ (fun _ => some true) (em2 fi u₂ (em1 0 fe me)) ρ xs := by
  induction xs with
  | nil => rfl
  | cons x xs ih =>
    rw [comp2L, gL]
    cases u₁ ρ x with
    | none => rfl
    | some ρ₁ =>
      rw [Option.bind_some, Option.bind_some, Option.bind_some, if_pos rfl]
      unfold em2
      cases fi ρ₁ with
      | none => rfl
      | some d =>
        rw [Option.bind_some, Option.bind_some]
        cases d.items with
        | none => rfl
        | some ds =>
          rw [Option.bind_some, Option.bind_some]
          cases ds.all D.imm with
          | false => rfl
          | true => rw [if_pos rfl, if_pos rfl, ← compL_g, ih]; rfl
theorem gL_len {em : EEnv → Option (List D)} (he : ∀ ρ r, em ρ = some r → r.length ≤ 1) {xs outs : List D} (h : gL upd bs em ρ xs = some outs) : outs.length ≤ xs.length := by
  induction xs generalizing outs with
  | nil => cases h; exact Nat.le_refl _
  | cons x xs ih =>
    obtain ⟨ρ₁, _, h⟩ := Option.bind_eq_some_iff.mp h
    obtain ⟨b, _, h⟩ := Option.bind_eq_some_iff.mp h
    cases b with
    | false => exact Nat.le_succ_of_le (ih h)
    | true =>
      obtain ⟨r, h1, h⟩ := Option.bind_eq_some_iff.mp h
      obtain ⟨r', h2, h⟩ := Option.bind_eq_some_iff.mp h
      cases h
      have := he _ _ h1
      have := ih h2
      rw [List.length_append, List.length_cons]; omega
theorem em1_len {kk : Nat} (ρ : EEnv) (r : List D) (h : em1 kk fe me ρ = some r) : r.length ≤ 1 := by
  obtain ⟨d, _, h⟩ := Option.bind_eq_some_iff.mp h
  obtain ⟨_, rfl⟩ := ite_inv h
  exact Nat.le_refl _
end
section
variable {prog : Program} {w : World} {h h' : Heap} {N N' : Addr → Prop}
theorem OwnL.app {k : Nat} {v : Value} {d : D} {O₁ : List Addr} (t : OwnT prog w h N k v d O₁) {vs : List Value} {ds : List D} {O : List Addr} (x : OwnL prog w h N k vs ds O) : OwnL prog w h N k (vs ++ [v]) (ds ++ [d]) (O ++ O₁) := by
  induction vs generalizing ds O with
  | nil => cases x; have := OwnL.cons t (OwnL.nil (prog := prog) (w := w) (h := h) (N := N) (k := k)); rw [List.append_nil] at this; exact this
  | cons u vs ih => cases x with | cons a r => have := OwnL.cons a (ih r); rw [← List.append_assoc] at this; exact this
theorem OwnL.length {k : Nat} {vs : List Value} {ds : List D} {O : List Addr} (x : OwnL prog w h N k vs ds O) : vs.length = ds.length := by
  induction vs generalizing ds O with
  | nil => cases x; rfl
  | cons v vs ih => cases x with | cons a r => rw [List.length_cons, List.length_cons, ih r]
theorem OwnL.none0 {prog : Program} {w : World} {h : Heap} {N : Addr → Prop} : ∀ {vs : List Value} {ds : List D} {O : List Addr}, OwnL prog w h N 0 vs ds O → O = []
  | _, _, _, .nil => rfl
  | _, _, _, .cons (.fz0 x) r => by rw [OwnL.none0 r]; rfl
theorem D.imm_of {d : D} (h : d.cont = false) (h' : d.flat = true) : d.imm = true := by cases d <;> first | exact h' | cases h
theorem own_flat {x : Value} {d : D} {O : List Addr} (t : OwnT prog w h N 1 x d O) (hf : d.flat = true) (ho : ∀ a ∈ O, ∀ o, h.get? a = some o → h'.get? a = some o) : OwnT prog w h' N' 1 x d O := by
  cases t with
  | fz q r => exact .fz q (Rep.ofImm (D.imm_of q hf) r)
  | list p l r =>
    obtain rfl := r.none0
    exact .list (p.at fun o => ho _ (.head _) o) l (OwnL.of0 (RepL.ofImm hf r.zero))
  | dict => cases hf
end
noncomputable def UpdOK (n k : Nat) (upd : EEnv → D → Option EEnv) : Prop := ∀ (ρ ρ₁ : EEnv) (d : D), ρ.length = n → upd (ρ ++ List.replicate k none) d = some ρ₁ → ρ₁.length = n + k ∧ ∀ i, i < n → ρ₁[i]? = ρ[i]?

section
variable {C : Cfg} {Γ : Sc} {l : Nat} {A : Around} {F : Fx} {env : Env} {ρ : EEnv} {s : Shared} {d : D} {e : Expr} {b : EEnv → Option Bool}
theorem tests_nil : TestsOK C Γ l [] (fun _ => some true) := fun A F env ρ s r c fd => by cases fd; exact wpAny_tests_nil ⟨Ext.refl C s, rfl⟩
theorem tests_one (x : BOK C Γ l e b) : TestsOK C Γ l [e] b := fun A F env ρ s r c fd => wpAny_tests_one (x A F env ρ s r c fd)
theorem upd_set (n : Nat) : UpdOK n 1 (setN n) := by
  intro ρ ρ₁ d hn h
  cases h
  refine ⟨by simp [hn], fun i hi => ?_⟩
  rw [List.getElem?_set_ne (by omega), List.getElem?_append_left (by omega)]
/-- what a comprehension or a loop goes over -/
theorem MkRep.two {hs h : Heap} {mk : Mk} {v : Value} {ds : List D} (hv : ∀ a, F.vol a → ∃ o, hs.get? a = some o) (vc : ∀ a, F.volc a → F.vol a) (newc : ∀ a, F.new a → ¬ F.volc a) (x : MkRep C F hs h mk v d) (hd : d.items = some ds) (hc : (mk.cat || ds.all D.imm) = true) :
    Rep2 C.prog C.w h (fun a => ¬ F.volc a) (fun a => ¬ F.vol a) v d := by
  have w := x.weak hv vc newc
  cases w with
  | list n p l r =>
    cases hd
    refine .list n p l ?_
    rcases Bool.or_eq_true_iff.mp hc with hc | hc
    · obtain ⟨a', vs', ea, pa, _, ra⟩ := x.items hv hc
      cases ea
      obtain rfl := plainList_inj p pa
      exact ra
    · exact r.ofImm hc
  | tup n p l r =>
    cases hd
    refine .tup n p l ?_
    rcases Bool.or_eq_true_iff.mp hc with hc | hc
    · obtain ⟨a', vs', ea, pa, ra⟩ := x.tupItems hv hc
      cases ea
      obtain rfl := plainTup_inj p pa
      exact ra
    · exact r.ofImm hc
  | dict n e p l r => exact .dict n e p l r
  | str y t e => exact .str y t e
  | rng n p => exact .rng n p
  | none => cases hd
  | bool => cases hd
  | int => cases hd

theorem ext_more {V : Addr → Prop} {s s' s'' : Shared} (e : Ext C s s') (y : ExtV C V s' s'') (hV : ∀ b, V b → s.heap.get? b = none) : Ext C s s'' := ((e.v (V := V)).trans y fun b v => .inl v).ext hV
/-- a change of the objects V alone -/
theorem extV_of {V : Addr → Prop} {s : Shared} {h' : Heap} {tk : Nat} (g : GlobOK C s.heap) (hT : ∀ b, V b → ¬ C.T b) (hK : ∀ b o, C.K.lookup b = some o → ¬ V b) (k : ∀ b o, ¬ V b → s.heap.get? b = some o → h'.get? b = some o) (hex : ∀ b, V b → ∃ o, h'.get? b = some o) :
    ExtV C V s { s with heap := h', toks := tk } :=
  ⟨fun b o _ n q => k b o n q, fun b o q => by
    by_cases hv : V b
    · exact hex b hv
    · exact ⟨o, k b o hv q⟩, vol_tab hT hK k, id, rfl⟩
theorem EnvOK.fx {F F' : Fx} (x : EnvOK Γ F env) (h : F'.locs = F.locs) : EnvOK Γ F' env := ⟨x.kind, x.names, x.gl, x.bl, fun y i q => by rw [h]; exact x.slot y i q⟩
/-! what is gathered so far -/
set_option genInjectivity false in
inductive Acc (C : Cfg) (F : Fx) (hs : Heap) (kk : Nat) (Dd : Addr) (os : List D) (h : Heap) : Prop
  | mk (ys : List Value) (O : List Addr) : h.PlainList Dd ys.toArray → OwnL C.prog C.w h (fun a => ¬ F.vol a ∧ a ∉ O) kk ys os O → O.Nodup → (∀ a ∈ O, hs.get? a = none ∧ ¬ F.vol a) → Acc C F hs kk Dd os h
theorem Acc.keep {hs h h' : Heap} {kk : Nat} {Dd : Addr} {os : List D} {V : Addr → Prop} (x : Acc C F hs kk Dd os h) (hV : ∀ a, V a → F.vol a) (hD : ¬ V Dd) (k : ∀ b o, ¬ V b → h.get? b = some o → h'.get? b = some o) : Acc C F hs kk Dd os h' := by
  obtain ⟨ys, O, p, r, nd, f⟩ := x
  exact ⟨ys, O, p.at fun o => k _ o hD, r.trans (fun _ n => n) (fun a o n q => k a o (fun v => n.1 (hV a v)) q) (fun a ha o q => k a o (fun v => (f a ha).2 (hV a v)) q), nd, f⟩
/-- where a comprehension's names and its list lie -/
structure Spot (C : Cfg) (F : Fx) (n : Nat) (Ca Dd : Addr) : Prop where
  volD : F.volc Dd ∧ ¬ C.T Dd
  volC : F.volc Ca ∧ ¬ C.T Ca
  dc : Dd ≠ Ca
  locD : ∀ lc ∈ F.locs, lc.addr ≠ Dd
  locC : ∀ i lc, n ≤ i → F.locs[i]? = some lc → lc.addr = Ca
structure Geo (C : Cfg) (F : Fx) (n : Nat) (Ca Dd : Addr) (fp wr : List Addr) : Prop extends Spot C F n Ca Dd where
  volw : ∀ a ∈ wr, F.volc a ∧ ¬ C.T a
  fpx : ∀ b ∈ fp, b ≠ Ca ∧ b ≠ Dd ∧ ¬ C.T b
  locw : ∀ lc ∈ F.locs, lc.addr ∉ wr
structure EmPost (C : Cfg) (F : Fx) (hs : Heap) (kk : Nat) (Ca Dd : Addr) (ρ₁ : EEnv) (os : List D) (s s' : Shared) : Prop where
  ext : ExtV C (fun b => b = Ca ∨ b = Dd) s s'
  rel : RelE C F s'.heap ρ₁
  glob : GlobOK C s'.heap
  acc : Acc C F hs kk Dd os s'.heap
/-- one turn's share -/
noncomputable def EmOK (C : Cfg) (Γ : Sc) (l : Nat) (n : Nat) (emit : Value → Env → Sem Unit) (kk : Nat) (em : EEnv → Option (List D)) (Pρ : EEnv → Prop) : Prop :=
  ∀ (A : Around) (F : Fx) (env : Env) (ρ₁ : EEnv) (s : Shared) (hs : Heap) (Ca Dd : Addr) (os r : List D), Cx C Γ l A F env ρ₁ s → Pρ ρ₁ → em ρ₁ = some r → Acc C F hs kk Dd os s.heap → os.length + r.length ≤ sizeLine → (∀ a, s.heap.get? a = none → hs.get? a = none) → Spot C F n Ca Dd →
    Wp C A (emit (.ref Dd) env) (fun _ s' => EmPost C F hs kk Ca Dd ρ₁ (os ++ r) s s') s
noncomputable def Turns (E : Expr) (dep : Nat) (ip : Pos) (target : Expr) (ifs : List Expr) (emit : Value → Env → Sem Unit) : Prop := ∀ (it acc : Value) (env : Env), compTurn E dep it acc env = (do
      standAt ip
      match ← pyNext it with
      | none => pure (.done .next)
      | some v =>
        letOwnedTupleGo target it v
        assign target env v
        let mut ok := true
        for c in ifs do
          if ok then ok ← isTrue c env (eval c env)
        if ok then emit acc env
        again (.compLoop E dep it acc env))
theorem Rep.vol {F : Fx} {h h' : Heap} {v : Value} {V : Addr → Prop} (x : RepC C h (fun a => ¬ F.vol a) v d) (hV : ∀ a, V a → F.vol a) (k : ∀ b o, ¬ V b → h.get? b = some o → h'.get? b = some o) : RepC C h' (fun a => ¬ F.vol a) v d := x.trans (fun _ n => n) fun a o n q => k a o (fun v => n (hV a v)) q
set_option genInjectivity false in
inductive GI (C : Cfg) (F : Fx) (ρ : EEnv) (upd : EEnv → D → Option EEnv) (bs : EEnv → Option Bool) (em : EEnv → Option (List D)) (ds outs : List D) (St : Nat → Heap → Prop) (hs : Heap) (kk : Nat) (Ca Dd : Addr) (wr : List Addr) (s : Shared) (m : Nat) (s' : Shared) : Prop
  | mk (j : Nat) (os rest : List D) : j ≤ ds.length → m = ds.length + 1 - j → St j s'.heap → Acc C F hs kk Dd os s'.heap → gL upd bs em ρ (ds.drop j) = some rest → os ++ rest = outs → RelE C F s'.heap ρ → GlobOK C s'.heap → ExtV C (fun b => b = Ca ∨ b = Dd ∨ b ∈ wr) s s' → GI C F ρ upd bs em ds outs St hs kk Ca Dd wr s m s'
theorem gloop {elt : Expr} {gens : List Comprehension} {scope : Scope} {pos : Pos} {dep n : Nat} {ip : Pos} {target : Expr} {ifs : List Expr} {emit : Value → Env → Sem Unit} {is : List Nat} {upd : EEnv → D → Option EEnv} {bs : EEnv → Option Bool} {em : EEnv → Option (List D)} {Pρ : EEnv → Prop} {Ca Dd I : Addr} {hs : Heap} {kk : Nat} {fp wr : List Addr} {ds outs os₀ : List D} {P : Nat → Value → Prop} {St : Nat → Heap → Prop} {R : Result → Shared → Prop}
    (hturn : Turns (.ListComp elt gens scope pos) dep ip target ifs emit) (G : Geo C F n Ca Dd fp wr) (ht : AsgOK C Γ l target is upd) (his : ∀ i ∈ is, n ≤ i)
    (hu : ∀ (ρ₁ : EEnv) (d : D), upd ρ d = some ρ₁ → ρ₁.length = ρ.length ∧ (∀ (i : Nat) x, ρ[i]? = some (some x) → ρ₁[i]? = some (some x)) ∧ Pρ ρ₁) (hb : TestsOK C Γ l ifs bs) (he : EmOK C Γ l n emit kk em Pρ)
    (W : Walks C.prog C.w A I fp wr ds.length P St) (st : St 0 s.heap) (hP : ∀ i v, P i v → ∃ d, ds[i]? = some d ∧ RepC C s.heap (fun a => ¬ F.vol a) v d)
    (hlet : ∀ (v : Value) (i : Nat) (s : Shared) (Q : Unit → Shared → Prop) (E' : Value → Shared → Prop), St i s.heap → Q () s → wpAny (model C.prog C.w) A (letOwnedTupleGo target (.ref I) v) Q E' s)
    (hex : ∀ i h, St i h → ∀ b ∈ wr, ∃ o, h.get? b = some o) (c : Cx C Γ l A F env ρ s) (acc : Acc C F hs kk Dd os₀ s.heap) (hco : gL upd bs em ρ ds = some outs) (hlen : os₀.length + outs.length ≤ sizeLine) (hfr : ∀ a, s.heap.get? a = none → hs.get? a = none)
    (hfin : ∀ (s' : Shared) (hi : Heap) (tk : Nat), ExtV C (fun b => b = Ca ∨ b = Dd ∨ b ∈ wr) s s' → RelE C F s'.heap ρ → GlobOK C s'.heap → Acc C F hs kk Dd (os₀ ++ outs) s'.heap → (∀ b o, b ∉ wr → s'.heap.get? b = some o → hi.get? b = some o) → R (.ok .next) { s' with heap := hi, toks := tk }) :
    codeAny (model C.prog C.w) A (.compLoop (.ListComp elt gens scope pos) dep (.ref I) (.ref Dd) env) R s := by
  have vV : ∀ a, (a = Ca ∨ a = Dd ∨ a ∈ wr) → F.volc a ∧ ¬ C.T a := fun a q => by
    rcases q with rfl | rfl | q
    · exact G.volC
    · exact G.volD
    · exact G.volw a q
  have nK : ∀ a o, C.K.lookup a = some o → ¬ (a = Ca ∨ a = Dd ∨ a ∈ wr) := fun a o k q => c.rel.vK a o k (c.rel.vc a (vV a q).1)
  have nlow : ∀ a : Nat, a = 0 ∨ a = 2 ∨ a = 3 → ¬ (a = Ca ∨ a = Dd ∨ a ∈ wr) := fun a h q => c.rel.vlow a h (c.rel.vc a (vV a q).1)
  have Dw : Dd ∉ wr := fun h => (G.fpx Dd (W.sub Dd h)).2.1 rfl
  have Cw : Ca ∉ wr := fun h => (G.fpx Ca (W.sub Ca h)).1 rfl
  have gl : ∀ {V : Addr → Prop} {s₁ s₂ : Shared}, GlobOK C s₁.heap → ExtV C V s₁ s₂ → (∀ b, V b → (b = Ca ∨ b = Dd ∨ b ∈ wr)) → GlobOK C s₂.heap := fun g x h => g.extV x (fun a o k q => nK a o k (h a q)) (fun q => nlow 3 (.inr (.inr rfl)) (h _ q)) (fun q => nlow 0 (.inl rfl) (h _ q)) (fun q => nlow 2 (.inr (.inl rfl)) (h _ q))
  refine codeAny_loop rfl (GI C F ρ upd bs em ds (os₀ ++ outs) St hs kk Ca Dd wr s) (fun m s' hI => ?_) (ds.length + 1) ⟨0, os₀, outs, Nat.zero_le _, rfl, st, acc, hco, rfl, c.rel, c.glob, (Ext.refl C s).v⟩
  show wpAny _ A ((compTurn (.ListComp elt gens scope pos) dep (.ref I) (.ref Dd) env).onRaise (fun x => do noteFrame x env; theTreesLotGoes x)) _ _ s'
  refine wpAny_noted ?_
  rw [hturn]
  refine wpAny_bind (wpAny_standAt (wpAny_bind ?_))
  obtain ⟨j, os, rest, hj, rfl, stj, accj, hcl, hout, rel', glob', ext'⟩ := hI
  by_cases hlt' : j < ds.length
  · refine W.item j s' _ _ hlt' stj fun v hi tk hPv sti hki => ?_
    have x₁ : ExtV C (· ∈ wr) s' { s' with heap := hi, toks := tk } := extV_of glob' (fun b hb => (G.volw b hb).2) (fun b o k hb => nK b o k (.inr (.inr hb))) hki (hex _ _ sti)
    have rel1 : RelE C F hi ρ := rel'.turn (V := (· ∈ wr)) (fun a w => (G.volw a w).1) G.locw hki (hex _ _ sti)
    have glob1 : GlobOK C hi := gl glob' x₁ fun b q => .inr (.inr q)
    have ext1 : ExtV C (fun b => b = Ca ∨ b = Dd ∨ b ∈ wr) s { s' with heap := hi, toks := tk } := ext'.trans x₁ fun b q => .inl (.inr (.inr q))
    have acc1 : Acc C F hs kk Dd os hi := accj.keep (V := (· ∈ wr)) (fun a w => c.rel.vc a (G.volw a w).1) Dw hki
    obtain ⟨dv, hdv, rdv⟩ := hP j v hPv
    have rdv' : RepC C hi (fun a => ¬ F.vol a) v dv := RepC.extV (fun a n => ⟨c.notT0 a n, fun q => n (c.rel.vc a (vV a q).1)⟩) ext1 rdv
    generalize hs1 : ({ s' with heap := hi, toks := tk } : Shared) = sa at x₁ ext1 ⊢
    have hha : sa.heap = hi := by rw [← hs1]
    rw [← hha] at sti rel1 glob1 acc1 rdv'
    refine wpAny_bind (hlet v _ sa _ _ sti (wpAny_bind ?_))
    have hdrop : ds.drop j = dv :: ds.drop (j + 1) := by
      rw [List.drop_eq_getElem_cons hlt']
      rw [List.getElem?_eq_getElem hlt'] at hdv
      cases hdv; rfl
    rw [hdrop] at hcl
    obtain ⟨ρ₁, hup, hcl⟩ := Option.bind_eq_some_iff.mp hcl
    obtain ⟨bt, hbt, hcl⟩ := Option.bind_eq_some_iff.mp hcl
    have cxa : Cx C Γ l A F env ρ sa := ⟨c.room, c.env, rel1, glob1⟩
    refine wpAny_mono (ht A F env ρ sa v dv ρ₁ cxa rdv' hup) (fun _ sb kb => wpAny_bind ?_) fun _ _ e => e.elim
    obtain ⟨x₂, rel2⟩ := kb
    have x₂' : ExtV C (· = Ca) sa sb := x₂.mono fun b ⟨i, hi, lc, hlc, e⟩ => e ▸ G.locC i lc (his i hi) hlc
    have ext2 : ExtV C (fun b => b = Ca ∨ b = Dd ∨ b ∈ wr) s sb := ext1.trans x₂' fun b q => .inl (.inl q)
    have glob2 : GlobOK C sb.heap := gl glob1 x₂' fun b q => .inl q
    have cxb : Cx C Γ l A F env ρ₁ sb := ⟨c.room, c.env, rel2, glob2⟩
    have stb : St (j + 1) sb.heap := W.frame _ _ _ sti fun b hb o q => x₂'.keep b o (G.fpx b hb).2.2 (G.fpx b hb).1 q
    have acc2 : Acc C F hs kk Dd os sb.heap := acc1.keep (V := fun b => b = Ca ∨ C.T b) (fun a q => c.rel.vc a (q.elim (fun e => e ▸ G.volC.1) (c.rel.vT a))) (fun q => q.elim G.dc G.volD.2) fun b o n q => x₂'.keep b o (fun t => n (.inr t)) (fun e => n (.inl e)) q
    obtain ⟨hl1, hl2, hl3⟩ := hu ρ₁ dv hup
    refine wpAny_mono (hb A F env ρ₁ sb bt cxb hbt) (fun ok sc kc => ?_) fun _ _ e => e.elim
    obtain ⟨e₃, rfl⟩ := kc
    have cxc := cxb.ext e₃
    have stc : St (j + 1) sc.heap := W.frame _ _ _ stb fun b hb o q => e₃.keep b o (G.fpx b hb).2.2 q
    have acc3 : Acc C F hs kk Dd os sc.heap := acc2.keep (V := C.T) (fun a t => c.rel.vc a (c.rel.vT a t)) G.volD.2 fun b o n q => e₃.keep b o n q
    have ext3 : ExtV C (fun b => b = Ca ∨ b = Dd ∨ b ∈ wr) s sc := ext2.trans e₃.v fun b q => .inl q
    cases ok with
    | false => exact wpAny_pure ⟨rfl, ds.length + 1 - (j + 1), Nat.sub_lt_sub_left (Nat.lt_succ_of_lt hlt') (Nat.lt_succ_self j), j + 1, os, rest, hlt', rfl, stc, acc3, hcl, hout, cxc.rel.weaken hl1.symm fun i x q => hl2 i x q, cxc.glob, ext3⟩
    | true =>
      obtain ⟨r, hr, hcl⟩ := Option.bind_eq_some_iff.mp hcl
      obtain ⟨rest', hr', hcl⟩ := Option.bind_eq_some_iff.mp hcl
      cases hcl
      have hol : os.length + r.length ≤ sizeLine := by
        have := congrArg List.length hout
        rw [List.length_append, List.length_append, List.length_append] at this
        omega
      refine wpAny_bind (wpAny_mono (he A F env ρ₁ sc hs Ca Dd os r cxc hl3 hr acc3 hol (fun a q => hfr a (ext3.none q)) G.toSpot) (fun _ sd kd => ?_) fun _ _ e => e.elim)
      exact wpAny_pure ⟨rfl, ds.length + 1 - (j + 1), Nat.sub_lt_sub_left (Nat.lt_succ_of_lt hlt') (Nat.lt_succ_self j), j + 1, os ++ r, rest', hlt', rfl, W.frame _ _ _ stc fun b hb o q => kd.ext.keep b o (G.fpx b hb).2.2 (fun e => e.elim (G.fpx b hb).1 (G.fpx b hb).2.1) q, kd.acc, hr', by rw [List.append_assoc]; exact hout, kd.rel.weaken hl1.symm fun i x q => hl2 i x q, kd.glob, ext3.trans kd.ext fun b q => .inl (q.elim .inl fun z => .inr (.inl z))⟩
  · have hjn : j = ds.length := Nat.le_antisymm hj (Nat.not_lt.mp hlt')
    refine W.done s' _ _ (hjn ▸ stj) fun hi tk hki => wpAny_pure ?_
    have hrest : rest = [] := by
      rw [hjn, List.drop_length] at hcl; cases hcl; rfl
    subst hrest
    rw [List.append_nil] at hout
    subst hout
    exact hfin s' hi tk ext' rel' glob' accj hki
theorem em1_ok {elt : Expr} {fe : EEnv → Option D} {me : EEnv → Mk} {kk n : Nat} (he : EvOK C Γ l elt fe me) : EmOK C Γ l n (fun acc env => do let _ ← call (.builtin "list.append") [acc, ← eval elt env]) kk (em1 kk fe me) (fun _ => True) := by
  intro A F env ρ₁ s hs Ca Dd os r c _ hem acc hlen hfr sp
  obtain ⟨de, hde, hem⟩ := Option.bind_eq_some_iff.mp hem
  obtain ⟨hk, rfl⟩ := ite_inv hem
  refine wpAny_bind (he.run c hde fun x sd e₄ cxd rx => wpAny_bind ?_)
  obtain ⟨ys, O, p0, r0, nd, f⟩ := acc
  have r0x := r0.ex
  have pd : sd.heap.PlainList Dd ys.toArray := p0.at fun o => e₄.keep _ o sp.volD.2
  have hyl : ys.length = os.length := r0.length
  have vD : F.vol Dd := c.rel.vc _ sp.volD.1
  refine wpAny_list_append_plain pd (fun he' hpl hsb => wpAny_pure ?_) (by rw [List.size_toArray, hyl]; exact Nat.le_trans (Nat.le_add_right _ _) hlen)
  have nD : ∀ a, ¬ F.vol a → a ≠ Dd := fun a n e => n (e ▸ vD)
  have nlow : ∀ b : Nat, b = 0 ∨ b = 2 ∨ b = 3 → b ≠ Dd := fun b h e => c.rel.vlow b h (e ▸ vD)
  have kv : ∀ a o, ¬ F.vol a → s.heap.get? a = some o → he'.get? a = some o := fun a o n q => hsb.extBut a o (nD a n) (e₄.keep a o (c.notT0 a n) q)
  have x₅ : ExtV C (· = Dd) sd { sd with heap := he' } := extV_of (tk := sd.toks) cxd.glob (fun b q => q ▸ sp.volD.2) (fun b o k q => c.rel.vK b o k (q ▸ vD)) (fun b o q z => hsb.extBut b o q z) (fun b q => q ▸ plain_some hpl)
  refine ⟨(e₄.v (V := fun b => b = Ca ∨ b = Dd)).trans x₅ fun b q => .inl (.inr q), cxd.rel.turn (V := (· = Dd)) (fun a q => q ▸ sp.volD.1) (fun lc hl q => sp.locD lc hl q) (fun b o q z => hsb.extBut b o q z) (fun b q => q ▸ plain_some hpl),
    cxd.glob.extV x₅ (fun a o k q => c.rel.vK a o k (q ▸ vD)) (nlow 3 (.inr (.inr rfl))) (nlow 0 (.inl rfl)) (nlow 2 (.inr (.inl rfl))), ?_⟩
  obtain ⟨On, tn, ndn, fn⟩ : ∃ On, OwnT C.prog C.w he' (fun a => ¬ F.vol a ∧ a ∉ O ++ On) kk x de On ∧ On.Nodup ∧ ∀ a ∈ On, s.heap.get? a = none := by
    match kk, hk, r0 with
    | 0, hk, r0 =>
      obtain rfl := r0.none0
      exact ⟨[], .fz0 ((rx.clean c.rel.hv hk).trans (fun a n => ⟨n, fun h => nomatch h⟩) fun a o n q => hsb.extBut a o (nD a n) q), List.nodup_nil, fun _ h => nomatch h⟩
    | 1, hk, r0 =>
      obtain ⟨h1, h2⟩ := Bool.and_eq_true_iff.mp hk
      rw [Mk.of_isOwn h1] at rx
      obtain ⟨On, t, nd', fr⟩ := rx
      exact ⟨On, own_flat t h2 fun a ha o q => hsb.extBut a o (nD a (c.fresh_vol (fr a ha))) q, nd', fr⟩
    | _ + 2, hk, _ => cases hk
  have apart : ∀ a, (∃ o, s.heap.get? a = some o) → a ∉ On := fun a ⟨o, q⟩ hm => by rw [fn a hm] at q; cases q
  refine ⟨ys ++ [x], O ++ On, by simpa using hpl, (r0x.1.trans (fun a n => ⟨n.1.1, fun hm => (List.mem_append.mp hm).elim n.1.2 (apart a n.2)⟩) (fun a o n q => kv a o n.1.1 q) (fun a ha o q => kv a o (f a ha).2 q)).app tn, List.nodup_append.mpr ⟨nd, ndn, fun a ha b hb e => apart a (r0x.2 a ha) (e ▸ hb)⟩, fun a ha => ?_⟩
  rcases List.mem_append.mp ha with ha | ha
  · exact f a ha
  · exact ⟨hfr a (fn a ha), c.fresh_vol (fn a ha)⟩
theorem comp_gen {elt target iter : Expr} {ifs : List Expr} {more : List Comprehension} {scope : Scope} {pos pos' : Pos} {fi : EEnv → Option D} {mi : EEnv → Mk} {upd : EEnv → D → Option EEnv} {bs : EEnv → Option Bool} {xs : List Str} {n kk : Nat} {tt : Bool} {is : List Nat} {em : EEnv → Option (List D)} {emit : Value → Env → Sem Unit} {Pρ : EEnv → Prop} {di : D} {ds outs : List D}
    (hkind : scope.kind = .function) (hchk : compChk Γ scope.names xs = true) (xi : EvOK C Γ l iter fi mi) (ht : AsgOK C (compSc Γ scope.names xs n) l target is upd) (hu : UpdOK n xs.length upd) (his : ∀ i ∈ is, n ≤ i)
    (htg : ∀ b, (!tt || b) = true → tgtOK b target = true) (hb : TestsOK C (compSc Γ scope.names xs n) l ifs bs) (hturn : Turns (.ListComp elt (⟨target, iter, ifs, 0⟩ :: more) scope pos) 0 iter.pos target ifs emit) (hem : EmOK C (compSc Γ scope.names xs n) l n emit kk em Pρ)
    (hPρ : ∀ (ρ ρ₁ : EEnv) (d : D), ρ.length = n → upd (ρ ++ List.replicate xs.length none) d = some ρ₁ → Pρ ρ₁) (hs : ∀ env x, foldedSetIterable iter env x = pure x)
    (c : Cx C Γ l A F env ρ s) (hn : ρ.length = n) (h₁ : fi ρ = some di) (h₂ : di.items = some ds) (hg1 : ((mi ρ).cat || ds.all D.imm) = true) (hg2 : (!tt || di.isL) = true) (hco : gL upd bs em (ρ ++ List.replicate xs.length none) ds = some outs) (hol : ds.length ≤ sizeLine → outs.length ≤ sizeLine) {use : Option (Value → Sem Unit)} {Q : Value → Shared → Prop}
    (hnone : use = none → ∀ v s', Ext C s s' → MkRep C F s.heap s'.heap (.own (kk + 1)) v (.list outs) → Q v s')
    (hsome : ∀ u, use = some u → ∀ v s' Ca, Ext C s s' → s.heap.get? Ca = none → (∃ m, s'.heap.Ns Ca m) → MkRep C (F.plus [] (· = Ca)) s.heap s'.heap (.own (kk + 1)) v (.list outs) →
      Wp C A (u v) (fun _ s'' => ∃ m, s''.heap.Ns Ca m ∧ ∀ h', Heap.SameBut Ca s''.heap h' → Q .none { s'' with heap := h' }) s') :
    Wp C A (comprehension (.ListComp elt (⟨target, iter, ifs, 0⟩ :: more) scope pos) scope env pos' (newList []) false (eval iter env) use) Q s := by
  obtain ⟨hcell, hlocs, hxs, hnd, hne⟩ := compChk_rest hchk
  refine wpAny_comprehension_free (use := use) rfl (hs env) (closureFor_eq (comp_cells c.env hchk)) hkind hlocs ?_
  refine xi.run c h₁ fun v s₁ e₁ c₁ r₁ => ?_
  have r2 := r₁.two c.rel.hv c.rel.vc c.rel.newc h₂ hg1
  refine wpAny_mono (iter_ok r2 h₂ c.room.1) (fun it s₂ k => ?_) fun _ _ e => e
  obtain ⟨e₂, I, fp, wr, P, St, rfl, W, st, hwr, hfp, hlt, hP, hlet, hex, hlen⟩ := k
  refine wpAny_newObj_type (wpAny_newFunctionEnv hcell (by intro y hy; simp at hy) (fun h₁ hns₁ hsb₁ => ?_) hkind)
  dsimp only at hns₁ hsb₁ ⊢
  generalize hH2 : s₂.heap.push { cls := .type "list", dict := none, data := .seq ([] : List Value).toArray } = H2 at hns₁ hsb₁ ⊢
  generalize hDe : s₂.heap.objs.size = Dd
  generalize hCe : H2.objs.size = Ca at hns₁ hsb₁ ⊢
  have hCD : Ca = Dd + 1 := by rw [← hCe, ← hH2, Heap.size_push, hDe]
  have hnl : F.locs.length = n := by rw [← c.rel.len]; exact hn
  have hDC : Dd ≠ Ca := by rw [hCD]; exact Nat.ne_of_lt (Nat.lt_succ_self _)
  have ltC : ∀ b : Nat, b < Dd → b ≠ Ca := fun b hb => by rw [hCD]; exact Nat.ne_of_lt (Nat.lt_succ_of_lt hb)
  -- what is fresh
  have lt_of : ∀ b o, s₂.heap.get? b = some o → b < Dd := fun b o q => hDe ▸ Heap.lt_size q
  have none_ge : ∀ a, Dd ≤ a → s₂.heap.get? a = none := fun a ha => by
    cases q : s₂.heap.get? a with
    | none => rfl
    | some o => exact absurd (lt_of a o q) (Nat.not_lt.mpr ha)
  have frD : s₁.heap.get? Dd = none := e₂.none (none_ge _ (Nat.le_refl _))
  have frC : s₁.heap.get? Ca = none := e₂.none (none_ge _ (hCD ▸ Nat.le_succ _))
  have keep24 : ∀ b o, s₂.heap.get? b = some o → h₁.get? b = some o := fun b o q => by
    have hb := lt_of b o q
    exact hsb₁.extBut b o (ltC b hb) (Heap.get?_push_of_some _ (hH2 ▸ Heap.get?_push_of_some _ q))
  have accD : h₁.PlainList Dd ([] : List Value).toArray := ⟨0, hsb₁.extBut _ _ hDC (Heap.get?_push_of_some _ (by rw [← hH2, ← hDe]; exact Heap.get?_push_size _ rfl))⟩
  have e₂₄ : Ext C s₂ { s₂ with heap := h₁, toks := s₂.toks + ([] : List (Str × Value)).length } := Ext.of keep24
  generalize hs4 : ({ s₂ with heap := h₁, toks := s₂.toks + ([] : List (Str × Value)).length } : Shared) = s₄ at e₂₄ ⊢
  have hh4 : s₄.heap = h₁ := by rw [← hs4]
  rw [← hh4] at hns₁ accD keep24
  have e₁₄ := e₂.trans e₂₄
  -- the frame
  let Ws : Addr → Prop := fun a => a = Ca ∨ a = Dd ∨ a ∈ wr
  have hWf : ∀ a, Ws a → s₁.heap.get? a = none := fun a w => by
    rcases w with rfl | rfl | w
    · exact frC
    · exact frD
    · exact hwr a w
  have hWx : ∀ a, Ws a → ∃ o, s₄.heap.get? a = some o := fun a w => by
    rcases w with rfl | rfl | w
    · obtain ⟨o, _, _, q, _⟩ := hns₁; exact ⟨o, q⟩
    · exact plain_some accD
    · obtain ⟨o, q⟩ := hex 0 _ st a w; exact ⟨o, keep24 a o q⟩
  have rel₄ := c₁.rel.plus c₁.glob e₁₄ hWf hWx (xs := xs) (fun _ _ => .inl rfl) (fun _ _ => ⟨_, hns₁⟩) hnd
  have hWT : ∀ a, Ws a → ¬ C.T a := fun a w t => by obtain ⟨o, q⟩ := c₁.glob.tdom a t; rw [hWf a w] at q; cases q
  have hWK : ∀ a o, C.K.lookup a = some o → ¬ Ws a := fun a o k w => by have := c₁.glob.inK a o k; rw [hWf a w] at this; cases this
  have wrlt : ∀ b ∈ fp, b < Dd := fun b hb => hDe ▸ hlt b hb
  have wrfp := W.sub
  generalize hF' : F.plus (xs.map (.ns Ca)) Ws = F' at rel₄
  have hvol' : ∀ a, F'.vol a ↔ (F.vol a ∨ Ws a) := fun a => by rw [← hF']; rfl
  have hvolc' : ∀ a, F'.volc a ↔ (F.volc a ∨ Ws a) := fun a => by rw [← hF']; rfl
  have hlocs' : F'.locs = F.locs ++ xs.map (.ns Ca) := by rw [← hF']; rfl
  have eo' : EnvOK (compSc Γ scope.names xs n) F' (compEnvC scope (closL env scope.names []) Ca env) := hF' ▸ c.env.comp (W := Ws) hkind hchk hnl
  have notLocW : ∀ lc ∈ F'.locs, ∀ a, a = Dd ∨ a ∈ wr → lc.addr ≠ a := by
    intro lc hl a ha q
    rw [hlocs'] at hl
    rcases List.mem_append.mp hl with hl | hl
    · obtain ⟨o, z⟩ := c₁.rel.hv lc.addr (c₁.rel.vc _ (c₁.rel.loc lc hl).1)
      rw [q, hWf a (.inr ha)] at z; cases z
    · obtain ⟨x, _, rfl⟩ := List.mem_map.mp hl
      have q' : Ca = a := q
      rcases ha with rfl | ha
      · exact hDC q'.symm
      · exact ltC a (wrlt a (wrfp a ha)) q'.symm
  have locI : ∀ b, LocI F' is b → b = Ca := by
    rintro b ⟨i, hi, lc, hlc, rfl⟩
    rw [hlocs', List.getElem?_append_right (by rw [hnl]; exact his i hi), List.getElem?_map] at hlc
    obtain ⟨x, _, rfl⟩ := Option.map_eq_some_iff.mp hlc
    rfl
  have fpT : ∀ b ∈ fp, ¬ C.T b := fun b hb t => by
    rcases hfp b hb with q | q
    · exact hWT b (.inr (.inr q)) t
    · exact q (c.rel.vT b t)
  generalize hρ' : ρ ++ List.replicate xs.length none = ρ' at rel₄ hco
  have st₄ : St 0 s₄.heap := W.frame _ _ _ st fun b _ o q => keep24 b o q
  have geo : Geo C F' n Ca Dd fp wr := ⟨⟨⟨(hvolc' _).mpr (.inr (.inr (.inl rfl))), hWT _ (.inr (.inl rfl))⟩, ⟨(hvolc' _).mpr (.inr (.inl rfl)), hWT _ (.inl rfl)⟩, hDC, fun lc hl => notLocW lc hl Dd (.inl rfl), fun i lc hi hlc => by
      rw [hlocs', List.getElem?_append_right (by rw [hnl]; exact hi), List.getElem?_map] at hlc
      obtain ⟨x, _, rfl⟩ := Option.map_eq_some_iff.mp hlc
      rfl⟩, fun a ha => ⟨(hvolc' _).mpr (.inr (.inr (.inr ha))), hWT _ (.inr (.inr ha))⟩, fun b hb => ⟨ltC b (wrlt b hb), Nat.ne_of_lt (wrlt b hb), fpT b hb⟩, fun lc hl h => notLocW lc hl _ (.inr h) rfl⟩
  have cx₄ : Cx C (compSc Γ scope.names xs n) l A F' (compEnvC scope (closL env scope.names []) Ca env) ρ' s₄ := ⟨c.room, eo', rel₄, c₁.glob.ext e₁₄⟩
  have hup : ∀ (ρ₁ : EEnv) (d : D), upd ρ' d = some ρ₁ → ρ₁.length = ρ'.length ∧ (∀ (i : Nat) x, ρ'[i]? = some (some x) → ρ₁[i]? = some (some x)) ∧ Pρ ρ₁ := fun ρ₁ d h => by
    rw [← hρ'] at h
    obtain ⟨hl1, hl2⟩ := hu ρ ρ₁ d hn h
    refine ⟨by rw [hl1, ← hρ']; simp [hn], fun i x q => ?_, hPρ ρ ρ₁ d hn h⟩
    rw [← hρ'] at q
    have hin : i < n := by
      rcases Nat.lt_or_ge i n with h | h
      · exact h
      · rw [List.getElem?_append_right (by omega), List.getElem?_replicate] at q
        split at q <;> cases q
    rw [List.getElem?_append_left (by omega)] at q
    rw [hl2 i hin]; exact q
  have hP4 : ∀ i v, P i v → ∃ d, ds[i]? = some d ∧ RepC C s₄.heap (fun a => ¬ F'.vol a) v d := fun i v h => by
    obtain ⟨dv, hdv, rdv⟩ := hP i v h
    refine ⟨dv, hdv, rdv.ex.trans (fun a q z => ?_) fun a o q z => e₁₄.keep a o (c.notT0 a q.1) z⟩
    rcases (hvol' a).mp z with z | z
    · exact q.1 z
    · obtain ⟨o, y⟩ := q.2; rw [hWf a z] at y; cases y
  have loop : codeAny (model C.prog C.w) A (.compLoop (.ListComp elt (⟨target, iter, ifs, 0⟩ :: more) scope pos) 0 (.ref I) (.ref Dd) (compEnvC scope (closL env scope.names []) Ca env))
      (compPost (model C.prog C.w) A (fun _ _ => False) use Q (.ref Dd) Ca) s₄ := by
    refine gloop (hs := s₁.heap) (os₀ := []) hturn geo ht his hup hb hem W st₄ hP4 (fun v i s Q E' => hlet target v i s A Q E' (htg _ hg2)) hex cx₄ ⟨[], [], accD, .nil, List.nodup_nil, fun _ h => nomatch h⟩ hco (by rw [List.length_nil, Nat.zero_add]; exact hol hlen) (fun a => e₁₄.none) ?_
    intro s' hi tk ext0 rel' glob' acc' hki
    obtain ⟨ys, O, pl, ry, nd, fO⟩ := acc'
    have hyl : ys.length ≤ sizeLine := by rw [ry.length]; exact hol hlen
    have ext' : Ext C s₁ s' := ext_more e₁₄ ext0 hWf
    have nwC : Ca ∉ wr := fun hb => absurd (wrlt _ (wrfp _ hb)) (by rw [hCD]; exact Nat.not_lt.mpr (Nat.le_succ _))
    have nwD : Dd ∉ wr := fun hb => Nat.lt_irrefl _ (wrlt _ (wrfp _ hb))
    obtain ⟨x0, xr, rfl⟩ : ∃ x0 xr, xs = x0 :: xr := by cases xs with | nil => exact absurd rfl hne | cons a b => exact ⟨a, b, rfl⟩
    obtain ⟨mC, hmC⟩ := rel'.locex (.ns Ca x0) (by rw [hlocs']; exact List.mem_append_right _ (.head _))
    have nvD : F'.vol Dd := (hvol' _).mpr (.inr (.inr (.inl rfl)))
    have ndD : (Dd :: O).Nodup := List.nodup_cons.mpr ⟨fun h => (fO Dd h).2 nvD, nd⟩
    have frO : ∀ a ∈ Dd :: O, s.heap.get? a = none := fun a ha => (List.mem_cons.mp ha).elim (fun e => e ▸ e₁.none frD) fun h => e₁.none (fO a h).1
    cases use with
    | none =>
      refine ⟨mC, Ns.kept hmC fun o q => hki _ o nwC q, fun h'' hsb => ?_⟩
      have kk' : ∀ a o, ¬ Ws a → s'.heap.get? a = some o → h''.get? a = some o := fun a o q z => hsb.extBut a o (fun e => q (.inl e)) (hki a o (fun e => q (.inr (.inr e))) z)
      have kD : ∀ o, s'.heap.get? Dd = some o → h''.get? Dd = some o := fun o z => hsb.extBut _ o hDC (hki _ o nwD z)
      have ef : Ext C s₁ { s' with heap := h'', toks := tk } := Ext.wr c₁.glob ext' (W := Ws) hWf fun b o q z => kk' b o q z
      refine hnone rfl _ _ (e₁.trans ef) ⟨Dd :: O, .list (pl.at kD) hyl (ry.trans (fun a q => ⟨fun z => q.1 ((hvol' a).mpr (.inl z)), fun hm => (List.mem_cons.mp hm).elim (fun e => q.1 (e ▸ nvD)) q.2⟩) (fun a o q z => kk' a o (fun w => q.1 ((hvol' a).mpr (.inr w))) z) fun a ha o z => kk' a o (fun w => (fO a ha).2 ((hvol' a).mpr (.inr w))) z), ndD, frO⟩
    | some u =>
      have kk' : ∀ a o, ¬ Ws a → s'.heap.get? a = some o → hi.get? a = some o := fun a o q z => hki a o (fun e => q (.inr (.inr e))) z
      have kD : ∀ o, s'.heap.get? Dd = some o → hi.get? Dd = some o := fun o z => hki _ o nwD z
      have ef : Ext C s₁ { s' with heap := hi, toks := tk } := Ext.wr c₁.glob ext' (W := Ws) hWf fun b o q z => kk' b o q z
      refine hsome u rfl _ _ Ca (e₁.trans ef) (e₁.none frC) ⟨mC, Ns.kept hmC fun o q => hki _ o nwC q⟩ ⟨Dd :: O, .list (pl.at kD) hyl (ry.trans (fun a q => ⟨fun z => q.1 ((hvol' a).mpr (z.elim .inl fun e => .inr (.inl e))), fun hm => (List.mem_cons.mp hm).elim (fun e => q.1 (e ▸ nvD)) q.2⟩) (fun a o q z => kk' a o (fun w => q.1 ((hvol' a).mpr (.inr w))) z) fun a ha o z => kk' a o (fun w => (fO a ha).2 ((hvol' a).mpr (.inr w))) z), ndD, frO⟩
  exact codeAny_compStart_list loop (W.self 0 s₄ _ _ st₄ loop)
theorem turns1 {elt target iter : Expr} {ifs : List Expr} {scope : Scope} {pos : Pos} : Turns (.ListComp elt [⟨target, iter, ifs, 0⟩] scope pos) 0 iter.pos target ifs (fun acc env => do let _ ← call (.builtin "list.append") [acc, ← eval elt env]) := fun it acc env => compTurn_list elt target iter ifs scope pos it acc env
set_option genInjectivity false in
inductive CompX (n k : Nat) (tt : Bool) (fi : EEnv → Option D) (mi : EEnv → Mk) (upd : EEnv → D → Option EEnv) (bs : EEnv → Option Bool) (fe : EEnv → Option D) (me : EEnv → Mk) (ρ : EEnv) (d : D) : Prop
  | mk (di : D) (ds outs : List D) : ρ.length = n → fi ρ = some di → di.items = some ds → ((mi ρ).cat || ds.all D.imm) = true → (!tt || di.isL) = true → compL upd bs fe me (ρ ++ List.replicate k none) ds = some outs → d = .list outs → CompX n k tt fi mi upd bs fe me ρ d
theorem compF_inv {n k : Nat} {tt : Bool} {fi : EEnv → Option D} {mi : EEnv → Mk} {upd : EEnv → D → Option EEnv} {bs : EEnv → Option Bool} {fe : EEnv → Option D} {me : EEnv → Mk} (fd : compF n k tt fi mi upd bs fe me ρ = some d) : CompX n k tt fi mi upd bs fe me ρ d := by
  unfold compF at fd
  split at fd
  case isFalse => cases fd
  rename_i hn
  obtain ⟨di, h₁, fd⟩ := Option.bind_eq_some_iff.mp fd
  obtain ⟨ds, h₂, fd⟩ := Option.bind_eq_some_iff.mp fd
  split at fd
  case isFalse => cases fd
  rename_i hg
  obtain ⟨hg1, hg2⟩ := Bool.and_eq_true_iff.mp hg
  obtain ⟨outs, hco, rfl⟩ := Option.map_eq_some_iff.mp fd
  exact ⟨di, ds, outs, hn, h₁, h₂, hg1, hg2, hco, rfl⟩
theorem comp_core {elt target iter : Expr} {ifs : List Expr} {scope : Scope} {pos pos' : Pos} {fi fe : EEnv → Option D} {mi me : EEnv → Mk} {upd : EEnv → D → Option EEnv} {bs : EEnv → Option Bool} {xs : List Str} {n : Nat} {tt : Bool} {is : List Nat}
    (hkind : scope.kind = .function) (hchk : compChk Γ scope.names xs = true) (xi : EvOK C Γ l iter fi mi) (ht : AsgOK C (compSc Γ scope.names xs n) l target is upd) (hu : UpdOK n xs.length upd) (his : ∀ i ∈ is, n ≤ i)
    (htg : ∀ b, (!tt || b) = true → tgtOK b target = true) (hb : TestsOK C (compSc Γ scope.names xs n) l ifs bs) (he : EvOK C (compSc Γ scope.names xs n) l elt fe me) (hs : ∀ env x, foldedSetIterable iter env x = pure x)
    (c : Cx C Γ l A F env ρ s) (fd : compF n xs.length tt fi mi upd bs fe me ρ = some d) {use : Option (Value → Sem Unit)} {Q : Value → Shared → Prop}
    (hnone : use = none → ∀ v s', Ext C s s' → MkRep C F s.heap s'.heap (.own 1) v d → Q v s')
    (hsome : ∀ u, use = some u → ∀ v s' Ca, Ext C s s' → s.heap.get? Ca = none → (∃ m, s'.heap.Ns Ca m) → MkRep C (F.plus [] (· = Ca)) s.heap s'.heap (.own 1) v d →
      Wp C A (u v) (fun _ s'' => ∃ m, s''.heap.Ns Ca m ∧ ∀ h', Heap.SameBut Ca s''.heap h' → Q .none { s'' with heap := h' }) s') :
    Wp C A (comprehension (.ListComp elt [⟨target, iter, ifs, 0⟩] scope pos) scope env pos' (newList []) false (eval iter env) use) Q s := by
  obtain ⟨di, ds, outs, hn, h₁, h₂, hg1, hg2, hco, rfl⟩ := compF_inv fd
  rw [compL_g] at hco
  exact comp_gen (kk := 0) hkind hchk xi ht hu his htg hb turns1 (em1_ok he) (fun _ _ _ _ _ => trivial) hs c hn h₁ h₂ hg1 hg2 hco (fun h => Nat.le_trans (gL_len em1_len hco) h) hnone hsome
theorem comp_ok {elt target iter : Expr} {ifs : List Expr} {scope : Scope} {pos : Pos} {fi fe : EEnv → Option D} {mi me : EEnv → Mk} {upd : EEnv → D → Option EEnv} {bs : EEnv → Option Bool} {xs : List Str} {n : Nat} {tt : Bool} {is : List Nat}
    (hkind : scope.kind = .function) (hchk : compChk Γ scope.names xs = true) (xi : EvOK C Γ l iter fi mi) (ht : AsgOK C (compSc Γ scope.names xs n) l target is upd) (hu : UpdOK n xs.length upd) (his : ∀ i ∈ is, n ≤ i)
    (htg : ∀ b, (!tt || b) = true → tgtOK b target = true) (hb : TestsOK C (compSc Γ scope.names xs n) l ifs bs) (he : EvOK C (compSc Γ scope.names xs n) l elt fe me) (hs : ∀ env x, foldedSetIterable iter env x = pure x) :
    EvOK C Γ l (.ListComp elt [⟨target, iter, ifs, 0⟩] scope pos) (compF n xs.length tt fi mi upd bs fe me) (fun _ => .own 1) := by
  refine ⟨fun A F env ρ s d c fd => ?_⟩
  rw [eval_ListComp]
  exact comp_core hkind hchk xi ht hu his htg hb he hs c fd (use := none) (fun _ v s' e r => ⟨e, r⟩) fun u q => by cases q
end
end Mine

set_option autoImplicit false
open PySem PyProof.Rows
namespace Mine
set_option linter.unusedVariables false

section
variable {C : Cfg} {Γ : Sc} {l : Nat} {A : Around} {F : Fx} {env : Env} {ρ : EEnv} {s : Shared} {d : D} {e : Expr}
theorem slot_one {Γ : Sc} {names : List (Str × NameKind)} {x : Str} {n : Nat} {xs : List Str} : (compSc Γ names (x :: xs) n).slots.lookup x = some n := by
  show List.lookup x ((x, n) :: _) = _
  rw [List.lookup_cons, beq_self_eq_true]
set_option genInjectivity false in
inductive CompKX (kk n k : Nat) (fi : EEnv → Option D) (mi : EEnv → Mk) (upd : EEnv → D → Option EEnv) (fe : EEnv → Option D) (me : EEnv → Mk) (ρ : EEnv) (d : D) : Prop
  | mk (di : D) (ds outs : List D) : ρ.length = n → fi ρ = some di → di.items = some ds → ((mi ρ).cat || ds.all D.imm) = true → compLk kk upd fe me (ρ ++ List.replicate k none) ds = some outs → d = .list outs → CompKX kk n k fi mi upd fe me ρ d
theorem compFk_inv {kk n k : Nat} {fi fe : EEnv → Option D} {mi me : EEnv → Mk} {upd : EEnv → D → Option EEnv} (fd : compFk kk n k fi mi upd fe me ρ = some d) : CompKX kk n k fi mi upd fe me ρ d := by
  obtain ⟨hn, fd⟩ := ite_inv2 fd
  obtain ⟨di, h₁, fd⟩ := Option.bind_eq_some_iff.mp fd
  obtain ⟨ds, h₂, fd⟩ := Option.bind_eq_some_iff.mp fd
  obtain ⟨hg, fd⟩ := ite_inv2 fd
  obtain ⟨outs, hco, rfl⟩ := Option.map_eq_some_iff.mp fd
  exact ⟨di, ds, outs, hn, h₁, h₂, hg, hco, rfl⟩
theorem compk_ok {elt iter : Expr} {scope : Scope} {px pos : Pos} {fi fe : EEnv → Option D} {mi me : EEnv → Mk} {x : Str} {n : Nat}
    (hkind : scope.kind = .function) (hchk : compChk Γ scope.names [x] = true) (xi : EvOK C Γ l iter fi mi) (he : EvOK C (compSc Γ scope.names [x] n) l elt fe me) (hs : ∀ env x, foldedSetIterable iter env x = pure x) :
    EvOK C Γ l (.ListComp elt [⟨.Name x px, iter, [], 0⟩] scope pos) (compFk 1 n 1 fi mi (setN n) fe me) (fun _ => .own 2) := by
  refine ⟨fun A F env ρ s d c fd => ?_⟩
  obtain ⟨di, ds, outs, hn, h₁, h₂, hg, hco, rfl⟩ := compFk_inv fd
  rw [compLk_g] at hco
  rw [eval_ListComp]
  exact comp_gen (kk := 1) (tt := false) (use := none) hkind hchk xi (asg_name (i := n) slot_one) (upd_set n) (fun i hi => Nat.le_of_eq (List.mem_singleton.mp hi).symm) (fun _ _ => rfl) tests_nil turns1 (em1_ok he) (fun _ _ _ _ _ => trivial) hs c hn h₁ h₂ hg rfl hco (fun h => Nat.le_trans (gL_len em1_len hco) h) (fun _ v s' e r => ⟨e, r⟩) fun u q => nomatch q
/-! two generators -/
theorem RelE.drop {hb h hi : Heap} {ρb : EEnv} {W : Addr → Prop} (r : RelE C (F.plus [] W) h ρ) (r0 : RelE C F hb ρb) (hW : ∀ a, W a → hb.get? a = none) (hd : ∀ b o, hb.get? b = some o → ∃ o', hi.get? b = some o') (k : ∀ b o, ¬ W b → h.get? b = some o → hi.get? b = some o) : RelE C F hi ρ := by
  have ex : ∀ a, F.vol a → ∃ o, hb.get? a = some o := r0.hv
  have nl : ∀ lc ∈ F.locs, ¬ W lc.addr := fun lc hl w => by
    obtain ⟨o, q⟩ := ex _ (r0.vc _ (r0.loc lc hl).1); rw [hW _ w] at q; cases q
  have kv : ∀ a o, ¬ (F.plus [] W).vol a → h.get? a = some o → hi.get? a = some o := fun a o n => k a o fun w => n (.inr w)
  have kc : ∀ a o, ¬ (F.plus [] W).volc a → h.get? a = some o → hi.get? a = some o := fun a o n => k a o fun w => n (.inr w)
  have el : (F.plus [] W).locs = F.locs := List.append_nil _
  refine ⟨fun a q => let ⟨o, z⟩ := ex a q; hd a o z, r0.vc, r0.vT, r0.vK, r0.vlow, r0.newc, fun a q => r0.newf a ?_, r0.loc, fun lc hl => (r.locex lc (el ▸ hl)).kept fun o => k _ o (nl lc hl), r0.dist, r.len.trans (congrArg List.length el), fun i d m q => ?_⟩
  · cases z : hb.get? a with
    | none => rfl
    | some o => obtain ⟨o', z'⟩ := hd a o z; rw [q] at z'; cases z'
  · obtain ⟨lc, v, h1, h2, h3⟩ := r.slot i d m q
    rw [el] at h1
    refine ⟨lc, v, h1, h2.kept fun o => k _ o (nl lc (List.mem_of_getElem? h1)), ?_⟩
    cases m with
    | fr => exact Rep.trans (fun a n z => n (.inl z)) kv h3
    | bor =>
      obtain ⟨O, t, f⟩ := h3
      exact ⟨O, t.trans (fun a n z => n (.inl z)) kv fun a ha o z => k a o (f a ha).2 z, fun a ha => (f a ha).1⟩
    | own k => exact Rep.trans (fun a n z => n (.inl z)) kc h3
    | unk => exact Rep.trans (fun a n z => n (.inl z)) kc h3
    | fu => exact Rep.trans (fun a n z => n (.inl z)) kc h3
theorem compStart1 {elt t1 i1 t2 i2 : Expr} {if1 if2 : List Expr} {scope : Scope} {pos : Pos} {it acc : Value} {R : Result → Shared → Prop}
    (h0 : codeAny (model C.prog C.w) A (.compLoop (.ListComp elt [⟨t1, i1, if1, 0⟩, ⟨t2, i2, if2, 0⟩] scope pos) 1 it acc env) R s)
    (h : wpAny (model C.prog C.w) A (pyIter it) (fun it' s' => codeAny (model C.prog C.w) A (.compLoop (.ListComp elt [⟨t1, i1, if1, 0⟩, ⟨t2, i2, if2, 0⟩] scope pos) 1 it' acc env) R s') (notedBy (model C.prog C.w) A env fun x s' => R (.error x) s') s) :
    codeAny (model C.prog C.w) A (.compStart (.ListComp elt [⟨t1, i1, if1, 0⟩, ⟨t2, i2, if2, 0⟩] scope pos) 1 it acc env) R s := by
  refine codeAny_of_tree ?_
  show wpAny _ _ ((compStart (.ListComp elt [⟨t1, i1, if1, 0⟩, ⟨t2, i2, if2, 0⟩] scope pos) 1 it acc env).onRaise (fun x => do noteFrame x env; standAt theWindowsPlace)) _ _ s
  refine wpAny_notedAt ?_
  unfold compStart
  show wpAny _ _ (ask >>= _) _ _ s
  refine wpAny_bind (wpAny_askSetting (wpAny_ite ?_))
  split
  · first
      | exact wpAny_bind (wpAny_pure (wpAny_pure (And.intro rfl h0)))
      | exact wpAny_pure (And.intro rfl h0)
  · first
      | exact wpAny_bind (wpAny_rule (wpAny_bind (wpAny_standAt (wpAny_bind (wpAny_mono h (fun it' s' h' => wpAny_pure (And.intro rfl h')) fun _ _ x => x)))))
      | (refine wpAny_bind (wpAny_rule ?_); show wpAny _ _ (standAt i2.pos >>= _) _ _ s; exact wpAny_bind (wpAny_standAt (wpAny_bind (wpAny_mono h (fun it' s' h' => wpAny_pure (And.intro rfl h')) fun _ _ x => x))))
noncomputable def emit2 (E i2 : Expr) (acc : Value) (env : Env) : Sem Unit := do
  let x ← eval i2 env
  standAt i2.pos
  let x ← foldedSetIterable i2 env x
  let _ ← runOwn (.compStart E 1 (← holding [x] (pyIter x)) acc env) env
theorem turns2 {elt t1 i1 t2 i2 : Expr} {if1 if2 : List Expr} {scope : Scope} {pos : Pos} : Turns (.ListComp elt [⟨t1, i1, if1, 0⟩, ⟨t2, i2, if2, 0⟩] scope pos) 0 i1.pos t1 if1 (emit2 (.ListComp elt [⟨t1, i1, if1, 0⟩, ⟨t2, i2, if2, 0⟩] scope pos) i2) := fun _ _ _ => by
  unfold emit2
  simp only [bind_assoc]
  rfl
theorem turns2' {elt t1 i1 t2 i2 : Expr} {if1 if2 : List Expr} {scope : Scope} {pos : Pos} : Turns (.ListComp elt [⟨t1, i1, if1, 0⟩, ⟨t2, i2, if2, 0⟩] scope pos) 1 i2.pos t2 if2 (fun acc env => do let _ ← call (.builtin "list.append") [acc, ← eval elt env]) := fun _ _ _ => rfl
theorem em2_ok {elt t1 i1 i2 : Expr} {if1 : List Expr} {y : Str} {py pos : Pos} {scope : Scope} {fi fe : EEnv → Option D} {mi me : EEnv → Mk} {n : Nat} (xi : EvOK C Γ l i2 fi mi) (hy : Γ.slots.lookup y = some (n + 1)) (he : EvOK C Γ l elt fe me) (hs2 : ∀ env x, foldedSetIterable i2 env x = pure x) :
    EmOK C Γ l n (emit2 (.ListComp elt [⟨t1, i1, if1, 0⟩, ⟨.Name y py, i2, [], 0⟩] scope pos) i2) 0 (em2 fi (setN (n + 1)) (em1 0 fe me)) (fun ρ₁ => ρ₁[n + 1]? = some none) := by
  intro A F env ρ₁ s hs Ca Dd os r c hρ hem acc hlen hfr sp
  obtain ⟨d, hd, hem⟩ := Option.bind_eq_some_iff.mp hem
  obtain ⟨ds, hds, hem⟩ := Option.bind_eq_some_iff.mp hem
  obtain ⟨himm, hco⟩ := ite_inv2 hem
  refine wpAny_bind (xi.run c hd fun v s₁ e₁ c₁ r₁ => wpAny_bind (wpAny_standAt (wpAny_bind (wpAny_of_eq (hs2 env v) (wpAny_bind (wpAny_holding ?_))))))
  have r2 := r₁.two c.rel.hv c.rel.vc c.rel.newc hds (by rw [himm, Bool.or_true])
  refine wpAny_mono (iter_ok r2 hds c.room.1) (fun it s₂ k => wpAny_bind ?_) fun _ _ e => e.elim
  obtain ⟨e₂, I, fp, wr, P, St, rfl, W, st, hwr, hfp, hlt, hP, hlet, hex, hln⟩ := k
  have ex1 : ∀ a, F.vol a → ∃ o, s₁.heap.get? a = some o := c₁.rel.hv
  have nw : ∀ a, (∃ o, s₁.heap.get? a = some o) → a ∉ wr := fun a ⟨o, q⟩ w => by rw [hwr a w] at q; cases q
  have wT : ∀ a ∈ wr, ¬ C.T a := fun a w t => nw a (c₁.glob.tdom a t) w
  have el : (F.plus [] (· ∈ wr)).locs = F.locs := List.append_nil _
  have rel2 : RelE C (F.plus [] (· ∈ wr)) s₂.heap ρ₁ := by
    have := RelE.plus (W := (· ∈ wr)) (xs := []) (Ca := 0) c₁.rel c₁.glob e₂ hwr (hex 0 _ st) (fun _ h => nomatch h) (fun _ h => nomatch h) List.nodup_nil
    rw [show ρ₁ ++ List.replicate ([] : List Str).length none = ρ₁ from List.append_nil ρ₁] at this
    exact this
  have acc2 : Acc C (F.plus [] (· ∈ wr)) hs 0 Dd os s₂.heap := by
    obtain ⟨ys, O, p, rr, nd, f⟩ := acc.keep (h' := s₁.heap) (V := C.T) (fun a t => c.rel.vc a (c.rel.vT a t)) sp.volD.2 fun b o t q => e₁.keep b o t q
    have rx := rr.ex
    exact ⟨ys, O, p.at fun o => e₂.keep _ o sp.volD.2, rx.1.trans (fun a n => ⟨fun q => q.elim n.1.1 (nw a n.2), n.1.2⟩) (fun a o n q => e₂.keep a o (c.notT0 a n.1.1) q) (fun a ha o q => e₂.keep a o (c.notT0 a (f a ha).2) q), nd, fun a ha => ⟨(f a ha).1, fun q => q.elim (f a ha).2 (nw a (rx.2 a ha))⟩⟩
  have vD : F.vol Dd := c.rel.vc _ sp.volD.1
  have vC : F.vol Ca := c.rel.vc _ sp.volC.1
  have geo : Geo C (F.plus [] (· ∈ wr)) n Ca Dd fp wr := ⟨⟨⟨.inl sp.volD.1, sp.volD.2⟩, ⟨.inl sp.volC.1, sp.volC.2⟩, sp.dc, fun lc hl => sp.locD lc (el ▸ hl), fun i lc hi hlc => sp.locC i lc hi (el ▸ hlc)⟩, fun a ha => ⟨.inr ha, wT a ha⟩, fun b hb => by
      rcases hfp b hb with w | w
      · exact ⟨fun z => nw b (z ▸ ex1 Ca vC) w, fun z => nw b (z ▸ ex1 Dd vD) w, wT b w⟩
      · exact ⟨fun z => w (z ▸ sp.volC.1), fun z => w (z ▸ sp.volD.1), c.notT b w⟩, fun lc hl => nw _ (ex1 _ (c.rel.vc _ (c.rel.loc lc (el ▸ hl)).1))⟩
  have cx2 : Cx C Γ l A (F.plus [] (· ∈ wr)) env ρ₁ s₂ := ⟨c.room, c.env.fx el, rel2, c₁.glob.ext e₂⟩
  have hP2 : ∀ i v, P i v → ∃ d, ds[i]? = some d ∧ RepC C s₂.heap (fun a => ¬ (F.plus [] (· ∈ wr)).vol a) v d := fun i v h => by
    obtain ⟨dv, hdv, rdv⟩ := hP i v h
    exact ⟨dv, hdv, rdv.ex.trans (fun a q z => z.elim q.1 (nw a q.2)) fun a o q z => e₂.keep a o (c.notT0 a q.1) z⟩
  have hup : ∀ (ρ₂ : EEnv) (d : D), setN (n + 1) ρ₁ d = some ρ₂ → ρ₂.length = ρ₁.length ∧ (∀ (i : Nat) x, ρ₁[i]? = some (some x) → ρ₂[i]? = some (some x)) ∧ True := fun ρ₂ d h => by
    cases h
    refine ⟨List.length_set, fun i x q => ?_, trivial⟩
    by_cases hi : i = n + 1
    · rw [hi, hρ] at q; cases q
    · rw [List.getElem?_set_ne (fun z => hi z.symm)]; exact q
  have loop : codeAny (model C.prog C.w) A (.compLoop (.ListComp elt [⟨t1, i1, if1, 0⟩, ⟨.Name y py, i2, [], 0⟩] scope pos) 1 (.ref I) (.ref Dd) env) (fun r' s' => match r' with | .ok f => wpAny (model C.prog C.w) A (pure ()) (fun _ s' => EmPost C F hs 0 Ca Dd ρ₁ (os ++ r) s s') (fun _ _ => False) s' | .error x => cameBackBy (model C.prog C.w) A env (fun _ _ => False) x s') s₂ := by
    refine gloop (hs := hs) (os₀ := os) turns2' geo (asg_name (i := n + 1) hy) (fun i hi => by rw [List.mem_singleton.mp hi]; exact Nat.le_succ n) hup tests_nil (em1_ok he) W st hP2 (fun v i s Q E' => hlet (.Name y py) v i s A Q E' rfl) hex cx2 acc2 hco hlen (fun a q => hfr a (e₁.none (e₂.none q))) ?_
    intro s' hi tk ext0 rel' glob' acc' hki
    refine wpAny_pure ?_
    have dom1 : ∀ b o, s₁.heap.get? b = some o → ∃ o', hi.get? b = some o' := fun b o q => by
      obtain ⟨o1, q1⟩ := e₂.dom b o q
      obtain ⟨o2, q2⟩ := ext0.dom b o1 q1
      exact ⟨o2, hki b o2 (nw b ⟨o, q⟩) q2⟩
    have ext : ExtV C (fun b => b = Ca ∨ b = Dd) s { s' with heap := hi, toks := tk } := by
      refine ⟨fun b o t n q => ?_, fun b o q => let ⟨o1, q1⟩ := e₁.dom b o q; dom1 b o1 q1, fun t => C.hTB _ _ (fun b o hb q => hki b o ?_ q) (ext0.tab (e₂.tab (e₁.tab t))), fun g => ext0.gens (e₂.gens (e₁.gens g)), ext0.os.trans (e₂.os.trans e₁.os)⟩
      · have q1 := e₁.keep b o t q
        have hw := nw b ⟨o, q1⟩
        exact hki b o hw (ext0.keep b o t (fun z => z.elim (fun z => n (.inl z)) fun z => z.elim (fun z => n (.inr z)) hw) (e₂.keep b o t q1))
      · rcases hb with hb | hb
        · exact nw b (c₁.glob.tdom b hb)
        · obtain ⟨o', q'⟩ := Option.isSome_iff_exists.mp hb; exact nw b ⟨o', c₁.glob.inK b o' q'⟩
    have vV : ∀ b, (b = Ca ∨ b = Dd) → F.vol b := fun b q => q.elim (fun z => z ▸ vC) fun z => z ▸ vD
    refine ⟨ext, rel'.drop c₁.rel hwr dom1 fun b o n q => hki b o n q, c.glob.extV ext (fun a o k q => c.rel.vK a o k (vV a q)) (fun q => c.rel.vlow 3 (.inr (.inr rfl)) (vV _ q)) (fun q => c.rel.vlow 0 (.inl rfl) (vV _ q)) (fun q => c.rel.vlow 2 (.inr (.inl rfl)) (vV _ q)), ?_⟩
    obtain ⟨ys, O, p, rr, nd, f⟩ := acc'
    exact ⟨ys, O, p.at fun o => hki _ o (nw _ (ex1 _ vD)), rr.trans (fun a n => ⟨fun q => n.1 (.inl q), n.2⟩) (fun a o n q => hki a o (fun w => n.1 (.inr w)) q) (fun a ha o q => hki a o (fun w => (f a ha).2 (.inr w)) q), nd, fun a ha => ⟨(f a ha).1, fun q => (f a ha).2 (.inl q)⟩⟩
  exact wpAny_runOwn (compStart1 loop (W.self 0 s₂ _ _ st loop))
theorem upd_set2 (n : Nat) : UpdOK n 2 (setN n) := by
  intro ρ ρ₁ d hn h
  cases h
  refine ⟨by simp [hn], fun i hi => ?_⟩
  rw [List.getElem?_set_ne (by omega), List.getElem?_append_left (by omega)]
set_option genInjectivity false in
inductive Comp2X (n k : Nat) (f₁ : EEnv → Option D) (m₁ : EEnv → Mk) (u₁ u₂ : EEnv → D → Option EEnv) (f₂ fe : EEnv → Option D) (me : EEnv → Mk) (ρ : EEnv) (d : D) : Prop
  | mk (di : D) (ds outs : List D) : ρ.length = n → f₁ ρ = some di → di.items = some ds → ((m₁ ρ).cat || ds.all D.imm) = true → comp2L u₁ u₂ f₂ fe me (ρ ++ List.replicate k none) ds = some outs → outs.length ≤ lim → d = .list outs → Comp2X n k f₁ m₁ u₁ u₂ f₂ fe me ρ d
theorem comp2F_inv {n k : Nat} {f₁ f₂ fe : EEnv → Option D} {m₁ me : EEnv → Mk} {u₁ u₂ : EEnv → D → Option EEnv} (fd : comp2F n k f₁ m₁ u₁ u₂ f₂ fe me ρ = some d) : Comp2X n k f₁ m₁ u₁ u₂ f₂ fe me ρ d := by
  obtain ⟨hn, fd⟩ := ite_inv2 fd
  obtain ⟨di, h₁, fd⟩ := Option.bind_eq_some_iff.mp fd
  obtain ⟨ds, h₂, fd⟩ := Option.bind_eq_some_iff.mp fd
  obtain ⟨hg, fd⟩ := ite_inv2 fd
  obtain ⟨outs, hco, fd⟩ := Option.bind_eq_some_iff.mp fd
  obtain ⟨hl, rfl⟩ := ite_inv fd
  exact ⟨di, ds, outs, hn, h₁, h₂, hg, hco, hl, rfl⟩
theorem slot_two {Γ : Sc} {names : List (Str × NameKind)} {x y : Str} {n : Nat} (h : (y == x) = false) : (compSc Γ names [x, y] n).slots.lookup y = some (n + 1) := by
  show List.lookup y ((x, n) :: (y, n + 1) :: _) = _
  rw [List.lookup_cons, h, List.lookup_cons, beq_self_eq_true]
theorem comp2_ok {elt i1 i2 : Expr} {scope : Scope} {px py pos : Pos} {f₁ f₂ fe : EEnv → Option D} {m₁ m₂ me : EEnv → Mk} {x y : Str} {n : Nat}
    (hkind : scope.kind = .function) (hchk : compChk Γ scope.names [x, y] = true) (hxy : (y == x) = false) (x₁ : EvOK C Γ l i1 f₁ m₁) (x₂ : EvOK C (compSc Γ scope.names [x, y] n) l i2 f₂ m₂) (he : EvOK C (compSc Γ scope.names [x, y] n) l elt fe me) (hs1 : ∀ env x, foldedSetIterable i1 env x = pure x) (hs2 : ∀ env x, foldedSetIterable i2 env x = pure x) :
    EvOK C Γ l (.ListComp elt [⟨.Name x px, i1, [], 0⟩, ⟨.Name y py, i2, [], 0⟩] scope pos) (comp2F n 2 f₁ m₁ (setN n) (setN (n + 1)) f₂ fe me) (fun _ => .own 1) := by
  refine ⟨fun A F env ρ s d c fd => ?_⟩
  obtain ⟨di, ds, outs, hn, h₁, h₂, hg, hco, hl, rfl⟩ := comp2F_inv fd
  rw [comp2L_g] at hco
  rw [eval_ListComp]
  refine comp_gen (kk := 0) (tt := false) (use := none) (xs := [x, y]) hkind hchk x₁ (asg_name (i := n) slot_one) (upd_set2 n) (fun i hi => Nat.le_of_eq (List.mem_singleton.mp hi).symm) (fun _ _ => rfl) tests_nil turns2 (em2_ok x₂ (slot_two hxy) he hs2) (fun ρ ρ₁ d hn h => ?_) hs1 c hn h₁ h₂ hg rfl hco (fun _ => Nat.le_trans hl lim_le) (fun _ v s' e r => ⟨e, r⟩) fun u q => nomatch q
  cases h
  show ((ρ ++ [none, none]).set n (some (d, Mk.fr)))[n + 1]? = some none
  rw [List.getElem?_set_ne (by omega), List.getElem?_append_right (by omega), hn, Nat.add_sub_cancel_left]; rfl
end
end Mine

set_option autoImplicit false
open PySem PyProof.Rows
namespace Mine
set_option linter.unusedVariables false

/-! the state of a frame: un unbound; val 0 d frozen; val k d owned to depth k; pl i key: the dict in slot i, at key -/
inductive Slot where
  | un
  | val (k : Nat) (d : D)
  | pl (i : Nat) (key : Str)
noncomputable def slotView (ρ : List Slot) : Slot → Option (D × Mk)
  | .un => none
  | .val 0 d => some (d, .fr)
  | .val 1 d => some (d, .bor)
  | .val _ d => some (d, .unk)
  | .pl i key => match ρ[i]? with
    | some (.val _ (.dict kvs)) => (kvs.lookup key).map fun d => (d, .unk)
    | _ => none
noncomputable def view (ρ : List Slot) : EEnv := ρ.map (slotView ρ)

/-- a slot that holds a list, a dict; another name for a dict's item -/
noncomputable def listAt (n : Nat) (s : Slot) : Option (List D) := @Slot.casesOn (fun _ => Option (List D)) s none (fun k d => if k = n then toL d else none) fun _ _ => none
noncomputable def dictAt (n : Nat) (s : Slot) : Option (List (Str × D)) := @Slot.casesOn (fun _ => Option (List (Str × D))) s none (fun k d => if k = n then toD d else none) fun _ _ => none
noncomputable def slL (ρ : List Slot) (i n : Nat) : Option (List D) := ρ[i]?.bind (listAt n)
noncomputable def slD (ρ : List Slot) (i n : Nat) : Option (List (Str × D)) := ρ[i]?.bind (dictAt n)
theorem slL_inv {ρ : List Slot} {i n : Nat} {ds : List D} (h : slL ρ i n = some ds) : ρ[i]? = some (.val n (.list ds)) := by
  obtain ⟨s, hs, h⟩ := Option.bind_eq_some_iff.mp h
  cases s with
  | val k d => obtain ⟨rfl, h'⟩ := ite_inv2 h; rw [hs, toL_inv h']
  | un => cases h
  | pl => cases h
theorem slD_inv {ρ : List Slot} {i n : Nat} {ds : List (Str × D)} (h : slD ρ i n = some ds) : ρ[i]? = some (.val n (.dict ds)) := by
  obtain ⟨s, hs, h⟩ := Option.bind_eq_some_iff.mp h
  cases s with
  | val k d => obtain ⟨rfl, h'⟩ := ite_inv2 h; rw [hs, toD_inv h']
  | un => cases h
  | pl => cases h
theorem slL_of {ρ : List Slot} {i n : Nat} {ds : List D} (h : ρ[i]? = some (.val n (.list ds))) : slL ρ i n = some ds := by
  unfold slL; rw [h]; exact if_pos rfl
theorem slD_of {ρ : List Slot} {i n : Nat} {ds : List (Str × D)} (h : ρ[i]? = some (.val n (.dict ds))) : slD ρ i n = some ds := by
  unfold slD; rw [h]; exact if_pos rfl

structure Fs where
  locs : List Loc
  base : Addr → Prop
  hb : Heap
noncomputable def Fs.loca (S : Fs) (a : Addr) : Prop := ∃ l ∈ S.locs, l.addr = a
noncomputable def Fs.fx (S : Fs) (own : Addr → Option Nat) : Fx := { locs := S.locs, vol := fun a => S.base a ∨ S.loca a ∨ own a ≠ none, volc := fun a => S.base a ∨ S.loca a, new := fun a => S.hb.get? a = none ∧ ¬ S.loca a }
structure FsOK (C : Cfg) (S : Fs) : Prop where
  bT : ∀ a, C.T a → S.base a
  bx : ∀ a, S.base a → ∃ o, S.hb.get? a = some o
  bK : ∀ a o, C.K.lookup a = some o → ¬ S.base a ∧ ∃ o', S.hb.get? a = some o'
  blow : ∀ a : Nat, a = 0 ∨ a = 2 ∨ a = 3 → ¬ S.base a ∧ ∃ o', S.hb.get? a = some o'
  loc : ∀ l ∈ S.locs, S.hb.get? l.addr = none
  dist : LocsApart S.locs
set_option genInjectivity false in
inductive Slot0X (C : Cfg) (S : Fs) (own : Addr → Option Nat) (h : Heap) (i : Nat) (d : D) : Prop
  | mk (l : Loc) (v : Value) : S.locs[i]? = some l → LocHas h l v → RepC C h (fun a => ¬ (S.fx own).vol a) v d → Slot0X C S own h i d
set_option genInjectivity false in
inductive TreeX (C : Cfg) (S : Fs) (own : Addr → Option Nat) (h : Heap) (i k : Nat) (d : D) : Prop
  | mk (l : Loc) (v : Value) (O : List Addr) : S.locs[i]? = some l → LocHas h l v → OwnT C.prog C.w h (fun a => ¬ (S.fx own).vol a) (k + 1) v d O → O.Nodup → (∀ a ∈ O, own a = some i) → TreeX C S own h i k d
set_option genInjectivity false in
inductive PlaceX (C : Cfg) (S : Fs) (own : Addr → Option Nat) (h : Heap) (i j : Nat) (key : Str) : Prop
  | mk (l lj : Loc) (a : Addr) (v : Value) (kvs : List (Str × Value)) : S.locs[i]? = some l → LocHas h l v → S.locs[j]? = some lj → LocHas h lj (.ref a) → h.DictOf (PySem.strKind C.prog C.w) a kvs → valueAt kvs key = some v → own a = some j → PlaceX C S own h i j key
structure RelS (C : Cfg) (S : Fs) (own : Addr → Option Nat) (h : Heap) (ρ : List Slot) : Prop where
  ok : FsOK C S
  hbx : ∀ a o, S.hb.get? a = some o → ∃ o', h.get? a = some o'
  locex : ∀ l ∈ S.locs, LocEx h l
  len : ρ.length = S.locs.length
  ownx : ∀ a i, own a = some i → S.hb.get? a = none ∧ ¬ S.loca a ∧ ∃ o, h.get? a = some o
  slot0 : ∀ (i : Nat) d, ρ[i]? = some (.val 0 d) → Slot0X C S own h i d
  tree : ∀ (i k : Nat) d, ρ[i]? = some (.val (k + 1) d) → TreeX C S own h i k d
  place : ∀ (i j : Nat) key, ρ[i]? = some (.pl j key) → PlaceX C S own h i j key

theorem LocHas.inj {h : Heap} {l : Loc} {v v' : Value} (x : LocHas h l v) (y : LocHas h l v') : v = v' := by
  cases l with
  | ns L z =>
    obtain ⟨m, ⟨o, es, ep, a1, a2, a3, a4⟩, b⟩ := x
    obtain ⟨m', ⟨o', es', ep', a1', a2', a3', a4'⟩, b'⟩ := y
    rw [a1] at a1'; cases a1'
    rw [a2] at a2'; cases a2'
    rw [← a4 z] at b; rw [← a4' z] at b'
    exact Option.some.inj (b.symm.trans b')
  | cell c =>
    obtain ⟨o, a, b⟩ := x
    obtain ⟨o', a', b'⟩ := y
    rw [a] at a'; cases a'
    rw [b] at b'; cases b'; rfl
theorem LocEx.some {h : Heap} {l : Loc} (x : LocEx h l) : ∃ o, h.get? l.addr = some o := by
  cases l with
  | ns L z => obtain ⟨m, o, _, _, e, _⟩ := x; exact ⟨o, e⟩
  | cell c => obtain ⟨v, o, e, _⟩ := x; exact ⟨o, e⟩

section
variable {C : Cfg} {Γ : Sc} {l : Nat} {A : Around} {S : Fs} {own : Addr → Option Nat} {env : Env} {ρ : List Slot} {s : Shared} {d : D}
theorem FsOK.locT (ok : FsOK C S) {lc : Loc} (hl : lc ∈ S.locs) : ¬ C.T lc.addr := fun t => by
  obtain ⟨o, e⟩ := ok.bx _ (ok.bT _ t); rw [ok.loc lc hl] at e; cases e
theorem RelS.ownT {h : Heap} (r : RelS C S own h ρ) {a : Addr} {i : Nat} (ho : own a = some i) : ¬ C.T a := fun t => by
  obtain ⟨o, e⟩ := r.ok.bx _ (r.ok.bT _ t); rw [(r.ownx a i ho).1] at e; cases e
theorem FsOK.volNew (ok : FsOK C S) {a : Addr} (hx : ∃ o, S.hb.get? a = some o) (hb : ¬ S.base a) (hown : ∀ i, own a = some i → S.hb.get? a = none) : ¬ (S.fx own).vol a := by
  obtain ⟨o, e⟩ := hx
  rintro (q | q | q)
  · exact hb q
  · obtain ⟨lc, hl, rfl⟩ := q; rw [ok.loc lc hl] at e; cases e
  · obtain ⟨i, hi⟩ := Option.ne_none_iff_exists'.mp q; rw [hown i hi] at e; cases e
theorem lookup_valueAt {h : Heap} {N : Addr → Prop} {kvs : List (Str × Value)} {kds : List (Str × D)} (r : RepE C.prog C.w h N kvs kds) {key : Str} {v : Value} {d : D} (hv : valueAt kvs key = some v) (hd : kds.lookup key = some d) : RepC C h N v d := by
  rcases r.lookup key with ⟨h1, _⟩ | ⟨v', d', h1, h2, r'⟩
  · rw [hv] at h1; cases h1
  · rw [hv] at h1; cases h1; rw [hd] at h2; cases h2; exact r'
theorem RelS.relE {h : Heap} (r : RelS C S own h ρ) : RelE C (S.fx own) h (view ρ) := by
  have hloc : ∀ lc ∈ S.locs, ∃ o, h.get? lc.addr = some o := fun lc hl => (r.locex lc hl).some
  have ownN : ∀ a, own a ≠ none → S.hb.get? a = none ∧ ¬ S.loca a ∧ ∃ o, h.get? a = some o := fun a q => by
    obtain ⟨i, hi⟩ := Option.ne_none_iff_exists'.mp q; exact r.ownx a i hi
  have newc : ∀ a, (S.fx own).new a → ¬ (S.fx own).volc a := fun a n q => by
    rcases q with q | q
    · obtain ⟨o, e⟩ := r.ok.bx a q; rw [n.1] at e; cases e
    · exact n.2 q
  refine ⟨fun a q => ?_, fun a q => q.elim .inl fun z => .inr (.inl z), fun a t => .inl (r.ok.bT a t), fun a o k => ?_, fun a ha => ?_, newc, fun a q => ?_, fun lc hl => ⟨.inr ⟨lc, hl, rfl⟩, r.ok.locT hl⟩, r.locex, r.ok.dist, by rw [view, List.length_map]; exact r.len, fun i d m q => ?_⟩
  · rcases q with q | q | q
    · obtain ⟨o, e⟩ := r.ok.bx a q; exact r.hbx a o e
    · obtain ⟨lc, hl, rfl⟩ := q; exact hloc lc hl
    · exact (ownN a q).2.2
  · exact r.ok.volNew (r.ok.bK a o k).2 (r.ok.bK a o k).1 fun i hi => (r.ownx a i hi).1
  · exact r.ok.volNew (r.ok.blow a ha).2 (r.ok.blow a ha).1 fun i hi => (r.ownx a i hi).1
  · refine ⟨?_, fun z => ?_⟩
    · cases e : S.hb.get? a with
      | none => rfl
      | some o => obtain ⟨o', e'⟩ := r.hbx a o e; rw [q] at e'; cases e'
    · obtain ⟨lc, hl, rfl⟩ := z; obtain ⟨o, e⟩ := hloc lc hl; rw [q] at e; cases e
  · rw [view, List.getElem?_map] at q
    obtain ⟨sl, hsl, hq⟩ := Option.map_eq_some_iff.mp q
    have weakT : ∀ {k : Nat} {v : Value} {d : D} {O : List Addr} {i : Nat}, OwnT C.prog C.w h (fun a => ¬ (S.fx own).vol a) k v d O → (∀ a ∈ O, own a = some i) → RepC C h (fun a => ¬ (S.fx own).volc a) v d :=
      fun t f => t.rep (fun a n q => n (q.elim .inl fun z => .inr (.inl z))) fun a ha => newc a ⟨(r.ownx a _ (f a ha)).1, (r.ownx a _ (f a ha)).2.1⟩
    cases sl with
    | un => cases hq
    | val k dd =>
      match k, hq, hsl with
      | 0, hq, hsl =>
        cases hq
        obtain ⟨lc, v, h1, h2, h3⟩ := r.slot0 i d hsl
        exact ⟨lc, v, h1, h2, h3⟩
      | 1, hq, hsl =>
        cases hq
        obtain ⟨lc, v, O, h1, h2, h3, h4, h5⟩ := r.tree i 0 d hsl
        exact ⟨lc, v, h1, h2, O, h3, fun a ha => ⟨(r.ownx a i (h5 a ha)).1, (r.ownx a i (h5 a ha)).2.1⟩⟩
      | k + 2, hq, hsl =>
        cases hq
        obtain ⟨lc, v, O, h1, h2, h3, h4, h5⟩ := r.tree i (k + 1) d hsl
        exact ⟨lc, v, h1, h2, weakT h3 h5⟩
    | pl j key =>
      simp only [slotView] at hq
      split at hq
      · rename_i kj kds hj
        obtain ⟨d', hd', e⟩ := Option.map_eq_some_iff.mp hq
        cases e
        obtain ⟨lc, lj, a, v, kvs, h1, h2, h3, h4, h5, h6, _⟩ := r.place i j key hsl
        refine ⟨lc, v, h1, h2, ?_⟩
        show RepC C h (fun a => ¬ (S.fx own).volc a) v d
        have key' : ∀ {v' : Value}, RepC C h (fun a => ¬ (S.fx own).volc a) v' (.dict kds) → v' = .ref a → RepC C h (fun a => ¬ (S.fx own).volc a) v d := by
          intro v' x e
          subst e
          cases x with
          | dict n q p l rr =>
            obtain rfl := dictOf_inj h5 p
            exact lookup_valueAt rr h6 hd'
        cases kj with
        | zero =>
          obtain ⟨l', v', a1, a2, a3⟩ := r.slot0 j _ hj
          rw [h3] at a1; cases a1
          exact key' (a3.trans (fun a n q => n (q.elim .inl fun z => .inr (.inl z))) fun _ _ _ e => e) (a2.inj h4)
        | succ kj =>
          obtain ⟨l', v', O, a1, a2, a3, a4, a5⟩ := r.tree j kj _ hj
          rw [h3] at a1; cases a1
          exact key' (weakT a3 a5) (a2.inj h4)
      · cases hq
theorem RelS.ext {s s' : Shared} (r : RelS C S own s.heap ρ) (e : Ext C s s') : RelS C S own s'.heap ρ := by
  have kl : ∀ lc ∈ S.locs, ∀ o, s.heap.get? lc.addr = some o → s'.heap.get? lc.addr = some o := fun lc hl o => e.keep _ o (r.ok.locT hl)
  have kv : ∀ a o, ¬ (S.fx own).vol a → s.heap.get? a = some o → s'.heap.get? a = some o := fun a o n => e.keep a o fun t => n (.inl (r.ok.bT a t))
  refine ⟨r.ok, fun a o q => let ⟨o', z⟩ := r.hbx a o q; e.dom a o' z, fun lc hl => (r.locex lc hl).kept (kl lc hl), r.len, fun a i ho => ?_, fun i d q => ?_, fun i k d q => ?_, fun i j key q => ?_⟩
  · obtain ⟨h1, h2, o, h3⟩ := r.ownx a i ho; exact ⟨h1, h2, e.dom a o h3⟩
  · obtain ⟨lc, v, h1, h2, h3⟩ := r.slot0 i d q
    exact ⟨lc, v, h1, h2.kept (kl lc (List.mem_of_getElem? h1)), h3.trans (fun _ n => n) kv⟩
  · obtain ⟨lc, v, O, h1, h2, h3, h4, h5⟩ := r.tree i k d q
    exact ⟨lc, v, O, h1, h2.kept (kl lc (List.mem_of_getElem? h1)), h3.trans (fun _ n => n) kv fun a ha o => e.keep a o (r.ownT (h5 a ha)), h4, h5⟩
  · obtain ⟨lc, lj, a, v, kvs, h1, h2, h3, h4, h5, h6, h7⟩ := r.place i j key q
    exact ⟨lc, lj, a, v, kvs, h1, h2.kept (kl lc (List.mem_of_getElem? h1)), h3, h4.kept (kl lj (List.mem_of_getElem? h3)), DictOf.at h5 fun o => e.keep a o (r.ownT h7), h6, h7⟩
end
end Mine

set_option autoImplicit false
open PySem PyProof.Rows
namespace Mine
set_option linter.unusedVariables false

noncomputable def setOwn (own : Addr → Option Nat) (O : List Addr) (i : Nat) : Addr → Option Nat := fun a => if a ∈ O then some i else own a
noncomputable def clr (i : Nat) : Slot → Slot
  | .pl j key => if j = i then .un else .pl j key
  | x => x
noncomputable def put (ρ : List Slot) (i : Nat) (x : Slot) : List Slot := (ρ.map (clr i)).set i x
section
variable {C : Cfg} {Γ : Sc} {l : Nat} {A : Around} {S : Fs} {own : Addr → Option Nat} {env : Env} {ρ : List Slot} {s : Shared} {d : D}
theorem RelS.give' {own' : Addr → Option Nat} {s s' : Shared} (r : RelS C S own s.heap ρ) (e : Ext C s s') (p4 : ∀ a, (∃ o, s.heap.get? a = some o) → own' a = own a) (hx : ∀ a, own' a ≠ none → ∃ o, s'.heap.get? a = some o) : RelS C S own' s'.heap ρ := by
  have r' := r.ext e
  have hloc : ∀ lc ∈ S.locs, ∃ o, s.heap.get? lc.addr = some o := fun lc hl => (r.locex lc hl).some
  have vol' : ∀ a, (∃ o, s.heap.get? a = some o) → ¬ (S.fx own).vol a → ¬ (S.fx own').vol a := fun a hx n q => by
    rcases q with q | q | q
    · exact n (.inl q)
    · exact n (.inr (.inl q))
    · rw [p4 a hx] at q; exact n (.inr (.inr q))
  refine ⟨r.ok, r'.hbx, r'.locex, r.len, fun a j ho => ?_, fun j d q => ?_, fun j k d q => ?_, fun j jj key q => ?_⟩
  · cases z : s.heap.get? a with
    | some o => rw [p4 a ⟨o, z⟩] at ho; exact r'.ownx a j ho
    | none =>
      refine ⟨?_, fun w => ?_, hx a (by rw [ho]; exact fun w => by cases w)⟩
      · cases q : S.hb.get? a with
        | none => rfl
        | some o => obtain ⟨o', q'⟩ := r.hbx a o q; rw [z] at q'; cases q'
      · obtain ⟨lc, hl, rfl⟩ := w; obtain ⟨o, q⟩ := hloc lc hl; rw [z] at q; cases q
  · obtain ⟨lc, v, h1, h2, h3⟩ := r.slot0 j d q
    exact ⟨lc, v, h1, h2.kept fun o => e.keep _ o (r.ok.locT (List.mem_of_getElem? h1)), h3.ex.trans (fun a n => vol' a n.2 n.1) fun a o n z => e.keep a o (fun t => n.1 (.inl (r.ok.bT a t))) z⟩
  · obtain ⟨lc, v, O', h1, h2, h3, h4, h5⟩ := r.tree j k d q
    exact ⟨lc, v, O', h1, h2.kept fun o => e.keep _ o (r.ok.locT (List.mem_of_getElem? h1)), h3.ex.1.trans (fun a n => vol' a n.2 n.1) (fun a o n z => e.keep a o (fun t => n.1 (.inl (r.ok.bT a t))) z) (fun a ha o => e.keep a o (r.ownT (h5 a ha))), h4, fun a ha => (p4 a (h3.ex.2 a ha)).trans (h5 a ha)⟩
  · obtain ⟨lc, lj, a, v, kvs, h1, h2, h3, h4, h5, h6, h7⟩ := r'.place j jj key q
    exact ⟨lc, lj, a, v, kvs, h1, h2, h3, h4, h5, h6, (p4 a (r.ownx a jj h7).2.2).trans h7⟩
/-- fresh objects are given to a slot -/
theorem RelS.give {s s' : Shared} {O : List Addr} {i : Nat} (r : RelS C S own s.heap ρ) (e : Ext C s s') (hf : ∀ a ∈ O, s.heap.get? a = none) (hx : ∀ a ∈ O, ∃ o, s'.heap.get? a = some o) : RelS C S (setOwn own O i) s'.heap ρ :=
  r.give' e (fun a ⟨o, q⟩ => if_neg fun hm => by rw [hf a hm] at q; cases q) fun a q => by
    unfold setOwn at q
    split at q
    · rename_i hm; exact hx a hm
    · obtain ⟨j, hj⟩ := Option.ne_none_iff_exists'.mp q
      obtain ⟨_, _, o, z⟩ := r.ownx a j hj
      exact e.dom a o z
/-- what a stored value must be -/
noncomputable def StoreOK (C : Cfg) (S : Fs) (own : Addr → Option Nat) (h : Heap) (i : Nat) : Nat → Value → D → Prop
  | 0, v, d => RepC C h (fun a => ¬ (S.fx own).vol a) v d
  | k + 1, v, d => ∃ O, OwnT C.prog C.w h (fun a => ¬ (S.fx own).vol a) (k + 1) v d O ∧ O.Nodup ∧ ∀ a ∈ O, own a = some i
theorem getElem_put {ρ : List Slot} {i j : Nat} {x y : Slot} (h : (put ρ i x)[j]? = some y) (hl : i < ρ.length) : (j = i ∧ y = x) ∨ (j ≠ i ∧ ∃ y', ρ[j]? = some y' ∧ y = clr i y') := by
  unfold put at h
  by_cases hj : j = i
  · subst hj
    rw [List.getElem?_set_self (by simpa using hl)] at h
    cases h; exact .inl ⟨rfl, rfl⟩
  · rw [List.getElem?_set_ne (fun e => hj e.symm), List.getElem?_map] at h
    obtain ⟨y', h1, h2⟩ := Option.map_eq_some_iff.mp h
    exact .inr ⟨hj, y', h1, h2.symm⟩
theorem RelS.store {h h' : Heap} {i k : Nat} {lc : Loc} {v : Value} (r : RelS C S own h ρ) (hi : S.locs[i]? = some lc) (hsb : ∀ b, b ≠ lc.addr → h'.get? b = h.get? b) (hv : LocHas h' lc v)
    (hns : ∀ L x, lc = .ns L x → ∀ m, h.Ns L m → h'.Ns L (fun y => if y = x then some v else m y)) (rv : StoreOK C S own h i k v d) : RelS C S own h' (put ρ i (.val k d)) := by
  have hil : i < ρ.length := by rw [r.len]; exact (List.getElem?_eq_some_iff.mp hi).1
  have hmem := List.mem_of_getElem? hi
  have hla : S.loca lc.addr := ⟨lc, hmem, rfl⟩
  have hex : ∃ o, h'.get? lc.addr = some o := by
    cases lc with
    | ns L x => obtain ⟨m, ⟨o, _, _, e, _⟩, _⟩ := hv; exact ⟨o, e⟩
    | cell c => obtain ⟨o, e, _⟩ := hv; exact ⟨o, e⟩
  have kx : ∀ a, (∃ o, h.get? a = some o) → ∃ o, h'.get? a = some o := fun a ⟨o, q⟩ => by
    by_cases ha : a = lc.addr
    · subst ha; exact hex
    · exact ⟨o, (hsb a ha).trans q⟩
  have kv : ∀ a o, ¬ (S.fx own).vol a → h.get? a = some o → h'.get? a = some o := fun a o n q => (hsb a (fun e => n (.inr (.inl (e ▸ hla))))).trans q
  have ko : ∀ a j, own a = some j → ∀ o, h.get? a = some o → h'.get? a = some o := fun a j ho o q => (hsb a (fun e => (r.ownx a j ho).2.1 (e ▸ hla))).trans q
  have other : ∀ (j : Nat) (lj : Loc), S.locs[j]? = some lj → j ≠ i → ∀ u, LocHas h lj u → LocHas h' lj u := by
    intro j lj hj hne u hu
    by_cases ha : lj.addr = lc.addr
    · obtain ⟨L, x, y, rfl, rfl, hxy⟩ := r.ok.dist j i lj lc hj hi hne ha
      obtain ⟨m, hm, hmu⟩ := hu
      exact ⟨_, hns L y rfl m hm, by rw [if_neg hxy]; exact hmu⟩
    · exact hu.kept fun o q => (hsb _ ha).trans q
  refine ⟨r.ok, fun a o q => kx a (r.hbx a o q), fun lj hlj => ?_, by simp [put, r.len], fun a j ho => ⟨(r.ownx a j ho).1, (r.ownx a j ho).2.1, kx a (r.ownx a j ho).2.2⟩, fun j dj q => ?_, fun j kj dj q => ?_, fun j jj key q => ?_⟩
  · obtain ⟨j, hj⟩ := List.mem_iff_getElem?.mp hlj
    by_cases hji : j = i
    · subst hji; rw [hi] at hj; cases hj
      cases lc with
      | ns L x => obtain ⟨m, a, _⟩ := hv; exact ⟨m, a⟩
      | cell c => exact ⟨_, hv⟩
    · by_cases ha : lj.addr = lc.addr
      · obtain ⟨L, x, y, rfl, rfl, hxy⟩ := r.ok.dist j i lj lc hj hi hji ha
        obtain ⟨m, hm⟩ := r.locex _ hlj
        exact ⟨_, hns L y rfl m hm⟩
      · exact (r.locex lj hlj).kept fun o q => (hsb _ ha).trans q
  · rcases getElem_put q hil with ⟨rfl, e⟩ | ⟨hji, y, hy, e⟩
    · cases e
      exact ⟨lc, v, hi, hv, Rep.trans (fun _ n => n) kv rv⟩
    · cases y with
      | un => cases e
      | val k' d' =>
        cases e
        obtain ⟨lj, u, h1, h2, h3⟩ := r.slot0 j _ hy
        exact ⟨lj, u, h1, other j lj h1 hji u h2, h3.trans (fun _ n => n) kv⟩
      | pl a b => simp only [clr] at e; split at e <;> exact Slot.noConfusion e
  · rcases getElem_put q hil with ⟨rfl, e⟩ | ⟨hji, y, hy, e⟩
    · cases e
      obtain ⟨O, t, nd, f⟩ := rv
      exact ⟨lc, v, O, hi, hv, t.trans (fun _ n => n) kv (fun a ha => ko a _ (f a ha)), nd, f⟩
    · cases y with
      | un => cases e
      | val k' d' =>
        cases e
        obtain ⟨lj, u, O, h1, h2, h3, h4, h5⟩ := r.tree j _ _ hy
        exact ⟨lj, u, O, h1, other j lj h1 hji u h2, h3.trans (fun _ n => n) kv (fun a ha => ko a _ (h5 a ha)), h4, h5⟩
      | pl a b => simp only [clr] at e; split at e <;> exact Slot.noConfusion e
  · rcases getElem_put q hil with ⟨rfl, e⟩ | ⟨hji, y, hy, e⟩
    · cases e
    · cases y with
      | un => cases e
      | val k' d' => cases e
      | pl a b =>
        simp only [clr] at e
        split at e
        · exact Slot.noConfusion e
        · rename_i hai
          obtain ⟨rfl, rfl⟩ := Slot.pl.inj e
          obtain ⟨l1, l2, a, u, kvs, h1, h2, h3, h4, h5, h6, h7⟩ := r.place j jj key hy
          exact ⟨l1, l2, a, u, kvs, h1, other j l1 h1 hji u h2, h3, other jj l2 h3 hai _ h4, DictOf.at h5 fun o => ko a _ h7 o, h6, h7⟩
end
end Mine

set_option autoImplicit false
open PySem PyProof.Rows
namespace Mine
set_option linter.unusedVariables false

inductive Out where
  | next (ρ : List Slot)
  | ret (d : D)
noncomputable def Fs.mut (S : Fs) (own : Addr → Option Nat) (a : Addr) : Prop := S.loca a ∨ ∃ i, i < S.locs.length ∧ own a = some i
structure SCx (C : Cfg) (Γ : Sc) (l : Nat) (A : Around) (S : Fs) (own : Addr → Option Nat) (env : Env) (ρ : List Slot) (s : Shared) : Prop where
  room : Room A l
  env : EnvOK Γ (S.fx own) env
  rel : RelS C S own s.heap ρ
  glob : GlobOK C s.heap
/-- what becomes of the marks -/
structure OwnStep (S : Fs) (own : Addr → Option Nat) (s : Shared) (own' : Addr → Option Nat) : Prop where
  p1 : ∀ a i, i < S.locs.length → own' a = some i → (∃ i', i' < S.locs.length ∧ own a = some i') ∨ s.heap.get? a = none
  p2 : ∀ a n, S.locs.length ≤ n → own a = some n → own' a = some n
  p3 : ∀ a n, S.locs.length ≤ n → own' a = some n → own a = some n ∨ s.heap.get? a = none
theorem OwnStep.refl (S : Fs) (own : Addr → Option Nat) (s : Shared) : OwnStep S own s own := ⟨fun a i hi q => .inl ⟨i, hi, q⟩, fun a n _ q => q, fun a n _ q => .inl q⟩
theorem OwnStep.trans {S : Fs} {own own' own'' : Addr → Option Nat} {s s' : Shared} (x : OwnStep S own s own') (y : OwnStep S own' s' own'') (hn : ∀ a, s'.heap.get? a = none → s.heap.get? a = none) : OwnStep S own s own'' := by
  refine ⟨fun a i hi q => ?_, fun a n h q => y.p2 a n h (x.p2 a n h q), fun a n h q => ?_⟩
  · rcases y.p1 a i hi q with ⟨i', hi', q'⟩ | z
    · exact x.p1 a i' hi' q'
    · exact .inr (hn a z)
  · rcases y.p3 a n h q with z | z
    · exact x.p3 a n h z
    · exact .inr (hn a z)
set_option genInjectivity false in
inductive Nx (C : Cfg) (S : Fs) (own : Addr → Option Nat) (s : Shared) (ρ' : List Slot) (s' : Shared) : Prop
  | mk (own' : Addr → Option Nat) : RelS C S own' s'.heap ρ' → GlobOK C s'.heap → ExtV C (S.mut own) s s' → OwnStep S own s own' → Nx C S own s ρ' s'
set_option genInjectivity false in
inductive RetX (C : Cfg) (S : Fs) (own : Addr → Option Nat) (s : Shared) (rf : Bool) (d : D) (fl : Flow) (s' : Shared) : Prop
  | mk (v : Value) : fl = .ret v → ExtV C (S.mut own) s s' → RepC C s'.heap (fun a => ¬ S.base a) v d → (rf = true → ∀ a, v = .ref a → S.hb.get? a = none) → RetX C S own s rf d fl s'
noncomputable def SPost (C : Cfg) (S : Fs) (own : Addr → Option Nat) (s : Shared) (rf : Bool) : Out → Flow → Shared → Prop
  | .next ρ', fl, s' => fl = .next ∧ Nx C S own s ρ' s'
  | .ret d, fl, s' => RetX C S own s rf d fl s'
noncomputable def StOK (C : Cfg) (Γ : Sc) (l : Nat) (rf : Bool) (st : Stmt) (G : List Slot → Option Out) : Prop :=
  ∀ (A : Around) (S : Fs) (own : Addr → Option Nat) (env : Env) (ρ : List Slot) (s : Shared) (out : Out), SCx C Γ l A S own env ρ s → G ρ = some out → Wp C A (exec st env) (SPost C S own s rf out) s
noncomputable def SOK (C : Cfg) (Γ : Sc) (l : Nat) (rf : Bool) (ss : List Stmt) (G : List Slot → Option Out) : Prop :=
  ∀ (A : Around) (S : Fs) (own : Addr → Option Nat) (env : Env) (ρ : List Slot) (s : Shared) (out : Out), SCx C Γ l A S own env ρ s → G ρ = some out → Wp C A (execs ss env) (SPost C S own s rf out) s
noncomputable def Out.bind (o : Out) (g : List Slot → Option Out) : Option Out := match o with | .next ρ => g ρ | .ret d => some (.ret d)
noncomputable def seqG (g₁ g₂ : List Slot → Option Out) : List Slot → Option Out := fun ρ => (g₁ ρ).bind fun o => o.bind g₂

section
variable {C : Cfg} {Γ : Sc} {l : Nat} {A : Around} {S : Fs} {own : Addr → Option Nat} {env : Env} {ρ ρ' : List Slot} {s s' s'' : Shared} {d : D} {rf : Bool} {st : Stmt} {ss : List Stmt} {g g₁ g₂ : List Slot → Option Out} {out : Out}
theorem SCx.cx (c : SCx C Γ l A S own env ρ s) : Cx C Γ l A (S.fx own) env (view ρ) s := ⟨c.room, c.env, c.rel.relE, c.glob⟩
theorem SCx.ext (c : SCx C Γ l A S own env ρ s) (e : Ext C s s') : SCx C Γ l A S own env ρ s' := ⟨c.room, c.env, c.rel.ext e, c.glob.ext e⟩
theorem SCx.of {own' : Addr → Option Nat} (c : SCx C Γ l A S own env ρ s) (r : RelS C S own' s'.heap ρ') (g : GlobOK C s'.heap) : SCx C Γ l A S own' env ρ' s' := ⟨c.room, c.env.fx rfl, r, g⟩
theorem mut_old {own' : Addr → Option Nat} (h : ∀ a i, i < S.locs.length → own' a = some i → (∃ i', i' < S.locs.length ∧ own a = some i') ∨ s.heap.get? a = none) : ∀ b, S.mut own' b → S.mut own b ∨ s.heap.get? b = none := fun b q => by
  rcases q with q | ⟨i, hi, q⟩
  · exact .inl (.inl q)
  · rcases h b i hi q with z | z
    · exact .inl (.inr z)
    · exact .inr z
theorem SPost.after (x : Nx C S own s ρ' s') {Q : Prop} (k : ∀ own', RelS C S own' s'.heap ρ' → GlobOK C s'.heap → (∀ out fl s'', SPost C S own' s' rf out fl s'' → SPost C S own s rf out fl s'') → Q) : Q := by
  obtain ⟨own', r, g, e, p⟩ := x
  refine k own' r g fun out fl s'' h => ?_
  cases out with
  | next ρ'' =>
    obtain ⟨rfl, own'', r', g', e', p'⟩ := h
    exact ⟨rfl, own'', r', g', e.trans e' (mut_old p.p1), p.trans p' fun a z => e.none z⟩
  | ret d =>
    obtain ⟨v, rfl, e', rv, f⟩ := h
    exact ⟨v, rfl, e.trans e' (mut_old p.p1), rv, f⟩
theorem Nx.refl (c : SCx C Γ l A S own env ρ s) : Nx C S own s ρ s := ⟨own, c.rel, c.glob, (Ext.refl C s).v, .refl ..⟩
theorem Nx.ext (c : SCx C Γ l A S own env ρ s) (e : Ext C s s') : Nx C S own s ρ s' := ⟨own, c.rel.ext e, c.glob.ext e, e.v, .refl ..⟩
theorem Nx.trans {own' : Addr → Option Nat} (e : Ext C s s') (x : Nx C S own s' ρ' s'') : Nx C S own s ρ' s'' := by
  obtain ⟨own', r, g, ex, p⟩ := x
  exact ⟨own', r, g, (e.v (V := S.mut own)).trans ex fun b v => .inl v, (OwnStep.refl S own s).trans p fun a z => e.none z⟩
theorem SPost.pre (e : Ext C s s') {fl : Flow} (x : SPost C S own s' rf out fl s'') : SPost C S own s rf out fl s'' := by
  cases out with
  | next ρ'' => exact ⟨x.1, Nx.trans (own' := own) e x.2⟩
  | ret d =>
    obtain ⟨v, rfl, e', rv, f⟩ := x
    exact ⟨v, rfl, (e.v (V := S.mut own)).trans e' fun b v => .inl v, rv, f⟩
theorem s_nil : SOK C Γ l rf [] (fun ρ => some (.next ρ)) := by
  intro A S own env ρ s out c h
  cases h
  exact wpAny_execs_nil ⟨rfl, Nx.refl c⟩
theorem s_cons (x : StOK C Γ l rf st g₁) (y : SOK C Γ l rf ss g₂) : SOK C Γ l rf (st :: ss) (seqG g₁ g₂) := by
  intro A S own env ρ s out c h
  obtain ⟨o, h₁, h₂⟩ := Option.bind_eq_some_iff.mp h
  refine wpAny_execs_cons (wpAny_mono (x A S own env ρ s o c h₁) (fun fl s₁ k => ?_) fun _ _ e => e)
  cases o with
  | next ρ₁ =>
    obtain ⟨rfl, k⟩ := k
    exact SPost.after k fun own' r g' tr => wpAny_mono (y A S own' env ρ₁ s₁ out (c.of r g') h₂) (fun fl s₂ k₂ => tr _ _ _ k₂) fun _ _ e => e
  | ret d =>
    cases h₂
    obtain ⟨v, rfl, k1, k2, k3⟩ := k
    exact ⟨v, rfl, k1, k2, k3⟩
noncomputable def ifG (b : EEnv → Option Bool) (g₁ g₂ : List Slot → Option Out) : List Slot → Option Out := fun ρ => (b (view ρ)).bind fun r => if r then g₁ ρ else g₂ ρ
theorem s_if {e : Expr} {b : EEnv → Option Bool} {ss₁ ss₂ : List Stmt} {p : Pos} (xb : BOK C Γ l e b) (x : SOK C Γ l rf ss₁ g₁) (y : SOK C Γ l rf ss₂ g₂) : StOK C Γ l rf (.If e ss₁ ss₂ p) (ifG b g₁ g₂) := by
  intro A S own env ρ s out c h
  obtain ⟨r, h₁, h₂⟩ := Option.bind_eq_some_iff.mp h
  refine wpAny_If (xb.run c.cx h₁ fun s₁ e₁ _ => ?_)
  cases r with
  | true => exact wpAny_mono (x A S own env ρ s₁ out (c.ext e₁) h₂) (fun fl s₂ k => k.pre e₁) fun _ _ e => e
  | false => exact wpAny_mono (y A S own env ρ s₁ out (c.ext e₁) h₂) (fun fl s₂ k => k.pre e₁) fun _ _ e => e
/-- is the root of it new since the call? -/
noncomputable def Mk.fre : Mk → D → Bool
  | .own (_ + 1), d => d.cont || d.imm
  | .bor, d => d.cont || d.imm
  | .fu, _ => true
  | _, d => d.imm
theorem RelS.hbNone {h : Heap} {a : Addr} (r : RelS C S own h ρ) (q : h.get? a = none) : S.hb.get? a = none := by
  cases z : S.hb.get? a with
  | none => rfl
  | some o => obtain ⟨o', z'⟩ := r.hbx a o z; rw [q] at z'; cases z'
theorem imm_ref {N : Addr → Prop} {h : Heap} {a : Addr} (hi : d.imm = true) (x : RepC C h N (.ref a) d) : False := by cases x <;> cases hi
theorem fre_ok {m : Mk} {v : Value} (c : SCx C Γ l A S own env ρ s) (e : Ext C s s') (x : MkRep C (S.fx own) s.heap s'.heap m v d) (hf : m.fre d = true) : ∀ a, v = .ref a → S.hb.get? a = none := by
  intro a ea
  subst ea
  have w := c.cx.weak e x
  cases m with
  | fr => exact (imm_ref hf w).elim
  | unk => exact (imm_ref hf w).elim
  | fu => exact c.rel.hbNone (x.2 a rfl)
  | own k =>
    cases k with
    | zero => exact (imm_ref hf w).elim
    | succ k =>
      obtain ⟨O, t, _, f⟩ := x
      cases t with
      | fz q _ => 
        rcases Bool.or_eq_true_iff.mp hf with z | z
        · rw [q] at z; cases z
        · exact (imm_ref z w).elim
      | list => exact c.rel.hbNone (f a (.head _))
      | dict => exact c.rel.hbNone (f a (.head _))
  | bor =>
    obtain ⟨O, t, f⟩ := x
    cases t with
    | fz q _ => 
      rcases Bool.or_eq_true_iff.mp hf with z | z
      · rw [q] at z; cases z
      · exact (imm_ref z w).elim
    | list => exact (f a (.head _)).1
    | dict => exact (f a (.head _)).1
noncomputable def retG (rf : Bool) (f : EEnv → Option D) (m : EEnv → Mk) : List Slot → Option Out := fun ρ => (f (view ρ)).bind fun d => if !rf || (m (view ρ)).fre d then some (.ret d) else none
theorem s_ret {e : Expr} {f : EEnv → Option D} {m : EEnv → Mk} {p : Pos} (x : EvOK C Γ l e f m) : StOK C Γ l rf (.Return (some e) p) (retG rf f m) := by
  intro A S own env ρ s out c h
  obtain ⟨d, h₁, h₂⟩ := Option.bind_eq_some_iff.mp h
  split at h₂
  case isFalse => cases h₂
  rename_i hg
  cases h₂
  refine wpAny_Return_some (x.run c.cx h₁ fun v s₁ e₁ c₁ r₁ => ?_)
  refine ⟨v, rfl, e₁.v, (c.cx.weak e₁ r₁).trans (fun a n q => n (.inl q)) fun _ _ _ z => z, fun hr => ?_⟩
  rw [hr] at hg
  exact fre_ok c e₁ r₁ hg
/-- a value is kept in a name -/
theorem storeS {x : Str} {i k : Nat} {v : Value} (c : SCx C Γ l A S own env ρ s) (hx : Γ.slots.lookup x = some i) (rv : StoreOK C S own s.heap i k v d) : Wp C A (storeName env x v) (fun _ s' => Nx C S own s (put ρ i (.val k d)) s' ∧ RelS C S own s'.heap (put ρ i (.val k d)) ∧ ExtV C (S.loca) s s') s := by
  have ev : ∀ (lc : Loc) (h' : Heap) (tk : Nat), S.locs[i]? = some lc → (∀ b, b ≠ lc.addr → h'.get? b = s.heap.get? b) → (∃ o, h'.get? lc.addr = some o) → ExtV C S.loca s { s with heap := h', toks := tk } := by
    intro lc h' tk hm hsb hex
    have hla : S.loca lc.addr := ⟨lc, List.mem_of_getElem? hm, rfl⟩
    have kk : ∀ b o, ¬ S.loca b → s.heap.get? b = some o → h'.get? b = some o := fun b o n q => (hsb b (fun e => n (e ▸ hla))).trans q
    refine ⟨fun b o _ n q => kk b o n q, fun b o q => ?_, vol_tab (V := S.loca) ?_ ?_ kk, id, rfl⟩
    · by_cases hb : b = lc.addr
      · subst hb; exact hex
      · exact ⟨o, (hsb b hb).trans q⟩
    · rintro b ⟨lc', hm', rfl⟩; exact c.rel.ok.locT hm'
    · rintro b o k ⟨lc', hm', rfl⟩; obtain ⟨o', z⟩ := (c.rel.ok.bK _ o k).2; rw [c.rel.ok.loc lc' hm'] at z; cases z
  have fin : ∀ (h' : Heap) (tk : Nat), ExtV C S.loca s { s with heap := h', toks := tk } → RelS C S own h' (put ρ i (.val k d)) → Nx C S own s (put ρ i (.val k d)) { s with heap := h', toks := tk } ∧ RelS C S own h' (put ρ i (.val k d)) ∧ ExtV C S.loca s { s with heap := h', toks := tk } := by
    intro h' tk e r
    refine ⟨⟨own, r, ?_, e.mono fun b q => .inl q, .refl ..⟩, r, e⟩
    exact locA_glob c.cx e
  rcases c.env.slot x i hx with ⟨q, nk⟩ | ⟨cc, q, nk, ck⟩
  · have hm := List.mem_of_getElem? q
    obtain ⟨m, hn⟩ := c.rel.locex _ hm
    refine wpAny_storeName_local (by unfold Env.kindOf; rw [c.env.names]; exact nk) hn (fun h' hn' hs' => ?_) (by rw [c.env.kind]; rfl)
    refine fin h' _ (ev _ h' _ q (fun b hb => hs'.2 b hb) (let ⟨o, _, _, e, _⟩ := hn'; ⟨o, e⟩)) ?_
    refine c.rel.store q (fun b hb => hs'.2 b hb) ⟨_, hn', by simp⟩ (fun L y e m' hm' => ?_) rv
    cases e
    obtain ⟨o1, es1, ep1, a1, a2, a3, a4⟩ := hn
    obtain ⟨o2, es2, ep2, b1, b2, b3, b4⟩ := hm'
    rw [a1] at b1; cases b1
    rw [a2] at b2; cases b2
    have : m' = m := funext fun z => (b4 z).symm.trans (a4 z)
    rw [this]
    exact hn'
  · have hm := List.mem_of_getElem? q
    obtain ⟨v₀, hc₀⟩ := c.rel.locex _ hm
    refine wpAny_storeName_cell c.env.kind (by unfold Env.kindOf; rw [c.env.names]; exact nk) ck hc₀ fun h' hc' hs' => ?_
    exact fin h' _ (ev _ h' _ q (fun b hb => hs'.2 b hb) (let ⟨o, e, _⟩ := hc'; ⟨o, e⟩)) (c.rel.store q (fun b hb => hs'.2 b hb) hc' (fun L y e m' hm' => by cases e) rv)
noncomputable def asgG (i k : Nat) (f : EEnv → Option D) (m : EEnv → Mk) : List Slot → Option Out := fun ρ => (f (view ρ)).bind fun d => if keepB k (m (view ρ)) d then some (.next (put ρ i (.val k d))) else none
theorem OwnStep.of {own' : Addr → Option Nat} (c : SCx C Γ l A S own env ρ s) (p : ∀ a, (∃ o, s.heap.get? a = some o) → own' a = own a) : OwnStep S own s own' := by
  refine ⟨fun a i hi q => ?_, fun a n _ q => (p a (c.rel.ownx a n q).2.2).trans q, fun a n _ q => ?_⟩
  · cases z : s.heap.get? a with
    | none => exact .inr rfl
    | some o => rw [p a ⟨o, z⟩] at q; exact .inl ⟨i, hi, q⟩
  · cases z : s.heap.get? a with
    | none => exact .inr rfl
    | some o => rw [p a ⟨o, z⟩] at q; exact .inl q
set_option genInjectivity false in
inductive KeepX (C : Cfg) (S : Fs) (own : Addr → Option Nat) (s s' : Shared) (ρ : List Slot) (i k : Nat) (v : Value) (d : D) : Prop
  | mk (own' : Addr → Option Nat) (O : List Addr) : RelS C S own' s'.heap ρ → OwnT C.prog C.w s'.heap (fun a => ¬ (S.fx own').vol a) k v d O → O.Nodup → (∀ a ∈ O, own' a = some i ∧ s.heap.get? a = none) → (∀ a, (∃ o, s.heap.get? a = some o) → own' a = own a) → KeepX C S own s s' ρ i k v d
/-- a new value becomes the slot's -/
theorem keep_new {i k : Nat} {mk : Mk} {v : Value} (c : SCx C Γ l A S own env ρ s) (e : Ext C s s') (x : MkRep C (S.fx own) s.heap s'.heap mk v d) (hk : keepB k mk d = true) :
    KeepX C S own s s' ρ i k v d := by
  cases k with
  | zero => exact ⟨own, [], c.rel.ext e, .fz0 (x.clean c.cx.rel.hv hk), List.nodup_nil, fun _ h => (nomatch h), fun _ _ => rfl⟩
  | succ k =>
    have em : mk = .own (k + 1) := Mk.of_isOwn hk
    subst em
    obtain ⟨O, t, nd, f⟩ := x
    refine ⟨setOwn own O i, O, c.rel.give e f t.ex.2, t.trans (fun a n q => ?_) (fun _ _ _ z => z) fun _ _ _ z => z, nd, fun a ha => ⟨if_pos ha, f a ha⟩, fun a ⟨o, z⟩ => ?_⟩
    · rcases q with q | q | q
      · exact n.1 (.inl q)
      · exact n.1 (.inr (.inl q))
      · unfold setOwn at q; rw [if_neg n.2] at q; exact n.1 (.inr (.inr q))
    · unfold setOwn
      split
      · rename_i hm; rw [f a hm] at z; cases z
      · rfl
theorem storeOK_of {i k : Nat} {h : Heap} {v : Value} {O : List Addr} (x : OwnT C.prog C.w h (fun a => ¬ (S.fx own).vol a) k v d O) (nd : O.Nodup) (f : ∀ a ∈ O, own a = some i) : StoreOK C S own h i k v d := by
  cases k with
  | zero => cases x with | fz0 r => exact r
  | succ k => exact ⟨O, x, nd, f⟩
theorem slot_lt {x : Str} {i : Nat} (c : SCx C Γ l A S own env ρ s) (hx : Γ.slots.lookup x = some i) : i < S.locs.length := by
  rcases c.env.slot x i hx with ⟨q, _⟩ | ⟨_, q, _⟩ <;> exact (List.getElem?_eq_some_iff.mp q).1
theorem s_assign {x : Str} {pp p : Pos} {i k : Nat} {e : Expr} {f : EEnv → Option D} {m : EEnv → Mk} (hx : Γ.slots.lookup x = some i) (y : EvOK C Γ l e f m)
    (hs : ∀ env : Env, env.scope.names = Γ.names → swapsWith e (some (.Name x pp)) p.line env = pure false) : StOK C Γ l rf (.Assign [.Name x pp] e p) (asgG i k f m) := by
  intro A S own env ρ s out c h
  obtain ⟨d, h₁, h₂⟩ := Option.bind_eq_some_iff.mp h
  split at h₂
  case isFalse => cases h₂
  rename_i hg
  cases h₂
  refine wpAny_Assign_Name (y.run c.cx h₁ fun v s₁ e₁ c₁ r₁ => ?_) (hs env c.env.names)
  obtain ⟨own', O, r', t, nd, fn, p4⟩ := keep_new (i := i) c e₁ r₁ hg
  refine wpAny_mono (storeS (c.of r' (c.glob.ext e₁)) hx (storeOK_of t nd fun a ha => (fn a ha).1)) (fun _ s₂ k => ?_) fun _ _ e => e
  obtain ⟨⟨o', k1, k2, k3, k4⟩, kr, ke⟩ := k
  exact ⟨rfl, own', kr, k2, (e₁.v (V := S.mut own)).trans (V' := S.loca) ke fun b q => .inl (.inl q), .of c p4⟩
end
end Mine

set_option autoImplicit false
open PySem PyProof.Rows
namespace Mine
set_option linter.unusedVariables false

noncomputable def storedD : List (Str × D) → Str → D → List (Str × D)
  | [], k, d => [(k, d)]
  | (k₀, d₀) :: r, k, d => if k₀ = k then (k₀, d) :: r else (k₀, d₀) :: storedD r k d
noncomputable def storedV : List (Str × Value) → Str → Value → List (Str × Value)
  | [], k, d => [(k, d)]
  | (k₀, d₀) :: r, k, d => if k₀ = k then (k₀, d) :: r else (k₀, d₀) :: storedV r k d
theorem stored_eq : ∀ {kvs : List (Str × Value)} {k : Str} {v : Value}, (kvs.map (·.1)).Nodup → stored kvs k v = storedV kvs k v
  | [], k, v, _ => rfl
  | (k₀, v₀) :: r, k, v, hn => by
    rw [List.map_cons, List.nodup_cons] at hn
    have ih := stored_eq (k := k) (v := v) hn.2
    unfold storedV
    by_cases hk : k₀ = k
    · subst hk
      rw [if_pos rfl]
      unfold stored
      rw [if_pos (by simp)]
      simp only [List.map_cons, if_true]
      congr 1
      refine (List.map_congr_left fun p hp => ?_).trans (List.map_id _)
      rw [if_neg]
      · rfl
      · intro e; exact hn.1 (List.mem_map.mpr ⟨p, hp, e⟩)
    · rw [if_neg hk, ← ih]
      unfold stored
      by_cases ha : (r.any fun kv => decide (kv.1 = k)) = true
      · rw [if_pos (by simp only [List.any_cons, hk, decide_false, Bool.false_or]; exact ha), if_pos ha]
        simp [hk]
      · rw [if_neg (by simp only [List.any_cons, hk, decide_false, Bool.false_or]; exact ha), if_neg ha]
        rfl
theorem dictOf_nodup {prog : Program} {w : World} {h : Heap} {a : Addr} {kvs : List (Str × Value)} (x : h.DictOf (PySem.strKind prog w) a kvs) : (kvs.map (·.1)).Nodup := by
  obtain ⟨o, es, ep, ho, hc, hd, hk, hp, hn⟩ := x; exact hn
theorem storedV_len {kvs : List (Str × Value)} {k : Str} {v : Value} : (storedV kvs k v).length ≤ kvs.length + 1 := by
  induction kvs with
  | nil => exact Nat.le_refl _
  | cons p r ih =>
    obtain ⟨k₀, v₀⟩ := p
    unfold storedV
    split
    · simp
    · simpa using ih
section
variable {prog : Program} {w : World} {h : Heap} {N : Addr → Prop}
theorem OwnE.length {k : Nat} {vs : List (Str × Value)} {ds : List (Str × D)} {O : List Addr} (x : OwnE prog w h N k vs ds O) : vs.length = ds.length := by
  induction vs generalizing ds O with
  | nil => cases x; rfl
  | cons v vs ih => cases x with | cons _ a r => rw [List.length_cons, List.length_cons, ih r]
set_option genInjectivity false in
inductive PutX (prog : Program) (w : World) (h : Heap) (N : Addr → Prop) (k : Nat) (vs : List (Str × Value)) (ds : List (Str × D)) (O O₁ : List Addr) : Prop
  | mk (O' : List Addr) : OwnE prog w h N k vs ds O' → (∀ a ∈ O', a ∈ O ∨ a ∈ O₁) → (O.Nodup → O₁.Nodup → (∀ a ∈ O, a ∉ O₁) → O'.Nodup) → PutX prog w h N k vs ds O O₁
theorem OwnE.put {k : Nat} {v : Value} {d : D} {O₁ : List Addr} {x : Str} (hx : PyData.strOk x = true) (t : OwnT prog w h N k v d O₁) {vs : List (Str × Value)} {ds : List (Str × D)} {O : List Addr} (y : OwnE prog w h N k vs ds O) : PutX prog w h N k (storedV vs x v) (storedD ds x d) O O₁ := by
  induction vs generalizing ds O with
  | nil => cases y; exact ⟨O₁ ++ [], .cons hx t .nil, fun a ha => .inr (by simpa using ha), fun _ h _ => by simpa using h⟩
  | cons p vs ih =>
    cases y with
    | @cons _ y _ _ _ _ P P' hy u r =>
    unfold storedV storedD
    by_cases e : y = x
    · subst e
      rw [if_pos rfl, if_pos rfl]
      refine ⟨O₁ ++ P', .cons hx t r, fun a ha => ?_, fun h1 h2 h3 => ?_⟩
      · exact (List.mem_append.mp ha).elim .inr fun q => .inl (List.mem_append_right _ q)
      · exact List.nodup_append.mpr ⟨h2, (List.nodup_append.mp h1).2.1, fun a ha b hb e => h3 b (List.mem_append_right _ hb) (e ▸ ha)⟩
    · rw [if_neg e, if_neg e]
      obtain ⟨O', r', s', n'⟩ := ih r
      refine ⟨P ++ O', .cons hy u r', fun a ha => ?_, fun h1 h2 h3 => ?_⟩
      · exact (List.mem_append.mp ha).elim (fun q => .inl (List.mem_append_left _ q)) fun q => (s' a q).imp (List.mem_append_right _) id
      · have hh := List.nodup_append.mp h1
        exact List.nodup_append.mpr ⟨hh.1, n' hh.2.1 h2 fun a ha => h3 a (List.mem_append_right _ ha), fun a ha b hb e => (s' b hb).elim (fun q => hh.2.2 a ha b q e) fun q => h3 a (List.mem_append_left _ ha) (e ▸ q)⟩
end
section
variable {C : Cfg} {Γ : Sc} {l : Nat} {A : Around} {S : Fs} {own : Addr → Option Nat} {env : Env} {ρ ρ' : List Slot} {s s' s'' : Shared} {d d' : D} {rf : Bool} {e : Expr} {f : EEnv → Option D} {m : EEnv → Mk}
/-- objects of no slot turn -/
theorem RelS.turn {h h' : Heap} {V : Addr → Prop} (r : RelS C S own h ρ) (hV : ∀ a, V a → ∃ n, S.locs.length ≤ n ∧ own a = some n) (k : ∀ b o, ¬ V b → h.get? b = some o → h'.get? b = some o) (hex : ∀ b, V b → ∃ o, h'.get? b = some o) : RelS C S own h' ρ := by
  have kx : ∀ a, (∃ o, h.get? a = some o) → ∃ o, h'.get? a = some o := fun a ⟨o, q⟩ => by
    by_cases hv : V a
    · exact hex a hv
    · exact ⟨o, k a o hv q⟩
  have nl : ∀ lc ∈ S.locs, ¬ V lc.addr := fun lc hl v => by
    obtain ⟨n, _, q⟩ := hV _ v; exact (r.ownx _ n q).2.1 ⟨lc, hl, rfl⟩
  have kl : ∀ lc ∈ S.locs, ∀ o, h.get? lc.addr = some o → h'.get? lc.addr = some o := fun lc hl o => k _ o (nl lc hl)
  have kv : ∀ a o, ¬ (S.fx own).vol a → h.get? a = some o → h'.get? a = some o := fun a o n => k a o fun v => by
    obtain ⟨i, _, q⟩ := hV a v; exact n (.inr (.inr (by rw [q]; exact fun z => by cases z)))
  have ko : ∀ a i, i < S.locs.length → own a = some i → ∀ o, h.get? a = some o → h'.get? a = some o := fun a i hi ho o => k a o fun v => by
    obtain ⟨n, hn, q⟩ := hV a v; rw [ho] at q; cases q; omega
  refine ⟨r.ok, fun a o q => kx a (r.hbx a o q), fun lc hl => (r.locex lc hl).kept (kl lc hl), r.len, fun a i ho => ?_, fun i d q => ?_, fun i kk d q => ?_, fun i j key q => ?_⟩
  · obtain ⟨h1, h2, h3⟩ := r.ownx a i ho; exact ⟨h1, h2, kx a h3⟩
  · obtain ⟨lc, v, h1, h2, h3⟩ := r.slot0 i d q
    exact ⟨lc, v, h1, h2.kept (kl lc (List.mem_of_getElem? h1)), h3.trans (fun _ n => n) kv⟩
  · obtain ⟨lc, v, O, h1, h2, h3, h4, h5⟩ := r.tree i kk d q
    exact ⟨lc, v, O, h1, h2.kept (kl lc (List.mem_of_getElem? h1)), h3.trans (fun _ n => n) kv fun a ha => ko a i (List.getElem?_eq_some_iff.mp h1).1 (h5 a ha), h4, h5⟩
  · obtain ⟨lc, lj, a, v, kvs, h1, h2, h3, h4, h5, h6, h7⟩ := r.place i j key q
    exact ⟨lc, lj, a, v, kvs, h1, h2.kept (kl lc (List.mem_of_getElem? h1)), h3, h4.kept (kl lj (List.mem_of_getElem? h3)), DictOf.at h5 (ko a j (List.getElem?_eq_some_iff.mp h3).1 h7), h6, h7⟩
/-- the object of a slot turns -/
theorem RelS.mutate {h h' : Heap} {i k : Nat} {a : Addr} {O : List Addr} {v : Value} {lc : Loc} (r : RelS C S own h ρ) (hl : S.locs[i]? = some lc) (hv : LocHas h lc v) (ha : own a = some i) (hsb : ∀ b, b ≠ a → h'.get? b = h.get? b) (hex : ∃ o, h'.get? a = some o)
    (t : OwnT C.prog C.w h' (fun a => ¬ (S.fx own).vol a) (k + 1) v d' O) (nd : O.Nodup) (f : ∀ a ∈ O, own a = some i) : RelS C S own h' (put ρ i (.val (k + 1) d')) := by
  have hil : i < ρ.length := by rw [r.len]; exact (List.getElem?_eq_some_iff.mp hl).1
  have kx : ∀ a, (∃ o, h.get? a = some o) → ∃ o, h'.get? a = some o := fun b ⟨o, q⟩ => by
    by_cases hv : b = a
    · subst hv; exact hex
    · exact ⟨o, (hsb b hv).trans q⟩
  have nl : ∀ lc ∈ S.locs, lc.addr ≠ a := fun lc hl v => (r.ownx _ i ha).2.1 ⟨lc, hl, v⟩
  have kl : ∀ lc ∈ S.locs, ∀ o, h.get? lc.addr = some o → h'.get? lc.addr = some o := fun lc hl o q => (hsb _ (nl lc hl)).trans q
  have kv : ∀ a o, ¬ (S.fx own).vol a → h.get? a = some o → h'.get? a = some o := fun b o n q => (hsb b fun e => by subst e; exact n (.inr (.inr (by rw [ha]; exact fun z => by cases z)))).trans q
  have ko : ∀ b j, j ≠ i → own b = some j → ∀ o, h.get? b = some o → h'.get? b = some o := fun b j hj ho o q => (hsb b fun e => by subst e; rw [ho] at ha; cases ha; exact hj rfl).trans q
  refine ⟨r.ok, fun a o q => kx a (r.hbx a o q), fun lc hl => (r.locex lc hl).kept (kl lc hl), by simp [put, r.len], fun a i ho => ?_, fun j dj q => ?_, fun j kj dj q => ?_, fun j jj key q => ?_⟩
  · obtain ⟨h1, h2, h3⟩ := r.ownx a i ho; exact ⟨h1, h2, kx a h3⟩
  · rcases getElem_put q hil with ⟨rfl, e⟩ | ⟨hji, y, hy, e⟩
    · cases e
    · cases y with
      | un => cases e
      | val k' d'' =>
        cases e
        obtain ⟨lj, u, h1, h2, h3⟩ := r.slot0 j _ hy
        exact ⟨lj, u, h1, h2.kept (kl lj (List.mem_of_getElem? h1)), h3.trans (fun _ n => n) kv⟩
      | pl a b => simp only [clr] at e; split at e <;> exact Slot.noConfusion e
  · rcases getElem_put q hil with ⟨rfl, e⟩ | ⟨hji, y, hy, e⟩
    · cases e
      exact ⟨lc, v, O, hl, hv.kept (kl lc (List.mem_of_getElem? hl)), t, nd, f⟩
    · cases y with
      | un => cases e
      | val k' d'' =>
        cases e
        obtain ⟨lj, u, O', h1, h2, h3, h4, h5⟩ := r.tree j _ _ hy
        exact ⟨lj, u, O', h1, h2.kept (kl lj (List.mem_of_getElem? h1)), h3.trans (fun _ n => n) kv fun a ha => ko a j hji (h5 a ha), h4, h5⟩
      | pl a b => simp only [clr] at e; split at e <;> exact Slot.noConfusion e
  · rcases getElem_put q hil with ⟨rfl, e⟩ | ⟨hji, y, hy, e⟩
    · cases e
    · cases y with
      | un => cases e
      | val k' d'' => cases e
      | pl a b =>
        simp only [clr] at e
        split at e
        · exact Slot.noConfusion e
        · rename_i hai
          obtain ⟨rfl, rfl⟩ := Slot.pl.inj e
          obtain ⟨l1, l2, a, u, kvs, h1, h2, h3, h4, h5, h6, h7⟩ := r.place j jj key hy
          exact ⟨l1, l2, a, u, kvs, h1, h2.kept (kl l1 (List.mem_of_getElem? h1)), h3, h4.kept (kl l2 (List.mem_of_getElem? h3)), DictOf.at h5 (ko a jj hai h7), h6, h7⟩
theorem name_raw {x : Str} {p : Pos} {i : Nat} {lc : Loc} {v : Value} {Q : Value → Shared → Prop} (c : SCx C Γ l A S own env ρ s) (hx : Γ.slots.lookup x = some i) (hd : (x == ("__debug__" : Str)) = false) (hl : S.locs[i]? = some lc) (hv : LocHas s.heap lc v) (h : Q v s) : Wp C A (eval (.Name x p) env) Q s := by
  refine wpAny_Name ?_ hd
  rcases c.env.slot x i hx with ⟨q, nk⟩ | ⟨cc, q, nk, ck⟩
  · rw [show (S.fx own).locs[i]? = S.locs[i]? from rfl, hl] at q; cases q
    obtain ⟨mm, hn, hv⟩ := hv
    exact wpAny_loadName_local c.env.kind (by unfold Env.kindOf; rw [c.env.names]; exact nk) hn hv h
  · rw [show (S.fx own).locs[i]? = S.locs[i]? from rfl, hl] at q; cases q
    exact wpAny_loadName_cell c.env.kind (by unfold Env.kindOf; rw [c.env.names]; exact nk) ck hv h
/-- a change of an object of the slot's -/
theorem Nx.mutate {own' : Addr → Option Nat} {i : Nat} {a : Addr} {h' : Heap} {tk : Nat} (c : SCx C Γ l A S own env ρ s) (e : Ext C s s') (r : RelS C S own' s'.heap ρ) (g : GlobOK C s'.heap) (hi : i < S.locs.length) (ha : own a = some i) (ha' : own' a = some i)
    (pp : OwnStep S own s own') (hsb : ∀ b, b ≠ a → h'.get? b = s'.heap.get? b) (hex : ∃ o, h'.get? a = some o) (r' : RelS C S own' h' ρ') :
    Nx C S own s ρ' { s' with heap := h', toks := tk } := by
  have x : ExtV C (fun b => b = a) s' { s' with heap := h', toks := tk } := extV_of g (fun b hb => by subst hb; exact c.rel.ownT ha) (fun b o k hb => by
    subst hb; obtain ⟨o', z⟩ := (c.rel.ok.bK _ o k).2; rw [(c.rel.ownx _ i ha).1] at z; cases z) (fun b o hb q => (hsb b hb).trans q) (fun b hb => by subst hb; exact hex)
  have hm : S.mut own a := .inr ⟨i, hi, ha⟩
  have nlow : ∀ b : Nat, b = 0 ∨ b = 2 ∨ b = 3 → b ≠ a := fun b hb q => by
    subst q; obtain ⟨o', z⟩ := (c.rel.ok.blow _ hb).2; rw [(c.rel.ownx _ i ha).1] at z; cases z
  refine ⟨own', r', g.extV x (fun b o k hb => ?_) (nlow 3 (.inr (.inr rfl))) (nlow 0 (.inl rfl)) (nlow 2 (.inr (.inl rfl))), (e.v (V := S.mut own)).trans x fun b hb => .inl (by subst hb; exact hm), pp⟩
  subst hb; obtain ⟨o', z⟩ := (c.rel.ok.bK _ o k).2; rw [(c.rel.ownx _ i ha).1] at z; cases z

set_option genInjectivity false in
inductive TreeLX (C : Cfg) (S : Fs) (own : Addr → Option Nat) (h : Heap) (i k : Nat) (ds : List D) : Prop
  | mk (lc : Loc) (a : Addr) (vs : List Value) (O : List Addr) : S.locs[i]? = some lc → LocHas h lc (.ref a) → h.PlainList a vs.toArray → vs.length ≤ sizeLine → OwnL C.prog C.w h (fun a => ¬ (S.fx own).vol a) k vs ds O → (a :: O).Nodup → (∀ b ∈ a :: O, own b = some i) → TreeLX C S own h i k ds
set_option genInjectivity false in
inductive TreeDX (C : Cfg) (S : Fs) (own : Addr → Option Nat) (h : Heap) (i k : Nat) (ds : List (Str × D)) : Prop
  | mk (lc : Loc) (a : Addr) (vs : List (Str × Value)) (O : List Addr) : S.locs[i]? = some lc → LocHas h lc (.ref a) → (a == sysModules) = false → h.DictOf (PySem.strKind C.prog C.w) a vs → vs.length ≤ sizeLine → OwnE C.prog C.w h (fun a => ¬ (S.fx own).vol a) k vs ds O → (a :: O).Nodup → (∀ b ∈ a :: O, own b = some i) → TreeDX C S own h i k ds
theorem RelS.treeL {h : Heap} {i k : Nat} {ds : List D} (r : RelS C S own h ρ) (q : ρ[i]? = some (.val (k + 1) (.list ds))) : TreeLX C S own h i k ds := by
  obtain ⟨lc, v, O, h1, h2, t, nd, fo⟩ := r.tree i k _ q
  cases t with
  | fz q _ => cases q
  | list p l r => exact ⟨lc, _, _, _, h1, h2, p, l, r, nd, fo⟩
theorem RelS.treeD {h : Heap} {i k : Nat} {ds : List (Str × D)} (r : RelS C S own h ρ) (q : ρ[i]? = some (.val (k + 1) (.dict ds))) : TreeDX C S own h i k ds := by
  obtain ⟨lc, v, O, h1, h2, t, nd, fo⟩ := r.tree i k _ q
  cases t with
  | fz q _ => cases q
  | dict e p l r => exact ⟨lc, _, _, _, h1, h2, e, p, l, r, nd, fo⟩
noncomputable def appG (i k : Nat) (f : EEnv → Option D) (m : EEnv → Mk) : List Slot → Option Out := fun ρ =>
  (slL ρ i (k + 1)).bind fun ds => (f (view ρ)).bind fun d => if keepB k (m (view ρ)) d = true ∧ ds.length < lim then some (.next (put ρ i (.val (k + 1) (.list (ds ++ [d]))))) else none
set_option genInjectivity false in
inductive AppX (ρ : List Slot) (i k : Nat) (f : EEnv → Option D) (m : EEnv → Mk) (out : Out) : Prop
  | mk (ds : List D) (d : D) : ρ[i]? = some (.val (k + 1) (.list ds)) → f (view ρ) = some d → keepB k (m (view ρ)) d = true → ds.length < lim → out = .next (put ρ i (.val (k + 1) (.list (ds ++ [d])))) → AppX ρ i k f m out
theorem appG_inv {i k : Nat} {out : Out} (h : appG i k f m ρ = some out) : AppX ρ i k f m out := by
  obtain ⟨ds, hs, h⟩ := Option.bind_eq_some_iff.mp h
  obtain ⟨d, h₁, h⟩ := Option.bind_eq_some_iff.mp h
  obtain ⟨⟨hg, hl⟩, h⟩ := ite_inv h
  exact ⟨ds, d, slL_inv hs, h₁, hg, hl, h.symm⟩
theorem own_p3 {own' : Addr → Option Nat} (c : SCx C Γ l A S own env ρ s) (p : ∀ a, (∃ o, s.heap.get? a = some o) → own' a = own a) : ∀ a j, own a = some j → own' a = some j := fun a j q => (p a (c.rel.ownx a j q).2.2).trans q
theorem vol_own {own' : Addr → Option Nat} (p : ∀ a, (∃ o, s.heap.get? a = some o) → own' a = own a) {a : Addr} (hx : ∃ o, s.heap.get? a = some o) (n : ¬ (S.fx own).vol a) : ¬ (S.fx own').vol a := fun q => by
  rcases q with q | q | q
  · exact n (.inl q)
  · exact n (.inr (.inl q))
  · rw [p a hx] at q; exact n (.inr (.inr q))
theorem interactive_no (c : SCx C Γ l A S own env ρ s) : interactive env = false := by unfold interactive; rw [c.env.kind]; rfl
theorem s_append {x : Str} {np ap cp p : Pos} {i k : Nat} (hx : Γ.slots.lookup x = some i) (hd : (x == ("__debug__" : Str)) = false) (y : EvOK C Γ l e f m)
    (hbase : ∀ env, attributeBase (.Name x np) "append" env (eval (.Name x np) env) = eval (.Name x np) env)
    (hfew : ∀ env, ((backTo cp (starEach [e] env)).all (fun x => !x.1) && (backToKw cp (keywordEach [] env)).all (fun x => x.1.isSome) && decide (([e] : List Expr).length + ([] : List Keyword).length + (if ([] : List Keyword).isEmpty then 0 else 1) < 30)) = true)
    (hline : (ap.endLine == cp.line) = true) (htrees : ∀ env, backTo cp (starEach [e] env) = [(false, eval e env)]) :
    StOK C Γ l rf (.Expr (.Call (.Attribute (.Name x np) "append" ap) [e] [] cp) p) (appG i k f m) := by
  intro A S own env ρ s out c h
  obtain ⟨ds, d, hρ, h₁, hgk, hlen, hout⟩ := appG_inv h
  obtain ⟨lc, a, vs, Or, hl, hv, pl, ln, r, nd, fo⟩ := c.rel.treeL hρ
  have hi : i < S.locs.length := slot_lt c hx
  have ha : own a = some i := fo a (.head _)
  refine wpAny_Expr (wpAny_Call_append (hbase env) (hfew env) hline (htrees env) (name_raw c hx hd hl hv ⟨a, vs.toArray, rfl, ?_, ?_⟩)) (interactive_no c) rfl
  · obtain ⟨n, q⟩ := pl; exact ⟨_, n, q, rfl, rfl, rfl⟩
  refine y.run c.cx h₁ fun u s₁ e₁ c₁ r₁ => ?_
  obtain ⟨own', On, r', tn, ndn, fn, p4⟩ := keep_new (i := i) c e₁ r₁ hgk
  have nT : ¬ C.T a := c.rel.ownT ha
  have pl₁ := pl.at fun o => e₁.keep a o nT
  refine wpAny_list_append_plain pl₁ (fun h' pl' hs' => ?_) (by simpa using ln)
  have hsb : ∀ b, b ≠ a → h'.get? b = s₁.heap.get? b := fun b hb => hs'.2 b hb
  have ha' : own' a = some i := own_p3 c p4 a i ha
  have nOr : a ∉ Or := (List.nodup_cons.mp nd).1
  have nOn : a ∉ On := fun hm => by
    obtain ⟨o, q⟩ := plain_some pl; rw [(fn a hm).2] at q; cases q
  have kk : ∀ b o, ¬ (S.fx own').vol b → s₁.heap.get? b = some o → h'.get? b = some o := fun b o n q => (hsb b (fun z => by subst z; exact n (.inr (.inr (by rw [ha']; exact fun z => by cases z))))).trans q
  have rOld : OwnL C.prog C.w h' (fun a => ¬ (S.fx own').vol a) k vs ds Or := by
    refine OwnL.trans (fun b n => vol_own p4 n.2 n.1) (fun b o n q => ?_) r.ex.1 fun b hb o q => (hsb b (fun z => nOr (z ▸ hb))).trans (e₁.keep b o (c.rel.ownT (fo b (.tail _ hb))) q)
    exact kk b o (vol_own p4 n.2 n.1) (e₁.keep b o (fun t => n.1 (.inl (c.rel.ok.bT b t))) q)
  have tNew : OwnT C.prog C.w h' (fun a => ¬ (S.fx own').vol a) k u d On := tn.trans (fun _ n => n) kk fun b hb o q => (hsb b (fun z => nOn (z ▸ hb))).trans q
  have rel' : RelS C S own' h' (put ρ i (.val (k + 1) (.list (ds ++ [d])))) := by
    refine r'.mutate (O := a :: (Or ++ On)) hl (hv.kept fun o => e₁.keep _ o (c.rel.ok.locT (List.mem_of_getElem? hl))) ha' hsb (plain_some pl') (.list (vs := vs ++ [u]) ?_ ?_ (rOld.app tNew)) ?_ fun b hb => ?_
    · simpa using pl'
    · rw [List.length_append, r.length]
      unfold lim at hlen
      simp only [List.length_cons, List.length_nil]
      unfold sizeLine; omega
    · refine List.nodup_cons.mpr ⟨fun hm => (List.mem_append.mp hm).elim nOr nOn, List.nodup_append.mpr ⟨(List.nodup_cons.mp nd).2, ndn, fun b hb b' hb' z => ?_⟩⟩
      subst z
      obtain ⟨o, q⟩ := r.ex.2 b hb; rw [(fn b hb').2] at q; cases q
    · rcases List.mem_cons.mp hb with rfl | hb
      · exact ha'
      · rcases List.mem_append.mp hb with hb | hb
        · exact own_p3 c p4 b i (fo b (.tail _ hb))
        · exact (fn b hb).1
  rw [hout]
  exact ⟨rfl, Nx.mutate (tk := s₁.toks) c e₁ r' (c.glob.ext e₁) hi ha ha' (.of c p4) hsb (plain_some pl') rel'⟩
noncomputable def setG (i k : Nat) (f : EEnv → Option D) (m : EEnv → Mk) (fk : EEnv → Option D) : List Slot → Option Out := fun ρ =>
  (slD ρ i (k + 1)).bind fun ds => ((fk (view ρ)).bind toS).bind fun key => (f (view ρ)).bind fun d => if keepB k (m (view ρ)) d = true ∧ ds.length < lim then some (.next (put ρ i (.val (k + 1) (.dict (storedD ds key d))))) else none
theorem key_inv {o : Option D} {k : Str} (h : o.bind toS = some k) : o = some (.str k) := by
  obtain ⟨d, hd, h⟩ := Option.bind_eq_some_iff.mp h
  rw [hd, toS_inv h]
set_option genInjectivity false in
inductive SetX (ρ : List Slot) (i k : Nat) (f : EEnv → Option D) (m : EEnv → Mk) (fk : EEnv → Option D) (out : Out) : Prop
  | mk (ds : List (Str × D)) (key : Str) (d : D) : ρ[i]? = some (.val (k + 1) (.dict ds)) → fk (view ρ) = some (.str key) → f (view ρ) = some d → keepB k (m (view ρ)) d = true → ds.length < lim → out = .next (put ρ i (.val (k + 1) (.dict (storedD ds key d)))) → SetX ρ i k f m fk out
theorem setG_inv {i k : Nat} {fk : EEnv → Option D} {out : Out} (h : setG i k f m fk ρ = some out) : SetX ρ i k f m fk out := by
  obtain ⟨ds, hs, h⟩ := Option.bind_eq_some_iff.mp h
  obtain ⟨key, hk, h⟩ := Option.bind_eq_some_iff.mp h
  obtain ⟨d, h₁, h⟩ := Option.bind_eq_some_iff.mp h
  obtain ⟨⟨hg, hl⟩, h⟩ := ite_inv h
  exact ⟨ds, key, d, slD_inv hs, key_inv hk, h₁, hg, hl, h.symm⟩
theorem s_setitem {x : Str} {np sp p : Pos} {i k : Nat} {ke : Expr} {fk : EEnv → Option D} {mk : EEnv → Mk} (hx : Γ.slots.lookup x = some i) (hd : (x == ("__debug__" : Str)) = false) (y : EvOK C Γ l e f m) (yk : EvOK C Γ l ke fk mk)
    (hs : ∀ env, swapsWith e (some (.Subscript (.Name x np) ke sp)) p.line env = pure false) : StOK C Γ l rf (.Assign [.Subscript (.Name x np) ke sp] e p) (setG i k f m fk) := by
  intro A S own env ρ s out c h
  obtain ⟨ds, key, d, hρ, hkey, h₁, hgk, hlen, hout⟩ := setG_inv h
  obtain ⟨lc, a, kvs, Or, hl, hv, ne, dd, ln, r, nd, fo⟩ := c.rel.treeD hρ
  have ha : own a = some i := fo a (.head _)
  refine wpAny_Assign_Subscript (y.run c.cx h₁ fun u s₁ e₁ c₁ r₁ => ?_) (hs env)
  obtain ⟨own', On, r', tn, ndn, fn, p4⟩ := keep_new (i := i) c e₁ r₁ hgk
  have hi : i < S.locs.length := slot_lt c hx
  have cc := c.of r' (c.glob.ext e₁)
  have hv₁ := hv.kept fun o => e₁.keep _ o (c.rel.ok.locT (List.mem_of_getElem? hl))
  refine name_raw cc hx hd hl hv₁ (yk.run cc.cx hkey fun kv s₂ e₂ c₂ r₂ => ?_)
  obtain ⟨t, rfl, hok⟩ := (cc.cx.weak e₂ r₂).inv_str
  have nT : ¬ C.T a := c.rel.ownT ha
  have e₁₂ := e₁.trans e₂
  have dd₂ := DictOf.at dd fun o => e₁₂.keep a o nT
  refine wpAny_setItem_pairs (knd := PySem.strKind C.prog C.w) (k := key) (by simp [PySem.strKind, Value.isStrOf]) dd₂ (fun h' dd' hs' => ?_) ln
  rw [stored_eq (dictOf_nodup dd)] at dd'
  have hsb : ∀ b, b ≠ a → h'.get? b = s₂.heap.get? b := fun b hb => hs'.2 b hb
  have ha' : own' a = some i := own_p3 c p4 a i ha
  have nOr : a ∉ Or := (List.nodup_cons.mp nd).1
  have nOn : a ∉ On := fun hm => by
    obtain ⟨o, q⟩ := dict_some dd; rw [(fn a hm).2] at q; cases q
  have r'' := r'.ext e₂
  have kk : ∀ b o, ¬ (S.fx own').vol b → s₂.heap.get? b = some o → h'.get? b = some o := fun b o n q => (hsb b (fun z => by subst z; exact n (.inr (.inr (by rw [ha']; exact fun z => by cases z))))).trans q
  have rOld : OwnE C.prog C.w h' (fun a => ¬ (S.fx own').vol a) k kvs ds Or := by
    refine OwnE.trans (fun b n => vol_own p4 n.2 n.1) (fun b o n q => ?_) r.ex.1 fun b hb o q => (hsb b (fun z => nOr (z ▸ hb))).trans (e₁₂.keep b o (c.rel.ownT (fo b (.tail _ hb))) q)
    exact kk b o (vol_own p4 n.2 n.1) (e₁₂.keep b o (fun t => n.1 (.inl (c.rel.ok.bT b t))) q)
  have tNew : OwnT C.prog C.w h' (fun a => ¬ (S.fx own').vol a) k u d On := tn.trans (fun _ n => n) (fun b o n q => kk b o n (e₂.keep b o (fun t => n (.inl (c.rel.ok.bT b t))) q)) fun b hb o q => (hsb b (fun z => nOn (z ▸ hb))).trans (e₂.keep b o (r'.ownT (fn b hb).1) q)
  obtain ⟨O', rO', sub, ndO⟩ := rOld.put hok tNew
  have rel' : RelS C S own' h' (put ρ i (.val (k + 1) (.dict (storedD ds key d)))) := by
    refine r''.mutate (O := a :: O') hl (hv.kept fun o => e₁₂.keep _ o (c.rel.ok.locT (List.mem_of_getElem? hl))) ha' hsb (dict_some dd') (.dict ne dd' ?_ rO') ?_ fun b hb => ?_
    · have := storedV_len (kvs := kvs) (k := key) (v := u)
      rw [r.length] at this
      unfold lim at hlen
      unfold sizeLine; omega
    · refine List.nodup_cons.mpr ⟨fun hm => (sub a hm).elim nOr nOn, ndO (List.nodup_cons.mp nd).2 ndn fun b hb hb' => ?_⟩
      obtain ⟨o, q⟩ := r.ex.2 b hb; rw [(fn b hb').2] at q; cases q
    · rcases List.mem_cons.mp hb with rfl | hb
      · exact ha'
      · rcases sub b hb with hb | hb
        · exact own_p3 c p4 b i (fo b (.tail _ hb))
        · exact (fn b hb).1
  rw [hout]
  exact ⟨rfl, Nx.mutate (tk := s₂.toks + 1) c e₁₂ r'' ((c.glob.ext e₁).ext e₂) hi ha ha' (.of c p4) hsb (dict_some dd') rel'⟩
end
end Mine

set_option autoImplicit false
open PySem PyProof.Rows
namespace Mine
set_option linter.unusedVariables false

noncomputable def TgtOK (C : Cfg) (Γ : Sc) (l : Nat) (t : Expr) (upd : List Slot → D → Option (List Slot)) : Prop :=
  ∀ (A : Around) (S : Fs) (own : Addr → Option Nat) (env : Env) (ρ : List Slot) (s : Shared) (v : Value) (d : D) (ρ' : List Slot), SCx C Γ l A S own env ρ s → RepC C s.heap (fun a => ¬ (S.fx own).vol a) v d → upd ρ d = some ρ' →
    Wp C A (assign t env v) (fun _ s' => ExtV C S.loca s s' ∧ RelS C S own s'.heap ρ') s
noncomputable def putN (i : Nat) : List Slot → D → Option (List Slot) := fun ρ d => some (put ρ i (.val 0 d))
section
variable {C : Cfg} {Γ : Sc} {l : Nat} {A : Around} {S : Fs} {own : Addr → Option Nat} {env : Env} {ρ ρ' : List Slot} {s s' s'' : Shared} {d d' : D} {rf : Bool} {e : Expr} {f : EEnv → Option D} {m : EEnv → Mk} {g : List Slot → Option Out} {ss : List Stmt}
theorem SCx.step (c : SCx C Γ l A S own env ρ s) (x : ExtV C S.loca s s') (r : RelS C S own s'.heap ρ') : SCx C Γ l A S own env ρ' s' := c.of r (locA_glob c.cx x)
theorem tgt_name {x : Str} {p : Pos} {i : Nat} (hx : Γ.slots.lookup x = some i) : TgtOK C Γ l (.Name x p) (putN i) := by
  intro A S own env ρ s v d ρ' c rv hu
  cases hu
  exact wpAny_assign_Name (wpAny_mono (storeS (k := 0) c hx rv) (fun _ s₁ k => ⟨k.2.2, k.2.1⟩) fun _ _ e => e)
noncomputable def unOwn (own : Addr → Option Nat) (O : List Addr) : Addr → Option Nat := fun a => if a ∈ O then none else own a
/-- objects of no slot are let go -/
theorem RelS.drop {h h' : Heap} {O : List Addr} (r : RelS C S own h ρ) (hV : ∀ a ∈ O, ∃ n, S.locs.length ≤ n ∧ own a = some n) (k : ∀ b o, b ∉ O → h.get? b = some o → h'.get? b = some o) : RelS C S (unOwn own O) h' ρ := by
  have nl : ∀ lc ∈ S.locs, lc.addr ∉ O := fun lc hl v => by
    obtain ⟨n, _, q⟩ := hV _ v; exact (r.ownx _ n q).2.1 ⟨lc, hl, rfl⟩
  have kl : ∀ lc ∈ S.locs, ∀ o, h.get? lc.addr = some o → h'.get? lc.addr = some o := fun lc hl o => k _ o (nl lc hl)
  have kv : ∀ a o, ¬ (S.fx own).vol a → h.get? a = some o → h'.get? a = some o := fun a o n => k a o fun v => by
    obtain ⟨i, _, q⟩ := hV a v; exact n (.inr (.inr (by rw [q]; exact fun z => by cases z)))
  have no : ∀ a i, i < S.locs.length → own a = some i → a ∉ O := fun a i hi ho v => by
    obtain ⟨n, hn, q⟩ := hV a v; rw [ho] at q; cases q; omega
  have vv : ∀ a, ¬ (S.fx own).vol a → ¬ (S.fx (unOwn own O)).vol a := fun a n q => by
    rcases q with q | q | q
    · exact n (.inl q)
    · exact n (.inr (.inl q))
    · unfold unOwn at q; split at q
      · exact q rfl
      · exact n (.inr (.inr q))
  refine ⟨r.ok, fun a o q => ?_, fun lc hl => (r.locex lc hl).kept (kl lc hl), r.len, fun a i ho => ?_, fun i d q => ?_, fun i kk d q => ?_, fun i j key q => ?_⟩
  · obtain ⟨o', z⟩ := r.hbx a o q
    exact ⟨o', k a o' (fun hm => by obtain ⟨n, _, w⟩ := hV a hm; rw [(r.ownx a n w).1] at q; cases q) z⟩
  · unfold unOwn at ho
    split at ho
    · cases ho
    · rename_i hm
      obtain ⟨h1, h2, o, h3⟩ := r.ownx a i ho; exact ⟨h1, h2, o, k a o hm h3⟩
  · obtain ⟨lc, v, h1, h2, h3⟩ := r.slot0 i d q
    exact ⟨lc, v, h1, h2.kept (kl lc (List.mem_of_getElem? h1)), h3.trans vv kv⟩
  · obtain ⟨lc, v, O', h1, h2, h3, h4, h5⟩ := r.tree i kk d q
    have hi := (List.getElem?_eq_some_iff.mp h1).1
    exact ⟨lc, v, O', h1, h2.kept (kl lc (List.mem_of_getElem? h1)), h3.trans vv kv fun a ha o => k a o (no a i hi (h5 a ha)), h4, fun a ha => (if_neg (no a i hi (h5 a ha))).trans (h5 a ha)⟩
  · obtain ⟨lc, lj, a, v, kvs, h1, h2, h3, h4, h5, h6, h7⟩ := r.place i j key q
    have hj := (List.getElem?_eq_some_iff.mp h3).1
    exact ⟨lc, lj, a, v, kvs, h1, h2.kept (kl lc (List.mem_of_getElem? h1)), h3, h4.kept (kl lj (List.mem_of_getElem? h3)), DictOf.at h5 fun o => k a o (no a j hj h7), h6, (if_neg (no a j hj h7)).trans h7⟩
theorem mut_glob (c : SCx C Γ l A S own env ρ s) (e : ExtV C (S.mut own) s s') : GlobOK C s'.heap := by
  have nx : ∀ b, (∃ o, S.hb.get? b = some o) → ¬ S.mut own b := fun b ⟨o, z⟩ q => by
    rcases q with ⟨lc, hl, rfl⟩ | ⟨i, hi, w⟩
    · rw [c.rel.ok.loc lc hl] at z; cases z
    · rw [(c.rel.ownx b i w).1] at z; cases z
  exact c.glob.extV e (fun a o k => nx a (c.rel.ok.bK a o k).2) (nx 3 (c.rel.ok.blow 3 (.inr (.inr rfl))).2) (nx 0 (c.rel.ok.blow 0 (.inl rfl)).2) (nx 2 (c.rel.ok.blow 2 (.inr (.inl rfl))).2)
/-! loops -/
noncomputable def forL (upd : List Slot → D → Option (List Slot)) (g : List Slot → Option Out) : List D → List Slot → Option Out
  | [], ρ => some (.next ρ)
  | x :: xs, ρ => (upd ρ x).bind fun ρ₁ => (g ρ₁).bind fun o => o.bind (forL upd g xs)
noncomputable def forG (tt : Bool) (f : EEnv → Option D) (m : EEnv → Mk) (upd : List Slot → D → Option (List Slot)) (g : List Slot → Option Out) : List Slot → Option Out := fun ρ =>
  (f (view ρ)).bind fun d => d.items.bind fun ds => if ((m (view ρ)).cl d && (!tt || d.isL)) = true then forL upd g ds ρ else none
set_option genInjectivity false in
inductive ForI (C : Cfg) (S : Fs) (own : Addr → Option Nat) (upd : List Slot → D → Option (List Slot)) (g : List Slot → Option Out) (ds : List D) (wr : List Addr) (St : Nat → Heap → Prop) (out : Out) (s₁ : Shared) (n : Nat) (s' : Shared) : Prop
  | mk (j : Nat) (ρj : List Slot) (ownj : Addr → Option Nat) : j ≤ ds.length → n = ds.length + 1 - j → St j s'.heap → RelS C S ownj s'.heap ρj → GlobOK C s'.heap → ExtV C (S.mut own) s₁ s' → OwnStep S own s₁ ownj → (∀ b ∈ wr, ownj b = some S.locs.length) → forL upd g (ds.drop j) ρj = some out → ForI C S own upd g ds wr St out s₁ n s'
theorem s_for {t : Expr} {p : Pos} {tt : Bool} {upd : List Slot → D → Option (List Slot)} (y : EvOK C Γ l e f m) (ht : TgtOK C Γ l t upd) (htg : ∀ b, (!tt || b) = true → tgtOK b t = true) (x : SOK C Γ l rf ss g) (hs : ∀ env x, foldedSetIterable e env x = pure x) :
    StOK C Γ l rf (.For t e ss [] p) (forG tt f m upd g) := by
  intro A S own env ρ s out c h
  obtain ⟨di, h₁, h⟩ := Option.bind_eq_some_iff.mp h
  obtain ⟨ds, h₂, h⟩ := Option.bind_eq_some_iff.mp h
  split at h
  case isFalse => cases h
  rename_i hg
  obtain ⟨hg1, hg2⟩ := Bool.and_eq_true_iff.mp hg
  refine wpAny_For (y.run c.cx h₁ fun v s₁ e₁ c₁ r₁ => ?_) (hs env)
  have r2 := ((r₁.clean c.cx.rel.hv hg1).ex).two h₂
  refine wpAny_mono (iter_ok r2 h₂ c.room.1) (fun it s₂ k => ?_) fun _ _ e => e
  obtain ⟨e₂, I, fp, wr, P, St, rfl, W, st, hwr, hfp, hlt, hP, hlet, hex, hlen⟩ := k
  have cs₁ := c.ext e₁
  have wT : ∀ b ∈ wr, ¬ C.T b := fun b hb t => by obtain ⟨o, q⟩ := cs₁.glob.tdom b t; rw [hwr b hb] at q; cases q
  have wK : ∀ b o, C.K.lookup b = some o → b ∉ wr := fun b o k hb => by have := cs₁.glob.inK b o k; rw [hwr b hb] at this; cases this
  have wlow : ∀ b : Nat, b = 0 ∨ b = 2 ∨ b = 3 → b ∉ wr := fun b hb hm => by
    obtain ⟨o', z⟩ := (c.rel.ok.blow _ hb).2
    obtain ⟨o'', z'⟩ := cs₁.rel.hbx _ _ z
    rw [hwr _ hm] at z'; cases z'
  -- the frame's facts: all is reckoned from s₁
  suffices H : codeAny (model C.prog C.w) A (.forLoop t (.ref I) ss [] env) (fun r s' => ∃ fl, r = .ok fl ∧ SPost C S own s₁ rf out fl s') s₂ from codeAny_mono H fun r s' q => by
    obtain ⟨fl, rfl, q⟩ := q
    exact q.pre e₁
  refine codeAny_forLoop_any (ForI C S own upd g ds wr St out s₁) ?_ (ds.length + 1)
    ⟨0, ρ, setOwn own wr S.locs.length, Nat.zero_le _, rfl, st, cs₁.rel.give e₂ hwr (hex 0 _ st), cs₁.glob.ext e₂, e₂.v, OwnStep.of cs₁ (fun a ⟨o, z⟩ => if_neg fun hm => by rw [hwr a hm] at z; cases z), fun b hb => if_pos hb, h⟩
  rintro n s' ⟨j, ρj, ownj, hj, rfl, stj, rel', glob', ext', step', tag', hfl⟩
  have fpK : ∀ b ∈ fp, ¬ C.T b ∧ ¬ S.mut ownj b ∧ (b ∈ wr ∨ b ∉ wr) := fun b hb => by
    refine ⟨fun t => ?_, fun q => ?_, Classical.em _⟩
    · rcases hfp b hb with z | z
      · exact wT b z t
      · exact z.1 (.inl (c.rel.ok.bT b t))
    · rcases hfp b hb with z | z
      · rcases q with q | ⟨i, hi, q⟩
        · exact (rel'.ownx b _ (tag' b z)).2.1 q
        · rw [tag' b z] at q; cases q; omega
      · rcases mut_old step'.p1 b q with w | w
        · rcases w with w | ⟨i, hi, w⟩
          · exact z.1 (.inr (.inl w))
          · exact z.1 (.inr (.inr (by rw [w]; exact fun z => by cases z)))
        · obtain ⟨o, y⟩ := z.2; rw [w] at y; cases y
  have turn : ∀ (hi : Heap) (tk : Nat), (∀ b o, b ∉ wr → s'.heap.get? b = some o → hi.get? b = some o) → (∀ b ∈ wr, ∃ o, hi.get? b = some o) → RelS C S ownj hi ρj ∧ GlobOK C hi ∧ ExtV C (S.mut own) s₁ { s' with heap := hi, toks := tk } := by
    intro hi tk hki hexi
    have x₁ : ExtV C (· ∈ wr) s' { s' with heap := hi, toks := tk } := extV_of glob' (fun b hb => wT b hb) (fun b o k hb => wK b o k hb) hki hexi
    refine ⟨rel'.turn (V := (· ∈ wr)) (fun a w => ⟨_, Nat.le_refl _, tag' a w⟩) hki hexi, ?_, ext'.trans x₁ fun b hb => .inr (hwr b hb)⟩
    exact glob'.extV x₁ (fun a o k hb => wK a o k hb) (wlow 3 (.inr (.inr rfl))) (wlow 0 (.inl rfl)) (wlow 2 (.inr (.inl rfl)))
  by_cases hlt' : j < ds.length
  · refine W.item j s' _ _ hlt' stj fun v hi tk hPv sti hki => ?_
    obtain ⟨rel1, glob1, ext1⟩ := turn hi tk hki (hex _ _ sti)
    generalize hs1 : ({ s' with heap := hi, toks := tk } : Shared) = sa at ext1 ⊢
    have hha : sa.heap = hi := by rw [← hs1]
    rw [← hha] at sti rel1 glob1
    refine hlet t v _ sa A _ _ (htg _ hg2) sti ?_
    obtain ⟨dv, hdv, rdv⟩ := hP j v hPv
    have hdrop : ds.drop j = dv :: ds.drop (j + 1) := by
      have := List.drop_eq_getElem_cons hlt'
      rw [this]
      rw [List.getElem?_eq_getElem hlt'] at hdv
      cases hdv; rfl
    rw [hdrop] at hfl
    obtain ⟨ρ₁, hup, hfl⟩ := Option.bind_eq_some_iff.mp hfl
    obtain ⟨o₁, ho₁, hfl⟩ := Option.bind_eq_some_iff.mp hfl
    have ca : SCx C Γ l A S ownj env ρj sa := c.of rel1 glob1
    have keepN : ∀ a, (¬ (S.fx own).vol a ∧ ∃ o, s₁.heap.get? a = some o) → ¬ (S.fx ownj).vol a ∧ ¬ S.mut own a := fun a q => by
      refine ⟨fun z => ?_, fun z => ?_⟩
      · rcases z with z | z | z
        · exact q.1 (.inl z)
        · exact q.1 (.inr (.inl z))
        · obtain ⟨i, hi⟩ := Option.ne_none_iff_exists'.mp z
          obtain ⟨o, y⟩ := q.2
          rcases Nat.lt_or_ge i S.locs.length with hl | hl
          · rcases step'.p1 a i hl hi with ⟨i', _, w⟩ | w
            · exact q.1 (.inr (.inr (by rw [w]; exact fun z => by cases z)))
            · rw [w] at y; cases y
          · rcases step'.p3 a i hl hi with w | w
            · exact q.1 (.inr (.inr (by rw [w]; exact fun z => by cases z)))
            · rw [w] at y; cases y
      · rcases z with z | ⟨i, _, w⟩
        · exact q.1 (.inr (.inl z))
        · exact q.1 (.inr (.inr (by rw [w]; exact fun z => by cases z)))
    have rdv' : RepC C sa.heap (fun a => ¬ (S.fx ownj).vol a) v dv := by
      refine rdv.trans (fun a q => (keepN a q).1) fun a o q z => ext1.keep a o (fun t => q.1 (.inl (c.rel.ok.bT a t))) (keepN a q).2 z
    refine wpAny_mono (wpAny_mono (ht A S ownj env ρj sa v dv ρ₁ ca rdv' hup) (fun _ sb kb => kb) fun _ _ e => e) (fun _ sb kb => ?_) fun _ _ e => e.elim
    obtain ⟨x₂, rel2⟩ := kb
    have cb : SCx C Γ l A S ownj env ρ₁ sb := ca.step x₂ rel2
    have ext2 : ExtV C (S.mut own) s₁ sb := ext1.trans x₂ fun b hb => .inl (.inl hb)
    have stb : St (j + 1) sb.heap := W.frame _ _ _ sti fun b hb o q => x₂.keep b o (fpK b hb).1 (fun z => (fpK b hb).2.1 (.inl z)) q
    refine wpAny_mono (x A S ownj env ρ₁ sb o₁ cb ho₁) (fun fl sc kc => ?_) fun _ _ e => e.elim
    cases o₁ with
    | next ρ₂ =>
      obtain ⟨rfl, own₂, rel3, glob3, ext3, step3⟩ := kc
      refine ⟨ds.length + 1 - (j + 1), Nat.sub_lt_sub_left (Nat.lt_succ_of_lt hlt') (Nat.lt_succ_self j), j + 1, ρ₂, own₂, hlt', rfl, ?_, rel3, glob3, ext2.trans ext3 (mut_old step'.p1), step'.trans step3 fun a z => ext2.none z, fun b hb => step3.p2 b _ (Nat.le_refl _) (tag' b hb), hfl⟩
      exact W.frame _ _ _ stb fun b hb o q => ext3.keep b o (fpK b hb).1 (fpK b hb).2.1 q
    | ret dr =>
      cases hfl
      obtain ⟨vr, rfl, ext3, rv, hr⟩ := kc
      exact ⟨_, rfl, vr, rfl, ext2.trans ext3 (mut_old step'.p1), rv, hr⟩
  · obtain rfl : j = ds.length := Nat.le_antisymm hj (Nat.not_lt.mp hlt')
    refine W.done s' _ _ stj fun hi tk hki => ?_
    rw [List.drop_length] at hfl
    cases hfl
    have old : ∀ b o, s₁.heap.get? b = some o → b ∉ wr := fun b o q hm => by rw [hwr b hm] at q; cases q
    have extF : ExtV C (S.mut own) s₁ { s' with heap := hi, toks := tk } := by
      refine ⟨fun b o t n q => hki b o (old b o q) (ext'.keep b o t n q), fun b o q => ?_, fun t => vol_tab (V := (· ∈ wr)) wT wK hki (ext'.tab t), ext'.gens, ext'.os⟩
      obtain ⟨o', z⟩ := ext'.dom b o q
      exact ⟨o', hki b o' (old b o q) z⟩
    refine wpAny_execs_nil ⟨_, rfl, rfl, unOwn ownj wr, rel'.drop (fun a ha => ⟨_, Nat.le_refl _, tag' a ha⟩) hki, mut_glob cs₁ extF, extF, ⟨fun a i hl q => ?_, fun a n hn q => ?_, fun a n hn q => ?_⟩⟩
    · unfold unOwn at q
      split at q
      · cases q
      · exact step'.p1 a i hl q
    · have := step'.p2 a n hn q
      unfold unOwn
      rw [if_neg]
      · exact this
      · intro hm
        obtain ⟨o, z⟩ := (cs₁.rel.ownx a n q).2.2
        exact old a o z hm
    · unfold unOwn at q
      split at q
      · cases q
      · exact step'.p3 a n hn q
end
end Mine

set_option autoImplicit false
open PySem PyProof.Rows
namespace Mine
set_option linter.unusedVariables false

section
variable {C : Cfg} {Γ : Sc} {l : Nat} {A : Around} {S : Fs} {own own' : Addr → Option Nat} {env : Env} {ρ ρ' : List Slot} {s s' s'' : Shared} {d d' : D} {rf : Bool} {e : Expr} {f : EEnv → Option D} {m : EEnv → Mk} {g : List Slot → Option Out} {ss : List Stmt}
noncomputable def whileL (b : EEnv → Option Bool) (g : List Slot → Option Out) : Nat → List Slot → Option Out
  | 0, _ => none
  | n + 1, ρ => (b (view ρ)).bind fun r => if r then (g ρ).bind fun o => o.bind (whileL b g n) else some (.next ρ)
set_option genInjectivity false in
inductive WhileI (C : Cfg) (S : Fs) (own : Addr → Option Nat) (b : EEnv → Option Bool) (g : List Slot → Option Out) (out : Out) (s : Shared) (n : Nat) (s' : Shared) : Prop
  | mk (ρn : List Slot) (ownn : Addr → Option Nat) : RelS C S ownn s'.heap ρn → GlobOK C s'.heap → ExtV C (S.mut own) s s' → OwnStep S own s ownn → whileL b g n ρn = some out → WhileI C S own b g out s n s'
theorem s_while {b : EEnv → Option Bool} {p : Pos} (n : Nat) (xb : BOK C Γ l e b) (x : SOK C Γ l rf ss g) : StOK C Γ l rf (.While e ss [] p) (whileL b g n) := by
  intro A S own env ρ s out c h
  refine wpAny_While ?_
  suffices H : codeAny (model C.prog C.w) A (.whileLoop e ss [] env) (fun r s' => ∃ fl, r = .ok fl ∧ SPost C S own s rf out fl s') s from codeAny_mono H fun r s' q => by
    obtain ⟨fl, rfl, q⟩ := q
    exact q
  refine codeAny_whileLoop (WhileI C S own b g out s) ?_ n ⟨ρ, own, c.rel, c.glob, (Ext.refl C s).v, .refl .., h⟩
  rintro n s' ⟨ρn, ownn, rel', glob', ext', step', hw⟩
  cases n with
  | zero => cases hw
  | succ n =>
    obtain ⟨r, h₁, h₂⟩ := Option.bind_eq_some_iff.mp hw
    have cn : SCx C Γ l A S ownn env ρn s' := c.of rel' glob'
    refine wpAny_mono (xb.run (Q := fun r' s₁ => Ext C s' s₁ ∧ r' = r) cn.cx h₁ fun s₁ e₁ _ => ⟨e₁, rfl⟩) (fun r' s₁ k => ?_) fun _ _ e => e.elim
    obtain ⟨e₁, rfl⟩ := k
    have c₁ := cn.ext e₁
    have ext1 : ExtV C (S.mut own) s s₁ := ext'.trans (e₁.v (V := S.mut own)) fun b q => .inl q
    cases r' with
    | true =>
      obtain ⟨o₁, h₃, h₄⟩ := Option.bind_eq_some_iff.mp h₂
      refine wpAny_mono (x A S ownn env ρn s₁ o₁ c₁ h₃) (fun fl s₂ k => ?_) fun _ _ e => e.elim
      cases o₁ with
      | next ρ₂ =>
        obtain ⟨rfl, own₂, rel3, glob3, ext3, step3⟩ := k
        exact ⟨n, Nat.lt_succ_self _, ρ₂, own₂, rel3, glob3, ext1.trans ext3 (mut_old step'.p1), step'.trans step3 fun a z => ext1.none z, h₄⟩
      | ret dr =>
        cases h₄
        obtain ⟨vr, rfl, ext3, rv, hr⟩ := k
        exact ⟨_, rfl, vr, rfl, ext1.trans ext3 (mut_old step'.p1), rv, hr⟩
    | false =>
      cases h₂
      exact wpAny_execs_nil ⟨_, rfl, rfl, ownn, c₁.rel, c₁.glob, ext1, step'⟩
/-- a slot is frozen -/
noncomputable def fz (i : Nat) (ρ : List Slot) : List Slot := match ρ[i]? with | some (.val (_ + 1) d) => put ρ i (.val 0 d) | _ => ρ
theorem ns_not_list {h : Heap} {a : Addr} {m : Str → Option Value} {vs : Array Value} (x : h.Ns a m) (y : h.PlainList a vs) : False := by
  obtain ⟨o, es, ep, e1, e2, _⟩ := x
  obtain ⟨n, e3⟩ := y
  rw [e1] at e3; cases e3; cases e2
set_option genInjectivity false in
inductive CompKeep (C : Cfg) (S : Fs) (own : Addr → Option Nat) (s s₁ : Shared) (ρ : List Slot) (i k : Nat) (Ca : Addr) (v : Value) (d : D) : Prop
  | mk (own₂ : Addr → Option Nat) : RelS C S own₂ s₁.heap ρ → (∀ a, (∃ o, s.heap.get? a = some o) → own₂ a = own a) → own₂ Ca = some S.locs.length → StoreOK C S own₂ s₁.heap i k v d → CompKeep C S own s s₁ ρ i k Ca v d
theorem comp_keep {s₁ : Shared} {i k : Nat} {Ca : Addr} {v : Value} {outs : List D} (c : SCx C Γ l A S own env ρ s) (e₁ : Ext C s s₁) (frC : s.heap.get? Ca = none) (hns : ∃ m, s₁.heap.Ns Ca m) (rv : MkRep C ((S.fx own).plus [] (· = Ca)) s.heap s₁.heap (.own 1) v (.list outs)) (hk : k ≤ 1) : CompKeep C S own s s₁ ρ i k Ca v (.list outs) := by
  have hdl : D.cont (.list outs) = true := rfl
  obtain ⟨O, t, nd, fr⟩ := rv
  have nC : Ca ∉ O := by
    cases t with
    | fz q _ => rw [hdl] at q; cases q
    | list pl _ r =>
      obtain rfl := r.none0
      intro hm
      have := List.mem_singleton.mp hm
      subst this
      obtain ⟨m, hm⟩ := hns
      exact ns_not_list hm pl
  obtain ⟨O', hO0, hO1, O'sub⟩ : ∃ O' : List Addr, (k = 0 → O' = []) ∧ (k = 1 → O' = O) ∧ ∀ a ∈ O', a ∈ O := by
    by_cases hk0 : k = 0
    · exact ⟨[], fun _ => rfl, fun q => by omega, fun a ha => by cases ha⟩
    · exact ⟨O, fun q => by omega, fun _ => rfl, fun a ha => ha⟩
  let own₂ : Addr → Option Nat := setOwn (setOwn own O' i) [Ca] S.locs.length
  have p4 : ∀ a, (∃ o, s.heap.get? a = some o) → own₂ a = own a := fun a ⟨o, z⟩ => by
    show setOwn (setOwn own O' i) [Ca] S.locs.length a = own a
    unfold setOwn
    rw [if_neg, if_neg]
    · intro hm; rw [fr a (O'sub a hm)] at z; cases z
    · intro hm; rw [List.mem_singleton.mp hm, frC] at z; cases z
  have hC2 : own₂ Ca = some S.locs.length := if_pos (List.mem_singleton.mpr rfl)
  have r₂ : RelS C S own₂ s₁.heap ρ := by
    refine c.rel.give' e₁ p4 fun a q => ?_
    have q' : setOwn (setOwn own O' i) [Ca] S.locs.length a ≠ none := q
    unfold setOwn at q'
    split at q'
    · rename_i hm
      obtain ⟨m, o, _, _, z, _⟩ := hns
      exact ⟨o, List.mem_singleton.mp hm ▸ z⟩
    · split at q'
      · rename_i hm; exact t.ex.2 a (O'sub a hm)
      · obtain ⟨j, hj⟩ := Option.ne_none_iff_exists'.mp q'
        obtain ⟨_, _, o, z⟩ := c.rel.ownx a j hj
        exact e₁.dom a o z
  have frz : ∀ a, (¬ ((S.fx own).plus [] (· = Ca)).vol a ∧ a ∉ O) → ¬ (S.fx own₂).vol a := fun a n q => by
    rcases q with q | q | q
    · exact n.1 (.inl (.inl q))
    · exact n.1 (.inl (.inr (.inl q)))
    · have q' : setOwn (setOwn own O' i) [Ca] S.locs.length a ≠ none := q
      unfold setOwn at q'
      split at q'
      · rename_i hm; exact n.1 (.inr (List.mem_singleton.mp hm))
      · split at q'
        · rename_i hm; exact n.2 (O'sub a hm)
        · exact n.1 (.inl (.inr (.inr q')))
  have sto : StoreOK C S own₂ s₁.heap i k v (.list outs) := by
    by_cases hk0 : k = 0
    · have hO := hO0 hk0
      subst hk0
      refine t.rep frz fun a ha q => ?_
      have hf := fr a ha
      rcases q with q | q | q
      · obtain ⟨o, z⟩ := c.rel.ok.bx a q; rw [c.rel.hbNone hf] at z; cases z
      · obtain ⟨lc, hl, rfl⟩ := q; obtain ⟨o, z⟩ := (c.rel.locex lc hl).some; rw [hf] at z; cases z
      · have q' : setOwn (setOwn own O' i) [Ca] S.locs.length a ≠ none := q
        rw [hO] at q'
        unfold setOwn at q'
        split at q'
        · rename_i hm; exact nC (List.mem_singleton.mp hm ▸ ha)
        · split at q'
          · rename_i hm; cases hm
          · obtain ⟨j, hj⟩ := Option.ne_none_iff_exists'.mp q'
            obtain ⟨_, _, o, z⟩ := c.rel.ownx a j hj
            rw [hf] at z; cases z
    · have hk1 : k = 1 := by omega
      have hO := hO1 hk1
      subst hk1
      refine ⟨O, t.trans frz (fun _ _ _ z => z) fun _ _ _ z => z, nd, fun a ha => ?_⟩
      show setOwn (setOwn own O' i) [Ca] S.locs.length a = some i
      rw [hO]
      unfold setOwn
      rw [if_neg, if_pos ha]
      intro hm; exact nC (List.mem_singleton.mp hm ▸ ha)
  exact ⟨own₂, r₂, p4, hC2, sto⟩
theorem s_assign_comp {x : Str} {pp p : Pos} {i k : Nat} {elt target iter : Expr} {ifs : List Expr} {scope : Scope} {pos : Pos} {fi fe : EEnv → Option D} {mi me : EEnv → Mk} {upd : EEnv → D → Option EEnv} {bs : EEnv → Option Bool} {xs : List Str} {n : Nat} {tt : Bool} {is : List Nat}
    (hx : Γ.slots.lookup x = some i)
    (hkind : scope.kind = .function) (hchk : compChk Γ scope.names xs = true) (xi : EvOK C Γ l iter fi mi) (ht : AsgOK C (compSc Γ scope.names xs n) l target is upd) (hu : UpdOK n xs.length upd) (his : ∀ i ∈ is, n ≤ i)
    (htg : ∀ b, (!tt || b) = true → tgtOK b target = true) (hb : TestsOK C (compSc Γ scope.names xs n) l ifs bs) (he : EvOK C (compSc Γ scope.names xs n) l elt fe me) (hs : ∀ env x, foldedSetIterable iter env x = pure x)
    (hsw : ∀ env : Env, env.scope.kind = .function → env.scope.names = Γ.names → swapsWith (.ListComp elt [⟨target, iter, ifs, 0⟩] scope pos) (some (.Name x pp)) p.line env = pure true) (hk : k ≤ 1) :
    StOK C Γ l rf (.Assign [.Name x pp] (.ListComp elt [⟨target, iter, ifs, 0⟩] scope pos) p) (asgG i k (compF n xs.length tt fi mi upd bs fe me) (fun _ => .own 1)) := by
  intro A S own env ρ s out c h
  obtain ⟨d, h₁, h₂⟩ := Option.bind_eq_some_iff.mp h
  split at h₂
  case isFalse => cases h₂
  rename_i hg
  cases h₂
  rw [exec_Assign_Name_used _ _ _ _ (hsw env c.env.kind c.env.names)]
  refine wpAny_bind (wpAny_standAt (wpAny_bind ?_))
  show wpAny _ A (comprehension (.ListComp elt [⟨target, iter, ifs, 0⟩] scope pos) scope env (firstIterPos [⟨target, iter, ifs, 0⟩] pos) (newList []) false (eval iter env) (some (assign (.Name x pp) env)) >>= fun _ => pure ()) _ _ s
  refine wpAny_bind (comp_core hkind hchk xi ht hu his htg hb he hs c.cx h₁ (use := some (assign (.Name x pp) env)) (Q := fun _ s' => wpAny (model C.prog C.w) A (pure ()) (fun _ s'' => wpAny (model C.prog C.w) A (pure Flow.next) (SPost C S own s rf (.next (put ρ i (.val k d)))) (fun _ _ => False) s'') (fun _ _ => False) s') (fun q => by cases q) fun u hu v s₁ Ca e₁ frC hns rv => ?_)
  cases hu
  obtain ⟨_, _, outs, _, _, _, _, _, _, rfl⟩ := compF_inv h₁
  have hil := slot_lt c hx
  obtain ⟨own₂, r₂, p4, hC2, sto⟩ := comp_keep (i := i) c e₁ frC hns rv hk
  have c₂ : SCx C Γ l A S own₂ env ρ s₁ := c.of r₂ (c.glob.ext e₁)
  refine wpAny_assign_Name (wpAny_mono (storeS c₂ hx sto) (fun _ s₂ kk => ?_) fun _ _ e => e)
  obtain ⟨_, r₃, e₃⟩ := kk
  have nl : ¬ S.loca Ca := (r₂.ownx Ca _ hC2).2.1
  obtain ⟨mm, hmm⟩ := hns
  refine ⟨mm, Ns.kept hmm fun o => e₃.keep Ca o (r₂.ownT hC2) nl, fun h' hsb => wpAny_pure (wpAny_pure ?_)⟩
  have kk : ∀ b o, b ∉ [Ca] → s₂.heap.get? b = some o → h'.get? b = some o := fun b o hb q => hsb.extBut b o (fun z => hb (List.mem_singleton.mpr z)) q
  have r₄ := r₃.drop (O := [Ca]) (fun a ha => ⟨_, Nat.le_refl _, List.mem_singleton.mp ha ▸ hC2⟩) kk
  have old : ∀ b o, s.heap.get? b = some o → b ∉ [Ca] := fun b o q hm => by rw [List.mem_singleton.mp hm, frC] at q; cases q
  have e₁₂ : ExtV C (S.mut own) s s₂ := (e₁.v (V := S.mut own)).trans e₃ fun b q => .inl (.inl q)
  have wT : ∀ b ∈ [Ca], ¬ C.T b := fun b hb => List.mem_singleton.mp hb ▸ r₂.ownT hC2
  have wK : ∀ b o, C.K.lookup b = some o → b ∉ [Ca] := fun b o k hb => by have := c.glob.inK b o k; rw [List.mem_singleton.mp hb, frC] at this; cases this
  have extF : ExtV C (S.mut own) s { s₂ with heap := h' } := by
    refine ⟨fun b o t n q => kk b o (old b o q) (e₁₂.keep b o t n q), fun b o q => ?_, fun t => vol_tab (V := (· ∈ [Ca])) wT wK kk (e₁₂.tab t), e₁₂.gens, e₁₂.os⟩
    obtain ⟨o', z⟩ := e₁₂.dom b o q
    exact ⟨o', kk b o' (old b o q) z⟩
  refine ⟨rfl, unOwn own₂ [Ca], r₄, mut_glob c extF, extF, OwnStep.of c fun a ⟨o, z⟩ => ?_⟩
  unfold unOwn
  rw [if_neg (old a o z)]
  exact p4 a ⟨o, z⟩
end
end Mine

set_option autoImplicit false
open PySem PyProof.Rows
namespace Mine
set_option linter.unusedVariables false
/-! 1-02: further meanings -/
/-- list(str) -/
noncomputable def listS (d : D) : Option D := (toS d).bind fun x => if x.cps.size ≤ lim then some (.list (x.cps.toList.map fun c => .str ⟨#[c]⟩)) else none
/-- list.index, of strs -/
noncomputable def idxS : List Str → Str → Option Nat
  | [], _ => none
  | s :: r, x => if s = x then some 0 else (idxS r x).map (· + 1)
noncomputable def indexD (a b : D) : Option D := ((toL a).bind unStrs).bind fun ss => (toS b).bind fun x => (idxS ss x).map fun n : Nat => D.int (n : Int)
/-- equality of lists and None -/
noncomputable def eqN (a b : D) : Option Bool := dcase a (dcase b (some true) (fun _ => none) (fun _ => none) (fun _ => none) (fun _ => some false) (fun _ => none) (fun _ => none) fun _ _ _ => none) (fun _ => none) (fun _ => none) (fun _ => none)
  (fun x => dcase b (some false) (fun _ => none) (fun _ => none) (fun _ => none) (fun y => eqD 40 (.list x) (.list y)) (fun _ => none) (fun _ => none) fun _ _ _ => none) (fun _ => none) (fun _ => none) fun _ _ _ => none
/-- x is None -/
noncomputable def isN (a b : D) : Option Bool := (toN b).bind fun _ => dcase a (some true) (fun _ => some false) (fun _ => some false) (fun _ => some false) (fun _ => some false) (fun _ => some false) (fun _ => some false) fun _ _ _ => none
/-- another slot's list, taken over -/
noncomputable def moveG (i j : Nat) : List Slot → Option Out := fun ρ => (slL ρ j 1).bind fun ds => if i ≠ j then some (.next (put (put ρ j .un) i (.val 1 (.list ds)))) else none
/-- a cell of a table of tables -/
noncomputable def set2G (i : Nat) (f fk f₂ f₃ : EEnv → Option D) : List Slot → Option Out := fun ρ =>
  (slD ρ i 3).bind fun kds => ((fk (view ρ)).bind toS).bind fun key => ((kds.lookup key).bind toL).bind fun rows => ((f₂ (view ρ)).bind toI).bind fun a => ((f₃ (view ρ)).bind toI).bind fun b => (f (view ρ)).bind fun d =>
    if 0 ≤ a ∧ a ≤ lim ∧ 0 ≤ b ∧ b ≤ lim ∧ d.imm = true then (rows[a.toNat]?.bind toL).bind fun cells => if b.toNat < cells.length then some (.next (put ρ i (.val 3 (.dict (storedD kds key (.list (rows.set a.toNat (.list (cells.set b.toNat d))))))))) else none else none
end Mine

set_option autoImplicit false
open PySem PyProof.Rows
namespace Mine
set_option linter.unusedVariables false

section
variable {C : Cfg} {Γ : Sc} {l : Nat} {A : Around} {F : Fx} {env : Env} {ρ : EEnv} {s : Shared} {d : D} {e e₁ e₂ : Expr} {f f₁ f₂ : EEnv → Option D} {m m₁ m₂ : EEnv → Mk}
/-! None and lists -/
inductive EqNX : D → D → Bool → Prop
  | nn : EqNX .none .none true
  | nl (xs : List D) : EqNX .none (.list xs) false
  | ln (xs : List D) : EqNX (.list xs) .none false
  | ll (xs ys : List D) {r : Bool} : eqD 40 (.list xs) (.list ys) = some r → EqNX (.list xs) (.list ys) r
theorem eqN_inv {a b : D} {r : Bool} (h : eqN a b = some r) : EqNX a b r := by
  cases a with
  | none => cases b with
    | none => cases h; exact .nn
    | list xs => cases h; exact .nl xs
    | _ => cases h
  | list xs => cases b with
    | none => cases h; exact .ln xs
    | list ys => exact .ll xs ys h
    | _ => cases h
  | _ => cases h
theorem eqN_cmp : CmpOK C .Eq eqN := fun A l s a b d₁ d₂ r N₁ N₂ R x y q => by
  have hu : A.units < cLine := by have := R.u; omega
  cases eqN_inv q with
  | nn => obtain rfl := x.inv_none; obtain rfl := y.inv_none; exact SeqAt.RcAt.none_none C.prog C.w _ _ ⟨Ext.refl C s, rfl⟩
  | nl => obtain rfl := x.inv_none; obtain ⟨_, _, rfl, _, p, _, _⟩ := y.inv_list; exact SeqAt.RcAt.none_list p.isList hu C.prog C.w _ _ ⟨Ext.refl C s, rfl⟩
  | ln => obtain rfl := y.inv_none; obtain ⟨_, _, rfl, _, p, _, _⟩ := x.inv_list; exact SeqAt.RcAt.list_none p.isList hu C.prog C.w _ _ ⟨Ext.refl C s, rfl⟩
  | ll _ _ h => exact eq_cmp A l s a b _ _ r N₁ N₂ R x y h
theorem neN_cmp : CmpOK C .NotEq (notO eqN) := fun A l s a b d₁ d₂ r N₁ N₂ R x y q => by
  obtain ⟨r', q', rfl⟩ := Option.map_eq_some_iff.mp q
  have hu : A.units < cLine := by have := R.u; omega
  cases eqN_inv q' with
  | nn => obtain rfl := x.inv_none; obtain rfl := y.inv_none; exact SeqAt.RcNeAt.none_none C.prog C.w _ _ ⟨Ext.refl C s, rfl⟩
  | nl => obtain rfl := x.inv_none; obtain ⟨_, _, rfl, _, p, _, _⟩ := y.inv_list; exact SeqAt.RcNeAt.none_list p.isList hu C.prog C.w _ _ ⟨Ext.refl C s, rfl⟩
  | ln => obtain rfl := y.inv_none; obtain ⟨_, _, rfl, _, p, _, _⟩ := x.inv_list; exact SeqAt.RcNeAt.list_none p.isList hu C.prog C.w _ _ ⟨Ext.refl C s, rfl⟩
  | ll _ _ h => exact ne_cmp A l s a b _ _ _ N₁ N₂ R x y (by unfold notO; rw [h]; rfl)
theorem isN_same {a b : Value} {d₁ d₂ : D} {r : Bool} {h : Heap} {N₁ N₂ : Addr → Prop} (x : RepC C h N₁ a d₁) (y : RepC C h N₂ b d₂) (q : isN d₁ d₂ = some r) : plainIs a b = true ∧ (a == b) = r := by
  obtain ⟨u, hu, q⟩ := Option.bind_eq_some_iff.mp q
  cases toN_inv hu
  obtain rfl := y.inv_none
  cases x <;> cases q <;> exact ⟨rfl, rfl⟩
theorem isN_cmp : CmpOK C .Is isN := fun A l s a b d₁ d₂ r N₁ N₂ R x y q => by
  obtain ⟨h1, rfl⟩ := isN_same x y q
  exact wpAny_is_plain h1 ⟨Ext.refl C s, rfl⟩
theorem notIsN_cmp : CmpOK C .IsNot (notO isN) := fun A l s a b d₁ d₂ r N₁ N₂ R x y q => by
  obtain ⟨r', q', rfl⟩ := Option.map_eq_some_iff.mp q
  obtain ⟨h1, rfl⟩ := isN_same x y q'
  exact wpAny_isNot_plain h1 ⟨Ext.refl C s, rfl⟩
/-! list(str) -/
theorem repL_of {prog : Program} {w : World} {h : Heap} {N : Addr → Prop} {vs : List Value} {ds : List D} (hl : vs.length = ds.length) (hh : ∀ (i : Nat) v, vs[i]? = some v → ∃ d, ds[i]? = some d ∧ Rep prog w h N v d) : RepL prog w h N vs ds := by
  induction vs generalizing ds with
  | nil => cases ds with | nil => exact .nil | cons => cases hl
  | cons v vs ih =>
    cases ds with
    | nil => cases hl
    | cons d ds =>
      obtain ⟨d', h1, h2⟩ := hh 0 v rfl
      cases h1
      exact .cons h2 (ih (Nat.succ.inj hl) fun i v q => hh (i + 1) v q)
theorem listS_ok {np p : Pos} (hb : BI C Γ "list") (x : EvOK C Γ l e f m) (he : ∀ env, starEach [e] env = [(false, eval e env)]) : EvOK C Γ l (.Call (.Name "list" np) [e] [] p) (un listS f) (fun _ => .own 1) := by
  refine ⟨fun A F env ρ s d c fd => ?_⟩
  obtain ⟨d₁, h₁, fd⟩ := Option.bind_eq_some_iff.mp fd
  obtain ⟨y, hy, fd⟩ := Option.bind_eq_some_iff.mp fd
  obtain ⟨hl, rfl⟩ := ite_inv fd
  cases toS_inv hy
  refine callT c hb (T := "list") (by decide +kernel) he (fun _ => rfl) (args_cons (x.run c h₁ fun v s₁ e₁ c₁ r₁ => args_nil ?_) (he env))
  obtain ⟨t, rfl, hok⟩ := (c.weak e₁ r₁).inv_str
  refine call_list_str c.room.1 y t (fun h' tk acc' c' hk hS hit => ⟨e₁.trans (Ext.of hk), ?_⟩) (Nat.le_trans hl lim_le)
  refine own1_list (h := s₁.heap) (vs := acc'.toList) (e₁.none (fresh_size _)) (fresh_size _) ⟨c', hS⟩ (by rw [Array.length_toList, hit.1]; exact Nat.le_trans hl lim_le) (fun b o _ q => hk b o q) (repL_of ?_ fun i v q => ?_)
  · rw [Array.length_toList, hit.1, List.length_map, Array.length_toList]
  · obtain ⟨ch, u, hc, rfl⟩ := hit.2 i v (by rw [← Array.getElem?_toList]; exact q)
    refine ⟨.str ⟨#[ch]⟩, by rw [List.getElem?_map, Array.getElem?_toList, hc]; rfl, .str _ _ ?_⟩
    unfold PyData.strOk at *
    have := Array.all_eq_true.mp hok i (Array.getElem?_eq_some_iff.mp hc).1
    rw [(Array.getElem?_eq_some_iff.mp hc).2] at this
    simpa using this
/-! list.index -/
theorem idxS_at {ss : List Str} {x : Str} {j : Nat} (h : idxS ss x = some j) : ss[j]? = some x ∧ ∀ i, i < j → ss[i]? ≠ some x := by
  induction ss generalizing j with
  | nil => cases h
  | cons a r ih =>
    unfold idxS at h
    by_cases q : a = x
    · rw [if_pos q] at h; cases h; exact ⟨congrArg some q, fun i hi => absurd hi (Nat.not_lt_zero _)⟩
    · rw [if_neg q] at h
      obtain ⟨k, hk, rfl⟩ := Option.map_eq_some_iff.mp h
      obtain ⟨h1, h2⟩ := ih hk
      refine ⟨h1, fun i hi => ?_⟩
      cases i with
      | zero => exact fun z => q (Option.some.inj z)
      | succ i => exact h2 i (Nat.lt_of_succ_lt_succ hi)
theorem strs_at {vs : List Value} {ss : List Str} (x : StrsAre vs ss) {i : Nat} {v : Value} (h : vs[i]? = some v) : ∃ z u, ss[i]? = some z ∧ v = .str z u := by
  induction x generalizing i with
  | nil => cases h
  | cons y t r ih =>
    cases i with
    | zero => cases h; exact ⟨y, t, rfl, rfl⟩
    | succ i => exact ih h
theorem strs_len {vs : List Value} {ss : List Str} (x : StrsAre vs ss) : vs.length = ss.length := by
  induction x with
  | nil => rfl
  | cons y t r ih => rw [List.length_cons, List.length_cons, ih]
theorem index_ok {o e : Expr} {ap cp : Pos} (x₁ : EvOK C Γ l o f₁ m₁) (x₂ : EvOK C Γ l e f₂ m₂) (hbase : ∀ env, attributeBase o "index" env (eval o env) = eval o env) (hline : (ap.endLine == cp.line) = true) (htrees : ∀ env, backTo cp (starEach [e] env) = [(false, eval e env)]) :
    EvOK C Γ l (.Call (.Attribute o "index" ap) [e] [] cp) (bin indexD f₁ f₂) (fun _ => .fr) := by
  refine ⟨fun A F env ρ s d c fd => ?_⟩
  obtain ⟨d₁, h₁, fd⟩ := Option.bind_eq_some_iff.mp fd
  obtain ⟨d₂, h₂, fd⟩ := Option.bind_eq_some_iff.mp fd
  obtain ⟨ss, hss, fd⟩ := Option.bind_eq_some_iff.mp fd
  obtain ⟨xs, hxs, hun⟩ := Option.bind_eq_some_iff.mp hss
  obtain ⟨x, hx, fd⟩ := Option.bind_eq_some_iff.mp fd
  obtain ⟨j, hj, rfl⟩ := Option.map_eq_some_iff.mp fd
  cases toL_inv hxs
  cases toS_inv hx
  refine wpAny_Call_method (T := "list") (id := "list.index") (hbase env) (by rw [htrees env]; rfl) hline PySem.F.plainAttrs_list PySem.F.slot_list_index PySem.F.type_list_index (x₁.run c h₁ fun v₁ s₁ e₁ c₁ r₁ => ?_)
  obtain ⟨a, vs, rfl, n, pl, ln, r⟩ := (c.weak e₁ r₁).inv_list
  refine ⟨pl.isList.typeIs, fun a' e' => by cases e'; obtain ⟨n, q⟩ := pl; exact ⟨_, q, rfl⟩, ?_⟩
  rw [htrees env]
  refine PySem.P.index_list (x₂.run c₁ h₂ fun v₂ s₂ e₂ c₂ r₂ => ?_)
  obtain ⟨t, rfl, _⟩ := (c₁.weak e₂ r₂).inv_str
  obtain ⟨sa, _⟩ := r.strs hun
  obtain ⟨k1, k2⟩ := idxS_at hj
  have hlt : j < vs.length := by rw [strs_len sa]; exact (List.getElem?_eq_some_iff.mp k1).1
  obtain ⟨n2, pl2⟩ := pl.at fun o => e₂.keep a o (c.notT _ n)
  refine ⟨vs.toArray, n2, isStrOf x, j, by rw [List.size_toArray]; exact hlt, pl2, fun y hy => eq_isStrOf x t sa y (by simpa using hy), by have : vs.length ≤ 2 ^ 40 := Nat.le_trans ln (by decide); omega, ?_, fun i hi hlt' => ?_, (e₁.trans e₂).trans tok_ext, .int _ _⟩
  · obtain ⟨z, u, hz, hv⟩ := strs_at sa (List.getElem?_eq_getElem hlt)
    rw [k1] at hz; cases hz
    show isStrOf x vs[j] = true
    rw [hv]; exact beq_self_eq_true x
  · have hi' : i < vs.length := by rw [List.size_toArray] at hi; exact hi
    obtain ⟨z, u, hz, hv⟩ := strs_at sa (List.getElem?_eq_getElem hi')
    show isStrOf x vs[i] = false
    rw [hv]
    exact beq_eq_false_iff_ne.mpr fun q => k2 i hlt' (q ▸ hz)
/-! and, of three -/
theorem and3_ok {e₃ : Expr} {f₃ : EEnv → Option D} {m₃ : EEnv → Mk} {p : Pos} (x₁ : EvOK C Γ l e₁ f₁ m₁) (x₂ : EvOK C Γ l e₂ f₂ m₂) (x₃ : EvOK C Γ l e₃ f₃ m₃) : EvOK C Γ l (.BoolOp .And [e₁, e₂, e₃] p) (boolF (andB (truthB f₁) (andB (truthB f₂) (truthB f₃)))) (fun _ => .fr) := by
  refine ⟨fun A F env ρ s d c fd => ?_⟩
  obtain ⟨r, fd', rfl⟩ := Option.map_eq_some_iff.mp fd
  obtain ⟨t, h, fd⟩ := Option.bind_eq_some_iff.mp fd'
  obtain ⟨d₁, h₁, ht⟩ := Option.bind_eq_some_iff.mp h
  show wpAny _ A (do
    let v ← eval e₁ env
    standAt p
    let t ← holding [v] (truthy v)
    match BoolOp.And, t with
    | .And, false | .Or, true => pure v
    | _, _ => eval (.BoolOp .And [e₂, e₃] p) env) _ _ s
  refine wpAny_bind (x₁.run c h₁ fun v₁ s₁ e₁ c₁ r₁ => wpAny_bind (wpAny_standAt (wpAny_bind (wpAny_holding ?_))))
  have w := c.weak e₁ r₁
  obtain rfl := truth_inv ht
  obtain rfl := w.inv_bool
  refine wpAny_truthy_bool ?_
  cases t with
  | false => cases fd; exact wpAny_pure ⟨e₁, .bool _⟩
  | true => exact (and2_ok (p := p) x₂ x₃).run c₁ (d := .bool r) (by unfold boolF; rw [show (andB (truthB f₂) (truthB f₃)) ρ = some r from fd]; rfl) fun v₂ s₂ e₂ c₂ r₂ => ⟨e₁.trans e₂, MkRep.earlier (fun a q => e₁.none q) r₂⟩
end
end Mine

set_option autoImplicit false
open PySem PyProof.Rows
namespace Mine
set_option linter.unusedVariables false

section
variable {prog : Program} {w : World} {h : Heap} {N : Addr → Prop}
/-! a part of an owned tree -/
set_option genInjectivity false in
inductive FocE (prog : Program) (w : World) (h : Heap) (N : Addr → Prop) (k : Nat) (vs : List (Str × Value)) (ds : List (Str × D)) (O : List Addr) (key : Str) (d : D) : Prop
  | mk (v : Value) (O₁ : List Addr) : valueAt vs key = some v → OwnT prog w h N k v d O₁ → O₁.Nodup → (∀ a ∈ O₁, a ∈ O) →
    (∀ (h' : Heap) (c : Addr) (d' : D), c ∈ O₁ → ¬ N c → (∀ b o, N b ∨ b ∈ O → b ≠ c → h.get? b = some o → h'.get? b = some o) → OwnT prog w h' N k v d' O₁ → OwnE prog w h' N k vs (storedD ds key d') O) → FocE prog w h N k vs ds O key d
theorem OwnE.foc {k : Nat} {vs : List (Str × Value)} {ds : List (Str × D)} {O : List Addr} {key : Str} {d : D} (x : OwnE prog w h N k vs ds O) (nd : O.Nodup) (hd : ds.lookup key = some d) : FocE prog w h N k vs ds O key d := by
  induction vs generalizing ds O with
  | nil => cases x; cases hd
  | cons p vs ih =>
    cases x with
    | @cons _ y u _ du dr P P' hy t r =>
    obtain ⟨n1, n2, n3⟩ := List.nodup_append.mp nd
    rw [List.lookup_cons] at hd
    by_cases e : key = y
    · subst e
      rw [beq_self_eq_true] at hd
      cases hd
      refine ⟨u, P, by simp [valueAt], t, n1, fun a ha => List.mem_append_left _ ha, fun h' c d' hc hn hk t' => ?_⟩
      unfold storedD
      rw [if_pos rfl]
      exact .cons hy t' (r.trans (fun _ n => n) (fun a o n q => hk a o (.inl n) (fun z => hn (z ▸ n)) q) (fun a ha o q => hk a o (.inr (List.mem_append_right _ ha)) (fun z => n3 c hc a ha z.symm) q))
    · have h1 : (key == y) = false := by simpa using e
      have h2 : ¬ y = key := fun q => e q.symm
      rw [h1] at hd
      obtain ⟨v, O₁, a1, a2, a3, a4, a5⟩ := ih r n2 hd
      refine ⟨v, O₁, by simpa [valueAt, h2] using a1, a2, a3, fun a ha => List.mem_append_right _ (a4 a ha), fun h' c d' hc hn hk t' => ?_⟩
      unfold storedD
      rw [if_neg h2]
      exact .cons hy (t.trans (fun _ n => n) (fun a o n q => hk a o (.inl n) (fun z => hn (z ▸ n)) q) (fun a ha o q => hk a o (.inr (List.mem_append_left _ ha)) (fun z => n3 a ha c (a4 c hc) z) q)) (a5 h' c d' hc hn (fun b o q => hk b o (q.imp id (List.mem_append_right _))) t')
set_option genInjectivity false in
inductive FocL (prog : Program) (w : World) (h : Heap) (N : Addr → Prop) (k : Nat) (vs : List Value) (ds : List D) (O : List Addr) (i : Nat) (d : D) : Prop
  | mk (v : Value) (O₁ : List Addr) : vs[i]? = some v → OwnT prog w h N k v d O₁ → O₁.Nodup → (∀ a ∈ O₁, a ∈ O) →
    (∀ (h' : Heap) (c : Addr) (d' : D), c ∈ O₁ → ¬ N c → (∀ b o, N b ∨ b ∈ O → b ≠ c → h.get? b = some o → h'.get? b = some o) → OwnT prog w h' N k v d' O₁ → OwnL prog w h' N k vs (ds.set i d') O) → FocL prog w h N k vs ds O i d
theorem OwnL.foc {k : Nat} {vs : List Value} {ds : List D} {O : List Addr} {i : Nat} {d : D} (x : OwnL prog w h N k vs ds O) (nd : O.Nodup) (hd : ds[i]? = some d) : FocL prog w h N k vs ds O i d := by
  induction vs generalizing ds O i with
  | nil => cases x; cases hd
  | cons u vs ih =>
    cases x with
    | @cons _ _ _ du dr P P' t r =>
    obtain ⟨n1, n2, n3⟩ := List.nodup_append.mp nd
    cases i with
    | zero =>
      cases hd
      exact ⟨u, P, rfl, t, n1, fun a ha => List.mem_append_left _ ha, fun h' c d' hc hn hk t' => .cons t' (r.trans (fun _ n => n) (fun a o n q => hk a o (.inl n) (fun z => hn (z ▸ n)) q) (fun a ha o q => hk a o (.inr (List.mem_append_right _ ha)) (fun z => n3 c hc a ha z.symm) q))⟩
    | succ i =>
      obtain ⟨v, O₁, a1, a2, a3, a4, a5⟩ := ih r n2 hd
      exact ⟨v, O₁, a1, a2, a3, fun a ha => List.mem_append_right _ (a4 a ha), fun h' c d' hc hn hk t' => .cons (t.trans (fun _ n => n) (fun a o n q => hk a o (.inl n) (fun z => hn (z ▸ n)) q) (fun a ha o q => hk a o (.inr (List.mem_append_left _ ha)) (fun z => n3 a ha c (a4 c hc) z) q)) (a5 h' c d' hc hn (fun b o q => hk b o (q.imp id (List.mem_append_right _))) t')⟩
set_option genInjectivity false in
inductive OwnLX (prog : Program) (w : World) (h : Heap) (N : Addr → Prop) (k : Nat) (v : Value) (ds : List D) (O : List Addr) : Prop
  | mk (a : Addr) (vs : List Value) (O' : List Addr) : v = .ref a → O = a :: O' → h.PlainList a vs.toArray → vs.length ≤ sizeLine → OwnL prog w h N k vs ds O' → OwnLX prog w h N k v ds O
theorem OwnT.inv_list {k : Nat} {v : Value} {ds : List D} {O : List Addr} (x : OwnT prog w h N (k + 1) v (.list ds) O) : OwnLX prog w h N k v ds O := by
  cases x with
  | fz q _ => cases q
  | list p l r => exact ⟨_, _, _, rfl, rfl, p, l, r⟩
theorem RepL.set {vs : List Value} {ds : List D} (x : RepL prog w h N vs ds) (i : Nat) {v : Value} {d : D} (r : Rep prog w h N v d) : RepL prog w h N (vs.set i v) (ds.set i d) := by
  induction vs generalizing ds i with
  | nil => cases x; exact .nil
  | cons u vs ih =>
    cases x with
    | cons a rs =>
      cases i with
      | zero => exact .cons r rs
      | succ i => exact .cons a (ih rs i)
end
section
variable {C : Cfg} {Γ : Sc} {l : Nat} {A : Around} {S : Fs} {own : Addr → Option Nat} {env : Env} {ρ ρ' : List Slot} {s s' s'' : Shared} {d d' : D} {rf : Bool} {e : Expr} {f fk f₂ f₃ : EEnv → Option D} {m : EEnv → Mk}
/-! a slot's list goes over to another slot -/
noncomputable def reOwn (own : Addr → Option Nat) (j i : Nat) : Addr → Option Nat := fun a => if own a = some j then some i else own a
theorem reOwn_ne {i j : Nat} {a : Addr} : reOwn own j i a ≠ none ↔ own a ≠ none := by
  unfold reOwn
  by_cases h : own a = some j
  · rw [if_pos h, h]; exact ⟨(fun _ q => nomatch q), (fun _ q => nomatch q)⟩
  · rw [if_neg h]
theorem reOwn_other {i j k : Nat} {a : Addr} (h : own a = some k) (hk : k ≠ j) : reOwn own j i a = some k := by
  unfold reOwn
  rw [if_neg fun q => hk (Option.some.inj (h.symm.trans q)), h]
theorem RelS.moved {h : Heap} {i j : Nat} (r : RelS C S own h ρ) (hj : j < ρ.length) : RelS C S (reOwn own j i) h (put ρ j .un) := by
  have vv : ∀ a, ¬ (S.fx own).vol a → ¬ (S.fx (reOwn own j i)).vol a := fun a n q => q.elim (fun z => n (.inl z)) fun z => z.elim (fun z => n (.inr (.inl z))) fun z => n (.inr (.inr (reOwn_ne.mp z)))
  have ox : ∀ a k, reOwn own j i a = some k → ∃ k', own a = some k' := fun a k q => Option.ne_none_iff_exists'.mp (reOwn_ne.mp (by rw [q]; exact fun z => nomatch z))
  refine ⟨r.ok, r.hbx, r.locex, by simp [put, r.len], fun a k ho => let ⟨k', q⟩ := ox a k ho; r.ownx a k' q, fun k dk q => ?_, fun k kk dk q => ?_, fun k jj key q => ?_⟩
  · rcases getElem_put q hj with ⟨rfl, e⟩ | ⟨hji, y, hy, e⟩
    · cases e
    · cases y with
      | un => cases e
      | val k' d' =>
        cases e
        obtain ⟨lj, u, h1, h2, h3⟩ := r.slot0 k _ hy
        exact ⟨lj, u, h1, h2, h3.trans vv fun _ _ _ z => z⟩
      | pl a b => simp only [clr] at e; split at e <;> exact Slot.noConfusion e
  · rcases getElem_put q hj with ⟨rfl, e⟩ | ⟨hji, y, hy, e⟩
    · cases e
    · cases y with
      | un => cases e
      | val k' d' =>
        cases e
        obtain ⟨lj, u, O, h1, h2, h3, h4, h5⟩ := r.tree k _ _ hy
        exact ⟨lj, u, O, h1, h2, h3.trans vv (fun _ _ _ z => z) fun _ _ _ z => z, h4, fun a ha => reOwn_other (h5 a ha) hji⟩
      | pl a b => simp only [clr] at e; split at e <;> exact Slot.noConfusion e
  · rcases getElem_put q hj with ⟨rfl, e⟩ | ⟨hji, y, hy, e⟩
    · cases e
    · cases y with
      | un => cases e
      | val k' d' => cases e
      | pl a b =>
        simp only [clr] at e
        split at e
        · exact Slot.noConfusion e
        · rename_i hai
          obtain ⟨rfl, rfl⟩ := Slot.pl.inj e
          obtain ⟨l1, l2, a, u, kvs, h1, h2, h3, h4, h5, h6, h7⟩ := r.place k jj key hy
          exact ⟨l1, l2, a, u, kvs, h1, h2, h3, h4, h5, h6, reOwn_other h7 hai⟩
theorem s_move {x y : Str} {xp yp p : Pos} {i j : Nat} (hx : Γ.slots.lookup x = some i) (hy : Γ.slots.lookup y = some j) (hd : (y == ("__debug__" : Str)) = false)
    (hs : ∀ env : Env, env.scope.names = Γ.names → swapsWith (.Name y yp) (some (.Name x xp)) p.line env = pure false) : StOK C Γ l rf (.Assign [.Name x xp] (.Name y yp) p) (moveG i j) := by
  intro A S own env ρ s out c h
  obtain ⟨ds, hds, h⟩ := Option.bind_eq_some_iff.mp h
  obtain ⟨hij, rfl⟩ := ite_inv h
  have hρ := slL_inv hds
  obtain ⟨lc, a, vs, O, hl, hv, pl, ln, r, nd, fo⟩ := c.rel.treeL hρ
  have hj : j < ρ.length := (List.getElem?_eq_some_iff.mp hρ).1
  have rm : RelS C S (reOwn own j i) s.heap (put ρ j .un) := c.rel.moved hj
  have vv : ∀ a, ¬ (S.fx own).vol a → ¬ (S.fx (reOwn own j i)).vol a := fun a n q => q.elim (fun z => n (.inl z)) fun z => z.elim (fun z => n (.inr (.inl z))) fun z => n (.inr (.inr (reOwn_ne.mp z)))
  have sto : StoreOK C S (reOwn own j i) s.heap i 1 (.ref a) (.list ds) := ⟨a :: O, .list pl ln (r.trans vv (fun _ _ _ z => z) fun _ _ _ z => z), nd, fun b hb => if_pos (fo b hb)⟩
  refine wpAny_Assign_Name (name_raw c hy hd hl hv ?_) (hs env c.env.names)
  refine wpAny_mono (storeS (c.of rm c.glob) hx sto) (fun _ s₂ k => ?_) fun _ _ e => e
  obtain ⟨⟨o', k1, k2, k3, k4⟩, kr, ke⟩ := k
  have hil : i < S.locs.length := slot_lt c hx
  have hjl : j < S.locs.length := slot_lt c hy
  refine ⟨rfl, reOwn own j i, kr, k2, ke.mono fun b q => .inl q, ⟨fun b n hn q => ?_, fun b n hn q => ?_, fun b n hn q => ?_⟩⟩
  · unfold reOwn at q
    by_cases z : own b = some j
    · exact .inl ⟨j, hjl, z⟩
    · rw [if_neg z] at q; exact .inl ⟨n, hn, q⟩
  · exact reOwn_other q (by omega)
  · unfold reOwn at q
    by_cases z : own b = some j
    · rw [if_pos z] at q; cases q; omega
    · rw [if_neg z] at q; exact .inl q
/-! a cell of a table of tables -/
set_option genInjectivity false in
inductive Set2X (i : Nat) (f fk f₂ f₃ : EEnv → Option D) (ρ : List Slot) (out : Out) : Prop
  | mk (kds : List (Str × D)) (key : Str) (rows cells : List D) (a b : Int) (d : D) : ρ[i]? = some (.val 3 (.dict kds)) → fk (view ρ) = some (.str key) → kds.lookup key = some (.list rows) → f₂ (view ρ) = some (.int a) → f₃ (view ρ) = some (.int b) → f (view ρ) = some d → (0 ≤ a ∧ a ≤ lim ∧ 0 ≤ b ∧ b ≤ lim ∧ d.imm = true) → rows[a.toNat]? = some (.list cells) → b.toNat < cells.length →
    out = .next (put ρ i (.val 3 (.dict (storedD kds key (.list (rows.set a.toNat (.list (cells.set b.toNat d)))))))) → Set2X i f fk f₂ f₃ ρ out
theorem int_inv {o : Option D} {k : Int} (h : o.bind toI = some k) : o = some (.int k) := by
  obtain ⟨d, hd, h⟩ := Option.bind_eq_some_iff.mp h
  rw [hd, toI_inv h]
theorem list_inv {o : Option D} {k : List D} (h : o.bind toL = some k) : o = some (.list k) := by
  obtain ⟨d, hd, h⟩ := Option.bind_eq_some_iff.mp h
  rw [hd, toL_inv h]
theorem set2G_inv {i : Nat} {out : Out} (h : set2G i f fk f₂ f₃ ρ = some out) : Set2X i f fk f₂ f₃ ρ out := by
  obtain ⟨kds, h1, h⟩ := Option.bind_eq_some_iff.mp h
  obtain ⟨key, h2, h⟩ := Option.bind_eq_some_iff.mp h
  obtain ⟨rows, h3, h⟩ := Option.bind_eq_some_iff.mp h
  obtain ⟨a, h4, h⟩ := Option.bind_eq_some_iff.mp h
  obtain ⟨b, h5, h⟩ := Option.bind_eq_some_iff.mp h
  obtain ⟨d, h6, h⟩ := Option.bind_eq_some_iff.mp h
  obtain ⟨h7, h⟩ := ite_inv2 h
  obtain ⟨cells, h8, h⟩ := Option.bind_eq_some_iff.mp h
  obtain ⟨h9, h⟩ := ite_inv h
  exact ⟨kds, key, rows, cells, a, b, d, slD_inv h1, key_inv h2, list_inv h3, int_inv h4, int_inv h5, h6, h7, list_inv h8, h9, h.symm⟩
theorem s_set2 {x : Str} {np p1 p2 p3 p : Pos} {i : Nat} {k1 k2 k3 : Expr} {m1 m2 m3 : EEnv → Mk} (hx : Γ.slots.lookup x = some i) (hd : (x == ("__debug__" : Str)) = false) (y : EvOK C Γ l e f m) (y1 : EvOK C Γ l k1 fk m1) (y2 : EvOK C Γ l k2 f₂ m2) (y3 : EvOK C Γ l k3 f₃ m3)
    (hs1 : ∀ o i, subscripted k1 false o i = operate [o, i] (getItem o i)) (hs2 : ∀ o i, subscripted k2 false o i = operate [o, i] (getItem o i)) (hs : ∀ env, swapsWith e (some (.Subscript (.Subscript (.Subscript (.Name x np) k1 p1) k2 p2) k3 p3)) p.line env = pure false) :
    StOK C Γ l rf (.Assign [.Subscript (.Subscript (.Subscript (.Name x np) k1 p1) k2 p2) k3 p3] e p) (set2G i f fk f₂ f₃) := by
  intro A S own env ρ s out c h
  obtain ⟨kds, key, rows, cells, a, b, d, hρ, hkey, hrow, ha2, hb3, h₁, ⟨ha0, hal, hb0, hbl, himm⟩, hcell, hblt, hout⟩ := set2G_inv h
  obtain ⟨lc, a0, kvs, Or, hl, hv, ne, dd, ln, r, nd, fo⟩ := c.rel.treeD hρ
  obtain ⟨ndA, ndO⟩ := List.nodup_cons.mp nd
  obtain ⟨v1, O1, q1, t1, nd1, sub1, back1⟩ := r.foc ndO hrow
  obtain ⟨r0, vs2, O2, rfl, rfl, pl2, ln2, rr2⟩ := t1.inv_list
  obtain ⟨v2, O3, q2, t2, nd2, sub2, back2⟩ := rr2.foc (List.nodup_cons.mp nd1).2 hcell
  obtain ⟨c0, vs3, O4, rfl, rfl, pl3, ln3, rr3⟩ := t2.inv_list
  obtain rfl := rr3.none0
  have c0in : c0 ∈ Or := sub1 c0 (.tail _ (sub2 c0 (.head _)))
  have hi : i < S.locs.length := slot_lt c hx
  have hoc : own c0 = some i := fo c0 (.tail _ c0in)
  have hoT : ∀ b ∈ a0 :: Or, ¬ C.T b := fun b hb => c.rel.ownT (fo b hb)
  refine wpAny_Assign_Subscript (y.run c.cx h₁ fun u s₁ e₁ c₁ r₁ => ?_) (hs env)
  have cc := c.ext e₁
  refine Subscript_ (Subscript_ (name_raw cc hx hd hl (hv.kept fun o => e₁.keep _ o (c.rel.ok.locT (List.mem_of_getElem? hl))) (y1.run cc.cx hkey fun kv s₂ e₂ c₂ r₂ => ?_)))
  obtain ⟨t, rfl, hok⟩ := (cc.cx.weak e₂ r₂).inv_str
  have e₁₂ := e₁.trans e₂
  have dd₂ := DictOf.at dd fun o => e₁₂.keep a0 o (hoT a0 (.head _))
  refine tail_any dd₂.typeIs slot_dict_getitem.lookup (wpAny_getItem_of (strKind_is _ _ _ _) dd₂.mapOf q1 ?_) (hs1 _ _)
  have e₁₃ := e₁₂.trans (tok_ext (n := s₂.toks + 1))
  refine y2.run (c.ext e₁₃).cx ha2 fun iv s₃ e₃ c₃ r₃ => ?_
  obtain ⟨t2, rfl⟩ := ((c.ext e₁₃).cx.weak e₃ r₃).inv_int
  have e₁₄ := e₁₃.trans e₃
  have pl2₄ : s₃.heap.PlainList r0 vs2.toArray := pl2.at fun o => e₁₄.keep r0 o (hoT r0 (.tail _ (sub1 r0 (.head _))))
  refine tail_any pl2₄.isList.typeIs slot_list_getitem.lookup (wpAny_getItem_list pl2₄.isList ha0 (by unfold lim at hal; omega) (by simpa using q2) ?_) (hs2 _ _)
  refine y3.run (c.ext e₁₄).cx hb3 fun jv s₄ e₄ c₄ r₄ => ?_
  obtain ⟨t3, rfl⟩ := ((c.ext e₁₄).cx.weak e₄ r₄).inv_int
  have ee := e₁₄.trans e₄
  obtain ⟨n3, pl3₄⟩ : s₄.heap.PlainList c0 vs3.toArray := pl3.at fun o => ee.keep c0 o (hoT c0 (.tail _ c0in))
  have hlt3 : b.toNat < vs3.length := by rw [rr3.length]; exact hblt
  refine PySem.W.ki_setAt (n := n3) pl3₄ hb0 (by unfold lim at hbl; omega) (by rw [List.size_toArray]; omega) ?_
  have pl' : (s₄.heap.update c0 (Obj.mapSeq (·.setIfInBounds b.toNat u))).PlainList c0 (vs3.set b.toNat u).toArray := by
    have := IsL.update (f := (·.setIfInBounds b.toNat u)) pl3₄
    rw [List.setIfInBounds_toArray] at this
    exact ⟨_, this⟩
  have hsb : ∀ b', b' ≠ c0 → (s₄.heap.update c0 (Obj.mapSeq (·.setIfInBounds b.toNat u))).get? b' = s₄.heap.get? b' := fun b' hb => Heap.get?_update_other _ _ (Ne.symm hb)
  generalize s₄.heap.update c0 (Obj.mapSeq (·.setIfInBounds b.toNat u)) = h' at pl' hsb ⊢
  have nN : ¬ ¬ (S.fx own).vol c0 := fun n => n (.inr (.inr (by rw [hoc]; exact fun z => nomatch z)))
  have kN : ∀ b' o, ¬ (S.fx own).vol b' → s.heap.get? b' = some o → h'.get? b' = some o := fun b' o n q => (hsb b' fun z => nN (z ▸ n)).trans (ee.keep b' o (fun t => n (.inl (c.rel.ok.bT b' t))) q)
  have kk : ∀ b' o, (¬ (S.fx own).vol b') ∨ b' ∈ Or → b' ≠ c0 → s.heap.get? b' = some o → h'.get? b' = some o := fun b' o hb hn q => (hsb b' hn).trans (ee.keep b' o (hb.elim (fun n t => n (.inl (c.rel.ok.bT b' t))) fun hm => hoT b' (.tail _ hm)) q)
  have t2' : OwnT C.prog C.w h' (fun a => ¬ (S.fx own).vol a) 1 (.ref c0) (.list (cells.set b.toNat d)) [c0] := by
    refine .list pl' (by rw [List.length_set]; exact ln3) (OwnL.of0 ((rr3.zero.trans (fun _ n => n) kN).set _ (Rep.ofImm himm (c.cx.weak e₁ r₁))))
  have l2' := back2 h' c0 _ (.head _) nN (fun b' o hb => kk b' o (hb.imp id fun hm => sub1 b' (.tail _ hm))) t2'
  have hr0 : r0 ≠ c0 := fun z => (List.nodup_cons.mp nd1).1 (z ▸ sub2 c0 (.head _))
  have t1' : OwnT C.prog C.w h' (fun a => ¬ (S.fx own).vol a) 2 (.ref r0) (.list (rows.set a.toNat (.list (cells.set b.toNat d)))) (r0 :: O2) := .list (pl2.at fun o => kk r0 o (.inr (sub1 r0 (.head _))) hr0) ln2 l2'
  have ha0c : a0 ≠ c0 := fun z => ndA (z ▸ c0in)
  have t0' : OwnT C.prog C.w h' (fun a => ¬ (S.fx own).vol a) 3 (.ref a0) (.dict (storedD kds key (.list (rows.set a.toNat (.list (cells.set b.toNat d)))))) (a0 :: Or) :=
    .dict ne (DictOf.at dd fun o q => (hsb a0 ha0c).trans (ee.keep a0 o (hoT a0 (.head _)) q)) ln (back1 h' c0 _ (.tail _ (sub2 c0 (.head _))) nN (fun b' o hb => kk b' o hb) t1')
  have re := c.rel.ext ee
  rw [hout]
  exact ⟨rfl, Nx.mutate (tk := s₄.toks) c ee re (c.glob.ext ee) hi hoc hoc (.refl ..) hsb (plain_some pl') (re.mutate hl (hv.kept fun o => ee.keep _ o (c.rel.ok.locT (List.mem_of_getElem? hl))) hoc hsb (plain_some pl') t0' nd fo)⟩
end
end Mine

set_option autoImplicit false
open PySem PyProof.Rows
namespace Mine
set_option linter.unusedVariables false

noncomputable def varsOf (names : List (Str × NameKind)) : List Str := (names.filter fun p => p.2 == .local || p.2 == .cell).map (·.1)
noncomputable def fnSc (names : List (Str × NameKind)) : Sc := { names := names, slots := (varsOf names).zipIdx }
noncomputable def fnChk (names : List (Str × NameKind)) (ps : List Str) : Bool :=
  decide ((varsOf names).Nodup) && (varsOf names).take ps.length == ps && (varsOf names).all fun x => names.lookup x == some .local || names.lookup x == some .cell
noncomputable def ini (n : Nat) (ds : List D) : List Slot := ds.map (Slot.val 0) ++ List.replicate (n - ds.length) .un
noncomputable def fnF (n k : Nat) (G : List Slot → Option Out) (ds : List D) : Option D := if ds.length = k then (G (ini n ds)).bind fun o => match o with | .ret d => some d | .next _ => none else none

theorem bindL_not {kindOf : Str → Option NameKind} {x : Str} : ∀ {binds : List (Str × Value)} {m : Str → Option Value}, x ∉ binds.map (·.1) → bindL kindOf binds m x = m x
  | [], _, _ => rfl
  | (n, v) :: r, m, h => by
    unfold bindL
    rw [bindL_not (fun q => h (List.mem_cons_of_mem _ q))]
    split
    · exact if_neg (show ¬ x = n from fun e => h (e ▸ List.mem_cons_self))
    · rfl
theorem bindL_get {kindOf : Str → Option NameKind} {x : Str} {v : Value} (hk : kindOf x = some .local) : ∀ {binds : List (Str × Value)} {m : Str → Option Value}, (binds.map (·.1)).Nodup → (x, v) ∈ binds → bindL kindOf binds m x = some v
  | [], _, _, h => by cases h
  | (n, u) :: r, m, hn, h => by
    unfold bindL
    rw [List.map_cons, List.nodup_cons] at hn
    rcases List.mem_cons.mp h with e | h
    · cases e
      rw [bindL_not hn.1, if_pos hk]
      simp
    · exact bindL_get hk hn.2 h
theorem bindC_not {kindOf : Str → Option NameKind} {x : Str} : ∀ {binds : List (Str × Value)} {m : Str → Option Value}, x ∉ binds.map (·.1) → bindC kindOf binds m x = m x
  | [], _, _ => rfl
  | (n, v) :: r, m, h => by
    unfold bindC
    rw [bindC_not (fun q => h (List.mem_cons_of_mem _ q))]
    split
    · rfl
    · exact if_neg (show ¬ x = n from fun e => h (e ▸ List.mem_cons_self))
theorem bindC_get {kindOf : Str → Option NameKind} {x : Str} {v : Value} (hk : kindOf x ≠ some .local) : ∀ {binds : List (Str × Value)} {m : Str → Option Value}, (binds.map (·.1)).Nodup → (x, v) ∈ binds → bindC kindOf binds m x = some v
  | [], _, _, h => by cases h
  | (n, u) :: r, m, hn, h => by
    unfold bindC
    rw [List.map_cons, List.nodup_cons] at hn
    rcases List.mem_cons.mp h with e | h
    · cases e
      rw [bindC_not hn.1, if_neg hk]
      simp
    · exact bindC_get hk hn.2 h
noncomputable def locOf (names : List (Str × NameKind)) (L : Addr) (cells : List (Str × Addr)) (x : Str) : Loc := if names.lookup x = some .local then .ns L x else .cell ((cells.lookup x).getD 0)
theorem lookup_zipIdx' {xs : List Str} {i : Nat} {x : Str} (h : xs.zipIdx.lookup x = some i) : xs[i]? = some x := by
  have := (lookup_zipIdx (n := 0) h).2; simpa using this
theorem get_zip {α β : Type} : ∀ {xs : List α} {ys : List β} {i : Nat} {x : α} {y : β}, xs[i]? = some x → ys[i]? = some y → (x, y) ∈ xs.zip ys
  | [], _, i, _, _, h, _ => by simp at h
  | _ :: _, [], i, _, _, _, h => by simp at h
  | a :: xs, b :: ys, 0, x, y, h, h' => by simp at h h'; subst h; subst h'; exact List.mem_cons_self
  | a :: xs, b :: ys, i + 1, x, y, h, h' => List.mem_cons_of_mem _ (get_zip (by simpa using h) (by simpa using h'))

theorem fn_intro {C : Cfg} {fa : Addr} {o : Obj} {fd : FuncData} {body : List Stmt} {ps : List Str} {l : Nat} {rf : Bool} {G : List Slot → Option Out}
    (hK : C.K.lookup fa = some o) (hdata : o.data = .func fd) (hcd : W.codeIn C.K fd.code fd.qualname = true) (hbody : fd.body = .stmts body)
    (hbind : ∀ vals : List Value, vals.length = ps.length → bindArgs fd ⟨vals, []⟩ = pure (ps.zip vals)) (hclo : fd.closure = []) (hgl : fd.globals = mainGlobals) (hbl : fd.builtins = builtinsNs)
    (hchk : fnChk fd.scope.names ps = true) (hco : fd.scope.isCoroutine = false) (hgen : fd.scope.isGenerator = false) (hk : fd.scope.kind = .function)
    (hb : SOK C (fnSc fd.scope.names) l rf body G) : FnOK C fa (l + 1) rf (fnF (varsOf fd.scope.names).length ps.length G) := by
  intro A s vs ds d N room glob nok rvs hφ
  unfold fnF at hφ
  split at hφ
  case isFalse => cases hφ
  rename_i hlen
  obtain ⟨out, hG, hφ⟩ := Option.bind_eq_some_iff.mp hφ
  cases out with
  | next => cases hφ
  | ret d' =>
  cases hφ
  obtain ⟨hch, hall⟩ := Bool.and_eq_true_iff.mp hchk
  obtain ⟨hnd, hps⟩ := Bool.and_eq_true_iff.mp hch
  have hnd := of_decide_eq_true hnd
  have hps : (varsOf fd.scope.names).take ps.length = ps := by simpa using hps
  have hkinds : ∀ x ∈ varsOf fd.scope.names, fd.scope.names.lookup x = some .local ∨ fd.scope.names.lookup x = some .cell := fun x hx => by
    have := List.all_eq_true.mp hall x hx
    rcases Bool.or_eq_true_iff.mp this with q | q
    · exact .inl (by simpa using q)
    · exact .inr (by simpa using q)
  have hpv : ∀ x ∈ ps, x ∈ varsOf fd.scope.names := fun x hx => List.mem_of_mem_take (hps ▸ hx)
  have hvl : vs.length = ps.length := rvs.length.trans hlen
  have psnd : ps.Nodup := hps ▸ hnd.sublist (List.take_sublist _ _)
  have hmap : ((ps.zip vs).map (·.1)).Nodup := by rw [List.map_fst_zip (Nat.le_of_eq hvl.symm)]; exact psnd
  have cellSome : ∀ n x, fd.scope.names.lookup x = some .cell → ((cellsFrom n fd.scope.names []).lookup x).isSome = true := fun n x h => W.cellsFrom_some _ _ _ (.inl h)
  have In : W.Frag.In C.K s.heap := fun a o h => glob.inK a o h
  refine codeAny_call_cells (Nat.lt_of_le_of_lt (Nat.le_add_right _ _) room.2.1) (glob.inK _ _ hK) hdata glob.nolim (W.codeRec_of In hcd) hbody (hbind vs hvl) hclo (fun x hx => ?_) (fun s₁ ic => ?_) hco hgen hk
  · have := hkinds x.1 (hpv _ (List.of_mem_zip hx).1)
    exact this.imp id fun h => ⟨h, cellSome _ _ h⟩
  generalize henv : callEnvC fd s.heap.objs.size fa = env at ic ⊢
  have eL : env.locals = s.heap.objs.size := by rw [← henv]; rfl
  have eN : env.scope = fd.scope := by rw [← henv]; rfl
  have eC : env.cells = cellsFrom (s.heap.objs.size + 1) fd.scope.names [] := by rw [← henv]; rfl
  have eG : env.globals = fd.globals := by rw [← henv]; rfl
  have eB : env.builtins = fd.builtins := by rw [← henv]; rfl
  have keep : ∀ b o, s.heap.get? b = some o → s₁.heap.get? b = some o := ic.toInCall.keep
  have gone : ∀ b : Nat, s.heap.objs.size ≤ b → s.heap.get? b = none := fun b hb => by
    cases q : s.heap.get? b with
    | none => rfl
    | some o => exact absurd (Heap.lt_size q) (Nat.not_lt.mpr hb)
  have e₁ : Ext C s s₁ := by
    obtain ⟨h, tk, rfl⟩ := ic.toInCall.same
    exact Ext.of keep
  have cellAt : ∀ x, fd.scope.names.lookup x = some .cell → ∃ c, env.cells.lookup x = some c ∧ env.locals < c := fun x h => by
    obtain ⟨c, hc⟩ := Option.isSome_iff_exists.mp (cellSome (s.heap.objs.size + 1) x h)
    rw [← eC] at hc
    exact ⟨c, hc, ic.above x c (mem_of_lookup hc)⟩
  let S : Fs := { locs := (varsOf fd.scope.names).map (locOf fd.scope.names env.locals env.cells), base := fun a => ¬ N a, hb := s.heap }
  have locs_get : ∀ (i : Nat) (lc : Loc), S.locs[i]? = some lc → ∃ x, (varsOf fd.scope.names)[i]? = some x ∧ ((fd.scope.names.lookup x = some .local ∧ lc = .ns env.locals x) ∨ ∃ c, fd.scope.names.lookup x = some .cell ∧ env.cells.lookup x = some c ∧ env.locals < c ∧ lc = .cell c) := by
    intro i lc h
    have h' : ((varsOf fd.scope.names).map (locOf fd.scope.names env.locals env.cells))[i]? = some lc := h
    rw [List.getElem?_map] at h'
    obtain ⟨x, hx, rfl⟩ := Option.map_eq_some_iff.mp h'
    refine ⟨x, hx, ?_⟩
    rcases hkinds x (List.mem_of_getElem? hx) with q | q
    · exact .inl ⟨q, if_pos q⟩
    · obtain ⟨c, hc, hlt⟩ := cellAt x q
      refine .inr ⟨c, q, hc, hlt, ?_⟩
      unfold locOf
      rw [if_neg (by rw [q]; exact fun z => by cases z), hc]
      rfl
  have locs_of : ∀ (i : Nat) (x : Str), (varsOf fd.scope.names)[i]? = some x → S.locs[i]? = some (locOf fd.scope.names env.locals env.cells x) := fun i x h => by
    show ((varsOf fd.scope.names).map _)[i]? = _
    rw [List.getElem?_map, h]; rfl
  have locNone : ∀ lc ∈ S.locs, s.heap.get? lc.addr = none := fun lc hl => by
    obtain ⟨i, hi⟩ := List.mem_iff_getElem?.mp hl
    obtain ⟨x, _, ⟨_, rfl⟩ | ⟨c, _, _, hlt, rfl⟩⟩ := locs_get i lc hi
    · exact gone _ (Nat.le_of_eq eL.symm)
    · exact gone _ (Nat.le_of_lt (eL ▸ hlt))
  have kindEq : ∀ x, env.kindOf x = fd.scope.names.lookup x := fun x => by unfold Env.kindOf; rw [eN]
  have nex : ∀ a, ¬ N a → ∃ o, s.heap.get? a = some o := fun a n => by
    cases q : s.heap.get? a with
    | none => exact absurd (nok.fresh a q) n
    | some o => exact ⟨o, rfl⟩
  have fsok : FsOK C S := by
    refine ⟨fun a t n => nok.notT a n t, nex, fun a o k => ⟨fun n => n (nok.inK a o k), o, glob.inK a o k⟩, fun a ha => ⟨fun n => n (nok.low a ha), ?_⟩, locNone, ?_⟩
    · rcases ha with rfl | rfl | rfl
      · obtain ⟨o, _, _, e, _⟩ := glob.b; exact ⟨o, e⟩
      · obtain ⟨_, ⟨o, _, _, e, _⟩, _⟩ := glob.nolim; exact ⟨o, e⟩
      · obtain ⟨o, _, _, e, _⟩ := glob.g; exact ⟨o, e⟩
    · intro i j li lj hi hj hne ha
      obtain ⟨x, hx, ⟨_, rfl⟩ | ⟨c, hxc, hc, hlt, rfl⟩⟩ := locs_get i li hi <;> obtain ⟨y, hy, ⟨_, rfl⟩ | ⟨c', hyc, hc', hlt', rfl⟩⟩ := locs_get j lj hj
      · refine ⟨env.locals, x, y, rfl, rfl, fun e => hne ?_⟩
        subst e
        exact (List.getElem?_inj (List.getElem?_eq_some_iff.mp hx).1 hnd).mp (hx.trans hy.symm)
      · exact absurd ha (Nat.ne_of_lt hlt')
      · exact absurd ha (Nat.ne_of_gt hlt)
      · exfalso
        have e : c = c' := ha
        subst e
        have := name_of_addr ic.apart (mem_of_lookup hc) (mem_of_lookup hc')
        subst this
        exact hne ((List.getElem?_inj (List.getElem?_eq_some_iff.mp hx).1 hnd).mp (hx.trans hy.symm))
  have inilen : (ini (varsOf fd.scope.names).length ds).length = (varsOf fd.scope.names).length := by
    unfold ini
    have : ds.length ≤ (varsOf fd.scope.names).length := by rw [hlen, ← hps]; simp; omega
    simp; omega
  have ini_get : ∀ (i : Nat) y, (ini (varsOf fd.scope.names).length ds)[i]? = some y → y = .un ∨ ∃ di, ds[i]? = some di ∧ y = .val 0 di := by
    intro i y h
    unfold ini at h
    rw [List.getElem?_append] at h
    split at h
    · rw [List.getElem?_map] at h
      obtain ⟨di, hdi, rfl⟩ := Option.map_eq_some_iff.mp h
      exact .inr ⟨di, hdi, rfl⟩
    · rw [List.getElem?_replicate] at h
      split at h
      · cases h; exact .inl rfl
      · cases h
  have rel : RelS C S (fun _ => none) s₁.heap (ini (varsOf fd.scope.names).length ds) := by
    refine ⟨fsok, fun a o q => ⟨o, keep a o q⟩, fun lc hl => ?_, ?_, fun a i h => (by cases h), fun i di h => ?_, fun i k di h => ?_, fun i j key h => ?_⟩
    · obtain ⟨i, hi⟩ := List.mem_iff_getElem?.mp hl
      obtain ⟨x, _, ⟨_, rfl⟩ | ⟨c, _, hc, hlt, rfl⟩⟩ := locs_get i lc hi
      · exact ⟨_, ic.toInCall.ns⟩
      · exact ⟨_, ic.cell x c hc⟩
    · rw [inilen]; simp [S]
    · rcases ini_get i _ h with q | ⟨dj, hdj, q⟩
      · cases q
      · cases q
        obtain ⟨v, hv, rv⟩ := rvs.get hdj
        have hil : i < ps.length := by rw [← hlen]; exact (List.getElem?_eq_some_iff.mp hdj).1
        obtain ⟨x, hx⟩ : ∃ x, ps[i]? = some x := ⟨_, List.getElem?_eq_getElem hil⟩
        have hxv : (varsOf fd.scope.names)[i]? = some x := by
          have hx' := hx
          rw [← hps, List.getElem?_take, if_pos hil] at hx'
          exact hx'
        have hm := get_zip hx hv
        refine ⟨_, v, locs_of i x hxv, ?_, ?_⟩
        · unfold locOf
          rcases hkinds x (List.mem_of_getElem? hxv) with q | q
          · rw [if_pos q]
            exact ⟨_, ic.toInCall.ns, bindL_get ((kindEq x).trans q) hmap hm⟩
          · rw [if_neg (by rw [q]; exact fun z => by cases z)]
            obtain ⟨c, hc, _⟩ := cellAt x q
            rw [hc]
            have := ic.cell x c hc
            rw [bindC_get (kindOf := env.kindOf) (by rw [kindEq, q]; exact fun z => by cases z) hmap hm] at this
            exact this
        · refine rv.ex.trans (fun a n q => ?_) fun a o n z => keep a o z
          rcases q with q | q | q
          · exact q n.1
          · obtain ⟨lc, hl, rfl⟩ := q
            obtain ⟨o, z⟩ := n.2
            rw [locNone lc hl] at z; cases z
          · exact q rfl
    · rcases ini_get i _ h with q | ⟨dj, _, q⟩ <;> cases q
    · rcases ini_get i _ h with q | ⟨dj, _, q⟩ <;> cases q
  have envok : EnvOK (fnSc fd.scope.names) (S.fx fun _ => none) env := by
    refine ⟨by rw [eN]; exact hk, by rw [eN]; rfl, eG.trans hgl, eB.trans hbl, fun x i h => ?_⟩
    have hx : (varsOf fd.scope.names)[i]? = some x := lookup_zipIdx' h
    have hl := locs_of i x hx
    rcases hkinds x (List.mem_of_getElem? hx) with q | q
    · refine .inl ⟨?_, q⟩
      have : locOf fd.scope.names env.locals env.cells x = .ns env.locals x := if_pos q
      rw [← this]; exact hl
    · obtain ⟨c, hc, _⟩ := cellAt x q
      refine .inr ⟨c, ?_, q, hc⟩
      have : locOf fd.scope.names env.locals env.cells x = .cell c := by
        unfold locOf; rw [if_neg (by rw [q]; exact fun z => by cases z), hc]; rfl
      rw [← this]; exact hl
  have room' : Room (A.deeper env) l := by
    obtain ⟨h1, h2, h3⟩ := room
    refine ⟨h1, ?_, ?_⟩
    · show A.depth + 1 + l < _; rw [Nat.add_assoc, Nat.add_comm 1]; exact h2
    · refine Nat.lt_of_le_of_lt (Nat.add_le_add_right ?_ 200) h3
      show A.units + 3 + 10 * l ≤ A.units + 10 * (l + 1)
      rw [Nat.add_assoc, Nat.add_comm 3, Nat.mul_succ]
      exact Nat.add_le_add_left (Nat.add_le_add_left (by decide) _) _
  refine wpAny_mono (hb (A.deeper env) S _ env _ s₁ (.ret d) ⟨room', envok, rel, glob.ext e₁⟩ hG) (fun fl s' k => ?_) fun _ _ f => f.elim
  obtain ⟨v, rfl, ex, rv, hr⟩ := k
  refine ⟨v, rfl, ((e₁.v (V := S.mut fun _ => none)).trans ex fun b q => .inl q).ext fun b q => ?_, rv.trans (fun a n => Classical.not_not.mp n) fun _ _ _ z => z, hr⟩
  rcases q with ⟨lc, hl, rfl⟩ | ⟨i, _, q⟩
  · exact locNone lc hl
  · cases q
end Mine

set_option autoImplicit false
open PySem PyProof.Rows
namespace Mine
set_option linter.unusedVariables false

/-! functions of the text -/
noncomputable def dBody (p : Program) (i : Nat) : List Stmt := match p.main.body.drop i with | .FunctionDef _ _ b _ _ _ _ _ _ _ :: _ => b | _ => []
set_option genInjectivity false in
inductive HasFn (C : Cfg) (x : Str) (ps : List Str) (body : List Stmt) (names : List (Str × NameKind)) : Prop
  | mk (fa : Addr) (o : Obj) (fd : FuncData) : C.mg x = some (.ref fa) → C.K.lookup fa = some o → o.data = .func fd → W.codeIn C.K fd.code fd.qualname = true → fd.body = .stmts body → (∀ vals : List Value, vals.length = ps.length → bindArgs fd ⟨vals, []⟩ = pure (ps.zip vals)) → fd.closure = [] → fd.globals = mainGlobals → fd.builtins = builtinsNs →
    fd.scope.names = names → fd.scope.isCoroutine = false → fd.scope.isGenerator = false → fd.scope.kind = .function → HasFn C x ps body names
theorem fn_G {C : Cfg} {x : Str} {ps : List Str} {body : List Stmt} {names : List (Str × NameKind)} {l : Nat} {rf : Bool} {G : List Slot → Option Out} (h : HasFn C x ps body names) (hchk : fnChk names ps = true) (hb : SOK C (fnSc names) l rf body G) :
    FnG C x (l + 1) rf (fnF (varsOf names).length ps.length G) := by
  obtain ⟨fa, o, fd, h1, h2, h3, h4, h5, h6, h7, h8, h9, rfl, h11, h12, h13⟩ := h
  exact ⟨fa, o, fd, h1, h2, h3, fn_intro h2 h3 h4 h5 h6 h7 h8 h9 hchk h11 h12 h13 hb⟩
theorem ns_some {K : W.Frag} {h : Heap} {N : Addr} {mg : Str → Option Value} {n : Str} {v : Value} (X : W.Frag.In K h) (G : h.Ns N mg) (e : W.nsIn K N n = some (some v)) : mg n = some v := by
  obtain ⟨o, es, ep, ho, hd, _, hf⟩ := G
  unfold W.nsIn at e
  split at e
  · rename_i c d es' n' sl q
    have := X _ _ q
    rw [ho] at this
    cases this
    cases hd
    split at e
    · rename_i he
      cases e
      rw [← hf]
      unfold nsFind findBy
      rw [← Array.find?_toList, he]
      rfl
    · split at e <;> cases e
  · cases e
/-! the end -/
theorem law_end {c : W.ClaimW} {cl : Str → Option Addr} {mean : ExcName → Option Value} {args : List W.WData} {C : Cfg} {x : Str} {fa : Addr} {l : Nat} {rf : Bool} {φ : List D → Option D} {s₁ : Shared} {vals : List Value} {ds : List D} (hf : FnG C x l rf φ) (hx : C.mg x = some (.ref fa)) (hroom : Room callerA l) (glob : GlobOK C s₁.heap)
    (hT : ∀ a, ¬ C.T a) (rv : RepLC C s₁.heap (fun _ => True) vals ds) (hφ : φ ds = some (.bool true)) (hn : ∀ cls, c.raises args cls = false) (hp : c.post args (.bool true) args = true) (hg : s₁.gens = #[]) :
    wpAny (model C.prog C.w) callerA (call (.ref fa) vals) (fun v s' => W.GoodWG c cl mean args s₁ (.ok (.ret v)) s') (fun e s' => W.GoodWG c cl mean args s₁ (.error e) s') s₁ := by
  obtain ⟨fa', o, fd, h1, h2, h3, hF⟩ := hf
  rw [hx] at h1; cases h1
  refine wpAny_call (codeAny_mono (hF callerA s₁ vals ds (.bool true) (fun _ => True) hroom glob ⟨fun _ _ => trivial, fun a _ => hT a, fun _ _ _ => trivial, fun _ _ => trivial⟩ rv hφ) fun r s' q => ?_)
  obtain ⟨v, rfl, e, rv, _⟩ := q
  cases rv
  refine ⟨.inl ⟨_, .bool true, [], rfl, hn, .bool true, hp, fun _ => ⟨List.nodup_nil, fun _ h => nomatch h⟩⟩, .of_keep fun b o q => e.keep b o (hT b) q, e.os, e.gens (.of_eq hg)⟩
theorem rep_ints {C : Cfg} {h : Heap} {N : Addr → Prop} {vs : List Value} {ns : List Int} (x : W.WellAll C.w.params h vs (ns.map W.WData.int)) : RepLC C h N vs (ns.map D.int) := by
  induction ns generalizing vs with
  | nil => cases x; exact .nil
  | cons n ns ih =>
    cases x with
    | cons a r =>
      cases a
      exact .cons (.int _ _) (ih r)
theorem ofPys_ints (ns : List Int) : W.ofPys (ns.map PyData.int) = ns.map W.WData.int := by
  induction ns with
  | nil => rfl
  | cons n ns ih => simp only [List.map_cons, W.ofPys, ih]; rfl
theorem WellAll.len {P : Params} {h : Heap} {vs : List Value} {ns : List W.WData} (x : W.WellAll P h vs ns) : vs.length = ns.length := by
  induction vs generalizing ns with
  | nil => cases x; rfl
  | cons v vs ih => cases x with | cons _ r => rw [List.length_cons, List.length_cons, ih r]
theorem rep_script {C : Cfg} {h : Heap} {N : Addr → Prop} {a : Addr} {ns : List Int} (hN : N a) (hl : ns.length ≤ sizeLine) (x : W.Well C.w.params h (.ref a) (W.ofPy (.list (ns.map PyData.int)))) : RepLC C h N [.ref a] [.list (ns.map D.int)] := by
  have e : W.ofPy (.list (ns.map PyData.int)) = W.WData.list (ns.map W.WData.int) := by
    show W.WData.list (W.ofPys (ns.map PyData.int)) = _
    rw [ofPys_ints]
  rw [e] at x
  cases x with
  | list hg r => exact .cons (.list hN ⟨_, hg⟩ (by rw [WellAll.len r, List.length_map]; exact hl) (rep_ints r)) .nil
end Mine

set_option autoImplicit false
open PySem PyProof.Rows
namespace Mine
set_option linter.unusedVariables false
noncomputable def dNames (p : Program) (i : Nat) : List (Str × NameKind) := match p.main.body.drop i with | .FunctionDef _ _ _ _ _ _ sc _ _ _ :: _ => sc.names | _ => []
/-- does the store of a comprehension's value come ahead of the letting go? -/
noncomputable def swapChk (Γ : Sc) (x : Str) (pp vp : Pos) (scope : Scope) : Bool := Γ.names.lookup x == some .local && pp.line == vp.line && !(scope.names.any fun (n, k) => n == x && (k == .local || k == .cell))
theorem swap_yes {Γ : Sc} {x : Str} {pp vp : Pos} {scope : Scope} {elt : Expr} {gens : List Comprehension} {line : Nat} (h : swapChk Γ x pp vp scope = true) :
    ∀ env : Env, env.scope.kind = .function → env.scope.names = Γ.names → swapsWith (.ListComp elt gens scope vp) (some (.Name x pp)) line env = pure true := by
  intro env hk hn
  unfold swapChk at h
  have e : swapsWith (.ListComp elt gens scope vp) (some (.Name x pp)) line env = pure (env.blockKind == .function && env.kindOf x == some .local && pp.line == vp.line && !(scope.names.any fun (n, k) => n == x && (k == .local || k == .cell))) := rfl
  have hb : env.blockKind = .function := by unfold Env.blockKind; rw [hk]; rfl
  have hkx : env.kindOf x = Γ.names.lookup x := by unfold Env.kindOf; rw [hn]
  rw [e, hb, hkx]
  rw [show (ScopeKind.function == ScopeKind.function) = true from rfl, Bool.true_and, h]
theorem swap_no {Γ : Sc} {x : Str} {pp vp : Pos} {scope : Scope} {elt : Expr} {gens : List Comprehension} {line : Nat} (h : swapChk Γ x pp vp scope = false) :
    ∀ env : Env, env.scope.names = Γ.names → swapsWith (.ListComp elt gens scope vp) (some (.Name x pp)) line env = pure false := by
  intro env hn
  unfold swapChk at h
  have e : swapsWith (.ListComp elt gens scope vp) (some (.Name x pp)) line env = pure (env.blockKind == .function && env.kindOf x == some .local && pp.line == vp.line && !(scope.names.any fun (n, k) => n == x && (k == .local || k == .cell))) := rfl
  have hkx : env.kindOf x = Γ.names.lookup x := by unfold Env.kindOf; rw [hn]
  rw [e, hkx, Bool.and_assoc, Bool.and_assoc, ← Bool.and_assoc (Γ.names.lookup x == some .local), h, Bool.and_false]
end Mine

set_option autoImplicit false
open PySem PyProof.Rows
namespace Mine
set_option linter.unusedVariables false
noncomputable def cfgOf (prog : Program) (w : World) (K : W.Frag) (mg mb : Str → Option Value) : Cfg where
  prog := prog
  w := w
  K := K
  mg := mg
  mb := mb
  T := fun _ => False
  TB := fun _ => True
  hK := fun _ _ _ h => h
  hTg := fun h => h
  hTb := fun h => h
  hTs := fun h => h
  hTB := fun _ _ _ h => h
theorem glob_of {prog : Program} {w : World} {K : W.Frag} {mg mb : Str → Option Value} {h : Heap} (KX : W.Frag.In K h) (g : h.Ns mainGlobals mg) (b : h.Ns builtinsNs mb) (bi : ∀ x : Str, x ≠ "__name__" → mb x = bootBuiltins x) (nolim : h.NoLimit) : GlobOK (cfgOf prog w K mg mb) h :=
  ⟨KX, g, b, bi, nolim, trivial, fun _ h => h.elim⟩
theorem has_fn {prog : Program} {w : World} {K : W.Frag} {mg mb : Str → Option Value} {h : Heap} {x : Str} {ps : List Str} {body : List Stmt} {names : List (Str × NameKind)} {fa : Addr} {o : Obj} {fd : FuncData} (KX : W.Frag.In K h) (g : h.Ns mainGlobals mg) (h1 : W.nsIn K mainGlobals x = some (some (.ref fa))) (h2 : K.lookup fa = some o) (h3 : o.data = .func fd)
    (h4 : W.codeIn K fd.code fd.qualname = true) (h5 : fd.body = .stmts body) (h6 : ∀ vals : List Value, vals.length = ps.length → bindArgs fd ⟨vals, []⟩ = pure (ps.zip vals)) (h7 : fd.closure = []) (h8 : fd.globals = mainGlobals) (h9 : fd.builtins = builtinsNs) (h10 : fd.scope.names = names)
    (h11 : fd.scope.isCoroutine = false) (h12 : fd.scope.isGenerator = false) (h13 : fd.scope.kind = .function) : HasFn (cfgOf prog w K mg mb) x ps body names :=
  ⟨fa, o, fd, ns_some KX g h1, h2, h3, h4, h5, h6, h7, h8, h9, h10, h11, h12, h13⟩
theorem bind1 {fd : FuncData} {a : Str} (h : ∀ v, bindArgs fd ⟨[v], []⟩ = pure [(a, v)]) (vals : List Value) (hl : vals.length = [a].length) : bindArgs fd ⟨vals, []⟩ = pure ([a].zip vals) := by
  obtain ⟨v, rfl⟩ := List.length_eq_one_iff.mp hl
  exact h v
theorem bind2 {fd : FuncData} {a b : Str} (h : ∀ v u, bindArgs fd ⟨[v, u], []⟩ = pure [(a, v), (b, u)]) (vals : List Value) (hl : vals.length = [a, b].length) : bindArgs fd ⟨vals, []⟩ = pure ([a, b].zip vals) := by
  cases vals with
  | nil => cases hl
  | cons v r =>
    obtain ⟨u, rfl⟩ := List.length_eq_one_iff.mp (show r.length = 1 from Nat.succ.inj hl)
    exact h v u
theorem bind3 {fd : FuncData} {a b c : Str} (h : ∀ v u t, bindArgs fd ⟨[v, u, t], []⟩ = pure [(a, v), (b, u), (c, t)]) (vals : List Value) (hl : vals.length = [a, b, c].length) : bindArgs fd ⟨vals, []⟩ = pure ([a, b, c].zip vals) := by
  cases vals with
  | nil => cases hl
  | cons v r =>
    cases r with
    | nil => cases hl
    | cons u r =>
      obtain ⟨t, rfl⟩ := List.length_eq_one_iff.mp (show r.length = 1 from Nat.succ.inj (Nat.succ.inj hl))
      exact h v u t
theorem bind4 {fd : FuncData} {a b c d : Str} (h : ∀ v u t s, bindArgs fd ⟨[v, u, t, s], []⟩ = pure [(a, v), (b, u), (c, t), (d, s)]) : ∀ vals : List Value, vals.length = [a, b, c, d].length → bindArgs fd ⟨vals, []⟩ = pure ([a, b, c, d].zip vals)
  | [v, u, t, s], _ => h v u t s
theorem law_fin {c : W.ClaimW} {cl : Str → Option Addr} {mean : ExcName → Option Value} {args : List W.WData} {prog : Program} {w : World} {K : W.Frag} {mg mb : Str → Option Value} {s₁ : Shared} {fa a : Addr} {l : Nat} {rf : Bool} {φ : List D → Option D} {x : Str} {ns : List Int}
    (KX : W.Frag.In K s₁.heap) (g : s₁.heap.Ns mainGlobals mg) (b : s₁.heap.Ns builtinsNs mb) (bi : ∀ x : Str, x ≠ "__name__" → mb x = bootBuiltins x) (nolim : s₁.heap.NoLimit) (hx : mg x = some (.ref fa)) (hf : FnG (cfgOf prog w K mg mb) x l rf φ) (hl : l ≤ 30)
    (wl : W.Well w.params s₁.heap (.ref a) (W.ofPy (.list (ns.map PyData.int)))) (hlen : ns.length ≤ 1000) (hφ : φ [.list (ns.map .int)] = some (.bool true)) (hn : ∀ cls, c.raises args cls = false) (hp : c.post args (.bool true) args = true) (hg : s₁.gens = #[]) :
    wpAny (model prog w) callerA (call (.ref fa) [.ref a]) (fun v s' => W.GoodWG c cl mean args s₁ (.ok (.ret v)) s') (fun e s' => W.GoodWG c cl mean args s₁ (.error e) s') s₁ := by
  refine law_end (C := cfgOf prog w K mg mb) hf hx ⟨rfl, ?_, ?_⟩ (glob_of KX g b bi nolim) (fun _ h => h) (rep_script trivial ?_ wl) hφ hn hp hg
  · have : callerA.depth + 30 < recursionLimit := by decide
    omega
  · have : callerA.units + 10 * 30 + 200 < cLine := by decide
    omega
  · unfold sizeLine; omega
end Mine

set_option autoImplicit false
open PySem PyProof.Rows
namespace Mine
set_option linter.unusedVariables false
section
variable {C : Cfg} {Γ : Sc} {l : Nat} {rf : Bool} {e : Expr} {f : EEnv → Option D} {m : EEnv → Mk}
/-! a, b = value -/
end
end Mine

set_option autoImplicit false
open PySem PyProof.Rows
namespace Mine
set_option linter.unusedVariables false
section
variable {C : Cfg} {Γ : Sc} {l : Nat} {A : Around} {S : Fs} {own : Addr → Option Nat} {env : Env} {ρ : List Slot} {s : Shared} {d : D}
theorem OwnE.look {prog : Program} {w : World} {h : Heap} {N : Addr → Prop} {k : Nat} {key : Str} {d : D} : ∀ {kvs : List (Str × Value)} {kds : List (Str × D)} {O : List Addr}, OwnE prog w h N k kvs kds O → kds.lookup key = some d → ∃ v O', valueAt kvs key = some v ∧ OwnT prog w h N k v d O' ∧ ∀ a ∈ O', a ∈ O := by
  intro kvs
  induction kvs with
  | nil => intro kds O x h; cases x; cases h
  | cons p r ih =>
    intro kds O x h
    cases x with
    | @cons _ y v _ d' kds' P P' e t rr =>
      rw [List.lookup_cons] at h
      by_cases hk : key = y
      · subst hk
        simp at h
        subst h
        exact ⟨v, P, by simp [valueAt], t, fun a ha => List.mem_append_left _ ha⟩
      · have hb : (key == y) = false := by simpa using hk
        rw [hb] at h
        obtain ⟨v', O', h1, h2, h3⟩ := ih rr h
        refine ⟨v', O', ?_, h2, fun a ha => List.mem_append_right _ (h3 a ha)⟩
        unfold valueAt at h1 ⊢
        rw [List.find?_cons]
        have : decide (y = key) = false := by simpa using Ne.symm hk
        simp only [this]
        exact h1
end
end Mine

set_option autoImplicit false
open PySem PyProof.Rows
namespace Mine
set_option linter.unusedVariables false
section
variable {C : Cfg} {Γ : Sc} {l : Nat} {rf : Bool} {e : Expr} {f : EEnv → Option D} {m : EEnv → Mk}
/-! row = table[key]: another name for an inner dict -/
end
end Mine

set_option autoImplicit false
open PySem PyProof.Rows
namespace Mine
set_option linter.unusedVariables false
section
variable {C : Cfg} {Γ : Sc} {l : Nat} {A : Around} {S : Fs} {own : Addr → Option Nat} {env : Env} {ρ : List Slot} {s : Shared} {d : D} {rf : Bool} {e : Expr} {f : EEnv → Option D} {m : EEnv → Mk}
/-- an empty dict, as deep as one likes -/
theorem dict0k_ok (k : Nat) {p : Pos} : EvOK C Γ l (.Dict [] [] p) (fun _ => some (.dict [])) (fun _ => .own (k + 1)) := by
  refine ⟨fun A F env ρ s d c fd => ?_⟩
  cases fd
  refine wpAny_Dict_empty ⟨push_ext', ?_⟩
  have hm : (s.heap.objs.size == sysModules) = false := by
    have h1 : (3 : Nat) < s.heap.objs.size := c.glob.g.lt
    show (s.heap.objs.size == (1 : Nat)) = false
    simp only [beq_eq_false_iff_ne, ne_eq]
    omega
  exact ⟨[s.heap.objs.size], .dict hm (Heap.DictOf.new _) (Nat.zero_le _) .nil, List.nodup_cons.mpr ⟨List.not_mem_nil, List.nodup_nil⟩, fun b hb => List.mem_singleton.mp hb ▸ fresh_size _⟩
/-- one place of a dict's tree, and the tree built again around it -/
theorem OwnE.focus {prog : Program} {w : World} {h : Heap} {N : Addr → Prop} {k : Nat} {pk : Str} {d : D} : ∀ {kvs : List (Str × Value)} {kds : List (Str × D)} {O : List Addr}, OwnE prog w h N k kvs kds O → kds.lookup pk = some d → O.Nodup →
    ∃ v O', valueAt kvs pk = some v ∧ OwnT prog w h N k v d O' ∧ (∀ a ∈ O', a ∈ O) ∧ O'.Nodup ∧ ∀ (h' : Heap) (N' : Addr → Prop) (d2 : D) (O2 : List Addr), (∀ a, N a → N' a) → (∀ a o, N a → h.get? a = some o → h'.get? a = some o) →
      (∀ a ∈ O, a ∉ O' → ∀ o, h.get? a = some o → h'.get? a = some o) → OwnT prog w h' N' k v d2 O2 → O2.Nodup → (∀ a ∈ O2, a ∈ O') → ∃ O3, OwnE prog w h' N' k kvs (storedD kds pk d2) O3 ∧ O3.Nodup ∧ ∀ a ∈ O3, a ∈ O := by
  intro kvs
  induction kvs with
  | nil => intro kds O x h; cases x; cases h
  | cons p r ih =>
    intro kds O x hl nd
    cases x with
    | @cons _ y v _ d' kds' P P' e t rr =>
      obtain ⟨nP, nP', dis⟩ := List.nodup_append.mp nd
      rw [List.lookup_cons] at hl
      by_cases hk : pk = y
      · subst hk
        simp at hl
        subst hl
        refine ⟨v, P, by simp [valueAt], t, fun a ha => List.mem_append_left _ ha, nP, fun h' N' d2 O2 hN kN kO t2 n2 s2 => ⟨O2 ++ P', ?_, ?_, ?_⟩⟩
        · unfold storedD
          rw [if_pos rfl]
          exact .cons e t2 (rr.trans hN kN fun a ha => kO a (List.mem_append_right _ ha) fun hp => dis a hp a ha rfl)
        · exact List.nodup_append.mpr ⟨n2, nP', fun a ha b hb q => dis a (s2 a ha) b hb q⟩
        · intro a ha
          rcases List.mem_append.mp ha with q | q
          · exact List.mem_append_left _ (s2 a q)
          · exact List.mem_append_right _ q
      · have hb : (pk == y) = false := by simpa using hk
        rw [hb] at hl
        obtain ⟨v', O', h1, h2, h3, h4, h5⟩ := ih rr hl nP'
        refine ⟨v', O', ?_, h2, fun a ha => List.mem_append_right _ (h3 a ha), h4, fun h' N' d2 O2 hN kN kO t2 n2 s2 => ?_⟩
        · unfold valueAt at h1 ⊢
          rw [List.find?_cons]
          have : decide (y = pk) = false := by simpa using Ne.symm hk
          simp only [this]
          exact h1
        · obtain ⟨O3, k1, k2, k3⟩ := h5 h' N' d2 O2 hN kN (fun a ha => kO a (List.mem_append_right _ ha)) t2 n2 s2
          refine ⟨P ++ O3, ?_, ?_, ?_⟩
          · unfold storedD
            rw [if_neg (Ne.symm hk)]
            exact .cons e (t.trans hN kN fun a ha => kO a (List.mem_append_left _ ha) fun hp => dis a ha a (h3 a hp) rfl) k1
          · exact List.nodup_append.mpr ⟨nP, k2, fun a ha b hb q => dis a ha b (k3 b hb) q⟩
          · intro a ha
            rcases List.mem_append.mp ha with q | q
            · exact List.mem_append_left _ q
            · exact List.mem_append_right _ (k3 a q)
/-! row[key] = value, where row is another name for an inner dict -/
set_option genInjectivity false in
inductive InX (C : Cfg) (S : Fs) (own : Addr → Option Nat) (h : Heap) (i j : Nat) (pk : Str) (kds ds : List (Str × D)) : Prop
  | mk (lc lj : Loc) (a b : Addr) (kvs kvb : List (Str × Value)) (Or Ob : List Addr) : S.locs[i]? = some lc → LocHas h lc (.ref b) → S.locs[j]? = some lj → LocHas h lj (.ref a) → (a == sysModules) = false → h.DictOf (PySem.strKind C.prog C.w) a kvs → kvs.length ≤ sizeLine → (a :: Or).Nodup → (∀ x ∈ a :: Or, own x = some j) →
      (b == sysModules) = false → h.DictOf (PySem.strKind C.prog C.w) b kvb → kvb.length ≤ sizeLine → OwnE C.prog C.w h (fun a => ¬ (S.fx own).vol a) 0 kvb ds Ob → (∀ x ∈ b :: Ob, x ∈ Or) → (b :: Ob).Nodup →
      (∀ (h' : Heap) (N' : Addr → Prop) (d2 : D) (O2 : List Addr), (∀ a, ¬ (S.fx own).vol a → N' a) → (∀ a o, ¬ (S.fx own).vol a → h.get? a = some o → h'.get? a = some o) → (∀ a ∈ Or, a ∉ b :: Ob → ∀ o, h.get? a = some o → h'.get? a = some o) → OwnT C.prog C.w h' N' 1 (.ref b) d2 O2 → O2.Nodup → (∀ a ∈ O2, a ∈ b :: Ob) → ∃ O3, OwnE C.prog C.w h' N' 1 kvs (storedD kds pk d2) O3 ∧ O3.Nodup ∧ ∀ a ∈ O3, a ∈ Or) → InX C S own h i j pk kds ds
theorem RelS.inner {h : Heap} {i j : Nat} {pk : Str} {kds ds : List (Str × D)} (r : RelS C S own h ρ) (hρi : ρ[i]? = some (.pl j pk)) (hρj : ρ[j]? = some (.val 2 (.dict kds))) (hlook : kds.lookup pk = some (.dict ds)) : InX C S own h i j pk kds ds := by
  obtain ⟨lc, lj, a, v, kvs, p1, p2, p3, p4, p5, p6, p7⟩ := r.place i j pk hρi
  obtain ⟨lj', a', kvs', Or, q1, q2, ne, dd, ln, re, nd, fo⟩ := r.treeD hρj
  rw [p3] at q1; cases q1
  cases q2.inj p4
  obtain rfl := dictOf_inj p5 dd
  obtain ⟨v2, O', f1, t2, f3, f4, reb⟩ := re.focus hlook (List.nodup_cons.mp nd).2
  rw [p6] at f1; cases f1
  cases t2 with
  | fz q _ => cases q
  | dict ne2 dd2 ln2 r2 => exact ⟨lc, lj, _, _, _, _, _, _, p1, p2, p3, p4, ne, dd, ln, nd, fo, ne2, dd2, ln2, r2, f3, f4, reb⟩
end
end Mine

set_option autoImplicit false
open PySem PyProof.Rows
namespace Mine
set_option linter.unusedVariables false

/-! dict displays -/
section
variable {prog : Program} {w : World} {h : Heap} {N : Addr → Prop}
theorem RepE.put {k : Str} {v : Value} {d : D} (hk : PyData.strOk k = true) (x : Rep prog w h N v d) {kvs : List (Str × Value)} {kds : List (Str × D)} (y : RepE prog w h N kvs kds) : RepE prog w h N (storedV kvs k v) (storedD kds k d) := by
  induction kvs generalizing kds with
  | nil => cases y; exact .cons hk x .nil
  | cons p kvs ih =>
    cases y with
    | cons e z rr =>
    unfold storedV storedD
    split
    · exact .cons e x rr
    · exact .cons e z (ih rr)
end
section
variable {C : Cfg} {Γ : Sc} {l : Nat} {A : Around} {F : Fx} {env : Env} {ρ : EEnv} {s : Shared} {d : D} {e e₁ e₂ e₃ k : Expr} {ks vs : List Expr} {f f₁ f₂ f₃ fk : EEnv → Option D} {m m₁ m₂ m₃ mk : EEnv → Mk} {fs : EEnv → Option (List (Str × D))} {cl : EEnv → Bool}
end
end Mine

set_option autoImplicit false
open PySem PyProof.Rows
namespace Mine
set_option linter.unusedVariables false

section
variable {C : Cfg} {Γ : Sc} {l : Nat} {A : Around} {F : Fx} {env : Env} {ρ : EEnv} {s : Shared} {d : D} {e e₁ e₂ e₃ : Expr} {f f₁ f₂ f₃ : EEnv → Option D} {m m₁ m₂ m₃ : EEnv → Mk}
end
end Mine

set_option autoImplicit false
open PySem PyProof.Rows
namespace Mine
set_option linter.unusedVariables false

/-! dicts whose values are dicts, compared in one world -/
/-- v == y answers r, in this world -/
noncomputable def EqW (C : Cfg) (A : Around) (s : Shared) (v y : Value) (r : Bool) : Prop := ∀ (E : Value → Shared → Prop) (Q : Bool → Shared → Prop), Q r s → wpAny (model C.prog C.w) A (eqBool v y) Q E s
inductive HitsW (C : Cfg) (A : Around) (s : Shared) (kb : List (Str × Value)) : List (Str × Value) → Bool → Prop
  | nil : HitsW C A s kb [] true
  | miss {k : Str} {v : Value} {r : List (Str × Value)} : valueAt kb k = none → HitsW C A s kb ((k, v) :: r) false
  | hit {k : Str} {v y : Value} {r : List (Str × Value)} {e b : Bool} : valueAt kb k = some y → EqW C A s v y e → HitsW C A s kb r b → HitsW C A s kb ((k, v) :: r) (e && b)
section
variable {C : Cfg} {A : Around} {s : Shared} {E : Value → Shared → Prop}
theorem EqW.of {v y : Value} {r : Bool} (h : PySem.SeqAt.EqAt A s v y r) : EqW C A s v y r := fun E Q q => h C.prog C.w E Q q
theorem HitsW.step {kb : List (Str × Value)} {k : Str} {v : Value} {r : List (Str × Value)} {b : Bool} (h : HitsW C A s kb ((k, v) :: r) b) : (valueAt kb k = none ∧ b = false) ∨ ∃ y e b', valueAt kb k = some y ∧ EqW C A s v y e ∧ HitsW C A s kb r b' ∧ b = (e && b') := by
  cases h with
  | miss h => exact .inl ⟨h, rfl⟩
  | hit h1 h2 h3 => exact .inr ⟨_, _, _, h1, h2, h3, rfl⟩
end
end Mine

set_option autoImplicit false
open PySem PyProof.Rows
namespace Mine
set_option linter.unusedVariables false
section
variable {C : Cfg} {A : Around} {s : Shared}
end
end Mine

set_option autoImplicit false
open PySem PyProof.Rows
namespace Mine
set_option linter.unusedVariables false
section
variable {C : Cfg} {A : Around} {s : Shared} {N N' : Addr → Prop}
variable {q : D → D → Option Bool}
end
section
variable {C : Cfg} {Γ : Sc} {l : Nat} {A : Around} {F : Fx} {env : Env} {ρ : EEnv} {s : Shared} {d : D} {e : Expr} {f : EEnv → Option D} {m : EEnv → Mk}
end
end Mine

set_option autoImplicit false
open PySem PyProof.Rows
namespace Mine
set_option linter.unusedVariables false
/-- a list of strs or ints of the text's top -/
theorem gc_list {prog : Program} {w : World} {K : W.Frag} {mg mb : Str → Option Value} {h : Heap} {x : Str} {a : Addr} {n : Nat} {vs : List Value} {ds : List D} (KX : W.Frag.In K h) (g : h.Ns mainGlobals mg) (h1 : W.nsIn K mainGlobals x = some (some (.ref a))) (h2 : K.lookup a = some { cls := .type "list", data := .seq vs.toArray n }) (hl : vs.length ≤ sizeLine)
    (h3 : ∀ h N, RepL prog w h N vs ds) : GC (cfgOf prog w K mg mb) x (.list ds) :=
  ⟨.ref a, ns_some KX g h1, fun h' k => .list ⟨_, h2⟩ ⟨n, k _ _ h2⟩ hl (h3 _ _)⟩
end Mine

set_option autoImplicit false
set_option maxRecDepth 100000
open PySem PyProof.Rows
namespace Mine
set_option linter.unusedVariables false
abbrev P : Program := PySem.Challenge.pw_pd_augur_1_02
noncomputable def d__law_tokens : D := (D.list [(D.str "a"), (D.str "b"), (D.str "a")])
noncomputable def d__law_rears : D := (D.list [(D.str ""), (D.str "a"), (D.str ""), (D.str "b"), (D.str "A"), (D.str "S")])
noncomputable def d__law_tails : D := (D.list [(D.str ""), (D.str "A"), (D.str "b"), (D.str "S"), (D.str ""), (D.str "B"), (D.str "a"), (D.str "AB"), (D.str ""), (D.str "bS")])
noncomputable def d__law_fronts : D := (D.list [(D.str "a"), (D.str ""), (D.str "A"), (D.str "b"), (D.str "aB"), (D.str "S"), (D.str "BA"), (D.str "ab"), (D.str "Sa"), (D.str "bA"), (D.str ""), (D.str "B")])
structure Laid (C : Cfg) : Prop where
  f_heads_of : HasFn C "heads_of" ["g"] (dBody P 1) (dNames P 1)
  f_replayed : HasFn C "replayed" ["g", "derivation"] (dBody P 2) (dNames P 2)
  f_places_after : HasFn C "places_after" ["body", "start", "tokens", "tables"] (dBody P 3) (dNames P 3)
  f_span_tables : HasFn C "span_tables" ["g", "tokens"] (dBody P 4) (dNames P 4)
  f_derives_from : HasFn C "derives_from" ["g", "head", "tokens"] (dBody P 5) (dNames P 5)
  f_derives : HasFn C "derives" ["g", "tokens"] (dBody P 6) (dNames P 6)
  f__law_cell : HasFn C "_law_cell" ["script", "i"] (dBody P 12) (dNames P 12)
  f__law_rules : HasFn C "_law_rules" ["script", "count", "fronts", "tails"] (dBody P 13) (dNames P 13)
  f__law_fits : HasFn C "_law_fits" ["rules", "form"] (dBody P 14) (dNames P 14)
  f__law_rewritten : HasFn C "_law_rewritten" ["rules", "steps"] (dBody P 15) (dNames P 15)
  f__law_replays : HasFn C "_law_replays" ["script"] (dBody P 16) (dNames P 16)
  f__law_words : HasFn C "_law_words" ["script"] (dBody P 17) (dNames P 17)
  f_law : HasFn C "law" ["script"] (dBody P 18) (dNames P 18)
  c__law_tokens : GC C "_law_tokens" d__law_tokens
  c__law_rears : GC C "_law_rears" d__law_rears
  c__law_tails : GC C "_law_tails" d__law_tails
  c__law_fronts : GC C "_law_fronts" d__law_fronts
  b_any : C.mg "any" = none
  b_len : C.mg "len" = none
  b_list : C.mg "list" = none
  b_range : C.mg "range" = none
noncomputable def B_heads_of_1 : List Slot → Option Out :=
  (seqG (ifG (cmpB (notO inD) (bin idxD (nameF 2) (fun _ => some (D.int 0))) (nameF 1)) (seqG (appG 1 0 (bin idxD (nameF 2) (fun _ => some (D.int 0))) (childM (nameM 2)))
  (fun ρ => some (Out.next ρ))) (fun ρ => some (Out.next ρ)))
  (fun ρ => some (Out.next ρ)))
noncomputable def G_heads_of : List Slot → Option Out :=
  (seqG (asgG 1 1 (listF (fun _ => some [])) (fun ρ => if true then Mk.own 1 else Mk.fu))
  (seqG (forG false (nameF 0) (nameM 0) (putN 2) B_heads_of_1)
  (seqG (retG true (nameF 1) (nameM 1))
  (fun ρ => some (Out.next ρ)))))
noncomputable def φ_heads_of : List D → Option D := fnF 3 1 G_heads_of
noncomputable def B_replayed_1 : List Slot → Option Out :=
  (seqG (asgG 5 0 (bin addD (nameF 5) (fun _ => some (D.int 1))) (catM (nameM 5) (fun _ => Mk.fr)))
  (fun ρ => some (Out.next ρ)))
noncomputable def B_replayed_2 : List Slot → Option Out :=
  (seqG (asgG 5 0 (fun _ => some (D.int 0)) (fun _ => Mk.fr))
  (seqG (whileL (andB (cmpB ltD (nameF 5) (un lenD (nameF 3))) (andB (cmpB (notO inD) (bin idxD (nameF 3) (nameF 5)) (nameF 2)) (fun _ => some true))) B_replayed_1 1000)
  (seqG (ifG (orB (cmpB (eqD 40) (nameF 5) (un lenD (nameF 3))) (orB (cmpB ltD (nameF 4) (fun _ => some (D.int 0))) (orB (cmpB (fun a b => leD b a) (nameF 4) (un lenD (nameF 0))) (orB (cmpB (notO (eqD 40)) (bin idxD (bin idxD (nameF 0) (nameF 4)) (fun _ => some (D.int 0))) (bin idxD (nameF 3) (nameF 5))) (fun _ => some false))))) (seqG (retG false (fun _ => some D.none) (fun _ => Mk.fr))
  (fun ρ => some (Out.next ρ))) (fun ρ => some (Out.next ρ)))
  (seqG (asgG 3 0 (bin addD (bin addD (sliceF (nameF 3) (fun _ => some none) (natF (nameF 5))) (bin idxD (bin idxD (nameF 0) (nameF 4)) (fun _ => some (D.int 1)))) (sliceF (nameF 3) (natF (bin addD (nameF 5) (fun _ => some (D.int 1)))) (fun _ => some none))) (catM (catM (copyM (nameM 3)) (childM (childM (nameM 0)))) (copyM (nameM 3))))
  (fun ρ => some (Out.next ρ))))))
noncomputable def G_replayed : List Slot → Option Out :=
  (seqG (asgG 2 0 (callF φ_heads_of (consF (nameF 0) (fun _ => some []))) (callM (fun ρ => ((nameM 0) ρ).clean && (true)) true))
  (seqG (asgG 3 0 (listF (consF (bin idxD (bin idxD (nameF 0) (fun _ => some (D.int 0))) (fun _ => some (D.int 0))) (fun _ => some []))) (fun ρ => if ((childM (childM (nameM 0))) ρ).clean && (true) then Mk.own 1 else Mk.fu))
  (seqG (forG false (nameF 1) (nameM 1) (putN 4) B_replayed_2)
  (seqG (retG false (nameF 3) (nameM 3))
  (fun ρ => some (Out.next ρ))))))
noncomputable def φ_replayed : List D → Option D := fnF 6 2 G_replayed
noncomputable def K_places_after_1 : EEnv → Option D :=
  (compF 9 1 false (nameF 4) (nameM 4) (setN 9) (fun _ => some true) (bin idxD (bin idxD (bin idxD (nameF 3) (nameF 5)) (nameF 9)) (nameF 7)) (childM (childM (childM (nameM 3)))))
noncomputable def B_places_after_1 : List Slot → Option Out :=
  (seqG (ifG (cmpB inD (nameF 5) (nameF 3)) (seqG (asgG 8 0 (un anyD K_places_after_1) (fun _ => Mk.fr))
  (fun ρ => some (Out.next ρ))) (seqG (asgG 8 0 (boolF (andB (truthB (boolF (cmpB (fun a b => ltD b a) (nameF 7) (fun _ => some (D.int 0))))) (andB (truthB (boolF (cmpB inD (bin subD (nameF 7) (fun _ => some (D.int 1))) (nameF 4)))) (truthB (boolF (cmpB (eqD 40) (bin idxD (nameF 2) (bin subD (nameF 7) (fun _ => some (D.int 1)))) (nameF 5))))))) (fun _ => Mk.fr))
  (fun ρ => some (Out.next ρ))))
  (seqG (ifG (truthB (nameF 8)) (seqG (appG 6 0 (nameF 7) (nameM 7))
  (fun ρ => some (Out.next ρ))) (fun ρ => some (Out.next ρ)))
  (fun ρ => some (Out.next ρ))))
noncomputable def B_places_after_2 : List Slot → Option Out :=
  (seqG (asgG 6 1 (listF (fun _ => some [])) (fun ρ => if true then Mk.own 1 else Mk.fu))
  (seqG (forG false (un rangeD (bin addD (un lenD (nameF 2)) (fun _ => some (D.int 1)))) (fun _ => Mk.fr) (putN 7) B_places_after_1)
  (seqG (moveG 4 6)
  (fun ρ => some (Out.next ρ)))))
noncomputable def G_places_after : List Slot → Option Out :=
  (seqG (asgG 4 1 (listF (consF (nameF 1) (fun _ => some []))) (fun ρ => if ((nameM 1) ρ).clean && (true) then Mk.own 1 else Mk.fu))
  (seqG (forG false (nameF 0) (nameM 0) (putN 5) B_places_after_2)
  (seqG (retG true (nameF 4) (nameM 4))
  (fun ρ => some (Out.next ρ)))))
noncomputable def φ_places_after : List D → Option D := fnF 9 4 G_places_after
noncomputable def K_span_tables_1 : EEnv → Option D :=
  (compFk 1 9 1 (un rangeD (bin addD (nameF 2) (fun _ => some (D.int 1)))) (fun _ => Mk.fr) (setN 9) (bin mulD (listF (consF (fun _ => some (D.bool false)) (fun _ => some []))) (bin addD (nameF 2) (fun _ => some (D.int 1)))) (copyM (fun ρ => if (Mk.fr).clean && (true) then Mk.own 1 else Mk.fu)))
noncomputable def B_span_tables_1 : List Slot → Option Out :=
  (seqG (setG 3 2 K_span_tables_1 (fun _ => Mk.own 2) (nameF 4))
  (fun ρ => some (Out.next ρ)))
noncomputable def B_span_tables_2 : List Slot → Option Out :=
  (seqG (ifG (notB (truthB (bin idxD (bin idxD (bin idxD (nameF 3) (bin idxD (nameF 7) (fun _ => some (D.int 0)))) (nameF 5)) (nameF 8)))) (seqG (set2G 3 (fun _ => some (D.bool true)) (bin idxD (nameF 7) (fun _ => some (D.int 0))) (nameF 5) (nameF 8))
  (seqG (asgG 6 0 (fun _ => some (D.bool true)) (fun _ => Mk.fr))
  (fun ρ => some (Out.next ρ)))) (fun ρ => some (Out.next ρ)))
  (fun ρ => some (Out.next ρ)))
noncomputable def B_span_tables_3 : List Slot → Option Out :=
  (seqG (forG false (callF φ_places_after (consF (bin idxD (nameF 7) (fun _ => some (D.int 1))) (consF (nameF 5) (consF (nameF 1) (consF (nameF 3) (fun _ => some [])))))) (callM (fun ρ => ((childM (nameM 7)) ρ).clean && (((nameM 5) ρ).clean && (((nameM 1) ρ).clean && (((nameM 3) ρ).clean && (true))))) true) (putN 8) B_span_tables_2)
  (fun ρ => some (Out.next ρ)))
noncomputable def B_span_tables_4 : List Slot → Option Out :=
  (seqG (forG false (un rangeD (bin addD (nameF 2) (fun _ => some (D.int 1)))) (fun _ => Mk.fr) (putN 5) B_span_tables_3)
  (fun ρ => some (Out.next ρ)))
noncomputable def B_span_tables_5 : List Slot → Option Out :=
  (seqG (asgG 6 0 (fun _ => some (D.bool false)) (fun _ => Mk.fr))
  (seqG (forG false (nameF 0) (nameM 0) (putN 7) B_span_tables_4)
  (fun ρ => some (Out.next ρ))))
noncomputable def G_span_tables : List Slot → Option Out :=
  (seqG (asgG 2 0 (un lenD (nameF 1)) (fun _ => Mk.fr))
  (seqG (asgG 3 3 (fun _ => some (D.dict [])) (fun _ => Mk.own 3))
  (seqG (forG false (callF φ_heads_of (consF (nameF 0) (fun _ => some []))) (callM (fun ρ => ((nameM 0) ρ).clean && (true)) true) (putN 4) B_span_tables_1)
  (seqG (asgG 6 0 (fun _ => some (D.bool true)) (fun _ => Mk.fr))
  (seqG (whileL (truthB (nameF 6)) B_span_tables_5 1000)
  (seqG (retG false (nameF 3) (nameM 3))
  (fun ρ => some (Out.next ρ))))))))
noncomputable def φ_span_tables : List D → Option D := fnF 9 2 G_span_tables
noncomputable def G_derives_from : List Slot → Option Out :=
  (seqG (retG false (bin idxD (bin idxD (bin idxD (callF φ_span_tables (consF (nameF 0) (consF (nameF 2) (fun _ => some [])))) (nameF 1)) (fun _ => some (D.int 0))) (un lenD (nameF 2))) (childM (childM (childM (callM (fun ρ => ((nameM 0) ρ).clean && (((nameM 2) ρ).clean && (true))) false)))))
  (fun ρ => some (Out.next ρ)))
noncomputable def φ_derives_from : List D → Option D := fnF 3 3 G_derives_from
noncomputable def G_derives : List Slot → Option Out :=
  (seqG (retG false (callF φ_derives_from (consF (nameF 0) (consF (bin idxD (bin idxD (nameF 0) (fun _ => some (D.int 0))) (fun _ => some (D.int 0))) (consF (nameF 1) (fun _ => some []))))) (callM (fun ρ => ((nameM 0) ρ).clean && (((childM (childM (nameM 0))) ρ).clean && (((nameM 1) ρ).clean && (true)))) false))
  (fun ρ => some (Out.next ρ)))
noncomputable def φ_derives : List D → Option D := fnF 2 2 G_derives
noncomputable def G__law_cell : List Slot → Option Out :=
  (seqG (ifG (cmpB ltD (nameF 1) (un lenD (nameF 0))) (seqG (retG false (bin idxD (nameF 0) (nameF 1)) (childM (nameM 0)))
  (fun ρ => some (Out.next ρ))) (fun ρ => some (Out.next ρ)))
  (seqG (retG false (nameF 1) (nameM 1))
  (fun ρ => some (Out.next ρ))))
noncomputable def φ__law_cell : List D → Option D := fnF 2 2 G__law_cell
noncomputable def B__law_rules_1 : List Slot → Option Out :=
  (seqG (asgG 6 0 (bin idxD (fun _ => some (D.str "SAB")) (bin modD (callF φ__law_cell (consF (nameF 0) (consF (bin addD (fun _ => some (D.int 2)) (nameF 5)) (fun _ => some [])))) (fun _ => some (D.int 3)))) (childM (fun _ => Mk.fr)))
  (seqG (asgG 7 0 (bin idxD (nameF 2) (bin modD (callF φ__law_cell (consF (nameF 0) (consF (bin addD (fun _ => some (D.int 6)) (nameF 5)) (fun _ => some [])))) (un lenD (nameF 2)))) (childM (nameM 2)))
  (seqG (asgG 8 0 (bin idxD (nameF 3) (bin modD (callF φ__law_cell (consF (nameF 0) (consF (bin addD (fun _ => some (D.int 10)) (nameF 5)) (fun _ => some [])))) (un lenD (nameF 3)))) (childM (nameM 3)))
  (seqG (appG 4 0 (tupF (consF (nameF 6) (consF (un listS (bin addD (nameF 7) (nameF 8))) (fun _ => some [])))) (fun ρ => if ((nameM 6) ρ).clean && ((Mk.own 1).clean && (true)) then Mk.fr else Mk.unk))
  (fun ρ => some (Out.next ρ))))))
noncomputable def G__law_rules : List Slot → Option Out :=
  (seqG (asgG 4 1 (listF (fun _ => some [])) (fun ρ => if true then Mk.own 1 else Mk.fu))
  (seqG (forG false (un rangeD (nameF 1)) (fun _ => Mk.fr) (putN 5) B__law_rules_1)
  (seqG (retG false (nameF 4) (nameM 4))
  (fun ρ => some (Out.next ρ)))))
noncomputable def φ__law_rules : List D → Option D := fnF 9 4 G__law_rules
noncomputable def K__law_fits_1 : EEnv → Option D :=
  (compF 4 1 false (nameF 0) (nameM 0) (setN 4) (fun _ => some true) (bin idxD (nameF 4) (fun _ => some (D.int 0))) (childM (nameM 4)))
noncomputable def K__law_fits_2 : EEnv → Option D :=
  (compF 4 1 false (nameF 1) (nameM 1) (setN 4) (cmpB inD (nameF 4) (nameF 2)) (nameF 4) (nameM 4))
noncomputable def K__law_fits_3 : EEnv → Option D :=
  (compF 4 1 false (un rangeD (un lenD (nameF 0))) (fun _ => Mk.fr) (setN 4) (cmpB (eqD 40) (listF (consF (bin idxD (bin idxD (nameF 0) (nameF 4)) (fun _ => some (D.int 0))) (fun _ => some []))) (sliceF (nameF 3) (fun _ => some none) (natF (fun _ => some (D.int 1))))) (nameF 4) (nameM 4))
noncomputable def G__law_fits : List Slot → Option Out :=
  (seqG (asgG 2 0 K__law_fits_1 (fun _ => Mk.own 1))
  (seqG (asgG 3 0 K__law_fits_2 (fun _ => Mk.own 1))
  (seqG (retG false K__law_fits_3 (fun _ => Mk.own 1))
  (fun ρ => some (Out.next ρ)))))
noncomputable def φ__law_fits : List D → Option D := fnF 4 2 G__law_fits
noncomputable def B__law_rewritten_1 : List Slot → Option Out :=
  (seqG (ifG (cmpB (notO inD) (nameF 3) (callF φ__law_fits (consF (nameF 0) (consF (nameF 2) (fun _ => some []))))) (seqG (retG true (fun _ => some D.none) (fun _ => Mk.fr))
  (fun ρ => some (Out.next ρ))) (fun ρ => some (Out.next ρ)))
  (seqG (asgG 4 0 (bin indexD (nameF 2) (bin idxD (bin idxD (nameF 0) (nameF 3)) (fun _ => some (D.int 0)))) (fun _ => Mk.fr))
  (seqG (asgG 2 1 (bin addD (bin addD (sliceF (nameF 2) (fun _ => some none) (natF (nameF 4))) (bin idxD (bin idxD (nameF 0) (nameF 3)) (fun _ => some (D.int 1)))) (sliceF (nameF 2) (natF (bin addD (nameF 4) (fun _ => some (D.int 1)))) (fun _ => some none))) (catM (catM (copyM (nameM 2)) (childM (childM (nameM 0)))) (copyM (nameM 2))))
  (fun ρ => some (Out.next ρ)))))
noncomputable def G__law_rewritten : List Slot → Option Out :=
  (seqG (asgG 2 1 (listF (consF (bin idxD (bin idxD (nameF 0) (fun _ => some (D.int 0))) (fun _ => some (D.int 0))) (fun _ => some []))) (fun ρ => if ((childM (childM (nameM 0))) ρ).clean && (true) then Mk.own 1 else Mk.fu))
  (seqG (forG false (nameF 1) (nameM 1) (putN 3) B__law_rewritten_1)
  (seqG (retG true (nameF 2) (nameM 2))
  (fun ρ => some (Out.next ρ)))))
noncomputable def φ__law_rewritten : List D → Option D := fnF 5 2 G__law_rewritten
noncomputable def K__law_replays_1 : EEnv → Option D :=
  (compF 12 1 false (nameF 1) (nameM 1) (setN 12) (fun _ => some true) (tupF (consF (bin idxD (nameF 12) (fun _ => some (D.int 0))) (consF (sliceF (bin idxD (nameF 12) (fun _ => some (D.int 1))) (fun _ => some none) (fun _ => some none)) (fun _ => some [])))) (fun ρ => if ((childM (nameM 12)) ρ).clean && (((copyM (childM (nameM 12))) ρ).clean && (true)) then Mk.fr else Mk.unk))
noncomputable def B__law_replays_1 : List Slot → Option Out :=
  (seqG (asgG 6 0 (callF φ__law_rewritten (consF (nameF 1) (consF (nameF 3) (fun _ => some [])))) (callM (fun ρ => ((nameM 1) ρ).clean && (((nameM 3) ρ).clean && (true))) true))
  (seqG (asgG 7 0 (sliceF (nameF 3) (fun _ => some none) (fun _ => some none)) (copyM (nameM 3)))
  (seqG (asgG 8 0 (callF φ_replayed (consF (nameF 2) (consF (nameF 7) (fun _ => some [])))) (callM (fun ρ => ((nameM 2) ρ).clean && (((nameM 7) ρ).clean && (true))) false))
  (seqG (ifG (cmpB (notO eqN) (nameF 8) (nameF 6)) (seqG (retG false (fun _ => some (D.bool false)) (fun _ => Mk.fr))
  (fun ρ => some (Out.next ρ))) (fun ρ => some (Out.next ρ)))
  (seqG (ifG (andB (cmpB isN (nameF 4) (fun _ => some D.none)) (andB (cmpB (notO isN) (nameF 8) (fun _ => some D.none)) (fun _ => some true))) (seqG (retG false (fun _ => some (D.bool false)) (fun _ => Mk.fr))
  (fun ρ => some (Out.next ρ))) (fun ρ => some (Out.next ρ)))
  (seqG (asgG 4 0 (nameF 8) (nameM 8))
  (seqG (asgG 9 0 (listF (fun _ => some [])) (fun ρ => if true then Mk.own 1 else Mk.fu))
  (seqG (ifG (cmpB (notO isN) (nameF 6) (fun _ => some D.none)) (seqG (asgG 9 0 (callF φ__law_fits (consF (nameF 1) (consF (nameF 6) (fun _ => some [])))) (callM (fun ρ => ((nameM 1) ρ).clean && (((nameM 6) ρ).clean && (true))) false))
  (seqG (ifG (andB (cmpB (eqD 40) (nameF 9) (listF (fun _ => some []))) (andB (cmpB leD (un lenD (nameF 6)) (fun _ => some (D.int 4))) (andB (cmpB (notO isD) (callF φ_derives (consF (nameF 2) (consF (nameF 8) (fun _ => some [])))) (fun _ => some (D.bool true))) (fun _ => some true)))) (seqG (retG false (fun _ => some (D.bool false)) (fun _ => Mk.fr))
  (fun ρ => some (Out.next ρ))) (fun ρ => some (Out.next ρ)))
  (fun ρ => some (Out.next ρ)))) (fun ρ => some (Out.next ρ)))
  (seqG (ifG (orB (cmpB (notO eqN) (nameF 8) (nameF 6)) (orB (cmpB (notO (eqD 40)) (nameF 7) (nameF 3)) (orB (cmpB (notO (eqD 40)) (nameF 2) (nameF 1)) (fun _ => some false)))) (seqG (retG false (fun _ => some (D.bool false)) (fun _ => Mk.fr))
  (fun ρ => some (Out.next ρ))) (fun ρ => some (Out.next ρ)))
  (seqG (asgG 10 0 (bin modD (callF φ__law_cell (consF (nameF 0) (consF (bin addD (fun _ => some (D.int 15)) (bin mulD (fun _ => some (D.int 2)) (nameF 5))) (fun _ => some [])))) (fun _ => some (D.int 6))) (fun _ => Mk.fr))
  (seqG (asgG 11 0 (callF φ__law_cell (consF (nameF 0) (consF (bin addD (fun _ => some (D.int 16)) (bin mulD (fun _ => some (D.int 2)) (nameF 5))) (fun _ => some [])))) (callM (fun ρ => ((nameM 0) ρ).clean && (((catM (fun _ => Mk.fr) (copyM (fun _ => Mk.fr))) ρ).clean && (true))) false))
  (seqG (ifG (cmpB (eqD 40) (nameF 10) (fun _ => some (D.int 0))) (seqG (appG 3 0 (nameF 11) (nameM 11))
  (fun ρ => some (Out.next ρ))) (seqG (ifG (orB (cmpB (eqD 40) (nameF 10) (fun _ => some (D.int 1))) (orB (cmpB (eqD 40) (nameF 9) (listF (fun _ => some []))) (fun _ => some false))) (seqG (appG 3 0 (bin subD (bin modD (nameF 11) (bin addD (un lenD (nameF 1)) (fun _ => some (D.int 2)))) (fun _ => some (D.int 1))) (fun _ => Mk.fr))
  (fun ρ => some (Out.next ρ))) (seqG (appG 3 0 (bin idxD (nameF 9) (bin modD (nameF 11) (un lenD (nameF 9)))) (childM (nameM 9)))
  (fun ρ => some (Out.next ρ))))
  (fun ρ => some (Out.next ρ))))
  (fun ρ => some (Out.next ρ))))))))))))))
noncomputable def G__law_replays : List Slot → Option Out :=
  (seqG (asgG 1 0 (callF φ__law_rules (consF (nameF 0) (consF (bin addD (fun _ => some (D.int 1)) (bin modD (callF φ__law_cell (consF (nameF 0) (consF (fun _ => some (D.int 1)) (fun _ => some [])))) (fun _ => some (D.int 4)))) (consF (fun _ => some d__law_fronts) (consF (fun _ => some d__law_rears) (fun _ => some [])))))) (callM (fun ρ => ((nameM 0) ρ).clean && (((catM (fun _ => Mk.fr) (fun _ => Mk.fr)) ρ).clean && ((Mk.fr).clean && ((Mk.fr).clean && (true))))) false))
  (seqG (asgG 2 0 K__law_replays_1 (fun _ => Mk.own 1))
  (seqG (asgG 3 1 (listF (fun _ => some [])) (fun ρ => if true then Mk.own 1 else Mk.fu))
  (seqG (asgG 4 0 (listF (fun _ => some [])) (fun ρ => if true then Mk.own 1 else Mk.fu))
  (seqG (forG false (un rangeD (bin addD (fun _ => some (D.int 1)) (bin modD (callF φ__law_cell (consF (nameF 0) (consF (fun _ => some (D.int 14)) (fun _ => some [])))) (fun _ => some (D.int 6))))) (fun _ => Mk.fr) (putN 5) B__law_replays_1)
  (seqG (retG false (fun _ => some (D.bool true)) (fun _ => Mk.fr))
  (fun ρ => some (Out.next ρ))))))))
noncomputable def φ__law_replays : List D → Option D := fnF 12 1 G__law_replays
noncomputable def K__law_words_1 : EEnv → Option D :=
  (compF 12 1 false (nameF 1) (nameM 1) (setN 12) (fun _ => some true) (tupF (consF (bin idxD (nameF 12) (fun _ => some (D.int 0))) (consF (sliceF (bin idxD (nameF 12) (fun _ => some (D.int 1))) (fun _ => some none) (fun _ => some none)) (fun _ => some [])))) (fun ρ => if ((childM (nameM 12)) ρ).clean && (((copyM (childM (nameM 12))) ρ).clean && (true)) then Mk.fr else Mk.unk))
noncomputable def B__law_words_1 : List Slot → Option Out :=
  (seqG (appG 3 0 (bin idxD (fun _ => some (D.str "aab")) (bin modD (callF φ__law_cell (consF (nameF 0) (consF (bin addD (fun _ => some (D.int 15)) (nameF 4)) (fun _ => some [])))) (fun _ => some (D.int 3)))) (childM (fun _ => Mk.fr)))
  (fun ρ => some (Out.next ρ)))
noncomputable def K__law_words_2 : EEnv → Option D :=
  (comp2F 12 2 (nameF 6) (nameM 6) (setN 12) (setN 13) (un rangeD (un lenD (nameF 1))) (bin addD (nameF 12) (listF (consF (nameF 13) (fun _ => some [])))) (catM (nameM 12) (fun ρ => if ((nameM 13) ρ).clean && (true) then Mk.own 1 else Mk.fu)))
noncomputable def B__law_words_2 : List Slot → Option Out :=
  (seqG (asgG 6 0 (bin addD (listF (consF (listF (fun _ => some [])) (fun _ => some []))) K__law_words_2) (catM (fun ρ => if (if true then Mk.own 1 else Mk.fu).clean && (true) then Mk.own 1 else Mk.fu) (fun _ => Mk.own 1)))
  (fun ρ => some (Out.next ρ)))
noncomputable def B__law_words_3 : List Slot → Option Out :=
  (seqG (asgG 9 0 (callF φ__law_rewritten (consF (nameF 1) (consF (nameF 7) (fun _ => some [])))) (callM (fun ρ => ((nameM 1) ρ).clean && (((nameM 7) ρ).clean && (true))) true))
  (seqG (asgG 10 0 (sliceF (nameF 7) (fun _ => some none) (fun _ => some none)) (copyM (nameM 7)))
  (seqG (ifG (orB (cmpB (notO eqN) (callF φ_replayed (consF (nameF 2) (consF (nameF 10) (fun _ => some [])))) (nameF 9)) (orB (cmpB (notO (eqD 40)) (nameF 10) (nameF 7)) (fun _ => some false))) (seqG (retG false (fun _ => some (D.bool false)) (fun _ => Mk.fr))
  (fun ρ => some (Out.next ρ))) (fun ρ => some (Out.next ρ)))
  (seqG (ifG (cmpB eqN (nameF 9) (nameF 3)) (seqG (asgG 8 0 (fun _ => some (D.bool true)) (fun _ => Mk.fr))
  (fun ρ => some (Out.next ρ))) (fun ρ => some (Out.next ρ)))
  (fun ρ => some (Out.next ρ))))))
noncomputable def G__law_words : List Slot → Option Out :=
  (seqG (asgG 1 0 (callF φ__law_rules (consF (nameF 0) (consF (bin addD (fun _ => some (D.int 1)) (bin modD (callF φ__law_cell (consF (nameF 0) (consF (fun _ => some (D.int 1)) (fun _ => some [])))) (fun _ => some (D.int 3)))) (consF (fun _ => some d__law_tokens) (consF (fun _ => some d__law_tails) (fun _ => some [])))))) (callM (fun ρ => ((nameM 0) ρ).clean && (((catM (fun _ => Mk.fr) (fun _ => Mk.fr)) ρ).clean && ((Mk.fr).clean && ((Mk.fr).clean && (true))))) false))
  (seqG (asgG 2 0 K__law_words_1 (fun _ => Mk.own 1))
  (seqG (asgG 3 1 (listF (fun _ => some [])) (fun ρ => if true then Mk.own 1 else Mk.fu))
  (seqG (forG false (un rangeD (bin idxD (listF (consF (fun _ => some (D.int 2)) (consF (fun _ => some (D.int 1)) (consF (fun _ => some (D.int 0)) (consF (fun _ => some (D.int 2)) (fun _ => some [])))))) (bin modD (callF φ__law_cell (consF (nameF 0) (consF (fun _ => some (D.int 14)) (fun _ => some [])))) (fun _ => some (D.int 4))))) (fun _ => Mk.fr) (putN 4) B__law_words_1)
  (seqG (asgG 5 0 (sliceF (nameF 3) (fun _ => some none) (fun _ => some none)) (copyM (nameM 3)))
  (seqG (asgG 6 0 (listF (consF (listF (fun _ => some [])) (fun _ => some []))) (fun ρ => if (if true then Mk.own 1 else Mk.fu).clean && (true) then Mk.own 1 else Mk.fu))
  (seqG (forG false (un rangeD (un lenD (nameF 3))) (fun _ => Mk.fr) (putN 4) B__law_words_2)
  (seqG (asgG 8 0 (fun _ => some (D.bool false)) (fun _ => Mk.fr))
  (seqG (forG false (nameF 6) (nameM 6) (putN 7) B__law_words_3)
  (seqG (asgG 11 0 (callF φ_derives (consF (nameF 2) (consF (nameF 3) (fun _ => some [])))) (callM (fun ρ => ((nameM 2) ρ).clean && (((nameM 3) ρ).clean && (true))) false))
  (seqG (ifG (andB (truthB (nameF 8)) (andB (cmpB (notO isD) (nameF 11) (fun _ => some (D.bool true))) (fun _ => some true))) (seqG (retG false (fun _ => some (D.bool false)) (fun _ => Mk.fr))
  (fun ρ => some (Out.next ρ))) (fun ρ => some (Out.next ρ)))
  (seqG (ifG (andB (notB (truthB (nameF 8))) (andB (cmpB (notO isD) (nameF 11) (fun _ => some (D.bool false))) (fun _ => some true))) (seqG (retG false (fun _ => some (D.bool false)) (fun _ => Mk.fr))
  (fun ρ => some (Out.next ρ))) (fun ρ => some (Out.next ρ)))
  (seqG (ifG (orB (cmpB (notO (eqD 40)) (nameF 2) (nameF 1)) (orB (cmpB (notO (eqD 40)) (nameF 3) (nameF 5)) (fun _ => some false))) (seqG (retG false (fun _ => some (D.bool false)) (fun _ => Mk.fr))
  (fun ρ => some (Out.next ρ))) (fun ρ => some (Out.next ρ)))
  (seqG (retG false (fun _ => some (D.bool true)) (fun _ => Mk.fr))
  (fun ρ => some (Out.next ρ))))))))))))))))
noncomputable def φ__law_words : List D → Option D := fnF 12 1 G__law_words
noncomputable def G_law : List Slot → Option Out :=
  (seqG (ifG (cmpB (eqD 40) (bin modD (callF φ__law_cell (consF (nameF 0) (consF (fun _ => some (D.int 0)) (fun _ => some [])))) (fun _ => some (D.int 2))) (fun _ => some (D.int 0))) (seqG (asgG 1 0 (callF φ__law_replays (consF (nameF 0) (fun _ => some []))) (callM (fun ρ => ((nameM 0) ρ).clean && (true)) false))
  (fun ρ => some (Out.next ρ))) (seqG (asgG 1 0 (callF φ__law_words (consF (nameF 0) (fun _ => some []))) (callM (fun ρ => ((nameM 0) ρ).clean && (true)) false))
  (fun ρ => some (Out.next ρ))))
  (seqG (ifG (notB (truthB (nameF 1))) (seqG (retG false (fun _ => some (D.bool false)) (fun _ => Mk.fr))
  (fun ρ => some (Out.next ρ))) (fun ρ => some (Out.next ρ)))
  (seqG (retG false (fun _ => some (D.bool true)) (fun _ => Mk.fr))
  (fun ρ => some (Out.next ρ)))))
noncomputable def φ_law : List D → Option D := fnF 2 1 G_law
set_option maxHeartbeats 4000000 in
theorem hf_heads_of {C : Cfg} (h : Laid C) : FnG C "heads_of" 1 true φ_heads_of :=
  fn_G (l := 0) (G := G_heads_of) h.f_heads_of (by decide +kernel) (show SOK C _ 0 true (dBody P 1) _ from
  (s_cons (s_assign (i := 1) (k := 1) (by decide +kernel) (list_ok args_nil_ok (by decide)) (fun _ _ => rfl))
  (s_cons (s_for (tt := false) (name_ok (i := 0) (by decide +kernel) (by decide +kernel)) (tgt_name (i := 2) (by decide +kernel)) (fun _ _ => rfl) (s_cons (s_if (cmp_b notIn_cmp (idx_ok (name_ok (i := 2) (by decide +kernel) (by decide +kernel)) (int_ok 0) (fun _ _ => rfl)) (name_ok (i := 1) (by decide +kernel) (by decide +kernel)) rfl) (s_cons (s_append (i := 1) (k := 0) (by decide +kernel) (by decide +kernel) (idx_ok (name_ok (i := 2) (by decide +kernel) (by decide +kernel)) (int_ok 0) (fun _ _ => rfl)) (fun _ => rfl) (fun _ => rfl) rfl (fun _ => rfl))
  s_nil) s_nil)
  s_nil) (fun _ _ => rfl))
  (s_cons (s_ret (name_ok (i := 1) (by decide +kernel) (by decide +kernel)))
  s_nil))))
set_option maxHeartbeats 4000000 in
theorem hf_replayed {C : Cfg} (h : Laid C) : FnG C "replayed" 2 false φ_replayed :=
  fn_G (l := 1) (G := G_replayed) h.f_replayed (by decide +kernel) (show SOK C _ 1 false (dBody P 2) _ from
  (s_cons (s_assign (i := 2) (k := 0) (by decide +kernel) (call_ok (hf_heads_of h) (by decide +kernel) (by decide +kernel) (by decide +kernel) (args_Name (name_ok (i := 0) (by decide +kernel) (by decide +kernel)) args_nil_ok) (fun _ => rfl)) (fun _ _ => rfl))
  (s_cons (s_assign (i := 3) (k := 0) (by decide +kernel) (list_ok (args_Subscript (idx_ok (idx_ok (name_ok (i := 0) (by decide +kernel) (by decide +kernel)) (int_ok 0) (fun _ _ => rfl)) (int_ok 0) (fun _ _ => rfl)) args_nil_ok) (by decide)) (fun _ _ => rfl))
  (s_cons (s_for (tt := false) (name_ok (i := 1) (by decide +kernel) (by decide +kernel)) (tgt_name (i := 4) (by decide +kernel)) (fun _ _ => rfl) (s_cons (s_assign (i := 5) (k := 0) (by decide +kernel) (int_ok 0) (fun _ _ => rfl))
  (s_cons (s_while 1000 (boolop_b (and_cons (cmp_b lt_cmp (name_ok (i := 5) (by decide +kernel) (by decide +kernel)) (len_ok ⟨(by decide +kernel), h.b_len, (by decide +kernel), (by decide +kernel)⟩ (name_ok (i := 3) (by decide +kernel) (by decide +kernel)) star_Name) rfl) (and_cons (cmp_b notIn_cmp (idx_ok (name_ok (i := 3) (by decide +kernel) (by decide +kernel)) (name_ok (i := 5) (by decide +kernel) (by decide +kernel)) (fun _ _ => rfl)) (name_ok (i := 2) (by decide +kernel) (by decide +kernel)) rfl) and_nil))) (s_cons (s_assign (i := 5) (k := 0) (by decide +kernel) (add_ok (name_ok (i := 5) (by decide +kernel) (by decide +kernel)) (int_ok 1)) (fun _ _ => rfl))
  s_nil))
  (s_cons (s_if (boolop_b (or_cons (cmp_b eq_cmp (name_ok (i := 5) (by decide +kernel) (by decide +kernel)) (len_ok ⟨(by decide +kernel), h.b_len, (by decide +kernel), (by decide +kernel)⟩ (name_ok (i := 3) (by decide +kernel) (by decide +kernel)) star_Name) rfl) (or_cons (cmp_b lt_cmp (name_ok (i := 4) (by decide +kernel) (by decide +kernel)) (int_ok 0) rfl) (or_cons (cmp_b ge_cmp (name_ok (i := 4) (by decide +kernel) (by decide +kernel)) (len_ok ⟨(by decide +kernel), h.b_len, (by decide +kernel), (by decide +kernel)⟩ (name_ok (i := 0) (by decide +kernel) (by decide +kernel)) star_Name) rfl) (or_cons (cmp_b ne_cmp (idx_ok (idx_ok (name_ok (i := 0) (by decide +kernel) (by decide +kernel)) (name_ok (i := 4) (by decide +kernel) (by decide +kernel)) (fun _ _ => rfl)) (int_ok 0) (fun _ _ => rfl)) (idx_ok (name_ok (i := 3) (by decide +kernel) (by decide +kernel)) (name_ok (i := 5) (by decide +kernel) (by decide +kernel)) (fun _ _ => rfl)) rfl) or_nil))))) (s_cons (s_ret none_ok)
  s_nil) s_nil)
  (s_cons (s_assign (i := 3) (k := 0) (by decide +kernel) (add_ok (add_ok (slice_ok (name_ok (i := 3) (by decide +kernel) (by decide +kernel)) part_none (part_some (name_ok (i := 5) (by decide +kernel) (by decide +kernel)))) (idx_ok (idx_ok (name_ok (i := 0) (by decide +kernel) (by decide +kernel)) (name_ok (i := 4) (by decide +kernel) (by decide +kernel)) (fun _ _ => rfl)) (int_ok 1) (fun _ _ => rfl))) (slice_ok (name_ok (i := 3) (by decide +kernel) (by decide +kernel)) (part_some (add_ok (name_ok (i := 5) (by decide +kernel) (by decide +kernel)) (int_ok 1))) part_none)) (fun _ _ => rfl))
  s_nil)))) (fun _ _ => rfl))
  (s_cons (s_ret (name_ok (i := 3) (by decide +kernel) (by decide +kernel)))
  s_nil)))))
set_option maxHeartbeats 4000000 in
theorem hf_places_after {C : Cfg} (h : Laid C) : FnG C "places_after" 1 true φ_places_after :=
  fn_G (l := 0) (G := G_places_after) h.f_places_after (by decide +kernel) (show SOK C _ 0 true (dBody P 3) _ from
  (s_cons (s_assign (i := 4) (k := 1) (by decide +kernel) (list_ok (args_Name (name_ok (i := 1) (by decide +kernel) (by decide +kernel)) args_nil_ok) (by decide)) (fun _ _ => rfl))
  (s_cons (s_for (tt := false) (name_ok (i := 0) (by decide +kernel) (by decide +kernel)) (tgt_name (i := 5) (by decide +kernel)) (fun _ _ => rfl) (s_cons (s_assign (i := 6) (k := 1) (by decide +kernel) (list_ok args_nil_ok (by decide)) (fun _ _ => rfl))
  (s_cons (s_for (tt := false) (range_ok ⟨(by decide +kernel), h.b_range, (by decide +kernel), (by decide +kernel)⟩ (add_ok (len_ok ⟨(by decide +kernel), h.b_len, (by decide +kernel), (by decide +kernel)⟩ (name_ok (i := 2) (by decide +kernel) (by decide +kernel)) star_Name) (int_ok 1)) star_BinOp) (tgt_name (i := 7) (by decide +kernel)) (fun _ _ => rfl) (s_cons (s_if (cmp_b in_cmp (name_ok (i := 5) (by decide +kernel) (by decide +kernel)) (name_ok (i := 3) (by decide +kernel) (by decide +kernel)) rfl) (s_cons (s_assign (i := 8) (k := 0) (by decide +kernel) (any_ok ⟨(by decide +kernel), h.b_any, (by decide +kernel), (by decide +kernel)⟩ (comp_ok (xs := ["i"]) (n := 9) (tt := false) (is := [9]) rfl (by decide +kernel) (name_ok (i := 4) (by decide +kernel) (by decide +kernel)) (asg_name (i := 9) (by decide +kernel)) (upd_set 9) (by decide +kernel) (fun _ _ => rfl) tests_nil (idx_ok (idx_ok (idx_ok (name_ok (i := 3) (by decide +kernel) (by decide +kernel)) (name_ok (i := 5) (by decide +kernel) (by decide +kernel)) (fun _ _ => rfl)) (name_ok (i := 9) (by decide +kernel) (by decide +kernel)) (fun _ _ => rfl)) (name_ok (i := 7) (by decide +kernel) (by decide +kernel)) (fun _ _ => rfl)) (fun _ _ => rfl)) star_ListComp) (fun _ _ => rfl))
  s_nil) (s_cons (s_assign (i := 8) (k := 0) (by decide +kernel) (and3_ok (cmp_ok gt_cmp (name_ok (i := 7) (by decide +kernel) (by decide +kernel)) (int_ok 0) rfl) (cmp_ok in_cmp (sub_ok (name_ok (i := 7) (by decide +kernel) (by decide +kernel)) (int_ok 1)) (name_ok (i := 4) (by decide +kernel) (by decide +kernel)) rfl) (cmp_ok eq_cmp (idx_ok (name_ok (i := 2) (by decide +kernel) (by decide +kernel)) (sub_ok (name_ok (i := 7) (by decide +kernel) (by decide +kernel)) (int_ok 1)) (fun _ _ => rfl)) (name_ok (i := 5) (by decide +kernel) (by decide +kernel)) rfl)) (fun _ _ => rfl))
  s_nil))
  (s_cons (s_if (val_b (name_ok (i := 8) (by decide +kernel) (by decide +kernel)) (fun _ _ => rfl)) (s_cons (s_append (i := 6) (k := 0) (by decide +kernel) (by decide +kernel) (name_ok (i := 7) (by decide +kernel) (by decide +kernel)) (fun _ => rfl) (fun _ => rfl) rfl (fun _ => rfl))
  s_nil) s_nil)
  s_nil)) (fun _ _ => rfl))
  (s_cons (s_move (i := 4) (j := 6) (by decide +kernel) (by decide +kernel) (by decide +kernel) (fun _ _ => rfl))
  s_nil))) (fun _ _ => rfl))
  (s_cons (s_ret (name_ok (i := 4) (by decide +kernel) (by decide +kernel)))
  s_nil))))
set_option maxHeartbeats 4000000 in
theorem hf_span_tables {C : Cfg} (h : Laid C) : FnG C "span_tables" 2 false φ_span_tables :=
  fn_G (l := 1) (G := G_span_tables) h.f_span_tables (by decide +kernel) (show SOK C _ 1 false (dBody P 4) _ from
  (s_cons (s_assign (i := 2) (k := 0) (by decide +kernel) (len_ok ⟨(by decide +kernel), h.b_len, (by decide +kernel), (by decide +kernel)⟩ (name_ok (i := 1) (by decide +kernel) (by decide +kernel)) star_Name) (fun _ _ => rfl))
  (s_cons (s_assign (i := 3) (k := 3) (by decide +kernel) (dict0k_ok 2) (fun _ _ => rfl))
  (s_cons (s_for (tt := false) (call_ok (hf_heads_of h) (by decide +kernel) (by decide +kernel) (by decide +kernel) (args_Name (name_ok (i := 0) (by decide +kernel) (by decide +kernel)) args_nil_ok) (fun _ => rfl)) (tgt_name (i := 4) (by decide +kernel)) (fun _ _ => rfl) (s_cons (s_setitem (i := 3) (k := 2) (by decide +kernel) (by decide +kernel) (compk_ok (x := "i") (n := 9) rfl (by decide +kernel) (range_ok ⟨(by decide +kernel), h.b_range, (by decide +kernel), (by decide +kernel)⟩ (add_ok (name_ok (i := 2) (by decide +kernel) (by decide +kernel)) (int_ok 1)) star_BinOp) (mul_ok (list_ok (args_Constant (bool_ok false) args_nil_ok) (by decide)) (add_ok (name_ok (i := 2) (by decide +kernel) (by decide +kernel)) (int_ok 1))) (fun _ _ => rfl)) (name_ok (i := 4) (by decide +kernel) (by decide +kernel)) (fun _ => rfl))
  s_nil) (fun _ _ => rfl))
  (s_cons (s_assign (i := 6) (k := 0) (by decide +kernel) (bool_ok true) (fun _ _ => rfl))
  (s_cons (s_while 1000 (val_b (name_ok (i := 6) (by decide +kernel) (by decide +kernel)) (fun _ _ => rfl)) (s_cons (s_assign (i := 6) (k := 0) (by decide +kernel) (bool_ok false) (fun _ _ => rfl))
  (s_cons (s_for (tt := false) (name_ok (i := 0) (by decide +kernel) (by decide +kernel)) (tgt_name (i := 7) (by decide +kernel)) (fun _ _ => rfl) (s_cons (s_for (tt := false) (range_ok ⟨(by decide +kernel), h.b_range, (by decide +kernel), (by decide +kernel)⟩ (add_ok (name_ok (i := 2) (by decide +kernel) (by decide +kernel)) (int_ok 1)) star_BinOp) (tgt_name (i := 5) (by decide +kernel)) (fun _ _ => rfl) (s_cons (s_for (tt := false) (call_ok (hf_places_after h) (by decide +kernel) (by decide +kernel) (by decide +kernel) (args_Subscript (idx_ok (name_ok (i := 7) (by decide +kernel) (by decide +kernel)) (int_ok 1) (fun _ _ => rfl)) (args_Name (name_ok (i := 5) (by decide +kernel) (by decide +kernel)) (args_Name (name_ok (i := 1) (by decide +kernel) (by decide +kernel)) (args_Name (name_ok (i := 3) (by decide +kernel) (by decide +kernel)) args_nil_ok)))) (fun _ => rfl)) (tgt_name (i := 8) (by decide +kernel)) (fun _ _ => rfl) (s_cons (s_if (not_b (val_b (idx_ok (idx_ok (idx_ok (name_ok (i := 3) (by decide +kernel) (by decide +kernel)) (idx_ok (name_ok (i := 7) (by decide +kernel) (by decide +kernel)) (int_ok 0) (fun _ _ => rfl)) (fun _ _ => rfl)) (name_ok (i := 5) (by decide +kernel) (by decide +kernel)) (fun _ _ => rfl)) (name_ok (i := 8) (by decide +kernel) (by decide +kernel)) (fun _ _ => rfl)) (fun _ _ => rfl))) (s_cons (s_set2 (i := 3) (by decide +kernel) (by decide +kernel) (bool_ok true) (idx_ok (name_ok (i := 7) (by decide +kernel) (by decide +kernel)) (int_ok 0) (fun _ _ => rfl)) (name_ok (i := 5) (by decide +kernel) (by decide +kernel)) (name_ok (i := 8) (by decide +kernel) (by decide +kernel)) (fun _ _ => rfl) (fun _ _ => rfl) (fun _ => rfl))
  (s_cons (s_assign (i := 6) (k := 0) (by decide +kernel) (bool_ok true) (fun _ _ => rfl))
  s_nil)) s_nil)
  s_nil) (fun _ _ => rfl))
  s_nil) (fun _ _ => rfl))
  s_nil) (fun _ _ => rfl))
  s_nil)))
  (s_cons (s_ret (name_ok (i := 3) (by decide +kernel) (by decide +kernel)))
  s_nil)))))))
set_option maxHeartbeats 4000000 in
theorem hf_derives_from {C : Cfg} (h : Laid C) : FnG C "derives_from" 3 false φ_derives_from :=
  fn_G (l := 2) (G := G_derives_from) h.f_derives_from (by decide +kernel) (show SOK C _ 2 false (dBody P 5) _ from
  (s_cons (s_ret (idx_ok (idx_ok (idx_ok (call_ok (hf_span_tables h) (by decide +kernel) (by decide +kernel) (by decide +kernel) (args_Name (name_ok (i := 0) (by decide +kernel) (by decide +kernel)) (args_Name (name_ok (i := 2) (by decide +kernel) (by decide +kernel)) args_nil_ok)) (fun _ => rfl)) (name_ok (i := 1) (by decide +kernel) (by decide +kernel)) (fun _ _ => rfl)) (int_ok 0) (fun _ _ => rfl)) (len_ok ⟨(by decide +kernel), h.b_len, (by decide +kernel), (by decide +kernel)⟩ (name_ok (i := 2) (by decide +kernel) (by decide +kernel)) star_Name) (fun _ _ => rfl)))
  s_nil))
set_option maxHeartbeats 4000000 in
theorem hf_derives {C : Cfg} (h : Laid C) : FnG C "derives" 4 false φ_derives :=
  fn_G (l := 3) (G := G_derives) h.f_derives (by decide +kernel) (show SOK C _ 3 false (dBody P 6) _ from
  (s_cons (s_ret (call_ok (hf_derives_from h) (by decide +kernel) (by decide +kernel) (by decide +kernel) (args_Name (name_ok (i := 0) (by decide +kernel) (by decide +kernel)) (args_Subscript (idx_ok (idx_ok (name_ok (i := 0) (by decide +kernel) (by decide +kernel)) (int_ok 0) (fun _ _ => rfl)) (int_ok 0) (fun _ _ => rfl)) (args_Name (name_ok (i := 1) (by decide +kernel) (by decide +kernel)) args_nil_ok))) (fun _ => rfl)))
  s_nil))
set_option maxHeartbeats 4000000 in
theorem hf__law_cell {C : Cfg} (h : Laid C) : FnG C "_law_cell" 1 false φ__law_cell :=
  fn_G (l := 0) (G := G__law_cell) h.f__law_cell (by decide +kernel) (show SOK C _ 0 false (dBody P 12) _ from
  (s_cons (s_if (cmp_b lt_cmp (name_ok (i := 1) (by decide +kernel) (by decide +kernel)) (len_ok ⟨(by decide +kernel), h.b_len, (by decide +kernel), (by decide +kernel)⟩ (name_ok (i := 0) (by decide +kernel) (by decide +kernel)) star_Name) rfl) (s_cons (s_ret (idx_ok (name_ok (i := 0) (by decide +kernel) (by decide +kernel)) (name_ok (i := 1) (by decide +kernel) (by decide +kernel)) (fun _ _ => rfl)))
  s_nil) s_nil)
  (s_cons (s_ret (name_ok (i := 1) (by decide +kernel) (by decide +kernel)))
  s_nil)))
set_option maxHeartbeats 4000000 in
theorem hf__law_rules {C : Cfg} (h : Laid C) : FnG C "_law_rules" 2 false φ__law_rules :=
  fn_G (l := 1) (G := G__law_rules) h.f__law_rules (by decide +kernel) (show SOK C _ 1 false (dBody P 13) _ from
  (s_cons (s_assign (i := 4) (k := 1) (by decide +kernel) (list_ok args_nil_ok (by decide)) (fun _ _ => rfl))
  (s_cons (s_for (tt := false) (range_ok ⟨(by decide +kernel), h.b_range, (by decide +kernel), (by decide +kernel)⟩ (name_ok (i := 1) (by decide +kernel) (by decide +kernel)) star_Name) (tgt_name (i := 5) (by decide +kernel)) (fun _ _ => rfl) (s_cons (s_assign (i := 6) (k := 0) (by decide +kernel) (idx_ok (str_ok "SAB" (by decide +kernel)) (mod_ok (call_ok (hf__law_cell h) (by decide +kernel) (by decide +kernel) (by decide +kernel) (args_Name (name_ok (i := 0) (by decide +kernel) (by decide +kernel)) (args_BinOp (add_ok (int_ok 2) (name_ok (i := 5) (by decide +kernel) (by decide +kernel))) args_nil_ok)) (fun _ => rfl)) (int_ok 3)) (fun _ _ => rfl)) (fun _ _ => rfl))
  (s_cons (s_assign (i := 7) (k := 0) (by decide +kernel) (idx_ok (name_ok (i := 2) (by decide +kernel) (by decide +kernel)) (mod_ok (call_ok (hf__law_cell h) (by decide +kernel) (by decide +kernel) (by decide +kernel) (args_Name (name_ok (i := 0) (by decide +kernel) (by decide +kernel)) (args_BinOp (add_ok (int_ok 6) (name_ok (i := 5) (by decide +kernel) (by decide +kernel))) args_nil_ok)) (fun _ => rfl)) (len_ok ⟨(by decide +kernel), h.b_len, (by decide +kernel), (by decide +kernel)⟩ (name_ok (i := 2) (by decide +kernel) (by decide +kernel)) star_Name)) (fun _ _ => rfl)) (fun _ _ => rfl))
  (s_cons (s_assign (i := 8) (k := 0) (by decide +kernel) (idx_ok (name_ok (i := 3) (by decide +kernel) (by decide +kernel)) (mod_ok (call_ok (hf__law_cell h) (by decide +kernel) (by decide +kernel) (by decide +kernel) (args_Name (name_ok (i := 0) (by decide +kernel) (by decide +kernel)) (args_BinOp (add_ok (int_ok 10) (name_ok (i := 5) (by decide +kernel) (by decide +kernel))) args_nil_ok)) (fun _ => rfl)) (len_ok ⟨(by decide +kernel), h.b_len, (by decide +kernel), (by decide +kernel)⟩ (name_ok (i := 3) (by decide +kernel) (by decide +kernel)) star_Name)) (fun _ _ => rfl)) (fun _ _ => rfl))
  (s_cons (s_append (i := 4) (k := 0) (by decide +kernel) (by decide +kernel) (tup_ok (args_Name (name_ok (i := 6) (by decide +kernel) (by decide +kernel)) (args_Call (listS_ok ⟨(by decide +kernel), h.b_list, (by decide +kernel), (by decide +kernel)⟩ (add_ok (name_ok (i := 7) (by decide +kernel) (by decide +kernel)) (name_ok (i := 8) (by decide +kernel) (by decide +kernel))) star_BinOp) args_nil_ok)) (by decide)) (fun _ => rfl) (fun _ => rfl) rfl (fun _ => rfl))
  s_nil)))) (fun _ _ => rfl))
  (s_cons (s_ret (name_ok (i := 4) (by decide +kernel) (by decide +kernel)))
  s_nil))))
set_option maxHeartbeats 4000000 in
theorem hf__law_fits {C : Cfg} (h : Laid C) : FnG C "_law_fits" 1 false φ__law_fits :=
  fn_G (l := 0) (G := G__law_fits) h.f__law_fits (by decide +kernel) (show SOK C _ 0 false (dBody P 14) _ from
  (s_cons (s_assign (i := 2) (k := 0) (by decide +kernel) (comp_ok (xs := ["rule"]) (n := 4) (tt := false) (is := [4]) rfl (by decide +kernel) (name_ok (i := 0) (by decide +kernel) (by decide +kernel)) (asg_name (i := 4) (by decide +kernel)) (upd_set 4) (by decide +kernel) (fun _ _ => rfl) tests_nil (idx_ok (name_ok (i := 4) (by decide +kernel) (by decide +kernel)) (int_ok 0) (fun _ _ => rfl)) (fun _ _ => rfl)) (swap_no (by decide +kernel)))
  (s_cons (s_assign (i := 3) (k := 0) (by decide +kernel) (comp_ok (xs := ["s"]) (n := 4) (tt := false) (is := [4]) rfl (by decide +kernel) (name_ok (i := 1) (by decide +kernel) (by decide +kernel)) (asg_name (i := 4) (by decide +kernel)) (upd_set 4) (by decide +kernel) (fun _ _ => rfl) (tests_one (cmp_b in_cmp (name_ok (i := 4) (by decide +kernel) (by decide +kernel)) (name_ok (i := 2) (by decide +kernel) (by decide +kernel)) rfl)) (name_ok (i := 4) (by decide +kernel) (by decide +kernel)) (fun _ _ => rfl)) (swap_no (by decide +kernel)))
  (s_cons (s_ret (comp_ok (xs := ["k"]) (n := 4) (tt := false) (is := [4]) rfl (by decide +kernel) (range_ok ⟨(by decide +kernel), h.b_range, (by decide +kernel), (by decide +kernel)⟩ (len_ok ⟨(by decide +kernel), h.b_len, (by decide +kernel), (by decide +kernel)⟩ (name_ok (i := 0) (by decide +kernel) (by decide +kernel)) star_Name) star_Call) (asg_name (i := 4) (by decide +kernel)) (upd_set 4) (by decide +kernel) (fun _ _ => rfl) (tests_one (cmp_b eq_cmp (list_ok (args_Subscript (idx_ok (idx_ok (name_ok (i := 0) (by decide +kernel) (by decide +kernel)) (name_ok (i := 4) (by decide +kernel) (by decide +kernel)) (fun _ _ => rfl)) (int_ok 0) (fun _ _ => rfl)) args_nil_ok) (by decide)) (slice_ok (name_ok (i := 3) (by decide +kernel) (by decide +kernel)) part_none (part_some (int_ok 1))) rfl)) (name_ok (i := 4) (by decide +kernel) (by decide +kernel)) (fun _ _ => rfl)))
  s_nil))))
set_option maxHeartbeats 4000000 in
theorem hf__law_rewritten {C : Cfg} (h : Laid C) : FnG C "_law_rewritten" 2 true φ__law_rewritten :=
  fn_G (l := 1) (G := G__law_rewritten) h.f__law_rewritten (by decide +kernel) (show SOK C _ 1 true (dBody P 15) _ from
  (s_cons (s_assign (i := 2) (k := 1) (by decide +kernel) (list_ok (args_Subscript (idx_ok (idx_ok (name_ok (i := 0) (by decide +kernel) (by decide +kernel)) (int_ok 0) (fun _ _ => rfl)) (int_ok 0) (fun _ _ => rfl)) args_nil_ok) (by decide)) (fun _ _ => rfl))
  (s_cons (s_for (tt := false) (name_ok (i := 1) (by decide +kernel) (by decide +kernel)) (tgt_name (i := 3) (by decide +kernel)) (fun _ _ => rfl) (s_cons (s_if (cmp_b notIn_cmp (name_ok (i := 3) (by decide +kernel) (by decide +kernel)) (call_ok (hf__law_fits h) (by decide +kernel) (by decide +kernel) (by decide +kernel) (args_Name (name_ok (i := 0) (by decide +kernel) (by decide +kernel)) (args_Name (name_ok (i := 2) (by decide +kernel) (by decide +kernel)) args_nil_ok)) (fun _ => rfl)) rfl) (s_cons (s_ret none_ok)
  s_nil) s_nil)
  (s_cons (s_assign (i := 4) (k := 0) (by decide +kernel) (index_ok (name_ok (i := 2) (by decide +kernel) (by decide +kernel)) (idx_ok (idx_ok (name_ok (i := 0) (by decide +kernel) (by decide +kernel)) (name_ok (i := 3) (by decide +kernel) (by decide +kernel)) (fun _ _ => rfl)) (int_ok 0) (fun _ _ => rfl)) (fun _ => rfl) rfl (fun _ => rfl)) (fun _ _ => rfl))
  (s_cons (s_assign (i := 2) (k := 1) (by decide +kernel) (add_ok (add_ok (slice_ok (name_ok (i := 2) (by decide +kernel) (by decide +kernel)) part_none (part_some (name_ok (i := 4) (by decide +kernel) (by decide +kernel)))) (idx_ok (idx_ok (name_ok (i := 0) (by decide +kernel) (by decide +kernel)) (name_ok (i := 3) (by decide +kernel) (by decide +kernel)) (fun _ _ => rfl)) (int_ok 1) (fun _ _ => rfl))) (slice_ok (name_ok (i := 2) (by decide +kernel) (by decide +kernel)) (part_some (add_ok (name_ok (i := 4) (by decide +kernel) (by decide +kernel)) (int_ok 1))) part_none)) (fun _ _ => rfl))
  s_nil))) (fun _ _ => rfl))
  (s_cons (s_ret (name_ok (i := 2) (by decide +kernel) (by decide +kernel)))
  s_nil))))
set_option maxHeartbeats 4000000 in
theorem hf__law_replays {C : Cfg} (h : Laid C) : FnG C "_law_replays" 5 false φ__law_replays :=
  fn_G (l := 4) (G := G__law_replays) h.f__law_replays (by decide +kernel) (show SOK C _ 4 false (dBody P 16) _ from
  (s_cons (s_assign (i := 1) (k := 0) (by decide +kernel) (call_ok (hf__law_rules h) (by decide +kernel) (by decide +kernel) (by decide +kernel) (args_Name (name_ok (i := 0) (by decide +kernel) (by decide +kernel)) (args_BinOp (add_ok (int_ok 1) (mod_ok (call_ok (hf__law_cell h) (by decide +kernel) (by decide +kernel) (by decide +kernel) (args_Name (name_ok (i := 0) (by decide +kernel) (by decide +kernel)) (args_Constant (int_ok 1) args_nil_ok)) (fun _ => rfl)) (int_ok 4))) (args_Name (gconst_ok h.c__law_fronts (by decide +kernel) (by decide +kernel)) (args_Name (gconst_ok h.c__law_rears (by decide +kernel) (by decide +kernel)) args_nil_ok)))) (fun _ => rfl)) (fun _ _ => rfl))
  (s_cons (s_assign_comp (i := 2) (k := 0) (by decide +kernel) (xs := ["rule"]) (n := 12) (tt := false) (is := [12]) rfl (by decide +kernel) (name_ok (i := 1) (by decide +kernel) (by decide +kernel)) (asg_name (i := 12) (by decide +kernel)) (upd_set 12) (by decide +kernel) (fun _ _ => rfl) tests_nil (tup_ok (args_Subscript (idx_ok (name_ok (i := 12) (by decide +kernel) (by decide +kernel)) (int_ok 0) (fun _ _ => rfl)) (args_Subscript (slice_ok (idx_ok (name_ok (i := 12) (by decide +kernel) (by decide +kernel)) (int_ok 1) (fun _ _ => rfl)) part_none part_none) args_nil_ok)) (by decide)) (fun _ _ => rfl) (swap_yes (by decide +kernel)) (by decide))
  (s_cons (s_assign (i := 3) (k := 1) (by decide +kernel) (list_ok args_nil_ok (by decide)) (fun _ _ => rfl))
  (s_cons (s_assign (i := 4) (k := 0) (by decide +kernel) (list_ok args_nil_ok (by decide)) (fun _ _ => rfl))
  (s_cons (s_for (tt := false) (range_ok ⟨(by decide +kernel), h.b_range, (by decide +kernel), (by decide +kernel)⟩ (add_ok (int_ok 1) (mod_ok (call_ok (hf__law_cell h) (by decide +kernel) (by decide +kernel) (by decide +kernel) (args_Name (name_ok (i := 0) (by decide +kernel) (by decide +kernel)) (args_Constant (int_ok 14) args_nil_ok)) (fun _ => rfl)) (int_ok 6))) star_BinOp) (tgt_name (i := 5) (by decide +kernel)) (fun _ _ => rfl) (s_cons (s_assign (i := 6) (k := 0) (by decide +kernel) (call_ok (hf__law_rewritten h) (by decide +kernel) (by decide +kernel) (by decide +kernel) (args_Name (name_ok (i := 1) (by decide +kernel) (by decide +kernel)) (args_Name (name_ok (i := 3) (by decide +kernel) (by decide +kernel)) args_nil_ok)) (fun _ => rfl)) (fun _ _ => rfl))
  (s_cons (s_assign (i := 7) (k := 0) (by decide +kernel) (slice_ok (name_ok (i := 3) (by decide +kernel) (by decide +kernel)) part_none part_none) (fun _ _ => rfl))
  (s_cons (s_assign (i := 8) (k := 0) (by decide +kernel) (call_ok (hf_replayed h) (by decide +kernel) (by decide +kernel) (by decide +kernel) (args_Name (name_ok (i := 2) (by decide +kernel) (by decide +kernel)) (args_Name (name_ok (i := 7) (by decide +kernel) (by decide +kernel)) args_nil_ok)) (fun _ => rfl)) (fun _ _ => rfl))
  (s_cons (s_if (cmp_b neN_cmp (name_ok (i := 8) (by decide +kernel) (by decide +kernel)) (name_ok (i := 6) (by decide +kernel) (by decide +kernel)) rfl) (s_cons (s_ret (bool_ok false))
  s_nil) s_nil)
  (s_cons (s_if (boolop_b (and_cons (cmp_b isN_cmp (name_ok (i := 4) (by decide +kernel) (by decide +kernel)) none_ok rfl) (and_cons (cmp_b notIsN_cmp (name_ok (i := 8) (by decide +kernel) (by decide +kernel)) none_ok rfl) and_nil))) (s_cons (s_ret (bool_ok false))
  s_nil) s_nil)
  (s_cons (s_assign (i := 4) (k := 0) (by decide +kernel) (name_ok (i := 8) (by decide +kernel) (by decide +kernel)) (fun _ _ => rfl))
  (s_cons (s_assign (i := 9) (k := 0) (by decide +kernel) (list_ok args_nil_ok (by decide)) (fun _ _ => rfl))
  (s_cons (s_if (cmp_b notIsN_cmp (name_ok (i := 6) (by decide +kernel) (by decide +kernel)) none_ok rfl) (s_cons (s_assign (i := 9) (k := 0) (by decide +kernel) (call_ok (hf__law_fits h) (by decide +kernel) (by decide +kernel) (by decide +kernel) (args_Name (name_ok (i := 1) (by decide +kernel) (by decide +kernel)) (args_Name (name_ok (i := 6) (by decide +kernel) (by decide +kernel)) args_nil_ok)) (fun _ => rfl)) (fun _ _ => rfl))
  (s_cons (s_if (boolop_b (and_cons (cmp_b eq_cmp (name_ok (i := 9) (by decide +kernel) (by decide +kernel)) (list_ok args_nil_ok (by decide)) rfl) (and_cons (cmp_b le_cmp (len_ok ⟨(by decide +kernel), h.b_len, (by decide +kernel), (by decide +kernel)⟩ (name_ok (i := 6) (by decide +kernel) (by decide +kernel)) star_Name) (int_ok 4) rfl) (and_cons (cmp_b isNot_cmp (call_ok (hf_derives h) (by decide +kernel) (by decide +kernel) (by decide +kernel) (args_Name (name_ok (i := 2) (by decide +kernel) (by decide +kernel)) (args_Name (name_ok (i := 8) (by decide +kernel) (by decide +kernel)) args_nil_ok)) (fun _ => rfl)) (bool_ok true) rfl) and_nil)))) (s_cons (s_ret (bool_ok false))
  s_nil) s_nil)
  s_nil)) s_nil)
  (s_cons (s_if (boolop_b (or_cons (cmp_b neN_cmp (name_ok (i := 8) (by decide +kernel) (by decide +kernel)) (name_ok (i := 6) (by decide +kernel) (by decide +kernel)) rfl) (or_cons (cmp_b ne_cmp (name_ok (i := 7) (by decide +kernel) (by decide +kernel)) (name_ok (i := 3) (by decide +kernel) (by decide +kernel)) rfl) (or_cons (cmp_b ne_cmp (name_ok (i := 2) (by decide +kernel) (by decide +kernel)) (name_ok (i := 1) (by decide +kernel) (by decide +kernel)) rfl) or_nil)))) (s_cons (s_ret (bool_ok false))
  s_nil) s_nil)
  (s_cons (s_assign (i := 10) (k := 0) (by decide +kernel) (mod_ok (call_ok (hf__law_cell h) (by decide +kernel) (by decide +kernel) (by decide +kernel) (args_Name (name_ok (i := 0) (by decide +kernel) (by decide +kernel)) (args_BinOp (add_ok (int_ok 15) (mul_ok (int_ok 2) (name_ok (i := 5) (by decide +kernel) (by decide +kernel)))) args_nil_ok)) (fun _ => rfl)) (int_ok 6)) (fun _ _ => rfl))
  (s_cons (s_assign (i := 11) (k := 0) (by decide +kernel) (call_ok (hf__law_cell h) (by decide +kernel) (by decide +kernel) (by decide +kernel) (args_Name (name_ok (i := 0) (by decide +kernel) (by decide +kernel)) (args_BinOp (add_ok (int_ok 16) (mul_ok (int_ok 2) (name_ok (i := 5) (by decide +kernel) (by decide +kernel)))) args_nil_ok)) (fun _ => rfl)) (fun _ _ => rfl))
  (s_cons (s_if (cmp_b eq_cmp (name_ok (i := 10) (by decide +kernel) (by decide +kernel)) (int_ok 0) rfl) (s_cons (s_append (i := 3) (k := 0) (by decide +kernel) (by decide +kernel) (name_ok (i := 11) (by decide +kernel) (by decide +kernel)) (fun _ => rfl) (fun _ => rfl) rfl (fun _ => rfl))
  s_nil) (s_cons (s_if (boolop_b (or_cons (cmp_b eq_cmp (name_ok (i := 10) (by decide +kernel) (by decide +kernel)) (int_ok 1) rfl) (or_cons (cmp_b eq_cmp (name_ok (i := 9) (by decide +kernel) (by decide +kernel)) (list_ok args_nil_ok (by decide)) rfl) or_nil))) (s_cons (s_append (i := 3) (k := 0) (by decide +kernel) (by decide +kernel) (sub_ok (mod_ok (name_ok (i := 11) (by decide +kernel) (by decide +kernel)) (add_ok (len_ok ⟨(by decide +kernel), h.b_len, (by decide +kernel), (by decide +kernel)⟩ (name_ok (i := 1) (by decide +kernel) (by decide +kernel)) star_Name) (int_ok 2))) (int_ok 1)) (fun _ => rfl) (fun _ => rfl) rfl (fun _ => rfl))
  s_nil) (s_cons (s_append (i := 3) (k := 0) (by decide +kernel) (by decide +kernel) (idx_ok (name_ok (i := 9) (by decide +kernel) (by decide +kernel)) (mod_ok (name_ok (i := 11) (by decide +kernel) (by decide +kernel)) (len_ok ⟨(by decide +kernel), h.b_len, (by decide +kernel), (by decide +kernel)⟩ (name_ok (i := 9) (by decide +kernel) (by decide +kernel)) star_Name)) (fun _ _ => rfl)) (fun _ => rfl) (fun _ => rfl) rfl (fun _ => rfl))
  s_nil))
  s_nil))
  s_nil)))))))))))) (fun _ _ => rfl))
  (s_cons (s_ret (bool_ok true))
  s_nil)))))))
set_option maxHeartbeats 4000000 in
theorem hf__law_words {C : Cfg} (h : Laid C) : FnG C "_law_words" 5 false φ__law_words :=
  fn_G (l := 4) (G := G__law_words) h.f__law_words (by decide +kernel) (show SOK C _ 4 false (dBody P 17) _ from
  (s_cons (s_assign (i := 1) (k := 0) (by decide +kernel) (call_ok (hf__law_rules h) (by decide +kernel) (by decide +kernel) (by decide +kernel) (args_Name (name_ok (i := 0) (by decide +kernel) (by decide +kernel)) (args_BinOp (add_ok (int_ok 1) (mod_ok (call_ok (hf__law_cell h) (by decide +kernel) (by decide +kernel) (by decide +kernel) (args_Name (name_ok (i := 0) (by decide +kernel) (by decide +kernel)) (args_Constant (int_ok 1) args_nil_ok)) (fun _ => rfl)) (int_ok 3))) (args_Name (gconst_ok h.c__law_tokens (by decide +kernel) (by decide +kernel)) (args_Name (gconst_ok h.c__law_tails (by decide +kernel) (by decide +kernel)) args_nil_ok)))) (fun _ => rfl)) (fun _ _ => rfl))
  (s_cons (s_assign_comp (i := 2) (k := 0) (by decide +kernel) (xs := ["rule"]) (n := 12) (tt := false) (is := [12]) rfl (by decide +kernel) (name_ok (i := 1) (by decide +kernel) (by decide +kernel)) (asg_name (i := 12) (by decide +kernel)) (upd_set 12) (by decide +kernel) (fun _ _ => rfl) tests_nil (tup_ok (args_Subscript (idx_ok (name_ok (i := 12) (by decide +kernel) (by decide +kernel)) (int_ok 0) (fun _ _ => rfl)) (args_Subscript (slice_ok (idx_ok (name_ok (i := 12) (by decide +kernel) (by decide +kernel)) (int_ok 1) (fun _ _ => rfl)) part_none part_none) args_nil_ok)) (by decide)) (fun _ _ => rfl) (swap_yes (by decide +kernel)) (by decide))
  (s_cons (s_assign (i := 3) (k := 1) (by decide +kernel) (list_ok args_nil_ok (by decide)) (fun _ _ => rfl))
  (s_cons (s_for (tt := false) (range_ok ⟨(by decide +kernel), h.b_range, (by decide +kernel), (by decide +kernel)⟩ (idx_ok (list_ok (args_Constant (int_ok 2) (args_Constant (int_ok 1) (args_Constant (int_ok 0) (args_Constant (int_ok 2) args_nil_ok)))) (by decide)) (mod_ok (call_ok (hf__law_cell h) (by decide +kernel) (by decide +kernel) (by decide +kernel) (args_Name (name_ok (i := 0) (by decide +kernel) (by decide +kernel)) (args_Constant (int_ok 14) args_nil_ok)) (fun _ => rfl)) (int_ok 4)) (fun _ _ => rfl)) star_Subscript) (tgt_name (i := 4) (by decide +kernel)) (fun _ _ => rfl) (s_cons (s_append (i := 3) (k := 0) (by decide +kernel) (by decide +kernel) (idx_ok (str_ok "aab" (by decide +kernel)) (mod_ok (call_ok (hf__law_cell h) (by decide +kernel) (by decide +kernel) (by decide +kernel) (args_Name (name_ok (i := 0) (by decide +kernel) (by decide +kernel)) (args_BinOp (add_ok (int_ok 15) (name_ok (i := 4) (by decide +kernel) (by decide +kernel))) args_nil_ok)) (fun _ => rfl)) (int_ok 3)) (fun _ _ => rfl)) (fun _ => rfl) (fun _ => rfl) rfl (fun _ => rfl))
  s_nil) (fun _ _ => rfl))
  (s_cons (s_assign (i := 5) (k := 0) (by decide +kernel) (slice_ok (name_ok (i := 3) (by decide +kernel) (by decide +kernel)) part_none part_none) (fun _ _ => rfl))
  (s_cons (s_assign (i := 6) (k := 0) (by decide +kernel) (list_ok (args_List (list_ok args_nil_ok (by decide)) args_nil_ok) (by decide)) (fun _ _ => rfl))
  (s_cons (s_for (tt := false) (range_ok ⟨(by decide +kernel), h.b_range, (by decide +kernel), (by decide +kernel)⟩ (len_ok ⟨(by decide +kernel), h.b_len, (by decide +kernel), (by decide +kernel)⟩ (name_ok (i := 3) (by decide +kernel) (by decide +kernel)) star_Name) star_Call) (tgt_name (i := 4) (by decide +kernel)) (fun _ _ => rfl) (s_cons (s_assign (i := 6) (k := 0) (by decide +kernel) (add_ok (list_ok (args_List (list_ok args_nil_ok (by decide)) args_nil_ok) (by decide)) (comp2_ok (x := "ks") (y := "k") (n := 12) rfl (by decide +kernel) (by decide +kernel) (name_ok (i := 6) (by decide +kernel) (by decide +kernel)) (range_ok ⟨(by decide +kernel), h.b_range, (by decide +kernel), (by decide +kernel)⟩ (len_ok ⟨(by decide +kernel), h.b_len, (by decide +kernel), (by decide +kernel)⟩ (name_ok (i := 1) (by decide +kernel) (by decide +kernel)) star_Name) star_Call) (add_ok (name_ok (i := 12) (by decide +kernel) (by decide +kernel)) (list_ok (args_Name (name_ok (i := 13) (by decide +kernel) (by decide +kernel)) args_nil_ok) (by decide))) (fun _ _ => rfl) (fun _ _ => rfl))) (fun _ _ => rfl))
  s_nil) (fun _ _ => rfl))
  (s_cons (s_assign (i := 8) (k := 0) (by decide +kernel) (bool_ok false) (fun _ _ => rfl))
  (s_cons (s_for (tt := false) (name_ok (i := 6) (by decide +kernel) (by decide +kernel)) (tgt_name (i := 7) (by decide +kernel)) (fun _ _ => rfl) (s_cons (s_assign (i := 9) (k := 0) (by decide +kernel) (call_ok (hf__law_rewritten h) (by decide +kernel) (by decide +kernel) (by decide +kernel) (args_Name (name_ok (i := 1) (by decide +kernel) (by decide +kernel)) (args_Name (name_ok (i := 7) (by decide +kernel) (by decide +kernel)) args_nil_ok)) (fun _ => rfl)) (fun _ _ => rfl))
  (s_cons (s_assign (i := 10) (k := 0) (by decide +kernel) (slice_ok (name_ok (i := 7) (by decide +kernel) (by decide +kernel)) part_none part_none) (fun _ _ => rfl))
  (s_cons (s_if (boolop_b (or_cons (cmp_b neN_cmp (call_ok (hf_replayed h) (by decide +kernel) (by decide +kernel) (by decide +kernel) (args_Name (name_ok (i := 2) (by decide +kernel) (by decide +kernel)) (args_Name (name_ok (i := 10) (by decide +kernel) (by decide +kernel)) args_nil_ok)) (fun _ => rfl)) (name_ok (i := 9) (by decide +kernel) (by decide +kernel)) rfl) (or_cons (cmp_b ne_cmp (name_ok (i := 10) (by decide +kernel) (by decide +kernel)) (name_ok (i := 7) (by decide +kernel) (by decide +kernel)) rfl) or_nil))) (s_cons (s_ret (bool_ok false))
  s_nil) s_nil)
  (s_cons (s_if (cmp_b eqN_cmp (name_ok (i := 9) (by decide +kernel) (by decide +kernel)) (name_ok (i := 3) (by decide +kernel) (by decide +kernel)) rfl) (s_cons (s_assign (i := 8) (k := 0) (by decide +kernel) (bool_ok true) (fun _ _ => rfl))
  s_nil) s_nil)
  s_nil)))) (fun _ _ => rfl))
  (s_cons (s_assign (i := 11) (k := 0) (by decide +kernel) (call_ok (hf_derives h) (by decide +kernel) (by decide +kernel) (by decide +kernel) (args_Name (name_ok (i := 2) (by decide +kernel) (by decide +kernel)) (args_Name (name_ok (i := 3) (by decide +kernel) (by decide +kernel)) args_nil_ok)) (fun _ => rfl)) (fun _ _ => rfl))
  (s_cons (s_if (boolop_b (and_cons (val_b (name_ok (i := 8) (by decide +kernel) (by decide +kernel)) (fun _ _ => rfl)) (and_cons (cmp_b isNot_cmp (name_ok (i := 11) (by decide +kernel) (by decide +kernel)) (bool_ok true) rfl) and_nil))) (s_cons (s_ret (bool_ok false))
  s_nil) s_nil)
  (s_cons (s_if (boolop_b (and_cons (not_b (val_b (name_ok (i := 8) (by decide +kernel) (by decide +kernel)) (fun _ _ => rfl))) (and_cons (cmp_b isNot_cmp (name_ok (i := 11) (by decide +kernel) (by decide +kernel)) (bool_ok false) rfl) and_nil))) (s_cons (s_ret (bool_ok false))
  s_nil) s_nil)
  (s_cons (s_if (boolop_b (or_cons (cmp_b ne_cmp (name_ok (i := 2) (by decide +kernel) (by decide +kernel)) (name_ok (i := 1) (by decide +kernel) (by decide +kernel)) rfl) (or_cons (cmp_b ne_cmp (name_ok (i := 3) (by decide +kernel) (by decide +kernel)) (name_ok (i := 5) (by decide +kernel) (by decide +kernel)) rfl) or_nil))) (s_cons (s_ret (bool_ok false))
  s_nil) s_nil)
  (s_cons (s_ret (bool_ok true))
  s_nil)))))))))))))))
set_option maxHeartbeats 4000000 in
theorem hf_law {C : Cfg} (h : Laid C) : FnG C "law" 6 false φ_law :=
  fn_G (l := 5) (G := G_law) h.f_law (by decide +kernel) (show SOK C _ 5 false (dBody P 18) _ from
  (s_cons (s_if (cmp_b eq_cmp (mod_ok (call_ok (hf__law_cell h) (by decide +kernel) (by decide +kernel) (by decide +kernel) (args_Name (name_ok (i := 0) (by decide +kernel) (by decide +kernel)) (args_Constant (int_ok 0) args_nil_ok)) (fun _ => rfl)) (int_ok 2)) (int_ok 0) rfl) (s_cons (s_assign (i := 1) (k := 0) (by decide +kernel) (call_ok (hf__law_replays h) (by decide +kernel) (by decide +kernel) (by decide +kernel) (args_Name (name_ok (i := 0) (by decide +kernel) (by decide +kernel)) args_nil_ok) (fun _ => rfl)) (fun _ _ => rfl))
  s_nil) (s_cons (s_assign (i := 1) (k := 0) (by decide +kernel) (call_ok (hf__law_words h) (by decide +kernel) (by decide +kernel) (by decide +kernel) (args_Name (name_ok (i := 0) (by decide +kernel) (by decide +kernel)) args_nil_ok) (fun _ => rfl)) (fun _ _ => rfl))
  s_nil))
  (s_cons (s_if (not_b (val_b (name_ok (i := 1) (by decide +kernel) (by decide +kernel)) (fun _ _ => rfl))) (s_cons (s_ret (bool_ok false))
  s_nil) s_nil)
  (s_cons (s_ret (bool_ok true))
  s_nil))))
end Mine

set_option autoImplicit false
open PySem PyProof.Rows
namespace Mine
set_option linter.unusedVariables false
set_option linter.unusedSimpArgs false
set_option maxRecDepth 100000

/-! steps of the plain meanings -/
section
variable {ρ : EEnv} {σ σ' : List Slot} {f f₁ f₂ : EEnv → Option D} {m : EEnv → Mk} {a b d : D} {g₁ g₂ G : List Slot → Option Out} {R : Option Out} {t b₁ b₂ : EEnv → Option Bool} {x y : Bool} {i k : Nat}
theorem seqG_next (h : g₁ σ = some (.next σ')) : seqG g₁ g₂ σ = g₂ σ' := by unfold seqG; rw [h]; rfl
theorem seqG_ret (h : g₁ σ = some (.ret d)) : seqG g₁ g₂ σ = some (.ret d) := by unfold seqG; rw [h]; rfl
theorem fnF_ret {n k : Nat} {ds : List D} (h : ds.length = k) (h2 : G (ini n ds) = some (.ret d)) : fnF n k G ds = some d := by unfold fnF; rw [if_pos h, h2]; rfl
theorem bin_eq {g : D → D → Option D} (h1 : f₁ ρ = some a) (h2 : f₂ ρ = some b) : bin g f₁ f₂ ρ = g a b := by unfold bin; rw [h1, Option.bind_some, h2, Option.bind_some]
theorem bin_val {g : D → D → Option D} (h1 : f₁ ρ = some a) (h2 : f₂ ρ = some b) (h3 : g a b = some d) : bin g f₁ f₂ ρ = some d := (bin_eq h1 h2).trans h3
theorem un_eq {g : D → Option D} (h1 : f ρ = some a) : un g f ρ = g a := by unfold un; rw [h1, Option.bind_some]
theorem un_val {g : D → Option D} (h1 : f ρ = some a) (h2 : g a = some d) : un g f ρ = some d := (un_eq h1).trans h2
theorem cmp_eq {g : D → D → Option Bool} (h1 : f₁ ρ = some a) (h2 : f₂ ρ = some b) : cmpB g f₁ f₂ ρ = g a b := by unfold cmpB; rw [h1, Option.bind_some, h2, Option.bind_some]
theorem cmp_val {g : D → D → Option Bool} (h1 : f₁ ρ = some a) (h2 : f₂ ρ = some b) (h3 : g a b = some x) : cmpB g f₁ f₂ ρ = some x := (cmp_eq h1 h2).trans h3
theorem not_val {g : D → D → Option Bool} (h : g a b = some x) : notO g a b = some (!x) := by unfold notO; rw [h]; rfl
theorem call_val {φ : List D → Option D} {fs : EEnv → Option (List D)} {ds : List D} (h1 : fs ρ = some ds) (h2 : φ ds = some d) : callF φ fs ρ = some d := by unfold callF; rw [h1]; exact h2
theorem cons_val {fs : EEnv → Option (List D)} {ds : List D} (h1 : f ρ = some d) (h2 : fs ρ = some ds) : consF f fs ρ = some (d :: ds) := by unfold consF; rw [h1, Option.bind_some, h2]; rfl
theorem tup2_val (h1 : f₁ ρ = some a) (h2 : f₂ ρ = some b) : tupF (consF f₁ (consF f₂ (fun _ => some []))) ρ = some (.tup [a, b]) := by unfold tupF; rw [cons_val h1 (cons_val h2 rfl)]; rfl
theorem truth_val (h : f ρ = some (.bool x)) : truthB f ρ = some x := by unfold truthB; rw [h]; rfl
theorem bool_val (h : t ρ = some x) : boolF t ρ = some (.bool x) := by unfold boolF; rw [h]; rfl
theorem and_val (h1 : b₁ ρ = some x) (h2 : b₂ ρ = some y) : andB b₁ (andB b₂ (fun _ => some true)) ρ = some (x && y) := by unfold andB; rw [h1, Option.bind_some, h2, Option.bind_some]; cases x <;> cases y <;> rfl
theorem and_no (h1 : b₁ ρ = some x) (h2 : b₂ ρ = some y) (h : (x && y) = false) : andB b₁ (andB b₂ (fun _ => some true)) ρ = some false := (and_val h1 h2).trans (by rw [h])
theorem if_yes (h : t (view σ) = some true) (h' : g₁ σ = R) : ifG t g₁ g₂ σ = R := by unfold ifG; rw [h]; exact h'
theorem if_no (h : t (view σ) = some false) (h' : g₂ σ = R) : ifG t g₁ g₂ σ = R := by unfold ifG; rw [h]; exact h'
theorem skipIf (h : t (view σ) = some false) : ifG t g₁ (fun ρ => some (Out.next ρ)) σ = some (.next σ) := if_no h rfl
theorem asg_val (hv : f (view σ) = some d) (hk : keepB k (m (view σ)) d = true) (hp : put σ i (.val k d) = σ') : asgG i k f m σ = some (.next σ') := by unfold asgG; rw [hv, Option.bind_some, if_pos hk, hp]
theorem ret_val {rf : Bool} (hv : f (view σ) = some d) (hk : (!rf || (m (view σ)).fre d) = true) : retG rf f m σ = some (.ret d) := by unfold retG; rw [hv, Option.bind_some, if_pos hk]
theorem app_val {ds : List D} (hρ : σ[i]? = some (.val (k + 1) (.list ds))) (hv : f (view σ) = some d) (hk : keepB k (m (view σ)) d = true) (hl : ds.length < lim) (hp : put σ i (.val (k + 1) (.list (ds ++ [d]))) = σ') : appG i k f m σ = some (.next σ') := by
  unfold appG
  rw [slL_of hρ, Option.bind_some, hv, Option.bind_some, if_pos ⟨hk, hl⟩, hp]
theorem set_val {kds : List (Str × D)} {key : Str} {fk : EEnv → Option D} (hρ : σ[i]? = some (.val (k + 1) (.dict kds))) (hkey : fk (view σ) = some (.str key)) (hv : f (view σ) = some d) (hk : keepB k (m (view σ)) d = true) (hl : kds.length < lim) (hp : put σ i (.val (k + 1) (.dict (storedD kds key d))) = σ') : setG i k f m fk σ = some (.next σ') := by
  unfold setG
  rw [slD_of hρ, Option.bind_some, hkey, hv]
  show (if _ then _ else _) = _
  rw [if_pos ⟨hk, hl⟩, hp]
theorem st_asg (hv : f (view σ) = some d) (hk : keepB k (m (view σ)) d = true) (hp : put σ i (.val k d) = σ') (h : G σ' = R) : seqG (asgG i k f m) G σ = R := (seqG_next (asg_val hv hk hp)).trans h
theorem st_skip (hb : t (view σ) = some false) (h : G σ = R) : seqG (ifG t g₁ (fun ρ => some (Out.next ρ))) G σ = R := (seqG_next (skipIf hb)).trans h
theorem st_step (hb : g₁ σ = some (.next σ')) (h : G σ' = R) : seqG g₁ G σ = R := (seqG_next hb).trans h
theorem st_ret {rf : Bool} (hv : f (view σ) = some d) (hk : (!rf || (m (view σ)).fre d) = true) : seqG (retG rf f m) G σ = some (.ret d) := seqG_ret (ret_val hv hk)
variable {upd : List Slot → D → Option (List Slot)} {ds : List D} {σ₁ : List Slot}
theorem forG_eq {tt : Bool} (h1 : f (view σ) = some d) (h2 : d.items = some ds) (h3 : ((m (view σ)).cl d && (!tt || d.isL)) = true) : forG tt f m upd G σ = forL upd G ds σ := by
  unfold forG
  rw [h1, Option.bind_some, h2, Option.bind_some, if_pos h3]
theorem st_for {tt : Bool} (h1 : f (view σ) = some d) (h2 : d.items = some ds) (h3 : ((m (view σ)).cl d && (!tt || d.isL)) = true) (h4 : forL upd G ds σ = some (.next σ')) (h : g₂ σ' = R) : seqG (forG tt f m upd G) g₂ σ = R := st_step ((forG_eq h1 h2 h3).trans h4) h
theorem for_cons (h1 : upd σ d = some σ₁) (h2 : G σ₁ = some (.next σ')) (h3 : forL upd G ds σ' = R) : forL upd G (d :: ds) σ = R := by rw [forL, h1, Option.bind_some, h2]; exact h3
theorem for_ret (h1 : upd σ d = some σ₁) (h2 : G σ₁ = some (.ret a)) : forL upd G (d :: ds) σ = some (.ret a) := by rw [forL, h1, Option.bind_some, h2]; rfl
theorem while_yes {n : Nat} (h1 : t (view σ) = some true) (h2 : G σ = some (.next σ')) (h3 : whileL t G n σ' = R) : whileL t G (n + 1) σ = R := by rw [whileL, h1, Option.bind_some, if_pos rfl, h2]; exact h3
theorem while_no {n : Nat} (h1 : t (view σ) = some false) : whileL t G (n + 1) σ = some (.next σ) := by rw [whileL, h1]; rfl
end
end Mine

set_option autoImplicit false
open PySem PyProof.Rows
namespace Mine
set_option linter.unusedVariables false
set_option linter.unusedSimpArgs false
set_option maxRecDepth 100000
abbrev Gr := List (Str × List Str)
noncomputable def sL (ss : List Str) : D := .list (ss.map .str)
noncomputable def ruleD (r : Str × List Str) : D := .tup [.str r.1, sL r.2]
noncomputable def gramD (g : Gr) : D := .list (g.map ruleD)
theorem inL_strs (x : Str) (ss : List Str) : inL (eqD 40) (.str x) (ss.map .str) = some (decide (x ∈ ss)) := by
  induction ss with
  | nil => simp [inL]
  | cons y r ih =>
    rw [List.map_cons, inL, ih]
    show some (y == x || decide (x ∈ r)) = _
    rw [Bool.eq_iff_iff.mpr (show (y == x || decide (x ∈ r)) = true ↔ decide (x ∈ y :: r) = true by rw [Bool.or_eq_true, beq_iff_eq, decide_eq_true_iff, decide_eq_true_iff, List.mem_cons]; exact or_congr_left eq_comm)]
theorem unStrs_sL (ss : List Str) : unStrs (ss.map .str) = some ss := by
  induction ss with
  | nil => rfl
  | cons x r ih => rw [List.map_cons, unStrs, ih]; rfl
theorem lim_eq : lim = 100000 := rfl
    
noncomputable def addU (u : List Str) (x : Str) : List Str := if x ∈ u then u else u ++ [x]
noncomputable def dedup (xs : List Str) : List Str := xs.foldl addU []
theorem addU_len (u : List Str) (x : Str) : (addU u x).length ≤ u.length + 1 := by unfold addU; split <;> simp
theorem foldU_len (xs : List Str) : ∀ u : List Str, (xs.foldl addU u).length ≤ u.length + xs.length := by
  induction xs with
  | nil => intro u; simp
  | cons x r ih => intro u; have := ih (addU u x); have := addU_len u x; simp only [List.foldl_cons, List.length_cons]; omega
theorem foldU_mem (xs : List Str) : ∀ (u : List Str) (y : Str), y ∈ xs.foldl addU u ↔ y ∈ u ∨ y ∈ xs := by
  induction xs with
  | nil => intro u y; simp
  | cons x r ih =>
    intro u y
    rw [List.foldl_cons, ih]
    unfold addU
    split
    · rename_i h
      constructor
      · rintro (a | a)
        · exact .inl a
        · exact .inr (.tail _ a)
      · rintro (a | a)
        · exact .inl a
        · rcases List.mem_cons.mp a with rfl | a
          · exact .inl h
          · exact .inr a
    · simp [or_assoc]
theorem addU_nodup {u : List Str} {x : Str} (h : u.Nodup) : (addU u x).Nodup := by
  unfold addU
  split
  · exact h
  · rename_i hx
    exact List.nodup_append.mpr ⟨h, by simp, fun a ha b hb e => hx (by simp at hb; subst hb; exact e ▸ ha)⟩
theorem foldU_nodup (xs : List Str) : ∀ u : List Str, u.Nodup → (xs.foldl addU u).Nodup := by
  induction xs with
  | nil => intro u h; exact h
  | cons x r ih => intro u h; exact ih _ (addU_nodup h)
theorem mem_dedup {xs : List Str} {y : Str} : y ∈ dedup xs ↔ y ∈ xs := by unfold dedup; rw [foldU_mem]; simp
theorem dedup_nodup (xs : List Str) : (dedup xs).Nodup := foldU_nodup xs [] List.nodup_nil
theorem dedup_len (xs : List Str) : (dedup xs).length ≤ xs.length := by have := foldU_len xs []; simpa [dedup] using this
theorem in_val (x : Str) (ss : List Str) : inD (.str x) (sL ss) = some (decide (x ∈ ss)) := inL_strs x ss
theorem sL_len {ss : List Str} (h : ss.length < lim) : (ss.map D.str).length < lim := by rw [List.length_map]; exact h
theorem sL_app (ss : List Str) (x : Str) : D.list (ss.map D.str ++ [.str x]) = sL (ss ++ [x]) := by unfold sL; rw [List.map_append]; rfl
theorem heads_loop (dg : D) (g : Gr) (hs : List Str) (last : Slot) (hl : hs.length + g.length < lim) :
    ∃ last', forL (putN 2) B_heads_of_1 (g.map ruleD) [.val 0 dg, .val 1 (sL hs), last] = some (.next [.val 0 dg, .val 1 (sL ((g.map (·.1)).foldl addU hs)), last']) := by
  induction g generalizing hs last with
  | nil => exact ⟨last, rfl⟩
  | cons r g ih =>
    rw [List.length_cons] at hl
    obtain ⟨last', ih⟩ := ih (addU hs r.1) (.val 0 (ruleD r)) (by have := addU_len hs r.1; omega)
    refine ⟨last', for_cons (σ₁ := [.val 0 dg, .val 1 (sL hs), .val 0 (ruleD r)]) rfl ?_ ih⟩
    have ht : cmpB (notO inD) (bin idxD (nameF 2) (fun _ => some (D.int 0))) (nameF 1) (view [.val 0 dg, .val 1 (sL hs), .val 0 (ruleD r)]) = some (!decide (r.1 ∈ hs)) := cmp_val (a := .str r.1) (b := sL hs) rfl rfl (not_val (in_val _ _))
    unfold B_heads_of_1 addU
    by_cases h : r.1 ∈ hs
    · rw [if_pos h]
      exact st_skip (ht.trans (by rw [decide_eq_true h]; rfl)) rfl
    · rw [if_neg h]
      exact st_step (if_yes (ht.trans (by rw [decide_eq_false h]; rfl)) (st_step (app_val (d := .str r.1) rfl rfl rfl (sL_len (by omega)) (by rw [sL_app]; rfl)) rfl)) rfl
theorem φ_heads (g : Gr) (hg : g.length < lim) : φ_heads_of [gramD g] = some (sL (dedup (g.map (·.1)))) := by
  obtain ⟨last', h⟩ := heads_loop (gramD g) g [] .un (by simpa using hg)
  exact fnF_ret rfl (st_asg (d := sL []) (σ' := [.val 0 (gramD g), .val 1 (sL []), .un]) rfl rfl rfl (st_for (d := gramD g) (ds := g.map ruleD) rfl rfl rfl h (st_ret (d := sL (dedup (g.map (·.1)))) rfl rfl)))
theorem add_val {a b : List Str} (h : a.length + b.length ≤ lim) : addD (sL a) (sL b) = some (sL (a ++ b)) := by
  show (if _ then some (D.list (_ ++ _)) else none) = _
  rw [if_pos (by rw [List.length_map, List.length_map]; exact h), ← List.map_append]; rfl
theorem compL_map {α : Type} {upd : EEnv → D → Option EEnv} {bs : EEnv → Option Bool} {fe : EEnv → Option D} {me : EEnv → Mk} {ρ : EEnv} (enc : α → D) (keep : α → Bool) (val : α → D) (xs : List α)
    (h : ∀ a ∈ xs, ∃ ρ₁, upd ρ (enc a) = some ρ₁ ∧ bs ρ₁ = some (keep a) ∧ (keep a = true → fe ρ₁ = some (val a) ∧ (me ρ₁).cl (val a) = true)) : compL upd bs fe me ρ (xs.map enc) = some ((xs.filter keep).map val) := by
  induction xs with
  | nil => rfl
  | cons a xs ih =>
    obtain ⟨ρ₁, h1, h2, h3⟩ := h a (.head _)
    have ih := ih fun b hb => h b (.tail _ hb)
    rw [List.map_cons, compL, h1, Option.bind_some, h2, Option.bind_some, List.filter_cons]
    cases hk : keep a with
    | false => exact ih
    | true =>
      obtain ⟨h4, h5⟩ := h3 hk
      rw [if_pos rfl, h4, Option.bind_some, if_pos h5, ih]; rfl
theorem compF_eq {n k : Nat} {tt : Bool} {fi : EEnv → Option D} {mi : EEnv → Mk} {upd : EEnv → D → Option EEnv} {bs : EEnv → Option Bool} {fe : EEnv → Option D} {me : EEnv → Mk} {ρ : EEnv} {d : D} {ds outs : List D} (h1 : ρ.length = n) (h2 : fi ρ = some d) (h3 : d.items = some ds)
    (h4 : (((mi ρ).cat || ds.all D.imm) && (!tt || d.isL)) = true) (h5 : compL upd bs fe me (ρ ++ List.replicate k none) ds = some outs) : compF n k tt fi mi upd bs fe me ρ = some (.list outs) := by
  unfold compF
  rw [if_pos h1, h2, Option.bind_some, h3, Option.bind_some, if_pos h4, h5]
  rfl
theorem unBools_map {α : Type} (f : α → Bool) (xs : List α) : unBools (xs.map fun a => D.bool (f a)) = some (xs.map f) := by
  induction xs with
  | nil => rfl
  | cons x r ih => rw [List.map_cons, unBools, ih]; rfl
theorem eqL_strsN (n : Nat) (a b : List Str) (h : a.length = b.length) : eqL (eqD n) (a.map .str) (b.map .str) = some (decide (a = b)) := by
  induction a generalizing b with
  | nil => cases b with | nil => rfl | cons => cases h
  | cons x a ih =>
    cases b with
    | nil => cases h
    | cons y b =>
      have e : eqD n (.str x) (.str y) = some (x == y) := by cases n <;> rfl
      rw [List.map_cons, List.map_cons, eqL_cons, e, Option.bind_some, ih b (Nat.succ.inj h), Option.bind_some]
      refine congrArg some (Bool.eq_iff_iff.mpr ?_)
      rw [Bool.and_eq_true, beq_iff_eq, decide_eq_true_iff, decide_eq_true_iff, List.cons.injEq]
theorem eqD_strsN (n : Nat) (a b : List Str) : eqD (n + 1) (.list (a.map .str)) (.list (b.map .str)) = some (decide (a = b)) := by
  rw [eqD_list, List.length_map, List.length_map]
  by_cases h : a.length = b.length
  · rw [if_pos h, eqL_strsN n a b h]
  · rw [if_neg h, decide_eq_false fun (e : a = b) => h (congrArg List.length e)]
theorem eqD_strs (a b : List Str) : eqD 40 (.list (a.map .str)) (.list (b.map .str)) = some (decide (a = b)) := eqD_strsN 39 a b
theorem idx_list {α : Type} (enc : α → D) {xs : List α} {k : Nat} {x : α} (hk : k < 1000) (h : xs[k]? = some x) : idxD (.list (xs.map enc)) (.int (k : Int)) = some (enc x) := by
  show (if (0 : Int) ≤ (k : Int) ∧ (k : Int) ≤ (lim : Int) then (xs.map enc)[(k : Int).toNat]? else none) = _
  rw [if_pos (by rw [lim_eq]; omega), Int.toNat_natCast, List.getElem?_map, h]; rfl
theorem slice_from {f : EEnv → Option D} {lo : EEnv → Option (Option Nat)} {ρ : EEnv} {body : List Str} {k : Nat} (h1 : f ρ = some (sL body)) (h2 : lo ρ = some (some k)) : sliceF f lo (fun _ => some none) ρ = some (sL (body.drop k)) := by
  unfold sliceF
  rw [h1, Option.bind_some, h2]
  show some (D.list ((body.map D.str).drop k)) = _
  rw [← List.map_drop]; rfl
theorem nat_val {f : EEnv → Option D} {ρ : EEnv} {k : Nat} (h : f ρ = some (.int (k : Int))) : natF f ρ = some (some k) := by
  unfold natF
  rw [h]
  show (if (0 : Int) ≤ (k : Int) then some (some (k : Int).toNat) else none) = _
  rw [if_pos (by omega), Int.toNat_natCast]
theorem items_rng {a b c : Int} (h : (c = 1 ∨ c = -1) ∧ (-1000000 < a ∧ a < 1000000) ∧ (-1000000 < b ∧ b < 1000000)) : D.items (.rng a b c) = some ((List.range (rngN a b c)).map fun (i : Nat) => .int (a + (i : Int) * c)) := if_pos h
theorem rng_items (n : Nat) (h : n ≤ 1000) : D.items (.rng 0 (n : Int) 1) = some ((List.range n).map fun i : Nat => .int (i : Int)) := by
  have hr : rngN 0 (n : Int) 1 = n := by show ((n : Int) - 0).toNat = n; omega
  rw [items_rng ⟨.inl rfl, by omega, by omega⟩, hr]
  exact congrArg some (List.map_congr_left fun i _ => by rw [Int.mul_one, Int.zero_add])
noncomputable def storeG {α : Type} : List (Str × α) → Str → α → List (Str × α)
  | [], k, v => [(k, v)]
  | (k₀, v₀) :: r, k, v => if k₀ = k then (k₀, v) :: r else (k₀, v₀) :: storeG r k v
theorem storeG_map {α : Type} (enc : α → D) (F : List (Str × α)) (k : Str) (v : α) : storedD (F.map fun p => (p.1, enc p.2)) k (enc v) = (storeG F k v).map fun p => (p.1, enc p.2) := by
  induction F with
  | nil => rfl
  | cons p r ih =>
    obtain ⟨k₀, v₀⟩ := p
    rw [List.map_cons]
    unfold storedD storeG
    split
    · rfl
    · rw [List.map_cons, ih]
theorem storeG_lookup {α : Type} (F : List (Str × α)) (k : Str) (v : α) (s : Str) : (storeG F k v).lookup s = if s = k then some v else F.lookup s := by
  induction F with
  | nil =>
    unfold storeG
    rw [List.lookup_cons]
    by_cases h : s = k
    · subst h; simp
    · have hb : (s == k) = false := by simpa using h
      rw [hb, if_neg h]
  | cons p r ih =>
    obtain ⟨k₀, v₀⟩ := p
    unfold storeG
    by_cases h : k₀ = k
    · subst h
      rw [if_pos rfl, List.lookup_cons, List.lookup_cons]
      by_cases h' : s = k₀
      · subst h'; simp
      · have hb : (s == k₀) = false := by simpa using h'
        rw [hb, if_neg h']
    · rw [if_neg h, List.lookup_cons, List.lookup_cons, ih]
      by_cases h' : s = k₀
      · subst h'; simp [h]
      · have hb : (s == k₀) = false := by simpa using h'
        rw [hb]
theorem lookup_none {α : Type} {F : List (Str × α)} {s : Str} : F.lookup s = none ↔ s ∉ F.map (·.1) := by
  induction F with
  | nil => simp
  | cons p r ih =>
    obtain ⟨k₀, v₀⟩ := p
    rw [List.lookup_cons, List.map_cons]
    by_cases h : s = k₀
    · subst h; simp
    · have hb : (s == k₀) = false := by simpa using h
      rw [hb, List.mem_cons]
      simp only [h, false_or]
      exact ih
theorem lookup_some {α : Type} {F : List (Str × α)} {s : Str} (h : s ∈ F.map (·.1)) : ∃ v, F.lookup s = some v := by
  cases e : F.lookup s with
  | none => exact absurd h (lookup_none.mp e)
  | some v => exact ⟨v, rfl⟩
theorem storeG_keys {α : Type} {F : List (Str × α)} {k : Str} {v : α} (h : k ∈ F.map (·.1)) : (storeG F k v).map (·.1) = F.map (·.1) := by
  induction F with
  | nil => cases h
  | cons p r ih =>
    obtain ⟨k₀, v₀⟩ := p
    unfold storeG
    by_cases e : k₀ = k
    · rw [if_pos e]; rfl
    · rw [if_neg e, List.map_cons, List.map_cons, ih ((List.mem_cons.mp h).resolve_left fun q => e q.symm)]
theorem storeG_new {α : Type} {F : List (Str × α)} {k : Str} {v : α} (h : k ∉ F.map (·.1)) : storeG F k v = F ++ [(k, v)] := by
  induction F with
  | nil => rfl
  | cons p r ih =>
    obtain ⟨k₀, v₀⟩ := p
    rw [List.map_cons, List.mem_cons, not_or] at h
    unfold storeG
    rw [if_neg (fun q => h.1 q.symm), ih h.2]; rfl
theorem lookup_enc {α : Type} (enc : α → D) (F : List (Str × α)) (s : Str) : (F.map fun p => (p.1, enc p.2)).lookup s = (F.lookup s).map enc := by
  induction F with
  | nil => rfl
  | cons p r ih =>
    obtain ⟨k₀, v₀⟩ := p
    rw [List.map_cons, List.lookup_cons, List.lookup_cons]
    cases s == k₀ with
    | true => rfl
    | false => exact ih
noncomputable def iL (ns : List Int) : D := .list (ns.map .int)
theorem eqD_self (n : Nat) (l : List Str) : eqD (n + 1) (sL l) (sL l) = some true := (eqD_strsN n l l).trans (by rw [decide_eq_true rfl])
theorem eqD_rule (n : Nat) (r : Str × List Str) : eqD (n + 2) (ruleD r) (ruleD r) = some true := by
  have h1 : eqD (n + 1) (.str r.1) (.str r.1) = some true := by show some (r.1 == r.1) = _; rw [beq_self_eq_true]
  unfold ruleD
  rw [eqD_tup, eqL_cons, h1, Option.bind_some, eqL_cons, eqD_self n]
  rfl
theorem eqL_rules (n : Nat) (g : Gr) : eqL (eqD (n + 2)) (g.map ruleD) (g.map ruleD) = some true := by
  induction g with
  | nil => rfl
  | cons r g ih => rw [List.map_cons, eqL_cons, eqD_rule, Option.bind_some, ih]; rfl
theorem eqD_gram (g : Gr) : eqD 40 (gramD g) (gramD g) = some true := by
  unfold gramD
  rw [eqD_list, if_pos rfl]
  exact eqL_rules 37 g
theorem fmodN (c : Int) (m : Nat) (hm : 0 < m) : ∃ k : Nat, k < m ∧ c.fmod (m : Int) = (k : Int) := by
  have h1 := Int.fmod_nonneg_of_pos c (b := (m : Int)) (by omega)
  have h2 := Int.fmod_lt_of_pos c (b := (m : Int)) (by omega)
  exact ⟨(c.fmod (m : Int)).toNat, by omega, by omega⟩
theorem slice_to {f : EEnv → Option D} {hi : EEnv → Option (Option Nat)} {ρ : EEnv} {body : List Str} {k : Nat} (h1 : f ρ = some (sL body)) (h2 : hi ρ = some (some k)) : sliceF f (fun _ => some none) hi ρ = some (sL (body.take k)) := by
  unfold sliceF
  rw [h1, Option.bind_some, Option.bind_some, h2]
  show some (D.list ((body.map D.str).take k)) = _
  rw [← List.map_take]; rfl
theorem filter_true {α : Type} (l : List α) : l.filter (fun _ => true) = l := List.filter_eq_self.mpr fun _ _ => rfl
end Mine

set_option autoImplicit false
open PySem PyProof.Rows
namespace Mine
set_option linter.unusedVariables false
set_option linter.unusedSimpArgs false
set_option maxRecDepth 100000

/-! 1-02: the leftmost rewriter -/
noncomputable abbrev hdL (g : Gr) : List Str := dedup (g.map (·.1))
/-- before the first head, it, behind it -/
noncomputable def cutH (hs : List Str) : List Str → Option (List Str × Str × List Str)
  | [] => none
  | s :: r => if s ∈ hs then some ([], s, r) else (cutH hs r).map fun p => (s :: p.1, p.2.1, p.2.2)
structure CutX (hs f p : List Str) (x : Str) (q : List Str) : Prop where
  eq : f = p ++ x :: q
  hx : x ∈ hs
  np : ∀ s ∈ p, s ∉ hs
theorem cut_some {hs f p q : List Str} {x : Str} (h : cutH hs f = some (p, x, q)) : CutX hs f p x q := by
  induction f generalizing p with
  | nil => cases h
  | cons s r ih =>
    unfold cutH at h
    by_cases e : s ∈ hs
    · rw [if_pos e] at h; cases h; exact ⟨rfl, e, fun _ h => nomatch h⟩
    · rw [if_neg e] at h
      obtain ⟨⟨p', x', q'⟩, h1, h2⟩ := Option.map_eq_some_iff.mp h
      cases h2
      obtain ⟨a, b, c⟩ := ih h1
      exact ⟨by rw [a]; rfl, b, fun t ht => (List.mem_cons.mp ht).elim (fun z => z ▸ e) (c t)⟩
theorem cut_none {hs f : List Str} (h : cutH hs f = none) : ∀ s ∈ f, s ∉ hs := by
  induction f with
  | nil => exact fun _ h => nomatch h
  | cons s r ih =>
    unfold cutH at h
    by_cases e : s ∈ hs
    · rw [if_pos e] at h; cases h
    · rw [if_neg e] at h
      exact fun t ht => (List.mem_cons.mp ht).elim (fun z => z ▸ e) (ih (Option.map_eq_none_iff.mp h) t)
theorem cut_app {hs p q : List Str} {x : Str} (hp : ∀ s ∈ p, s ∉ hs) (hx : x ∈ hs) : cutH hs (p ++ x :: q) = some (p, x, q) := by
  induction p with
  | nil => exact if_pos hx
  | cons s p ih =>
    rw [List.cons_append]
    unfold cutH
    rw [if_neg (hp s (.head _)), ih fun t ht => hp t (.tail _ ht)]; rfl
noncomputable def stp (g : Gr) (hs f : List Str) (k : Int) : Option (List Str) :=
  (cutH hs f).bind fun p => if 0 ≤ k then (g[k.toNat]?).bind fun r => if r.1 = p.2.1 then some (p.1 ++ r.2 ++ p.2.2) else none else none
noncomputable def rwt (g : Gr) (hs : List Str) : List Str → List Int → Option (List Str)
  | f, [] => some f
  | f, k :: ks => (stp g hs f k).bind fun f' => rwt g hs f' ks
noncomputable def optD : Option (List Str) → D
  | none => .none
  | some f => sL f
noncomputable def intL (ks : List Int) : D := .list (ks.map .int)
noncomputable def plen (hs f : List Str) : Nat := match cutH hs f with | none => f.length | some p => p.1.length
theorem plen_nil (hs : List Str) : plen hs [] = 0 := rfl
theorem plen_in {hs r : List Str} {s : Str} (h : s ∈ hs) : plen hs (s :: r) = 0 := by unfold plen cutH; rw [if_pos h]; rfl
theorem plen_out {hs r : List Str} {s : Str} (h : s ∉ hs) : plen hs (s :: r) = plen hs r + 1 := by
  unfold plen
  rw [show cutH hs (s :: r) = (cutH hs r).map fun p => (s :: p.1, p.2.1, p.2.2) from if_neg h]
  cases cutH hs r with
  | none => rfl
  | some p => rfl
noncomputable def rpS (g : Gr) (d1 : D) (hs f : List Str) (k : D) (s5 : Slot) : List Slot := [.val 0 (gramD g), .val 0 d1, .val 0 (sL hs), .val 0 (sL f), .val 0 k, s5]
theorem len_val {f : EEnv → Option D} {ρ : EEnv} {α : Type} {enc : α → D} {xs : List α} (h : f ρ = some (.list (xs.map enc))) : un lenD f ρ = some (.int (xs.length : Int)) := by
  refine un_val h ?_
  show some (D.int (((xs.map enc).length : Nat) : Int)) = _
  rw [List.length_map]
theorem drop_cut {p q : List Str} {x : Str} : (p ++ x :: q).drop (p.length + 1) = q := by
  induction p with
  | nil => rfl
  | cons a p ih => exact ih
theorem splice_val {ff fb fi : EEnv → Option D} {ρ : EEnv} {p q b : List Str} {x : Str} (h1 : ff ρ = some (sL (p ++ x :: q))) (h2 : fi ρ = some (.int (p.length : Int))) (h3 : fb ρ = some (sL b)) (hl : p.length + b.length + q.length ≤ lim) :
    bin addD (bin addD (sliceF ff (fun _ => some none) (natF fi)) fb) (sliceF ff (natF (bin addD fi (fun _ => some (D.int 1)))) (fun _ => some none)) ρ = some (sL (p ++ b ++ q)) := by
  have e1 := slice_to (f := ff) h1 (nat_val h2)
  have e2 := slice_from (f := ff) (k := p.length + 1) h1 (nat_val (f := bin addD fi (fun _ => some (D.int 1))) (bin_val (a := .int (p.length : Int)) (b := .int 1) h2 rfl rfl))
  rw [List.take_left] at e1
  rw [drop_cut] at e2
  exact bin_val (a := sL (p ++ b)) (b := sL q) (bin_val (a := sL p) (b := sL b) e1 h3 (add_val (by omega))) e2 (add_val (by rw [List.length_append]; omega))
theorem place_while (g : Gr) (d1 k : D) (hs rest pre : List Str) (n : Nat) (hn : rest.length < n) (hl : pre.length + rest.length < 1000) :
    whileL (andB (cmpB ltD (nameF 5) (un lenD (nameF 3))) (andB (cmpB (notO inD) (bin idxD (nameF 3) (nameF 5)) (nameF 2)) (fun _ => some true))) B_replayed_1 n (rpS g d1 hs (pre ++ rest) k (.val 0 (.int (pre.length : Int)))) =
      some (.next (rpS g d1 hs (pre ++ rest) k (.val 0 (.int ((pre.length + plen hs rest : Nat) : Int))))) := by
  induction rest generalizing pre n with
  | nil =>
    obtain ⟨n, rfl⟩ : ∃ m, n = m + 1 := ⟨n - 1, by rw [List.length_nil] at hn; omega⟩
    have h1 : cmpB ltD (nameF 5) (un lenD (nameF 3)) (view (rpS g d1 hs (pre ++ []) k (.val 0 (.int (pre.length : Int))))) = some false := by
      refine (cmp_val (a := .int (pre.length : Int)) (b := .int ((pre ++ []).length : Int)) rfl (len_val (enc := D.str) rfl) rfl).trans (congrArg some (decide_eq_false ?_))
      rw [List.append_nil]; exact Int.lt_irrefl _
    rw [plen_nil]
    refine while_no ?_
    unfold andB
    rw [h1]; rfl
  | cons s r ih =>
    obtain ⟨n, rfl⟩ : ∃ m, n = m + 1 := ⟨n - 1, by omega⟩
    rw [List.length_cons] at hn hl
    have hk : (pre ++ s :: r)[pre.length]? = some s := by rw [List.getElem?_append_right (Nat.le_refl _), Nat.sub_self]; rfl
    have ht := and_val (ρ := view (rpS g d1 hs (pre ++ s :: r) k (.val 0 (.int (pre.length : Int))))) (b₁ := cmpB ltD (nameF 5) (un lenD (nameF 3))) (x := true) (b₂ := cmpB (notO inD) (bin idxD (nameF 3) (nameF 5)) (nameF 2)) (y := !decide (s ∈ hs))
      ((cmp_val (a := .int (pre.length : Int)) (b := .int ((pre ++ s :: r).length : Int)) rfl (len_val (enc := D.str) rfl) rfl).trans (congrArg some (decide_eq_true (by rw [List.length_append, List.length_cons]; omega))))
      (cmp_val (a := .str s) (b := sL hs) (bin_val (a := sL (pre ++ s :: r)) (b := .int (pre.length : Int)) rfl rfl (idx_list D.str (by omega) hk)) rfl (not_val (in_val s hs)))
    by_cases e : s ∈ hs
    · rw [plen_in e]
      exact while_no (ht.trans (by rw [decide_eq_true e]; rfl))
    · rw [plen_out e]
      have h1 := ih (pre ++ [s]) n (by omega) (by rw [List.length_append, List.length_singleton]; omega)
      rw [List.append_assoc, List.length_append, List.length_singleton] at h1
      refine while_yes (σ' := rpS g d1 hs (pre ++ s :: r) k (.val 0 (.int ((pre.length + 1 : Nat) : Int)))) (ht.trans (by rw [decide_eq_false e]; rfl)) (st_asg (d := .int ((pre.length + 1 : Nat) : Int)) (bin_val (a := .int (pre.length : Int)) (b := .int 1) rfl rfl rfl) rfl rfl rfl) (h1.trans ?_)
      rw [Nat.add_assoc, Nat.add_comm 1]; rfl
theorem stp_some {g : Gr} {hs f f' : List Str} {k : Int} (h : stp g hs f k = some f') : ∃ p x q r, cutH hs f = some (p, x, q) ∧ 0 ≤ k ∧ g[k.toNat]? = some r ∧ r.1 = x ∧ f' = p ++ r.2 ++ q := by
  obtain ⟨⟨p, x, q⟩, h1, h⟩ := Option.bind_eq_some_iff.mp h
  obtain ⟨h2, h⟩ := ite_inv2 h
  obtain ⟨r, h3, h⟩ := Option.bind_eq_some_iff.mp h
  obtain ⟨h4, h⟩ := ite_inv h
  exact ⟨p, x, q, r, h1, h2, h3, h4, h.symm⟩
theorem stp_len {g : Gr} {hs f f' : List Str} {k : Int} (hb : ∀ r ∈ g, r.2.length ≤ 3) (h : stp g hs f k = some f') : f'.length ≤ f.length + 2 := by
  obtain ⟨p, x, q, r, h1, _, h3, _, rfl⟩ := stp_some h
  have hr := hb r (List.mem_of_getElem? h3)
  rw [(cut_some h1).eq]
  simp only [List.length_append, List.length_cons]
  omega
/-- one step of replayed -/
theorem rp_step (g : Gr) (d1 : D) (hs f : List Str) (k : Int) (s5 : Slot) (hg : g.length < 1000) (hl : f.length < 990) (hb : ∀ r ∈ g, r.2.length ≤ 3) :
    (stp g hs f k = none ∧ B_replayed_2 (rpS g d1 hs f (.int k) s5) = some (.ret .none)) ∨ ∃ f' s5', stp g hs f k = some f' ∧ B_replayed_2 (rpS g d1 hs f (.int k) s5) = some (.next (rpS g d1 hs f' (.int k) s5')) := by
  have hw := place_while g d1 (.int k) hs f [] 1000 (by omega) (by show 0 + f.length < 1000; omega)
  rw [List.nil_append, List.length_nil, Nat.zero_add] at hw
  have go : ∀ {R}, (seqG (ifG (orB (cmpB (eqD 40) (nameF 5) (un lenD (nameF 3))) (orB (cmpB ltD (nameF 4) (fun _ => some (D.int 0))) (orB (cmpB (fun a b => leD b a) (nameF 4) (un lenD (nameF 0))) (orB (cmpB (notO (eqD 40)) (bin idxD (bin idxD (nameF 0) (nameF 4)) (fun _ => some (D.int 0))) (bin idxD (nameF 3) (nameF 5))) (fun _ => some false))))) (seqG (retG false (fun _ => some D.none) (fun _ => Mk.fr)) (fun ρ => some (Out.next ρ))) (fun ρ => some (Out.next ρ)))
      (seqG (asgG 3 0 (bin addD (bin addD (sliceF (nameF 3) (fun _ => some none) (natF (nameF 5))) (bin idxD (bin idxD (nameF 0) (nameF 4)) (fun _ => some (D.int 1)))) (sliceF (nameF 3) (natF (bin addD (nameF 5) (fun _ => some (D.int 1)))) (fun _ => some none))) (catM (catM (copyM (nameM 3)) (childM (childM (nameM 0)))) (copyM (nameM 3)))) (fun ρ => some (Out.next ρ)))) (rpS g d1 hs f (.int k) (.val 0 (.int (plen hs f : Int)))) = R → B_replayed_2 (rpS g d1 hs f (.int k) s5) = R := fun h => st_asg (d := .int 0) rfl rfl rfl (st_step hw h)
  have c1 : cmpB (eqD 40) (nameF 5) (un lenD (nameF 3)) (view (rpS g d1 hs f (.int k) (.val 0 (.int (plen hs f : Int))))) = some ((plen hs f : Int) == (f.length : Int)) := cmp_val (a := .int (plen hs f : Int)) (b := .int (f.length : Int)) rfl (len_val (enc := D.str) rfl) rfl
  have c2 : cmpB ltD (nameF 4) (fun _ => some (D.int 0)) (view (rpS g d1 hs f (.int k) (.val 0 (.int (plen hs f : Int))))) = some (decide (k < 0)) := cmp_val (a := .int k) (b := .int 0) rfl rfl rfl
  have c3 : cmpB (fun a b => leD b a) (nameF 4) (un lenD (nameF 0)) (view (rpS g d1 hs f (.int k) (.val 0 (.int (plen hs f : Int))))) = some (decide ((g.length : Int) ≤ k)) := cmp_val (a := .int k) (b := .int (g.length : Int)) rfl (len_val (enc := ruleD) rfl) rfl
  have yes : ∀ {b : EEnv → Option Bool} {ρ}, b ρ = some true → ∀ c, orB b c ρ = some true := fun h c => by unfold orB; rw [h]; rfl
  have no : ∀ {b c : EEnv → Option Bool} {ρ} {x}, b ρ = some false → c ρ = some x → orB b c ρ = some x := fun h h' => by unfold orB; rw [h]; exact h'
  have ret : ∀ {b : EEnv → Option Bool} {G}, b (view (rpS g d1 hs f (.int k) (.val 0 (.int (plen hs f : Int))))) = some true → seqG (ifG b (seqG (retG false (fun _ => some D.none) (fun _ => Mk.fr)) (fun ρ => some (Out.next ρ))) (fun ρ => some (Out.next ρ))) G (rpS g d1 hs f (.int k) (.val 0 (.int (plen hs f : Int)))) = some (.ret .none) := fun h => seqG_ret (if_yes h (st_ret (d := .none) rfl rfl))
  cases hc : cutH hs f with
  | none =>
    have hp : plen hs f = f.length := by unfold plen; rw [hc]
    refine .inl ⟨by unfold stp; rw [hc]; rfl, go (ret (yes (c1.trans (by rw [hp, beq_self_eq_true])) _))⟩
  | some t =>
    obtain ⟨p, x, q⟩ := t
    obtain ⟨ef, hx, hnp⟩ := cut_some hc
    have hp : plen hs f = p.length := by unfold plen; rw [hc]
    have hlt : p.length < f.length := by rw [ef, List.length_append, List.length_cons]; omega
    have c1' := c1.trans (congrArg some (show ((plen hs f : Int) == (f.length : Int)) = false by rw [beq_eq_false_iff_ne, hp]; omega))
    by_cases k0 : k < 0
    · refine .inl ⟨by unfold stp; rw [hc, Option.bind_some, if_neg (by omega)], go (ret (no c1' (yes (c2.trans (by rw [decide_eq_true k0])) _)))⟩
    have c2' := c2.trans (congrArg some (decide_eq_false k0))
    by_cases kn : (g.length : Int) ≤ k
    · refine .inl ⟨by unfold stp; rw [hc, Option.bind_some, if_pos (by omega), List.getElem?_eq_none (by omega)]; rfl, go (ret (no c1' (no c2' (yes (c3.trans (by rw [decide_eq_true kn])) _))))⟩
    have c3' := c3.trans (congrArg some (decide_eq_false kn))
    obtain ⟨m, rfl⟩ : ∃ m : Nat, k = (m : Int) := ⟨k.toNat, by omega⟩
    have hm : m < g.length := by omega
    have gm : g[m]? = some g[m] := List.getElem?_eq_getElem hm
    generalize g[m] = r at gm
    have vr : ∀ s3 s5, bin idxD (nameF 0) (nameF 4) (view (rpS g d1 hs s3 (.int (m : Int)) s5)) = some (ruleD r) := fun _ _ => bin_val (a := gramD g) (b := .int (m : Int)) rfl rfl (idx_list ruleD (by omega) gm)
    have fp : f[p.length]? = some x := by rw [ef, List.getElem?_append_right (Nat.le_refl _), Nat.sub_self]; rfl
    have c4 : cmpB (notO (eqD 40)) (bin idxD (bin idxD (nameF 0) (nameF 4)) (fun _ => some (D.int 0))) (bin idxD (nameF 3) (nameF 5)) (view (rpS g d1 hs f (.int (m : Int)) (.val 0 (.int (plen hs f : Int))))) = some (!(r.1 == x)) :=
      cmp_val (a := .str r.1) (b := .str x) (bin_val (a := ruleD r) (b := .int 0) (vr _ _) rfl rfl) (bin_val (a := sL f) (b := .int (plen hs f : Int)) rfl rfl (by rw [hp]; exact idx_list D.str (by omega) fp)) rfl
    have hst : stp g hs f (m : Int) = if r.1 = x then some (p ++ r.2 ++ q) else none := by unfold stp; rw [hc, Option.bind_some, if_pos (by omega), show (m : Int).toNat = m from rfl, gm]; rfl
    by_cases e : r.1 = x
    · rw [if_pos e] at hst
      have hr3 := hb r (List.mem_of_getElem? gm)
      have hfl : f.length = p.length + (q.length + 1) := by rw [ef, List.length_append, List.length_cons]
      refine .inr ⟨p ++ r.2 ++ q, .val 0 (.int (plen hs f : Int)), hst, go (st_skip (no c1' (no c2' (no c3' (no (c4.trans (by rw [e, beq_self_eq_true]; rfl)) rfl)))) (st_asg (d := sL (p ++ r.2 ++ q)) (splice_val (x := x) (by rw [← ef]; rfl) (by rw [hp]; rfl) (bin_val (a := ruleD r) (b := .int 1) (vr _ _) rfl rfl) (by rw [lim_eq]; omega)) rfl rfl rfl))⟩
    · rw [if_neg e] at hst
      exact .inl ⟨hst, go (ret (no c1' (no c2' (no c3' (yes (c4.trans (by rw [show (r.1 == x) = false by rw [beq_eq_false_iff_ne]; exact e]; rfl)) _)))))⟩
theorem rp_loop (g : Gr) (d1 : D) (hs : List Str) (hg : g.length < 1000) (hb : ∀ r ∈ g, r.2.length ≤ 3) (ks : List Int) (f : List Str) (s4 s5 : Slot) (hl : f.length + 2 * ks.length < 900) :
    (rwt g hs f ks = none ∧ forL (putN 4) B_replayed_2 (ks.map .int) [.val 0 (gramD g), .val 0 d1, .val 0 (sL hs), .val 0 (sL f), s4, s5] = some (.ret .none)) ∨
      ∃ f' s4' s5', rwt g hs f ks = some f' ∧ forL (putN 4) B_replayed_2 (ks.map .int) [.val 0 (gramD g), .val 0 d1, .val 0 (sL hs), .val 0 (sL f), s4, s5] = some (.next [.val 0 (gramD g), .val 0 d1, .val 0 (sL hs), .val 0 (sL f'), s4', s5']) := by
  induction ks generalizing f s4 s5 with
  | nil => exact .inr ⟨f, s4, s5, rfl, rfl⟩
  | cons k ks ih =>
    rw [List.length_cons] at hl
    have hr : rwt g hs f (k :: ks) = (stp g hs f k).bind fun f' => rwt g hs f' ks := rfl
    rw [List.map_cons, hr]
    rcases rp_step g d1 hs f k (clr 4 s5) hg (by omega) hb with ⟨h1, h2⟩ | ⟨f', s5', h1, h2⟩
    · exact .inl ⟨by rw [h1]; rfl, for_ret (σ₁ := rpS g d1 hs f (.int k) (clr 4 s5)) rfl h2⟩
    · have := stp_len hb h1
      rw [h1]
      rcases ih f' (.val 0 (.int k)) s5' (by omega) with ⟨h3, h4⟩ | ⟨f2, t4, t5, h3, h4⟩
      · exact .inl ⟨h3, for_cons (σ₁ := rpS g d1 hs f (.int k) (clr 4 s5)) rfl h2 h4⟩
      · exact .inr ⟨f2, t4, t5, h3, for_cons (σ₁ := rpS g d1 hs f (.int k) (clr 4 s5)) rfl h2 h4⟩
theorem φ_rp (g g' : Gr) (st : Str) (b0 : List Str) (hgc : g = (st, b0) :: g') (hg : g.length ≤ 20) (hb : ∀ r ∈ g, r.2.length ≤ 3) (ks : List Int) (hk : ks.length ≤ 100) : φ_replayed [gramD g, intL ks] = some (optD (rwt g (hdL g) [st] ks)) := by
  have hhs := φ_heads g (by rw [lim_eq]; omega)
  have hst : ∀ hs, listF (consF (bin idxD (bin idxD (nameF 0) (fun _ => some (D.int 0))) (fun _ => some (D.int 0))) (fun _ => some [])) (view [.val 0 (gramD g), .val 0 (intL ks), .val 0 (sL hs), .un, .un, .un]) = some (sL [st]) := fun _ => by rw [hgc]; rfl
  rcases rp_loop g (intL ks) (hdL g) (by omega) hb ks [st] .un .un (by show 1 + _ < 900; omega) with ⟨h1, h2⟩ | ⟨f, s4, s5, h1, h2⟩
  · rw [h1]
    exact fnF_ret rfl (st_asg (d := sL (hdL g)) (call_val (ds := [gramD g]) rfl hhs) rfl rfl (st_asg (d := sL [st]) (hst _) rfl rfl (seqG_ret ((forG_eq (d := intL ks) (ds := ks.map .int) rfl rfl rfl).trans h2))))
  · rw [h1]
    exact fnF_ret rfl (st_asg (d := sL (hdL g)) (call_val (ds := [gramD g]) rfl hhs) rfl rfl (st_asg (d := sL [st]) (hst _) rfl rfl (st_for (d := intL ks) (ds := ks.map .int) rfl rfl rfl h2 (st_ret (d := sL f) rfl rfl))))
end Mine

set_option autoImplicit false
open PySem PyProof.Rows
namespace Mine
set_option linter.unusedVariables false
set_option linter.unusedSimpArgs false
set_option maxRecDepth 100000

/-! 1-02: the law's own rewriter -/
noncomputable def nD (n : Nat) : D := .int (n : Int)
noncomputable def hdAt (g : Gr) (k : Nat) : Str := ((g[k]?).getD ("", [])).1
noncomputable def fnd (g : Gr) (f : List Str) : List Str := f.filter fun s => decide (s ∈ g.map (·.1))
noncomputable def ftL (g : Gr) (f : List Str) : List Nat := (List.range g.length).filter fun k => decide ([hdAt g k] = (fnd g f).take 1)
theorem fnd_cut (g : Gr) (f : List Str) : (fnd g f).take 1 = match cutH (hdL g) f with | none => [] | some p => [p.2.1] := by
  unfold fnd
  induction f with
  | nil => rfl
  | cons s r ih =>
    unfold cutH
    rw [List.filter_cons]
    by_cases e : s ∈ g.map (·.1)
    · rw [if_pos (decide_eq_true e), if_pos (mem_dedup.mpr e)]; rfl
    · rw [if_neg (by rw [decide_eq_false e]; decide), if_neg (fun q => e (mem_dedup.mp q)), ih]
      cases cutH (hdL g) r with
      | none => rfl
      | some p => rfl
theorem map_str (g : Gr) : sL (g.map (·.1)) = .list (g.map fun r => D.str r.1) := by unfold sL; rw [List.map_map]; rfl
theorem φ_fits (g : Gr) (f : List Str) (hg : g.length < 900) : φ__law_fits [gramD g, sL f] = some (.list ((ftL g f).map nD)) := by
  have h1 := compL_map (upd := setN 4) (bs := fun _ => some true) (fe := bin idxD (nameF 4) (fun _ => some (D.int 0))) (me := childM (nameM 4)) (ρ := view (ini 4 [gramD g, sL f]) ++ List.replicate 1 none) ruleD (fun _ => true) (fun r => D.str r.1) g fun r _ => ⟨_, rfl, rfl, fun _ => ⟨rfl, rfl⟩⟩
  rw [filter_true] at h1
  have k1 : K__law_fits_1 (view (ini 4 [gramD g, sL f])) = some (sL (g.map (·.1))) := (compF_eq (d := gramD g) (ds := g.map ruleD) rfl rfl rfl rfl h1).trans (by rw [map_str])
  have h2 := compL_map (upd := setN 4) (bs := cmpB inD (nameF 4) (nameF 2)) (fe := nameF 4) (me := nameM 4) (ρ := view [.val 0 (gramD g), .val 0 (sL f), .val 0 (sL (g.map (·.1))), .un] ++ List.replicate 1 none) D.str (fun s => decide (s ∈ g.map (·.1))) D.str f fun s _ =>
    ⟨_, rfl, cmp_val (a := .str s) (b := sL (g.map (·.1))) rfl rfl (in_val s _), fun _ => ⟨rfl, rfl⟩⟩
  have k2 : K__law_fits_2 (view [.val 0 (gramD g), .val 0 (sL f), .val 0 (sL (g.map (·.1))), .un]) = some (sL (fnd g f)) := compF_eq (d := sL f) (ds := f.map .str) rfl rfl rfl rfl h2
  have h3 := compL_map (upd := setN 4) (bs := cmpB (eqD 40) (listF (consF (bin idxD (bin idxD (nameF 0) (nameF 4)) (fun _ => some (D.int 0))) (fun _ => some []))) (sliceF (nameF 3) (fun _ => some none) (natF (fun _ => some (D.int 1))))) (fe := nameF 4) (me := nameM 4)
    (ρ := view [.val 0 (gramD g), .val 0 (sL f), .val 0 (sL (g.map (·.1))), .val 0 (sL (fnd g f))] ++ List.replicate 1 none) (fun i : Nat => .int (i : Int)) (fun k => decide ([hdAt g k] = (fnd g f).take 1)) nD (List.range g.length) fun k hk => by
      rw [List.mem_range] at hk
      have gk : g[k]? = some g[k] := List.getElem?_eq_getElem hk
      have hh : hdAt g k = g[k].1 := by unfold hdAt; rw [gk]; rfl
      rw [hh]
      refine ⟨_, rfl, cmp_val (a := sL [g[k].1]) (b := sL ((fnd g f).take 1)) ?_ (slice_to rfl rfl) (eqD_strs _ _), fun _ => ⟨rfl, rfl⟩⟩
      unfold listF
      rw [cons_val (d := .str g[k].1) (bin_val (a := ruleD g[k]) (b := .int 0) (bin_val (a := gramD g) (b := .int (k : Int)) rfl rfl (idx_list ruleD (by omega) gk)) rfl rfl) rfl]; rfl
  refine fnF_ret rfl ?_
  show G__law_fits (ini 4 [gramD g, sL f]) = _
  refine st_asg (d := sL (g.map (·.1))) (σ' := [.val 0 (gramD g), .val 0 (sL f), .val 0 (sL (g.map (·.1))), .un]) k1 rfl rfl ?_
  refine st_asg (d := sL (fnd g f)) (σ' := [.val 0 (gramD g), .val 0 (sL f), .val 0 (sL (g.map (·.1))), .val 0 (sL (fnd g f))]) k2 rfl rfl ?_
  refine st_ret (d := .list ((ftL g f).map nD)) ?_ rfl
  exact compF_eq (d := .rng 0 (g.length : Int) 1) rfl (un_val (len_val (enc := ruleD) rfl) rfl) (rng_items g.length (by omega)) rfl h3
theorem inL_ints (k : Int) (ns : List Nat) : inL (eqD 40) (.int k) (ns.map nD) = some (ns.any fun n => (n : Int) == k) := by
  induction ns with
  | nil => rfl
  | cons n ns ih =>
    rw [List.map_cons, inL, ih, List.any_cons]
    show some (((n : Int) == k) || _) = _
    rfl
theorem ft_any (g : Gr) (f : List Str) (k : Int) : (ftL g f).any (fun n => (n : Int) == k) = (stp g (hdL g) f k).isSome := by
  refine Bool.eq_iff_iff.mpr ?_
  rw [List.any_eq_true, Option.isSome_iff_exists]
  constructor
  · rintro ⟨n, hn, e⟩
    have e := beq_iff_eq.mp e
    subst e
    unfold ftL at hn
    rw [List.mem_filter, List.mem_range, decide_eq_true_iff, fnd_cut] at hn
    obtain ⟨h1, h2⟩ := hn
    cases hc : cutH (hdL g) f with
    | none => rw [hc] at h2; cases h2
    | some p =>
      rw [hc] at h2
      have gk : g[n]? = some g[n] := List.getElem?_eq_getElem h1
      have hh : hdAt g n = g[n].1 := by unfold hdAt; rw [gk]; rfl
      have h3 : g[n].1 = p.2.1 := hh ▸ (List.cons.inj h2).1
      exact ⟨p.1 ++ g[n].2 ++ p.2.2, by unfold stp; rw [hc, Option.bind_some, if_pos (by omega), show (n : Int).toNat = n from rfl, gk]; exact if_pos h3⟩
  · rintro ⟨f', h⟩
    obtain ⟨p, x, q, r, h1, h2, h3, h4, _⟩ := stp_some h
    refine ⟨k.toNat, ?_, by rw [beq_iff_eq]; omega⟩
    unfold ftL
    rw [List.mem_filter, List.mem_range, decide_eq_true_iff, fnd_cut, h1]
    refine ⟨(List.getElem?_eq_some_iff.mp h3).1, ?_⟩
    have : hdAt g k.toNat = r.1 := by unfold hdAt; rw [h3]; rfl
    rw [this, h4]
theorem idxS_cut {p q : List Str} {x : Str} (h : x ∉ p) : idxS (p ++ x :: q) x = some p.length := by
  induction p with
  | nil => exact if_pos rfl
  | cons a p ih =>
    rw [List.mem_cons, not_or] at h
    rw [List.cons_append]
    unfold idxS
    rw [if_neg (fun z => h.1 z.symm), ih h.2]; rfl
noncomputable def rwS (g : Gr) (d1 : D) (f : List Str) (s3 s4 : Slot) : List Slot := [.val 0 (gramD g), .val 0 d1, .val 1 (sL f), s3, s4]
theorem rw_step (g : Gr) (d1 : D) (f : List Str) (k : Int) (s4 : Slot) (hg : g.length < 900) (hl : f.length < 990) (hb : ∀ r ∈ g, r.2.length ≤ 3) :
    (stp g (hdL g) f k = none ∧ B__law_rewritten_1 (rwS g d1 f (.val 0 (.int k)) s4) = some (.ret .none)) ∨ ∃ f' s4', stp g (hdL g) f k = some f' ∧ B__law_rewritten_1 (rwS g d1 f (.val 0 (.int k)) s4) = some (.next (rwS g d1 f' (.val 0 (.int k)) s4')) := by
  have ht : cmpB (notO inD) (nameF 3) (callF φ__law_fits (consF (nameF 0) (consF (nameF 2) (fun _ => some [])))) (view (rwS g d1 f (.val 0 (.int k)) s4)) = some (!(stp g (hdL g) f k).isSome) :=
    cmp_val (a := .int k) (b := .list ((ftL g f).map nD)) rfl (call_val (ds := [gramD g, sL f]) rfl (φ_fits g f hg)) (not_val ((inL_ints k _).trans (by rw [ft_any])))
  cases hs : stp g (hdL g) f k with
  | none => exact .inl ⟨rfl, seqG_ret (if_yes (ht.trans (by rw [hs]; rfl)) (st_ret (d := .none) rfl rfl))⟩
  | some f' =>
    obtain ⟨p, x, q, r, h1, h2, h3, h4, rfl⟩ := stp_some hs
    obtain ⟨ef, hx, hnp⟩ := cut_some h1
    obtain ⟨m, rfl⟩ : ∃ m : Nat, k = (m : Int) := ⟨k.toNat, by omega⟩
    have h3 : g[m]? = some r := h3
    have hm : m < g.length := (List.getElem?_eq_some_iff.mp h3).1
    have hr3 := hb r (List.mem_of_getElem? h3)
    have hfl : f.length = p.length + (q.length + 1) := by rw [ef, List.length_append, List.length_cons]
    have vr : ∀ s4, bin idxD (nameF 0) (nameF 3) (view (rwS g d1 f (.val 0 (.int (m : Int))) s4)) = some (ruleD r) := fun _ => bin_val (a := gramD g) (b := .int (m : Int)) rfl rfl (idx_list ruleD (by omega) h3)
    have hi : indexD (sL f) (.str r.1) = some (.int (p.length : Int)) := by
      show (unStrs (f.map D.str)).bind _ = _
      rw [unStrs_sL, Option.bind_some]
      show (idxS f r.1).map _ = _
      rw [h4, ef, idxS_cut fun z => hnp x z hx]; rfl
    refine .inr ⟨p ++ r.2 ++ q, .val 0 (.int (p.length : Int)), rfl, st_skip (ht.trans (by rw [hs]; rfl)) (st_asg (d := .int (p.length : Int)) (σ' := rwS g d1 f (.val 0 (.int (m : Int))) (.val 0 (.int (p.length : Int)))) (bin_val (a := sL f) (b := .str r.1) rfl (bin_val (a := ruleD r) (b := .int 0) (vr _) rfl rfl) hi) rfl rfl
      (st_asg (d := sL (p ++ r.2 ++ q)) (splice_val (x := x) (by rw [← ef]; rfl) rfl (bin_val (a := ruleD r) (b := .int 1) (vr _) rfl rfl) (by rw [lim_eq]; omega)) rfl rfl rfl))⟩
theorem rw_loop (g : Gr) (d1 : D) (hg : g.length < 900) (hb : ∀ r ∈ g, r.2.length ≤ 3) (ks : List Int) (f : List Str) (s3 s4 : Slot) (hl : f.length + 2 * ks.length < 900) :
    (rwt g (hdL g) f ks = none ∧ forL (putN 3) B__law_rewritten_1 (ks.map .int) (rwS g d1 f s3 s4) = some (.ret .none)) ∨
      ∃ f' s3' s4', rwt g (hdL g) f ks = some f' ∧ forL (putN 3) B__law_rewritten_1 (ks.map .int) (rwS g d1 f s3 s4) = some (.next (rwS g d1 f' s3' s4')) := by
  induction ks generalizing f s3 s4 with
  | nil => exact .inr ⟨f, s3, s4, rfl, rfl⟩
  | cons k ks ih =>
    rw [List.length_cons] at hl
    have hr : rwt g (hdL g) f (k :: ks) = (stp g (hdL g) f k).bind fun f' => rwt g (hdL g) f' ks := rfl
    rw [List.map_cons, hr]
    rcases rw_step g d1 f k (clr 3 s4) hg (by omega) hb with ⟨h1, h2⟩ | ⟨f', s4', h1, h2⟩
    · exact .inl ⟨by rw [h1]; rfl, for_ret (σ₁ := rwS g d1 f (.val 0 (.int k)) (clr 3 s4)) rfl h2⟩
    · have := stp_len hb h1
      rw [h1]
      rcases ih f' (.val 0 (.int k)) s4' (by omega) with ⟨h3, h4⟩ | ⟨f2, t3, t4, h3, h4⟩
      · exact .inl ⟨h3, for_cons (σ₁ := rwS g d1 f (.val 0 (.int k)) (clr 3 s4)) rfl h2 h4⟩
      · exact .inr ⟨f2, t3, t4, h3, for_cons (σ₁ := rwS g d1 f (.val 0 (.int k)) (clr 3 s4)) rfl h2 h4⟩
theorem φ_rw (g g' : Gr) (st : Str) (b0 : List Str) (hgc : g = (st, b0) :: g') (hg : g.length ≤ 20) (hb : ∀ r ∈ g, r.2.length ≤ 3) (ks : List Int) (hk : ks.length ≤ 100) : φ__law_rewritten [gramD g, intL ks] = some (optD (rwt g (hdL g) [st] ks)) := by
  have hst : listF (consF (bin idxD (bin idxD (nameF 0) (fun _ => some (D.int 0))) (fun _ => some (D.int 0))) (fun _ => some [])) (view [.val 0 (gramD g), .val 0 (intL ks), .un, .un, .un]) = some (sL [st]) := by rw [hgc]; rfl
  have hm : keepB 1 ((fun ρ => if ((childM (childM (nameM 0))) ρ).clean && (true) then Mk.own 1 else Mk.fu) (view [.val 0 (gramD g), .val 0 (intL ks), .un, .un, .un])) (sL [st]) = true := rfl
  rcases rw_loop g (intL ks) (by omega) hb ks [st] .un .un (by show 1 + _ < 900; omega) with ⟨h1, h2⟩ | ⟨f, s4, s5, h1, h2⟩
  · rw [h1]
    exact fnF_ret rfl (st_asg (d := sL [st]) (σ' := rwS g (intL ks) [st] .un .un) hst hm rfl (seqG_ret ((forG_eq (d := intL ks) (ds := ks.map .int) rfl rfl rfl).trans h2)))
  · rw [h1]
    exact fnF_ret rfl (st_asg (d := sL [st]) (σ' := rwS g (intL ks) [st] .un .un) hst hm rfl (st_for (d := intL ks) (ds := ks.map .int) rfl rfl rfl h2 (st_ret (d := sL f) rfl rfl)))
end Mine

set_option autoImplicit false
open PySem PyProof.Rows
namespace Mine
set_option linter.unusedVariables false
set_option linter.unusedSimpArgs false
set_option maxRecDepth 100000

/-! 1-02: places_after -/
abbrev Tb := List (Str × List (List Bool))
noncomputable def rowD (r : List Bool) : D := .list (r.map .bool)
noncomputable def rowsD (x : List (List Bool)) : D := .list (x.map rowD)
noncomputable def tbD (T : Tb) : D := .dict (T.map fun p => (p.1, rowsD p.2))
noncomputable def get (T : Tb) (h : Str) (i j : Nat) : Bool := (((T.lookup h).bind fun x => x[i]?).bind fun r => r[j]?).getD false
structure WF (n : Nat) (hs : List Str) (T : Tb) : Prop where
  keys : T.map (·.1) = hs
  rows : ∀ h x, T.lookup h = some x → x.length = n + 1
  cells : ∀ h x r, T.lookup h = some x → r ∈ x → r.length = n + 1
structure At (n : Nat) (T : Tb) (h : Str) (i j : Nat) (x : List (List Bool)) (r : List Bool) : Prop where
  lk : T.lookup h = some x
  row : x[i]? = some r
  cell : r[j]? = some (get T h i j)
theorem wf_at {n : Nat} {hs : List Str} {T : Tb} (w : WF n hs T) {h : Str} {i j : Nat} (hh : h ∈ hs) (hi : i ≤ n) (hj : j ≤ n) : ∃ x r, At n T h i j x r := by
  obtain ⟨x, hx⟩ := lookup_some (F := T) (s := h) (by rw [w.keys]; exact hh)
  have hl := w.rows h x hx
  have e1 : x[i]? = some x[i] := List.getElem?_eq_getElem (by omega)
  have hl2 := w.cells h x x[i] hx (List.getElem_mem _)
  have e2 : x[i][j]? = some x[i][j] := List.getElem?_eq_getElem (by omega)
  refine ⟨x, x[i], hx, e1, ?_⟩
  unfold get
  rw [hx, Option.bind_some, e1, Option.bind_some, e2]; rfl
theorem wf_get {n : Nat} {hs : List Str} {T : Tb} (w : WF n hs T) {h : Str} {i j : Nat} (e : get T h i j = true) : h ∈ hs ∧ i ≤ n ∧ j ≤ n := by
  unfold get at e
  cases hx : T.lookup h with
  | none => rw [hx] at e; cases e
  | some x =>
    rw [hx, Option.bind_some] at e
    have hh : h ∈ hs := by
      refine Classical.byContradiction fun q => ?_
      rw [← w.keys] at q
      rw [lookup_none.mpr q] at hx; cases hx
    cases hr : x[i]? with
    | none => rw [hr] at e; cases e
    | some r =>
      rw [hr, Option.bind_some] at e
      obtain ⟨hi, er⟩ := List.getElem?_eq_some_iff.mp hr
      have hl := w.rows h x hx
      have hl2 := w.cells h x r hx (er ▸ List.getElem_mem _)
      cases hc : r[j]? with
      | none => rw [hc] at e; cases e
      | some b =>
        obtain ⟨hj, _⟩ := List.getElem?_eq_some_iff.mp hc
        exact ⟨hh, by omega, by omega⟩
theorem tb_in {n : Nat} {hs : List Str} {T : Tb} (w : WF n hs T) (s : Str) : inD (.str s) (tbD T) = some (decide (s ∈ hs)) := by
  show some ((T.map fun p => (p.1, rowsD p.2)).lookup s).isSome = _
  rw [lookup_enc, Option.isSome_map]
  refine congrArg some (Bool.eq_iff_iff.mpr ?_)
  rw [decide_eq_true_iff, ← w.keys]
  constructor
  · intro h
    refine Classical.byContradiction fun q => ?_
    rw [lookup_none.mpr q] at h; cases h
  · intro h
    obtain ⟨x, hx⟩ := lookup_some h
    rw [hx]; rfl
theorem tb_idx {n : Nat} {hs : List Str} {T : Tb} (w : WF n hs T) (hn : n < 900) {h : Str} {i j : Nat} (hh : h ∈ hs) (hi : i ≤ n) (hj : j ≤ n) {f₁ f₂ f₃ f₄ : EEnv → Option D} {ρ : EEnv} (h1 : f₁ ρ = some (tbD T)) (h2 : f₂ ρ = some (.str h)) (h3 : f₃ ρ = some (nD i)) (h4 : f₄ ρ = some (nD j)) :
    bin idxD (bin idxD (bin idxD f₁ f₂) f₃) f₄ ρ = some (.bool (get T h i j)) := by
  obtain ⟨x, r, a, b, c⟩ := wf_at w hh hi hj
  refine bin_val (a := rowD r) (b := nD j) (bin_val (a := rowsD x) (b := nD i) (bin_val h1 h2 ?_) h3 (idx_list rowD (by omega) b)) h4 (idx_list D.bool (by omega) c)
  show (T.map fun p => (p.1, rowsD p.2)).lookup h = _
  rw [lookup_enc, a]; rfl
noncomputable def met (T : Tb) (hs toks : List Str) (ps : List Nat) (s : Str) (j : Nat) : Bool :=
  if s ∈ hs then ps.any fun i => get T s i j else decide (0 < j) && (ps.any (· == j - 1) && decide (toks[j - 1]? = some s))
noncomputable def mv (T : Tb) (hs toks : List Str) (ps : List Nat) (s : Str) : List Nat := (List.range (toks.length + 1)).filter (met T hs toks ps s)
noncomputable def nL (ns : List Nat) : D := .list (ns.map nD)
noncomputable def paS (b : List Str) (st : Nat) (toks : List Str) (T : Tb) (ps : List Nat) (s5 s6 s7 s8 : Slot) : List Slot := [.val 0 (sL b), .val 0 (nD st), .val 0 (sL toks), .val 0 (tbD T), .val 1 (nL ps), s5, s6, s7, s8]
theorem any_val {α : Type} {f : EEnv → Option D} {ρ : EEnv} (v : α → Bool) (xs : List α) (h : f ρ = some (.list (xs.map fun a => D.bool (v a)))) : un anyD f ρ = some (.bool (xs.any v)) := by
  refine un_val h ?_
  show ((unBools (xs.map fun a => D.bool (v a))).map fun bs => D.bool (bs.any id)) = _
  rw [unBools_map, Option.map_some, List.any_map]; rfl
theorem natsub (j : Nat) : ((j + 1 : Nat) : Int) - 1 = (j : Int) := by omega
theorem pa_one {T : Tb} {hs toks : List Str} (w : WF toks.length hs T) (hn : toks.length < 900) (b : List Str) (st : Nat) (ps : List Nat) (hp : ∀ i ∈ ps, i ≤ toks.length) (s : Str) (m : List Nat) (hm : m.length < 1000) (j : Nat) (hj : j ≤ toks.length) (s8 : Slot) :
    B_places_after_1 (paS b st toks T ps (.val 0 (.str s)) (.val 1 (nL m)) (.val 0 (nD j)) s8) = some (.next (paS b st toks T ps (.val 0 (.str s)) (.val 1 (nL (if met T hs toks ps s j then m ++ [j] else m))) (.val 0 (nD j)) (.val 0 (.bool (met T hs toks ps s j))))) := by
  have ht : cmpB inD (nameF 5) (nameF 3) (view (paS b st toks T ps (.val 0 (.str s)) (.val 1 (nL m)) (.val 0 (nD j)) s8)) = some (decide (s ∈ hs)) := cmp_val (a := .str s) (b := tbD T) rfl rfl (tb_in w s)
  have go : ∀ {g₁ g₂}, ifG (cmpB inD (nameF 5) (nameF 3)) g₁ g₂ (paS b st toks T ps (.val 0 (.str s)) (.val 1 (nL m)) (.val 0 (nD j)) s8) = some (.next (paS b st toks T ps (.val 0 (.str s)) (.val 1 (nL m)) (.val 0 (nD j)) (.val 0 (.bool (met T hs toks ps s j))))) →
      seqG (ifG (cmpB inD (nameF 5) (nameF 3)) g₁ g₂) (seqG (ifG (truthB (nameF 8)) (seqG (appG 6 0 (nameF 7) (nameM 7)) (fun ρ => some (Out.next ρ))) (fun ρ => some (Out.next ρ))) (fun ρ => some (Out.next ρ))) (paS b st toks T ps (.val 0 (.str s)) (.val 1 (nL m)) (.val 0 (nD j)) s8) = some (.next (paS b st toks T ps (.val 0 (.str s)) (.val 1 (nL (if met T hs toks ps s j then m ++ [j] else m))) (.val 0 (nD j)) (.val 0 (.bool (met T hs toks ps s j))))) := by
    intro g₁ g₂ h
    refine st_step h ?_
    cases e : met T hs toks ps s j with
    | false => exact st_skip (truth_val rfl) rfl
    | true => exact st_step (if_yes (truth_val rfl) (st_step (app_val (ds := m.map nD) (d := nD j) rfl rfl rfl (by rw [List.length_map, lim_eq]; omega) rfl) rfl)) (by rw [if_pos rfl, show D.list (m.map nD ++ [nD j]) = nL (m ++ [j]) by unfold nL; rw [List.map_append]; rfl]; rfl)
  refine go ?_
  by_cases e : s ∈ hs
  · refine if_yes (ht.trans (by rw [decide_eq_true e])) (st_asg (d := .bool (met T hs toks ps s j)) ?_ rfl rfl rfl)
    unfold met
    rw [if_pos e]
    refine any_val (fun i => get T s i j) ps ?_
    have h1 := compL_map (upd := setN 9) (bs := fun _ => some true) (fe := bin idxD (bin idxD (bin idxD (nameF 3) (nameF 5)) (nameF 9)) (nameF 7)) (me := childM (childM (childM (nameM 3)))) (ρ := view (paS b st toks T ps (.val 0 (.str s)) (.val 1 (nL m)) (.val 0 (nD j)) s8) ++ List.replicate 1 none) nD (fun _ => true) (fun i => D.bool (get T s i j)) ps fun i hi => ⟨_, rfl, rfl, fun _ => ⟨tb_idx w hn e (hp i hi) hj rfl rfl rfl rfl, rfl⟩⟩
    rw [filter_true] at h1
    exact compF_eq (d := nL ps) (ds := ps.map nD) rfl rfl rfl rfl h1
  · refine if_no (ht.trans (by rw [decide_eq_false e])) (st_asg (d := .bool (met T hs toks ps s j)) ?_ rfl rfl rfl)
    refine bool_val ?_
    unfold met
    rw [if_neg e]
    have c1 : truthB (boolF (cmpB (fun a b => ltD b a) (nameF 7) (fun _ => some (D.int 0)))) (view (paS b st toks T ps (.val 0 (.str s)) (.val 1 (nL m)) (.val 0 (nD j)) s8)) = some (decide ((0 : Int) < (j : Int))) := truth_val (bool_val (cmp_val (a := nD j) (b := .int 0) rfl rfl rfl))
    unfold andB
    rw [c1, Option.bind_some]
    cases j with
    | zero => rfl
    | succ k =>
      rw [if_pos (by rw [decide_eq_true_iff]; omega), decide_eq_true (Nat.succ_pos k), Bool.true_and, Nat.add_sub_cancel]
      have c2 : truthB (boolF (cmpB inD (bin subD (nameF 7) (fun _ => some (D.int 1))) (nameF 4))) (view (paS b st toks T ps (.val 0 (.str s)) (.val 1 (nL m)) (.val 0 (nD (k + 1))) s8)) = some (ps.any (· == k)) := by
        refine truth_val (bool_val (cmp_val (a := nD k) (b := nL ps) (bin_val (a := nD (k + 1)) (b := .int 1) rfl rfl (congrArg (fun x => some (D.int x)) (natsub k))) rfl ((inL_ints (k : Int) ps).trans (congrArg some ?_))))
        refine congrArg (fun f => ps.any f) (funext fun i => Bool.eq_iff_iff.mpr ?_)
        rw [beq_iff_eq, beq_iff_eq]; omega
      rw [c2, Option.bind_some]
      cases ps.any (· == k) with
      | false => rfl
      | true =>
        have hk : toks[k]? = some toks[k] := List.getElem?_eq_getElem (by omega)
        rw [if_pos rfl, Bool.true_and, hk]
        refine truth_val (bool_val (cmp_val (a := .str toks[k]) (b := .str s) (bin_val (a := sL toks) (b := nD k) rfl (bin_val (a := nD (k + 1)) (b := .int 1) rfl rfl (congrArg (fun x => some (D.int x)) (natsub k))) (idx_list D.str (by omega) hk)) rfl ?_))
        show some (toks[k] == s) = _
        refine congrArg some (Bool.eq_iff_iff.mpr ?_)
        rw [beq_iff_eq, decide_eq_true_iff]
        exact ⟨congrArg some, Option.some.inj⟩
theorem pa_row {T : Tb} {hs toks : List Str} (w : WF toks.length hs T) (hn : toks.length < 900) (b : List Str) (st : Nat) (ps : List Nat) (hp : ∀ i ∈ ps, i ≤ toks.length) (s : Str) (js m : List Nat) (hm : m.length + js.length < 1000) (hj : ∀ j ∈ js, j ≤ toks.length) (s7 s8 : Slot) :
    ∃ s7' s8', forL (putN 7) B_places_after_1 (js.map nD) (paS b st toks T ps (.val 0 (.str s)) (.val 1 (nL m)) s7 s8) = some (.next (paS b st toks T ps (.val 0 (.str s)) (.val 1 (nL (m ++ js.filter (met T hs toks ps s)))) s7' s8')) := by
  induction js generalizing m s7 s8 with
  | nil => exact ⟨s7, s8, by rw [List.filter_nil, List.append_nil]; rfl⟩
  | cons j js ih =>
    rw [List.length_cons] at hm
    obtain ⟨t7, t8, h⟩ := ih (if met T hs toks ps s j then m ++ [j] else m) (by cases met T hs toks ps s j with | false => show m.length + _ < _; omega | true => show (m ++ [j]).length + _ < _; rw [List.length_append, List.length_singleton]; omega) (fun x hx => hj x (.tail _ hx)) (.val 0 (nD j)) (.val 0 (.bool (met T hs toks ps s j)))
    refine ⟨t7, t8, for_cons (σ₁ := paS b st toks T ps (.val 0 (.str s)) (.val 1 (nL m)) (.val 0 (nD j)) (clr 7 s8)) rfl (pa_one w hn b st ps hp s m (by omega) j (hj j (.head _)) _) (h.trans ?_)⟩
    rw [List.filter_cons]
    cases met T hs toks ps s j with
    | false => rfl
    | true => rw [if_pos rfl, if_pos rfl, List.append_assoc]; rfl
theorem rngN1 (n : Nat) (h : n < 900) {f : EEnv → Option D} {ρ : EEnv} (hf : f ρ = some (nD n)) : un rangeD (bin addD f (fun _ => some (D.int 1))) ρ = some (.rng 0 ((n + 1 : Nat) : Int) 1) := un_val (a := nD (n + 1)) (bin_val (a := nD n) (b := .int 1) hf rfl rfl) rfl
theorem mv_le {T : Tb} {hs toks : List Str} {ps : List Nat} {s : Str} {i : Nat} (h : i ∈ mv T hs toks ps s) : i ≤ toks.length := by
  unfold mv at h
  rw [List.mem_filter, List.mem_range] at h; omega
theorem pa_sym {T : Tb} {hs toks : List Str} (w : WF toks.length hs T) (hn : toks.length < 900) (b : List Str) (st : Nat) (ps : List Nat) (hp : ∀ i ∈ ps, i ≤ toks.length) (s : Str) (s6 s7 s8 : Slot) :
    ∃ s7' s8', B_places_after_2 (paS b st toks T ps (.val 0 (.str s)) s6 s7 s8) = some (.next (paS b st toks T (mv T hs toks ps s) (.val 0 (.str s)) .un s7' s8')) := by
  obtain ⟨t7, t8, h⟩ := pa_row w hn b st ps hp s (List.range (toks.length + 1)) [] (by rw [List.length_range]; show 0 + _ < _; omega) (fun j hj => by rw [List.mem_range] at hj; omega) (clr 6 s7) (clr 6 s8)
  refine ⟨clr 4 (clr 6 t7), clr 4 (clr 6 t8), ?_⟩
  refine st_asg (d := nL []) (σ' := paS b st toks T ps (.val 0 (.str s)) (.val 1 (nL [])) (clr 6 s7) (clr 6 s8)) rfl rfl rfl ?_
  refine st_for (d := .rng 0 ((toks.length + 1 : Nat) : Int) 1) (ds := (List.range (toks.length + 1)).map nD) (rngN1 toks.length hn (len_val (enc := D.str) rfl)) (rng_items _ (by omega)) rfl h ?_
  rfl
theorem pa_loop {T : Tb} {hs toks : List Str} (w : WF toks.length hs T) (hn : toks.length < 900) (b : List Str) (st : Nat) (bs : List Str) (ps : List Nat) (hp : ∀ i ∈ ps, i ≤ toks.length) (s5 s6 s7 s8 : Slot) :
    ∃ s5' s6' s7' s8', forL (putN 5) B_places_after_2 (bs.map .str) (paS b st toks T ps s5 s6 s7 s8) = some (.next (paS b st toks T (bs.foldl (mv T hs toks) ps) s5' s6' s7' s8')) := by
  induction bs generalizing ps s5 s6 s7 s8 with
  | nil => exact ⟨_, _, _, _, rfl⟩
  | cons s bs ih =>
    obtain ⟨t7, t8, h⟩ := pa_sym w hn b st ps hp s (clr 5 s6) (clr 5 s7) (clr 5 s8)
    obtain ⟨u5, u6, u7, u8, h'⟩ := ih (mv T hs toks ps s) (fun i hi => mv_le hi) (.val 0 (.str s)) .un t7 t8
    exact ⟨u5, u6, u7, u8, for_cons (σ₁ := paS b st toks T ps (.val 0 (.str s)) (clr 5 s6) (clr 5 s7) (clr 5 s8)) rfl h h'⟩
noncomputable def plc (T : Tb) (hs toks b : List Str) (i : Nat) : List Nat := b.foldl (mv T hs toks) [i]
theorem φ_places {T : Tb} {hs toks : List Str} (w : WF toks.length hs T) (hn : toks.length < 900) (b : List Str) (st : Nat) (hst : st ≤ toks.length) :
    φ_places_after [sL b, nD st, sL toks, tbD T] = some (nL (plc T hs toks b st)) := by
  obtain ⟨u5, u6, u7, u8, h⟩ := pa_loop w hn b st b [st] (fun i hi => by rw [List.mem_singleton.mp hi]; exact hst) .un .un .un .un
  exact fnF_ret rfl (st_asg (d := nL [st]) (σ' := paS b st toks T [st] .un .un .un .un) rfl rfl rfl (st_for (d := sL b) (ds := b.map .str) rfl rfl rfl h (st_ret (d := nL (plc T hs toks b st)) rfl rfl)))
/-! spans -/
noncomputable def edge (P : Str → Nat → Nat → Prop) (hs toks : List Str) (s : Str) (i m : Nat) : Prop := (s ∈ hs ∧ P s i m) ∨ (s ∉ hs ∧ toks[i]? = some s ∧ m = i + 1)
noncomputable def Sp (P : Str → Nat → Nat → Prop) (hs toks : List Str) : List Str → Nat → Nat → Prop
  | [], i, j => i = j ∧ i ≤ toks.length
  | s :: b, i, j => ∃ m, edge P hs toks s i m ∧ Sp P hs toks b m j
theorem mem_mv {T : Tb} {hs toks : List Str} (w : WF toks.length hs T) {ps : List Nat} {s : Str} {m : Nat} : m ∈ mv T hs toks ps s ↔ ∃ i ∈ ps, edge (fun h i j => get T h i j = true) hs toks s i m := by
  unfold mv met edge
  rw [List.mem_filter, List.mem_range]
  by_cases e : s ∈ hs
  · rw [if_pos e, List.any_eq_true]
    constructor
    · rintro ⟨_, i, hi, h⟩; exact ⟨i, hi, .inl ⟨e, h⟩⟩
    · rintro ⟨i, hi, ⟨_, h⟩ | ⟨h, _⟩⟩
      · exact ⟨by have := (wf_get w h).2.2; omega, i, hi, h⟩
      · exact absurd e h
  · rw [if_neg e, Bool.and_eq_true, Bool.and_eq_true, List.any_eq_true, decide_eq_true_iff, decide_eq_true_iff]
    constructor
    · rintro ⟨_, h0, ⟨i, hi, q⟩, h⟩
      rw [beq_iff_eq] at q
      exact ⟨i, hi, .inr ⟨e, q ▸ h, by omega⟩⟩
    · rintro ⟨i, hi, ⟨h, _⟩ | ⟨_, h, rfl⟩⟩
      · exact absurd h e
      · have := (List.getElem?_eq_some_iff.mp h).1
        exact ⟨by omega, by omega, ⟨i, hi, by rw [beq_iff_eq]; omega⟩, h⟩
theorem mem_fold {T : Tb} {hs toks : List Str} (w : WF toks.length hs T) {b : List Str} {ps : List Nat} (hp : ∀ i ∈ ps, i ≤ toks.length) {j : Nat} : j ∈ b.foldl (mv T hs toks) ps ↔ ∃ i ∈ ps, Sp (fun h i j => get T h i j = true) hs toks b i j := by
  induction b generalizing ps with
  | nil => exact ⟨fun h => ⟨j, h, rfl, hp j h⟩, fun ⟨i, hi, e, _⟩ => e ▸ hi⟩
  | cons s b ih =>
    rw [List.foldl_cons, ih fun i hi => mv_le hi]
    constructor
    · rintro ⟨m, hm, h⟩
      obtain ⟨i, hi, he⟩ := (mem_mv w).mp hm
      exact ⟨i, hi, m, he, h⟩
    · rintro ⟨i, hi, m, he, h⟩
      exact ⟨m, (mem_mv w).mpr ⟨i, hi, he⟩, h⟩
theorem mem_plc {T : Tb} {hs toks : List Str} (w : WF toks.length hs T) {b : List Str} {i j : Nat} (hi : i ≤ toks.length) : j ∈ plc T hs toks b i ↔ Sp (fun h i j => get T h i j = true) hs toks b i j := by
  unfold plc
  rw [mem_fold w fun x hx => by rw [List.mem_singleton.mp hx]; exact hi]
  exact ⟨fun ⟨x, hx, h⟩ => List.mem_singleton.mp hx ▸ h, fun h => ⟨i, List.mem_singleton.mpr rfl, h⟩⟩
end Mine

set_option autoImplicit false
open PySem PyProof.Rows
namespace Mine
set_option linter.unusedVariables false
set_option linter.unusedSimpArgs false
set_option maxRecDepth 100000

/-! 1-02: span_tables, derives -/
noncomputable def cellT (T : Tb) (h : Str) (x : List (List Bool)) (i : Nat) (r : List Bool) (j : Nat) : Tb := storeG T h (x.set i (r.set j true))
section
variable {n : Nat} {hs toks : List Str} {T T' : Tb} {h : Str} {i j : Nat} {x : List (List Bool)} {r : List Bool}
theorem cellT_wf (w : WF n hs T) (a : At n T h i j x r) : WF n hs (cellT T h x i r j) := by
  obtain ⟨h1, h2, h3⟩ := a
  have hk : h ∈ T.map (·.1) := Classical.byContradiction fun q => by rw [lookup_none.mpr q] at h1; cases h1
  have hr : r ∈ x := List.mem_of_getElem? h2
  refine ⟨(storeG_keys hk).trans w.keys, fun h' x' e => ?_, fun h' x' r' e hr' => ?_⟩
  · unfold cellT at e
    rw [storeG_lookup] at e
    by_cases q : h' = h
    · rw [if_pos q] at e; cases e; rw [List.length_set]; exact w.rows h x h1
    · rw [if_neg q] at e; exact w.rows h' x' e
  · unfold cellT at e
    rw [storeG_lookup] at e
    by_cases q : h' = h
    · rw [if_pos q] at e; cases e
      rcases List.mem_or_eq_of_mem_set hr' with z | z
      · exact w.cells h x r' h1 z
      · rw [z, List.length_set]; exact w.cells h x r h1 hr
    · rw [if_neg q] at e; exact w.cells h' x' r' e hr'
theorem cellT_self (a : At n T h i j x r) : get (cellT T h x i r j) h i j = true := by
  obtain ⟨h1, h2, h3⟩ := a
  unfold get cellT
  rw [storeG_lookup, if_pos rfl, Option.bind_some, List.getElem?_set_self (List.getElem?_eq_some_iff.mp h2).1, Option.bind_some, List.getElem?_set_self (List.getElem?_eq_some_iff.mp h3).1]; rfl
theorem cellT_other (a : At n T h i j x r) {h' : Str} {i' j' : Nat} (q : ¬ (h' = h ∧ i' = i ∧ j' = j)) : get (cellT T h x i r j) h' i' j' = get T h' i' j' := by
  obtain ⟨h1, h2, h3⟩ := a
  unfold get cellT
  rw [storeG_lookup]
  by_cases e : h' = h
  · subst e
    rw [if_pos rfl, h1, Option.bind_some, Option.bind_some]
    by_cases e : i' = i
    · subst e
      rw [List.getElem?_set_self (List.getElem?_eq_some_iff.mp h2).1, h2, Option.bind_some, Option.bind_some, List.getElem?_set_ne fun z => q ⟨rfl, rfl, z.symm⟩]
    · rw [List.getElem?_set_ne fun z => e z.symm]
  · rw [if_neg e]
end
abbrev Sd (Q : Str → Nat → Nat → Prop) (T : Tb) : Prop := ∀ h i j, get T h i j = true → Q h i j
structure Gw (Q : Str → Nat → Nat → Prop) (n : Nat) (hs : List Str) (T T' : Tb) (c c' : Bool) : Prop where
  wf : WF n hs T'
  mono : ∀ h i j, get T h i j = true → get T' h i j = true
  snd : Sd Q T'
  chg : c' = false → c = false ∧ T' = T
  new : c' = true → c = true ∨ ∃ h i j, get T' h i j = true ∧ get T h i j = false
theorem gw_refl {Q : Str → Nat → Nat → Prop} {n : Nat} {hs : List Str} {T : Tb} (c : Bool) (w : WF n hs T) (s : Sd Q T) : Gw Q n hs T T c c := ⟨w, fun _ _ _ h => h, s, fun h => ⟨h, rfl⟩, .inl⟩
theorem gw_trans {Q : Str → Nat → Nat → Prop} {n : Nat} {hs : List Str} {T T' T'' : Tb} {c c' c'' : Bool} (a : Gw Q n hs T T' c c') (b : Gw Q n hs T' T'' c' c'') : Gw Q n hs T T'' c c'' := by
  refine ⟨b.wf, fun h i j e => b.mono h i j (a.mono h i j e), b.snd, fun e => ?_, fun e => ?_⟩
  · obtain ⟨e1, e2⟩ := b.chg e
    obtain ⟨e3, e4⟩ := a.chg e1
    exact ⟨e3, e2.trans e4⟩
  · rcases b.new e with e1 | ⟨h, i, j, e1, e2⟩
    · rcases a.new e1 with e3 | ⟨h, i, j, e3, e4⟩
      · exact .inl e3
      · exact .inr ⟨h, i, j, b.mono h i j e3, e4⟩
    · refine .inr ⟨h, i, j, e1, ?_⟩
      cases e3 : get T h i j with
      | false => rfl
      | true => rw [a.mono h i j e3] at e2; cases e2
noncomputable def stS (g : Gr) (toks : List Str) (T : Tb) (s4 s5 : Slot) (c : Bool) (s7 s8 : Slot) : List Slot := [.val 0 (gramD g), .val 0 (sL toks), .val 0 (nD toks.length), .val 3 (tbD T), s4, s5, .val 0 (.bool c), s7, s8]
theorem set2_val {i : Nat} {f fk f₂ f₃ : EEnv → Option D} {σ σ' : List Slot} {n : Nat} {hs : List Str} {T : Tb} {h : Str} {a b : Nat} {x : List (List Bool)} {r : List Bool} (hn : n < 900) (ha : a ≤ n) (hb : b ≤ n) (at' : At n T h a b x r) (h1 : σ[i]? = some (.val 3 (tbD T))) (h2 : fk (view σ) = some (.str h)) (h3 : f₂ (view σ) = some (nD a)) (h4 : f₃ (view σ) = some (nD b)) (h5 : f (view σ) = some (.bool true)) (hp : put σ i (.val 3 (tbD (cellT T h x a r b))) = σ') : set2G i f fk f₂ f₃ σ = some (.next σ') := by
  obtain ⟨lk, row, cell⟩ := at'
  have e : D.list ((x.map rowD).set a (D.list ((r.map D.bool).set b (.bool true)))) = rowsD (x.set a (r.set b true)) := by
    unfold rowsD
    rw [List.map_set]
    unfold rowD
    rw [List.map_set]
  unfold set2G
  rw [slD_of h1, Option.bind_some, h2, h3, h4, h5, Option.bind_some, Option.bind_some, Option.bind_some, show toS (.str h) = some h from rfl, Option.bind_some, lookup_enc, lk]
  show (if _ then _ else _) = _
  rw [if_pos (by rw [lim_eq]; exact ⟨Int.natCast_nonneg a, by omega, Int.natCast_nonneg b, by omega, rfl⟩), Int.toNat_natCast, Int.toNat_natCast, List.getElem?_map, row]
  show (if _ then _ else _) = _
  rw [if_pos (by rw [List.length_map]; exact (List.getElem?_eq_some_iff.mp cell).1), e, storeG_map rowsD]
  rw [← hp]; rfl
theorem st_cell {g : Gr} {toks hs : List Str} {Q : Str → Nat → Nat → Prop} {T : Tb} (w : WF toks.length hs T) (hn : toks.length < 900) (sd : Sd Q T) {r : Str × List Str} (hr : r.1 ∈ hs) {i j : Nat} (hi : i ≤ toks.length) (hj : j ≤ toks.length) (hq : Q r.1 i j) (c : Bool) (s4 : Slot) :
    ∃ T' c' s4', B_span_tables_2 (stS g toks T s4 (.val 0 (nD i)) c (.val 0 (ruleD r)) (.val 0 (nD j))) = some (.next (stS g toks T' s4' (.val 0 (nD i)) c' (.val 0 (ruleD r)) (.val 0 (nD j)))) ∧ Gw Q toks.length hs T T' c c' ∧ get T' r.1 i j = true := by
  have ht : truthB (bin idxD (bin idxD (bin idxD (nameF 3) (bin idxD (nameF 7) (fun _ => some (D.int 0)))) (nameF 5)) (nameF 8)) (view (stS g toks T s4 (.val 0 (nD i)) c (.val 0 (ruleD r)) (.val 0 (nD j)))) = some (get T r.1 i j) := truth_val (tb_idx w hn hr hi hj rfl rfl rfl rfl)
  have hnt : notB (truthB (bin idxD (bin idxD (bin idxD (nameF 3) (bin idxD (nameF 7) (fun _ => some (D.int 0)))) (nameF 5)) (nameF 8))) (view (stS g toks T s4 (.val 0 (nD i)) c (.val 0 (ruleD r)) (.val 0 (nD j)))) = some (!get T r.1 i j) := by unfold notB; rw [ht]; rfl
  cases e : get T r.1 i j with
  | true => exact ⟨T, c, s4, st_skip (hnt.trans (by rw [e]; rfl)) rfl, gw_refl c w sd, e⟩
  | false =>
    obtain ⟨x, row, a⟩ := wf_at w hr hi hj
    refine ⟨cellT T r.1 x i row j, true, clr 6 (clr 3 s4), st_step (if_yes (hnt.trans (by rw [e]; rfl)) (st_step (set2_val (hs := hs) (σ' := stS g toks (cellT T r.1 x i row j) (clr 3 s4) (.val 0 (nD i)) c (.val 0 (ruleD r)) (.val 0 (nD j))) hn hi hj a rfl rfl rfl rfl rfl rfl) (st_asg (d := .bool true) rfl rfl rfl rfl))) rfl, ⟨cellT_wf w a, fun h' i' j' q => ?_, fun h' i' j' q => ?_, (fun q => nomatch q), fun _ => .inr ⟨r.1, i, j, cellT_self a, e⟩⟩, cellT_self a⟩
    · by_cases z : h' = r.1 ∧ i' = i ∧ j' = j
      · obtain ⟨rfl, rfl, rfl⟩ := z; exact cellT_self a
      · rw [cellT_other a z]; exact q
    · by_cases z : h' = r.1 ∧ i' = i ∧ j' = j
      · obtain ⟨rfl, rfl, rfl⟩ := z; exact hq
      · rw [cellT_other a z] at q; exact sd h' i' j' q
theorem st_js {g : Gr} {toks hs : List Str} {Q : Str → Nat → Nat → Prop} (hn : toks.length < 900) {r : Str × List Str} (hr : r.1 ∈ hs) {i : Nat} (hi : i ≤ toks.length) (js : List Nat) {T : Tb} (w : WF toks.length hs T) (sd : Sd Q T) (hj : ∀ j ∈ js, j ≤ toks.length) (hq : ∀ j ∈ js, Q r.1 i j) (c : Bool) (s4 s8 : Slot) :
    ∃ T' c' s4' s8', forL (putN 8) B_span_tables_2 (js.map nD) (stS g toks T s4 (.val 0 (nD i)) c (.val 0 (ruleD r)) s8) = some (.next (stS g toks T' s4' (.val 0 (nD i)) c' (.val 0 (ruleD r)) s8')) ∧ Gw Q toks.length hs T T' c c' ∧ ∀ j ∈ js, get T' r.1 i j = true := by
  induction js generalizing T c s4 s8 with
  | nil => exact ⟨T, c, s4, s8, rfl, gw_refl c w sd, fun _ h => nomatch h⟩
  | cons j js ih =>
    obtain ⟨T1, c1, t4, h1, h2, h3⟩ := st_cell (g := g) w hn sd hr hi (hj j (.head _)) (hq j (.head _)) c (clr 8 s4)
    obtain ⟨T2, c2, u4, u8, h4, h5, h6⟩ := ih h2.wf h2.snd (fun x hx => hj x (.tail _ hx)) (fun x hx => hq x (.tail _ hx)) c1 t4 (.val 0 (nD j))
    exact ⟨T2, c2, u4, u8, for_cons (σ₁ := stS g toks T (clr 8 s4) (.val 0 (nD i)) c (.val 0 (ruleD r)) (.val 0 (nD j))) rfl h1 h4, gw_trans h2 h5, fun x hx => (List.mem_cons.mp hx).elim (fun e => h5.mono _ _ _ (e ▸ h3)) (h6 x)⟩
abbrev Cld (hs toks : List Str) (g : Gr) (P : Str → Nat → Nat → Prop) : Prop := ∀ r ∈ g, ∀ i j, Sp P hs toks r.2 i j → P r.1 i j
theorem sp_mono {P Q : Str → Nat → Nat → Prop} {hs toks : List Str} (hpq : ∀ h i j, P h i j → Q h i j) {b : List Str} {i j : Nat} (h : Sp P hs toks b i j) : Sp Q hs toks b i j := by
  induction b generalizing i with
  | nil => exact h
  | cons s b ih =>
    obtain ⟨m, he, h⟩ := h
    exact ⟨m, he.elim (fun z => .inl ⟨z.1, hpq _ _ _ z.2⟩) .inr, ih h⟩
theorem plc_le {T : Tb} {hs toks b : List Str} (w : WF toks.length hs T) {i j : Nat} (hi : i ≤ toks.length) (h : j ∈ plc T hs toks b i) : j ≤ toks.length := by
  unfold plc at h
  rcases List.eq_nil_or_concat b with e | ⟨b', s, e⟩
  · subst e; rw [List.mem_singleton.mp h]; exact hi
  · subst e; rw [List.concat_eq_append, List.foldl_append] at h; exact mv_le h
theorem nL_flat (ns : List Nat) : (nL ns).flat = true := by
  show (ns.map nD).all D.imm = true
  rw [List.all_map]
  exact List.all_eq_true.mpr fun _ _ => rfl
theorem st_is {g g₀ : Gr} {toks hs : List Str} {Q : Str → Nat → Nat → Prop} (hn : toks.length < 900) (cl : Cld hs toks g₀ Q) {r : Str × List Str} (hg : r ∈ g₀) (hr : r.1 ∈ hs) (is : List Nat) (hi : ∀ i ∈ is, i ≤ toks.length) {T : Tb} (w : WF toks.length hs T) (sd : Sd Q T) (c : Bool) (s4 s5 s8 : Slot) :
    ∃ T' c' s4' s5' s8', forL (putN 5) B_span_tables_3 (is.map nD) (stS g toks T s4 s5 c (.val 0 (ruleD r)) s8) = some (.next (stS g toks T' s4' s5' c' (.val 0 (ruleD r)) s8')) ∧ Gw Q toks.length hs T T' c c' ∧ (c' = false → ∀ i ∈ is, ∀ j ∈ plc T hs toks r.2 i, get T r.1 i j = true) := by
  induction is generalizing T c s4 s5 s8 with
  | nil => exact ⟨T, c, s4, s5, s8, rfl, gw_refl c w sd, fun _ _ h => nomatch h⟩
  | cons i is ih =>
    have hi0 := hi i (.head _)
    obtain ⟨T1, c1, t4, t8, h1, h2, h3⟩ := st_js (g := g) hn hr hi0 (plc T hs toks r.2 i) w sd (fun j hj => plc_le w hi0 hj) (fun j hj => cl r hg i j (sp_mono sd ((mem_plc w hi0).mp hj))) c (clr 5 s4) (clr 5 s8)
    obtain ⟨T2, c2, u4, u5, u8, h4, h5, h6⟩ := ih (fun x hx => hi x (.tail _ hx)) h2.wf h2.snd c1 t4 (.val 0 (nD i)) t8
    refine ⟨T2, c2, u4, u5, u8, for_cons (σ₁ := stS g toks T (clr 5 s4) (.val 0 (nD i)) c (.val 0 (ruleD r)) (clr 5 s8)) rfl (st_for (d := nL (plc T hs toks r.2 i)) (ds := (plc T hs toks r.2 i).map nD) (call_val (ds := [sL r.2, nD i, sL toks, tbD T]) rfl (φ_places w hn r.2 i hi0)) rfl ?_ h1 rfl) h4, gw_trans h2 h5, fun e => ?_⟩
    · show ((nL (plc T hs toks r.2 i)).flat && true) = true
      rw [nL_flat]; rfl
    · obtain ⟨e1, e2⟩ := h5.chg e
      obtain ⟨e3, e4⟩ := h2.chg e1
      intro x hx
      rcases List.mem_cons.mp hx with rfl | hx
      · intro j hj; rw [e4] at h3; exact h3 j hj
      · rw [e4] at h6; exact h6 e x hx
theorem st_rs {g g₀ : Gr} {toks hs : List Str} {Q : Str → Nat → Nat → Prop} (hn : toks.length < 900) (cl : Cld hs toks g₀ Q) (rs : Gr) (hg : ∀ r ∈ rs, r ∈ g₀) (hr : ∀ r ∈ rs, r.1 ∈ hs) {T : Tb} (w : WF toks.length hs T) (sd : Sd Q T) (c : Bool) (s4 s5 s7 s8 : Slot) :
    ∃ T' c' s4' s5' s7' s8', forL (putN 7) B_span_tables_4 (rs.map ruleD) (stS g toks T s4 s5 c s7 s8) = some (.next (stS g toks T' s4' s5' c' s7' s8')) ∧ Gw Q toks.length hs T T' c c' ∧ (c' = false → ∀ r ∈ rs, ∀ i, i ≤ toks.length → ∀ j ∈ plc T hs toks r.2 i, get T r.1 i j = true) := by
  induction rs generalizing T c s4 s5 s7 s8 with
  | nil => exact ⟨T, c, s4, s5, s7, s8, rfl, gw_refl c w sd, fun _ _ h => nomatch h⟩
  | cons r rs ih =>
    obtain ⟨T1, c1, t4, t5, t8, h1, h2, h3⟩ := st_is (g := g) hn cl (hg r (.head _)) (hr r (.head _)) (List.range (toks.length + 1)) (fun i hi => by rw [List.mem_range] at hi; omega) w sd c (clr 7 s4) (clr 7 s5) (clr 7 s8)
    obtain ⟨T2, c2, u4, u5, u7, u8, h4, h5, h6⟩ := ih (fun x hx => hg x (.tail _ hx)) (fun x hx => hr x (.tail _ hx)) h2.wf h2.snd c1 t4 t5 (.val 0 (ruleD r)) t8
    refine ⟨T2, c2, u4, u5, u7, u8, for_cons (σ₁ := stS g toks T (clr 7 s4) (clr 7 s5) c (.val 0 (ruleD r)) (clr 7 s8)) rfl (st_for (d := .rng 0 ((toks.length + 1 : Nat) : Int) 1) (ds := (List.range (toks.length + 1)).map nD) (rngN1 toks.length hn rfl) (rng_items _ (by omega)) rfl h1 rfl) h4, gw_trans h2 h5, fun e => ?_⟩
    obtain ⟨e1, e2⟩ := h5.chg e
    obtain ⟨e3, e4⟩ := h2.chg e1
    intro x hx
    rcases List.mem_cons.mp hx with rfl | hx
    · exact fun i hi => h3 e1 i (List.mem_range.mpr (by omega))
    · rw [e4] at h6; exact h6 e x hx
noncomputable def trp (hs : List Str) (n : Nat) : List (Str × Nat × Nat) := hs.flatMap fun h => (List.range (n + 1)).flatMap fun i => (List.range (n + 1)).map fun j => (h, i, j)
theorem flat_le {α β : Type} {f : α → List β} {c : Nat} (l : List α) (h : ∀ a ∈ l, (f a).length ≤ c) : (l.flatMap f).length ≤ l.length * c := by
  induction l with
  | nil => exact Nat.zero_le _
  | cons a l ih =>
    have h1 := ih fun b hb => h b (.tail _ hb)
    have h2 := h a (.head _)
    rw [List.flatMap_cons, List.length_append, List.length_cons, Nat.succ_mul]; omega
theorem trp_le {hs : List Str} {n : Nat} (h1 : hs.length ≤ 4) (h2 : n ≤ 4) : (trp hs n).length ≤ 100 := by
  have := flat_le (f := fun h => (List.range (n + 1)).flatMap fun i => (List.range (n + 1)).map fun j => (h, i, j)) (c := 25) hs fun h _ => by
    have := flat_le (f := fun i => (List.range (n + 1)).map fun j => (h, i, j)) (c := 5) (List.range (n + 1)) fun i _ => by rw [List.length_map, List.length_range]; omega
    rw [List.length_range] at this; omega
  unfold trp; omega
theorem mem_trp {hs : List Str} {n : Nat} {h : Str} {i j : Nat} (hh : h ∈ hs) (hi : i ≤ n) (hj : j ≤ n) : (h, i, j) ∈ trp hs n :=
  List.mem_flatMap.mpr ⟨h, hh, List.mem_flatMap.mpr ⟨i, List.mem_range.mpr (by omega), List.mem_map.mpr ⟨j, List.mem_range.mpr (by omega), rfl⟩⟩⟩
theorem filt_le {α : Type} {p q : α → Bool} (l : List α) (h : ∀ a, p a = true → q a = true) : (l.filter p).length ≤ (l.filter q).length := by
  induction l with
  | nil => exact Nat.le_refl _
  | cons a l ih =>
    rw [List.filter_cons, List.filter_cons]
    cases e : p a with
    | true => rw [h a e, if_pos rfl, if_pos rfl, List.length_cons, List.length_cons]; omega
    | false => cases q a with
      | true => rw [if_pos rfl, List.length_cons]; exact Nat.le_succ_of_le ih
      | false => exact ih
theorem filt_lt {α : Type} {p q : α → Bool} {l : List α} (h : ∀ a, p a = true → q a = true) {x : α} (hx : x ∈ l) (h1 : q x = true) (h2 : p x = false) : (l.filter p).length < (l.filter q).length := by
  induction l with
  | nil => cases hx
  | cons a l ih =>
    have h3 := filt_le l h
    rw [List.filter_cons, List.filter_cons]
    rcases List.mem_cons.mp hx with e | e
    · subst e; rw [h1, h2, if_pos rfl, List.length_cons]; exact Nat.lt_succ_of_le h3
    · have h4 := ih e
      cases e : p a with
      | true => rw [h a e, if_pos rfl, if_pos rfl, List.length_cons, List.length_cons]; omega
      | false => cases q a with
        | true => rw [if_pos rfl, List.length_cons]; exact Nat.lt_succ_of_lt h4
        | false => exact h4
noncomputable def cnt (hs : List Str) (n : Nat) (T : Tb) : Nat := ((trp hs n).filter fun t => get T t.1 t.2.1 t.2.2).length
theorem st_while {g : Gr} {toks hs : List Str} {Q : Str → Nat → Nat → Prop} (hn : toks.length < 900) (cl : Cld hs toks g Q) (hr : ∀ r ∈ g, r.1 ∈ hs) (k : Nat) {T : Tb} (w : WF toks.length hs T) (sd : Sd Q T) (hk : (trp hs toks.length).length - cnt hs toks.length T < k) (s4 s5 s7 s8 : Slot) :
    ∃ T' s4' s5' s7' s8', whileL (truthB (nameF 6)) B_span_tables_5 (k + 1) (stS g toks T s4 s5 true s7 s8) = some (.next (stS g toks T' s4' s5' false s7' s8')) ∧ WF toks.length hs T' ∧ Sd Q T' ∧ ∀ r ∈ g, ∀ i, i ≤ toks.length → ∀ j ∈ plc T' hs toks r.2 i, get T' r.1 i j = true := by
  induction k generalizing T s4 s5 s7 s8 with
  | zero => exact absurd hk (Nat.not_lt_zero _)
  | succ k ih =>
    obtain ⟨T1, c1, t4, t5, t7, t8, h1, h2, h3⟩ := st_rs (g := g) hn cl g (fun _ h => h) hr w sd false (clr 6 s4) (clr 6 s5) (clr 6 s7) (clr 6 s8)
    have hb : B_span_tables_5 (stS g toks T s4 s5 true s7 s8) = some (.next (stS g toks T1 t4 t5 c1 t7 t8)) := st_asg (d := .bool false) (σ' := stS g toks T (clr 6 s4) (clr 6 s5) false (clr 6 s7) (clr 6 s8)) rfl rfl rfl (st_for (d := gramD g) (ds := g.map ruleD) rfl rfl rfl h1 rfl)
    cases c1 with
    | false =>
      obtain ⟨_, e⟩ := h2.chg rfl
      refine ⟨T1, t4, t5, t7, t8, while_yes (truth_val rfl) hb (while_no (truth_val rfl)), h2.wf, h2.snd, ?_⟩
      rw [e]; exact h3 rfl
    | true =>
      have hlt : cnt hs toks.length T < cnt hs toks.length T1 := by
        rcases h2.new rfl with e | ⟨h, i, j, e1, e2⟩
        · cases e
        · obtain ⟨a, b, c⟩ := wf_get h2.wf e1
          exact filt_lt (fun t => h2.mono t.1 t.2.1 t.2.2) (mem_trp a b c) e1 e2
      have hle : cnt hs toks.length T1 ≤ (trp hs toks.length).length := List.length_filter_le _ _
      obtain ⟨T2, u4, u5, u7, u8, h4, h5⟩ := ih h2.wf h2.snd (by omega) t4 t5 t7 t8
      exact ⟨T2, u4, u5, u7, u8, while_yes (truth_val rfl) hb h4, h5⟩
end Mine

set_option autoImplicit false
open PySem PyProof.Rows
namespace Mine
set_option linter.unusedVariables false
set_option linter.unusedSimpArgs false
set_option maxRecDepth 100000

/-! 1-02: derives -/
theorem compLk_map {α : Type} {kk : Nat} {upd : EEnv → D → Option EEnv} {fe : EEnv → Option D} {me : EEnv → Mk} {ρ : EEnv} (enc : α → D) (val : α → D) (xs : List α)
    (h : ∀ a ∈ xs, ∃ ρ₁, upd ρ (enc a) = some ρ₁ ∧ fe ρ₁ = some (val a) ∧ emB kk (me ρ₁) (val a) = true) : compLk kk upd fe me ρ (xs.map enc) = some (xs.map val) := by
  induction xs with
  | nil => rfl
  | cons a xs ih =>
    obtain ⟨ρ₁, h1, h2, h3⟩ := h a (.head _)
    rw [List.map_cons, compLk, h1, Option.bind_some, h2, Option.bind_some, if_pos h3, ih fun b hb => h b (.tail _ hb)]; rfl
theorem compFk_eq {kk n k : Nat} {fi : EEnv → Option D} {mi : EEnv → Mk} {upd : EEnv → D → Option EEnv} {fe : EEnv → Option D} {me : EEnv → Mk} {ρ : EEnv} {d : D} {ds outs : List D} (h1 : ρ.length = n) (h2 : fi ρ = some d) (h3 : d.items = some ds)
    (h4 : ((mi ρ).cat || ds.all D.imm) = true) (h5 : compLk kk upd fe me (ρ ++ List.replicate k none) ds = some outs) : compFk kk n k fi mi upd fe me ρ = some (.list outs) := by
  unfold compFk
  rw [if_pos h1, h2, Option.bind_some, h3, Option.bind_some, if_pos h4, h5]
  rfl
theorem rep_flat {α : Type} (b : α) (k : Nat) : (List.replicate k [b]).flatten = List.replicate k b := by
  induction k with
  | zero => rfl
  | succ k ih => rw [List.replicate_succ, List.flatten_cons, ih]; rfl
theorem flat_row (k : Nat) : (true && (rowD (List.replicate k false)).flat) = true := by
  rw [Bool.true_and]
  show ((List.replicate k false).map D.bool).all D.imm = true
  rw [List.all_map]
  exact List.all_eq_true.mpr fun _ _ => rfl
noncomputable def zer (n : Nat) : List (List Bool) := List.replicate (n + 1) (List.replicate (n + 1) false)
noncomputable def spS (g : Gr) (toks : List Str) (T : Tb) (s4 : Slot) : List Slot := [.val 0 (gramD g), .val 0 (sL toks), .val 0 (nD toks.length), .val 3 (tbD T), s4, .un, .un, .un, .un]
theorem zer_val (g : Gr) (toks : List Str) (hn : toks.length < 900) (T : Tb) (s4 : Slot) : K_span_tables_1 (view (spS g toks T s4)) = some (rowsD (zer toks.length)) := by
  have h1 := compLk_map (kk := 1) (upd := setN 9) (fe := bin mulD (listF (consF (fun _ => some (D.bool false)) (fun _ => some []))) (bin addD (nameF 2) (fun _ => some (D.int 1)))) (me := copyM (fun ρ => if (Mk.fr).clean && (true) then Mk.own 1 else Mk.fu)) (ρ := view (spS g toks T s4) ++ List.replicate 1 none) nD (fun _ => rowD (List.replicate (toks.length + 1) false)) (List.range (toks.length + 1)) fun i _ => ⟨_, rfl, by
      refine bin_val (a := .list [.bool false]) (b := nD (toks.length + 1)) rfl (bin_val (a := nD toks.length) (b := .int 1) rfl rfl rfl) ?_
      show (if _ then _ else _) = _
      rw [if_pos ⟨Int.natCast_nonneg _, by omega, by decide⟩, Int.toNat_natCast, rep_flat]
      unfold rowD
      rw [List.map_replicate], flat_row _⟩
  refine (compFk_eq (d := .rng 0 ((toks.length + 1 : Nat) : Int) 1) rfl (rngN1 toks.length hn rfl) (rng_items _ (by omega)) rfl h1).trans ?_
  rw [List.map_const', List.length_range]
  unfold rowsD zer
  rw [List.map_replicate]
theorem tb_store {T : Tb} {h : Str} {x : List (List Bool)} (q : h ∉ T.map (·.1)) : D.dict (storedD (T.map fun p => (p.1, rowsD p.2)) h (rowsD x)) = tbD (T ++ [(h, x)]) := by
  rw [storeG_map rowsD, storeG_new q]; rfl
theorem sp_init (g : Gr) (toks : List Str) (hn : toks.length < 900) (hs : List Str) (T : Tb) (s4 : Slot) (hd : (T.map (·.1) ++ hs).Nodup) (hl : T.length + hs.length < 1000) :
    ∃ s4', forL (putN 4) B_span_tables_1 (hs.map .str) (spS g toks T s4) = some (.next (spS g toks (T ++ hs.map fun h => (h, zer toks.length)) s4')) := by
  induction hs generalizing T s4 with
  | nil => exact ⟨s4, by rw [List.map_nil, List.map_nil, List.append_nil]; rfl⟩
  | cons h hs ih =>
    rw [List.length_cons] at hl
    have hq : h ∉ T.map (·.1) := fun z => (List.nodup_append.mp hd).2.2 h z h (.head _) rfl
    obtain ⟨t4, e⟩ := ih (T ++ [(h, zer toks.length)]) (.val 0 (.str h)) (by rw [List.map_append, List.append_assoc]; exact hd) (by rw [List.length_append, List.length_singleton]; omega)
    refine ⟨t4, for_cons (σ₁ := spS g toks T (.val 0 (.str h))) (σ' := spS g toks (T ++ [(h, zer toks.length)]) (.val 0 (.str h))) rfl (st_step (set_val (kds := T.map fun p => (p.1, rowsD p.2)) (key := h) (d := rowsD (zer toks.length)) rfl rfl (zer_val g toks hn T _) rfl (by rw [List.length_map, lim_eq]; omega) (by rw [tb_store hq]; rfl)) rfl) (e.trans ?_)⟩
    rw [List.append_assoc]; rfl
theorem zer_lookup {n : Nat} {hs : List Str} {h : Str} {x : List (List Bool)} (e : (hs.map fun h => (h, zer n)).lookup h = some x) : x = zer n := by
  induction hs with
  | nil => cases e
  | cons a hs ih =>
    rw [List.map_cons, List.lookup_cons] at e
    cases q : h == a with
    | true => rw [q] at e; exact (Option.some.inj e).symm
    | false => rw [q] at e; exact ih e
theorem zer_wf (n : Nat) (hs : List Str) : WF n hs (hs.map fun h => (h, zer n)) := by
  refine ⟨by rw [List.map_map]; exact List.map_id hs, fun h x e => ?_, fun h x r e hr => ?_⟩
  · rw [zer_lookup e]; exact List.length_replicate
  · rw [zer_lookup e] at hr; rw [List.eq_of_mem_replicate hr]; exact List.length_replicate
theorem zer_get (n : Nat) (hs : List Str) (h : Str) (i j : Nat) : get (hs.map fun h => (h, zer n)) h i j = false := by
  unfold get
  cases e : (hs.map fun h => (h, zer n)).lookup h with
  | none => rfl
  | some x =>
    rw [zer_lookup e, Option.bind_some]
    unfold zer
    rw [List.getElem?_replicate]
    by_cases q : i < n + 1
    · rw [if_pos q, Option.bind_some, List.getElem?_replicate]
      by_cases q : j < n + 1
      · rw [if_pos q]; rfl
      · rw [if_neg q]; rfl
    · rw [if_neg q]; rfl
noncomputable def Derv (g : Gr) (toks : List Str) (h : Str) (i j : Nat) : Prop := ∀ P, Cld (hdL g) toks g P → P h i j
theorem derv_cld (g : Gr) (toks : List Str) : Cld (hdL g) toks g (Derv g toks) := fun r hr i j h P hP => hP r hr i j (sp_mono (fun _ _ _ hd => hd P hP) h)
theorem sp_le {P : Str → Nat → Nat → Prop} {hs toks b : List Str} {i j : Nat} (hp : ∀ h i j, P h i j → i ≤ toks.length) (h : Sp P hs toks b i j) : i ≤ toks.length := by
  cases b with
  | nil => exact h.2
  | cons s b =>
    obtain ⟨m, ⟨_, h⟩ | ⟨_, h, _⟩, _⟩ := h
    · exact hp _ _ _ h
    · exact Nat.le_of_lt (List.getElem?_eq_some_iff.mp h).1
structure Fin (g : Gr) (toks : List Str) (T : Tb) : Prop where
  wf : WF toks.length (hdL g) T
  iff : ∀ h i j, get T h i j = true ↔ Derv g toks h i j
theorem φ_spans (g : Gr) (toks : List Str) (hg : g.length ≤ 4) (hn : toks.length ≤ 4) : ∃ T, φ_span_tables [gramD g, sL toks] = some (tbD T) ∧ Fin g toks T := by
  have hl : (hdL g).length ≤ 4 := by have := dedup_len (g.map (·.1)); rw [List.length_map] at this; exact Nat.le_trans this hg
  obtain ⟨s4, h1⟩ := sp_init g toks (by omega) (hdL g) [] .un (by rw [List.map_nil, List.nil_append]; exact dedup_nodup _) (by show 0 + _ < _; omega)
  have hc : (trp (hdL g) toks.length).length ≤ 100 := trp_le hl hn
  obtain ⟨T, u4, u5, u7, u8, h2, w, sd, cl⟩ := st_while (g := g) (k := 999) (by omega) (derv_cld g toks) (fun r hr => mem_dedup.mpr (List.mem_map_of_mem hr)) (zer_wf toks.length (hdL g)) (fun h i j e => by rw [zer_get] at e; cases e) (by omega) (clr 6 s4) .un .un .un
  refine ⟨T, fnF_ret rfl ?_, w, fun h i j => ⟨sd h i j, fun e => e (fun h i j => get T h i j = true) fun r hr a b q => ?_⟩⟩
  · refine st_asg (d := nD toks.length) (σ' := [.val 0 (gramD g), .val 0 (sL toks), .val 0 (nD toks.length), .un, .un, .un, .un, .un, .un]) (len_val (enc := D.str) rfl) rfl rfl ?_
    refine st_asg (d := tbD []) (σ' := spS g toks [] .un) rfl rfl rfl ?_
    refine st_for (d := sL (hdL g)) (ds := (hdL g).map .str) (call_val (ds := [gramD g]) rfl (φ_heads g (by rw [lim_eq]; omega))) rfl rfl h1 ?_
    refine st_asg (d := .bool true) (σ' := stS g toks ((hdL g).map fun h => (h, zer toks.length)) (clr 6 s4) .un true .un .un) rfl rfl rfl ?_
    exact st_step h2 (st_ret (d := tbD T) rfl rfl)
  · have ha := sp_le (fun h i j e => (wf_get w e).2.1) q
    exact cl r hr a ha b ((mem_plc w ha).mpr q)
theorem φ_der (g g' : Gr) (st : Str) (b0 : List Str) (hgc : g = (st, b0) :: g') (toks : List Str) (hg : g.length ≤ 4) (hn : toks.length ≤ 4) : ∃ b, φ_derives [gramD g, sL toks] = some (.bool b) ∧ (b = true ↔ Derv g toks st 0 toks.length) := by
  obtain ⟨T, h, w, hi⟩ := φ_spans g toks hg hn
  have hst : st ∈ hdL g := mem_dedup.mpr (by rw [hgc]; exact .head _)
  refine ⟨get T st 0 toks.length, ?_, hi st 0 toks.length⟩
  have h1 : φ_derives_from [gramD g, .str st, sL toks] = some (.bool (get T st 0 toks.length)) :=
    fnF_ret rfl (st_ret (d := .bool (get T st 0 toks.length)) (tb_idx w (by omega) hst (Nat.zero_le _) (Nat.le_refl _) (call_val (ds := [gramD g, sL toks]) rfl h) rfl rfl (len_val (enc := D.str) rfl)) rfl)
  exact fnF_ret rfl (st_ret (d := .bool (get T st 0 toks.length)) (call_val (ds := [gramD g, .str st, sL toks]) (by rw [hgc]; rfl) h1) rfl)
/-! derivations and spans -/
theorem sp_app {P : Str → Nat → Nat → Prop} {hs toks a b : List Str} {i j : Nat} (h : Sp P hs toks (a ++ b) i j) (hi : ∀ h i j, P h i j → j ≤ toks.length) (h0 : i ≤ toks.length) : ∃ m, m ≤ toks.length ∧ Sp P hs toks a i m ∧ Sp P hs toks b m j := by
  induction a generalizing i with
  | nil => exact ⟨i, h0, ⟨rfl, h0⟩, h⟩
  | cons s a ih =>
    obtain ⟨m, he, h⟩ := h
    have hm : m ≤ toks.length := he.elim (fun z => hi _ _ _ z.2) fun z => by have := (List.getElem?_eq_some_iff.mp z.2.1).1; omega
    obtain ⟨k, hk, h1, h2⟩ := ih h hm
    exact ⟨k, hk, ⟨m, he, h1⟩, h2⟩
theorem sp_cat {P : Str → Nat → Nat → Prop} {hs toks a b : List Str} {i m j : Nat} (h1 : Sp P hs toks a i m) (h2 : Sp P hs toks b m j) : Sp P hs toks (a ++ b) i j := by
  induction a generalizing i with
  | nil => obtain ⟨rfl, _⟩ := h1; exact h2
  | cons s a ih =>
    obtain ⟨k, he, h⟩ := h1
    exact ⟨k, he, ih h⟩
theorem sp_tok {P : Str → Nat → Nat → Prop} {hs toks : List Str} (b a : List Str) (h : a ++ b = toks) (hb : ∀ s ∈ b, s ∉ hs) : Sp P hs toks b a.length toks.length := by
  induction b generalizing a with
  | nil => rw [List.append_nil] at h; subst h; exact ⟨rfl, Nat.le_refl _⟩
  | cons s b ih =>
    have := ih (a ++ [s]) (by rw [List.append_assoc]; exact h) fun t ht => hb t (.tail _ ht)
    rw [List.length_append, List.length_singleton] at this
    exact ⟨a.length + 1, .inr ⟨hb s (.head _), by rw [← h, List.getElem?_append_right (Nat.le_refl _), Nat.sub_self]; rfl, rfl⟩, this⟩
/-- a derivation's spans stay within the tokens -/
theorem derv_le {g : Gr} {toks : List Str} {h : Str} {i j : Nat} (e : Derv g toks h i j) : j ≤ toks.length := by
  refine e (fun _ _ j => j ≤ toks.length) fun r hr i j hsp => ?_
  have : ∀ (b : List Str) (i : Nat), Sp (fun _ _ j => j ≤ toks.length) (hdL g) toks b i j → j ≤ toks.length := by
    intro b
    induction b with
    | nil => exact fun i h => h.1 ▸ h.2
    | cons s b ih => exact fun i ⟨m, _, h⟩ => ih m h
  exact this r.2 i hsp
theorem rwt_sp (g : Gr) (toks : List Str) (ht : ∀ s ∈ toks, s ∉ hdL g) (ks : List Int) (f : List Str) (h : rwt g (hdL g) f ks = some toks) : Sp (Derv g toks) (hdL g) toks f 0 toks.length := by
  induction ks generalizing f with
  | nil => have e := Option.some.inj h; rw [show f = toks from e]; exact sp_tok toks [] rfl ht
  | cons k ks ih =>
    obtain ⟨f', h1, h2⟩ := Option.bind_eq_some_iff.mp h
    obtain ⟨p, x, q, r, c1, _, c3, c4, rfl⟩ := stp_some h1
    obtain ⟨ef, hx, hnp⟩ := cut_some c1
    obtain ⟨m, hm, s1, s2⟩ := sp_app (by have := ih _ h2; rw [List.append_assoc] at this; exact this) (fun _ _ _ e => derv_le e) (Nat.zero_le _)
    obtain ⟨m', hm', s3, s4⟩ := sp_app s2 (fun _ _ _ e => derv_le e) hm
    rw [ef]
    exact sp_cat s1 ⟨m', .inl ⟨hx, c4 ▸ derv_cld g toks r (List.mem_of_getElem? c3) m m' s3⟩, s4⟩
theorem rwt_derv (g : Gr) (st : Str) (hst : st ∈ hdL g) (toks : List Str) (ht : ∀ s ∈ toks, s ∉ hdL g) (ks : List Int) (h : rwt g (hdL g) [st] ks = some toks) : Derv g toks st 0 toks.length := by
  obtain ⟨m, he, e, _⟩ := rwt_sp g toks ht ks [st] h
  subst e
  exact he.elim (fun z => z.2) fun z => absurd hst z.1
/-! words: every body begins with a token -/
structure Seg (toks : List Str) (i : Nat) (w : List Str) (j : Nat) : Prop where
  eq : toks.drop i = w ++ toks.drop j
  len : i + w.length = j
structure Wd (g : Gr) (toks : List Str) (b : List Str) (i j : Nat) (w : List Str) (ks : List Nat) : Prop where
  seg : Seg toks i w j
  nh : ∀ s ∈ w, s ∉ hdL g
  len : i + ks.length ≤ j
  lt : ∀ k ∈ ks, k < g.length
  go : ∀ (pre post : List Str) (ks' : List Int), (∀ s ∈ pre, s ∉ hdL g) → rwt g (hdL g) (pre ++ b ++ post) (ks.map (fun n : Nat => (n : Int)) ++ ks') = rwt g (hdL g) (pre ++ w ++ post) ks'
theorem wd_nil (g : Gr) (toks : List Str) (i : Nat) : Wd g toks [] i i [] [] := ⟨⟨rfl, rfl⟩, (fun _ h => nomatch h), Nat.le_refl _, (fun _ h => nomatch h), fun _ _ _ _ => rfl⟩
theorem wd_cat {g : Gr} {toks a b w w' : List Str} {i m j : Nat} {ks ks' : List Nat} (x : Wd g toks a i m w ks) (y : Wd g toks b m j w' ks') : Wd g toks (a ++ b) i j (w ++ w') (ks ++ ks') := by
  refine ⟨⟨by rw [x.seg.eq, y.seg.eq, List.append_assoc], by have := x.seg.len; have := y.seg.len; rw [List.length_append]; omega⟩, fun s hs => (List.mem_append.mp hs).elim (x.nh s) (y.nh s), by have := x.len; have := y.len; rw [List.length_append]; omega, fun k hk => (List.mem_append.mp hk).elim (x.lt k) (y.lt k), fun pre post kk hp => ?_⟩
  have h1 := x.go pre (b ++ post) (ks'.map (fun n : Nat => (n : Int)) ++ kk) hp
  have h2 := y.go (pre ++ w) post kk fun s hs => (List.mem_append.mp hs).elim (hp s) (x.nh s)
  rw [List.map_append, List.append_assoc]
  simp only [List.append_assoc] at h1 h2 ⊢
  exact h1.trans h2
theorem wd_tok {g : Gr} {toks : List Str} {s : Str} {i : Nat} (hs : s ∉ hdL g) (h : toks[i]? = some s) : Wd g toks [s] i (i + 1) [s] [] := by
  obtain ⟨hi, e⟩ := List.getElem?_eq_some_iff.mp h
  exact ⟨⟨by rw [List.drop_eq_getElem_cons hi, e]; rfl, rfl⟩, fun t ht => List.mem_singleton.mp ht ▸ hs, Nat.le_succ _, (fun _ h => nomatch h), fun _ _ _ _ => rfl⟩
noncomputable def WdP (g : Gr) (toks : List Str) (h : Str) (i j : Nat) : Prop := ∃ w ks, Wd g toks [h] i j w ks
theorem wd_sp {g : Gr} {toks b : List Str} {i j : Nat} (h : Sp (WdP g toks) (hdL g) toks b i j) : ∃ w ks, Wd g toks b i j w ks := by
  induction b generalizing i with
  | nil => obtain ⟨rfl, _⟩ := h; exact ⟨[], [], wd_nil g toks i⟩
  | cons s b ih =>
    obtain ⟨m, he, h⟩ := h
    obtain ⟨w', ks', y⟩ := ih h
    rcases he with ⟨_, w, ks, x⟩ | ⟨hs, ht, rfl⟩
    · exact ⟨w ++ w', ks ++ ks', wd_cat x y⟩
    · exact ⟨[s] ++ w', [] ++ ks', wd_cat (wd_tok hs ht) y⟩
theorem wd_cld (g : Gr) (toks : List Str) (hb : ∀ r ∈ g, ∃ t b, r.2 = t :: b ∧ t ∉ hdL g) : Cld (hdL g) toks g (WdP g toks) := by
  intro r hr i j h
  obtain ⟨t, b, e, ht⟩ := hb r hr
  rw [e] at h
  obtain ⟨m, ⟨z, _⟩ | ⟨_, h1, rfl⟩, h⟩ := h
  · exact absurd z ht
  obtain ⟨w, ks, y⟩ := wd_sp h
  have x := wd_cat (wd_tok ht h1) y
  obtain ⟨k, hk, ek⟩ := List.mem_iff_getElem.mp hr
  refine ⟨[t] ++ w, k :: ks, x.seg, x.nh, by have := y.len; rw [List.length_cons]; omega, fun n hn => (List.mem_cons.mp hn).elim (fun z => z ▸ hk) (y.lt n), fun pre post kk hp => ?_⟩
  have hs : stp g (hdL g) (pre ++ [r.1] ++ post) (k : Int) = some (pre ++ r.2 ++ post) := by
    unfold stp
    rw [List.append_assoc, List.singleton_append, cut_app hp (mem_dedup.mpr (List.mem_map_of_mem hr)), Option.bind_some, if_pos (Int.natCast_nonneg k), Int.toNat_natCast, List.getElem?_eq_getElem hk, Option.bind_some, ek, if_pos rfl]
  rw [List.map_cons, List.cons_append, rwt, hs, Option.bind_some, e]
  exact x.go pre post kk hp
theorem derv_rwt (g : Gr) (st : Str) (toks : List Str) (hb : ∀ r ∈ g, ∃ t b, r.2 = t :: b ∧ t ∉ hdL g) (h : Derv g toks st 0 toks.length) : ∃ ks : List Nat, ks.length ≤ toks.length ∧ (∀ k ∈ ks, k < g.length) ∧ rwt g (hdL g) [st] (ks.map fun n : Nat => (n : Int)) = some toks := by
  obtain ⟨w, ks, x⟩ := h _ (wd_cld g toks hb)
  refine ⟨ks, by have := x.len; omega, x.lt, ?_⟩
  have h1 := x.go [] [] [] (fun _ h => nomatch h)
  have h2 := x.seg.eq
  rw [List.drop_zero, List.drop_length, List.append_nil] at h2
  rw [List.append_nil, List.append_nil, List.append_nil, List.nil_append, List.nil_append] at h1
  rw [h1, h2]; rfl
end Mine

set_option autoImplicit false
open PySem PyProof.Rows
namespace Mine
set_option linter.unusedVariables false
set_option linter.unusedSimpArgs false
set_option maxRecDepth 100000

/-! 1-02: the grammars that the law builds -/
theorem φ_cell (ns : List Int) (i : Nat) (hn : ns.length ≤ 900) : ∃ c : Int, φ__law_cell [iL ns, .int i] = some (.int c) := by
  have ht : cmpB ltD (nameF 1) (un lenD (nameF 0)) (view (ini 2 [iL ns, .int (i : Int)])) = some (decide ((i : Int) < (ns.length : Int))) := cmp_val (a := .int (i : Int)) (b := .int (ns.length : Int)) rfl (len_val (enc := D.int) rfl) rfl
  by_cases h : i < ns.length
  · exact ⟨ns[i], fnF_ret rfl (seqG_ret (if_yes (ht.trans (by rw [decide_eq_true (by omega)])) (st_ret (d := .int ns[i]) (bin_val (a := iL ns) (b := .int (i : Int)) rfl rfl (idx_list D.int (by omega) (List.getElem?_eq_getElem h))) rfl)))⟩
  · exact ⟨i, fnF_ret rfl (st_skip (ht.trans (by rw [decide_eq_false (by omega)])) (st_ret (d := .int i) rfl rfl))⟩
noncomputable def chars (x : Str) : List Str := x.cps.toList.map fun c => ⟨#[c]⟩
noncomputable def hd3 : List Str := ["S", "A", "B"]
theorem pickH (c : Int) : ∃ s ∈ hd3, idxD (.str "SAB") (.int (c.fmod 3)) = some (.str s) := by
  obtain ⟨k, hk, e⟩ := fmodN c 3 (by decide)
  rw [show c.fmod 3 = (k : Int) from e]
  match k, hk with
  | 0, _ => exact ⟨"S", .head _, rfl⟩
  | 1, _ => exact ⟨"A", .tail _ (.head _), rfl⟩
  | 2, _ => exact ⟨"B", .tail _ (.tail _ (.head _)), rfl⟩
theorem pickL {f₁ f₂ : EEnv → Option D} {ρ : EEnv} {c : Int} {fr : List Str} (h0 : 0 < fr.length) (hl : fr.length < 900) (h1 : f₁ ρ = some (sL fr)) (h2 : f₂ ρ = some (.int c)) : ∃ f ∈ fr, bin idxD f₁ (bin modD f₂ (un lenD f₁)) ρ = some (.str f) := by
  obtain ⟨k, hk, e⟩ := fmodN c fr.length h0
  refine ⟨fr[k], List.getElem_mem _, bin_val (a := sL fr) (b := .int (k : Int)) h1 (bin_val (a := .int c) (b := .int (fr.length : Int)) h2 (len_val (enc := D.str) h1) ?_) (idx_list D.str (by omega) (List.getElem?_eq_getElem hk))⟩
  show (if _ then some (D.int (c.fmod (fr.length : Int))) else none) = _
  rw [if_pos (by omega), e]
noncomputable def rlS (ns : List Int) (m : Nat) (fr tl : List Str) (g : Gr) (s5 s6 s7 s8 : Slot) : List Slot := [.val 0 (iL ns), .val 0 (nD m), .val 0 (sL fr), .val 0 (sL tl), .val 1 (gramD g), s5, s6, s7, s8]
theorem gram_app (g : Gr) (r : Str × List Str) : D.list (g.map ruleD ++ [ruleD r]) = gramD (g ++ [r]) := by unfold gramD; rw [List.map_append]; rfl
theorem rl_loop (ns : List Int) (hn : ns.length ≤ 900) (m : Nat) (fr tl : List Str) (h1 : 0 < fr.length ∧ fr.length < 900) (h2 : 0 < tl.length ∧ tl.length < 900) (Q : List Str → Bool) (hQ : ∀ f ∈ fr, ∀ t ∈ tl, Q (chars (f ++ t)) = true ∧ (f ++ t).cps.size ≤ 900) (is : List Nat) (g : Gr) (hg : ∀ r ∈ g, r.1 ∈ hd3 ∧ Q r.2 = true) (s5 s6 s7 s8 : Slot) (hl : g.length + is.length < 900) :
    ∃ g' s5' s6' s7' s8', forL (putN 5) B__law_rules_1 (is.map nD) (rlS ns m fr tl g s5 s6 s7 s8) = some (.next (rlS ns m fr tl g' s5' s6' s7' s8')) ∧ g'.length = g.length + is.length ∧ ∀ r ∈ g', r.1 ∈ hd3 ∧ Q r.2 = true := by
  induction is generalizing g s5 s6 s7 s8 with
  | nil => exact ⟨g, s5, s6, s7, s8, rfl, rfl, hg⟩
  | cons i is ih =>
    rw [List.length_cons] at hl
    obtain ⟨c1, hc1⟩ := φ_cell ns (2 + i) hn
    obtain ⟨c2, hc2⟩ := φ_cell ns (6 + i) hn
    obtain ⟨c3, hc3⟩ := φ_cell ns (10 + i) hn
    rw [Int.natCast_add] at hc1 hc2 hc3
    obtain ⟨hd, hh, hp⟩ := pickH c1
    obtain ⟨f, hf, ef⟩ := pickL (f₁ := nameF 2) (f₂ := callF φ__law_cell (consF (nameF 0) (consF (bin addD (fun _ => some (D.int 6)) (nameF 5)) (fun _ => some [])))) (ρ := view (rlS ns m fr tl g (.val 0 (nD i)) (.val 0 (.str hd)) (clr 6 (clr 5 s7)) (clr 6 (clr 5 s8)))) h1.1 h1.2 rfl (call_val (ds := [iL ns, .int (6 + (i : Int))]) rfl hc2)
    obtain ⟨t, ht, et⟩ := pickL (f₁ := nameF 3) (f₂ := callF φ__law_cell (consF (nameF 0) (consF (bin addD (fun _ => some (D.int 10)) (nameF 5)) (fun _ => some [])))) (ρ := view (rlS ns m fr tl g (.val 0 (nD i)) (.val 0 (.str hd)) (.val 0 (.str f)) (clr 7 (clr 6 (clr 5 s8))))) h2.1 h2.2 rfl (call_val (ds := [iL ns, .int (10 + (i : Int))]) rfl hc3)
    obtain ⟨q1, q2⟩ := hQ f hf t ht
    obtain ⟨g', a5, a6, a7, a8, e1, e2, e3⟩ := ih (g ++ [(hd, chars (f ++ t))]) (fun r hr => (List.mem_append.mp hr).elim (hg r) fun q => by rw [List.mem_singleton.mp q]; exact ⟨hh, q1⟩) (.val 0 (nD i)) (.val 0 (.str hd)) (.val 0 (.str f)) (.val 0 (.str t)) (by rw [List.length_append, List.length_singleton]; omega)
    refine ⟨g', a5, a6, a7, a8, ?_, by rw [e2, List.length_append, List.length_singleton, List.length_cons]; omega, e3⟩
    refine for_cons (σ₁ := rlS ns m fr tl g (.val 0 (nD i)) (clr 5 s6) (clr 5 s7) (clr 5 s8)) rfl ?_ e1
    refine st_asg (d := .str hd) (σ' := rlS ns m fr tl g (.val 0 (nD i)) (.val 0 (.str hd)) (clr 6 (clr 5 s7)) (clr 6 (clr 5 s8))) (bin_val (a := .str "SAB") rfl (bin_val (a := .int c1) (b := .int 3) (call_val (ds := [iL ns, .int (2 + (i : Int))]) rfl hc1) rfl rfl) hp) rfl rfl ?_
    refine st_asg (d := .str f) (σ' := rlS ns m fr tl g (.val 0 (nD i)) (.val 0 (.str hd)) (.val 0 (.str f)) (clr 7 (clr 6 (clr 5 s8)))) ef rfl rfl ?_
    refine st_asg (d := .str t) (σ' := rlS ns m fr tl g (.val 0 (nD i)) (.val 0 (.str hd)) (.val 0 (.str f)) (.val 0 (.str t))) et rfl rfl ?_
    have hls : un listS (bin addD (nameF 7) (nameF 8)) (view (rlS ns m fr tl g (.val 0 (nD i)) (.val 0 (.str hd)) (.val 0 (.str f)) (.val 0 (.str t)))) = some (sL (chars (f ++ t))) := by
      refine un_val (a := .str (f ++ t)) (bin_val (a := .str f) (b := .str t) rfl rfl ?_) ?_
      · show (if _ then _ else _) = _
        exact if_pos (Nat.le_trans q2 (by decide))
      · show (if _ then _ else _) = _
        rw [if_pos (Nat.le_trans q2 (by decide))]
        unfold sL chars
        rw [List.map_map]; rfl
    exact st_step (app_val (ds := g.map ruleD) (d := ruleD (hd, chars (f ++ t))) rfl (tup2_val (a := .str hd) rfl hls) rfl (by rw [List.length_map, lim_eq]; omega) (by rw [gram_app]; rfl)) rfl
theorem φ_rules (ns : List Int) (hn : ns.length ≤ 900) (m : Nat) (hm : m ≤ 4) (fr tl : List Str) (h1 : 0 < fr.length ∧ fr.length < 900) (h2 : 0 < tl.length ∧ tl.length < 900) (Q : List Str → Bool) (hQ : ∀ f ∈ fr, ∀ t ∈ tl, Q (chars (f ++ t)) = true ∧ (f ++ t).cps.size ≤ 900) :
    ∃ g : Gr, φ__law_rules [iL ns, nD m, sL fr, sL tl] = some (gramD g) ∧ g.length = m ∧ ∀ r ∈ g, r.1 ∈ hd3 ∧ Q r.2 = true := by
  obtain ⟨g, s5, s6, s7, s8, e1, e2, e3⟩ := rl_loop ns hn m fr tl h1 h2 Q hQ (List.range m) [] (fun _ h => nomatch h) .un .un .un .un (by rw [List.length_range]; show 0 + m < 900; omega)
  refine ⟨g, fnF_ret rfl (st_asg (d := gramD []) (σ' := rlS ns m fr tl [] .un .un .un .un) rfl rfl rfl (st_for (d := .rng 0 (m : Int) 1) (ds := (List.range m).map nD) rfl (rng_items m (by omega)) rfl e1 (st_ret (d := gramD g) rfl rfl))), ?_, e3⟩
  rw [e2, List.length_range]; exact Nat.zero_add m
/-! comparisons -/
theorem flat_sL (f : List Str) : (sL f).flat = true := by
  show (f.map D.str).all D.imm = true
  rw [List.all_map]
  exact List.all_eq_true.mpr fun _ _ => rfl
theorem fu_opt (o : Option (List Str)) : Mk.fu.cl (optD o) = true := by
  cases o with
  | none => rfl
  | some f => show (false || _ || (true && (sL f).flat)) = true; rw [flat_sL]; rfl
theorem isN_opt (o : Option (List Str)) : isN (optD o) .none = some o.isNone := by cases o <;> rfl
theorem eqN_opt (o : Option (List Str)) (w : List Str) : eqN (optD o) (sL w) = some (decide (o = some w)) := by
  cases o with
  | none => rfl
  | some f =>
    refine (eqD_strs f w).trans (congrArg some (Bool.eq_iff_iff.mpr ?_))
    rw [decide_eq_true_iff, decide_eq_true_iff]
    exact ⟨congrArg some, Option.some.inj⟩
theorem eqN_self (o : Option (List Str)) : eqN (optD o) (optD o) = some true := by
  cases o with
  | none => rfl
  | some f => exact (eqN_opt (some f) f).trans (by rw [decide_eq_true rfl])
theorem eqL_intsN (n : Nat) (a : List Int) : eqL (eqD n) (a.map .int) (a.map .int) = some true := by
  induction a with
  | nil => rfl
  | cons x a ih =>
    have e : eqD n (.int x) (.int x) = some true := by cases n <;> (show some (x == x) = _; rw [beq_self_eq_true])
    rw [List.map_cons, eqL_cons, e, Option.bind_some, ih]; rfl
theorem eqD_ints (a : List Int) : eqD 40 (intL a) (intL a) = some true := by
  unfold intL
  rw [show (40 : Nat) = 39 + 1 from rfl, eqD_list, if_pos rfl]
  exact eqL_intsN 39 a
theorem eqD_nil {α : Type} (enc : α → D) (l : List α) : eqD 40 (.list (l.map enc)) (.list []) = some l.isEmpty := by
  rw [show (40 : Nat) = 39 + 1 from rfl, eqD_list]
  cases l with
  | nil => rfl
  | cons a l => exact if_neg (by rw [List.map_cons, List.length_cons]; exact Nat.succ_ne_zero _)
theorem rwt_app (g : Gr) (hs f : List Str) (ks ks' : List Int) : rwt g hs f (ks ++ ks') = (rwt g hs f ks).bind fun f' => rwt g hs f' ks' := by
  induction ks generalizing f with
  | nil => rfl
  | cons k ks ih =>
    rw [List.cons_append, rwt, rwt]
    cases stp g hs f k with
    | none => rfl
    | some f' => exact ih f'
theorem ft_nil {g : Gr} {f : List Str} (h : ftL g f = []) : ∀ s ∈ f, s ∉ hdL g := by
  refine cut_none ?_
  cases hc : cutH (hdL g) f with
  | none => rfl
  | some p =>
    exfalso
    obtain ⟨ef, hx, _⟩ := cut_some (p := p.1) (x := p.2.1) (q := p.2.2) hc
    obtain ⟨r, hr, er⟩ := List.mem_map.mp (mem_dedup.mp hx)
    obtain ⟨k, hk, ek⟩ := List.mem_iff_getElem.mp hr
    have : k ∈ ftL g f := by
      unfold ftL
      rw [List.mem_filter, List.mem_range, decide_eq_true_iff, fnd_cut, hc]
      refine ⟨hk, ?_⟩
      have : hdAt g k = r.1 := by unfold hdAt; rw [List.getElem?_eq_getElem hk, ek]; rfl
      show [hdAt g k] = [p.2.1]
      rw [this, er]
    rw [h] at this; cases this
end Mine

set_option autoImplicit false
open PySem PyProof.Rows
namespace Mine
set_option linter.unusedVariables false
set_option linter.unusedSimpArgs false
set_option maxRecDepth 100000

/-! 1-02: _law_replays -/
noncomputable def rsS (ns : List Int) (g : Gr) (ks : List Int) (dl : D) (s5 s6 s7 s8 s9 s10 s11 : Slot) : List Slot := [.val 0 (iL ns), .val 0 (gramD g), .val 0 (gramD g), .val 1 (intL ks), .val 0 dl, s5, s6, s7, s8, s9, s10, s11]
theorem int_app (ks : List Int) (k : Int) : D.list (ks.map D.int ++ [.int k]) = intL (ks ++ [k]) := by unfold intL; rw [List.map_append]; rfl
section
variable {ρ : EEnv} {b₁ b₂ b₃ : EEnv → Option Bool} {x y z : Bool}
theorem or_no (h1 : b₁ ρ = some false) (h2 : b₂ ρ = some y) : orB b₁ b₂ ρ = some y := by unfold orB; rw [h1]; exact h2
theorem or_yes (h1 : b₁ ρ = some true) : orB b₁ b₂ ρ = some true := by unfold orB; rw [h1]; rfl
theorem and_stop (h1 : b₁ ρ = some false) : andB b₁ b₂ ρ = some false := by unfold andB; rw [h1]; rfl
theorem and_go (h1 : b₁ ρ = some true) (h2 : b₂ ρ = some y) : andB b₁ b₂ ρ = some y := by unfold andB; rw [h1]; exact h2
end
/-- the last part of the loop's body: a number is chosen -/
theorem rs_pick (ns : List Int) (hn : ns.length ≤ 900) (g : Gr) (hg : g.length ≤ 4) (ks : List Int) (hk : ks.length ≤ 50) (dl : D) (fl : List Nat) (hfl : fl.length ≤ 4) (mode value : Int) (s5 s6 s7 s8 : Slot) :
    ∃ k : Int, ifG (cmpB (eqD 40) (nameF 10) (fun _ => some (D.int 0))) (seqG (appG 3 0 (nameF 11) (nameM 11)) (fun ρ => some (Out.next ρ)))
      (seqG (ifG (orB (cmpB (eqD 40) (nameF 10) (fun _ => some (D.int 1))) (orB (cmpB (eqD 40) (nameF 9) (listF (fun _ => some []))) (fun _ => some false))) (seqG (appG 3 0 (bin subD (bin modD (nameF 11) (bin addD (un lenD (nameF 1)) (fun _ => some (D.int 2)))) (fun _ => some (D.int 1))) (fun _ => Mk.fr)) (fun ρ => some (Out.next ρ)))
        (seqG (appG 3 0 (bin idxD (nameF 9) (bin modD (nameF 11) (un lenD (nameF 9)))) (childM (nameM 9))) (fun ρ => some (Out.next ρ)))) (fun ρ => some (Out.next ρ)))
      (rsS ns g ks dl s5 s6 s7 s8 (.val 0 (.list (fl.map nD))) (.val 0 (.int mode)) (.val 0 (.int value))) =
      some (.next (rsS ns g (ks ++ [k]) dl (clr 3 s5) (clr 3 s6) (clr 3 s7) (clr 3 s8) (.val 0 (.list (fl.map nD))) (.val 0 (.int mode)) (.val 0 (.int value)))) := by
  have c0 : cmpB (eqD 40) (nameF 10) (fun _ => some (D.int 0)) (view (rsS ns g ks dl s5 s6 s7 s8 (.val 0 (.list (fl.map nD))) (.val 0 (.int mode)) (.val 0 (.int value)))) = some (mode == 0) := cmp_val (a := .int mode) (b := .int 0) rfl rfl rfl
  have c1 : cmpB (eqD 40) (nameF 10) (fun _ => some (D.int 1)) (view (rsS ns g ks dl s5 s6 s7 s8 (.val 0 (.list (fl.map nD))) (.val 0 (.int mode)) (.val 0 (.int value)))) = some (mode == 1) := cmp_val (a := .int mode) (b := .int 1) rfl rfl rfl
  have c2 : cmpB (eqD 40) (nameF 9) (listF (fun _ => some [])) (view (rsS ns g ks dl s5 s6 s7 s8 (.val 0 (.list (fl.map nD))) (.val 0 (.int mode)) (.val 0 (.int value)))) = some fl.isEmpty := cmp_val (a := .list (fl.map nD)) (b := .list []) rfl rfl (eqD_nil nD fl)
  have hlen : (ks.map D.int).length < lim := by rw [List.length_map, lim_eq]; omega
  cases m0 : mode == 0 with
  | true => exact ⟨value, if_yes (c0.trans (by rw [m0])) (st_step (app_val (ds := ks.map D.int) (d := .int value) rfl rfl rfl hlen (by rw [int_app]; rfl)) rfl)⟩
  | false =>
    have mid : ∃ k : Int, bin subD (bin modD (nameF 11) (bin addD (un lenD (nameF 1)) (fun _ => some (D.int 2)))) (fun _ => some (D.int 1)) (view (rsS ns g ks dl s5 s6 s7 s8 (.val 0 (.list (fl.map nD))) (.val 0 (.int mode)) (.val 0 (.int value)))) = some (.int k) := by
      refine ⟨value.fmod ((g.length : Int) + 2) - 1, bin_val (a := .int (value.fmod ((g.length : Int) + 2))) (b := .int 1) (bin_val (a := .int value) (b := .int ((g.length : Int) + 2)) rfl (bin_val (a := .int (g.length : Int)) (b := .int 2) (len_val (enc := ruleD) rfl) rfl rfl) ?_) rfl rfl⟩
      show (if ((g.length : Int) + 2) ≠ 0 then some (D.int (value.fmod ((g.length : Int) + 2))) else none) = _
      rw [if_pos (by omega)]
    cases m1 : mode == 1 with
    | true =>
      obtain ⟨k, ek⟩ := mid
      exact ⟨k, if_no (c0.trans (by rw [m0])) (st_step (if_yes (or_yes (c1.trans (by rw [m1]))) (st_step (app_val (ds := ks.map D.int) (d := .int k) rfl ek rfl hlen (by rw [int_app]; rfl)) rfl)) rfl)⟩
    | false =>
      cases he : fl.isEmpty with
      | true =>
        obtain ⟨k, ek⟩ := mid
        exact ⟨k, if_no (c0.trans (by rw [m0])) (st_step (if_yes (or_no (c1.trans (by rw [m1])) (or_yes (c2.trans (by rw [he])))) (st_step (app_val (ds := ks.map D.int) (d := .int k) rfl ek rfl hlen (by rw [int_app]; rfl)) rfl)) rfl)⟩
      | false =>
        have h0 : 0 < fl.length := Nat.pos_of_ne_zero fun q => by rw [List.length_eq_zero_iff.mp q] at he; cases he
        obtain ⟨k, hk2, e⟩ := fmodN value fl.length h0
        have ev : bin idxD (nameF 9) (bin modD (nameF 11) (un lenD (nameF 9))) (view (rsS ns g ks dl s5 s6 s7 s8 (.val 0 (.list (fl.map nD))) (.val 0 (.int mode)) (.val 0 (.int value)))) = some (nD fl[k]) := by
          refine bin_val (a := .list (fl.map nD)) (b := .int (k : Int)) rfl (bin_val (a := .int value) (b := .int (fl.length : Int)) rfl (len_val (enc := nD) rfl) ?_) (idx_list nD (by omega) (List.getElem?_eq_getElem hk2))
          show (if _ then some (D.int (value.fmod (fl.length : Int))) else none) = _
          rw [if_pos (by omega), e]
        exact ⟨(fl[k] : Int), if_no (c0.trans (by rw [m0])) (st_step (if_no (or_no (c1.trans (by rw [m1])) (or_no (c2.trans (by rw [he])) rfl)) (st_step (app_val (ds := ks.map D.int) (d := nD fl[k]) rfl ev rfl hlen (by unfold nD; rw [int_app]; rfl)) rfl)) rfl)⟩
theorem ft_len (g : Gr) (f : List Str) : (ftL g f).length ≤ g.length := by
  unfold ftL
  exact Nat.le_trans (List.length_filter_le _ _) (by rw [List.length_range]; exact Nat.le_refl _)
theorem rs_tail (ns : List Int) (hn : ns.length ≤ 900) (g : Gr) (hg : g.length ≤ 4) (ks : List Int) (hk : ks.length ≤ 50) (o : Option (List Str)) (j : Nat) (hj : j < 100) (fl : List Nat) (hfl : fl.length ≤ 4) (s10 s11 : Slot) :
    ∃ k s10' s11', (seqG (ifG (orB (cmpB (notO eqN) (nameF 8) (nameF 6)) (orB (cmpB (notO (eqD 40)) (nameF 7) (nameF 3)) (orB (cmpB (notO (eqD 40)) (nameF 2) (nameF 1)) (fun _ => some false)))) (seqG (retG false (fun _ => some (D.bool false)) (fun _ => Mk.fr)) (fun ρ => some (Out.next ρ))) (fun ρ => some (Out.next ρ)))
      (seqG (asgG 10 0 (bin modD (callF φ__law_cell (consF (nameF 0) (consF (bin addD (fun _ => some (D.int 15)) (bin mulD (fun _ => some (D.int 2)) (nameF 5))) (fun _ => some [])))) (fun _ => some (D.int 6))) (fun _ => Mk.fr))
      (seqG (asgG 11 0 (callF φ__law_cell (consF (nameF 0) (consF (bin addD (fun _ => some (D.int 16)) (bin mulD (fun _ => some (D.int 2)) (nameF 5))) (fun _ => some [])))) (callM (fun ρ => ((nameM 0) ρ).clean && (((catM (fun _ => Mk.fr) (copyM (fun _ => Mk.fr))) ρ).clean && (true))) false))
      (seqG (ifG (cmpB (eqD 40) (nameF 10) (fun _ => some (D.int 0))) (seqG (appG 3 0 (nameF 11) (nameM 11)) (fun ρ => some (Out.next ρ)))
      (seqG (ifG (orB (cmpB (eqD 40) (nameF 10) (fun _ => some (D.int 1))) (orB (cmpB (eqD 40) (nameF 9) (listF (fun _ => some []))) (fun _ => some false))) (seqG (appG 3 0 (bin subD (bin modD (nameF 11) (bin addD (un lenD (nameF 1)) (fun _ => some (D.int 2)))) (fun _ => some (D.int 1))) (fun _ => Mk.fr)) (fun ρ => some (Out.next ρ)))
        (seqG (appG 3 0 (bin idxD (nameF 9) (bin modD (nameF 11) (un lenD (nameF 9)))) (childM (nameM 9))) (fun ρ => some (Out.next ρ)))) (fun ρ => some (Out.next ρ)))) (fun ρ => some (Out.next ρ))))))
      (rsS ns g ks (optD o) (.val 0 (nD j)) (.val 0 (optD o)) (.val 0 (intL ks)) (.val 0 (optD o)) (.val 0 (.list (fl.map nD))) s10 s11) =
      some (.next (rsS ns g (ks ++ [k]) (optD o) (.val 0 (nD j)) (.val 0 (optD o)) (.val 0 (intL ks)) (.val 0 (optD o)) (.val 0 (.list (fl.map nD))) s10' s11')) := by
  obtain ⟨cm, hcm⟩ := φ_cell ns (15 + 2 * j) hn
  obtain ⟨value, hcv⟩ := φ_cell ns (16 + 2 * j) hn
  rw [Int.natCast_add, Int.natCast_mul] at hcm hcv
  have hm : mulD (.int 2) (nD j) = some (.int (2 * (j : Int))) := by
    show (if _ then some (D.int (2 * (j : Int))) else none) = _
    rw [if_pos ⟨by decide, by rw [lim_eq, Int.natAbs_natCast]; omega⟩]
  obtain ⟨k, hp⟩ := rs_pick ns hn g hg ks hk (optD o) fl hfl (cm.fmod 6) value (.val 0 (nD j)) (.val 0 (optD o)) (.val 0 (intL ks)) (.val 0 (optD o))
  refine ⟨k, .val 0 (.int (cm.fmod 6)), .val 0 (.int value), ?_⟩
  refine st_skip (or_no (cmp_val (a := optD o) (b := optD o) rfl rfl (not_val (eqN_self o))) (or_no (cmp_val (a := intL ks) (b := intL ks) rfl rfl (not_val (eqD_ints ks))) (or_no (cmp_val (a := gramD g) (b := gramD g) rfl rfl (not_val (eqD_gram g))) rfl))) ?_
  refine st_asg (d := .int (cm.fmod 6)) (σ' := rsS ns g ks (optD o) (.val 0 (nD j)) (.val 0 (optD o)) (.val 0 (intL ks)) (.val 0 (optD o)) (.val 0 (.list (fl.map nD))) (.val 0 (.int (cm.fmod 6))) (clr 10 s11)) (bin_val (a := .int cm) (b := .int 6) (call_val (ds := [iL ns, .int (15 + 2 * (j : Int))]) ?_ hcm) rfl rfl) rfl rfl ?_
  · exact cons_val rfl (cons_val (bin_val (a := .int 15) (b := .int (2 * (j : Int))) rfl (bin_val (a := .int 2) (b := nD j) rfl rfl hm) rfl) rfl)
  refine st_asg (d := .int value) (σ' := rsS ns g ks (optD o) (.val 0 (nD j)) (.val 0 (optD o)) (.val 0 (intL ks)) (.val 0 (optD o)) (.val 0 (.list (fl.map nD))) (.val 0 (.int (cm.fmod 6))) (.val 0 (.int value))) (call_val (ds := [iL ns, .int (16 + 2 * (j : Int))]) ?_ hcv) rfl rfl ?_
  · exact cons_val rfl (cons_val (bin_val (a := .int 16) (b := .int (2 * (j : Int))) rfl (bin_val (a := .int 2) (b := nD j) rfl rfl hm) rfl) rfl)
  exact st_step hp rfl
theorem rs_body (ns : List Int) (hn : ns.length ≤ 900) (g g' : Gr) (st : Str) (b0 : List Str) (hgc : g = (st, b0) :: g') (hg : g.length ≤ 4) (hb : ∀ r ∈ g, r.2.length ≤ 3) (ks : List Int) (hk : ks.length ≤ 50) (ol : Option (List Str)) (hol : ol = none → rwt g (hdL g) [st] ks = none) (j : Nat) (hj : j < 100) (s6 s7 s8 s9 s10 s11 : Slot) :
    ∃ k s6' s7' s8' s9' s10' s11', B__law_replays_1 (rsS ns g ks (optD ol) (.val 0 (nD j)) s6 s7 s8 s9 s10 s11) = some (.next (rsS ns g (ks ++ [k]) (optD (rwt g (hdL g) [st] ks)) (.val 0 (nD j)) s6' s7' s8' s9' s10' s11')) := by
  have hrw := φ_rw g g' st b0 hgc (by omega) hb ks (by omega)
  have hrp := φ_rp g g' st b0 hgc (by omega) hb ks (by omega)
  have hder := φ_der g g' st b0 hgc
  have hst : st ∈ hdL g := mem_dedup.mpr (by rw [hgc]; exact .head _)
  have hrd := rwt_derv g st hst
  generalize ho : rwt g (hdL g) [st] ks = o at hrw hrp hol
  have go : ∀ {R} {G}, G (rsS ns g ks (optD o) (.val 0 (nD j)) (.val 0 (optD o)) (.val 0 (intL ks)) (.val 0 (optD o)) (.val 0 (.list [])) (clr 9 (clr 4 (clr 8 (clr 7 (clr 6 s10))))) (clr 9 (clr 4 (clr 8 (clr 7 (clr 6 s11)))))) = R →
      (seqG (asgG 6 0 (callF φ__law_rewritten (consF (nameF 1) (consF (nameF 3) (fun _ => some [])))) (callM (fun ρ => ((nameM 1) ρ).clean && (((nameM 3) ρ).clean && (true))) true))
      (seqG (asgG 7 0 (sliceF (nameF 3) (fun _ => some none) (fun _ => some none)) (copyM (nameM 3)))
      (seqG (asgG 8 0 (callF φ_replayed (consF (nameF 2) (consF (nameF 7) (fun _ => some [])))) (callM (fun ρ => ((nameM 2) ρ).clean && (((nameM 7) ρ).clean && (true))) false))
      (seqG (ifG (cmpB (notO eqN) (nameF 8) (nameF 6)) (seqG (retG false (fun _ => some (D.bool false)) (fun _ => Mk.fr)) (fun ρ => some (Out.next ρ))) (fun ρ => some (Out.next ρ)))
      (seqG (ifG (andB (cmpB isN (nameF 4) (fun _ => some D.none)) (andB (cmpB (notO isN) (nameF 8) (fun _ => some D.none)) (fun _ => some true))) (seqG (retG false (fun _ => some (D.bool false)) (fun _ => Mk.fr)) (fun ρ => some (Out.next ρ))) (fun ρ => some (Out.next ρ)))
      (seqG (asgG 4 0 (nameF 8) (nameM 8))
      (seqG (asgG 9 0 (listF (fun _ => some [])) (fun ρ => if true then Mk.own 1 else Mk.fu)) G))))))) (rsS ns g ks (optD ol) (.val 0 (nD j)) s6 s7 s8 s9 s10 s11) = R := by
    intro R G h
    refine st_asg (d := optD o) (σ' := rsS ns g ks (optD ol) (.val 0 (nD j)) (.val 0 (optD o)) (clr 6 s7) (clr 6 s8) (clr 6 s9) (clr 6 s10) (clr 6 s11)) (call_val (ds := [gramD g, intL ks]) rfl hrw) (fu_opt o) rfl ?_
    refine st_asg (d := intL ks) (σ' := rsS ns g ks (optD ol) (.val 0 (nD j)) (.val 0 (optD o)) (.val 0 (intL ks)) (clr 7 (clr 6 s8)) (clr 7 (clr 6 s9)) (clr 7 (clr 6 s10)) (clr 7 (clr 6 s11))) rfl rfl rfl ?_
    refine st_asg (d := optD o) (σ' := rsS ns g ks (optD ol) (.val 0 (nD j)) (.val 0 (optD o)) (.val 0 (intL ks)) (.val 0 (optD o)) (clr 8 (clr 7 (clr 6 s9))) (clr 8 (clr 7 (clr 6 s10))) (clr 8 (clr 7 (clr 6 s11)))) (call_val (ds := [gramD g, intL ks]) rfl hrp) rfl rfl ?_
    refine st_skip (cmp_val (a := optD o) (b := optD o) rfl rfl (not_val (eqN_self o))) ?_
    refine st_skip (and_no (cmp_val (a := optD ol) (b := .none) rfl rfl (isN_opt ol)) (cmp_val (a := optD o) (b := .none) rfl rfl (not_val (isN_opt o))) ?_) ?_
    · cases ol with
      | some f => rfl
      | none => rw [hol rfl]; rfl
    refine st_asg (d := optD o) (σ' := rsS ns g ks (optD o) (.val 0 (nD j)) (.val 0 (optD o)) (.val 0 (intL ks)) (.val 0 (optD o)) (clr 4 (clr 8 (clr 7 (clr 6 s9)))) (clr 4 (clr 8 (clr 7 (clr 6 s10)))) (clr 4 (clr 8 (clr 7 (clr 6 s11))))) rfl rfl rfl ?_
    exact st_asg (d := .list []) rfl rfl rfl h
  cases o with
  | none =>
    obtain ⟨k, t10, t11, ht⟩ := rs_tail ns hn g hg ks hk none j hj [] (by decide) (clr 9 (clr 4 (clr 8 (clr 7 (clr 6 s10))))) (clr 9 (clr 4 (clr 8 (clr 7 (clr 6 s11)))))
    exact ⟨k, _, _, _, _, t10, t11, go (st_skip (cmp_val (a := .none) (b := .none) rfl rfl (not_val (isN_opt none))) ht)⟩
  | some f =>
    obtain ⟨k, t10, t11, ht⟩ := rs_tail ns hn g hg ks hk (some f) j hj (ftL g f) (Nat.le_trans (ft_len g f) hg) (clr 9 (clr 9 (clr 4 (clr 8 (clr 7 (clr 6 s10)))))) (clr 9 (clr 9 (clr 4 (clr 8 (clr 7 (clr 6 s11))))))
    refine ⟨k, _, _, _, _, t10, t11, go (st_step (if_yes (cmp_val (a := sL f) (b := .none) rfl rfl (not_val (isN_opt (some f)))) ?_) ht)⟩
    refine st_asg (d := .list ((ftL g f).map nD)) (σ' := rsS ns g ks (sL f) (.val 0 (nD j)) (.val 0 (sL f)) (.val 0 (intL ks)) (.val 0 (sL f)) (.val 0 (.list ((ftL g f).map nD))) (clr 9 (clr 9 (clr 4 (clr 8 (clr 7 (clr 6 s10)))))) (clr 9 (clr 9 (clr 4 (clr 8 (clr 7 (clr 6 s11))))))) (call_val (ds := [gramD g, sL f]) rfl (φ_fits g f (by omega))) rfl rfl ?_
    refine st_skip ?_ rfl
    have c1 : cmpB (eqD 40) (nameF 9) (listF (fun _ => some [])) (view (rsS ns g ks (sL f) (.val 0 (nD j)) (.val 0 (sL f)) (.val 0 (intL ks)) (.val 0 (sL f)) (.val 0 (.list ((ftL g f).map nD))) (clr 9 (clr 9 (clr 4 (clr 8 (clr 7 (clr 6 s10)))))) (clr 9 (clr 9 (clr 4 (clr 8 (clr 7 (clr 6 s11)))))))) = some (ftL g f).isEmpty := cmp_val (a := .list ((ftL g f).map nD)) (b := .list []) rfl rfl (eqD_nil nD _)
    cases he : (ftL g f).isEmpty with
    | false => exact and_stop (c1.trans (by rw [he]))
    | true =>
      refine and_go (c1.trans (by rw [he])) ?_
      have c2 : cmpB leD (un lenD (nameF 6)) (fun _ => some (D.int 4)) (view (rsS ns g ks (sL f) (.val 0 (nD j)) (.val 0 (sL f)) (.val 0 (intL ks)) (.val 0 (sL f)) (.val 0 (.list ((ftL g f).map nD))) (clr 9 (clr 9 (clr 4 (clr 8 (clr 7 (clr 6 s10)))))) (clr 9 (clr 9 (clr 4 (clr 8 (clr 7 (clr 6 s11)))))))) = some (decide ((f.length : Int) ≤ 4)) := cmp_val (a := .int (f.length : Int)) (b := .int 4) (len_val (enc := D.str) rfl) rfl rfl
      by_cases h4 : f.length ≤ 4
      · refine and_go (c2.trans (by rw [decide_eq_true (by omega)])) (and_stop ?_)
        obtain ⟨b, h5, h6⟩ := hder f hg h4
        have hb1 : b = true := h6.mpr (hrd f (ft_nil (List.isEmpty_iff.mp he)) ks ho)
        rw [hb1] at h5
        exact cmp_val (a := .bool true) (b := .bool true) (call_val (ds := [gramD g, sL f]) rfl h5) rfl rfl
      · exact and_stop (c2.trans (by rw [decide_eq_false (by omega)]))
theorem rs_loop (ns : List Int) (hn : ns.length ≤ 900) (g g' : Gr) (st : Str) (b0 : List Str) (hgc : g = (st, b0) :: g') (hg : g.length ≤ 4) (hb : ∀ r ∈ g, r.2.length ≤ 3) (js : List Nat) (hj : ∀ j ∈ js, j < 100) (ks : List Int) (hk : ks.length + js.length ≤ 50) (ol : Option (List Str)) (hol : ol = none → rwt g (hdL g) [st] ks = none) (s5 s6 s7 s8 s9 s10 s11 : Slot) :
    ∃ ks' dl s5' s6' s7' s8' s9' s10' s11', forL (putN 5) B__law_replays_1 (js.map nD) (rsS ns g ks (optD ol) s5 s6 s7 s8 s9 s10 s11) = some (.next (rsS ns g ks' dl s5' s6' s7' s8' s9' s10' s11')) := by
  induction js generalizing ks ol s5 s6 s7 s8 s9 s10 s11 with
  | nil => exact ⟨_, _, _, _, _, _, _, _, _, rfl⟩
  | cons j js ih =>
    rw [List.length_cons] at hk
    obtain ⟨k, a6, a7, a8, a9, a10, a11, h1⟩ := rs_body ns hn g g' st b0 hgc hg hb ks (by omega) ol hol j (hj j (.head _)) (clr 5 s6) (clr 5 s7) (clr 5 s8) (clr 5 s9) (clr 5 s10) (clr 5 s11)
    obtain ⟨ks', dl, c5, c6, c7, c8, c9, c10, c11, h2⟩ := ih (fun x hx => hj x (.tail _ hx)) (ks ++ [k]) (by rw [List.length_append, List.length_singleton]; omega) (rwt g (hdL g) [st] ks) (fun e => by rw [rwt_app, e]; rfl) (.val 0 (nD j)) a6 a7 a8 a9 a10 a11
    exact ⟨ks', dl, c5, c6, c7, c8, c9, c10, c11, for_cons (σ₁ := rsS ns g ks (optD ol) (.val 0 (nD j)) (clr 5 s6) (clr 5 s7) (clr 5 s8) (clr 5 s9) (clr 5 s10) (clr 5 s11)) rfl h1 h2⟩
theorem slice_all {f : EEnv → Option D} {ρ : EEnv} {xs : List D} (h : f ρ = some (.list xs)) : sliceF f (fun _ => some none) (fun _ => some none) ρ = some (.list xs) := by unfold sliceF; rw [h]; rfl
/-- a copy of the rules -/
theorem copy_rules (g : Gr) {ρ : EEnv} {f₁ f₂ : EEnv → Option D} (h : ρ.length = 12) (hf : nameF 1 ρ = some (gramD g)) (hm : nameM 1 ρ = .fr) : compF 12 1 false (nameF 1) (nameM 1) (setN 12) (fun _ => some true) (tupF (consF (bin idxD (nameF 12) (fun _ => some (D.int 0))) (consF (sliceF (bin idxD (nameF 12) (fun _ => some (D.int 1))) (fun _ => some none) (fun _ => some none)) (fun _ => some [])))) (fun ρ => if ((childM (nameM 12)) ρ).clean && (((copyM (childM (nameM 12))) ρ).clean && (true)) then Mk.fr else Mk.unk) ρ = some (gramD g) := by
  have key : ∀ d, nameF 12 ((ρ ++ List.replicate 1 none).set 12 (some (d, .fr))) = some d ∧ nameM 12 ((ρ ++ List.replicate 1 none).set 12 (some (d, .fr))) = .fr := fun d => by
    have : ((ρ ++ List.replicate 1 none).set 12 (some (d, Mk.fr)))[12]? = some (some (d, .fr)) := List.getElem?_set_self (by rw [List.length_append, h]; decide)
    unfold nameF nameM
    rw [this]; exact ⟨rfl, rfl⟩
  have h1 := compL_map (upd := setN 12) (bs := fun _ => some true) (fe := tupF (consF (bin idxD (nameF 12) (fun _ => some (D.int 0))) (consF (sliceF (bin idxD (nameF 12) (fun _ => some (D.int 1))) (fun _ => some none) (fun _ => some none)) (fun _ => some [])))) (me := fun ρ => if ((childM (nameM 12)) ρ).clean && (((copyM (childM (nameM 12))) ρ).clean && (true)) then Mk.fr else Mk.unk) (ρ := ρ ++ List.replicate 1 none) ruleD (fun _ => true) ruleD g fun r _ => by
    obtain ⟨k1, k2⟩ := key (ruleD r)
    refine ⟨_, rfl, rfl, fun _ => ⟨tup2_val (a := .str r.1) (b := sL r.2) (bin_val (a := ruleD r) (b := .int 0) k1 rfl rfl) ?_, ?_⟩⟩
    · exact slice_all (bin_val (a := ruleD r) (b := .int 1) k1 rfl rfl)
    · unfold copyM childM
      rw [k2]; rfl
  rw [filter_true] at h1
  exact compF_eq (d := gramD g) (ds := g.map ruleD) h hf rfl (by rw [hm]; rfl) h1
noncomputable def frL : List Str := ["a", "", "A", "b", "aB", "S", "BA", "ab", "Sa", "bA", "", "B"]
noncomputable def reL : List Str := ["", "a", "", "b", "A", "S"]
theorem rules_ne {g : Gr} {m : Nat} (h : g.length = m + 1) : ∃ st b0 g', g = (st, b0) :: g' := by
  cases g with
  | nil => cases h
  | cons r g => exact ⟨r.1, r.2, g, rfl⟩
theorem rules_arg {ns : List Int} {c : Int} {M : Nat} {d1 d2 d : D} {k : Nat} {ρ : EEnv} (hf : nameF 0 ρ = some (iL ns)) (hc : φ__law_cell [iL ns, .int 1] = some (.int c)) (hM : modD (.int c) (.int (M : Int)) = some (nD k)) (h : φ__law_rules [iL ns, nD (1 + k), d1, d2] = some d) :
    callF φ__law_rules (consF (nameF 0) (consF (bin addD (fun _ => some (D.int 1)) (bin modD (callF φ__law_cell (consF (nameF 0) (consF (fun _ => some (D.int 1)) (fun _ => some [])))) (fun _ => some (D.int (M : Int))))) (consF (fun _ => some d1) (consF (fun _ => some d2) (fun _ => some []))))) ρ = some d := by
  refine call_val (ds := [iL ns, nD (1 + k), d1, d2]) (cons_val hf (cons_val (bin_val (a := .int 1) (b := nD k) rfl (bin_val (a := .int c) (b := .int (M : Int)) (call_val (ds := [iL ns, .int 1]) (cons_val hf rfl) hc) rfl hM) ?_) rfl)) h
  show some (D.int (1 + (k : Int))) = some (D.int ((1 + k : Nat) : Int))
  rw [Int.natCast_add]; rfl
theorem mod_nat (c : Int) (M : Nat) (hM : 0 < M) : ∃ k : Nat, k < M ∧ modD (.int c) (.int (M : Int)) = some (nD k) := by
  obtain ⟨k, hk, e⟩ := fmodN c M hM
  refine ⟨k, hk, ?_⟩
  show (if _ then some (D.int (c.fmod (M : Int))) else none) = _
  rw [if_pos (by omega), e]; rfl
theorem φ_replays (ns : List Int) (hn : ns.length ≤ 900) : φ__law_replays [iL ns] = some (.bool true) := by
  obtain ⟨c1, hc1⟩ := φ_cell ns 1 hn
  obtain ⟨c2, hc2⟩ := φ_cell ns 14 hn
  obtain ⟨k1, hk1, m1⟩ := mod_nat c1 4 (by decide)
  obtain ⟨k2, hk2, m2⟩ := mod_nat c2 6 (by decide)
  obtain ⟨g, eg, lg, hr⟩ := φ_rules ns hn (1 + k1) (by omega) frL reL (by decide +kernel) (by decide +kernel) (fun b => decide (b.length ≤ 3)) (by decide +kernel)
  obtain ⟨st, b0, g', hgc⟩ := rules_ne (m := k1) (by rw [lg, Nat.add_comm])
  obtain ⟨ks', dl, s5, s6, s7, s8, s9, s10, s11, hl⟩ := rs_loop ns hn g g' st b0 hgc (by omega) (fun r h => of_decide_eq_true (hr r h).2) (List.range (1 + k2)) (fun j hj => by rw [List.mem_range] at hj; omega) [] (by rw [List.length_range]; show 0 + (1 + k2) ≤ 50; omega) (some []) (fun q => nomatch q) .un .un .un .un .un .un .un
  refine fnF_ret rfl ?_
  refine st_asg (d := gramD g) (σ' := [.val 0 (iL ns), .val 0 (gramD g), .un, .un, .un, .un, .un, .un, .un, .un, .un, .un]) (rules_arg (M := 4) rfl hc1 m1 eg) rfl rfl ?_
  refine st_asg (d := gramD g) (σ' := [.val 0 (iL ns), .val 0 (gramD g), .val 0 (gramD g), .un, .un, .un, .un, .un, .un, .un, .un, .un]) (copy_rules g (f₁ := nameF 1) (f₂ := nameF 1) rfl rfl rfl) rfl rfl ?_
  refine st_asg (d := intL []) (σ' := [.val 0 (iL ns), .val 0 (gramD g), .val 0 (gramD g), .val 1 (intL []), .un, .un, .un, .un, .un, .un, .un, .un]) rfl rfl rfl ?_
  refine st_asg (d := sL []) (σ' := rsS ns g [] (optD (some [])) .un .un .un .un .un .un .un) rfl rfl rfl ?_
  refine st_for (d := .rng 0 ((1 + k2 : Nat) : Int) 1) (ds := (List.range (1 + k2)).map nD) (un_val (a := nD (1 + k2)) ?_ rfl) (rng_items _ (by omega)) rfl hl (st_ret (d := .bool true) rfl rfl)
  refine bin_val (a := .int 1) (b := nD k2) rfl (bin_val (a := .int c2) (b := .int 6) (call_val (ds := [iL ns, .int 14]) rfl hc2) rfl m2) ?_
  show some (D.int (1 + (k2 : Int))) = some (D.int ((1 + k2 : Nat) : Int))
  rw [Int.natCast_add]; rfl
end Mine

set_option autoImplicit false
open PySem PyProof.Rows
namespace Mine
set_option linter.unusedVariables false
set_option linter.unusedSimpArgs false
set_option maxRecDepth 100000

/-! 1-02: _law_words, law -/
noncomputable def tkL : List Str := ["a", "b", "a"]
noncomputable def taL : List Str := ["", "A", "b", "S", "", "B", "a", "AB", "", "bS"]
noncomputable def ab : List Str := ["a", "b"]
theorem pickW (c : Int) : ∃ s ∈ ab, idxD (.str "aab") (.int (c.fmod 3)) = some (.str s) := by
  obtain ⟨k, hk, e⟩ := fmodN c 3 (by decide)
  rw [show c.fmod 3 = (k : Int) from e]
  match k, hk with
  | 0, _ => exact ⟨"a", .head _, rfl⟩
  | 1, _ => exact ⟨"a", .head _, rfl⟩
  | 2, _ => exact ⟨"b", .tail _ (.head _), rfl⟩
theorem pickN (c : Int) : ∃ n : Nat, n ≤ 2 ∧ idxD (.list [.int 2, .int 1, .int 0, .int 2]) (.int (c.fmod 4)) = some (nD n) := by
  obtain ⟨k, hk, e⟩ := fmodN c 4 (by decide)
  rw [show c.fmod 4 = (k : Int) from e]
  match k, hk with
  | 0, _ => exact ⟨2, by decide, rfl⟩
  | 1, _ => exact ⟨1, by decide, rfl⟩
  | 2, _ => exact ⟨0, by decide, rfl⟩
  | 3, _ => exact ⟨2, by decide, rfl⟩
noncomputable def wwS (ns : List Int) (g : Gr) (w : List Str) (s4 : Slot) : List Slot := [.val 0 (iL ns), .val 0 (gramD g), .val 0 (gramD g), .val 1 (sL w), s4, .un, .un, .un, .un, .un, .un, .un]
theorem ww_loop (ns : List Int) (hn : ns.length ≤ 900) (g : Gr) (is : List Nat) (w : List Str) (hw : ∀ s ∈ w, s ∈ ab) (hl : w.length + is.length ≤ 100) (s4 : Slot) :
    ∃ w' s4', forL (putN 4) B__law_words_1 (is.map nD) (wwS ns g w s4) = some (.next (wwS ns g w' s4')) ∧ w'.length = w.length + is.length ∧ ∀ s ∈ w', s ∈ ab := by
  induction is generalizing w s4 with
  | nil => exact ⟨w, s4, rfl, rfl, hw⟩
  | cons i is ih =>
    rw [List.length_cons] at hl
    obtain ⟨c, hc⟩ := φ_cell ns (15 + i) hn
    rw [Int.natCast_add] at hc
    obtain ⟨s, hs, hp⟩ := pickW c
    obtain ⟨w', a4, e1, e2, e3⟩ := ih (w ++ [s]) (fun x hx => (List.mem_append.mp hx).elim (hw x) fun q => List.mem_singleton.mp q ▸ hs) (by rw [List.length_append, List.length_singleton]; omega) (.val 0 (nD i))
    refine ⟨w', a4, for_cons (σ₁ := wwS ns g w (.val 0 (nD i))) rfl (st_step (app_val (ds := w.map D.str) (d := .str s) rfl (bin_val (a := .str "aab") rfl (bin_val (a := .int c) (b := .int 3) (call_val (ds := [iL ns, .int (15 + (i : Int))]) rfl hc) rfl rfl) hp) rfl (by rw [List.length_map, lim_eq]; omega) (by rw [sL_app]; rfl)) rfl) e1, by rw [e2, List.length_append, List.length_singleton, List.length_cons]; omega, e3⟩
/-! the lists of numbers -/
noncomputable def nxt (m : Nat) (ls : List (List Int)) : List (List Int) := ls.flatMap fun ks => (List.range m).map fun k : Nat => ks ++ [(k : Int)]
noncomputable def lsL (m : Nat) : Nat → List (List Int)
  | 0 => [[]]
  | n + 1 => [] :: nxt m (lsL m n)
noncomputable def llD (ls : List (List Int)) : D := .list (ls.map intL)
theorem nxt_len {m : Nat} {ls : List (List Int)} (hm : m ≤ 3) : (nxt m ls).length ≤ ls.length * 3 := flat_le ls fun ks _ => by rw [List.length_map, List.length_range]; exact hm
theorem lsL_len {m n : Nat} (hm : m ≤ 3) (hn : n ≤ 2) : (lsL m n).length ≤ 13 := by
  have h1 : (lsL m 1).length ≤ 4 := by
    have := nxt_len (ls := lsL m 0) hm
    show (nxt m (lsL m 0)).length + 1 ≤ 4
    rw [show (lsL m 0).length = 1 from rfl] at this
    omega
  match n, hn with
  | 0, _ => show 1 ≤ 13; decide
  | 1, _ => omega
  | 2, _ =>
    have := nxt_len (ls := lsL m 1) hm
    show (nxt m (lsL m 1)).length + 1 ≤ 13
    omega
theorem lsL_short {m n : Nat} {ks : List Int} (h : ks ∈ lsL m n) : ks.length ≤ n := by
  induction n generalizing ks with
  | zero => rw [List.mem_singleton.mp h]; exact Nat.le_refl _
  | succ n ih =>
    rcases List.mem_cons.mp h with e | h
    · rw [e]; exact Nat.zero_le _
    · obtain ⟨a, ha, hk⟩ := List.mem_flatMap.mp h
      obtain ⟨k, _, rfl⟩ := List.mem_map.mp hk
      have := ih ha
      rw [List.length_append, List.length_singleton]; omega
theorem lsL_all {m n : Nat} {ks : List Nat} (hl : ks.length ≤ n) (h : ∀ k ∈ ks, k < m) : ks.map (fun n : Nat => (n : Int)) ∈ lsL m n := by
  induction n generalizing ks with
  | zero => rw [List.length_eq_zero_iff.mp (Nat.le_zero.mp hl)]; exact .head _
  | succ n ih =>
    rcases List.eq_nil_or_concat ks with e | ⟨a, k, e⟩
    · rw [e]; exact .head _
    · rw [List.concat_eq_append] at e
      subst e
      rw [List.length_append, List.length_singleton] at hl
      refine .tail _ (List.mem_flatMap.mpr ⟨a.map fun n : Nat => (n : Int), ih (by omega) fun x hx => h x (List.mem_append_left _ hx), List.mem_map.mpr ⟨k, List.mem_range.mpr (h k (List.mem_append_right _ (.head _))), ?_⟩⟩)
      rw [List.map_append]; rfl
noncomputable def wlS (ns : List Int) (g : Gr) (w : List Str) (s4 : Slot) (ls : List (List Int)) : List Slot := [.val 0 (iL ns), .val 0 (gramD g), .val 0 (gramD g), .val 1 (sL w), s4, .val 0 (sL w), .val 0 (llD ls), .un, .un, .un, .un, .un]
theorem wl_inner (ns : List Int) (g : Gr) (w : List Str) (s4 : Slot) (ls : List (List Int)) (ks : List Int) (hk : ks.length ≤ 50) (is : List Nat) :
    compL (setN 13) (fun _ => some true) (bin addD (nameF 12) (listF (consF (nameF 13) (fun _ => some [])))) (catM (nameM 12) (fun ρ => if ((nameM 13) ρ).clean && (true) then Mk.own 1 else Mk.fu)) ((view (wlS ns g w s4 ls) ++ List.replicate 2 none).set 12 (some (intL ks, .fr))) (is.map nD) = some ((is.map fun k : Nat => ks ++ [(k : Int)]).map intL) := by
  have h := compL_map (upd := setN 13) (bs := fun _ => some true) (fe := bin addD (nameF 12) (listF (consF (nameF 13) (fun _ => some [])))) (me := catM (nameM 12) (fun ρ => if ((nameM 13) ρ).clean && (true) then Mk.own 1 else Mk.fu)) (ρ := (view (wlS ns g w s4 ls) ++ List.replicate 2 none).set 12 (some (intL ks, .fr))) nD (fun _ => true) (fun k : Nat => intL (ks ++ [(k : Int)])) is fun i _ =>
    ⟨_, rfl, rfl, fun _ => ⟨bin_val (a := intL ks) (b := .list [nD i]) rfl rfl (by
      show (if (ks.map D.int).length + 1 ≤ lim then some (D.list (ks.map D.int ++ [nD i])) else none) = _
      rw [if_pos (by rw [List.length_map, lim_eq]; omega)]
      exact congrArg some (int_app ks i)), rfl⟩⟩
  rw [filter_true] at h
  rw [h, List.map_map]; rfl
section
variable {n k : Nat} {f₁ fi fe : EEnv → Option D} {m₁ me : EEnv → Mk} {u₁ u₂ : EEnv → D → Option EEnv} {ρ ρ₁ : EEnv} {x d : D} {xs ds r r' outs : List D}
theorem comp2L_cons (h1 : u₁ ρ x = some ρ₁) (h2 : fi ρ₁ = some d) (h3 : d.items = some ds) (h4 : ds.all D.imm = true) (h5 : compL u₂ (fun _ => some true) fe me ρ₁ ds = some r) (h6 : comp2L u₁ u₂ fi fe me ρ xs = some r') : comp2L u₁ u₂ fi fe me ρ (x :: xs) = some (r ++ r') := by
  rw [comp2L, h1, Option.bind_some, h2, Option.bind_some, h3, Option.bind_some, if_pos h4, h5, Option.bind_some, h6]; rfl
theorem comp2F_eq (h1 : ρ.length = n) (h2 : f₁ ρ = some d) (h3 : d.items = some ds) (h4 : ((m₁ ρ).cat || ds.all D.imm) = true) (h5 : comp2L u₁ u₂ fi fe me (ρ ++ List.replicate k none) ds = some outs) (h6 : outs.length ≤ lim) : comp2F n k f₁ m₁ u₁ u₂ fi fe me ρ = some (.list outs) := by
  unfold comp2F
  rw [if_pos h1, h2, Option.bind_some, h3, Option.bind_some, if_pos h4, h5, Option.bind_some, if_pos h6]
end
theorem wl_comp (ns : List Int) (g : Gr) (hg : g.length ≤ 4) (w : List Str) (s4 : Slot) (ls xs : List (List Int)) (hk : ∀ ks ∈ xs, ks.length ≤ 50) :
    comp2L (setN 12) (setN 13) (un rangeD (un lenD (nameF 1))) (bin addD (nameF 12) (listF (consF (nameF 13) (fun _ => some [])))) (catM (nameM 12) (fun ρ => if ((nameM 13) ρ).clean && (true) then Mk.own 1 else Mk.fu)) (view (wlS ns g w s4 ls) ++ List.replicate 2 none) (xs.map intL) = some ((nxt g.length xs).map intL) := by
  induction xs with
  | nil => rfl
  | cons ks xs ih =>
    have h1 := wl_inner ns g w s4 ls ks (hk ks (.head _)) (List.range g.length)
    have h2 := ih fun x hx => hk x (.tail _ hx)
    have h3 : un rangeD (un lenD (nameF 1)) ((view (wlS ns g w s4 ls) ++ List.replicate 2 none).set 12 (some (intL ks, .fr))) = some (.rng 0 (g.length : Int) 1) := un_val (len_val (enc := ruleD) rfl) rfl
    have h4 : ((List.range g.length).map nD).all D.imm = true := by rw [List.all_map]; exact List.all_eq_true.mpr fun _ _ => rfl
    rw [List.map_cons, show nxt g.length (ks :: xs) = ((List.range g.length).map fun k : Nat => ks ++ [(k : Int)]) ++ nxt g.length xs from rfl, List.map_append]
    exact comp2L_cons rfl h3 (rng_items g.length (by omega)) h4 h1 h2
theorem wl_step (ns : List Int) (g : Gr) (hg : g.length ≤ 4) (w : List Str) (s4 : Slot) (ls : List (List Int)) (hk : ∀ ks ∈ ls, ks.length ≤ 50) (hl : (nxt g.length ls).length ≤ 900) : B__law_words_2 (wlS ns g w s4 ls) = some (.next (wlS ns g w (clr 6 s4) ([] :: nxt g.length ls))) := by
  have h1 := wl_comp ns g hg w s4 ls ls hk
  have h2 : K__law_words_2 (view (wlS ns g w s4 ls)) = some (llD (nxt g.length ls)) := by
    exact comp2F_eq (d := llD ls) (ds := ls.map intL) rfl rfl rfl rfl h1 (by rw [List.length_map, lim_eq]; omega)
  refine st_asg (d := llD ([] :: nxt g.length ls)) (bin_val (a := .list [.list []]) (b := llD (nxt g.length ls)) rfl h2 ?_) rfl rfl rfl
  show (if 1 + ((nxt g.length ls).map intL).length ≤ lim then some (D.list ([.list []] ++ (nxt g.length ls).map intL)) else none) = _
  rw [if_pos (by rw [List.length_map, lim_eq]; omega)]; rfl
theorem wl_loop (ns : List Int) (g : Gr) (hg : g.length ≤ 3) (w : List Str) (is : List Nat) (n : Nat) (hn : n + is.length ≤ 2) (s4 : Slot) :
    ∃ s4', forL (putN 4) B__law_words_2 (is.map nD) (wlS ns g w s4 (lsL g.length n)) = some (.next (wlS ns g w s4' (lsL g.length (n + is.length)))) := by
  induction is generalizing n s4 with
  | nil => exact ⟨s4, rfl⟩
  | cons i is ih =>
    rw [List.length_cons] at hn
    have h0 := lsL_len (m := g.length) (n := n + 1) hg (by omega)
    obtain ⟨t4, h1⟩ := ih (n + 1) (by omega) (.val 0 (nD i))
    refine ⟨t4, for_cons (σ₁ := wlS ns g w (.val 0 (nD i)) (lsL g.length n)) rfl (wl_step ns g (by omega) w _ (lsL g.length n) (fun ks hks => by have := lsL_short hks; omega) ?_) ?_⟩
    · have : (nxt g.length (lsL g.length n)).length + 1 ≤ 13 := h0
      omega
    · rw [List.length_cons, Nat.add_comm is.length, ← Nat.add_assoc]; exact h1
/-! the search -/
noncomputable def wsS (ns : List Int) (g : Gr) (w : List Str) (s4 : Slot) (ls : List (List Int)) (s7 : Slot) (fd : Bool) (s9 s10 s11 : Slot) : List Slot := [.val 0 (iL ns), .val 0 (gramD g), .val 0 (gramD g), .val 1 (sL w), s4, .val 0 (sL w), .val 0 (llD ls), s7, .val 0 (.bool fd), s9, s10, s11]
theorem ws_body (ns : List Int) (g g' : Gr) (st : Str) (b0 : List Str) (hgc : g = (st, b0) :: g') (hg : g.length ≤ 4) (hb : ∀ r ∈ g, r.2.length ≤ 3) (w : List Str) (s4 : Slot) (ls : List (List Int)) (ks : List Int) (hk : ks.length ≤ 50) (fd : Bool) (s9 s10 s11 : Slot) :
    ∃ s4' s9' s10' s11', B__law_words_3 (wsS ns g w s4 ls (.val 0 (intL ks)) fd s9 s10 s11) = some (.next (wsS ns g w s4' ls (.val 0 (intL ks)) (fd || decide (rwt g (hdL g) [st] ks = some w)) s9' s10' s11')) := by
  have hrw := φ_rw g g' st b0 hgc (by omega) hb ks (by omega)
  have hrp := φ_rp g g' st b0 hgc (by omega) hb ks (by omega)
  generalize rwt g (hdL g) [st] ks = o at hrw hrp
  have go : ∀ {R} {G}, G (wsS ns g w (clr 10 (clr 9 s4)) ls (.val 0 (intL ks)) fd (.val 0 (optD o)) (.val 0 (intL ks)) (clr 10 (clr 9 s11))) = R →
      (seqG (asgG 9 0 (callF φ__law_rewritten (consF (nameF 1) (consF (nameF 7) (fun _ => some [])))) (callM (fun ρ => ((nameM 1) ρ).clean && (((nameM 7) ρ).clean && (true))) true))
      (seqG (asgG 10 0 (sliceF (nameF 7) (fun _ => some none) (fun _ => some none)) (copyM (nameM 7)))
      (seqG (ifG (orB (cmpB (notO eqN) (callF φ_replayed (consF (nameF 2) (consF (nameF 10) (fun _ => some [])))) (nameF 9)) (orB (cmpB (notO (eqD 40)) (nameF 10) (nameF 7)) (fun _ => some false))) (seqG (retG false (fun _ => some (D.bool false)) (fun _ => Mk.fr)) (fun ρ => some (Out.next ρ))) (fun ρ => some (Out.next ρ))) G))) (wsS ns g w s4 ls (.val 0 (intL ks)) fd s9 s10 s11) = R := by
    intro R G h
    refine st_asg (d := optD o) (σ' := wsS ns g w (clr 9 s4) ls (.val 0 (intL ks)) fd (.val 0 (optD o)) (clr 9 s10) (clr 9 s11)) (call_val (ds := [gramD g, intL ks]) rfl hrw) rfl rfl ?_
    refine st_asg (d := intL ks) (σ' := wsS ns g w (clr 10 (clr 9 s4)) ls (.val 0 (intL ks)) fd (.val 0 (optD o)) (.val 0 (intL ks)) (clr 10 (clr 9 s11))) (slice_all rfl) rfl rfl ?_
    exact st_skip (or_no (cmp_val (a := optD o) (b := optD o) (call_val (ds := [gramD g, intL ks]) rfl hrp) rfl (not_val (eqN_self o))) (or_no (cmp_val (a := intL ks) (b := intL ks) rfl rfl (not_val (eqD_ints ks))) rfl)) h
  have c : cmpB eqN (nameF 9) (nameF 3) (view (wsS ns g w (clr 10 (clr 9 s4)) ls (.val 0 (intL ks)) fd (.val 0 (optD o)) (.val 0 (intL ks)) (clr 10 (clr 9 s11)))) = some (decide (o = some w)) := cmp_val (a := optD o) (b := sL w) rfl rfl (eqN_opt o w)
  by_cases e : o = some w
  · rw [decide_eq_true e] at c ⊢
    rw [Bool.or_true]
    exact ⟨_, _, _, _, go (st_step (if_yes c (st_asg (d := .bool true) rfl rfl rfl rfl)) rfl)⟩
  · rw [decide_eq_false e] at c ⊢
    rw [Bool.or_false]
    exact ⟨_, _, _, _, go (st_skip c rfl)⟩
theorem ws_loop (ns : List Int) (g g' : Gr) (st : Str) (b0 : List Str) (hgc : g = (st, b0) :: g') (hg : g.length ≤ 4) (hb : ∀ r ∈ g, r.2.length ≤ 3) (w : List Str) (ls xs : List (List Int)) (hk : ∀ ks ∈ xs, ks.length ≤ 50) (fd : Bool) (s4 s7 s9 s10 s11 : Slot) :
    ∃ s4' s7' s9' s10' s11', forL (putN 7) B__law_words_3 (xs.map intL) (wsS ns g w s4 ls s7 fd s9 s10 s11) = some (.next (wsS ns g w s4' ls s7' (fd || xs.any fun ks => decide (rwt g (hdL g) [st] ks = some w)) s9' s10' s11')) := by
  induction xs generalizing fd s4 s7 s9 s10 s11 with
  | nil => exact ⟨s4, s7, s9, s10, s11, by rw [List.any_nil, Bool.or_false]; rfl⟩
  | cons ks xs ih =>
    obtain ⟨a4, a9, a10, a11, h1⟩ := ws_body ns g g' st b0 hgc hg hb w (clr 7 s4) ls ks (hk ks (.head _)) fd (clr 7 s9) (clr 7 s10) (clr 7 s11)
    obtain ⟨c4, c7, c9, c10, c11, h2⟩ := ih (fun x hx => hk x (.tail _ hx)) (fd || decide (rwt g (hdL g) [st] ks = some w)) a4 (.val 0 (intL ks)) a9 a10 a11
    refine ⟨c4, c7, c9, c10, c11, for_cons (σ₁ := wsS ns g w (clr 7 s4) ls (.val 0 (intL ks)) fd (clr 7 s9) (clr 7 s10) (clr 7 s11)) rfl h1 ?_⟩
    rw [List.any_cons, ← Bool.or_assoc]; exact h2
noncomputable def okW (b : List Str) : Bool := decide (b.length ≤ 3) && (b.head?.any fun t => decide (t ∈ ab))
theorem ab_hd {s : Str} (h : s ∈ ab) : s ∉ hd3 := by
  rcases List.mem_cons.mp h with rfl | h
  · decide +kernel
  · rw [List.mem_singleton.mp h]; decide +kernel
theorem hd_sub {g : Gr} {Q : List Str → Bool} (hr : ∀ r ∈ g, r.1 ∈ hd3 ∧ Q r.2 = true) {s : Str} (h : s ∈ hdL g) : s ∈ hd3 := by
  obtain ⟨r, h1, rfl⟩ := List.mem_map.mp (mem_dedup.mp h)
  exact (hr r h1).1
theorem okW_inv {b : List Str} (h : okW b = true) : b.length ≤ 3 ∧ ∃ t b', b = t :: b' ∧ t ∈ ab := by
  obtain ⟨h1, h2⟩ := Bool.and_eq_true_iff.mp h
  refine ⟨of_decide_eq_true h1, ?_⟩
  cases b with
  | nil => cases h2
  | cons t b => exact ⟨t, b, rfl, of_decide_eq_true h2⟩
theorem φ_words (ns : List Int) (hn : ns.length ≤ 900) : φ__law_words [iL ns] = some (.bool true) := by
  obtain ⟨c1, hc1⟩ := φ_cell ns 1 hn
  obtain ⟨c2, hc2⟩ := φ_cell ns 14 hn
  obtain ⟨k1, hk1, m1⟩ := mod_nat c1 3 (by decide)
  obtain ⟨n, hn2, en⟩ := pickN c2
  obtain ⟨g, eg, lg, hr⟩ := φ_rules ns hn (1 + k1) (by omega) tkL taL (by decide +kernel) (by decide +kernel) okW (by decide +kernel)
  obtain ⟨st, b0, g', hgc⟩ := rules_ne (m := k1) (by rw [lg, Nat.add_comm])
  have hg3 : g.length ≤ 3 := by omega
  have hb3 : ∀ r ∈ g, r.2.length ≤ 3 := fun r h => (okW_inv (hr r h).2).1
  obtain ⟨w, s4, hw1, hw2, hw3⟩ := ww_loop ns hn g (List.range n) [] (fun _ h => nomatch h) (by rw [List.length_range]; show 0 + n ≤ 100; omega) .un
  have hwl : w.length = n := by rw [hw2, List.length_range]; exact Nat.zero_add n
  obtain ⟨t4, hl1⟩ := wl_loop ns g hg3 w (List.range w.length) 0 (by rw [List.length_range]; omega) (clr 6 (clr 5 s4))
  rw [List.length_range, Nat.zero_add] at hl1
  obtain ⟨u4, u7, u9, u10, u11, hs1⟩ := ws_loop ns g g' st b0 hgc (by omega) hb3 w (lsL g.length w.length) (lsL g.length w.length) (fun ks hks => by have := lsL_short hks; omega) false (clr 8 t4) .un .un .un .un
  rw [Bool.false_or] at hs1
  obtain ⟨ans, hd1, hd2⟩ := φ_der g g' st b0 hgc w (by omega) (by omega)
  have nh : ∀ s ∈ w, s ∉ hdL g := fun s hs q => ab_hd (hw3 s hs) (hd_sub hr q)
  have hst : st ∈ hdL g := mem_dedup.mpr (by rw [hgc]; exact .head _)
  have key : ((lsL g.length w.length).any fun ks => decide (rwt g (hdL g) [st] ks = some w)) = ans := by
    refine Bool.eq_iff_iff.mpr ?_
    rw [List.any_eq_true, hd2]
    constructor
    · rintro ⟨ks, _, h⟩
      exact rwt_derv g st hst w nh ks (of_decide_eq_true h)
    · intro h
      obtain ⟨ks, h1, h2, h3⟩ := derv_rwt g st w (fun r hr' => by
        obtain ⟨t, b', e, ht⟩ := (okW_inv (hr r hr').2).2
        exact ⟨t, b', e, fun q => ab_hd ht (hd_sub hr q)⟩) h
      exact ⟨_, lsL_all h1 h2, decide_eq_true h3⟩
  rw [key] at hs1
  refine fnF_ret rfl ?_
  refine st_asg (d := gramD g) (σ' := [.val 0 (iL ns), .val 0 (gramD g), .un, .un, .un, .un, .un, .un, .un, .un, .un, .un]) (rules_arg (M := 3) rfl hc1 m1 eg) rfl rfl ?_
  refine st_asg (d := gramD g) (σ' := [.val 0 (iL ns), .val 0 (gramD g), .val 0 (gramD g), .un, .un, .un, .un, .un, .un, .un, .un, .un]) (copy_rules g (f₁ := nameF 1) (f₂ := nameF 1) rfl rfl rfl) rfl rfl ?_
  refine st_asg (d := sL []) (σ' := wwS ns g [] .un) rfl rfl rfl ?_
  refine st_for (d := .rng 0 (n : Int) 1) (ds := (List.range n).map nD) (un_val (a := nD n) (bin_val (a := .list [.int 2, .int 1, .int 0, .int 2]) (b := .int (c2.fmod 4)) rfl (bin_val (a := .int c2) (b := .int 4) (call_val (ds := [iL ns, .int 14]) rfl hc2) rfl rfl) en) rfl) (rng_items _ (by omega)) rfl hw1 ?_
  refine st_asg (d := sL w) (σ' := [.val 0 (iL ns), .val 0 (gramD g), .val 0 (gramD g), .val 1 (sL w), clr 5 s4, .val 0 (sL w), .un, .un, .un, .un, .un, .un]) (slice_all rfl) rfl rfl ?_
  refine st_asg (d := llD [[]]) (σ' := wlS ns g w (clr 6 (clr 5 s4)) (lsL g.length 0)) rfl rfl rfl ?_
  refine st_for (d := .rng 0 (w.length : Int) 1) (ds := (List.range w.length).map nD) (un_val (len_val (enc := D.str) rfl) rfl) (rng_items _ (by omega)) rfl hl1 ?_
  refine st_asg (d := .bool false) (σ' := wsS ns g w (clr 8 t4) (lsL g.length w.length) .un false .un .un .un) rfl rfl rfl ?_
  refine st_for (d := llD (lsL g.length w.length)) (ds := (lsL g.length w.length).map intL) rfl rfl rfl hs1 ?_
  refine st_asg (d := .bool ans) (σ' := wsS ns g w (clr 11 u4) (lsL g.length w.length) (clr 11 u7) ans (clr 11 u9) (clr 11 u10) (.val 0 (.bool ans))) (call_val (ds := [gramD g, sL w]) rfl hd1) rfl rfl ?_
  have i1 : ∀ x, cmpB (notO isD) (nameF 11) (fun _ => some (D.bool x)) (view (wsS ns g w (clr 11 u4) (lsL g.length w.length) (clr 11 u7) ans (clr 11 u9) (clr 11 u10) (.val 0 (.bool ans)))) = some (!(ans == x)) := fun x => cmp_val (a := .bool ans) (b := .bool x) rfl rfl rfl
  refine st_skip (and_no (truth_val (x := ans) rfl) (i1 true) (by cases ans <;> rfl)) ?_
  refine st_skip (and_no (x := !ans) (by unfold notB; rw [truth_val (x := ans) rfl]; rfl) (i1 false) (by cases ans <;> rfl)) ?_
  refine st_skip (or_no (cmp_val (a := gramD g) (b := gramD g) rfl rfl (not_val (eqD_gram g))) (or_no (cmp_val (a := sL w) (b := sL w) rfl rfl (not_val (eqD_self 39 w))) rfl)) ?_
  exact st_ret (d := .bool true) rfl rfl
theorem maths (ns : List Int) (hn : ns.length ≤ 63) : φ_law [.list (ns.map .int)] = some (.bool true) := by
  obtain ⟨c, hc⟩ := φ_cell ns 0 (by omega)
  have h1 := φ_replays ns (by omega)
  have h2 := φ_words ns (by omega)
  have ht : cmpB (eqD 40) (bin modD (callF φ__law_cell (consF (nameF 0) (consF (fun _ => some (D.int 0)) (fun _ => some [])))) (fun _ => some (D.int 2))) (fun _ => some (D.int 0)) (view (ini 2 [iL ns])) = some (c.fmod 2 == 0) := cmp_val (a := .int (c.fmod 2)) (b := .int 0) (bin_val (a := .int c) (b := .int 2) (call_val (ds := [iL ns, .int 0]) rfl hc) rfl rfl) rfl rfl
  refine fnF_ret rfl ?_
  have fin : G_law [.val 0 (iL ns), .un] = some (.ret (.bool true)) := by
    cases e : c.fmod 2 == 0 with
    | true => exact st_step (if_yes (ht.trans (by rw [e])) (st_asg (d := .bool true) (σ' := [.val 0 (iL ns), .val 0 (.bool true)]) (call_val (ds := [iL ns]) rfl h1) rfl rfl rfl)) (st_skip rfl (st_ret (d := .bool true) rfl rfl))
    | false => exact st_step (if_no (ht.trans (by rw [e])) (st_asg (d := .bool true) (σ' := [.val 0 (iL ns), .val 0 (.bool true)]) (call_val (ds := [iL ns]) rfl h2) rfl rfl rfl)) (st_skip rfl (st_ret (d := .bool true) rfl rfl))
  exact fin
end Mine

open PySem PySem.W PySem.W.X PyProof.Rows
namespace Mine
set_option maxRecDepth 100000
set_option maxHeartbeats 8000000
theorem holds0 : PySem.Challenge.rw_pd_augur_1_02.Holds := by
  w_on
  refine PySem.W.holds_law (by decide +kernel) fun said => ?_
  z_head
  case hw => w_witness2
  intro w s₀ s₁ mg mb G y fa o pm cd doc dV kV ho hd hcd hD hmg hg args vals as L hpre hlay hrd hwl hlo
  z_open y L KX ZH ZN ZT
  refine Ground.open G ?_
  intro T B D TE TW
  clear hd hcd hD ho ZH ZN ZT
  wrow_args hpre hlay hrd hwl hlo
  refine law_fin KX T.g T.b T.builtins T.nolimit hmg (hf_law (C := cfgOf P w _ mg mb) ?L) (by decide) (by assumption) ?_ (maths _ ?_) ?_ ?_ hg
  case L =>
    exact {
      f_heads_of := has_fn KX T.g rfl rfl rfl rfl rfl (bind1 fun _ => rfl) rfl rfl rfl rfl rfl rfl rfl
      f_replayed := has_fn KX T.g rfl rfl rfl rfl rfl (bind2 fun _ _ => rfl) rfl rfl rfl rfl rfl rfl rfl
      f_places_after := has_fn KX T.g rfl rfl rfl rfl rfl (bind4 fun _ _ _ _ => rfl) rfl rfl rfl rfl rfl rfl rfl
      f_span_tables := has_fn KX T.g rfl rfl rfl rfl rfl (bind2 fun _ _ => rfl) rfl rfl rfl rfl rfl rfl rfl
      f_derives_from := has_fn KX T.g rfl rfl rfl rfl rfl (bind3 fun _ _ _ => rfl) rfl rfl rfl rfl rfl rfl rfl
      f_derives := has_fn KX T.g rfl rfl rfl rfl rfl (bind2 fun _ _ => rfl) rfl rfl rfl rfl rfl rfl rfl
      f__law_cell := has_fn KX T.g rfl rfl rfl rfl rfl (bind2 fun _ _ => rfl) rfl rfl rfl rfl rfl rfl rfl
      f__law_rules := has_fn KX T.g rfl rfl rfl rfl rfl (bind4 fun _ _ _ _ => rfl) rfl rfl rfl rfl rfl rfl rfl
      f__law_fits := has_fn KX T.g rfl rfl rfl rfl rfl (bind2 fun _ _ => rfl) rfl rfl rfl rfl rfl rfl rfl
      f__law_rewritten := has_fn KX T.g rfl rfl rfl rfl rfl (bind2 fun _ _ => rfl) rfl rfl rfl rfl rfl rfl rfl
      f__law_replays := has_fn KX T.g rfl rfl rfl rfl rfl (bind1 fun _ => rfl) rfl rfl rfl rfl rfl rfl rfl
      f__law_words := has_fn KX T.g rfl rfl rfl rfl rfl (bind1 fun _ => rfl) rfl rfl rfl rfl rfl rfl rfl
      f_law := has_fn KX T.g rfl rfl rfl rfl rfl (bind1 fun _ => rfl) rfl rfl rfl rfl rfl rfl rfl
      c__law_tokens := gc_list KX T.g rfl rfl (by decide) fun _ _ => (.cons (.str _ _ (by decide +kernel)) (.cons (.str _ _ (by decide +kernel)) (.cons (.str _ _ (by decide +kernel)) .nil)))
      c__law_rears := gc_list KX T.g rfl rfl (by decide) fun _ _ => (.cons (.str _ _ (by decide +kernel)) (.cons (.str _ _ (by decide +kernel)) (.cons (.str _ _ (by decide +kernel)) (.cons (.str _ _ (by decide +kernel)) (.cons (.str _ _ (by decide +kernel)) (.cons (.str _ _ (by decide +kernel)) .nil))))))
      c__law_tails := gc_list KX T.g rfl rfl (by decide) fun _ _ => (.cons (.str _ _ (by decide +kernel)) (.cons (.str _ _ (by decide +kernel)) (.cons (.str _ _ (by decide +kernel)) (.cons (.str _ _ (by decide +kernel)) (.cons (.str _ _ (by decide +kernel)) (.cons (.str _ _ (by decide +kernel)) (.cons (.str _ _ (by decide +kernel)) (.cons (.str _ _ (by decide +kernel)) (.cons (.str _ _ (by decide +kernel)) (.cons (.str _ _ (by decide +kernel)) .nil))))))))))
      c__law_fronts := gc_list KX T.g rfl rfl (by decide) fun _ _ => (.cons (.str _ _ (by decide +kernel)) (.cons (.str _ _ (by decide +kernel)) (.cons (.str _ _ (by decide +kernel)) (.cons (.str _ _ (by decide +kernel)) (.cons (.str _ _ (by decide +kernel)) (.cons (.str _ _ (by decide +kernel)) (.cons (.str _ _ (by decide +kernel)) (.cons (.str _ _ (by decide +kernel)) (.cons (.str _ _ (by decide +kernel)) (.cons (.str _ _ (by decide +kernel)) (.cons (.str _ _ (by decide +kernel)) (.cons (.str _ _ (by decide +kernel)) .nil))))))))))))
      b_any := ns_none_of KX T.g rfl
      b_len := ns_none_of KX T.g rfl
      b_list := ns_none_of KX T.g rfl
      b_range := ns_none_of KX T.g rfl }
  · omega
  · omega
  · exact fun _ => rfl
  · wrow_post
end Mine


theorem PySem.Challenge.cw_pd_augur_1_02_holds : PySem.Challenge.rw_pd_augur_1_02.Holds :=
  Mine.holds0
