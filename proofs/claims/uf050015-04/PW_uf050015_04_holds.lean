import PyProof.Rows.All
import PyProof.Raises
import PyProof.Rows.Frame
import PyProof.TupleIter
import PyProof.SliceList
import PyProof.ForAny
import PyProof.Cells
import PyProof.CompFree
import PyProof.EnumFor
import PyProof.EnumStmt
import PyProof.EnumMake
import PyProof.P3Eq
import PyProof.NeData
import PyProof.FitsBits
import PyProof.WalksMore
import PyProof.RangeFor
import PyProof.IsiHeapPairs
import PyProof.IsiNone
import PyProof.IsiPairs
import PyProof.ListCopy
import PyProof.ListIndexNeg
import PyProof.ListMulRoad
import PyProof.ListTruth
import PyProof.WalkInts
import PyProof.P3In
import PyProof.Rows.Globals
import PyProof.Rows.Tup
import PyProof.Rows.IntRules
import PyProof.Rows.Exc
import PyProof.Rows.Chain
import PyProof.Rows.Nodes
import PyProof.Rows.RuleU_int
import PyProof.Rows.RuleB_mul
import PyProof.Rows.RuleB_pow
import PyProof.Rows.RuleB_floordiv
import PyProof.Rows.RuleB_mod
import PyProof.Rows.StrTemp
import PyProof.Rows.RuleB_small
import PyProof.Rows.RuleC_int
import PyProof.Rows.RuleIs
import PyProof.Rows.SumGenD
import PyProof.Rows.SeqMore
import PyProof.SumWalkG
import PyProof.Rows.CallKwBuiltin
import OpenK.KLine
import KE.KItem
import KE.KMinKey
import Wide.All
import PySem.Challenge.RW_uf050015_04
set_option Elab.async false
section
namespace Mine
open PySem PyProof.Rows

/-! data, and how the heap bears it -/

set_option genSizeOf false
inductive D where
  | none
  | bool (b : Bool)
  | int (i : Int)
  | str (x : Str)
  | tup (l : List D)
  | list (l : List D)
  | own (l : List D)


noncomputable abbrev lstO (vs : List Value) (n : Nat) : Obj := { cls := .type "list", data := .seq vs.toArray n }
noncomputable abbrev tupO (vs : List Value) (n : Nat) : Obj := { cls := .type "tuple", data := .seq vs.toArray n }

mutual
inductive Rp (h : Heap) (N : Addr → Prop) : Value → D → Prop
  | none : Rp h N .none .none
  | bool (b : Bool) : Rp h N (.bool b) (.bool b)
  | int (i : Int) (t : Tok) : Rp h N (.int i t) (.int i)
  | str (x : Str) (t : Tok) : Rp h N (.str x t) (.str x)
  | tup {a : Addr} {vs : List Value} {n : Nat} {ds : List D} : h.get? a = some (tupO vs n) → Rps h N vs ds → Rp h N (.ref a) (.tup ds)
  | list {a : Addr} {vs : List Value} {n : Nat} {ds : List D} : h.get? a = some (lstO vs n) → ¬ N a → Rps h N vs ds → Rp h N (.ref a) (.list ds)
inductive Rps (h : Heap) (N : Addr → Prop) : List Value → List D → Prop
  | nil : Rps h N [] []
  | cons {v : Value} {vs : List Value} {d : D} {ds : List D} : Rp h N v d → Rps h N vs ds → Rps h N (v :: vs) (d :: ds)
end

inductive Rt (h : Heap) (N : Addr → Prop) : Value → D → Prop
  | clean {v : Value} {d : D} : Rp h N v d → Rt h N v d
  | own {a : Addr} {vs : List Value} {n : Nat} {ds : List D} : h.get? a = some (lstO vs n) → Rps h N vs ds → Rt h N (.ref a) (.own ds)

mutual
theorem Rp.change {h h' : Heap} {N N' : Addr → Prop} (kt : ∀ b vs n, h.get? b = some (tupO vs n) → h'.get? b = some (tupO vs n))
    (kl : ∀ b vs n, h.get? b = some (lstO vs n) → ¬ N b → h'.get? b = some (lstO vs n) ∧ ¬ N' b) : ∀ {v d}, Rp h N v d → Rp h' N' v d
  | _, _, .none => .none
  | _, _, .bool b => .bool b
  | _, _, .int i t => .int i t
  | _, _, .str x t => .str x t
  | _, _, .tup hm r => .tup (kt _ _ _ hm) (Rps.change kt kl r)
  | _, _, .list hm hn r => .list (kl _ _ _ hm hn).1 (kl _ _ _ hm hn).2 (Rps.change kt kl r)
theorem Rps.change {h h' : Heap} {N N' : Addr → Prop} (kt : ∀ b vs n, h.get? b = some (tupO vs n) → h'.get? b = some (tupO vs n))
    (kl : ∀ b vs n, h.get? b = some (lstO vs n) → ¬ N b → h'.get? b = some (lstO vs n) ∧ ¬ N' b) : ∀ {vs ds}, Rps h N vs ds → Rps h' N' vs ds
  | _, _, .nil => .nil
  | _, _, .cons x r => .cons (Rp.change kt kl x) (Rps.change kt kl r)
end

theorem Rp.weak {h : Heap} {N N' : Addr → Prop} (k : ∀ a, N' a → N a) {v d} (x : Rp h N v d) : Rp h N' v d := x.change (fun _ _ _ e => e) fun _ _ _ e hn => ⟨e, fun q => hn (k _ q)⟩
theorem Rps.weak {h : Heap} {N N' : Addr → Prop} (k : ∀ a, N' a → N a) {v d} (x : Rps h N v d) : Rps h N' v d := x.change (fun _ _ _ e => e) fun _ _ _ e hn => ⟨e, fun q => hn (k _ q)⟩

theorem Rp.keep {h h' : Heap} {N : Addr → Prop} {v d} (x : Rp h N v d) (k : ∀ b o, h.get? b = some o → h'.get? b = some o) : Rp h' N v d :=
  x.change (fun b _ _ ho => k b _ ho) fun b _ _ ho hn => ⟨k b _ ho, hn⟩
theorem Rps.keep {h h' : Heap} {N : Addr → Prop} {v d} (x : Rps h N v d) (k : ∀ b o, h.get? b = some o → h'.get? b = some o) : Rps h' N v d :=
  x.change (fun b _ _ ho => k b _ ho) fun b _ _ ho hn => ⟨k b _ ho, hn⟩
theorem Rt.keep {h h' : Heap} {N : Addr → Prop} {v d} (x : Rt h N v d) (k : ∀ b o, h.get? b = some o → h'.get? b = some o) : Rt h' N v d := by
  cases x with
  | clean x => exact .clean (x.keep k)
  | own hl r => exact .own (k _ _ hl) (r.keep k)

theorem Rps.length {h : Heap} {N : Addr → Prop} : ∀ {vs ds}, Rps h N vs ds → vs.length = ds.length
  | _, _, .nil => rfl
  | _, _, .cons _ r => by simp [Rps.length r]
theorem Rps.append {h : Heap} {N : Addr → Prop} : ∀ {vs ds ws es}, Rps h N vs ds → Rps h N ws es → Rps h N (vs ++ ws) (ds ++ es)
  | _, _, _, _, .nil, k => k
  | _, _, _, _, .cons x r, k => .cons x (Rps.append r k)
theorem Rps.get {h : Heap} {N : Addr → Prop} : ∀ {vs ds} {k : Nat} {d : D}, Rps h N vs ds → ds[k]? = some d → ∃ v, vs[k]? = some v ∧ Rp h N v d
  | _, _, k, d, .nil, e => by simp at e
  | _, _, 0, d, .cons x r, e => by simp at e; subst e; exact ⟨_, by simp, x⟩
  | _, _, k + 1, d, .cons x r, e => by
    obtain ⟨v, h1, h2⟩ := Rps.get (k := k) (d := d) r (by simpa using e)
    exact ⟨v, by simpa using h1, h2⟩
theorem Rps.get' {h : Heap} {N : Addr → Prop} : ∀ {vs ds} {k : Nat} {v : Value}, Rps h N vs ds → vs[k]? = some v → ∃ d, ds[k]? = some d ∧ Rp h N v d
  | _, _, k, d, .nil, e => by simp at e
  | _, _, 0, d, .cons x r, e => by simp at e; subst e; exact ⟨_, by simp, x⟩
  | _, _, k + 1, d, .cons x r, e => by
    obtain ⟨v, h1, h2⟩ := Rps.get' (k := k) (v := d) r (by simpa using e)
    exact ⟨v, by simpa using h1, h2⟩
theorem Rps.take {h : Heap} {N : Addr → Prop} : ∀ {vs ds} (n : Nat), Rps h N vs ds → Rps h N (vs.take n) (ds.take n)
  | _, _, 0, _ => by simp; exact .nil
  | _, _, n + 1, .nil => by simp; exact .nil
  | _, _, n + 1, .cons x r => by simp only [List.take_succ_cons]; exact .cons x (Rps.take n r)
theorem Rps.drop {h : Heap} {N : Addr → Prop} : ∀ {vs ds} (n : Nat), Rps h N vs ds → Rps h N (vs.drop n) (ds.drop n)
  | _, _, 0, r => by simpa using r
  | _, _, n + 1, .nil => by simp; exact .nil
  | _, _, n + 1, .cons x r => by simp only [List.drop_succ_cons]; exact Rps.drop n r
theorem Rps.set {h : Heap} {N : Addr → Prop} : ∀ {vs ds} (n : Nat) {v d}, Rps h N vs ds → Rp h N v d → Rps h N (vs.set n v) (ds.set n d)
  | _, _, 0, _, _, .nil, _ => by simp; exact .nil
  | _, _, n + 1, _, _, .nil, _ => by simp; exact .nil
  | _, _, 0, _, _, .cons x r, k => by simp; exact .cons k r
  | _, _, n + 1, _, _, .cons x r, k => by simp; exact .cons x (Rps.set n r k)
theorem Rps.one {h : Heap} {N : Addr → Prop} {v d} (x : Rp h N v d) : Rps h N [v] [d] := .cons x .nil

/-- the items of a list, frozen or one's own -/
noncomputable def D.items? : D → Option (List D)
  | .list l => some l
  | .own l => some l
  | _ => Option.none

theorem Rt.items {h : Heap} {N : Addr → Prop} {v : Value} {d : D} {l : List D} (x : Rt h N v d) (e : d.items? = some l) : ∃ a vs n, v = .ref a ∧ h.get? a = some (lstO vs n) ∧ Rps h N vs l := by
  cases x with
  | clean x => cases x <;> simp [D.items?] at e; subst e; rename_i h1 h2 h3; exact ⟨_, _, _, rfl, h1, h3⟩
  | own h1 h2 => simp [D.items?] at e; subst e; exact ⟨_, _, _, rfl, h1, h2⟩

noncomputable def D.clean : D → Bool
  | .own _ => false
  | _ => true
theorem Rt.rp {h : Heap} {N : Addr → Prop} {v : Value} {d : D} (x : Rt h N v d) (e : d.clean = true) : Rp h N v d := by
  cases x with
  | clean x => exact x
  | own _ _ => cases e


inductive Rts (h : Heap) (N : Addr → Prop) : List Value → List D → Prop
  | nil : Rts h N [] []
  | cons {v : Value} {vs : List Value} {d : D} {ds : List D} : Rt h N v d → Rts h N vs ds → Rts h N (v :: vs) (d :: ds)
theorem Rts.keep {h h' : Heap} {N : Addr → Prop} {vs ds} (x : Rts h N vs ds) (k : ∀ b o, h.get? b = some o → h'.get? b = some o) : Rts h' N vs ds := by
  induction x with
  | nil => exact .nil
  | cons x _ ih => exact .cons (x.keep k) ih
theorem Rts.length {h : Heap} {N : Addr → Prop} {vs ds} (x : Rts h N vs ds) : vs.length = ds.length := by
  induction x with
  | nil => rfl
  | cons _ _ ih => simp [ih]
theorem Rts.rps {h : Heap} {N : Addr → Prop} {vs ds} (x : Rts h N vs ds) (e : ds.all D.clean = true) : Rps h N vs ds := by
  induction x with
  | nil => exact .nil
  | cons x _ ih => simp only [List.all_cons, Bool.and_eq_true] at e; exact .cons (x.rp e.1) (ih e.2)

/-- one's own list, as others see it -/
noncomputable def D.frz : D → D
  | .own l => .list l
  | d => d
theorem Rt.frz {h : Heap} {N : Addr → Prop} {v d} (x : Rt h N v d) : Rp h (fun _ => False) v d.frz := by
  cases x with
  | clean x => cases x <;> first | exact .none | exact .bool _ | exact .int _ _ | exact .str _ _ | (rename_i a b; exact .tup a (b.weak fun _ q => q.elim)) | (rename_i a b c; exact .list a (fun q => q) (c.weak fun _ q => q.elim))
  | own h1 h2 => exact .list h1 (fun q => q) (h2.weak fun _ q => q.elim)
theorem Rts.frz {h : Heap} {N : Addr → Prop} {vs ds} (x : Rts h N vs ds) : Rps h (fun _ => False) vs (ds.map D.frz) := by
  induction x with
  | nil => exact .nil
  | cons x _ ih => exact .cons x.frz ih
theorem D.frz_clean {d : D} (h : d.clean = true) : d.frz = d := by cases d <;> first | rfl | cases h
theorem frz_all : ∀ {ds : List D}, ds.all D.clean = true → ds.map D.frz = ds
  | [], _ => rfl
  | d :: ds, h => by simp only [List.all_cons, Bool.and_eq_true] at h; simp [D.frz_clean h.1, frz_all h.2]

mutual
noncomputable def D.flat : D → Bool
  | .tup l => D.flats l
  | .list _ => false
  | .own _ => false
  | _ => true
noncomputable def D.flats : List D → Bool
  | [] => true
  | d :: l => d.flat && D.flats l
end
mutual
theorem Rp.flat {h : Heap} {N N' : Addr → Prop} : ∀ {v d}, Rp h N v d → d.flat = true → Rp h N' v d
  | _, _, .none, _ => .none
  | _, _, .bool b, _ => .bool b
  | _, _, .int i t, _ => .int i t
  | _, _, .str x t, _ => .str x t
  | _, _, .tup hm r, e => .tup hm (Rps.flat r (by simpa [D.flat] using e))
  | _, _, .list hm hn r, e => by simp [D.flat] at e
theorem Rps.flat {h : Heap} {N N' : Addr → Prop} : ∀ {vs ds}, Rps h N vs ds → D.flats ds = true → Rps h N' vs ds
  | _, _, .nil, _ => .nil
  | _, _, .cons x r, e => by simp only [D.flats, Bool.and_eq_true] at e; exact .cons (Rp.flat x e.1) (Rps.flat r e.2)
end

end Mine
end
section
set_option maxRecDepth 20000
namespace Mine
open PySem PyProof.Rows

/-! the ground: what stands before the call and stays -/
noncomputable def Hk (h h' : Heap) : Prop := ∀ b o, h.get? b = some o → h'.get? b = some o
noncomputable def Kp (s s' : Shared) : Prop := ∃ h' tk, s' = { s with heap := h', toks := tk } ∧ ∀ b o, s.heap.get? b = some o → h'.get? b = some o

structure Gnd where
  prog : Program
  w : World
  base : Heap
  mg : Str → Option Value
  mb : Str → Option Value
  g : base.Ns mainGlobals mg
  b : base.Ns builtinsNs mb
  nolimit : base.NoLimit

noncomputable def AOk (A : Around) (k : Nat) : Prop := A.handled = none ∧ A.depth + k < 1000 ∧ A.units + 64 * (k + 4) < 9900

theorem AOk.mono {A : Around} {k j : Nat} (h : AOk A k) (hj : j ≤ k) : AOk A j := ⟨h.1, by have := h.2.1; omega, by have := h.2.2; omega⟩
theorem AOk.deeper {A : Around} {k : Nat} {env : Env} (h : AOk A (k + 1)) : AOk (A.deeper env) k :=
  ⟨h.1, by have := h.2.1; simp only [Around.deeper]; omega, by have := h.2.2; simp only [Around.deeper_units]; omega⟩

structure EOk (sc : Scope) (env : Env) : Prop where
  scope : env.scope = sc
  kind : sc.kind = .function
  globals : env.globals = mainGlobals
  builtins : env.builtins = builtinsNs

theorem EOk.kindOf {sc : Scope} {env : Env} (h : EOk sc env) (x : Str) : env.kindOf x = sc.names.lookup x := by unfold Env.kindOf; rw [h.scope]
theorem EOk.kind' {sc : Scope} {env : Env} (h : EOk sc env) : env.scope.kind = .function := by rw [h.scope]; exact h.kind

noncomputable abbrev Loc := Str → Option D

noncomputable def isVar : Option NameKind → Bool
  | some .local => true
  | some .cell => true
  | some .free => true
  | _ => false

noncomputable def VarIs (env : Env) (h : Heap) (m : Str → Option Value) (x : Str) (v : Value) : Prop :=
  match env.kindOf x with
  | some .local => m x = some v
  | some .cell => ∃ c, env.cells.lookup x = some c ∧ h.IsCell c (some v)
  | some .free => ∃ c, env.cells.lookup x = some c ∧ h.IsCell c (some v)
  | _ => False

/-- what must not be met inside a frozen value: what the outer activations own, and what this one owns -/
noncomputable def Nu (N : Addr → Prop) (α : Str → Option Addr) : Addr → Prop := fun a => N a ∨ ∃ x, α x = some a

inductive Slot (h : Heap) (N : Addr → Prop) (α : Str → Option Addr) (x : Str) : Value → D → Prop
  | clean {v : Value} {d : D} : Rp h (Nu N α) v d → Slot h N α x v d
  | own {a : Addr} {vs : List Value} {n : Nat} {ds : List D} : α x = some a → h.get? a = some (lstO vs n) → Rps h (Nu N α) vs ds → Slot h N α x (.ref a) (.own ds)

theorem Slot.keep {h h' : Heap} {N α x v d} (s : Slot h N α x v d) (k : ∀ b o, h.get? b = some o → h'.get? b = some o) : Slot h' N α x v d := by
  cases s with
  | clean r => exact .clean (r.keep k)
  | own e hl r => exact .own e (k _ _ hl) (r.keep k)
theorem Slot.rt {h : Heap} {N α x v d} (s : Slot h N α x v d) : Rt h (Nu N α) v d := by
  cases s with
  | clean r => exact .clean r
  | own _ hl r => exact .own hl r

theorem VarIs.keep {env : Env} {h h' : Heap} {m x v} (s : VarIs env h m x v) (k : ∀ b o, h.get? b = some o → h'.get? b = some o) : VarIs env h' m x v := by
  unfold VarIs at *
  split at s
  · exact s
  · obtain ⟨c, h1, h2⟩ := s; exact ⟨c, h1, h2.keeps k⟩
  · obtain ⟨c, h1, h2⟩ := s; exact ⟨c, h1, h2.keeps k⟩
  · exact s

/-- what is to be shunned stands already -/
noncomputable def Lo (N : Addr → Prop) (h : Heap) : Prop := ∀ a, N a → ∃ o, h.get? a = some o
theorem Lo.keep {N : Addr → Prop} {h h' : Heap} (x : Lo N h) (k : ∀ b o, h.get? b = some o → h'.get? b = some o) : Lo N h' := fun a ha => let ⟨o, ho⟩ := x a ha; ⟨o, k a o ho⟩
theorem Lo.fresh {N : Addr → Prop} {h : Heap} {a : Addr} (x : Lo N h) (hn : h.get? a = none) : ¬ N a := fun ha => by obtain ⟨o, ho⟩ := x a ha; rw [hn] at ho; cases ho
theorem get_size (h : Heap) : h.get? h.objs.size = none := by
  cases e : h.get? h.objs.size with
  | none => rfl
  | some o => exact absurd (Heap.lt_size e) (Nat.lt_irrefl _)

noncomputable def dot0 : Str := Str.ofString ".0"
/-- the locals of an activation are ρ -/
structure In (env : Env) (N : Addr → Prop) (α : Str → Option Addr) (h : Heap) (ρ : Loc) : Prop where
  low : Lo (Nu N α) h
  cells : ∀ x, (env.kindOf x = some .cell ∨ env.kindOf x = some .free) → (env.cells.lookup x).isSome = true
  ns : ∃ m, h.Ns env.locals m ∧ ∀ x d, ρ x = some d → isVar (env.kindOf x) = true → x ≠ dot0 → ∃ v, VarIs env h m x v ∧ Slot h N α x v d

theorem In.keep {env N α h h' ρ} (i : In env N α h ρ) (k : ∀ b o, h.get? b = some o → h'.get? b = some o) : In env N α h' ρ := by
  obtain ⟨m, hm, hv⟩ := i.ns
  refine ⟨i.low.keep k, i.cells, m, hm.keeps k, fun x d e hx hz => ?_⟩
  obtain ⟨v, h1, h2⟩ := hv x d e hx hz
  exact ⟨v, h1.keep k, h2.keep k⟩

theorem Kp.refl (s : Shared) : Kp s s := ⟨s.heap, s.toks, rfl, fun _ _ e => e⟩
theorem Kp.toks (s : Shared) (n : Nat) : Kp s { s with toks := n } := ⟨s.heap, n, rfl, fun _ _ e => e⟩
theorem Kp.trans {s s₁ s₂ : Shared} (x : Kp s s₁) (y : Kp s₁ s₂) : Kp s s₂ := by
  obtain ⟨h₁, t₁, rfl, k₁⟩ := x
  obtain ⟨h₂, t₂, rfl, k₂⟩ := y
  exact ⟨h₂, t₂, rfl, fun b o e => k₂ b o (k₁ b o e)⟩
theorem Kp.heap {s s' : Shared} (x : Kp s s') : ∀ b o, s.heap.get? b = some o → s'.heap.get? b = some o := by
  obtain ⟨h₁, t₁, rfl, k₁⟩ := x; exact k₁
theorem Kp.push (s : Shared) (o : Obj) : Kp s { s with heap := s.heap.push o } := ⟨_, s.toks, rfl, fun _ _ e => Heap.get?_push_of_some _ e⟩

/-- the end of an expression: nothing that stood is turned, the value is d -/
noncomputable def Po (s : Shared) (N : Addr → Prop) (d : D) : Value → Shared → Prop := fun v s' => Kp s s' ∧ Rt s'.heap N v d
noncomputable def NoX : Value → Shared → Prop := fun _ _ => False

/-- the expression e is told by m -/
noncomputable def SE (G : Gnd) (k : Nat) (sc : Scope) (e : Expr) (m : Loc → Option D) : Prop :=
  ∀ A env N α s ρ d, AOk A k → EOk sc env → Hk G.base s.heap → In env N α s.heap ρ → m ρ = some d →
    wpAny (model G.prog G.w) A (eval e env) (Po s (Nu N α) d) NoX s

/-- the test e is told by m -/
noncomputable def ST (G : Gnd) (k : Nat) (sc : Scope) (e : Expr) (m : Loc → Option Bool) : Prop :=
  ∀ A env N α s ρ b, AOk A k → EOk sc env → Hk G.base s.heap → In env N α s.heap ρ → m ρ = some b →
    wpAny (model G.prog G.w) A (isTrue e env (eval e env)) (fun b' s' => b' = b ∧ Kp s s') NoX s

section
variable {G : Gnd} {k : Nat} {sc : Scope}

theorem stays_trans {s s' : Shared} (h : Hk G.base s.heap) (x : Kp s s') : Hk G.base s'.heap := fun b o e => x.heap b o (h b o e)

theorem SE.weak {e m m'} (h : SE G k sc e m) (hm : ∀ ρ d, m' ρ = some d → m ρ = some d) : SE G k sc e m' :=
  fun A env N α s ρ d hA hE hb hi hd => h A env N α s ρ d hA hE hb hi (hm _ _ hd)

theorem SE.name {x : Str} {pos : Pos} (hk : isVar (sc.names.lookup x) = true) (hd : (x == ("__debug__" : Str)) = false) (hn : (x == ("__classdict__" : Str)) = false) (hz : (x == dot0) = false) :
    SE G k sc (.Name x pos) (fun ρ => ρ x) := by
  intro A env N α s ρ d hA hE hb hi hρ
  obtain ⟨m, hm, hv⟩ := hi.ns
  obtain ⟨v, h1, h2⟩ := hv x d hρ (by rw [hE.kindOf]; exact hk) (beq_eq_false_iff_ne.mp hz)
  have fin : Po s (Nu N α) d v s := ⟨Kp.refl s, h2.rt⟩
  unfold VarIs at h1
  split at h1
  · rename_i q; exact wpAny_Name (wpAny_loadName_local hE.kind' q hm h1 fin) hd
  · rename_i q; obtain ⟨c, e1, e2⟩ := h1; exact wpAny_Name (wpAny_loadName_cell hE.kind' q e1 e2 fin) hd
  · rename_i q; obtain ⟨c, e1, e2⟩ := h1; exact wpAny_Name (wpAny_loadName_free hE.kind' q e1 e2 fin hn) hd
  · exact h1.elim

theorem SE.cInt {i : Int} {kd : Nat} {pos : Pos} : SE G k sc (.Constant (.int i) kd pos) (fun _ => some (.int i)) := by
  intro A env N α s ρ d hA hE hb hi hρ
  cases hρ
  exact wpAny_Constant_int ⟨Kp.toks s _, .clean (.int _ _)⟩
theorem SE.cBool {c : Bool} {kd : Nat} {pos : Pos} : SE G k sc (.Constant (.bool c) kd pos) (fun _ => some (.bool c)) := by
  intro A env N α s ρ d hA hE hb hi hρ
  cases hρ
  exact Constant_bool ⟨Kp.refl s, .clean (.bool _)⟩
theorem SE.cNone {kd : Nat} {pos : Pos} : SE G k sc (.Constant .none kd pos) (fun _ => some .none) := by
  intro A env N α s ρ d hA hE hb hi hρ
  cases hρ
  exact Constant_none ⟨Kp.refl s, .clean .none⟩

/-- an int that stands as a name of the module -/
theorem SE.glob {x : Str} {pos : Pos} {i : Int} {t : Tok} (hk : sc.names.lookup x = some .globalImplicit) (hd : (x == ("__debug__" : Str)) = false) (hg : G.mg x = some (.int i t)) :
    SE G k sc (.Name x pos) (fun _ => some (.int i)) := by
  intro A env N α s ρ d hA hE hb hi hρ
  cases hρ
  refine Calls.Name_function_global hE.kind' (by rw [hE.kindOf]; exact hk) (Calls.loadGlobal_global (mg := G.mg) ?_ hg ⟨Kp.refl s, .clean (.int _ _)⟩) hd
  rw [hE.globals]; exact G.g.keeps hb

/-- two expressions, then a step -/
theorem two {A : Around} {env : Env} {N : Addr → Prop} {α : Str → Option Addr} {s : Shared} {ρ : Loc} {l r : Expr} {ml mr : Loc → Option D} {f : Value → Value → Sem Value} {a b d : D}
    (hl : SE G k sc l ml) (hr : SE G k sc r mr) (hA : AOk A k) (hE : EOk sc env) (hb : Hk G.base s.heap) (hi : In env N α s.heap ρ) (ea : ml ρ = some a) (eb : mr ρ = some b)
    (h : ∀ va vb s₂, Kp s s₂ → Lo (Nu N α) s₂.heap → Rt s₂.heap (Nu N α) va a → Rt s₂.heap (Nu N α) vb b → wpAny (model G.prog G.w) A (f va vb) (Po s₂ (Nu N α) d) NoX s₂) :
    wpAny (model G.prog G.w) A (eval l env) (fun va s₁ => wpAny (model G.prog G.w) A (eval r env) (fun vb s₂ => wpAny (model G.prog G.w) A (f va vb) (Po s (Nu N α) d) NoX s₂) NoX s₁) NoX s := by
  refine wpAny_mono (hl A env N α s ρ a hA hE hb hi ea) (fun va s₁ h₁ => ?_) fun _ _ x => x
  refine wpAny_mono (hr A env N α s₁ ρ b hA hE (stays_trans hb h₁.1) (hi.keep h₁.1.heap) eb) (fun vb s₂ h₂ => ?_) fun _ _ x => x
  refine wpAny_mono (h va vb s₂ (h₁.1.trans h₂.1) (hi.low.keep (h₁.1.trans h₂.1).heap) (h₁.2.keep h₂.1.heap) h₂.2) (fun v s₃ h₃ => ⟨h₁.1.trans (h₂.1.trans h₃.1), h₃.2⟩) fun _ _ x => x

noncomputable def BinOk (G : Gnd) (k : Nat) (op : Operator) (a b d : D) : Prop :=
  ∀ A N s va vb, AOk A k → Hk G.base s.heap → Lo N s.heap → Rt s.heap N va a → Rt s.heap N vb b → wpAny (model G.prog G.w) A (binaryOp op va vb) (Po s N d) NoX s

theorem SE.bin {l r : Expr} {op : Operator} {pos : Pos} {ml mr : Loc → Option D} {f : D → D → Option D} (hf : ∀ a b d, f a b = some d → BinOk G k op a b d) (hl : SE G k sc l ml) (hr : SE G k sc r mr) :
    SE G k sc (.BinOp l op r pos) (fun ρ => (ml ρ).bind fun a => (mr ρ).bind fun b => f a b) := by
  intro A env N α s ρ d hA hE hb hi hρ
  obtain ⟨a, ea, hρ⟩ := Option.bind_eq_some_iff.mp hρ
  obtain ⟨b, eb, hρ⟩ := Option.bind_eq_some_iff.mp hρ
  exact wpAny_BinOp (two hl hr hA hE hb hi ea eb fun va vb s₂ k₂ lo ra rb => hf a b d hρ A _ s₂ va vb hA (stays_trans hb k₂) lo ra rb)

noncomputable def CmpOk (G : Gnd) (k : Nat) (op : CmpOp) (a b : D) (c : Bool) : Prop :=
  ∀ A N s va vb, AOk A k → Hk G.base s.heap → Lo N s.heap → Rt s.heap N va a → Rt s.heap N vb b → wpAny (model G.prog G.w) A (compareOp op va vb) (fun v s' => v = .bool c ∧ Kp s s') NoX s

theorem SE.cmp {l r : Expr} {op : CmpOp} {pos : Pos} {ml mr : Loc → Option D} {f : D → D → Option Bool} (hf : ∀ a b c, f a b = some c → CmpOk G k op a b c) (hl : SE G k sc l ml) (hr : SE G k sc r mr)
    (hm : behindInMarks op r = false) :
    SE G k sc (.Compare l [op] [r] pos) (fun ρ => (ml ρ).bind fun a => (mr ρ).bind fun b => (f a b).map .bool) := by
  intro A env N α s ρ d hA hE hb hi hρ
  obtain ⟨a, ea, hρ⟩ := Option.bind_eq_some_iff.mp hρ
  obtain ⟨b, eb, hρ⟩ := Option.bind_eq_some_iff.mp hρ
  obtain ⟨c, ec, rfl⟩ := Option.map_eq_some_iff.mp hρ
  refine wpAny_Compare1 (two hl hr hA hE hb hi ea eb fun va vb s₂ k₂ lo ra rb => ?_) hm
  refine wpAny_mono (hf a b c ec A _ s₂ va vb hA (stays_trans hb k₂) lo ra rb) (fun v s₃ h₃ => ?_) fun _ _ x => x
  obtain ⟨rfl, h₃⟩ := h₃
  exact ⟨h₃, .clean (.bool c)⟩

theorem ST.cmp {l r : Expr} {op : CmpOp} {pos : Pos} {ml mr : Loc → Option D} {f : D → D → Option Bool} (hf : ∀ a b c, f a b = some c → CmpOk G k op a b c) (hl : SE G k sc l ml) (hr : SE G k sc r mr)
    (hm : behindInMarks op r = false) :
    ST G k sc (.Compare l [op] [r] pos) (fun ρ => (ml ρ).bind fun a => (mr ρ).bind fun b => f a b) := by
  intro A env N α s ρ c hA hE hb hi hρ
  obtain ⟨a, ea, hρ⟩ := Option.bind_eq_some_iff.mp hρ
  obtain ⟨b, eb, ec⟩ := Option.bind_eq_some_iff.mp hρ
  refine wpAny_isTrue_Compare1 ?_ hm
  refine wpAny_mono (hl A env N α s ρ a hA hE hb hi ea) (fun va s₁ h₁ => ?_) fun _ _ x => x
  refine wpAny_mono (hr A env N α s₁ ρ b hA hE (stays_trans hb h₁.1) (hi.keep h₁.1.heap) eb) (fun vb s₂ h₂ => ?_) fun _ _ x => x
  refine wpAny_mono (hf a b c ec A _ s₂ va vb hA (stays_trans hb (h₁.1.trans h₂.1)) (hi.low.keep (h₁.1.trans h₂.1).heap) (h₁.2.keep h₂.1.heap) h₂.2) (fun v s₃ h₃ => ?_) fun _ _ x => x
  obtain ⟨rfl, h₃⟩ := h₃
  exact wpAny_truthy_bool ⟨rfl, h₁.1.trans (h₂.1.trans h₃)⟩

theorem ST.not {e : Expr} {pos : Pos} {m : Loc → Option Bool} (h : ST G k sc e m) : ST G k sc (.UnaryOp .Not e pos) (fun ρ => (m ρ).map (!·)) := by
  intro A env N α s ρ c hA hE hb hi hρ
  obtain ⟨b, eb, rfl⟩ := Option.map_eq_some_iff.mp hρ
  refine isTrue_not (wpAny_mono (h A env N α s ρ b hA hE hb hi eb) (fun v s' h' => ?_) fun _ _ x => x)
  obtain ⟨rfl, h'⟩ := h'
  exact ⟨rfl, h'⟩

theorem ST.and_nil {pos : Pos} : ST G k sc (.BoolOp .And [] pos) (fun _ => some true) := by
  intro A env N α s ρ c hA hE hb hi hρ
  cases hρ
  exact isTrue_and_nil ⟨rfl, Kp.refl s⟩
theorem ST.or_nil {pos : Pos} : ST G k sc (.BoolOp .Or [] pos) (fun _ => some false) := by
  intro A env N α s ρ c hA hE hb hi hρ
  cases hρ
  exact isTrue_or_nil ⟨rfl, Kp.refl s⟩
theorem ST.and {e : Expr} {rest : List Expr} {pos : Pos} {m n : Loc → Option Bool} (h : ST G k sc e m) (hr : ST G k sc (.BoolOp .And rest pos) n) :
    ST G k sc (.BoolOp .And (e :: rest) pos) (fun ρ => (m ρ).bind fun b => if b then n ρ else some false) := by
  intro A env N α s ρ c hA hE hb hi hρ
  obtain ⟨b, eb, hρ⟩ := Option.bind_eq_some_iff.mp hρ
  refine isTrue_and (wpAny_mono (h A env N α s ρ b hA hE hb hi eb) (fun v s' h' => ?_) fun _ _ x => x)
  obtain ⟨rfl, h'⟩ := h'
  cases v with
  | false => cases hρ; exact ⟨rfl, h'⟩
  | true =>
    simp only [if_true] at hρ ⊢
    exact wpAny_mono (hr A env N α s' ρ c hA hE (stays_trans hb h') (hi.keep h'.heap) hρ) (fun v s'' h'' => ⟨h''.1, h'.trans h''.2⟩) fun _ _ x => x
theorem ST.or {e : Expr} {rest : List Expr} {pos : Pos} {m n : Loc → Option Bool} (h : ST G k sc e m) (hr : ST G k sc (.BoolOp .Or rest pos) n) :
    ST G k sc (.BoolOp .Or (e :: rest) pos) (fun ρ => (m ρ).bind fun b => if b then some true else n ρ) := by
  intro A env N α s ρ c hA hE hb hi hρ
  obtain ⟨b, eb, hρ⟩ := Option.bind_eq_some_iff.mp hρ
  refine isTrue_or (wpAny_mono (h A env N α s ρ b hA hE hb hi eb) (fun v s' h' => ?_) fun _ _ x => x)
  obtain ⟨rfl, h'⟩ := h'
  cases v with
  | true => cases hρ; exact ⟨rfl, h'⟩
  | false =>
    simp only [Bool.false_eq_true, if_false] at hρ ⊢
    exact wpAny_mono (hr A env N α s' ρ c hA hE (stays_trans hb h') (hi.keep h'.heap) hρ) (fun v s'' h'' => ⟨h''.1, h'.trans h''.2⟩) fun _ _ x => x

/-- the truth of a value -/
noncomputable def D.truth? : D → Option Bool
  | .none => some false
  | .bool b => some b
  | .list l => if l.length < 9223372036854775808 then some (!l.isEmpty) else Option.none
  | .own l => if l.length < 9223372036854775808 then some (!l.isEmpty) else Option.none
  | _ => Option.none

end

end Mine
end
section
set_option maxRecDepth 20000
namespace Mine
open PySem PyProof.Rows

section
variable {G : Gnd} {k : Nat} {sc : Scope}

/-- expressions in a row (arguments, the items of a display) -/
noncomputable def SEs (G : Gnd) (k : Nat) (sc : Scope) (es : List Expr) (ms : Loc → Option (List D)) : Prop :=
  ∀ A env N α s ρ ds pos, AOk A k → EOk sc env → Hk G.base s.heap → In env N α s.heap ρ → ms ρ = some ds →
    wpAny (model G.prog G.w) A (spliced (backTo pos (starEach es env))) (fun vs s' => Kp s s' ∧ vs.length = es.length ∧ Rts s'.heap (Nu N α) vs ds) NoX s

noncomputable def NoStar (e : Expr) : Prop := ∀ rest env, starEach (e :: rest) env = (false, eval e env) :: starEach rest env

theorem SEs.nil : SEs G k sc [] (fun _ => some []) := by
  intro A env N α s ρ ds pos hA hE hb hi hρ
  cases hρ
  exact args_nil ⟨Kp.refl s, rfl, .nil⟩
theorem SEs.cons {e : Expr} {rest : List Expr} {m : Loc → Option D} {ms : Loc → Option (List D)} (hs : NoStar e) (h : SE G k sc e m) (hr : SEs G k sc rest ms) :
    SEs G k sc (e :: rest) (fun ρ => (m ρ).bind fun d => (ms ρ).bind fun ds => some (d :: ds)) := by
  intro A env N α s ρ ds pos hA hE hb hi hρ
  obtain ⟨d, ed, hρ⟩ := Option.bind_eq_some_iff.mp hρ
  obtain ⟨ds', eds, hρ⟩ := Option.bind_eq_some_iff.mp hρ
  cases hρ
  refine args_cons (wpAny_mono (h A env N α s ρ d hA hE hb hi ed) (fun v s₁ h₁ => ?_) fun _ _ x => x) (hs rest env)
  refine wpAny_mono (hr A env N α s₁ ρ ds' pos hA hE (stays_trans hb h₁.1) (hi.keep h₁.1.heap) eds) (fun vs s₂ h₂ => ?_) fun _ _ x => x
  exact ⟨h₁.1.trans h₂.1, by simp [h₂.2.1], .cons (h₁.2.keep h₂.1.heap) h₂.2.2⟩

theorem newTuple_ok {A : Around} {vs : List Value} {ds : List D} {N : Addr → Prop} {s : Shared} (r : Rps s.heap N vs ds) (hz : vs.length ≤ sizeLine) :
    wpAny (model G.prog G.w) A (newTuple vs) (Po s N (.tup ds)) NoX s :=
  wpAny_newObj_type ⟨Kp.push s _, .clean (.tup (n := 0) (Heap.get?_push_size _ rfl) (r.keep fun _ _ e => Heap.get?_push_of_some _ e))⟩ (by show vs.toArray.size ≤ sizeLine; simpa using hz)

theorem SE.tuple {es : List Expr} {kd : Nat} {pos : Pos} {ms : Loc → Option (List D)} (h : SEs G k sc es ms) (hz : es.length ≤ 1000) :
    SE G k sc (.Tuple es kd pos) (fun ρ => (ms ρ).bind fun ds => if ds.all D.clean then some (.tup ds) else none) := by
  intro A env N α s ρ d hA hE hb hi hρ
  obtain ⟨ds, eds, hρ⟩ := Option.bind_eq_some_iff.mp hρ
  split at hρ
  · cases hρ
    rename_i hc
    refine Tuple_ (wpAny_mono (h A env N α s ρ ds pos hA hE hb hi eds) (fun vs s₁ h₁ => ?_) fun _ _ x => x)
    refine wpAny_mono (newTuple_ok (h₁.2.2.rps hc) (by rw [sizeLine_eq, h₁.2.1]; omega)) (fun v s₂ h₂ => ⟨h₁.1.trans h₂.1, h₂.2⟩) fun _ _ x => x
  · cases hρ

noncomputable def Nu1 (N : Addr → Prop) (a : Addr) : Addr → Prop := fun b => N b ∨ b = a
theorem Rps.off {h h' : Heap} {N : Addr → Prop} {a : Addr} {vs ds} (r : Rps h N vs ds) (hn : h.get? a = none) (k : ∀ b o, h.get? b = some o → h'.get? b = some o) : Rps h' (Nu1 N a) vs ds :=
  r.change (fun b _ _ e => k b _ e) fun b _ _ e hb => ⟨k b _ e, fun q => q.elim hb fun q => by rw [q, hn] at e; cases e⟩

/-- a list that is made anew -/
noncomputable def SF (G : Gnd) (k : Nat) (sc : Scope) (e : Expr) (m : Loc → Option (List D)) : Prop :=
  ∀ A env N α s ρ ds, AOk A k → EOk sc env → Hk G.base s.heap → In env N α s.heap ρ → m ρ = some ds →
    wpAny (model G.prog G.w) A (eval e env) (fun v s' => Kp s s' ∧ ∃ a vs n, v = .ref a ∧ s.heap.get? a = none ∧ s'.heap.get? a = some (lstO vs n) ∧ Rps s'.heap (Nu1 (Nu N α) a) vs ds) NoX s

theorem SF.se {e : Expr} {m : Loc → Option (List D)} (h : SF G k sc e m) : SE G k sc e (fun ρ => (m ρ).map .list) := by
  intro A env N α s ρ d hA hE hb hi hρ
  obtain ⟨ds, eds, rfl⟩ := Option.map_eq_some_iff.mp hρ
  refine wpAny_mono (h A env N α s ρ ds hA hE hb hi eds) (fun v s' h' => ?_) fun _ _ x => x
  obtain ⟨hk, a, vs, n, rfl, hn, ha, r⟩ := h'
  exact ⟨hk, .clean (.list ha (hi.low.fresh hn) (r.weak fun _ q => .inl q))⟩

theorem Kp.gone {s s' : Shared} (x : Kp s s') {a : Addr} (h : s'.heap.get? a = none) : s.heap.get? a = none := by
  cases e : s.heap.get? a with
  | none => rfl
  | some o => rw [x.heap a o e] at h; cases h

theorem SF.list {es : List Expr} {pos : Pos} {ms : Loc → Option (List D)} (h : SEs G k sc es ms) (hz : es.length ≤ 1000) :
    SF G k sc (.List es pos) (fun ρ => (ms ρ).bind fun ds => if ds.all D.clean then some ds else none) := by
  intro A env N α s ρ d hA hE hb hi hρ
  obtain ⟨ds, eds, hρ⟩ := Option.bind_eq_some_iff.mp hρ
  split at hρ
  · cases hρ
    rename_i hc
    refine List_ (wpAny_mono (h A env N α s ρ _ pos hA hE hb hi eds) (fun vs s₁ h₁ => ?_) fun _ _ x => x)
    refine wpAny_newObj_type ⟨h₁.1.trans (Kp.push s₁ _), _, vs, 0, rfl, h₁.1.gone (get_size _), Heap.get?_push_size _ rfl, (h₁.2.2.rps hc).off (get_size _) fun _ _ e => Heap.get?_push_of_some _ e⟩ ?_
    show vs.toArray.size ≤ sizeLine
    rw [sizeLine_eq, List.size_toArray, h₁.2.1]; omega
  · cases hρ

/-! a function of the text's own -/
noncomputable def FnOk (G : Gnd) (k : Nat) (f : Addr) (Φ : List D → Option D) : Prop :=
  (∃ o fd, G.base.get? f = some o ∧ o.data = .func fd) ∧
  ∀ A N s vals ds r, AOk A k → Hk G.base s.heap → Lo N s.heap → Rps s.heap N vals ds → Φ ds = some r →
    wpAny (model G.prog G.w) A (call (.ref f) vals) (fun v s' => Kp s s' ∧ Rp s'.heap N v r) NoX s

noncomputable def callD (Φ : List D → Option D) (ds : List D) : Option D :=
  (Φ (ds.map D.frz)).bind fun r => if ds.all D.clean || r.flat then some r else none

theorem FnOk.call {j : Nat} {f : Addr} {Φ : List D → Option D} (h : FnOk G j f Φ) {A : Around} {N : Addr → Prop} {s : Shared} {vals : List Value} {ds : List D} {r : D} (hA : AOk A j) (hb : Hk G.base s.heap) (lo : Lo N s.heap)
    (ra : Rts s.heap N vals ds) (e : callD Φ ds = some r) : wpAny (model G.prog G.w) A (call (.ref f) vals) (Po s N r) NoX s := by
  obtain ⟨r', er, e⟩ := Option.bind_eq_some_iff.mp e
  split at e
  · cases e
    rename_i hc
    cases hcl : ds.all D.clean with
    | true =>
      rw [frz_all hcl] at er
      exact wpAny_mono (h.2 A N s vals ds r hA hb lo (ra.rps hcl) er) (fun v s' h' => ⟨h'.1, .clean h'.2⟩) fun _ _ x => x
    | false =>
      rw [hcl, Bool.false_or] at hc
      exact wpAny_mono (h.2 A (fun _ => False) s vals (ds.map D.frz) r hA hb (fun _ q => q.elim) ra.frz er) (fun v s' h' => ⟨h'.1, .clean (h'.2.flat hc)⟩) fun _ _ x => x
  · cases e

theorem SE.call {j : Nat} {x : Str} {f : Addr} {e : Expr} {rest : List Expr} {p pos : Pos} {Φ : List D → Option D} {ms : Loc → Option (List D)} (hf : FnOk G j f Φ) (hj : j ≤ k)
    (hx : sc.names.lookup x = some .globalImplicit) (hd : (x == ("__debug__" : Str)) = false) (hg : G.mg x = some (.ref f)) (hs : NoStar e) (h : SEs G k sc (e :: rest) ms) :
    SE G k sc (.Call (.Name x p) (e :: rest) [] pos) (fun ρ => (ms ρ).bind fun ds => callD Φ ds) := by
  intro A env N α s ρ d hA hE hb hi hρ
  obtain ⟨ds, eds, hρ⟩ := Option.bind_eq_some_iff.mp hρ
  obtain ⟨o, fd, ho, hdat⟩ := hf.1
  refine Call_ (Calls.Name_function_global hE.kind' (by rw [hE.kindOf]; exact hx) (Calls.loadGlobal_global (mg := G.mg) (by rw [hE.globals]; exact G.g.keeps hb) hg ?_) hd)
  refine callWith_def hdat (wpAny_mono (h A env N α s ρ ds pos hA hE hb hi eds) (fun vs s₁ h₁ => ⟨stays_trans hb h₁.1 _ _ ho, ?_⟩) fun _ _ x => x) (hs rest env)
  exact wpAny_mono (hf.call (hA.mono hj) (stays_trans hb h₁.1) (hi.low.keep h₁.1.heap) h₁.2.2 hρ) (fun v s₂ h₂ => ⟨h₁.1.trans h₂.1, h₂.2⟩) fun _ _ x => x

/-! a call of a builtin by its name -/
noncomputable def BfOk (G : Gnd) (k : Nat) (c : Value) (Φ : List D → Option D) : Prop :=
  ∀ A N s vals ds r, AOk A k → Hk G.base s.heap → Lo N s.heap → Rts s.heap N vals ds → Φ ds = some r →
    wpAny (model G.prog G.w) A (call c vals) (Po s N r) NoX s

theorem SE.builtin {x : Str} {id : String} {e : Expr} {rest : List Expr} {p pos : Pos} {Φ : List D → Option D} {ms : Loc → Option (List D)} (hf : BfOk G k (.builtin id) Φ)
    (hx : sc.names.lookup x = some .globalImplicit) (hd : (x == ("__debug__" : Str)) = false) (hg : G.mg x = none) (hm : G.mb x = some (.builtin id)) (hs : NoStar e) (hp : ∀ env, (backTo pos (starEach rest env)).any (·.1) = false) (h : SEs G k sc (e :: rest) ms) :
    SE G k sc (.Call (.Name x p) (e :: rest) [] pos) (fun ρ => (ms ρ).bind fun ds => Φ ds) := by
  intro A env N α s ρ d hA hE hb hi hρ
  obtain ⟨ds, eds, hρ⟩ := Option.bind_eq_some_iff.mp hρ
  refine Call_ (Calls.Name_function_global hE.kind' (by rw [hE.kindOf]; exact hx) (Calls.loadGlobal_builtin (mg := G.mg) (mb := G.mb) (by rw [hE.globals]; exact G.g.keeps hb) hg (by rw [hE.builtins]; exact G.b.keeps hb) hm ?_) hd)
  refine callWith_builtin1 (wpAny_mono (h A env N α s ρ ds pos hA hE hb hi eds) (fun vs s₁ h₁ => ?_) fun _ _ x => x) (hs rest env) (hp env)
  exact wpAny_mono (hf A _ s₁ vs ds d hA (stays_trans hb h₁.1) (hi.low.keep h₁.1.heap) h₁.2.2 hρ) (fun v s₂ h₂ => ⟨h₁.1.trans h₂.1, h₂.2⟩) fun _ _ x => x

end

end Mine
end
section
set_option maxRecDepth 20000
namespace Mine
open PySem PyProof.Rows

inductive Out where
  | next (ρ : Loc)
  | ret (d : D)
  | brk (ρ : Loc)
  | cont (ρ : Loc)

noncomputable def upd (ρ : Loc) (x : Str) (d : D) : Loc := fun y => if y = x then some d else ρ y

noncomputable def valOf (env : Env) (m cm : Str → Option Value) (x : Str) : Option Value :=
  match env.kindOf x with
  | some .local => m x
  | some .cell => cm x
  | _ => none

noncomputable def drop (α : Str → Option Addr) (x : Str) : Str → Option Addr := fun y => if y = x then none else α y
noncomputable def put (α : Str → Option Addr) (x : Str) (a : Addr) : Str → Option Addr := fun y => if y = x then some a else α y

/-- an activation that began at s₀ is at s, its locals are ρ, the lists it owns lie at α -/
structure Act (s₀ : Shared) (env : Env) (N : Addr → Prop) (α : Str → Option Addr) (s : Shared) (ρ : Loc) : Prop where
  ex : ∃ m cm, InCallC s₀ env.locals m env.cells cm s ∧ ∀ x d, ρ x = some d → ∃ v, valOf env m cm x = some v ∧ Slot s.heap N α x v d
  lowN : Lo N s₀.heap
  fresh : ∀ x a, α x = some a → s₀.heap.get? a = none ∧ ∃ vs n, s.heap.get? a = some (lstO vs n)
  inj : ∀ x y a, α x = some a → α y = some a → x = y
  cells : ∀ x, (env.kindOf x = some .cell ∨ env.kindOf x = some .free) → (env.cells.lookup x).isSome = true

/-- no store of this activation reaches b -/
noncomputable def Free (env : Env) (α : Str → Option Addr) (b : Addr) : Prop := b ≠ env.locals ∧ (∀ x c, env.cells.lookup x = some c → b ≠ c) ∧ ∀ x, α x ≠ some b
/-- what is free stays as it is, and free -/
noncomputable def Fm (env : Env) (α : Str → Option Addr) (s : Shared) (α' : Str → Option Addr) (s' : Shared) : Prop :=
  ∀ b o, s.heap.get? b = some o → Free env α b → s'.heap.get? b = some o ∧ Free env α' b
theorem Fm.refl (env : Env) (α : Str → Option Addr) (s : Shared) : Fm env α s α s := fun _ _ e f => ⟨e, f⟩
theorem Fm.trans {env : Env} {α α₁ α₂ : Str → Option Addr} {s s₁ s₂ : Shared} (x : Fm env α s α₁ s₁) (y : Fm env α₁ s₁ α₂ s₂) : Fm env α s α₂ s₂ := fun b o e f => let ⟨e₁, f₁⟩ := x b o e f; y b o e₁ f₁
theorem Fm.kp {env : Env} {α : Str → Option Addr} {s s' : Shared} (k : Kp s s') : Fm env α s α s' := fun b o e f => ⟨k.heap b o e, f⟩

section
variable {s₀ : Shared} {env : Env} {N : Addr → Prop} {α : Str → Option Addr} {s s' : Shared} {ρ : Loc}

theorem Act.kp (a : Act s₀ env N α s ρ) : Kp s₀ s := by
  obtain ⟨m, cm, i, _⟩ := a.ex
  exact i.done

theorem Act.in (a : Act s₀ env N α s ρ) : In env N α s.heap ρ := by
  obtain ⟨m, cm, i, hv⟩ := a.ex
  refine ⟨fun b hb => ?_, a.cells, m, i.toInCall.ns, fun x d e hx _ => ?_⟩
  · rcases hb with hb | ⟨x, hb⟩
    · obtain ⟨o, ho⟩ := a.lowN b hb; exact ⟨o, i.toInCall.keep b o ho⟩
    · obtain ⟨_, vs, n, h⟩ := a.fresh x b hb; exact ⟨_, h⟩
  · obtain ⟨v, h1, h2⟩ := hv x d e
    refine ⟨v, ?_, h2⟩
    unfold valOf at h1
    unfold VarIs
    split at h1
    · rename_i q; rw [q]; exact h1
    · rename_i q; rw [q]
      obtain ⟨c, hc⟩ := Option.isSome_iff_exists.mp (a.cells x (.inl q))
      exact ⟨c, hc, h1 ▸ i.cell x c hc⟩
    · cases h1

theorem inCall_keep {L : Addr} {m cm : Str → Option Value} {cs : List (Str × Addr)} (i : InCallC s₀ L m cs cm s) (k : Kp s s') : InCallC s₀ L m cs cm s' := by
  have hk := k.heap
  obtain ⟨h', tk, rfl, _⟩ := k
  obtain ⟨h₁, t₁, e₁⟩ := i.toInCall.same
  exact ⟨⟨⟨h', tk, by rw [e₁]⟩, i.toInCall.ns.keeps hk, fun b o e => hk b o (i.toInCall.keep b o e), i.toInCall.fresh⟩, fun n c hc => (i.cell n c hc).keeps hk, i.apart, i.above⟩

theorem Act.keep (a : Act s₀ env N α s ρ) (k : Kp s s') : Act s₀ env N α s' ρ := by
  obtain ⟨m, cm, i, hv⟩ := a.ex
  have hk := k.heap
  refine ⟨⟨m, cm, inCall_keep i k, fun x d e => ?_⟩, a.lowN, fun x b e => ?_, a.inj, a.cells⟩
  · obtain ⟨v, h1, h2⟩ := hv x d e; exact ⟨v, h1, h2.keep hk⟩
  · obtain ⟨h1, vs, n, h2⟩ := a.fresh x b e; exact ⟨h1, vs, n, hk _ _ h2⟩

theorem Slot.but {h h' : Heap} {x : Str} {v : Value} {d : D} {L : Addr} (s : Slot h N α x v d) (hs : ∀ b, b ≠ L → h'.get? b = h.get? b) (hL : ∀ vs n, h.get? L ≠ some (lstO vs n)) (hT : ∀ vs n, h.get? L ≠ some (tupO vs n)) : Slot h' N α x v d := by
  have kt : ∀ b vs n, h.get? b = some (tupO vs n) → h'.get? b = some (tupO vs n) := fun b vs n e => (hs b fun q => hT vs n (q ▸ e)).trans e
  have kl : ∀ b vs n, h.get? b = some (lstO vs n) → h'.get? b = some (lstO vs n) := fun b vs n e => (hs b fun q => hL vs n (q ▸ e)).trans e
  cases s with
  | clean r => exact .clean (r.change kt fun b vs n e hn => ⟨kl b vs n e, hn⟩)
  | own e hl r => exact .own e (kl _ _ _ hl) (r.change kt fun b vs n e hn => ⟨kl b vs n e, hn⟩)

theorem Slot.drop {h : Heap} {x y : Str} {v : Value} {d : D} (s : Slot h N α y v d) (hne : y ≠ x) : Slot h N (drop α x) y v d := by
  have k : ∀ b, Nu N (Mine.drop α x) b → Nu N α b := fun b q => by
    rcases q with q | ⟨z, q⟩
    · exact .inl q
    · unfold Mine.drop at q
      split at q
      · cases q
      · exact .inr ⟨z, q⟩
  cases s with
  | clean r => exact .clean (r.weak k)
  | own e hl r => exact .own (by unfold Mine.drop; rw [if_neg hne]; exact e) hl (r.weak k)

theorem ns_not_seq {h : Heap} {L : Addr} {m : Str → Option Value} (hn : h.Ns L m) (vs : List Value) (n : Nat) : h.get? L ≠ some (lstO vs n) ∧ h.get? L ≠ some (tupO vs n) := by
  obtain ⟨o, es, ep, ho, hd, _⟩ := hn
  constructor <;> (intro q; rw [ho] at q; cases q; cases hd)
theorem cell_not_seq {h : Heap} {c : Addr} {v : Option Value} (hn : h.IsCell c v) (vs : List Value) (n : Nat) : h.get? c ≠ some (lstO vs n) ∧ h.get? c ≠ some (tupO vs n) := by
  obtain ⟨o, ho, hd⟩ := hn
  constructor <;> (intro q; rw [ho] at q; cases q; cases hd)

theorem rp_but {h h' : Heap} {N : Addr → Prop} {v : Value} {d : D} {L : Addr} (r : Rp h N v d) (hs : ∀ b, b ≠ L → h'.get? b = h.get? b) (hL : ∀ vs n, h.get? L ≠ some (lstO vs n) ∧ h.get? L ≠ some (tupO vs n)) : Rp h' N v d :=
  r.change (fun b vs n e => (hs b fun q => (hL vs n).2 (q ▸ e)).trans e) fun b vs n e hn => ⟨(hs b fun q => (hL vs n).1 (q ▸ e)).trans e, hn⟩

/-- the store of a slot, whatever it is -/
theorem Act.storeBy {M : Model} {A : Around} {E : Value → Shared → Prop} {s₁ : Shared} {α' : Str → Option Addr} {x : Str} {v : Value} {d : D} {Q : Unit → Shared → Prop} (a : Act s₀ env N α s ρ) (k₁ : Kp s s₁) (hk : env.scope.kind = .function)
    (hx : env.kindOf x = some .local ∨ env.kindOf x = some .cell)
    (hr : Slot s₁.heap N α' x v d) (ho : ∀ y w e, y ≠ x → Slot s.heap N α y w e → Slot s₁.heap N α' y w e)
    (hf : ∀ y b, α' y = some b → s₀.heap.get? b = none ∧ ∃ vs n, s₁.heap.get? b = some (lstO vs n)) (hj : ∀ y z b, α' y = some b → α' z = some b → y = z)
    (hfr : ∀ b o, s.heap.get? b = some o → (∀ y, α y ≠ some b) → ∀ y, α' y ≠ some b)
    (h : ∀ s', Act s₀ env N α' s' (upd ρ x d) → Fm env α s α' s' → (∀ b o, s₁.heap.get? b = some o → b ≠ env.locals → (∀ x c, env.cells.lookup x = some c → b ≠ c) → s'.heap.get? b = some o) → Q () s') : wpAny M A (storeName env x v) Q E s₁ := by
  obtain ⟨m, cm, i, hv⟩ := a.ex
  replace i := inCall_keep i k₁
  rcases hx with hx | hx
  · refine wpAny_storeName_local hx i.toInCall.ns (fun h' hn' hs' => h _ ?_ (fun b o e f => ⟨(hs'.2 b f.1).trans (k₁.heap b o e), f.1, f.2.1, hfr b o e f.2.2⟩) fun b o e f1 f2 => (hs'.2 b f1).trans e) (by rw [hk]; rfl)
    have hL := ns_not_seq i.toInCall.ns
    refine ⟨⟨_, cm, ⟨⟨?_, hn', fun b o e => ?_, i.toInCall.fresh⟩, fun k c hc => ?_, i.apart, i.above⟩, fun y e hy => ?_⟩, a.lowN, fun y b e => ?_, hj, a.cells⟩
    · obtain ⟨h₁, tk, rfl⟩ := i.toInCall.same; exact ⟨h', _, rfl⟩
    · exact hs'.extBut b o (Nat.ne_of_lt (Nat.lt_of_lt_of_le (Heap.lt_size e) i.toInCall.fresh)) (i.toInCall.keep b o e)
    · exact (i.cell k c hc).sameBut hs' (Nat.ne_of_gt (i.above k c (mem_of_lookup hc)))
    · unfold upd at hy
      by_cases q : y = x
      · subst q
        rw [if_pos rfl] at hy; cases hy
        exact ⟨v, by simp only [valOf, hx, if_true], hr.but hs'.2 (fun vs n => (hL vs n).1) fun vs n => (hL vs n).2⟩
      · rw [if_neg q] at hy
        obtain ⟨w, h1, h2⟩ := hv y e hy
        refine ⟨w, ?_, (ho y w e q h2).but hs'.2 (fun vs n => (hL vs n).1) fun vs n => (hL vs n).2⟩
        rw [← h1]; unfold valOf; split <;> first | rfl | (simp only [if_neg q])
    · obtain ⟨h1, vs, n, h2⟩ := hf y b e
      exact ⟨h1, vs, n, (hs'.2 b fun q => (hL vs n).1 (q ▸ h2)).trans h2⟩
  · obtain ⟨c, hc⟩ := Option.isSome_iff_exists.mp (a.cells x (.inl hx))
    refine wpAny_storeName_cell hk hx hc (i.cell x c hc) fun h' hc' hs' => h _ ?_ (fun b o e f => ⟨(hs'.2 b (f.2.1 x c hc)).trans (k₁.heap b o e), f.1, f.2.1, hfr b o e f.2.2⟩) fun b o e f1 f2 => (hs'.2 b (f2 x c hc)).trans e
    have hLc := i.above x c (mem_of_lookup hc)
    have hL := cell_not_seq (i.cell x c hc)
    refine ⟨⟨m, (fun y => if y = x then some v else cm y), ⟨⟨?_, i.toInCall.ns.sameBut hs' (Nat.ne_of_lt hLc), fun b o e => ?_, i.toInCall.fresh⟩, fun k c' hk' => ?_, i.apart, i.above⟩, fun y e hy => ?_⟩, a.lowN, fun y b e => ?_, hj, a.cells⟩
    · obtain ⟨h₁, tk, rfl⟩ := i.toInCall.same; exact ⟨h', _, rfl⟩
    · exact hs'.extBut b o (Nat.ne_of_lt (Nat.lt_trans (Nat.lt_of_lt_of_le (Heap.lt_size e) i.toInCall.fresh) hLc)) (i.toInCall.keep b o e)
    · by_cases hkn : k = x
      · subst hkn
        rw [hc] at hk'; cases hk'
        simpa using hc'
      · rw [if_neg hkn]
        exact (i.cell k c' hk').sameBut hs' fun e => hkn (name_of_addr i.apart (mem_of_lookup hk') (e ▸ mem_of_lookup hc))
    · unfold upd at hy
      by_cases q : y = x
      · subst q
        rw [if_pos rfl] at hy; cases hy
        exact ⟨v, by simp only [valOf, hx, if_true], hr.but hs'.2 (fun vs n => (hL vs n).1) fun vs n => (hL vs n).2⟩
      · rw [if_neg q] at hy
        obtain ⟨w, h1, h2⟩ := hv y e hy
        refine ⟨w, ?_, (ho y w e q h2).but hs'.2 (fun vs n => (hL vs n).1) fun vs n => (hL vs n).2⟩
        rw [← h1]; unfold valOf; split <;> first | rfl | (simp only [if_neg q])
    · obtain ⟨h1, vs, n, h2⟩ := hf y b e
      exact ⟨h1, vs, n, (hs'.2 b fun q => (hL vs n).1 (q ▸ h2)).trans h2⟩

theorem drop_some {α : Str → Option Addr} {x y : Str} {b : Addr} (h : drop α x y = some b) : α y = some b := by
  unfold drop at h; split at h
  · cases h
  · exact h

theorem Act.store {M : Model} {A : Around} {E : Value → Shared → Prop} {x : Str} {v : Value} {d : D} {Q : Unit → Shared → Prop} (a : Act s₀ env N α s ρ) (hk : env.scope.kind = .function)
    (hx : env.kindOf x = some .local ∨ env.kindOf x = some .cell) (r : Rp s.heap (Nu N α) v d)
    (h : ∀ s', Act s₀ env N (drop α x) s' (upd ρ x d) → Fm env α s (drop α x) s' → Q () s') : wpAny M A (storeName env x v) Q E s :=
  a.storeBy (Kp.refl s) hk hx (.clean (r.weak fun _ q => q.imp id fun ⟨z, e⟩ => ⟨z, drop_some e⟩)) (fun _ _ _ q s => s.drop q) (fun y b e => a.fresh y b (drop_some e)) (fun y z b e1 e2 => a.inj y z b (drop_some e1) (drop_some e2)) (fun _ _ _ hb y q => hb y (drop_some q)) fun s' a f _ => h s' a f

/-- a new list becomes one's own -/
theorem Act.storeOwn {M : Model} {A : Around} {E : Value → Shared → Prop} {s₁ : Shared} {x : Str} {b : Addr} {vs : List Value} {n : Nat} {ds : List D} {Q : Unit → Shared → Prop} (a : Act s₀ env N α s ρ) (hk : env.scope.kind = .function)
    (hx : env.kindOf x = some .local ∨ env.kindOf x = some .cell) (k : Kp s s₁) (hn : s.heap.get? b = none) (hb : s₁.heap.get? b = some (lstO vs n)) (r : Rps s₁.heap (Nu1 (Nu N α) b) vs ds)
    (h : ∀ s', Act s₀ env N (put α x b) s' (upd ρ x (.own ds)) → Fm env α s (put α x b) s' → (∀ b o, s₁.heap.get? b = some o → b ≠ env.locals → (∀ x c, env.cells.lookup x = some c → b ≠ c) → s'.heap.get? b = some o) → Q () s') : wpAny M A (storeName env x (.ref b)) Q E s₁ := by
  have hput : ∀ c, Nu N (put α x b) c → Nu1 (Nu N α) b c := fun c q => by
    rcases q with q | ⟨z, q⟩
    · exact .inl (.inl q)
    · unfold put at q
      split at q
      · cases q; exact .inr rfl
      · exact .inl (.inr ⟨z, q⟩)
  have old : ∀ y c, α y = some c → c ≠ b := fun y c e q => by
    obtain ⟨_, vs, n, h2⟩ := a.fresh y c e
    rw [q, hn] at h2; cases h2
  -- the slots are told at s, where b does not stand
  have hvs : ∀ y w e, Slot s.heap N α y w e → y ≠ x → Slot s₁.heap N (put α x b) y w e := fun y w e sl q => by
    have kt : ∀ c us j, s.heap.get? c = some (tupO us j) → s₁.heap.get? c = some (tupO us j) := fun c us j e => k.heap c _ e
    have kl : ∀ c us j, s.heap.get? c = some (lstO us j) → ¬ Nu N α c → s₁.heap.get? c = some (lstO us j) ∧ ¬ Nu N (put α x b) c := fun c us j e hc =>
      ⟨k.heap c _ e, fun hq => (hput c hq).elim hc fun q => by rw [q, hn] at e; cases e⟩
    cases sl with
    | clean r => exact .clean (r.change kt kl)
    | own e' hl r => exact .own (by unfold put; rw [if_neg q]; exact e') (k.heap _ _ hl) (r.change kt kl)
  refine a.storeBy k hk hx (.own (by unfold put; rw [if_pos rfl]) hb (r.weak hput)) (fun y w e q sl => hvs y w e sl q) (fun y c e => ?_) (fun y z c e1 e2 => ?_) (fun c o e hc y q => ?_) h
  · unfold put at e
    split at e
    · cases e; exact ⟨a.kp.gone hn, _, _, hb⟩
    · obtain ⟨h1, us, j, h2⟩ := a.fresh y c e; exact ⟨h1, us, j, k.heap _ _ h2⟩
  · unfold put at e1 e2
    split at e1 <;> split at e2
    · rename_i q1 q2; rw [q1, q2]
    · cases e1; exact absurd rfl (old z _ e2)
    · cases e2; exact absurd rfl (old y _ e1)
    · exact a.inj y z c e1 e2
  · unfold put at q
    split at q
    · cases q; rw [hn] at e; cases e
    · exact hc y q

end

end Mine
end
section
set_option maxRecDepth 20000
namespace Mine
open PySem PyProof.Rows

noncomputable def OutIs (s₀ : Shared) (env : Env) (N : Addr → Prop) (α : Str → Option Addr) (s : Shared) (fl : Flow) (s' : Shared) : Out → Prop
  | .next ρ => fl = .next ∧ ∃ α', Act s₀ env N α' s' ρ ∧ Fm env α s α' s'
  | .brk ρ => fl = .brk ∧ ∃ α', Act s₀ env N α' s' ρ ∧ Fm env α s α' s'
  | .cont ρ => fl = .cont ∧ ∃ α', Act s₀ env N α' s' ρ ∧ Fm env α s α' s'
  | .ret d => ∃ v, fl = .ret v ∧ Kp s₀ s' ∧ Rp s'.heap N v d

noncomputable def S1 (G : Gnd) (k : Nat) (sc : Scope) (st : Stmt) (m : Loc → Option Out) : Prop :=
  ∀ A env N α s₀ s ρ o, AOk A k → EOk sc env → Hk G.base s₀.heap → Act s₀ env N α s ρ → m ρ = some o →
    wpAny (model G.prog G.w) A (exec st env) (fun fl s' => OutIs s₀ env N α s fl s' o) NoX s
noncomputable def SS (G : Gnd) (k : Nat) (sc : Scope) (sts : List Stmt) (m : Loc → Option Out) : Prop :=
  ∀ A env N α s₀ s ρ o, AOk A k → EOk sc env → Hk G.base s₀.heap → Act s₀ env N α s ρ → m ρ = some o →
    wpAny (model G.prog G.w) A (execs sts env) (fun fl s' => OutIs s₀ env N α s fl s' o) NoX s

noncomputable def seqM (m ms : Loc → Option Out) : Loc → Option Out := fun ρ => (m ρ).bind fun o => match o with | .next ρ' => ms ρ' | o => some o

theorem OutIs.trans {s₀ : Shared} {env : Env} {N : Addr → Prop} {α α₁ : Str → Option Addr} {s s₁ s' : Shared} {fl : Flow} {o : Out} (h : OutIs s₀ env N α₁ s₁ fl s' o) (f : Fm env α s α₁ s₁) : OutIs s₀ env N α s fl s' o := by
  cases o with
  | ret d => exact h
  | next ρ => obtain ⟨e, α', a, g⟩ := h; exact ⟨e, α', a, f.trans g⟩
  | brk ρ => obtain ⟨e, α', a, g⟩ := h; exact ⟨e, α', a, f.trans g⟩
  | cont ρ => obtain ⟨e, α', a, g⟩ := h; exact ⟨e, α', a, f.trans g⟩

section
variable {G : Gnd} {k : Nat} {sc : Scope}

theorem Act.hk {s₀ : Shared} {env : Env} {N α s ρ} (a : Act s₀ env N α s ρ) (h : Hk G.base s₀.heap) : Hk G.base s.heap := fun b o e => a.kp.heap b o (h b o e)

theorem SS.nil : SS G k sc [] (fun ρ => some (.next ρ)) := by
  intro A env N α s₀ s ρ o hA hE hb ha hρ
  cases hρ
  exact wpAny_execs_nil ⟨rfl, α, ha, Fm.refl _ _ _⟩
theorem SS.cons {st : Stmt} {rest : List Stmt} {m ms : Loc → Option Out} (h : S1 G k sc st m) (hr : SS G k sc rest ms) : SS G k sc (st :: rest) (seqM m ms) := by
  intro A env N α s₀ s ρ o hA hE hb ha hρ
  obtain ⟨o₁, e₁, hρ⟩ := Option.bind_eq_some_iff.mp hρ
  refine wpAny_execs_cons (wpAny_mono (h A env N α s₀ s ρ o₁ hA hE hb ha e₁) (fun fl s' h' => ?_) fun _ _ x => x)
  cases o₁ with
  | next ρ' =>
    obtain ⟨rfl, α', a', f'⟩ := h'
    exact wpAny_mono (hr A env N α' s₀ s' ρ' o hA hE hb a' hρ) (fun _ _ q => q.trans f') fun _ _ x => x
  | ret d => cases hρ; obtain ⟨v, rfl, h'⟩ := h'; exact ⟨v, rfl, h'⟩
  | brk ρ' => cases hρ; obtain ⟨rfl, h'⟩ := h'; exact ⟨rfl, h'⟩
  | cont ρ' => cases hρ; obtain ⟨rfl, h'⟩ := h'; exact ⟨rfl, h'⟩

noncomputable def okStore (sc : Scope) (x : Str) : Bool := match sc.names.lookup x with | some .local => true | some .cell => true | _ => false
theorem okStore.ok {env : Env} {x : Str} (hE : EOk sc env) (h : okStore sc x = true) : env.kindOf x = some .local ∨ env.kindOf x = some .cell := by
  rw [hE.kindOf]
  unfold okStore at h
  split at h
  · rename_i q; exact .inl q
  · rename_i q; exact .inr q
  · cases h

noncomputable def NoSwap (e : Expr) : Prop := ∀ x p n env, swapsWith e (some (.Name x p)) n env = pure false

theorem S1.assign {x : Str} {p pos : Pos} {e : Expr} {m : Loc → Option D} (hx : okStore sc x = true) (hs : NoSwap e) (h : SE G k sc e m) :
    S1 G k sc (.Assign [.Name x p] e pos) (fun ρ => (m ρ).bind fun d => if d.clean then some (.next (upd ρ x d)) else none) := by
  intro A env N α s₀ s ρ o hA hE hb ha hρ
  obtain ⟨d, ed, hρ⟩ := Option.bind_eq_some_iff.mp hρ
  split at hρ
  · cases hρ
    rename_i hc
    refine wpAny_Assign_Name (wpAny_mono (h A env N α s ρ d hA hE (ha.hk hb) ha.in ed) (fun v s₁ h₁ => ?_) fun _ _ x => x) (hs x p pos.line env)
    exact (ha.keep h₁.1).store hE.kind' (okStore.ok hE hx) (h₁.2.rp hc) fun s' a' f' => ⟨rfl, _, a', (Fm.kp h₁.1).trans f'⟩
  · cases hρ

theorem S1.assignOwn {x : Str} {p pos : Pos} {e : Expr} {m : Loc → Option (List D)} (hx : okStore sc x = true) (hs : NoSwap e) (h : SF G k sc e m) :
    S1 G k sc (.Assign [.Name x p] e pos) (fun ρ => (m ρ).bind fun ds => some (.next (upd ρ x (.own ds)))) := by
  intro A env N α s₀ s ρ o hA hE hb ha hρ
  obtain ⟨ds, ed, hρ⟩ := Option.bind_eq_some_iff.mp hρ
  cases hρ
  refine wpAny_Assign_Name (wpAny_mono (h A env N α s ρ ds hA hE (ha.hk hb) ha.in ed) (fun v s₁ h₁ => ?_) fun _ _ x => x) (hs x p pos.line env)
  obtain ⟨hk, b, vs, n, rfl, hn, hb', r⟩ := h₁
  exact ha.storeOwn hE.kind' (okStore.ok hE hx) hk hn hb' r fun s' a' f' _ => ⟨rfl, _, a', f'⟩

theorem S1.ret {pos : Pos} {e : Expr} {m : Loc → Option D} (h : SE G k sc e m) :
    S1 G k sc (.Return (some e) pos) (fun ρ => (m ρ).bind fun d => if d.clean then some (.ret d) else none) := by
  intro A env N α s₀ s ρ o hA hE hb ha hρ
  obtain ⟨d, ed, hρ⟩ := Option.bind_eq_some_iff.mp hρ
  split at hρ
  · cases hρ
    rename_i hc
    refine wpAny_Return_some (wpAny_mono (h A env N α s ρ d hA hE (ha.hk hb) ha.in ed) (fun v s₁ h₁ => ?_) fun _ _ x => x)
    exact ⟨v, rfl, ha.kp.trans h₁.1, (h₁.2.rp hc).weak fun _ q => .inl q⟩
  · cases hρ

theorem S1.retName {x : Str} {p pos : Pos} (hd : (x == ("__debug__" : Str)) = false) :
    S1 G k sc (.Return (some (.Name x p)) pos) (fun ρ => (ρ x).map fun d => .ret d.frz) := by
  intro A env N α s₀ s ρ o hA hE hb ha hρ
  obtain ⟨d, ed, rfl⟩ := Option.map_eq_some_iff.mp hρ
  obtain ⟨m, cm, i, hv⟩ := ha.ex
  obtain ⟨v, h1, h2⟩ := hv x d ed
  have fin : OutIs s₀ env N α s (.ret v) s (.ret d.frz) := by
    refine ⟨v, rfl, ha.kp, ?_⟩
    cases h2 with
    | clean r =>
      have : d.frz = d := by cases r <;> rfl
      rw [this]; exact r.weak fun _ q => .inl q
    | own e hl r =>
      refine .list hl (fun q => ?_) (r.weak fun _ q => .inl q)
      obtain ⟨o, ho⟩ := ha.lowN _ q
      rw [(ha.fresh _ _ e).1] at ho; cases ho
  refine wpAny_Return_some ?_
  unfold valOf at h1
  split at h1
  · rename_i q; exact wpAny_Name (wpAny_loadName_local hE.kind' q i.toInCall.ns h1 fin) hd
  · rename_i q
    obtain ⟨c, hc⟩ := Option.isSome_iff_exists.mp (ha.cells x (.inl q))
    exact wpAny_Name (wpAny_loadName_cell hE.kind' q hc (h1 ▸ i.cell x c hc) fin) hd
  · cases h1

theorem S1.ite {test : Expr} {body orelse : List Stmt} {pos : Pos} {c : Loc → Option Bool} {mb mo : Loc → Option Out} (ht : ST G k sc test c) (h1 : SS G k sc body mb) (h2 : SS G k sc orelse mo) :
    S1 G k sc (.If test body orelse pos) (fun ρ => (c ρ).bind fun b => if b then mb ρ else mo ρ) := by
  intro A env N α s₀ s ρ o hA hE hb ha hρ
  obtain ⟨b, eb, hρ⟩ := Option.bind_eq_some_iff.mp hρ
  refine wpAny_If (wpAny_mono (ht A env N α s ρ b hA hE (ha.hk hb) ha.in eb) (fun b' s₁ h₁ => ?_) fun _ _ x => x)
  obtain ⟨rfl, hk⟩ := h₁
  cases b' with
  | true => exact wpAny_mono (h1 A env N α s₀ s₁ ρ o hA hE hb (ha.keep hk) hρ) (fun _ _ q => q.trans (Fm.kp hk)) fun _ _ x => x
  | false => exact wpAny_mono (h2 A env N α s₀ s₁ ρ o hA hE hb (ha.keep hk) hρ) (fun _ _ q => q.trans (Fm.kp hk)) fun _ _ x => x

noncomputable def D.isNone : D → Bool
  | .none => true
  | _ => false
theorem Rt.isNone {h : Heap} {N v d} (r : Rt h N v d) (e : d.isNone = true) : v = .none := by
  cases d with
  | none =>
    cases r with
    | clean r => cases r; rfl
  | _ => cases e

/-- a call that hands back None, as a statement -/
theorem S1.expr {e : Expr} {pos : Pos} {m : Loc → Option D} (hs : ∀ env, swapsWith e none pos.line env = pure false) (hn : ∀ env : Env, EOk sc env → interactive env = false) (h : SE G k sc e m) :
    S1 G k sc (.Expr e pos) (fun ρ => (m ρ).bind fun d => if d.isNone then some (.next ρ) else none) := by
  intro A env N α s₀ s ρ o hA hE hb ha hρ
  obtain ⟨d, ed, hρ⟩ := Option.bind_eq_some_iff.mp hρ
  split at hρ
  · cases hρ
    rename_i hc
    refine wpAny_Expr (wpAny_mono (h A env N α s ρ d hA hE (ha.hk hb) ha.in ed) (fun v s₁ h₁ => ?_) fun _ _ x => x) (hn env hE) (hs env)
    have := h₁.2.isNone hc
    subst this
    exact ⟨rfl, α, ha.keep h₁.1, Fm.kp h₁.1⟩
  · cases hρ
theorem not_interactive (env : Env) (hE : EOk sc env) : interactive env = false := by
  unfold interactive
  rw [hE.scope, hE.kind]; rfl

/-! the contract of a def -/
noncomputable def bindLoc (names : List Str) (ds : List D) : Loc := fun x => (names.zip ds).lookup x
noncomputable def outD (o : Out) : Option D := match o with
  | .ret d => some d
  | .next _ => some .none
  | _ => none
noncomputable def fnM (names : List Str) (m : Loc → Option Out) : List D → Option D := fun ds => if ds.length = names.length then (m (bindLoc names ds)).bind outD else none

theorem bindL_notin {kd : Str → Option NameKind} {x : Str} : ∀ (binds : List (Str × Value)) (m : Str → Option Value), x ∉ binds.map (·.1) → bindL kd binds m x = m x
  | [], _, _ => rfl
  | (n, v) :: r, m, h => by
    simp only [List.map_cons, List.mem_cons, not_or] at h
    unfold bindL
    rw [bindL_notin r _ h.2]
    split
    · simp only [if_neg h.1]
    · rfl
theorem bindC_notin {kd : Str → Option NameKind} {x : Str} : ∀ (binds : List (Str × Value)) (m : Str → Option Value), x ∉ binds.map (·.1) → bindC kd binds m x = m x
  | [], _, _ => rfl
  | (n, v) :: r, m, h => by
    simp only [List.map_cons, List.mem_cons, not_or] at h
    unfold bindC
    rw [bindC_notin r _ h.2]
    split
    · rfl
    · simp only [if_neg h.1]
theorem bindL_in {kd : Str → Option NameKind} {x : Str} {v : Value} (hk : kd x = some .local) : ∀ (binds : List (Str × Value)) (m : Str → Option Value), (binds.map (·.1)).Nodup → binds.lookup x = some v → bindL kd binds m x = some v
  | [], _, _, h => by cases h
  | (n, w) :: r, m, hn, h => by
    simp only [List.map_cons, List.nodup_cons] at hn
    unfold bindL
    rw [List.lookup_cons] at h
    by_cases q : x = n
    · subst q
      simp only [beq_self_eq_true] at h
      cases h
      rw [bindL_notin r _ hn.1, if_pos hk]
      simp
    · have : (x == n) = false := beq_eq_false_iff_ne.mpr q
      rw [this] at h
      exact bindL_in hk r _ hn.2 h
theorem bindC_in {kd : Str → Option NameKind} {x : Str} {v : Value} (hk : kd x = some .cell) : ∀ (binds : List (Str × Value)) (m : Str → Option Value), (binds.map (·.1)).Nodup → binds.lookup x = some v → bindC kd binds m x = some v
  | [], _, _, h => by cases h
  | (n, w) :: r, m, hn, h => by
    simp only [List.map_cons, List.nodup_cons] at hn
    unfold bindC
    rw [List.lookup_cons] at h
    by_cases q : x = n
    · subst q
      simp only [beq_self_eq_true] at h
      cases h
      rw [bindC_notin r _ hn.1, if_neg (by rw [hk]; decide)]
      simp
    · have : (x == n) = false := beq_eq_false_iff_ne.mpr q
      rw [this] at h
      exact bindC_in hk r _ hn.2 h

theorem zip_lookup {h : Heap} {N : Addr → Prop} {x : Str} {d : D} : ∀ {names : List Str} {vals : List Value} {ds : List D}, Rps h N vals ds → (names.zip ds).lookup x = some d → ∃ v, (names.zip vals).lookup x = some v ∧ Rp h N v d
  | [], _, _, _, e => by simp at e
  | n :: names, _, _, .nil, e => by simp at e
  | n :: names, _, _, .cons (v := v) r rs, e => by
    simp only [List.zip_cons_cons, List.lookup_cons] at e ⊢
    split at e
    · cases e; exact ⟨v, by simp, r⟩
    · exact zip_lookup rs e

theorem cellsFrom_has {x : Str} : ∀ (names : List (Str × NameKind)) (n : Nat) (acc : List (Str × Addr)), names.lookup x = some .cell ∨ (acc.lookup x).isSome = true → ((cellsFrom n names acc).lookup x).isSome = true
  | [], _, _, h => h.elim (fun e => by cases e) id
  | (y, kd) :: r, n, acc, h => by
    unfold cellsFrom
    by_cases hk : (kd == .cell) = true
    · rw [if_pos hk]
      refine cellsFrom_has r (n + 1) ((y, n) :: acc) ?_
      by_cases hy : (x == y) = true
      · exact .inr (by rw [List.lookup_cons, hy]; rfl)
      · refine h.imp (fun e => ?_) fun e => ?_
        · rw [List.lookup_cons] at e; simpa only [hy] using e
        · rw [List.lookup_cons]; simpa only [hy] using e
    · rw [if_neg hk]
      refine cellsFrom_has r n acc ?_
      by_cases hy : (x == y) = true
      · refine .inr (h.elim (fun e => ?_) id)
        rw [List.lookup_cons, hy] at e
        exact absurd (by rw [Option.some.inj e]; rfl) hk
      · refine h.imp (fun e => ?_) id
        rw [List.lookup_cons] at e; simpa only [hy] using e

theorem FnOk.of {f : Addr} {o : Obj} {fd : FuncData} {names : List Str} {body : List Stmt} {m : Loc → Option Out} (ho : G.base.get? f = some o) (hd : o.data = .func fd) (hbody : fd.body = .stmts body) (hclo : fd.closure = [])
    (hgl : fd.globals = mainGlobals) (hbi : fd.builtins = builtinsNs) (hcd : G.base.CodeRec fd.code fd.qualname)
    (hbind : ∀ vals : List Value, vals.length = names.length → bindArgs fd ⟨vals, []⟩ = pure (names.zip vals)) (hnd : names.Nodup) (hkind : ∀ x ∈ names, okStore fd.scope x = true) (hfree : fd.scope.names.all (fun p => p.2 != .free) = true)
    (hco : fd.scope.isCoroutine = false) (hgen : fd.scope.isGenerator = false) (hk : fd.scope.kind = .function) (h : SS G k fd.scope body m) : FnOk G (k + 1) f (fnM names m) := by
  refine ⟨⟨o, fd, ho, hd⟩, fun A N s vals ds r hA hb lo ra e => ?_⟩
  unfold fnM at e
  split at e
  · rename_i hlen
    obtain ⟨oo, e1, e2⟩ := Option.bind_eq_some_iff.mp e
    have hvl : vals.length = names.length := ra.length.trans hlen
    refine wpAny_call (codeAny_call_cells (Nat.lt_of_le_of_lt (Nat.le_add_right _ _) hA.2.1) (hb _ _ ho) hd (G.nolimit.keeps hb) (hcd.keeps hb) hbody (hbind vals hvl) hclo (fun x hx => ?_) (fun s₁ X => ?_) hco hgen hk)
    · have hm : x.1 ∈ names := (List.of_mem_zip hx).1
      have := hkind _ hm
      unfold okStore at this
      split at this
      · rename_i q; exact .inl q
      · rename_i q; exact .inr ⟨q, cellsFrom_has _ _ _ (.inl q)⟩
      · cases this
    · have hE : EOk fd.scope (callEnvC fd s.heap.objs.size f) := ⟨rfl, hk, hgl, hbi⟩
      have hkp : ∀ b o, s.heap.get? b = some o → s₁.heap.get? b = some o := X.toInCall.keep
      have hnames : ((names.zip vals).map (·.1)).Nodup := by
        rw [List.map_fst_zip (by omega)]; exact hnd
      have a : Act s (callEnvC fd s.heap.objs.size f) N (fun _ => none) s₁ (bindLoc names ds) := by
        refine ⟨⟨_, _, X, fun x d hx => ?_⟩, lo, fun x a q => (by cases q), fun x y a q => (by cases q), fun x hx => ?_⟩
        · obtain ⟨v, h1, h2⟩ := zip_lookup ra hx
          refine ⟨v, ?_, .clean ((h2.keep hkp).weak fun b q => q.elim id fun ⟨_, q⟩ => by cases q)⟩
          have hm : x ∈ names := (List.of_mem_zip (mem_of_lookup h1)).1
          have hkx := okStore.ok hE (hkind x hm)
          unfold valOf
          rcases hkx with q | q
          · rw [q]; exact bindL_in q _ _ hnames h1
          · rw [q]; exact bindC_in q _ _ hnames h1
        · rcases hx with hx | hx
          · exact cellsFrom_has _ _ _ (.inl hx)
          · have := List.all_eq_true.mp hfree _ (mem_of_lookup hx)
            simp at this
      refine wpAny_mono (h _ _ N _ s s₁ _ oo hA.deeper hE hb a e1) (fun fl s' h' => ?_) fun _ _ x => x.elim
      cases oo with
      | ret d => cases e2; obtain ⟨v, rfl, h1, h2⟩ := h'; exact ⟨h1, h2⟩
      | next ρ => cases e2; obtain ⟨rfl, α', a', _⟩ := h'; exact ⟨a'.kp, .none⟩
      | brk ρ => cases e2
      | cont ρ => cases e2
  · cases e

end

end Mine
end
section
set_option maxRecDepth 20000
set_option linter.unusedVariables false
namespace Mine
open PySem PyProof.Rows

/-! targets: a name, or a tuple of names -/
inductive Tg where
  | one (x : Str)
  | many (xs : List Str)

noncomputable def namesOf : List Expr → Option (List Str)
  | [] => some []
  | .Name x _ :: r => (namesOf r).map (x :: ·)
  | _ => none
noncomputable def tgOf : Expr → Option Tg
  | .Name x _ => some (.one x)
  | .Tuple es _ _ => (namesOf es).map .many
  | _ => none
noncomputable def Tg.names : Tg → List Str
  | .one x => [x]
  | .many xs => xs
noncomputable def upds (ρ : Loc) : List Str → List D → Loc
  | x :: xs, d :: ds => upds (upd ρ x d) xs ds
  | _, _ => ρ
noncomputable def bindT : Tg → D → Loc → Option Loc
  | .one x, d, ρ => some (upd ρ x d)
  | .many xs, .tup ds, ρ => if xs.length = ds.length then some (upds ρ xs ds) else none
  | _, _, _ => none

section
variable {prog : Program} {w : World} {A : Around} {E : Value → Shared → Prop} {env : Env} {ι : Type}

structure Storer (prog : Program) (w : World) (A : Around) (E : Value → Shared → Prop) (env : Env) (ok : Str → Prop) {ι : Type} (St : ι → Loc → Shared → Prop) (V : ι → Shared → Value → D → Prop) : Prop where
  store : ∀ i x v d ρ s (Q : Unit → Shared → Prop), ok x → St i ρ s → V i s v d → (∀ i' s', St i' (upd ρ x d) s' → (∀ v d, V i s v d → V i' s' v d) → Q () s') → wpAny (model prog w) A (storeName env x v) Q E s
  keep : ∀ i ρ s s', St i ρ s → Kp s s' → St i ρ s' ∧ ∀ v d, V i s v d → V i s' v d

theorem namesOf_each {env : Env} : ∀ {es : List Expr} {xs : List Str}, namesOf es = some xs → (assignEach es env).length = xs.length ∧ (assignEach es env).findIdx? (·.1) = none
  | [], xs, h => by cases h; exact ⟨rfl, rfl⟩
  | e :: r, xs, h => by
    cases e with
    | Name x p =>
      simp only [namesOf] at h
      obtain ⟨ys, hy, rfl⟩ := Option.map_eq_some_iff.mp h
      have ih := namesOf_each (env := env) hy
      constructor
      · show (assignEach r env).length + 1 = _
        rw [ih.1]; rfl
      · show List.findIdx? (·.1) ((false, assign (.Name x p) env) :: assignEach r env) = none
        rw [List.findIdx?_cons]
        simp only [ih.2]; rfl
    | _ => simp [namesOf] at h

theorem Storer.inOrder {ok : Str → Prop} {St : ι → Loc → Shared → Prop} {V : ι → Shared → Value → D → Prop} (S : Storer prog w A E env ok St V) : ∀ {es : List Expr} {xs : List Str} {vs : List Value} {ds : List D} {i : ι} {ρ : Loc} {s : Shared} {Q : Unit → Shared → Prop},
    namesOf es = some xs → (∀ x ∈ xs, ok x) → xs.length = ds.length → vs.length = ds.length → (∀ (j : Nat) v d, vs[j]? = some v → ds[j]? = some d → V i s v d) → St i ρ s → (∀ i' s', St i' (upds ρ xs ds) s' → Q () s') →
    wpAny (model prog w) A (assignInOrder ((assignEach es env).map (·.2)) vs) Q E s
  | [], xs, vs, ds, i, ρ, s, Q, h, _, hl, hv, _, hs, hQ => by
    cases h
    cases ds with
    | nil => cases vs with
      | nil => exact wpAny_pure (hQ i s hs)
      | cons _ _ => simp at hv
    | cons _ _ => simp at hl
  | e :: r, xs, vs, ds, i, ρ, s, Q, h, ho, hl, hv, hV, hs, hQ => by
    cases e with
    | Name x p =>
      simp only [namesOf] at h
      obtain ⟨ys, hy, rfl⟩ := Option.map_eq_some_iff.mp h
      cases ds with
      | nil => simp at hl
      | cons d ds => cases vs with
        | nil => simp at hv
        | cons v vs =>
          show wpAny _ A (do holding vs (assign (.Name x p) env v); assignInOrder ((assignEach r env).map (·.2)) vs) Q E s
          refine wpAny_bind (wpAny_holding (wpAny_assign_Name ?_))
          refine S.store i x v d ρ s _ (ho x (.head _)) hs (hV 0 v d rfl rfl) fun i' s' hs' hk => ?_
          refine S.inOrder hy (fun y hy => ho y (.tail _ hy)) (by simpa using hl) (by simpa using hv) (fun j v' d' e1 e2 => hk _ _ (hV (j + 1) v' d' (by simpa using e1) (by simpa using e2))) hs' hQ
    | _ => simp [namesOf] at h

theorem Storer.assign {ok : Str → Prop} {St : ι → Loc → Shared → Prop} {V : ι → Shared → Value → D → Prop} (S : Storer prog w A E env ok St V) {target : Expr} {t : Tg} {i : ι} {ρ ρ' : Loc} {s : Shared} {v : Value} {d : D} {Q : Unit → Shared → Prop} (hh : A.handled = none)
    (ht : tgOf target = some t) (ho : ∀ x ∈ t.names, ok x) (hs : St i ρ s) (hv : V i s v d) (hb : bindT t d ρ = some ρ')
    (hopen : ∀ ds, d = .tup ds → ∃ a vs n, v = .ref a ∧ s.heap.get? a = some (tupO vs n) ∧ vs.length = ds.length ∧ ∀ (j : Nat) v d, vs[j]? = some v → ds[j]? = some d → V i s v d)
    (hQ : ∀ i' s', St i' ρ' s' → Q () s') : wpAny (model prog w) A (PySem.assign target env v) Q E s := by
  cases target with
  | Name x p =>
    cases ht
    cases hb
    exact wpAny_assign_Name (S.store i x v d ρ s _ (ho x (.head _)) hs hv fun i' s' hs' _ => hQ i' s' hs')
  | Tuple es k p =>
    obtain ⟨xs, hx, rfl⟩ := Option.map_eq_some_iff.mp ht
    cases d with
    | tup ds =>
      simp only [bindT] at hb
      split at hb
      · cases hb
        rename_i hlen
        obtain ⟨a, vs, n, rfl, ha, hvl, hvv⟩ := hopen ds rfl
        have hne := namesOf_each (env := env) hx
        refine wpAny_assign_Tuple hh ⟨_, ha, rfl, n, rfl⟩ (by rw [hne.1]; simp [hlen, hvl]) hne.2 fun h' he => ?_
        have kp : Kp s { s with heap := h' } := ⟨h', s.toks, rfl, fun b o e => he b o (Nat.ne_of_lt (Heap.lt_size e)) e⟩
        obtain ⟨hs', hk⟩ := S.keep i ρ s _ hs kp
        exact S.inOrder hx ho hlen hvl (fun j v d e1 e2 => hk _ _ (hvv j v d e1 e2)) hs' hQ
      · cases hb
    | _ => simp [bindT] at hb
  | _ => simp [tgOf] at ht

end

theorem Rp.open {h : Heap} {N : Addr → Prop} {v : Value} {d : D} {ds : List D} (r : Rp h N v d) (e : d = .tup ds) : ∃ a vs n, v = .ref a ∧ h.get? a = some (tupO vs n) ∧ vs.length = ds.length ∧ ∀ (j : Nat) v d, vs[j]? = some v → ds[j]? = some d → Rp h N v d := by
  subst e
  cases r with
  | tup ha rs =>
    refine ⟨_, _, _, rfl, ha, rs.length, fun j v d e1 e2 => ?_⟩
    obtain ⟨d', e3, r'⟩ := rs.get' e1
    rw [e2] at e3; cases e3; exact r'

theorem lst_ne_tup {vs us : List Value} {n j : Nat} (h : some (lstO vs n) = some (tupO us j)) : False := by
  have := congrArg (fun o : Option Obj => o.map Obj.cls) h
  simp at this

/-- values along the stores of an activation -/
theorem Rp.fm {s₀ : Shared} {env : Env} {N : Addr → Prop} {α α' : Str → Option Addr} {s s' : Shared} {ρ : Loc} {v : Value} {d : D} (a : Act s₀ env N α s ρ) (f : Fm env α s α' s') (r : Rp s.heap (Nu N α) v d) : Rp s'.heap (Nu N α') v d := by
  obtain ⟨m, cm, i, _⟩ := a.ex
  have nL : ∀ b us j, (s.heap.get? b = some (lstO us j) ∨ s.heap.get? b = some (tupO us j)) → b ≠ env.locals ∧ ∀ x c, env.cells.lookup x = some c → b ≠ c := fun b us j e => by
    refine ⟨fun q => ?_, fun x c hc q => ?_⟩
    · have := ns_not_seq i.toInCall.ns us j
      rw [q] at e; exact e.elim this.1 this.2
    · have := cell_not_seq (i.cell x c hc) us j
      rw [q] at e; exact e.elim this.1 this.2
  refine r.change (fun b us j e => (f b _ e ⟨(nL b us j (.inr e)).1, (nL b us j (.inr e)).2, fun x q => ?_⟩).1) fun b us j e hn => ?_
  · obtain ⟨_, ws, k, h2⟩ := a.fresh x b q
    rw [h2] at e; exact lst_ne_tup e
  · obtain ⟨e', fr⟩ := f b _ e ⟨(nL b us j (.inl e)).1, (nL b us j (.inl e)).2, fun x q => hn (.inr ⟨x, q⟩)⟩
    exact ⟨e', fun q => q.elim (fun q => hn (.inl q)) fun ⟨x, q⟩ => fr.2.2 x q⟩
theorem Rps.fm {s₀ : Shared} {env : Env} {N : Addr → Prop} {α α' : Str → Option Addr} {s s' : Shared} {ρ : Loc} (a : Act s₀ env N α s ρ) (f : Fm env α s α' s') : ∀ {vs ds}, Rps s.heap (Nu N α) vs ds → Rps s'.heap (Nu N α') vs ds
  | _, _, .nil => .nil
  | _, _, .cons x r => .cons (x.fm a f) (Rps.fm a f r)

theorem act_storer {prog : Program} {w : World} {A : Around} {E : Value → Shared → Prop} {env : Env} {s₀ : Shared} {N : Addr → Prop} (α₀ : Str → Option Addr) (s₁ : Shared) (hk : env.scope.kind = .function) :
    Storer prog w A E env (fun x => env.kindOf x = some .local ∨ env.kindOf x = some .cell) (fun (α : Str → Option Addr) ρ s => Act s₀ env N α s ρ ∧ Fm env α₀ s₁ α s) (fun α s v d => Rp s.heap (Nu N α) v d) where
  store := fun α x v d ρ s Q hx ha hv hQ => ha.1.store hk hx hv fun s' a' f' => hQ _ s' ⟨a', ha.2.trans f'⟩ fun v d r => r.fm ha.1 f'
  keep := fun α ρ s s' ha k => ⟨⟨ha.1.keep k, ha.2.trans (Fm.kp k)⟩, fun v d r => r.keep k.heap⟩

theorem Act.assign {prog : Program} {w : World} {A : Around} {E : Value → Shared → Prop} {env : Env} {s₀ s : Shared} {N : Addr → Prop} {α : Str → Option Addr} {ρ ρ' : Loc} {target : Expr} {t : Tg} {v : Value} {d : D} {Q : Unit → Shared → Prop} (a : Act s₀ env N α s ρ) (hk : env.scope.kind = .function) (hh : A.handled = none)
    (ht : tgOf target = some t) (ho : ∀ x ∈ t.names, env.kindOf x = some .local ∨ env.kindOf x = some .cell) (r : Rp s.heap (Nu N α) v d) (hb : bindT t d ρ = some ρ') (hQ : ∀ α' s', Act s₀ env N α' s' ρ' → Fm env α s α' s' → Q () s') :
    wpAny (model prog w) A (PySem.assign target env v) Q E s :=
  (act_storer (s₀ := s₀) (N := N) α s hk).assign hh ht ho ⟨a, Fm.refl _ _ _⟩ r hb (fun ds e => r.open e) fun i' s' h => hQ i' s' h.1 h.2

/-! iterators -/
/-- an iterator at I: it hands out ds; its items come of vs, which are ds₀ -/
structure Wk (G : Gnd) (A : Around) (target : Expr) (I : Addr) (fp wr : List Addr) (vs : List Value) (ds₀ ds : List D) (St : Nat → Heap → Prop) : Prop where
  sub : ∀ b ∈ wr, b ∈ fp
  frame : ∀ i h h', St i h → (∀ b ∈ fp, ∀ o, h.get? b = some o → h'.get? b = some o) → St i h'
  kind : ∀ i h, St i h → ∀ b ∈ wr, ∀ us j, h.get? b ≠ some (lstO us j) ∧ h.get? b ≠ some (tupO us j)
  exist : ∀ i h, St i h → ∀ b ∈ wr, ∃ o, h.get? b = some o
  item : ∀ i (s : Shared) (d : D) (N : Addr → Prop) (Q : Value → Shared → Prop) (R : Option Value → Shared → Prop) (E : Value → Shared → Prop), ds[i]? = some d → St i s.heap → Rps s.heap N vs ds₀ → Lo N s.heap →
    (∀ v s₁, wpAny (model G.prog G.w) A (letOwnedTupleGo target (.ref I) v) (fun _ s₂ => Q v s₂) E s₁ → R (some v) s₁) →
    (∀ v h' tk, St (i + 1) h' → (∀ b o, b ∉ wr → s.heap.get? b = some o → h'.get? b = some o) → Rp h' N v d → Q v { s with heap := h', toks := tk }) →
    wpAny (model G.prog G.w) A (pyNext (.ref I)) R E s
  done : ∀ (s : Shared) (Q : Option Value → Shared → Prop) (E : Value → Shared → Prop), St ds.length s.heap →
    (∀ h' tk, (∀ b o, b ∉ wr → s.heap.get? b = some o → h'.get? b = some o) → Q none { s with heap := h', toks := tk }) → wpAny (model G.prog G.w) A (pyNext (.ref I)) Q E s
  self : ∀ i (s : Shared) (Q : Value → Shared → Prop) (E : Value → Shared → Prop), St i s.heap → Q (.ref I) s → wpAny (model G.prog G.w) A (pyIter (.ref I)) Q E s

/-- an iterable: fz says that no list of one's own is walked over -/
noncomputable def SI (G : Gnd) (k : Nat) (sc : Scope) (fz : Bool) (target e : Expr) (m : Loc → Option (List D)) : Prop :=
  ∀ A env N α s ρ ds, AOk A k → EOk sc env → Hk G.base s.heap → In env N α s.heap ρ → m ρ = some ds →
    wpAny (model G.prog G.w) A (eval e env) (fun x s₁ => wpAny (model G.prog G.w) A (pyIter x) (fun it s₂ => Kp s s₂ ∧ ds.length ≤ sizeLine ∧
      ∃ I fp wr vs ds₀ St, it = .ref I ∧ Wk G A target I fp wr vs ds₀ ds St ∧ St 0 s₂.heap ∧ Rps s₂.heap (Nu N α) vs ds₀ ∧ (∀ b ∈ wr, s.heap.get? b = none) ∧ (∀ b ∈ fp, ∃ o, s₂.heap.get? b = some o) ∧
      ∀ b ∈ fp, s.heap.get? b = none ∨ (∃ us j, s.heap.get? b = some (lstO us j) ∧ (fz = true → ¬ Nu N α b)) ∨ ∃ us j, s.heap.get? b = some (tupO us j)) NoX s₁) NoX s

noncomputable def forM (t : Tg) (mb : Loc → Option Out) : List D → Loc → Option Out
  | [], ρ => some (.next ρ)
  | d :: ds, ρ => (bindT t d ρ).bind fun ρ₁ => (mb ρ₁).bind fun o => match o with
    | .next ρ' => forM t mb ds ρ'
    | .cont ρ' => forM t mb ds ρ'
    | .brk ρ' => some (.next ρ')
    | .ret d => some (.ret d)

theorem Act.swap {s₀ : Shared} {env : Env} {N : Addr → Prop} {α : Str → Option Addr} {s : Shared} {ρ : Loc} {h' : Heap} {tk : Nat} {wr : List Addr} (a : Act s₀ env N α s ρ) (k : ∀ b o, b ∉ wr → s.heap.get? b = some o → h'.get? b = some o)
    (hf : ∀ b ∈ wr, Free env α b) (h0 : ∀ b ∈ wr, s₀.heap.get? b = none) (hs : ∀ b ∈ wr, ∀ us j, s.heap.get? b ≠ some (lstO us j) ∧ s.heap.get? b ≠ some (tupO us j)) : Act s₀ env N α { s with heap := h', toks := tk } ρ := by
  obtain ⟨m, cm, i, hv⟩ := a.ex
  have kt : ∀ b us j, s.heap.get? b = some (tupO us j) → h'.get? b = some (tupO us j) := fun b us j e => k b _ (fun q => (hs b q us j).2 e) e
  have kl : ∀ b us j, s.heap.get? b = some (lstO us j) → h'.get? b = some (lstO us j) := fun b us j e => k b _ (fun q => (hs b q us j).1 e) e
  have hL : env.locals ∉ wr := fun q => (hf _ q).1 rfl
  obtain ⟨h₁, t₁, e₁⟩ := i.toInCall.same
  refine ⟨⟨m, cm, ⟨⟨⟨h', tk, by rw [e₁]⟩, i.toInCall.ns.at' fun o e => k _ o hL e, fun b o e => k b o (fun q => by rw [h0 b q] at e; cases e) (i.toInCall.keep b o e), i.toInCall.fresh⟩, fun n c hc => ?_, i.apart, i.above⟩, fun x d e => ?_⟩, a.lowN, fun x b e => ?_, a.inj, a.cells⟩
  · obtain ⟨o, ho, hd⟩ := i.cell n c hc
    exact ⟨o, k c o (fun q => (hf _ q).2.1 n c hc rfl) ho, hd⟩
  · obtain ⟨v, h1, h2⟩ := hv x d e
    refine ⟨v, h1, ?_⟩
    cases h2 with
    | clean r => exact .clean (r.change kt fun b us j e hn => ⟨kl b us j e, hn⟩)
    | own e' hl r => exact .own e' (kl _ _ _ hl) (r.change kt fun b us j e hn => ⟨kl b us j e, hn⟩)
  · obtain ⟨h1, vs, n, h2⟩ := a.fresh x b e
    exact ⟨h1, vs, n, kl _ _ _ h2⟩

section
variable {G : Gnd} {k : Nat} {sc : Scope}

theorem free_of {s₀ : Shared} {env : Env} {N : Addr → Prop} {α : Str → Option Addr} {s : Shared} {ρ : Loc} {b : Addr} (a : Act s₀ env N α s ρ)
    (h : s.heap.get? b = none ∨ (∃ us j, s.heap.get? b = some (lstO us j) ∧ (true = true → ¬ Nu N α b)) ∨ ∃ us j, s.heap.get? b = some (tupO us j)) : Free env α b := by
  obtain ⟨m, cm, i, _⟩ := a.ex
  rcases h with h | ⟨us, j, h, hn⟩ | ⟨us, j, h⟩
  · refine ⟨fun q => ?_, fun x c hc q => ?_, fun x q => ?_⟩
    · obtain ⟨o, _, _, ho, _⟩ := i.toInCall.ns; rw [q] at h; rw [h] at ho; cases ho
    · obtain ⟨o, ho, _⟩ := i.cell x c hc; rw [q] at h; rw [h] at ho; cases ho
    · obtain ⟨_, vs, n, h2⟩ := a.fresh x b q; rw [h] at h2; cases h2
  · refine ⟨fun q => ?_, fun x c hc q => ?_, fun x q => hn rfl (.inr ⟨x, q⟩)⟩
    · have := ns_not_seq i.toInCall.ns us j; rw [q] at h; exact this.1 h
    · have := cell_not_seq (i.cell x c hc) us j; rw [q] at h; exact this.1 h
  · refine ⟨fun q => ?_, fun x c hc q => ?_, fun x q => ?_⟩
    · have := ns_not_seq i.toInCall.ns us j; rw [q] at h; exact this.2 h
    · have := cell_not_seq (i.cell x c hc) us j; rw [q] at h; exact this.2 h
    · obtain ⟨_, vs, n, h2⟩ := a.fresh x b q; rw [h] at h2; exact lst_ne_tup h2.symm

theorem S1.for {target iter : Expr} {t : Tg} {body : List Stmt} {pos : Pos} {mi : Loc → Option (List D)} {mb : Loc → Option Out} (ht : tgOf target = some t) (ho : ∀ x ∈ t.names, okStore sc x = true) (hfs : ∀ env x, foldedSetIterable iter env x = pure x)
    (hi : SI G k sc true target iter mi) (hb' : SS G k sc body mb) : S1 G k sc (.For target iter body [] pos) (fun ρ => (mi ρ).bind fun ds => forM t mb ds ρ) := by
  intro A env N α s₀ s ρ o hA hE hb ha hρ
  obtain ⟨ds, eds, hρ⟩ := Option.bind_eq_some_iff.mp hρ
  refine wpAny_For (wpAny_mono (hi A env N α s ρ ds hA hE (ha.hk hb) ha.in eds) (fun x s₁ h₁ => wpAny_mono h₁ (fun it s₂ h₂ => ?_) fun _ _ x => x) fun _ _ x => x) (hfs env)
  obtain ⟨k₂, _, I, fp, wr, vs, ds₀, St, rfl, W, st0, rv, hwr, hfpo, hfp⟩ := h₂
  have ok : ∀ x ∈ t.names, env.kindOf x = some .local ∨ env.kindOf x = some .cell := fun x hx => okStore.ok hE (ho x hx)
  have fr0 : ∀ b ∈ fp, Free env α b := fun b hb => free_of ha (hfp b hb)
  have h0 : ∀ b ∈ wr, s₀.heap.get? b = none := fun b hb => ha.kp.gone (hwr b hb)
  -- the invariant: i items are taken
  refine codeAny_forLoop_any (fun n s' => ∃ i ρ' α', i ≤ ds.length ∧ n = ds.length - i ∧ Act s₀ env N α' s' ρ' ∧ St i s'.heap ∧ Rps s'.heap (Nu N α') vs ds₀ ∧ (∀ b ∈ fp, Free env α' b ∧ ∃ o, s'.heap.get? b = some o) ∧
      (∀ b o, b ∉ wr → s₂.heap.get? b = some o → Free env α b → s'.heap.get? b = some o ∧ Free env α' b) ∧ forM t mb (ds.drop i) ρ' = some o) (fun n s' hI => ?_) ds.length
      ⟨0, ρ, α, Nat.zero_le _, rfl, ha.keep k₂, st0, rv, fun b hb => ⟨fr0 b hb, hfpo b hb⟩, fun b o _ e f => ⟨e, f⟩, by simpa using hρ⟩
  obtain ⟨i, ρ', α', hin, rfl, a', st', rv', ff', fm', hm'⟩ := hI
  by_cases hlt : i < ds.length
  · have hdi : ds[i]? = some ds[i] := by simp [hlt]
    rw [List.drop_eq_getElem_cons hlt] at hm'
    simp only [forM] at hm'
    obtain ⟨ρ₁, e1, hm'⟩ := Option.bind_eq_some_iff.mp hm'
    obtain ⟨o₁, e2, hm'⟩ := Option.bind_eq_some_iff.mp hm'
    refine W.item i s' ds[i] (Nu N α') _ _ _ hdi st' rv' a'.in.low (fun v s₁ h => h) fun v h₁ tk st₁ hk₁ rp => ?_
    · have a₁ : Act s₀ env N α' { s' with heap := h₁, toks := tk } ρ' := a'.swap hk₁ (fun b hb => (ff' b (W.sub b hb)).1) h0 (W.kind i _ st')
      refine a₁.assign hE.kind' hA.1 ht ok rp e1 fun α₂ s₅ a₂ f₂ => ?_
      refine wpAny_mono (hb' A env N α₂ s₀ s₅ ρ₁ o₁ hA hE hb a₂ e2) (fun fl s₆ h₆ => ?_) fun _ _ x => x.elim
      -- from h₁ on: what is free stays
      have step : ∀ α₃ s₇, Fm env α₂ s₅ α₃ s₇ → Act s₀ env N α₃ s₇ (match o₁ with | .next q => q | .cont q => q | .brk q => q | .ret _ => ρ₁) → St (i + 1) s₇.heap ∧ Rps s₇.heap (Nu N α₃) vs ds₀ ∧ (∀ b ∈ fp, Free env α₃ b ∧ ∃ o, s₇.heap.get? b = some o) ∧
          (∀ b o, b ∉ wr → s₂.heap.get? b = some o → Free env α b → s₇.heap.get? b = some o ∧ Free env α₃ b) := fun α₃ s₇ f₃ a₃ => by
        have f23 := f₂.trans f₃
        have hex : ∀ b ∈ fp, ∃ o, h₁.get? b = some o := fun b hb => by
          by_cases q : b ∈ wr
          · exact W.exist _ _ st₁ b q
          · obtain ⟨o, ho⟩ := (ff' b hb).2; exact ⟨o, hk₁ b o q ho⟩
        refine ⟨W.frame _ _ _ st₁ fun b hb o e => (f23 b o e (ff' b hb).1).1, ?_, fun b hb => ?_, fun b o hb e f => ?_⟩
        · exact Rps.fm a₁ f23 (rv'.change (fun b us j e => hk₁ b _ (fun q => (W.kind i _ st' b q us j).2 e) e) fun b us j e hn => ⟨hk₁ b _ (fun q => (W.kind i _ st' b q us j).1 e) e, hn⟩)
        · obtain ⟨o, ho⟩ := hex b hb
          obtain ⟨e', f'⟩ := f23 b o ho (ff' b hb).1
          exact ⟨f', o, e'⟩
        · obtain ⟨e', f'⟩ := fm' b o hb e f
          exact f23 b o (hk₁ b o hb e') f'
      cases o₁ with
      | next q =>
        obtain ⟨rfl, α₃, a₃, f₃⟩ := h₆
        obtain ⟨g1, g2, g3, g4⟩ := step α₃ s₆ f₃ a₃
        exact ⟨_, (by omega : ds.length - (i + 1) < ds.length - i), i + 1, q, α₃, hlt, rfl, a₃, g1, g2, g3, g4, hm'⟩
      | cont q =>
        obtain ⟨rfl, α₃, a₃, f₃⟩ := h₆
        obtain ⟨g1, g2, g3, g4⟩ := step α₃ s₆ f₃ a₃
        exact ⟨_, (by omega : ds.length - (i + 1) < ds.length - i), i + 1, q, α₃, hlt, rfl, a₃, g1, g2, g3, g4, hm'⟩
      | brk q =>
        obtain ⟨rfl, α₃, a₃, f₃⟩ := h₆
        obtain ⟨g1, g2, g3, g4⟩ := step α₃ s₆ f₃ a₃
        cases hm'
        exact ⟨rfl, α₃, a₃, fun b o e f => g4 b o (fun q => by rw [hwr b q] at e; cases e) (k₂.heap b o e) f⟩
      | ret d => cases hm'; obtain ⟨v', rfl, h6⟩ := h₆; exact ⟨v', rfl, h6⟩
  · have hi' : i = ds.length := by omega
    subst hi'
    rw [List.drop_length] at hm'
    cases hm'
    refine W.done s' _ _ st' fun h₁ tk hk₁ => ?_
    have a₁ : Act s₀ env N α' { s' with heap := h₁, toks := tk } ρ' := a'.swap hk₁ (fun b hb => (ff' b (W.sub b hb)).1) h0 (W.kind _ _ st')
    refine wpAny_execs_nil ⟨rfl, α', a₁, fun b o e f => ?_⟩
    have hbw : b ∉ wr := fun q => by rw [hwr b q] at e; cases e
    obtain ⟨e', f'⟩ := fm' b o hbw (k₂.heap b o e) f
    exact ⟨hk₁ b o hbw e', f'⟩

end

end Mine
end
section
set_option maxRecDepth 20000
set_option linter.unusedVariables false
namespace Mine
open PySem PyProof.Rows

section
variable {G : Gnd} {k : Nat} {sc : Scope}

theorem fields_not_seq {h : Heap} {b : Addr} {o : Obj} {xs : Array Value} (ho : h.get? b = some o) (hd : o.data = .fields xs) (us : List Value) (j : Nat) : h.get? b ≠ some (lstO us j) ∧ h.get? b ≠ some (tupO us j) := by
  constructor <;> (intro q; rw [ho] at q; have := Option.some.inj q; subst this; cases hd)

/-- targets over which the iterator of a list goes -/
theorem letGo_list {A : Around} {target : Expr} {t : Tg} {I : Addr} {v : Value} {s : Shared} {o : Obj} {cls : String} {vs : Array Value} {E : Value → Shared → Prop} {Q : Unit → Shared → Prop} (ht : tgOf target = some t) (ho : s.heap.get? I = some o) (hc : o.cls = .type cls) (hd : o.data = .fields vs)
    (hn : (["enumerate", "zip", "dict_itemiterator", "dict_reverseitemiterator", "odict_iterator", "itertools.zip_longest", "itertools.pairwise"].contains cls) = false) (h : Q () s) : wpAny (model G.prog G.w) A (letOwnedTupleGo target (.ref I) v) Q E s := by
  cases target with
  | Name x p => exact wpAny_pure h
  | Tuple es kd p =>
    unfold letOwnedTupleGo
    cases v with
    | ref a =>
      refine wpAny_bind (wpAny_load ho ?_)
      rw [hc, hd]
      simp only [hn, Bool.false_and]
      exact wpAny_pure h
    | _ => exact wpAny_pure h
  | _ => simp [tgOf] at ht

theorem Wk.list {A : Around} {target : Expr} {t : Tg} (hh : A.handled = none) (ht : tgOf target = some t) (I ax : Addr) (hne : ax ≠ I) (vs : List Value) (ds : List D) (hl : vs.length = ds.length) :
    Wk G A target I [I, ax] [I] vs ds ds (fun i h => h.IsListIter I ax i ∧ ∃ n, h.get? ax = some (lstO vs n)) where
  sub := fun b hb => by simp at hb; simp [hb]
  frame := fun _ _ _ st hk => ⟨st.1.at fun o e => hk I (by simp) o e, let ⟨n, q⟩ := st.2; ⟨n, hk ax (by simp) _ q⟩⟩
  kind := fun i h st b hb us j => by
    simp at hb; subst hb
    obtain ⟨o, ho, hc, hd⟩ := st.1
    constructor <;> (intro q; rw [ho] at q; cases q; cases hd)
  exist := fun i h st b hb => by simp at hb; subst hb; obtain ⟨o, ho, _⟩ := st.1; exact ⟨o, ho⟩
  item := fun i s d N Q R E hi st rv lo hR hQ => by
    obtain ⟨n, hax⟩ := st.2
    obtain ⟨v, hv, rp⟩ := rv.get hi
    refine wpAny_pyNext_list_item st.1 ⟨_, hax, rfl, n, rfl⟩ (x := v) (by simpa using hv) fun h' hit' hs' => ?_
    refine hR v _ ?_
    have keep : ∀ b o, b ∉ [I] → s.heap.get? b = some o → h'.get? b = some o := fun b o hb e => hs'.extBut b o (fun q => hb (by simp [q])) e
    obtain ⟨o, ho, hc, hd⟩ := id hit'
    refine letGo_list ht ho hc hd (by decide) (hQ v h' s.toks ⟨hit', n, keep ax _ (by simp [hne]) hax⟩ keep ?_)
    obtain ⟨o1, ho1, hc1, hd1⟩ := st.1
    have nI : ∀ us j, s.heap.get? I ≠ some (lstO us j) ∧ s.heap.get? I ≠ some (tupO us j) := fun us j => by constructor <;> (intro q; rw [ho1] at q; cases q; cases hd1)
    exact rp_but rp (fun b hb => hs'.2 b hb) nI
  done := fun s Q E st hQ => by
    obtain ⟨n, hax⟩ := st.2
    exact wpAny_pyNext_list_end hh st.1 ⟨_, hax, rfl, n, rfl⟩ (by simp [hl]) fun h' he' => hQ h' s.toks fun b o hb e => he' b o (fun h => hb (by simp [h])) e
  self := fun _ _ _ _ st hQ => wpAny_pyIter_listiter st.1 hQ

theorem Wk.tuple {A : Around} {target : Expr} {t : Tg} (hh : A.handled = none) (ht : tgOf target = some t) (I ax : Addr) (hne : ax ≠ I) (vs : List Value) (ds : List D) (hl : vs.length = ds.length) :
    Wk G A target I [I, ax] [I] vs ds ds (fun i h => h.IsTupleIter I ax i ∧ ∃ n, h.get? ax = some (tupO vs n)) where
  sub := fun b hb => by simp at hb; simp [hb]
  frame := fun _ _ _ st hk => ⟨st.1.at fun o e => hk I (by simp) o e, let ⟨n, q⟩ := st.2; ⟨n, hk ax (by simp) _ q⟩⟩
  kind := fun i h st b hb us j => by
    simp at hb; subst hb
    obtain ⟨o, ho, hc, hd⟩ := st.1
    constructor <;> (intro q; rw [ho] at q; cases q; cases hd)
  exist := fun i h st b hb => by simp at hb; subst hb; obtain ⟨o, ho, _⟩ := st.1; exact ⟨o, ho⟩
  item := fun i s d N Q R E hi st rv lo hR hQ => by
    obtain ⟨n, hax⟩ := st.2
    obtain ⟨v, hv, rp⟩ := rv.get hi
    refine wpAny_pyNext_tuple_item st.1 ⟨_, hax, rfl, n, rfl⟩ (x := v) (by simpa using hv) fun h' hit' hs' => ?_
    refine hR v _ ?_
    have keep : ∀ b o, b ∉ [I] → s.heap.get? b = some o → h'.get? b = some o := fun b o hb e => hs'.extBut b o (fun q => hb (by simp [q])) e
    obtain ⟨o, ho, hc, hd⟩ := id hit'
    refine letGo_list ht ho hc hd (by decide) (hQ v h' s.toks ⟨hit', n, keep ax _ (by simp [hne]) hax⟩ keep ?_)
    obtain ⟨o1, ho1, hc1, hd1⟩ := st.1
    have nI : ∀ us j, s.heap.get? I ≠ some (lstO us j) ∧ s.heap.get? I ≠ some (tupO us j) := fun us j => by constructor <;> (intro q; rw [ho1] at q; cases q; cases hd1)
    exact rp_but rp (fun b hb => hs'.2 b hb) nI
  done := fun s Q E st hQ => by
    obtain ⟨n, hax⟩ := st.2
    exact wpAny_pyNext_tuple_end hh st.1 ⟨_, hax, rfl, n, rfl⟩ (by simp [hl]) fun h' he' => hQ h' s.toks fun b o hb e => he' b o (fun h => hb (by simp [h])) e
  self := fun _ _ _ _ st hQ => wpAny_pyIter_tupleiter st.1 hQ

noncomputable def rangeD (a : Int) (n : Nat) : List D := (List.range n).map fun (i : Nat) => D.int (a + (i : Int))

theorem Wk.range {A : Around} {target : Expr} {t : Tg} (hh : A.handled = none) (ht : tgOf target = some t) (I : Addr) (a : Int) (n : Nat) :
    Wk G A target I [I] [I] [] [] (rangeD a n) (fun i h => IsRangeIter h I (a + (i : Nat) * 1) ((n : Int) - (i : Nat)) 1) where
  sub := fun _ hb => hb
  frame := fun _ _ _ st hk => hk I (by simp) _ st
  kind := fun i h st b hb us j => by
    simp at hb; subst hb
    exact fields_not_seq st rfl us j
  exist := fun i h st b hb => by simp at hb; subst hb; exact ⟨_, st⟩
  item := fun i s d N Q R E hi st rv lo hR hQ => by
    have hlt : i < n := by
      have := (List.getElem?_eq_some_iff.mp hi).1
      simpa [rangeD] using this
    have hd : d = .int (a + (i : Int)) := by
      simp [rangeD, hlt] at hi; exact hi.symm
    subst hd
    refine wpAny_pyNext_range_item st (by omega) fun h' hit' hs' => ?_
    refine hR _ _ ?_
    have keep : ∀ b o, b ∉ [I] → s.heap.get? b = some o → h'.get? b = some o := fun b o hb e => hs'.extBut b o (fun q => hb (by simp [q])) e
    have e1 : a + ((i + 1 : Nat) : Int) * 1 = a + (i : Int) * 1 + 1 := by push_cast; omega
    have e2 : (n : Int) - ((i + 1 : Nat) : Int) = (n : Int) - (i : Int) - 1 := by push_cast; omega
    refine letGo_list ht hit' rfl rfl (by decide) (hQ _ h' _ (by rw [e1, e2]; exact hit') keep ?_)
    rw [Int.mul_one]; exact .int _ _
  done := fun s Q E st hQ => by
    have : (rangeD a n).length = n := by simp [rangeD]
    rw [this] at st
    exact wpAny_pyNext_range_end hh st (by omega) fun h' he' => hQ h' s.toks fun b o hb e => he' b o (fun h => hb (by simp [h])) e
  self := fun _ _ _ _ st hQ => wpAny_pyIter_rangeiter st hQ

/-- a list, walked over -/
noncomputable def listOf? (fz : Bool) : D → Option (List D)
  | .list l => some l
  | .own l => if fz then none else some l
  | _ => none

theorem SI.list {fz : Bool} {target e : Expr} {t : Tg} {m : Loc → Option D} (ht : tgOf target = some t) (h : SE G k sc e m) : SI G k sc fz target e (fun ρ => (m ρ).bind fun d => (listOf? fz d).bind fun l => if l.length ≤ 16777216 then some l else none) := by
  intro A env N α s ρ ds hA hE hb hi hρ
  obtain ⟨d, ed, hρ⟩ := Option.bind_eq_some_iff.mp hρ
  obtain ⟨l, el, hρ⟩ := Option.bind_eq_some_iff.mp hρ
  split at hρ
  · cases hρ
    rename_i hz
    refine wpAny_mono (h A env N α s ρ d hA hE hb hi ed) (fun v s₁ h₁ => ?_) fun _ _ x => x
    obtain ⟨k₁, rt⟩ := h₁
    have it : d.items? = some ds := by cases d <;> simp [listOf?] at el <;> simp [D.items?, el]
    obtain ⟨a, vs, n, rfl, ha, rs⟩ := rt.items it
    refine wpAny_pyIter_list ⟨_, ha, rfl, n, rfl⟩ ?_
    have hne : a ≠ s₁.heap.objs.size := Nat.ne_of_lt (Heap.lt_size ha)
    have kp : ∀ b o, s₁.heap.get? b = some o → (s₁.heap.push { cls := .type "list_iterator", data := .fields #[.ref a, .int 0 0] }).get? b = some o := fun b o e => Heap.get?_push_of_some _ e
    refine ⟨k₁.trans (Kp.push s₁ _), by rw [sizeLine_eq]; exact hz, _, _, _, _, _, _, rfl, Wk.list hA.1 ht s₁.heap.objs.size a hne vs ds rs.length, ⟨⟨_, Heap.get?_push_size _ rfl, rfl, rfl⟩, n, kp _ _ ha⟩, rs.keep kp, fun b hb => ?_, fun b hb => ?_, fun b hb => ?_⟩
    · simp at hb; subst hb; exact k₁.gone (get_size _)
    · simp at hb
      rcases hb with rfl | rfl
      · exact ⟨_, Heap.get?_push_size _ rfl⟩
      · exact ⟨_, kp _ _ ha⟩
    · simp at hb
      rcases hb with rfl | rfl
      · exact .inl (k₁.gone (get_size _))
      · cases hs : s.heap.get? b with
        | none => exact .inl rfl
        | some o =>
          have := k₁.heap _ _ hs
          rw [ha] at this
          cases this
          refine .inr (.inl ⟨vs, n, rfl, fun q => ?_⟩)
          cases rt with
          | clean r => cases r with
            | list _ hn _ => exact hn
            | tup _ _ => simp [listOf?] at el
          | own _ _ => simp [listOf?, q] at el
  · cases hρ

/-- a tuple, walked over -/
theorem SI.tup {fz : Bool} {target e : Expr} {t : Tg} {m : Loc → Option D} (ht : tgOf target = some t) (h : SE G k sc e m) : SI G k sc fz target e (fun ρ => (m ρ).bind fun d => match d with | .tup l => if l.length ≤ 16777216 then some l else none | _ => none) := by
  intro A env N α s ρ ds hA hE hb hi hρ
  obtain ⟨d, ed, hρ⟩ := Option.bind_eq_some_iff.mp hρ
  split at hρ
  · split at hρ
    · cases hρ
      rename_i hz
      refine wpAny_mono (h A env N α s ρ _ hA hE hb hi ed) (fun v s₁ h₁ => ?_) fun _ _ x => x
      obtain ⟨k₁, rt⟩ := h₁
      cases rt with
      | clean r =>
        cases r with
        | tup ha rs =>
          rename_i a vs n
          refine wpAny_pyIter_tuple ⟨_, ha, rfl, n, rfl⟩ ?_
          have hne : a ≠ s₁.heap.objs.size := Nat.ne_of_lt (Heap.lt_size ha)
          have kp : ∀ b o, s₁.heap.get? b = some o → (s₁.heap.push { cls := .type "tuple_iterator", data := .fields #[.ref a, .int 0 0] }).get? b = some o := fun b o e => Heap.get?_push_of_some _ e
          refine ⟨k₁.trans (Kp.push s₁ _), by rw [sizeLine_eq]; exact hz, _, _, _, _, _, _, rfl, Wk.tuple hA.1 ht s₁.heap.objs.size a hne vs _ rs.length, ⟨⟨_, Heap.get?_push_size _ rfl, rfl, rfl⟩, n, kp _ _ ha⟩, rs.keep kp, fun b hb => ?_, fun b hb => ?_, fun b hb => ?_⟩
          · simp at hb; subst hb; exact k₁.gone (get_size _)
          · simp at hb
            rcases hb with rfl | rfl
            · exact ⟨_, Heap.get?_push_size _ rfl⟩
            · exact ⟨_, kp _ _ ha⟩
          · simp at hb
            rcases hb with rfl | rfl
            · exact .inl (k₁.gone (get_size _))
            · cases hs : s.heap.get? b with
              | none => exact .inl rfl
              | some o =>
                have := k₁.heap _ _ hs
                rw [ha] at this
                cases this
                exact .inr (.inr ⟨vs, n, rfl⟩)
    · cases hρ
  · cases hρ

end

end Mine
end
section
set_option maxRecDepth 20000
set_option linter.unusedVariables false
namespace Mine
open PySem PyProof.Rows

theorem lookup_all {cs cl : List (Str × Addr)} {x : Str} (h : ∀ p ∈ cl, cs.lookup p.1 = some p.2) (hx : ∃ c, (x, c) ∈ cl) : cl.lookup x = cs.lookup x := by
  induction cl with
  | nil => obtain ⟨c, hc⟩ := hx; cases hc
  | cons p r ih =>
    obtain ⟨y, c⟩ := p
    rw [List.lookup_cons]
    by_cases q : x = y
    · subst q; simp only [beq_self_eq_true]; exact (h (x, c) (.head _)).symm
    · have : (x == y) = false := beq_eq_false_iff_ne.mpr q
      rw [this]
      refine ih (fun p hp => h p (.tail _ hp)) ?_
      obtain ⟨c', hc'⟩ := hx
      rcases List.mem_cons.mp hc' with e | e
      · cases e; exact absurd rfl q
      · exact ⟨c', e⟩

theorem closure_go {env : Env} (f : Str × NameKind → List (Str × Addr) → Sem (ForInStep (List (Str × Addr))))
    (hf : ∀ name kind cs, f (name, kind) cs = if kind == .free then (do let a ← cellOf env name; pure (.yield ((name, a) :: cs))) else pure (.yield cs)) :
    ∀ (names : List (Str × NameKind)) (acc : List (Str × Addr)), (∀ p ∈ names, p.2 = .free → (env.cells.lookup p.1).isSome = true) → (∀ p ∈ acc, env.cells.lookup p.1 = some p.2) →
      ∃ cl, forIn names acc f = pure cl ∧ (∀ p ∈ cl, env.cells.lookup p.1 = some p.2) ∧ (∀ p ∈ names, p.2 = .free → ∃ c, (p.1, c) ∈ cl) ∧ ∀ p ∈ acc, p ∈ cl
  | [], acc, _, ha => ⟨acc, by rw [List.forIn_nil], ha, fun _ h => (nomatch h), fun _ h => h⟩
  | (name, kind) :: r, acc, hc, ha => by
    by_cases hk : kind = .free
    · subst hk
      obtain ⟨c, hcl⟩ := Option.isSome_iff_exists.mp (hc (name, .free) (.head _) rfl)
      obtain ⟨cl, e, h1, h2, h3⟩ := closure_go f hf r ((name, c) :: acc) (fun p hp => hc p (.tail _ hp)) (fun p hp => by
        rcases List.mem_cons.mp hp with q | q
        · rw [q]; exact hcl
        · exact ha p q)
      refine ⟨cl, ?_, h1, fun p hp q => ?_, fun p hp => h3 p (.tail _ hp)⟩
      · rw [List.forIn_cons, hf]
        simp only [beq_self_eq_true, if_true]
        have : cellOf env name = pure c := by unfold cellOf; rw [hcl]
        rw [this]
        exact e
      · rcases List.mem_cons.mp hp with q' | q'
        · subst q'; exact ⟨c, h3 _ (.head _)⟩
        · exact h2 p q' q
    · obtain ⟨cl, e, h1, h2, h3⟩ := closure_go f hf r acc (fun p hp => hc p (.tail _ hp)) ha
      refine ⟨cl, ?_, h1, fun p hp q => ?_, h3⟩
      · rw [List.forIn_cons, hf]
        have : (kind == NameKind.free) = false := by simpa using hk
        simp only [this, Bool.false_eq_true, if_false]
        exact e
      · rcases List.mem_cons.mp hp with q' | q'
        · subst q'; exact absurd q hk
        · exact h2 p q' q

theorem closure_ok {scope : Scope} {env : Env} (h : ∀ p ∈ scope.names, p.2 = .free → (env.cells.lookup p.1).isSome = true) :
    ∃ cl, closureFor scope env = pure cl ∧ ∀ x, scope.names.lookup x = some .free → cl.lookup x = env.cells.lookup x := by
  obtain ⟨cl, e, h1, h2, _⟩ := closure_go (env := env) (fun x cs => if x.2 == .free then (do let a ← cellOf env x.1; pure (.yield ((x.1, a) :: cs))) else pure (.yield cs)) (fun _ _ _ => rfl) scope.names [] h (fun _ h => (nomatch h))
  refine ⟨cl, ?_, fun x hx => lookup_all h1 (h2 (x, .free) (mem_of_lookup hx) rfl)⟩
  unfold closureFor
  have : (forIn scope.names [] fun (x : Str × NameKind) (cs : List (Str × Addr)) => (match x with | (name, kind) => if (kind == NameKind.free) = true then (do let a ← cellOf env name; pure (ForInStep.yield ((name, a) :: cs))) else pure (ForInStep.yield cs) : Sem (ForInStep (List (Str × Addr))))) = pure cl := e
  first
    | (rw [this]; rfl)
    | (simp only [this]; rfl)
    | exact (by simpa using congrArg (fun t => t >>= fun cs => (pure cs : Sem (List (Str × Addr)))) this)

noncomputable def relSc (scope sc : Scope) : Scope :=
  { scope with names := scope.names.map fun (n, k) => if (k == .free && sc.kind == .function && sc.names.lookup n == some .cell) then (n, .cell) else (n, k) }
theorem relabel_eq {scope sc : Scope} {env : Env} (hE : EOk sc env) : relabel scope env = relSc scope sc := by
  unfold relabel relSc
  simp only [hE.scope, hE.kindOf]
theorem relSc_lookup {sc : Scope} {x : Str} : ∀ (names : List (Str × NameKind)), (names.map fun (n, k) => if (k == NameKind.free && sc.kind == .function && sc.names.lookup n == some .cell) then (n, NameKind.cell) else (n, k)).lookup x =
    (names.lookup x).map fun k => if (k == NameKind.free && sc.kind == .function && sc.names.lookup x == some .cell) then NameKind.cell else k
  | [] => rfl
  | (n, k) :: r => by
    have ih := relSc_lookup (sc := sc) (x := x) r
    rw [List.map_cons, List.lookup_cons]
    by_cases q : x = n
    · subst q
      by_cases hc : (k == NameKind.free && sc.kind == .function && sc.names.lookup x == some .cell) = true
      · simp only [hc, if_true, List.lookup_cons, beq_self_eq_true, Option.map_some]
      · simp only [hc, Bool.false_eq_true, if_false, List.lookup_cons, beq_self_eq_true, Option.map_some]
    · have : (x == n) = false := beq_eq_false_iff_ne.mpr q
      by_cases hc : (k == NameKind.free && sc.kind == .function && sc.names.lookup n == some .cell) = true
      · simp only [hc, if_true, List.lookup_cons, this]; exact ih
      · simp only [hc, Bool.false_eq_true, if_false, List.lookup_cons, this]; exact ih

/-- what is looked at once in the scope of a comprehension -/
structure CompSc (sc scope : Scope) (t : Tg) : Prop where
  kind : scope.kind = .function
  cell : ∀ p ∈ scope.names, p.2 ≠ .cell
  names : ∀ p ∈ scope.names, p.2 = .local → scope.names.lookup p.1 = some .local
  free : ∀ p ∈ scope.names, p.2 = .free → sc.names.lookup p.1 = some .cell ∨ sc.names.lookup p.1 = some .free
  tg : ∀ x ∈ t.names, scope.names.lookup x = some .local
  all : ∀ x, scope.names.lookup x = some .local → x ∈ t.names ∨ x = dot0

noncomputable def compScB (sc scope : Scope) (t : Tg) : Bool :=
  scope.kind == .function && scope.names.all (fun p => p.2 != .cell && (p.2 != .local || (scope.names.lookup p.1 == some .local && (t.names.contains p.1 || p.1 == dot0))) && (p.2 != .free || sc.names.lookup p.1 == some .cell || sc.names.lookup p.1 == some .free)) && t.names.all (fun x => scope.names.lookup x == some .local)
theorem compSc_of {sc scope : Scope} {t : Tg} (h : compScB sc scope t = true) : CompSc sc scope t := by
  simp only [compScB, Bool.and_eq_true, beq_iff_eq, List.all_eq_true, bne_iff_ne, ne_eq, Bool.or_eq_true, List.contains_iff_mem] at h
  obtain ⟨⟨h1, h2⟩, h3⟩ := h
  refine ⟨h1, fun p hp => (h2 p hp).1.1, fun p hp q => ?_, fun p hp q => ?_, h3, fun x hx => ?_⟩
  · rcases (h2 p hp).1.2 with r | r
    · exact absurd q r
    · exact r.1
  · rcases (h2 p hp).2 with (r | r) | r
    · exact absurd q r
    · exact .inl r
    · exact .inr r
  · rcases (h2 _ (mem_of_lookup hx)).1.2 with r | r
    · exact absurd rfl r
    · exact r.2

theorem In.comp {sc scope : Scope} {t : Tg} {env : Env} {N : Addr → Prop} {α : Str → Option Addr} {h : Heap} {ρ ρ' : Loc} {cl : List (Str × Addr)} {C : Addr} {m : Str → Option Value} (hE : EOk sc env) (hS : CompSc sc scope t) (i : In env N α h ρ) (hcl : ∀ x, scope.names.lookup x = some .free → cl.lookup x = env.cells.lookup x)
    (hn : h.Ns C m) (hv : ∀ x d, ρ' x = some d → scope.names.lookup x = some .local → x ≠ dot0 → ∃ v, m x = some v ∧ Rp h (Nu N α) v d) (ho : ∀ x, scope.names.lookup x ≠ some .local → ρ' x = ρ x) : In (compEnvC scope cl C env) N α h ρ' := by
  have hk : ∀ x, (compEnvC scope cl C env).kindOf x = (scope.names.lookup x).map fun k => if (k == NameKind.free && sc.kind == .function && sc.names.lookup x == some .cell) then NameKind.cell else k := fun x => by
    show (relabel scope env).names.lookup x = _
    rw [relabel_eq hE]; exact relSc_lookup _
  have hfree : ∀ x, isVar ((compEnvC scope cl C env).kindOf x) = true → scope.names.lookup x = some .local ∨ scope.names.lookup x = some .free := fun x hx => by
    rw [hk] at hx
    cases e : scope.names.lookup x with
    | none => rw [e] at hx; cases hx
    | some kd =>
      rw [e] at hx
      cases kd with
      | «local» => exact .inl rfl
      | free => exact .inr rfl
      | cell => exact absurd rfl (hS.cell _ (mem_of_lookup e))
      | _ => cases hx
  have hf2 : ∀ x, scope.names.lookup x = some .free → env.kindOf x = some .cell ∨ env.kindOf x = some .free := fun x hx => by rw [hE.kindOf]; exact hS.free _ (mem_of_lookup hx) rfl
  obtain ⟨mo, hmo, hvo⟩ := i.ns
  refine ⟨i.low, fun x hx => ?_, m, hn, fun x d e hx hz => ?_⟩
  · have hx' : isVar ((compEnvC scope cl C env).kindOf x) = true := by rcases hx with q | q <;> (rw [q]; rfl)
    rcases hfree x hx' with q | q
    · rw [hk, q] at hx
      rcases hx with hx | hx <;> simp at hx
    · show (cl.lookup x).isSome = true
      rw [hcl x q]; exact i.cells x (hf2 x q)
  · rcases hfree x hx with q | q
    · obtain ⟨v, h1, h2⟩ := hv x d e q hz
      refine ⟨v, ?_, .clean h2⟩
      unfold VarIs
      rw [hk, q]
      exact h1
    · have e' : ρ x = some d := by rw [← ho x (by rw [q]; decide)]; exact e
      obtain ⟨v, h1, h2⟩ := hvo x d e' (by rcases hf2 x q with r | r <;> (rw [r]; rfl)) hz
      refine ⟨v, ?_, h2⟩
      have h1' : ∃ c, env.cells.lookup x = some c ∧ h.IsCell c (some v) := by
        unfold VarIs at h1
        rcases hf2 x q with r | r <;> (rw [r] at h1; exact h1)
      obtain ⟨c, hc, hcv⟩ := h1'
      have hc' : (compEnvC scope cl C env).cells.lookup x = some c := by show cl.lookup x = some c; rw [hcl x q]; exact hc
      unfold VarIs
      rw [hk, q]
      simp only [Option.map_some]
      by_cases hcc : (NameKind.free == NameKind.free && sc.kind == .function && sc.names.lookup x == some .cell) = true
      · rw [if_pos hcc]; exact ⟨c, hc', hcv⟩
      · rw [if_neg hcc]; exact ⟨c, hc', hcv⟩

theorem upds_agree : ∀ {xs : List Str} {ds : List D} {ρ ρ₀ : Loc}, (∀ x, x ∉ xs → ρ x = ρ₀ x) → xs.length = ds.length → upds ρ xs ds = upds ρ₀ xs ds
  | [], [], ρ, ρ₀, h, _ => funext fun x => h x (by simp)
  | [], _ :: _, _, _, _, hl => by simp at hl
  | _ :: _, [], _, _, _, hl => by simp at hl
  | x :: xs, d :: ds, ρ, ρ₀, h, hl => by
    simp only [upds]
    refine upds_agree (fun y hy => ?_) (by simpa using hl)
    unfold upd
    by_cases q : y = x
    · simp [q]
    · simp only [if_neg q]; exact h y (by simp [q, hy])
theorem bindT_agree {t : Tg} {d : D} {ρ ρ₀ ρ' : Loc} (h : ∀ x, x ∉ t.names → ρ x = ρ₀ x) (e : bindT t d ρ = some ρ') : bindT t d ρ₀ = some ρ' := by
  cases t with
  | one x =>
    simp only [bindT] at e ⊢
    cases e
    congr 1
    funext y
    unfold upd
    by_cases q : y = x
    · simp [q]
    · simp only [if_neg q]; exact (h y (by simp [Tg.names, q])).symm
  | many xs =>
    cases d with
    | tup ds =>
      simp only [bindT] at e ⊢
      split at e
      · rename_i hl
        cases e
        rw [if_pos hl]; exact congrArg some (upds_agree (xs := xs) (fun x hx => (h x hx).symm) hl)
      · cases e
    | _ => simp [bindT] at e

theorem In.grow {env : Env} {N : Addr → Prop} {α : Str → Option Addr} {h h' : Heap} {ρ : Loc} {a : Addr} (i : In env N α h ρ) (hn : h.get? a = none) (k : ∀ b o, h.get? b = some o → h'.get? b = some o) (he : ∃ o, h'.get? a = some o) : In env (Nu1 N a) α h' ρ := by
  obtain ⟨m, hm, hv⟩ := i.ns
  have kl : ∀ b vs n, h.get? b = some (lstO vs n) → ¬ Nu N α b → h'.get? b = some (lstO vs n) ∧ ¬ Nu (Nu1 N a) α b := fun b vs n e hb => ⟨k b _ e, fun q => by
    rcases q with (q | q) | q
    · exact hb (.inl q)
    · rw [q, hn] at e; cases e
    · exact hb (.inr q)⟩
  refine ⟨fun b hb => ?_, i.cells, m, hm.keeps k, fun x d e hx hz => ?_⟩
  · rcases hb with (q | q) | q
    · obtain ⟨o, ho⟩ := i.low b (.inl q); exact ⟨o, k b o ho⟩
    · rw [q]; exact he
    · obtain ⟨o, ho⟩ := i.low b (.inr q); exact ⟨o, k b o ho⟩
  · obtain ⟨v, h1, h2⟩ := hv x d e hx hz
    refine ⟨v, h1.keep k, ?_⟩
    cases h2 with
    | clean r => exact .clean (r.change (fun b _ _ e => k b _ e) kl)
    | own e' hl r => exact .own e' (k _ _ hl) (r.change (fun b _ _ e => k b _ e) kl)

noncomputable def compM (t : Tg) (mc : Loc → Option Bool) (me : Loc → Option D) : List D → Loc → Option (List D)
  | [], _ => some []
  | d :: ds, ρ => (bindT t d ρ).bind fun ρ₁ => (mc ρ₁).bind fun b =>
      if b then (me ρ₁).bind fun y => if y.clean then (compM t mc me ds ρ).map (y :: ·) else none else compM t mc me ds ρ

section
variable {G : Gnd} {k : Nat} {sc : Scope}

theorem compLoop_any {A : Around} {elt target iter : Expr} {ifs : List Expr} {scope : Scope} {pos : Pos} {it acc : Value} {env : Env} {R : Result → Shared → Prop} {s : Shared} (I : Nat → Shared → Prop)
    (turn : ∀ n s, I n s → wpAny (model G.prog G.w) A (pyNext it) (fun r s₁ => match r with
      | none => R (.ok .next) s₁
      | some v => wpAny (model G.prog G.w) A (letOwnedTupleGo target it v) (fun _ s₁' => wpAny (model G.prog G.w) A (assign target env v) (fun _ s₂ =>
          wpAny (model G.prog G.w) A (forIn ifs true fun c r => if r = true then do let ok ← isTrue c env (eval c env); pure (ForInStep.yield ok) else pure (ForInStep.yield r)) (fun ok s₃ =>
            if ok = true then wpAny (model G.prog G.w) A (eval elt env) (fun x s₄ =>
              wpAny (model G.prog G.w) A (call (.builtin "list.append") [acc, x]) (fun _ s₅ => ∃ m, m < n ∧ I m s₅) NoX s₄) NoX s₃
            else ∃ m, m < n ∧ I m s₃) NoX s₂) NoX s₁') NoX s₁) NoX s)
    (n : Nat) (h : I n s) : codeAny (model G.prog G.w) A (.compLoop (.ListComp elt [⟨target, iter, ifs, 0⟩] scope pos) 0 it acc env) R s := by
  refine codeAny_loop rfl I (fun n s hI => ?_) n h
  show wpAny _ A ((compTurn (.ListComp elt [⟨target, iter, ifs, 0⟩] scope pos) 0 it acc env).onRaise (fun x => do noteFrame x env; theTreesLotGoes x)) _ _ s
  refine wpAny_noted ?_
  rw [compTurn_list]
  refine wpAny_bind (wpAny_standAt (wpAny_bind (wpAny_mono (turn n s hI) (fun r s₁ h₁ => ?_) fun _ _ h' => h'.elim)))
  cases r with
  | none => exact wpAny_pure h₁
  | some v =>
    refine wpAny_bind (wpAny_mono h₁ (fun _ s₁' h₁' => ?_) fun _ _ h' => h'.elim)
    refine wpAny_bind (wpAny_mono h₁' (fun _ s₂ h₂ => wpAny_bind (wpAny_mono h₂ (fun ok s₃ h₃ => ?_) fun _ _ h' => h'.elim)) fun _ _ h' => h'.elim)
    cases ok with
    | false => exact wpAny_pure ⟨rfl, h₃⟩
    | true =>
      exact wpAny_bind (wpAny_bind (wpAny_mono h₃ (fun x s₄ h₄ => wpAny_bind (wpAny_mono h₄ (fun _ s₅ h₅ => wpAny_pure (wpAny_pure ⟨rfl, h₅⟩)) fun _ _ h' => h'.elim)) fun _ _ h' => h'.elim))

theorem comp_storer {A : Around} {E : Value → Shared → Prop} {env : Env} {scope : Scope} {t : Tg} {cl : List (Str × Addr)} {C : Addr} {ρ : Loc} {N' : Addr → Prop} (hE : EOk sc env) (hS : CompSc sc scope t) (sx : Shared) :
    Storer G.prog G.w A E (compEnvC scope cl C env) (fun x => scope.names.lookup x = some .local) (fun (m : Str → Option Value) ρ' s => s.heap.Ns C m ∧ (∀ x d, ρ' x = some d → scope.names.lookup x = some .local → x ≠ dot0 → ∃ v, m x = some v ∧ Rp s.heap N' v d) ∧
      (∀ x, scope.names.lookup x ≠ some .local → ρ' x = ρ x) ∧ ∃ h tk, s = { sx with heap := h, toks := tk } ∧ ∀ b o, b ≠ C → sx.heap.get? b = some o → h.get? b = some o) (fun _ s v d => Rp s.heap N' v d) where
  store := fun m x v d ρ' s Q hx hs hv hQ => by
    obtain ⟨hn, h1, h2, h, tk, rfl, hk⟩ := hs
    refine wpAny_storeName_local (lookup_relabel_local hx) hn (fun h' hn' hs' => ?_) (by simp [compEnvC, relabel, hS.kind])
    have hL := ns_not_seq hn
    have up : ∀ v d, Rp h N' v d → Rp h' N' v d := fun v d r => rp_but r hs'.2 hL
    refine hQ _ _ ⟨hn', fun y e hy hl hz => ?_, fun y hy => ?_, h', _, rfl, fun b o hb e => (hs'.2 b hb).trans (hk b o hb e)⟩ up
    · unfold upd at hy
      by_cases q : y = x
      · subst q; rw [if_pos rfl] at hy; cases hy; exact ⟨v, by simp, up _ _ hv⟩
      · rw [if_neg q] at hy
        obtain ⟨w, e1, e2⟩ := h1 y e hy hl hz
        exact ⟨w, by simp only [if_neg q]; exact e1, up _ _ e2⟩
    · unfold upd
      have : y ≠ x := fun q => hy (q ▸ hx)
      rw [if_neg this]; exact h2 y hy
  keep := fun m ρ' s s' hs k => by
    obtain ⟨hn, h1, h2, h, tk, rfl, hk⟩ := hs
    have hh := k.heap
    obtain ⟨h', tk', rfl, _⟩ := k
    exact ⟨⟨hn.keeps hh, fun x d e hl hz => let ⟨v, e1, e2⟩ := h1 x d e hl hz; ⟨v, e1, e2.keep hh⟩, h2, h', tk', rfl, fun b o hb e => hh b o (hk b o hb e)⟩, fun v d r => r.keep hh⟩

/-- the tests of a comprehension: none, or one -/
noncomputable def IfsOk (G : Gnd) (k : Nat) (sc : Scope) (ifs : List Expr) (mc : Loc → Option Bool) : Prop := (ifs = [] ∧ mc = fun _ => some true) ∨ ∃ c, ifs = [c] ∧ ST G k sc c mc
theorem IfsOk.nil : IfsOk G k sc [] (fun _ => some true) := .inl ⟨rfl, rfl⟩
theorem IfsOk.one {c : Expr} {mc : Loc → Option Bool} (h : ST G k sc c mc) : IfsOk G k sc [c] mc := .inr ⟨c, rfl, h⟩

theorem compCore {fz : Bool} {elt target iter : Expr} {ifs : List Expr} {scope : Scope} {pos p : Pos} {t : Tg} {mi : Loc → Option (List D)} {mc : Loc → Option Bool} {me : Loc → Option D} (ht : tgOf target = some t) (hS : CompSc sc scope t) (hfs : ∀ env x, foldedSetIterable iter env x = pure x)
    (hi : SI G k sc fz target iter mi) (hc : IfsOk G k (relSc scope sc) ifs mc) (he : SE G k (relSc scope sc) elt me) {A : Around} {env : Env} {N : Addr → Prop} {α : Str → Option Addr} {s : Shared} {ρ : Loc} {ds ys : List D} {use : Option (Value → Sem Unit)} {Q : Value → Shared → Prop}
    (hA : AOk A k) (hE : EOk sc env) (hb : Hk G.base s.heap) (hin : In env N α s.heap ρ) (eds : mi ρ = some ds) (eys : compM t mc me ds ρ = some ys)
    (fin : ∀ D C s' us n m, Kp s s' → s.heap.get? D = none → s.heap.get? C = none → D ≠ C → s'.heap.get? D = some (lstO us n) → Rps s'.heap (Nu1 (Nu N α) D) us ys → s'.heap.Ns C m → compPost (model G.prog G.w) A NoX use Q (.ref D) C (.ok .next) s') :
    wpAny (model G.prog G.w) A (comprehension (.ListComp elt [⟨target, iter, ifs, 0⟩] scope pos) scope env p (newList []) false (eval iter env) use) Q NoX s := by
  obtain ⟨cl, hcl, hclx⟩ := closure_ok (scope := scope) (env := env) fun q hq hf => hin.cells q.1 (by rw [hE.kindOf]; exact hS.free q hq hf)
  refine wpAny_comprehension_free (g := ⟨target, iter, ifs, 0⟩) (gs := []) rfl (hfs env) hcl hS.kind hS.names ?_
  refine wpAny_mono (hi A env N α s ρ ds hA hE hb hin eds) (fun x s₁ h₁ => wpAny_mono h₁ (fun it s₂ h₂ => ?_) fun _ _ x => x) fun _ _ x => x
  obtain ⟨k₂, hz, I, fp, wr, vs, ds₀, St, rfl, W, st0, rv, hwr, hfpo, hfp⟩ := h₂
  refine wpAny_newObj_type (wpAny_newFunctionEnv hS.cell (by intro y hy; simp at hy) (fun h₁ hns₁ hsb₁ => ?_) hS.kind)
  dsimp only at hns₁ hsb₁ ⊢
  generalize hH2 : s₂.heap.push { cls := .type "list", dict := none, data := .seq ([] : List Value).toArray } = H2 at hns₁ hsb₁ ⊢
  have hC : H2.objs.size = s₂.heap.objs.size + 1 := by rw [← hH2, Heap.size_push]
  have hDC : s₂.heap.objs.size ≠ H2.objs.size := by rw [hC]; exact Nat.ne_of_lt (Nat.lt_succ_self _)
  have below : ∀ b, b < s₂.heap.objs.size → b ≠ H2.objs.size ∧ b ≠ s₂.heap.objs.size := fun b hb => ⟨by rw [hC]; exact Nat.ne_of_lt (Nat.lt_succ_of_lt hb), Nat.ne_of_lt hb⟩
  have old : ∀ b o, s₂.heap.get? b = some o → h₁.get? b = some o := fun b o e => hsb₁.extBut b o (below b (Heap.lt_size e)).1 (Heap.get?_push_of_some _ (hH2 ▸ Heap.get?_push_of_some _ e))
  have hacc : h₁.get? s₂.heap.objs.size = some (lstO [] 0) := hsb₁.extBut _ _ hDC (Heap.get?_push_of_some _ (hH2 ▸ Heap.get?_push_size _ rfl))
  have gC : s₂.heap.get? H2.objs.size = none := by
    cases e : s₂.heap.get? H2.objs.size with
    | none => rfl
    | some o => exact absurd (Nat.lt_trans (hC ▸ Nat.lt_succ_self _) (Heap.lt_size e)) (Nat.lt_irrefl _)
  have gD := get_size s₂.heap
  generalize hDd : s₂.heap.objs.size = Dd at *
  generalize hCc : H2.objs.size = Cc at *
  have hfD : Dd ∉ fp := fun q => by obtain ⟨o, ho⟩ := hfpo _ q; rw [gD] at ho; cases ho
  have hfC : Cc ∉ fp := fun q => by obtain ⟨o, ho⟩ := hfpo _ q; rw [gC] at ho; cases ho
  have loop : ∀ s₃ : Shared, s₃ = { s₂ with heap := h₁, toks := s₂.toks + ([] : List (Str × Value)).length } →
      codeAny (model G.prog G.w) A (.compLoop (.ListComp elt [⟨target, iter, ifs, 0⟩] scope pos) 0 (.ref I) (.ref Dd) (compEnvC scope cl Cc env)) (compPost (model G.prog G.w) A NoX use Q (.ref Dd) Cc) s₃ := by
    rintro s₃ rfl
    refine compLoop_any (fun n s' => ∃ i h' tk us j m' done rest, s' = { s₂ with heap := h', toks := tk } ∧ i ≤ ds.length ∧ n = ds.length - i ∧ St i h' ∧ h'.Ns Cc m' ∧ h'.get? Dd = some (lstO us j) ∧ Rps h' (Nu (Nu1 N Dd) α) us done ∧ us.length ≤ i ∧
        (∀ b o, b ∉ wr → b ≠ Cc → b ≠ Dd → s₂.heap.get? b = some o → h'.get? b = some o) ∧ compM t mc me (ds.drop i) ρ = some rest ∧ ys = done ++ rest) (fun n s' hI => ?_) ds.length
        ⟨0, h₁, _, [], 0, _, [], ys, rfl, Nat.zero_le _, rfl, W.frame _ _ _ st0 fun b _ o e => old b o e, hns₁, hacc, .nil, Nat.le_refl _, fun b o _ _ _ e => old b o e, by simpa using eys, by simp⟩
    obtain ⟨i, h', tk, us, j, m', done, rest, rfl, hle, rfl, st, hn', hD', rD, hul, keep, hm, hys⟩ := hI
    have hwD : Dd ∉ wr := fun q => hfD (W.sub _ q)
    have hwC : Cc ∉ wr := fun q => hfC (W.sub _ q)
    -- the outer view, at h'
    have outer : ∀ h'', (∀ b o, b ∉ wr → b ≠ Cc → b ≠ Dd → h'.get? b = some o → h''.get? b = some o) → (∃ o, h''.get? Dd = some o) → In env (Nu1 N Dd) α h'' ρ := fun h'' kk hDe => by
      have hin2 := hin.keep (h' := s₂.heap) k₂.heap
      obtain ⟨m, hm, hv⟩ := hin.ns
      -- what stood at s is not in wr
      have kk' : ∀ b o, s.heap.get? b = some o → h''.get? b = some o := fun b o e =>
        have e2 := k₂.heap b o e
        have hb := below b (Heap.lt_size e2 |> fun q => by rw [← hDd]; exact q)
        kk b o (fun q => by rw [hwr b q] at e; cases e) hb.1 hb.2 (keep b o (fun q => by rw [hwr b q] at e; cases e) hb.1 hb.2 e2)
      exact hin.grow (k₂.gone gD) kk' hDe
    by_cases hlt : i < ds.length
    · have hdi : ds[i]? = some ds[i] := by simp [hlt]
      rw [List.drop_eq_getElem_cons hlt] at hm
      simp only [compM] at hm
      obtain ⟨ρ₁, e1, hm⟩ := Option.bind_eq_some_iff.mp hm
      obtain ⟨bb, e2, hm⟩ := Option.bind_eq_some_iff.mp hm
      have rv' : Rps h' (Nu (Nu1 N Dd) α) vs ds₀ := rv.change
        (fun b us j e => keep b _ (fun q => (W.kind 0 _ st0 b q us j).2 e) (below b (hDd ▸ Heap.lt_size e)).1 (below b (hDd ▸ Heap.lt_size e)).2 e)
        fun b us j e hnb => ⟨keep b _ (fun q => (W.kind 0 _ st0 b q us j).1 e) (below b (hDd ▸ Heap.lt_size e)).1 (below b (hDd ▸ Heap.lt_size e)).2 e, fun q => by
          rcases q with (q | q) | q
          · exact hnb (.inl q)
          · exact (below b (hDd ▸ Heap.lt_size e)).2 q
          · exact hnb (.inr q)⟩
      have lo' : Lo (Nu (Nu1 N Dd) α) h' := (outer h' (fun b o _ _ _ e => e) ⟨_, hD'⟩).low
      refine W.item i _ ds[i] (Nu (Nu1 N Dd) α) _ _ _ hdi st rv' lo' (fun v s₁ h => h) fun v h₂ tk₂ st₂ hk₂ rp => ?_
      -- the target
      have hS0 := comp_storer (G := G) (A := A) (E := NoX) (cl := cl) (C := Cc) (ρ := ρ) (N' := Nu (Nu1 N Dd) α) hE hS { s₂ with heap := h₂, toks := tk₂ }
      have hn₂ : h₂.Ns Cc m' := hn'.at' fun o e => hk₂ _ o hwC e
      have hD₂ : h₂.get? Dd = some (lstO us j) := hk₂ _ _ hwD hD'
      refine hS0.assign (ρ := fun x => if x ∈ t.names then none else ρ x) hA.1 ht hS.tg ⟨hn₂, fun x d e hl hz => ?_, fun x hx => ?_, h₂, tk₂, rfl, fun b o _ e => e⟩ rp (bindT_agree (fun x hx => ?_) e1) (fun ds e => rp.open e) fun m₃ s₃ hs₃ => ?_
      · rcases hS.all x hl with q | q
        · simp [q] at e
        · exact absurd q hz
      · have : x ∉ t.names := fun q => hx (hS.tg x q)
        simp [this]
      · simp [hx]
      obtain ⟨hn₃, hv₃, ho₃, h₃, tk₃, rfl, hk₃⟩ := hs₃
      have hD₃ : h₃.get? Dd = some (lstO us j) := hk₃ _ _ hDC hD₂
      have keep₃ : ∀ b o, b ∉ wr → b ≠ Cc → b ≠ Dd → h'.get? b = some o → h₃.get? b = some o := fun b o q1 q2 q3 e => hk₃ b o q2 (hk₂ b o q1 e)
      have st₃ : St (i + 1) h₃ := W.frame _ _ _ st₂ fun b hb o e => hk₃ b o (fun q => hfC (q ▸ hb)) e
      have rD₃ : Rps h₃ (Nu (Nu1 N Dd) α) us done := rD.change
        (fun b us' j' e => keep₃ b _ (fun q => (W.kind i _ st b q us' j').2 e) (fun q => (ns_not_seq hn' us' j').2 (q ▸ e)) (fun q => by rw [q, hD'] at e; exact lst_ne_tup e) e)
        fun b us' j' e hnb => ⟨keep₃ b _ (fun q => (W.kind i _ st b q us' j').1 e) (fun q => (ns_not_seq hn' us' j').1 (q ▸ e)) (fun q => hnb (.inl (.inr q))) e, hnb⟩
      have hin₃ : In (compEnvC scope cl Cc env) (Nu1 N Dd) α h₃ ρ₁ := (outer h₃ keep₃ ⟨_, hD₃⟩).comp hE hS hclx hn₃ hv₃ ho₃
      have hE' : EOk (relSc scope sc) (compEnvC scope cl Cc env) := ⟨relabel_eq hE, hS.kind, hE.globals, hE.builtins⟩
      have hb₃ : Hk G.base h₃ := fun b o e => by
        have e0 := hb b o e
        have e2 := k₂.heap b o e0
        have hbb := below b (hDd ▸ Heap.lt_size e2)
        have hw : b ∉ wr := fun q => by rw [hwr b q] at e0; cases e0
        exact keep₃ b o hw hbb.1 hbb.2 (keep b o hw hbb.1 hbb.2 e2)
      -- the tests
      have tests : wpAny (model G.prog G.w) A (forIn ifs true fun c r => if r = true then do let ok ← isTrue c (compEnvC scope cl Cc env) (eval c (compEnvC scope cl Cc env)); pure (ForInStep.yield ok) else pure (ForInStep.yield r))
          (fun ok s' => ok = bb ∧ Kp { s₂ with heap := h₃, toks := tk₃ } s') NoX { s₂ with heap := h₃, toks := tk₃ } := by
        rcases hc with ⟨rfl, rfl⟩ | ⟨c, rfl, hc⟩
        · cases e2; exact wpAny_tests_nil ⟨rfl, Kp.refl _⟩
        · exact wpAny_tests_one (hc A _ _ α _ ρ₁ bb hA hE' hb₃ hin₃ e2)
      refine wpAny_mono tests (fun ok s₄ h₄ => ?_) fun _ _ x => x
      obtain ⟨rfl, k₄⟩ := h₄
      have hk₄ := k₄.heap
      obtain ⟨h₄, tk₄, rfl, _⟩ := k₄
      have keep₄ : ∀ b o, b ∉ wr → b ≠ Cc → b ≠ Dd → s₂.heap.get? b = some o → h₄.get? b = some o := fun b o q1 q2 q3 e => hk₄ b o (keep₃ b o q1 q2 q3 (keep b o q1 q2 q3 e))
      cases ok with
      | false =>
        simp only [Bool.false_eq_true, if_false] at hm ⊢
        exact ⟨_, (by omega : ds.length - (i + 1) < ds.length - i), i + 1, h₄, tk₄, us, j, m₃, done, rest, rfl, hlt, rfl, W.frame _ _ _ st₃ fun b _ o e => hk₄ b o e, hn₃.keeps hk₄, hk₄ _ _ hD₃, rD₃.keep hk₄, Nat.le_succ_of_le hul, keep₄, hm, hys⟩
      | true =>
        simp only [if_true] at hm ⊢
        obtain ⟨y, e3, hm⟩ := Option.bind_eq_some_iff.mp hm
        split at hm
        · rename_i hcy
          obtain ⟨rest', e4, rfl⟩ := Option.map_eq_some_iff.mp hm
          refine wpAny_mono (he A _ _ α _ ρ₁ y hA hE' (fun b o e => hk₄ b o (hb₃ b o e)) (hin₃.keep hk₄) e3) (fun v₅ s₅ h₅ => ?_) fun _ _ x => x
          obtain ⟨k₅, rt₅⟩ := h₅
          have hk₅ := k₅.heap
          obtain ⟨h₅, tk₅, rfl, _⟩ := k₅
          refine wpAny_list_append_plain (items := us.toArray) ⟨j, hk₅ _ _ (hk₄ _ _ hD₃)⟩ (fun h₆ hl₆ hs₆ => ?_) (by simp; rw [sizeLine_eq] at hz ⊢; omega)
          obtain ⟨j₆, e₆⟩ := hl₆
          have e₆' : h₆.get? Dd = some (lstO (us ++ [v₅]) j₆) := by rw [e₆]; simp
          have up : ∀ {v d}, Rp h₅ (Nu (Nu1 N Dd) α) v d → Rp h₆ (Nu (Nu1 N Dd) α) v d := fun {v d} r => r.change
            (fun b us' j' e => (hs₆.2 b fun q => by rw [q, hk₅ _ _ (hk₄ _ _ hD₃)] at e; exact lst_ne_tup e).trans e) fun b us' j' e hnb => ⟨(hs₆.2 b fun q => hnb (.inl (.inr q))).trans e, hnb⟩
          have ups : ∀ {vs ds}, Rps h₅ (Nu (Nu1 N Dd) α) vs ds → Rps h₆ (Nu (Nu1 N Dd) α) vs ds := fun {vs ds} r => r.change
            (fun b us' j' e => (hs₆.2 b fun q => by rw [q, hk₅ _ _ (hk₄ _ _ hD₃)] at e; exact lst_ne_tup e).trans e) fun b us' j' e hnb => ⟨(hs₆.2 b fun q => hnb (.inl (.inr q))).trans e, hnb⟩
          refine ⟨_, (by omega : ds.length - (i + 1) < ds.length - i), i + 1, h₆, tk₅, us ++ [v₅], j₆, m₃, done ++ [y], rest', rfl, hlt, rfl, W.frame _ _ _ st₃ fun b hb' o e => (hs₆.2 b fun q => hfD (q ▸ hb')).trans (hk₅ b o (hk₄ b o e)), ((hn₃.keeps hk₄).keeps hk₅).sameBut hs₆ (Ne.symm hDC), e₆',
            (ups ((rD₃.keep hk₄).keep hk₅)).append (.one (up (rt₅.rp hcy))), by simp; omega, fun b o q1 q2 q3 e => (hs₆.2 b q3).trans (hk₅ b o (keep₄ b o q1 q2 q3 e)), e4, by rw [hys]; simp⟩
        · cases hm
    · have hi' : i = ds.length := by omega
      subst hi'
      rw [List.drop_length] at hm
      cases hm
      refine W.done _ _ _ st fun h₂ tk₂ hk₂ => ?_
      refine fin Dd Cc _ us j m' ?_ (k₂.gone gD) (k₂.gone gC) hDC (hk₂ _ _ hwD hD') ?_ (hn'.at' fun o e => hk₂ _ o hwC e)
      · have hk2 := k₂.heap
        obtain ⟨hh, tt, e, _⟩ := k₂
        refine ⟨h₂, tk₂, by rw [e], fun b o e => ?_⟩
        have e2 := hk2 b o e
        have hbb := below b (hDd ▸ Heap.lt_size e2)
        have hw : b ∉ wr := fun q => by rw [hwr b q] at e; cases e
        exact hk₂ b o hw (keep b o hw hbb.1 hbb.2 e2)
      · rw [hys, List.append_nil]
        refine rD.change (fun b us' j' e => hk₂ b _ (fun q => (W.kind _ _ st b q us' j').2 e) e) fun b us' j' e hnb => ⟨hk₂ b _ (fun q => (W.kind _ _ st b q us' j').1 e) e, fun q => ?_⟩
        rcases q with q | q
        · rcases q with q | q
          · exact hnb (.inl (.inl q))
          · exact hnb (.inr q)
        · exact hnb (.inl (.inr q))
  exact codeAny_compStart_list (loop _ rfl) (W.self 0 _ _ _ (W.frame _ _ _ st0 fun b _ o e => old b o e) (loop _ rfl))

end

end Mine
end
section
set_option maxRecDepth 20000
set_option linter.unusedVariables false
namespace Mine
open PySem PyProof.Rows

section
variable {G : Gnd} {k : Nat} {sc : Scope}

noncomputable def compL (t : Tg) (mi : Loc → Option (List D)) (mc : Loc → Option Bool) (me : Loc → Option D) : Loc → Option (List D) := fun ρ => (mi ρ).bind fun ds => compM t mc me ds ρ

theorem SF.comp {elt target iter : Expr} {ifs : List Expr} {scope : Scope} {pos : Pos} {t : Tg} {mi : Loc → Option (List D)} {mc : Loc → Option Bool} {me : Loc → Option D} (ht : tgOf target = some t) (hS : compScB sc scope t = true) (hfs : ∀ env x, foldedSetIterable iter env x = pure x)
    (hi : SI G k sc false target iter mi) (hc : IfsOk G k (relSc scope sc) ifs mc) (he : SE G k (relSc scope sc) elt me) : SF G k sc (.ListComp elt [⟨target, iter, ifs, 0⟩] scope pos) (compL t mi mc me) := by
  intro A env N α s ρ ys hA hE hb hin hρ
  obtain ⟨ds, eds, eys⟩ := Option.bind_eq_some_iff.mp hρ
  rw [eval_ListComp]
  refine compCore ht (compSc_of hS) hfs hi hc he hA hE hb hin eds eys fun D C s' us n m k' hD hC hDC hl r hn => ?_
  refine ⟨m, hn, fun h' hs' => ?_⟩
  have hCn := ns_not_seq hn
  have hk' := k'.heap
  obtain ⟨h₁, t₁, rfl, _⟩ := k'
  refine ⟨⟨h', t₁, rfl, fun b o e => (hs'.2 b fun q => by rw [q, hC] at e; cases e).trans (hk' b o e)⟩, D, us, n, rfl, hD, (hs'.2 D hDC).trans hl, ?_⟩
  exact r.change (fun b us' j e => (hs'.2 b fun q => (hCn us' j).2 (q ▸ e)).trans e) fun b us' j e hnb => ⟨(hs'.2 b fun q => (hCn us' j).1 (q ▸ e)).trans e, hnb⟩

theorem compAssign {elt target iter : Expr} {ifs : List Expr} {scope : Scope} {pos p spos : Pos} {x : Str} {t : Tg} {mi : Loc → Option (List D)} {mc : Loc → Option Bool} {me : Loc → Option D} (own : Bool) (hx : okStore sc x = true) (ht : tgOf target = some t) (hS : compScB sc scope t = true) (hfs : ∀ env x, foldedSetIterable iter env x = pure x)
    (hi : SI G k sc false target iter mi) (hc : IfsOk G k (relSc scope sc) ifs mc) (he : SE G k (relSc scope sc) elt me) :
    S1 G k sc (.Assign [.Name x p] (.ListComp elt [⟨target, iter, ifs, 0⟩] scope pos) spos) (fun ρ => (compL t mi mc me ρ).bind fun ys => some (.next (upd ρ x (if own then .own ys else .list ys)))) := by
  intro A env N α s₀ s ρ o hA hE hb ha hρ
  obtain ⟨ys, ey, hρ⟩ := Option.bind_eq_some_iff.mp hρ
  cases hρ
  obtain ⟨b, hsw⟩ : ∃ b, swapsWith (.ListComp elt [⟨target, iter, ifs, 0⟩] scope pos) (some (.Name x p)) spos.line env = pure b := ⟨_, rfl⟩
  cases b with
  | false =>
    refine wpAny_Assign_Name (wpAny_mono (SF.comp ht hS hfs hi hc he A env N α s ρ ys hA hE (ha.hk hb) ha.in ey) (fun v s₁ h₁ => ?_) fun _ _ x => x) hsw
    obtain ⟨hk, b, vs, n, rfl, hn, hb', r⟩ := h₁
    cases own with
    | true => exact ha.storeOwn hE.kind' (okStore.ok hE hx) hk hn hb' r fun s' a' f' _ => ⟨rfl, _, a', f'⟩
    | false => exact (ha.keep hk).store hE.kind' (okStore.ok hE hx) (.list hb' (ha.in.low.fresh hn) (r.weak fun _ q => .inl q)) fun s' a' f' => ⟨rfl, _, a', (Fm.kp hk).trans f'⟩
  | true =>
    obtain ⟨ds, eds, eys⟩ := Option.bind_eq_some_iff.mp ey
    rw [exec_Assign_Name_used _ _ _ _ hsw]
    refine wpAny_bind (wpAny_standAt (wpAny_bind ?_))
    show wpAny _ A (do let _ ← comprehension (.ListComp elt [⟨target, iter, ifs, 0⟩] scope pos) scope env _ (newList []) false (eval iter env) (some (PySem.assign (.Name x p) env))) _ _ s
    refine wpAny_bind (wpAny_mono (compCore (use := some (PySem.assign (.Name x p) env)) (Q := fun _ s' => OutIs s₀ env N α s .next s' (.next (upd ρ x (if own then .own ys else .list ys)))) ht (compSc_of hS) hfs hi hc he hA hE (ha.hk hb) ha.in eds eys
      fun D C s' us n m k' hD hC hDC hl r hn => ?_) (fun _ s' hq => wpAny_pure (wpAny_pure hq)) fun _ _ e => e)
    show wpAny _ A (PySem.assign (.Name x p) env (.ref D)) _ _ _
    refine wpAny_assign_Name ?_
    have frC : Free env α C := free_of ha (.inl hC)
    obtain ⟨oC, es, ep, hoC, rC⟩ := id hn
    -- behind the store the variables go
    have last : ∀ α' s'', Act s₀ env N α' s'' (upd ρ x (if own then .own ys else .list ys)) → Fm env α s α' s'' → s''.heap.get? C = some oC → Free env α' C → ∃ m, s''.heap.Ns C m ∧ ∀ h', Heap.SameBut C s''.heap h' → OutIs s₀ env N α s .next { s'' with heap := h' } (.next (upd ρ x (if own then .own ys else .list ys))) := fun α' s'' a' f' e' fC => by
      have hn'' : s''.heap.Ns C m := ⟨oC, es, ep, e', rC⟩
      refine ⟨m, hn'', fun h' hs' => ⟨rfl, α', ?_, fun b o e fb => ?_⟩⟩
      · have := a'.swap (h' := h') (tk := s''.toks) (wr := [C]) (fun b o hb e => (hs'.2 b (by simpa using hb)).trans e) (fun b hb => by simp at hb; subst hb; exact fC) (fun b hb => by simp at hb; subst hb; exact ha.kp.gone hC) (fun b hb us' j => by simp at hb; subst hb; exact ns_not_seq hn'' us' j)
        exact this
      · obtain ⟨e1, f1⟩ := f' b o e fb
        exact ⟨(hs'.2 b fun q => by rw [q, hC] at e; cases e).trans e1, f1⟩
    cases own with
    | true => exact ha.storeOwn hE.kind' (okStore.ok hE hx) k' hD hl r fun s'' a' f' g' => last _ s'' a' f' (g' C oC hoC frC.1 frC.2.1) ⟨frC.1, frC.2.1, fun y q => by
        unfold put at q
        split at q
        · cases q; exact hDC rfl
        · exact frC.2.2 y q⟩
    | false => exact (ha.keep k').store hE.kind' (okStore.ok hE hx) (.list hl (ha.in.low.fresh hD) (r.weak fun _ q => .inl q)) fun s'' a' f' => last _ s'' a' ((Fm.kp k').trans f') (f' C oC hoC frC).1 (f' C oC hoC frC).2

end

end Mine
end
section
set_option maxRecDepth 20000
set_option linter.unusedVariables false
namespace Mine
open PySem PyProof.Rows

/-! ints -/
noncomputable def dAdd : D → D → Option D
  | .int a, .int b => some (.int (a + b))
  | _, _ => none
noncomputable def dSub : D → D → Option D
  | .int a, .int b => some (.int (a - b))
  | _, _ => none
noncomputable def dMul : D → D → Option D
  | .int a, .int b => if a.natAbs < 18446744073709551616 ∨ b.natAbs < 18446744073709551616 then some (.int (a * b)) else none
  | _, _ => none
noncomputable def dFdiv : D → D → Option D
  | .int a, .int b => if 0 < b ∧ b < 1073741824 then some (.int (a.fdiv b)) else none
  | _, _ => none
noncomputable def dMod : D → D → Option D
  | .int a, .int b => if b ≠ 0 then some (.int (a.fmod b)) else none
  | _, _ => none
noncomputable def dPow : D → D → Option D
  | .int a, .int b => if 0 ≤ b ∧ b ≤ 1000 ∧ a.natAbs < 1000 then some (.int (a ^ b.toNat)) else none
  | _, _ => none

section
variable {G : Gnd} {k : Nat} {sc : Scope}

theorem rt_int {h : Heap} {N v} {a : Int} (r : Rt h N v (.int a)) : ∃ t, v = .int a t := by
  cases r with
  | clean r => cases r; exact ⟨_, rfl⟩
theorem po_int {s : Shared} {N : Addr → Prop} {i : Int} : Po s N (.int i) (.int i s.toks) { s with toks := s.toks + 1 } := ⟨Kp.toks s _, .clean (.int _ _)⟩

theorem binAdd (a b d : D) (h : dAdd a b = some d) : BinOk G k .Add a b d := by
  intro A N s va vb hA hb lo ra rb
  unfold dAdd at h
  split at h
  · cases h; obtain ⟨t, rfl⟩ := rt_int ra; obtain ⟨u, rfl⟩ := rt_int rb; exact add_int po_int
  · cases h
theorem binSub (a b d : D) (h : dSub a b = some d) : BinOk G k .Sub a b d := by
  intro A N s va vb hA hb lo ra rb
  unfold dSub at h
  split at h
  · cases h; obtain ⟨t, rfl⟩ := rt_int ra; obtain ⟨u, rfl⟩ := rt_int rb; exact sub_int po_int
  · cases h
theorem bits64 {a : Int} (h : a.natAbs < 18446744073709551616) : Builtin.Int.intBits a ≤ 64 := intBits_le_64 (by omega) (by omega)
theorem binMul (a b d : D) (h : dMul a b = some d) : BinOk G k .Mult a b d := by
  intro A N s va vb hA hb lo ra rb
  unfold dMul at h
  split at h
  · split at h
    · rename_i hc
      cases h; obtain ⟨t, rfl⟩ := rt_int ra; obtain ⟨u, rfl⟩ := rt_int rb
      exact mul_int po_int (hc.elim (fun q => .of_left (bits64 q)) fun q => .of_right (bits64 q))
    · cases h
  · cases h
theorem binFdiv (a b d : D) (h : dFdiv a b = some d) : BinOk G k .FloorDiv a b d := by
  intro A N s va vb hA hb lo ra rb
  unfold dFdiv at h
  split at h
  · split at h
    · rename_i hc
      cases h; obtain ⟨t, rfl⟩ := rt_int ra; obtain ⟨u, rfl⟩ := rt_int rb
      exact floordiv_int (by omega) po_int (.inl (PyProof.noPylong_small (by omega)))
    · cases h
  · cases h
theorem binMod (a b d : D) (h : dMod a b = some d) : BinOk G k .Mod a b d := by
  intro A N s va vb hA hb lo ra rb
  unfold dMod at h
  split at h
  · split at h
    · rename_i hc
      cases h; obtain ⟨t, rfl⟩ := rt_int ra; obtain ⟨u, rfl⟩ := rt_int rb
      exact mod_int' hc po_int
    · cases h
  · cases h
theorem binPow (a b d : D) (h : dPow a b = some d) : BinOk G k .Pow a b d := by
  intro A N s va vb hA hb lo ra rb
  unfold dPow at h
  split at h
  · split at h
    · rename_i hc
      cases h; obtain ⟨t, rfl⟩ := rt_int ra; obtain ⟨u, rfl⟩ := rt_int rb
      exact pow_int_small hc.1 (by omega) (by omega) po_int
    · cases h
  · cases h
theorem SE.neg {e : Expr} {pos : Pos} {m : Loc → Option D} (h : SE G k sc e m) : SE G k sc (.UnaryOp .USub e pos) (fun ρ => (m ρ).bind fun d => match d with | .int i => some (.int (-i)) | _ => none) := by
  intro A env N α s ρ d hA hE hb hi hρ
  obtain ⟨a, ea, hρ⟩ := Option.bind_eq_some_iff.mp hρ
  split at hρ
  · cases hρ
    refine UnaryOp_ (wpAny_mono (h A env N α s ρ _ hA hE hb hi ea) (fun v s₁ h₁ => ?_) fun _ _ x => x)
    obtain ⟨t, rfl⟩ := rt_int h₁.2
    exact neg_int ⟨h₁.1.trans (Kp.toks s₁ _), .clean (.int _ _)⟩
  · cases hρ

/-! comparisons of ints -/
noncomputable def cLt : D → D → Option Bool
  | .int a, .int b => some (decide (a < b))
  | _, _ => none
noncomputable def cGt : D → D → Option Bool
  | .int a, .int b => some (decide (b < a))
  | _, _ => none
noncomputable def cLe : D → D → Option Bool
  | .int a, .int b => some (decide (a ≤ b))
  | _, _ => none
noncomputable def cGe : D → D → Option Bool
  | .int a, .int b => some (decide (b ≤ a))
  | _, _ => none
theorem cmpLt (a b : D) (c : Bool) (h : cLt a b = some c) : CmpOk G k .Lt a b c := by
  intro A N s va vb hA hb lo ra rb
  unfold cLt at h
  split at h
  · cases h; obtain ⟨t, rfl⟩ := rt_int ra; obtain ⟨u, rfl⟩ := rt_int rb; exact lt_int ⟨rfl, Kp.refl s⟩
  · cases h
theorem cmpGt (a b : D) (c : Bool) (h : cGt a b = some c) : CmpOk G k .Gt a b c := by
  intro A N s va vb hA hb lo ra rb
  unfold cGt at h
  split at h
  · cases h; obtain ⟨t, rfl⟩ := rt_int ra; obtain ⟨u, rfl⟩ := rt_int rb; exact gt_int ⟨rfl, Kp.refl s⟩
  · cases h
theorem cmpLe (a b : D) (c : Bool) (h : cLe a b = some c) : CmpOk G k .LtE a b c := by
  intro A N s va vb hA hb lo ra rb
  unfold cLe at h
  split at h
  · cases h; obtain ⟨t, rfl⟩ := rt_int ra; obtain ⟨u, rfl⟩ := rt_int rb; exact le_int ⟨rfl, Kp.refl s⟩
  · cases h
theorem cmpGe (a b : D) (c : Bool) (h : cGe a b = some c) : CmpOk G k .GtE a b c := by
  intro A N s va vb hA hb lo ra rb
  unfold cGe at h
  split at h
  · cases h; obtain ⟨t, rfl⟩ := rt_int ra; obtain ⟨u, rfl⟩ := rt_int rb; exact ge_int ⟨rfl, Kp.refl s⟩
  · cases h

/-! items -/
noncomputable def seqOf? : D → Option (List D)
  | .list l => some l
  | .own l => some l
  | .tup l => some l
  | _ => none
noncomputable def dGet (o i : D) : Option D := match i with
  | .int i => (seqOf? o).bind fun l => if -9223372036854775808 ≤ i ∧ i < 9223372036854775808 then (if i < 0 then (if i + l.length < 0 then none else l[(i + l.length).toNat]?) else l[i.toNat]?) else none
  | _ => none

theorem getItem_ok {A : Around} {N : Addr → Prop} {s : Shared} {vo vi : Value} {o i d : D} (ro : Rt s.heap N vo o) (ri : Rt s.heap N vi i) (e : dGet o i = some d) :
    ∃ T id, s.TypeIs vo T ∧ typeLookup (.type T) "__getitem__" = pure (some (.builtin id)) ∧ wpAny (model G.prog G.w) A (getItem vo vi) (Po s N d) NoX s := by
  unfold dGet at e
  split at e
  · rename_i i
    obtain ⟨t, rfl⟩ := rt_int ri
    obtain ⟨l, el, e⟩ := Option.bind_eq_some_iff.mp e
    split at e
    · rename_i hb
      have list : ∀ {a : Addr} {vs : List Value} {n : Nat}, s.heap.get? a = some (lstO vs n) → Rps s.heap N vs l → ∃ T id, s.TypeIs (.ref a) T ∧ typeLookup (.type T) "__getitem__" = pure (some (.builtin id)) ∧ wpAny (model G.prog G.w) A (getItem (.ref a) (.int i t)) (Po s N d) NoX s := fun {a vs n} ha rs => by
        have hl : s.heap.IsList a vs.toArray := ⟨_, ha, rfl, n, rfl⟩
        refine ⟨"list", _, hl.typeIs, slot_list_getitem.lookup, ?_⟩
        have hlen := rs.length
        split at e
        · rename_i hneg
          split at e
          · cases e
          · rename_i hge
            obtain ⟨v, hv, rp⟩ := rs.get e
            exact wpAny_getItem_list_neg hl hneg (by simp; omega) hb.1 (by simp [hlen]; exact hv) ⟨Kp.refl s, .clean rp⟩
        · rename_i hpos
          obtain ⟨v, hv, rp⟩ := rs.get e
          exact wpAny_getItem_list hl (by omega) hb.2 (by simpa using hv) ⟨Kp.refl s, .clean rp⟩
      cases ro with
      | own ha rs => simp [seqOf?] at el; subst el; exact list ha rs
      | clean r =>
        cases r with
        | list ha _ rs => simp [seqOf?] at el; subst el; exact list ha rs
        | @tup a vs n _ ha rs =>
          simp [seqOf?] at el; subst el
          have ht : PyProof.Rows.IsTup s.heap a vs.toArray := ⟨_, ha, rfl, n, rfl⟩
          refine ⟨"tuple", _, ht.typeIs, slot_tuple_getitem.lookup, ?_⟩
          have hlen := rs.length
          split at e
          · rename_i hneg
            split at e
            · cases e
            · rename_i hge
              obtain ⟨v, hv, rp⟩ := rs.get e
              have hlt := (List.getElem?_eq_some_iff.mp hv).1
              refine getItem_tuple ht hb.1 hb.2 (j := (i + (vs.length : Int)).toNat) ?_ (by simp [hlen]; exact hv) ⟨Kp.refl s, .clean rp⟩
              unfold seqIndex?
              simp only [if_pos hneg, List.size_toArray]
              rw [if_pos]
              simp; omega
          · rename_i hpos
            obtain ⟨v, hv, rp⟩ := rs.get e
            have hlt := (List.getElem?_eq_some_iff.mp hv).1
            refine getItem_tuple ht hb.1 hb.2 (j := i.toNat) ?_ (by simpa using hv) ⟨Kp.refl s, .clean rp⟩
            unfold seqIndex?
            simp only [if_neg hpos, List.size_toArray]
            rw [if_pos]
            simp; omega
        | none => cases el
        | bool _ => cases el
        | int _ _ => cases el
        | str _ _ => cases el
    · cases e
  · cases e

theorem SE.sub {value idx : Expr} {pos : Pos} {mv mi : Loc → Option D} (hs : ∀ o i, subscripted idx false o i = operate [o, i] (getItem o i)) (hv : SE G k sc value mv) (hi : SE G k sc idx mi) :
    SE G k sc (.Subscript value idx pos) (fun ρ => (mv ρ).bind fun o => (mi ρ).bind fun i => dGet o i) := by
  intro A env N α s ρ d hA hE hb hin hρ
  obtain ⟨o, eo, hρ⟩ := Option.bind_eq_some_iff.mp hρ
  obtain ⟨i, ei, hρ⟩ := Option.bind_eq_some_iff.mp hρ
  refine Subscript_ (two hv hi hA hE hb hin eo ei fun va vb s₂ k₂ lo ra rb => ?_)
  obtain ⟨T, id, hT, hl, hg⟩ := getItem_ok (G := G) (A := A) ra rb hρ
  exact tail_any hT hl hg (hs va vb)

/-! slices -/
noncomputable def clip (i : Int) (n : Nat) : Nat := if i < 0 then (i + n).toNat else min i.toNat n
noncomputable def sliceL (l : List D) (lo hi : Option Int) : List D := let a := (lo.map (clip · l.length)).getD 0; let b := (hi.map (clip · l.length)).getD l.length; (l.drop a).take (b - a)

noncomputable def optI (m : Loc → Option D) : Loc → Option (Option Int) := fun ρ => (m ρ).bind fun d => match d with | .int i => some (some i) | _ => none

/-- a bound of a slice: written or not -/
noncomputable def SB (G : Gnd) (k : Nat) (sc : Scope) (e : Option Expr) (m : Loc → Option (Option Int)) : Prop := (e = none ∧ m = fun _ => some none) ∨ ∃ e' m', e = some e' ∧ SE G k sc e' m' ∧ m = optI m'
theorem SB.no : SB G k sc none (fun _ => some none) := .inl ⟨rfl, rfl⟩
theorem SB.at {e : Expr} {m : Loc → Option D} (h : SE G k sc e m) : SB G k sc (some e) (optI m) := .inr ⟨e, m, rfl, h, rfl⟩

theorem SB.ok {e : Option Expr} {m : Loc → Option (Option Int)} (h : SB G k sc e m) {A : Around} {env : Env} {N : Addr → Prop} {α : Str → Option Addr} {s : Shared} {ρ : Loc} {b : Option Int} (hA : AOk A k) (hE : EOk sc env) (hb : Hk G.base s.heap) (hi : In env N α s.heap ρ) (eb : m ρ = some b) :
    wpAny (model G.prog G.w) A (valueOrNone (evalOpt e env)) (fun v s' => Kp s s' ∧ IsPart v b) NoX s := by
  rcases h with ⟨rfl, rfl⟩ | ⟨e', m', rfl, h, rfl⟩
  · cases eb; exact wpAny_pure ⟨Kp.refl s, .none⟩
  · obtain ⟨d, ed, eb⟩ := Option.bind_eq_some_iff.mp eb
    split at eb
    · cases eb
      refine wpAny_mono (h A env N α s ρ _ hA hE hb hi ed) (fun v s₁ h₁ => ?_) fun _ _ x => x
      obtain ⟨t, rfl⟩ := rt_int h₁.2
      exact ⟨h₁.1, .int _ _⟩
    · cases eb

theorem bounds_clip (lo hi : Option Int) (n : Nat) : sliceBounds lo hi none n = ((((lo.map (clip · n)).getD 0 : Nat) : Int), (((hi.map (clip · n)).getD n : Nat) : Int), 1) := by
  have c : ∀ i : Int, max 0 (min (if i < 0 then i + n else i) (n : Int)) = ((clip i n : Nat) : Int) := fun i => by
    unfold clip
    split <;> omega
  unfold sliceBounds
  cases lo <;> cases hi <;> simp [c]
theorem pick_clip (vs : List Value) (lo hi : Option Int) : slicePick vs.toArray lo hi none = ((vs.drop ((lo.map (clip · vs.length)).getD 0)).take ((hi.map (clip · vs.length)).getD vs.length - (lo.map (clip · vs.length)).getD 0)).toArray := by
  unfold slicePick
  rw [List.size_toArray, bounds_clip]
  simp only [sliceRange_one, pick_run]

theorem SF.slice {value : Expr} {lower upper : Option Expr} {p pos : Pos} {mv : Loc → Option D} {ml mu : Loc → Option (Option Int)} (hv : SE G k sc value mv) (hl : SB G k sc lower ml) (hu : SB G k sc upper mu) :
    SF G k sc (.Subscript value (.Slice lower upper none p) pos) (fun ρ => (mv ρ).bind fun o => (ml ρ).bind fun lo => (mu ρ).bind fun hi => (D.items? o).bind fun l => if l.length ≤ 16777216 then some (sliceL l lo hi) else none) := by
  intro A env N α s ρ ds hA hE hb hin hρ
  obtain ⟨o, eo, hρ⟩ := Option.bind_eq_some_iff.mp hρ
  obtain ⟨lo, el, hρ⟩ := Option.bind_eq_some_iff.mp hρ
  obtain ⟨hi, eh, hρ⟩ := Option.bind_eq_some_iff.mp hρ
  obtain ⟨l, ei, hρ⟩ := Option.bind_eq_some_iff.mp hρ
  split at hρ
  · rename_i hz
    cases hρ
    refine Subscript_ (wpAny_mono (hv A env N α s ρ o hA hE hb hin eo) (fun vo s₁ h₁ => ?_) fun _ _ x => x)
    obtain ⟨k₁, r₁⟩ := h₁
    show wpAny _ A (do let l ← valueOrNone (evalOpt lower env); let u ← holding [l] (valueOrNone (evalOpt upper env)); let st ← holding [l, u] (valueOrNone (evalOpt none env)); newFields "slice" [l, u, st]) _ _ s₁
    refine wpAny_bind (wpAny_mono (hl.ok hA hE (stays_trans hb k₁) (hin.keep k₁.heap) el) (fun vl s₂ h₂ => ?_) fun _ _ x => x)
    obtain ⟨k₂, p₂⟩ := h₂
    refine wpAny_bind (wpAny_holding (wpAny_mono (hu.ok hA hE (stays_trans hb (k₁.trans k₂)) (hin.keep (k₁.trans k₂).heap) eh) (fun vu s₃ h₃ => ?_) fun _ _ x => x))
    obtain ⟨k₃, p₃⟩ := h₃
    refine wpAny_bind (wpAny_holding (wpAny_pure ?_))
    have kk : Kp s s₃ := k₁.trans (k₂.trans k₃)
    obtain ⟨a, vs, n, rfl, ha, rs⟩ := (r₁.keep (k₂.trans k₃).heap).items ei
    refine wpAny_newObj_type ?_
    have kp : ∀ b ob, s₃.heap.get? b = some ob → (s₃.heap.push { cls := .type "slice", dict := none, data := .fields [vl, vu, Value.none].toArray }).get? b = some ob := fun b ob e => Heap.get?_push_of_some _ e
    have hL : (s₃.heap.push { cls := .type "slice", dict := none, data := .fields [vl, vu, Value.none].toArray }).IsList a vs.toArray := ⟨_, kp _ _ ha, rfl, n, rfl⟩
    refine tail_any (ops := [.ref s₃.heap.objs.size, .ref a]) ⟨_, kp _ _ ha, rfl⟩ slot_list_getitem.lookup ?_ rfl
    refine wpAny_getItem_list_slice hL ⟨_, Heap.get?_push_size _ rfl, rfl, rfl⟩ p₂ p₃ .none (by decide) ?_ (by simp; rw [rs.length, sizeLine_eq]; exact hz)
    refine ⟨(kk.trans (Kp.push s₃ _)).trans (Kp.push { s₃ with heap := s₃.heap.push { cls := .type "slice", dict := none, data := .fields [vl, vu, Value.none].toArray } } _), _, _, 0, rfl, (kk.trans (Kp.push s₃ _)).gone (get_size _), by rw [pick_clip]; exact Heap.get?_push_size _ rfl, ?_⟩
    have r2 : Rps s₃.heap (Nu N α) ((vs.drop ((lo.map (clip · vs.length)).getD 0)).take ((hi.map (clip · vs.length)).getD vs.length - (lo.map (clip · vs.length)).getD 0)) (sliceL l lo hi) := by
      rw [rs.length]; exact (rs.drop _).take _
    exact (r2.keep kp).off (get_size _) fun _ _ e => Heap.get?_push_of_some _ e
  · cases hρ

/-! lists put together -/
theorem SF.cat {l r : Expr} {pos : Pos} {ml mr : Loc → Option D} (hl : SE G k sc l ml) (hr : SE G k sc r mr) :
    SF G k sc (.BinOp l .Add r pos) (fun ρ => (ml ρ).bind fun a => (mr ρ).bind fun b => (D.items? a).bind fun x => (D.items? b).bind fun y => if x.length + y.length ≤ 16777216 then some (x ++ y) else none) := by
  intro A env N α s ρ ds hA hE hb hin hρ
  obtain ⟨a, ea, hρ⟩ := Option.bind_eq_some_iff.mp hρ
  obtain ⟨b, eb, hρ⟩ := Option.bind_eq_some_iff.mp hρ
  obtain ⟨x, ex, hρ⟩ := Option.bind_eq_some_iff.mp hρ
  obtain ⟨y, ey, hρ⟩ := Option.bind_eq_some_iff.mp hρ
  split at hρ
  · rename_i hz
    cases hρ
    refine wpAny_BinOp (wpAny_mono (hl A env N α s ρ a hA hE hb hin ea) (fun va s₁ h₁ => ?_) fun _ _ x => x)
    refine wpAny_mono (hr A env N α s₁ ρ b hA hE (stays_trans hb h₁.1) (hin.keep h₁.1.heap) eb) (fun vb s₂ h₂ => ?_) fun _ _ x => x
    have kk := h₁.1.trans h₂.1
    obtain ⟨p, vs, n, rfl, hp, rp⟩ := (h₁.2.keep h₂.1.heap).items ex
    obtain ⟨q, ws, j, rfl, hq, rq⟩ := h₂.2.items ey
    have e : vs.toArray ++ ws.toArray = (vs ++ ws).toArray := by simp
    refine concat_meets ⟨_, hp, rfl⟩ ⟨_, hq, rfl⟩ noFill_list_add seq_list_add PySem.F.slot_list_add PySem.F.entry_list_add (PySem.F.args_list_add_2 _ _) (AutoSeq1.list___add___list_list_0 p vs.toArray n q ws.toArray j (by simp; rw [rp.length, rq.length, sizeLine_eq]; exact hz)) ⟨hp, hq, ?_⟩
    rw [e]
    refine ⟨kk.trans (Kp.push s₂ _), _, _, 0, rfl, kk.gone (get_size _), Heap.get?_push_size _ rfl, (rp.append rq).off (get_size _) fun _ _ e => Heap.get?_push_of_some _ e⟩
  · cases hρ

end

end Mine
end
section
set_option maxRecDepth 20000
set_option linter.unusedVariables false
namespace Mine
open PySem PyProof.Rows

section
variable {s₀ : Shared} {env : Env} {N : Addr → Prop} {α : Str → Option Addr} {s : Shared} {ρ : Loc}

/-- one's own list, changed -/
theorem Act.mutate {x : Str} {a : Addr} {us : List Value} {j : Nat} {ds ds' : List D} {h' : Heap} {tk : Nat} (ha : Act s₀ env N α s ρ) (hx : ρ x = some (.own ds)) (hα : α x = some a) (hs : Heap.SameBut a s.heap h') (he : h'.get? a = some (lstO us j)) (r : Rps s.heap (Nu N α) us ds') :
    Act s₀ env N α { s with heap := h', toks := tk } (upd ρ x (.own ds')) ∧ Fm env α s α { s with heap := h', toks := tk } := by
  obtain ⟨m, cm, i, hv⟩ := ha.ex
  obtain ⟨hf, ws, w, hw⟩ := ha.fresh x a hα
  have kt : ∀ b vs n, s.heap.get? b = some (tupO vs n) → h'.get? b = some (tupO vs n) := fun b vs n e => (hs.2 b fun q => by rw [q, hw] at e; exact lst_ne_tup e).trans e
  have kl : ∀ b vs n, s.heap.get? b = some (lstO vs n) → ¬ Nu N α b → h'.get? b = some (lstO vs n) ∧ ¬ Nu N α b := fun b vs n e hn => ⟨(hs.2 b fun q => hn (.inr ⟨x, q ▸ hα⟩)).trans e, hn⟩
  have hL : env.locals ≠ a := fun q => (ns_not_seq i.toInCall.ns ws w).1 (q ▸ hw)
  refine ⟨⟨⟨m, cm, ⟨⟨?_, i.toInCall.ns.sameBut hs hL, fun b o e => (hs.2 b fun q => by rw [q, hf] at e; cases e).trans (i.toInCall.keep b o e), i.toInCall.fresh⟩, fun n c hc => ?_, i.apart, i.above⟩, fun y d hy => ?_⟩, ha.lowN, fun y b e => ?_, ha.inj, ha.cells⟩, fun b o e f => ⟨(hs.2 b fun q => f.2.2 x (q ▸ hα)).trans e, f⟩⟩
  · obtain ⟨h₁, t₁, rfl⟩ := i.toInCall.same; exact ⟨h', tk, rfl⟩
  · exact (i.cell n c hc).sameBut hs fun q => (cell_not_seq (i.cell n c hc) ws w).1 (q ▸ hw)
  · unfold upd at hy
    by_cases q : y = x
    · subst q
      rw [if_pos rfl] at hy; cases hy
      obtain ⟨v, h1, h2⟩ := hv y _ hx
      cases h2 with
      | clean r => cases r
      | own e _ _ =>
        rw [hα] at e; cases e
        exact ⟨_, h1, .own hα he (r.change kt kl)⟩
    · rw [if_neg q] at hy
      obtain ⟨v, h1, h2⟩ := hv y d hy
      refine ⟨v, h1, ?_⟩
      cases h2 with
      | clean r => exact .clean (r.change kt kl)
      | own e hl r => exact .own e ((hs.2 _ fun q' => q (ha.inj y x a (q' ▸ e) hα)).trans hl) (r.change kt kl)
  · obtain ⟨h1, us', j', h2⟩ := ha.fresh y b e
    refine ⟨h1, ?_⟩
    by_cases q : b = a
    · rw [q]; exact ⟨us, j, he⟩
    · exact ⟨us', j', (hs.2 b q).trans h2⟩

/-- a name of one's own list, read -/
theorem Act.ownName {M : Model} {A : Around} {E : Value → Shared → Prop} {sc : Scope} {x : Str} {p : Pos} {ds : List D} {Q : Value → Shared → Prop} (ha : Act s₀ env N α s ρ) (hE : EOk sc env) (hd : (x == ("__debug__" : Str)) = false) (hx : ρ x = some (.own ds))
    (h : ∀ a vs n, α x = some a → s.heap.get? a = some (lstO vs n) → Rps s.heap (Nu N α) vs ds → Q (.ref a) s) : wpAny M A (eval (.Name x p) env) Q E s := by
  obtain ⟨m, cm, i, hv⟩ := ha.ex
  obtain ⟨v, h1, h2⟩ := hv x _ hx
  cases h2 with
  | clean r => cases r
  | own e hl r =>
    have fin := h _ _ _ e hl r
    unfold valOf at h1
    split at h1
    · rename_i q; exact wpAny_Name (wpAny_loadName_local hE.kind' q i.toInCall.ns h1 fin) hd
    · rename_i q
      obtain ⟨c, hc⟩ := Option.isSome_iff_exists.mp (ha.cells x (.inl q))
      exact wpAny_Name (wpAny_loadName_cell hE.kind' q hc (h1 ▸ i.cell x c hc) fin) hd
    · cases h1
end

/-- a call of a method, as it is written -/
noncomputable def MethForm (o : Expr) (name : Str) (apos : Pos) (args : List Expr) (pos : Pos) : Prop :=
  ∀ env, ∃ pl : Sem Bool, eval (.Call (.Attribute o name apos) args [] pos) env = (do
      let ov ← eval o env
      standAt apos.atName
      let (f, first) ← holding [ov] (getMethod ov name pl)
      callWith pos f first (backTo pos (starEach args env)) [])

section
variable {G : Gnd} {k : Nat} {sc : Scope}

theorem S1.append {x : Str} {p apos pos pos' : Pos} {e : Expr} {m : Loc → Option D} (hf : MethForm (.Name x p) (Str.ofString "append") apos [e] pos) (hd : (x == ("__debug__" : Str)) = false) (hs : NoStar e)
    (hsw : ∀ env, swapsWith (.Call (.Attribute (.Name x p) (Str.ofString "append") apos) [e] [] pos) none pos'.line env = pure false) (h : SE G k sc e m) :
    S1 G k sc (.Expr (.Call (.Attribute (.Name x p) (Str.ofString "append") apos) [e] [] pos) pos') (fun ρ => (m ρ).bind fun d => match ρ x with
      | some (.own l) => if d.clean = true ∧ l.length < 16777216 then some (.next (upd ρ x (.own (l ++ [d])))) else none
      | _ => none) := by
  intro A env N α s₀ s ρ o hA hE hb ha hρ
  obtain ⟨d, ed, hρ⟩ := Option.bind_eq_some_iff.mp hρ
  split at hρ
  · rename_i l hx
    split at hρ
    · cases hρ
      rename_i hc
      obtain ⟨pl, he⟩ := hf env
      refine wpAny_Expr_any (MethodCall_ (pl := pl) (ha.ownName hE hd hx fun a vs n hα hl r => ?_) he) (not_interactive env hE) (hsw env)
      refine getMethod_builtin (T := "list") ⟨_, hl, rfl⟩ PySem.F.plainAttrs_list slot_list_append rfl (fun b q => by cases q; exact ⟨_, hl, rfl⟩) ?_
      refine callWith_method1 (args_cons (wpAny_mono (h A env N α s ρ d hA hE (ha.hk hb) ha.in ed) (fun v s₁ h₁ => args_nil ?_) fun _ _ x => x) (hs [] env)) (hs [] env) rfl
      obtain ⟨k₁, rt⟩ := h₁
      refine wpAny_list_append_plain (items := vs.toArray) ⟨n, k₁.heap _ _ hl⟩ (fun h' hl' hs' => ?_) (by simp; rw [r.length, sizeLine_eq]; omega)
      obtain ⟨j, e'⟩ := hl'
      have r' : Rps s₁.heap (Nu N α) (vs ++ [v]) (l ++ [d]) := (r.keep k₁.heap).append (.one (rt.rp hc.1))
      obtain ⟨a', f'⟩ := (ha.keep k₁).mutate (tk := s₁.toks) hx hα hs' (us := vs ++ [v]) (j := j) (by rw [e']; simp) r'
      exact ⟨rfl, α, a', (Fm.kp k₁).trans f'⟩
    · cases hρ
  · cases hρ

/-- an item of one's own list is stored -/
theorem S1.setItem {x : Str} {p p2 pos : Pos} {i e : Expr} {mi me : Loc → Option D} (hd : (x == ("__debug__" : Str)) = false) (hsw : ∀ env, swapsWith e (some (.Subscript (.Name x p) i p2)) pos.line env = pure false) (hi : SE G k sc i mi) (he : SE G k sc e me) :
    S1 G k sc (.Assign [.Subscript (.Name x p) i p2] e pos) (fun ρ => (me ρ).bind fun d => (mi ρ).bind fun j => match ρ x, j with
      | some (.own l), .int j => if d.clean = true ∧ 0 ≤ j ∧ j < l.length ∧ j < 9223372036854775808 then some (.next (upd ρ x (.own (l.set j.toNat d)))) else none
      | _, _ => none) := by
  intro A env N α s₀ s ρ o hA hE hb ha hρ
  obtain ⟨d, ed, hρ⟩ := Option.bind_eq_some_iff.mp hρ
  obtain ⟨j, ej, hρ⟩ := Option.bind_eq_some_iff.mp hρ
  split at hρ
  · rename_i l j hx
    split at hρ
    · rename_i hc
      cases hρ
      refine wpAny_Assign_Subscript (wpAny_mono (he A env N α s ρ d hA hE (ha.hk hb) ha.in ed) (fun v s₁ h₁ => ?_) fun _ _ x => x) (hsw env)
      obtain ⟨k₁, rt⟩ := h₁
      refine (ha.keep k₁).ownName hE hd hx fun a vs n hα hl r => ?_
      refine wpAny_mono (hi A env N α s₁ ρ _ hA hE ((ha.keep k₁).hk hb) (ha.keep k₁).in ej) (fun vi s₂ h₂ => ?_) fun _ _ x => x
      obtain ⟨k₂, rt₂⟩ := h₂
      obtain ⟨t, rfl⟩ := rt_int rt₂
      refine PySem.W.ki_setAt (n := n) (items := vs.toArray) (k₂.heap _ _ hl) hc.2.1 hc.2.2.2 (by simp; rw [r.length]; exact hc.2.2.1) ?_
      have r' : Rps s₂.heap (Nu N α) (vs.set j.toNat v) (l.set j.toNat d) := (r.keep k₂.heap).set _ ((rt.rp hc.1).keep k₂.heap)
      have e1 : Obj.mapSeq (·.setIfInBounds j.toNat v) (lstO vs n) = lstO (vs.set j.toNat v) n := by
        simp [Obj.mapSeq]
      obtain ⟨a', f'⟩ := (ha.keep (k₁.trans k₂)).mutate (tk := s₂.toks) hx hα (Heap.SameBut.update s₂.heap a (Obj.mapSeq (·.setIfInBounds j.toNat v))) (us := vs.set j.toNat v) (j := n) (by rw [Heap.get?_update_self _ (k₂.heap _ _ hl) (by rw [e1]; rfl), e1]) r'
      exact ⟨rfl, α, a', (Fm.kp (k₁.trans k₂)).trans f'⟩
    · cases hρ
  · cases hρ

/-- a tuple is opened -/
theorem S1.unpack {es : List Expr} {kd : Nat} {tp pos : Pos} {xs : List Str} {e : Expr} {m : Loc → Option D} (hn : namesOf es = some xs) (ho : ∀ x ∈ xs, okStore sc x = true)
    (hsw : ∀ env, swapsWithSole [.Tuple es kd tp] e pos.line env = pure false) (hst : ∀ env, swappedStores [.Tuple es kd tp] e env = pure none) (h : SE G k sc e m) :
    S1 G k sc (.Assign [.Tuple es kd tp] e pos) (fun ρ => (m ρ).bind fun d => (bindT (.many xs) d ρ).map .next) := by
  intro A env N α s₀ s ρ o hA hE hb ha hρ
  obtain ⟨d, ed, hρ⟩ := Option.bind_eq_some_iff.mp hρ
  obtain ⟨ρ', eρ, rfl⟩ := Option.map_eq_some_iff.mp hρ
  refine Assign_Tuple (wpAny_mono (h A env N α s ρ d hA hE (ha.hk hb) ha.in ed) (fun v s₁ h₁ => ?_) fun _ _ x => x) (hsw env) (hst env)
  obtain ⟨k₁, rt⟩ := h₁
  have hcl : d.clean = true := by cases d <;> first | rfl | simp [bindT] at eρ
  exact (ha.keep k₁).assign hE.kind' hA.1 (t := .many xs) (by simp [tgOf, hn]) (fun x hx => okStore.ok hE (ho x hx)) (rt.rp hcl) eρ fun α' s' a' f' => ⟨rfl, α', a', (Fm.kp k₁).trans f'⟩

end
end Mine
end
section
set_option maxRecDepth 20000
set_option linter.unusedVariables false
namespace Mine
open PySem PyProof.Rows PySem.W

theorem hasItems_ints {R : WRecords} (xs : List WData) : WShape.hasItems R xs .int = true → ∃ ns : List Int, xs = ns.map .int := by
  induction xs with
  | nil => exact fun _ => ⟨[], rfl⟩
  | cons x xs ih =>
    intro h
    have h' : (WShape.has R x .int && WShape.hasItems R xs .int) = true := h
    rw [Bool.and_eq_true] at h'
    obtain ⟨ns, rfl⟩ := ih h'.2
    obtain ⟨i, rfl⟩ := hasW_int h'.1
    exact ⟨i :: ns, rfl⟩

theorem well_ints {P : Params} {h : Heap} {N : Addr → Prop} (ns : List Int) : ∀ {vs : List Value}, WellAll P h vs (ns.map .int) → Rps h N vs (ns.map D.int) := by
  induction ns with
  | nil => intro vs w; cases w; exact .nil
  | cons n ns ih =>
    intro vs w
    cases w with
    | cons a r =>
      cases a with
      | int _ t => exact .cons (.int _ t) (ih r)

theorem glue {l : OpenLaw} (hm : l.most = some 63) (hb : l.bound = none) {q : Program} {loose : List Str} {XP : (Str → Option Value) → Heap → Prop} {YP : World → Heap → Prop} {d : DefRec} {kwd : List (Str × PySem.Expr)}
    (H : ∀ (w : World) (mean : ExcName → Option Value) (h : Heap) (mg mb : Str → Option Value) (T : Top q (looseW q loose) mean mg mb h) (a : Addr), YP w h → mg d.name = some (.ref a) → ∃ k Φ, k ≤ 40 ∧ FnOk ⟨l.prog, w, h, mg, mb, T.g, T.b, T.nolimit⟩ k a Φ ∧ ∀ ns : List Int, ns.length ≤ 63 → Φ [.list (ns.map .int)] = some (.bool true)) :
    WalkO q loose XP YP l.row.toRowW d kwd fun f vs => PySem.call f vs := by
  intro w s₀ s₁ mg mb Gr Y a o pm cd doc dV kV ho hd hcd hD hmg hg args vals as hpre hlay hrd hwl hlo
  obtain ⟨k, Φ, hk, hf, hΦ⟩ := H w _ s₁.heap mg mb Gr.T a Y hmg
  have hsh := (pre_splitW hpre).1
  have hcond := (pre_splitW hpre).2
  obtain ⟨x, r, rfl, hx, hr⟩ := hasAllW_cons hsh
  obtain rfl := hasAllW_nil hr
  obtain ⟨xs, rfl, hxs⟩ := hasW_list hx
  obtain ⟨ns, rfl⟩ := hasItems_ints _ hxs
  have hlen : ns.length ≤ 63 := by
    have : l.row.toRowW.pre = l.pre := rfl
    rw [this] at hcond
    unfold OpenLaw.pre at hcond
    rw [hm, hb] at hcond
    have h1 := (holds_andW hcond).1
    have h2 := condW_of h1 (w_not (w_lt w_lit (w_len_list (w_arg rfl))))
    simp at h2
    omega
  cases hwl with
  | cons wl wr =>
    cases wr
    cases wl with
    | @list b vs _ hl wa =>
      have rp : Rps s₁.heap (fun _ => False) [.ref b] [.list (ns.map .int)] := .one (.list (n := 0) hl (fun q => q) (well_ints _ wa))
      have hA : AOk callerA k := ⟨rfl, by show 1 + claimMargin + k < 1000; unfold claimMargin; omega, by show 4 + 64 * (k + 4) < 9900; omega⟩
      refine wpAny_mono (hf.2 callerA (fun _ => False) s₁ _ _ _ hA (fun _ _ e => e) (fun _ q => q.elim) rp (hΦ ns hlen)) (fun v s' h' => ?_) fun _ _ x => x.elim
      obtain ⟨k', r'⟩ := h'
      cases r'
      refine GoodW.toG ⟨.inl ⟨_, .bool true, [], rfl, fun cls => ?_, .bool true, ?_, fun _ => ⟨.nil, fun _ h => (nomatch h)⟩⟩, k'.heap, ?_, ?_⟩
      · rfl
      · exact postW_of rfl (w_eq_bool (w_res rfl) w_lit) rfl
      · obtain ⟨h', tk, rfl, _⟩ := k'; rfl
      · obtain ⟨h', tk, rfl, _⟩ := k'; exact hg

end Mine
end
section
set_option maxRecDepth 20000
set_option linter.unusedVariables false
namespace Mine
open PySem PyProof.Rows

/-! equality of data -/
mutual
noncomputable def D.py : D → PyData
  | .none => .none
  | .bool b => .bool b
  | .int i => .int i
  | .str x => .str x
  | .tup l => .tuple (D.pys l)
  | .list l => .list (D.pys l)
  | .own l => .list (D.pys l)
noncomputable def D.pys : List D → List PyData
  | [] => []
  | d :: l => d.py :: D.pys l
end
mutual
theorem Rp.reads {h : Heap} {N : Addr → Prop} : ∀ {v d}, Rp h N v d → ∃ as, Reads h v d.py as
  | _, _, .none => ⟨_, .none⟩
  | _, _, .bool b => ⟨_, .bool b⟩
  | _, _, .int i t => ⟨_, .int i t⟩
  | _, _, .str x t => ⟨_, .str x t⟩
  | _, _, .tup ha r => by obtain ⟨as, q⟩ := Rps.reads r; exact ⟨_, .tuple ha rfl rfl (by simpa using q)⟩
  | _, _, .list ha _ r => by obtain ⟨as, q⟩ := Rps.reads r; exact ⟨_, .list ha rfl rfl (by simpa using q)⟩
theorem Rps.reads {h : Heap} {N : Addr → Prop} : ∀ {vs ds}, Rps h N vs ds → ∃ as, ReadsAll h vs (D.pys ds) as
  | _, _, .nil => ⟨_, .nil⟩
  | _, _, .cons x r => by obtain ⟨as, p⟩ := Rp.reads x; obtain ⟨bs, q⟩ := Rps.reads r; exact ⟨_, .cons p q⟩
end
theorem Rt.reads {h : Heap} {N : Addr → Prop} {v d} (r : Rt h N v d) : ∃ as, Reads h v d.py as := by
  cases r with
  | clean r => exact r.reads
  | own ha r => obtain ⟨as, q⟩ := r.reads; exact ⟨_, .list ha rfl rfl (by simpa using q)⟩

/-- data of little depth -/
noncomputable def D.ok : Nat → D → Bool
  | _, .none => true
  | _, .bool _ => true
  | _, .int _ => true
  | _, .str x => PyData.strOk x
  | n + 1, .tup l => l.all (D.ok n)
  | n + 1, .list l => l.all (D.ok n)
  | n + 1, .own l => l.all (D.ok n)
  | _, _ => false

theorem D.ok_lay : ∀ (n : Nat) (d : D), d.ok n = true → d.py.canLay0 = true ∧ d.py.depth ≤ n := by
  have all : ∀ (n : Nat), (∀ d : D, d.ok n = true → d.py.canLay0 = true ∧ d.py.depth ≤ n) → ∀ l : List D, (∀ d ∈ l, D.ok n d = true) → PyData.canLayAll0 (D.pys l) = true ∧ PyData.depthAll (D.pys l) ≤ n := by
    intro n ih l
    induction l with
    | nil => intro _; simp [D.pys, PyData.canLayAll0, PyData.depthAll]
    | cons d l hi =>
      intro h
      have h1 := ih d (h d (.head _))
      have h2 := hi fun e he => h e (.tail _ he)
      simp only [D.pys, PyData.canLayAll0, PyData.depthAll, h1.1, h2.1, Bool.and_self, true_and]
      have a1 := h1.2
      have a2 := h2.2
      omega
  intro n
  induction n with
  | zero => intro d h; cases d <;> simp_all [D.ok, D.py, PyData.canLay0, PyData.depth]
  | succ n ih =>
    intro d h
    cases d with
    | none => simp [D.py, PyData.canLay0, PyData.depth]
    | bool b => simp [D.py, PyData.canLay0, PyData.depth]
    | int i => simp [D.py, PyData.canLay0, PyData.depth]
    | str x => simp [D.ok] at h; simp [D.py, PyData.canLay0, PyData.depth, h]
    | tup l =>
      have q := all n ih l (by simpa [D.ok] using h)
      have q2 := q.2
      simp only [D.py, PyData.canLay0, PyData.depth, q.1, true_and]; omega
    | list l =>
      have q := all n ih l (by simpa [D.ok] using h)
      have q2 := q.2
      simp only [D.py, PyData.canLay0, PyData.depth, q.1, true_and]; omega
    | own l =>
      have q := all n ih l (by simpa [D.ok] using h)
      have q2 := q.2
      simp only [D.py, PyData.canLay0, PyData.depth, q.1, true_and]; omega

noncomputable def cEq (a b : D) : Option Bool := if a.ok 8 && b.ok 8 then some (PyData.eqv a.py b.py) else none
noncomputable def cNe (a b : D) : Option Bool := if a.ok 8 && b.ok 8 then some (!PyData.eqv a.py b.py) else none
section
variable {G : Gnd} {k : Nat} {sc : Scope}

theorem AOk.room {A : Around} (h : AOk A k) {n : Nat} (hn : n ≤ 200) : A.units + n < cLine := by
  have := h.2.2; show _ < 9900; omega

theorem cmpEq (a b : D) (c : Bool) (h : cEq a b = some c) : CmpOk G k .Eq a b c := by
  intro A N s va vb hA hb lo ra rb
  unfold cEq at h
  split at h
  · rename_i hc
    cases h
    simp only [Bool.and_eq_true] at hc
    obtain ⟨as, qa⟩ := ra.reads
    obtain ⟨bs, qb⟩ := rb.reads
    have la := D.ok_lay 8 a hc.1
    have lb := D.ok_lay 8 b hc.2
    exact SeqAt.compareEq_reads qa qb la.1 lb.1 (hA.room (by have := la.2; omega)) ⟨rfl, Kp.refl s⟩
  · cases h
theorem cmpNe (a b : D) (c : Bool) (h : cNe a b = some c) : CmpOk G k .NotEq a b c := by
  intro A N s va vb hA hb lo ra rb
  unfold cNe at h
  split at h
  · rename_i hc
    cases h
    simp only [Bool.and_eq_true] at hc
    obtain ⟨as, qa⟩ := ra.reads
    obtain ⟨bs, qb⟩ := rb.reads
    have la := D.ok_lay 8 a hc.1
    have lb := D.ok_lay 8 b hc.2
    exact SeqAt.compareNe_reads qa qb la.1 lb.1 (hA.room (by have := la.2; omega)) ⟨rfl, Kp.refl s⟩
  · cases h

/-! isinstance -/
noncomputable def isInst (T : String) : D → Bool
  | .none => false
  | .bool _ => T == "bool" || T == "int"
  | .int _ => T == "int"
  | .str _ => T == "str"
  | .tup _ => T == "tuple"
  | .list _ => T == "list"
  | .own _ => T == "list"

theorem isi_ok {A : Around} {N : Addr → Prop} {s : Shared} {v : Value} {d : D} {T : String} (hT : T = "int" ∨ T = "bool" ∨ T = "tuple" ∨ T = "list" ∨ T = "str") (r : Rt s.heap N v d) :
    wpAny (model G.prog G.w) A (call (.builtin "isinstance") [v, .type T]) (fun x s' => x = .bool (isInst T d) ∧ Kp s s') NoX s := by
  have ok : ∀ b, (fun x s' => x = Value.bool b ∧ Kp s s') (Value.bool b) s := fun b => ⟨rfl, Kp.refl s⟩
  have tk : ∀ b, (fun x s' => x = Value.bool b ∧ Kp s s') (Value.bool b) { s with toks := s.toks + 1 } := fun b => ⟨rfl, Kp.toks s _⟩
  cases r with
  | own ha _ =>
    rcases hT with rfl | rfl | rfl | rfl | rfl
    · exact IsiPair.list_int ha rfl (tk _)
    · exact IsiPair.list_bool ha rfl (tk _)
    · exact IsiPair.list_tuple ha rfl (tk _)
    · exact IsiPair.list_list ha rfl (ok _)
    · exact IsiPair.list_str ha rfl (tk _)
  | clean r =>
    cases r with
    | none =>
      rcases hT with rfl | rfl | rfl | rfl | rfl
      · exact IsiPair.NoneType_int (tk _)
      · exact IsiPair.NoneType_bool (tk _)
      · exact IsiPair.NoneType_tuple (tk _)
      · exact IsiPair.NoneType_list (tk _)
      · exact IsiPair.NoneType_str (tk _)
    | bool b =>
      rcases hT with rfl | rfl | rfl | rfl | rfl
      · exact IsiPair.bool_int (ok _)
      · exact IsiPair.bool_bool (ok _)
      · exact IsiPair.bool_tuple (tk _)
      · exact IsiPair.bool_list (tk _)
      · exact IsiPair.bool_str (tk _)
    | int i t =>
      rcases hT with rfl | rfl | rfl | rfl | rfl
      · exact IsiPair.int_int (ok _)
      · exact IsiPair.int_bool (tk _)
      · exact IsiPair.int_tuple (tk _)
      · exact IsiPair.int_list (tk _)
      · exact IsiPair.int_str (tk _)
    | str x t =>
      rcases hT with rfl | rfl | rfl | rfl | rfl
      · exact IsiPair.str_int (tk _)
      · exact IsiPair.str_bool (tk _)
      · exact IsiPair.str_tuple (tk _)
      · exact IsiPair.str_list (tk _)
      · exact IsiPair.str_str (ok _)
    | tup ha _ =>
      rcases hT with rfl | rfl | rfl | rfl | rfl
      · exact IsiPair.tuple_int ha rfl (tk _)
      · exact IsiPair.tuple_bool ha rfl (tk _)
      · exact IsiPair.tuple_tuple ha rfl (ok _)
      · exact IsiPair.tuple_list ha rfl (tk _)
      · exact IsiPair.tuple_str ha rfl (tk _)
    | list ha _ _ =>
      rcases hT with rfl | rfl | rfl | rfl | rfl
      · exact IsiPair.list_int ha rfl (tk _)
      · exact IsiPair.list_bool ha rfl (tk _)
      · exact IsiPair.list_tuple ha rfl (tk _)
      · exact IsiPair.list_list ha rfl (ok _)
      · exact IsiPair.list_str ha rfl (tk _)

/-- a builtin name that the text does not bind -/
structure BName (G : Gnd) (sc : Scope) (x : Str) (v : Value) : Prop where
  kind : sc.names.lookup x = some .globalImplicit
  dbg : (x == ("__debug__" : Str)) = false
  no : G.mg x = none
  is : G.mb x = some v

theorem BName.eval {x : Str} {v : Value} (b : BName G sc x v) {A : Around} {env : Env} {s : Shared} {p : Pos} {Q : Value → Shared → Prop} {E : Value → Shared → Prop} (hE : EOk sc env) (hb : Hk G.base s.heap) (h : Q v s) : wpAny (model G.prog G.w) A (PySem.eval (.Name x p) env) Q E s :=
  Calls.Name_function_global hE.kind' (by rw [hE.kindOf]; exact b.kind) (Calls.loadGlobal_builtin (mg := G.mg) (mb := G.mb) (by rw [hE.globals]; exact G.g.keeps hb) b.no (by rw [hE.builtins]; exact G.b.keeps hb) b.is h) b.dbg

theorem SE.isinst {x y : Str} {T : String} {e : Expr} {p q pos : Pos} {m : Loc → Option D} (hT : T = "int" ∨ T = "bool" ∨ T = "tuple" ∨ T = "list" ∨ T = "str") (bx : BName G sc x (.builtin "isinstance")) (bt : BName G sc y (.type T)) (hs : NoStar e) (h : SE G k sc e m) :
    SE G k sc (.Call (.Name x p) [e, .Name y q] [] pos) (fun ρ => (m ρ).map fun d => .bool (isInst T d)) := by
  intro A env N α s ρ d hA hE hb hi hρ
  obtain ⟨d', ed, rfl⟩ := Option.map_eq_some_iff.mp hρ
  refine Call_ (bx.eval hE hb (callWith_builtin1 (args_cons (wpAny_mono (h A env N α s ρ d' hA hE hb hi ed) (fun v s₁ h₁ => ?_) fun _ _ x => x) (hs _ env)) (hs _ env) rfl))
  refine args_cons (bt.eval hE (stays_trans hb h₁.1) (args_nil ?_)) rfl
  refine wpAny_mono (isi_ok hT h₁.2) (fun v' s₂ h₂ => ?_) fun _ _ x => x
  obtain ⟨rfl, k₂⟩ := h₂
  exact ⟨h₁.1.trans k₂, .clean (.bool _)⟩

end
end Mine
end
section
set_option maxRecDepth 20000
set_option linter.unusedVariables false
namespace Mine
open PySem PyProof.Rows

noncomputable def lenD : List D → Option D
  | [d] => (seqOf? d).bind fun l => if l.length < 9223372036854775808 then some (.int l.length) else none
  | _ => none
noncomputable def intsOf? : List D → Option (List Int)
  | [] => some []
  | .int i :: l => (intsOf? l).map (i :: ·)
  | _ => none
noncomputable def sumD : List D → Option D
  | [d] => (D.items? d).bind fun l => (intsOf? l).map fun ns => .int ns.sum
  | _ => none
noncomputable def max2D : List D → Option D
  | [.int a, .int b] => some (.int (if b > a then b else a))
  | _ => none
theorem Rps.ints {h : Heap} {N : Addr → Prop} : ∀ {vs ds} {ns : List Int}, Rps h N vs ds → intsOf? ds = some ns → IntsAre vs ns
  | _, _, _, .nil, e => by cases e; exact .nil
  | _, _, _, .cons (d := d) x r, e => by
    cases d with
    | int i =>
      simp only [intsOf?] at e
      obtain ⟨ms, e1, rfl⟩ := Option.map_eq_some_iff.mp e
      cases x
      exact .cons _ _ (Rps.ints r e1)
    | _ => simp [intsOf?] at e

theorem ints_at : ∀ {vs : List Value} {ns : List Int}, IntsAre vs ns → ∀ (i : Nat) v, vs[i]? = some v → ∃ t, v = .int (ns.getD i 0) t
  | _, _, .nil, i, v, h => by simp at h
  | _, _, .cons n t r, 0, v, h => by simp at h; subst h; exact ⟨t, rfl⟩
  | _, _, .cons n t r, i + 1, v, h => by
    obtain ⟨t', e⟩ := ints_at r i v (by simpa using h)
    exact ⟨t', by simpa using e⟩

section
variable {G : Gnd} {k : Nat} {sc : Scope}

theorem bfLen : BfOk G k (.builtin "len") lenD := by
  intro A N s vals ds r hA hb lo ra e
  unfold lenD at e
  split at e
  · rename_i d
    obtain ⟨l, el, e⟩ := Option.bind_eq_some_iff.mp e
    split at e
    · rename_i hz
      cases e
      cases ra with
      | cons rd rn =>
        cases rn
        have fin : ∀ n : Nat, n = l.length → Po s N (.int l.length) (.int n (s.toks + 1)) { s with toks := s.toks + 1 + 1 } := fun n e => by subst e; exact ⟨Kp.toks s _, .clean (.int _ _)⟩
        have list : ∀ {a : Addr} {vs : List Value} {n : Nat}, s.heap.get? a = some (lstO vs n) → Rps s.heap N vs l → wpAny (model G.prog G.w) A (call (.builtin "len") [.ref a]) (Po s N (.int l.length)) NoX s := fun {a vs n} ha rs =>
          Calls.call_len_list ⟨_, ha, rfl, n, rfl⟩ (by rw [List.size_toArray, rs.length]; omega) (fin _ (by rw [List.size_toArray, rs.length]))
        cases rd with
        | own ha rs => simp [seqOf?] at el; subst el; exact list ha rs
        | clean r =>
          cases r with
          | list ha _ rs => simp [seqOf?] at el; subst el; exact list ha rs
          | @tup a vs n _ ha rs =>
            simp [seqOf?] at el; subst el
            exact len_tuple ⟨_, ha, rfl, n, rfl⟩ (by rw [List.size_toArray, rs.length]; omega) (fin _ (by rw [List.size_toArray, rs.length]))
          | none => cases el
          | bool _ => cases el
          | int _ _ => cases el
          | str _ _ => cases el
    · cases e
  · cases e

theorem bfSum : BfOk G k (.builtin "sum") sumD := by
  intro A N s vals ds r hA hb lo ra e
  unfold sumD at e
  split at e
  · rename_i d
    obtain ⟨l, el, e⟩ := Option.bind_eq_some_iff.mp e
    obtain ⟨ns, en, rfl⟩ := Option.map_eq_some_iff.mp e
    cases ra with
    | cons rd rn =>
      cases rn
      obtain ⟨a, vs, n, rfl, ha, rs⟩ := rd.items el
      have hi := rs.ints en
      refine call_sum_walkG (wpAny_pyIter_list ⟨_, ha, rfl, n, rfl⟩ ?_)
      have hne : a ≠ s.heap.objs.size := Nat.ne_of_lt (Heap.lt_size ha)
      refine ⟨_, _, _, _, _, _, (fun i => ns.getD i 0), rfl, Walks.list (A := A.in1) hA.1 s.heap.objs.size a hne vs.toArray, ⟨⟨_, Heap.get?_push_size _ rfl, rfl, rfl⟩, ⟨_, Heap.get?_push_of_some _ ha, rfl, n, rfl⟩⟩, fun b hb => ?_, fun i v hv => ?_, fun h' tk t' hk => ?_⟩
      · simp at hb
        have := Heap.size_push s.heap { cls := .type "list_iterator", data := .fields #[.ref a, .int 0 0] }
        rcases hb with rfl | rfl
        · rw [this]; exact Nat.lt_succ_self _
        · rw [this]; exact Nat.lt_succ_of_lt (Heap.lt_size ha)
      · exact ints_at hi i v (by simpa using hv)
      · refine ⟨⟨h', tk, rfl, fun b o e => hk b o (fun q => ?_) (Heap.get?_push_of_some _ e)⟩, ?_⟩
        · simp at q; subst q; rw [get_size] at e; cases e
        · rw [preSum_getD, List.size_toArray, hi.length, List.take_length]; exact .clean (.int _ _)
  · cases e

theorem bfMax2 : BfOk G k (.builtin "max") max2D := by
  intro A N s vals ds r hA hb lo ra e
  unfold max2D at e
  split at e
  · cases e
    cases ra with
    | cons r1 ra => cases ra with
      | cons r2 ra =>
        cases ra
        obtain ⟨t, rfl⟩ := rt_int r1
        obtain ⟨u, rfl⟩ := rt_int r2
        refine max_two_ints hA.1 fun h' tk hk => ⟨⟨h', tk, rfl, hk⟩, ?_⟩
        split <;> exact .clean (.int _ _)
  · cases e
/-- a builtin, called -/
theorem SE.bcall {x : Str} {id : String} {e : Expr} {rest : List Expr} {p pos : Pos} {Φ : List D → Option D} {ms : Loc → Option (List D)} (hf : BfOk G k (.builtin id) Φ) (b : BName G sc x (.builtin id)) (hs : NoStar e) (hp : ∀ env, (backTo pos (starEach rest env)).any (·.1) = false) (h : SEs G k sc (e :: rest) ms) :
    SE G k sc (.Call (.Name x p) (e :: rest) [] pos) (fun ρ => (ms ρ).bind fun ds => Φ ds) := SE.builtin hf b.kind b.dbg b.no b.is hs hp h

/-- list(x) -/
theorem SF.listOf {x : Str} {e : Expr} {p pos : Pos} {m : Loc → Option D} (b : BName G sc x (.type "list")) (hs : NoStar e) (h : SE G k sc e m) :
    SF G k sc (.Call (.Name x p) [e] [] pos) (fun ρ => (m ρ).bind fun d => (seqOf? d).bind fun l => if l.length ≤ 16777216 then some l else none) := by
  intro A env N α s ρ ds hA hE hb hin hρ
  obtain ⟨d, ed, hρ⟩ := Option.bind_eq_some_iff.mp hρ
  obtain ⟨l, el, hρ⟩ := Option.bind_eq_some_iff.mp hρ
  split at hρ
  · rename_i hz
    have hρ := Option.some.inj hρ
    subst hρ
    refine Call_ (b.eval hE hb (callWith_type1 (args_cons (wpAny_mono (h A env N α s ρ d hA hE hb hin ed) (fun v s₁ h₁ => args_nil ?_) fun _ _ x => x) (hs _ env)) (hs _ env) rfl))
    obtain ⟨k₁, r⟩ := h₁
    have list : ∀ {a : Addr} {vs : List Value} {n : Nat} {T : String}, T = "list" ∨ T = "tuple" → s₁.heap.get? a = some { cls := .type T, data := .seq vs.toArray n } → Rps s₁.heap (Nu N α) vs l → wpAny (model G.prog G.w) A (call (.type "list") [.ref a]) (fun v s' => Kp s s' ∧ ∃ a vs n, v = .ref a ∧ s.heap.get? a = none ∧ s'.heap.get? a = some (lstO vs n) ∧ Rps s'.heap (Nu1 (Nu N α) a) vs l) NoX s₁ := fun {a vs n T} hT ha rs => by
      refine call_list_seq a hT ha rfl rfl (fun h' c hk hD => ?_) (by simp; rw [rs.length, sizeLine_eq]; exact hz)
      exact ⟨k₁.trans ⟨h', s₁.toks, rfl, hk⟩, _, vs, c, rfl, k₁.gone (get_size _), hD, rs.off (get_size _) hk⟩
    cases r with
    | own ha rs => simp [seqOf?] at el; subst el; exact list (.inl rfl) ha rs
    | clean r =>
      cases r with
      | list ha _ rs => simp [seqOf?] at el; subst el; exact list (.inl rfl) ha rs
      | tup ha rs => simp [seqOf?] at el; subst el; exact list (.inr rfl) ha rs
      | none => cases el
      | bool _ => cases el
      | int _ _ => cases el
      | str _ _ => cases el
  · cases hρ

theorem range_iter {fz : Bool} {target : Expr} {t : Tg} {A : Around} {N : Addr → Prop} {s S : Shared} {r : Addr} {n : Int} {t₀ u v : Tok} (ht : tgOf target = some t) (hA : AOk A k) (kS : Kp s S) (hR : IsRange S.heap r 0 n 1 t₀ u v) (hz : n ≤ 16777216 ∧ -16777216 ≤ n) :
    wpAny (model G.prog G.w) A (pyIter (.ref r)) (fun it s₂ => Kp s s₂ ∧ (rangeD 0 n.toNat).length ≤ sizeLine ∧
      ∃ I fp wr vs ds₀ St, it = .ref I ∧ Wk G A target I fp wr vs ds₀ (rangeD 0 n.toNat) St ∧ St 0 s₂.heap ∧ Rps s₂.heap N vs ds₀ ∧ (∀ b ∈ wr, s.heap.get? b = none) ∧ (∀ b ∈ fp, ∃ o, s₂.heap.get? b = some o) ∧
      ∀ b ∈ fp, s.heap.get? b = none ∨ (∃ us j, s.heap.get? b = some (lstO us j) ∧ (fz = true → ¬ N b)) ∨ ∃ us j, s.heap.get? b = some (tupO us j)) NoX S := by
  refine wpAny_pyIter_range hR (small_one (by omega) (by omega) (by omega) (by omega)) ?_
  have hsz : Builtin.Range.rangeSize 0 n 1 = (n.toNat : Int) := by rw [rangeSize_one]; split <;> omega
  have hI : (S.heap.push { cls := .type "range_iterator", data := .fields #[rawInt 0, rawInt (Builtin.Range.rangeSize 0 n 1), rawInt 1] }).get? S.heap.objs.size = some { cls := .type "range_iterator", data := .fields #[rawInt 0, rawInt (Builtin.Range.rangeSize 0 n 1), rawInt 1] } := Heap.get?_push_size _ rfl
  have hg : s.heap.get? S.heap.objs.size = none := kS.gone (get_size _)
  refine ⟨kS.trans (Kp.push S _), by rw [sizeLine_eq]; simp [rangeD]; omega, S.heap.objs.size, [S.heap.objs.size], [S.heap.objs.size], [], [], _, rfl, Wk.range hA.1 ht S.heap.objs.size 0 n.toNat, ?_, .nil, fun b hb => ?_, fun b hb => ?_, fun b hb => ?_⟩
  · show Heap.get? _ _ = _
    rw [hsz] at hI
    rw [hsz, hI]
    simp
  · rw [List.mem_singleton.mp hb]; exact hg
  · rw [List.mem_singleton.mp hb]; exact ⟨_, hI⟩
  · rw [List.mem_singleton.mp hb]; exact .inl hg

/-- for .. in range(n) -/
theorem SI.range {fz : Bool} {target e : Expr} {t : Tg} {x : Str} {p pos : Pos} {m : Loc → Option D} (ht : tgOf target = some t) (b : BName G sc x (.type "range")) (hs : NoStar e) (h : SE G k sc e m) :
    SI G k sc fz target (.Call (.Name x p) [e] [] pos) (fun ρ => (m ρ).bind fun d => match d with | .int n => if n ≤ 16777216 ∧ -16777216 ≤ n then some (rangeD 0 n.toNat) else none | _ => none) := by
  intro A env N α s ρ ds hA hE hb hin hρ
  obtain ⟨d, ed, hρ⟩ := Option.bind_eq_some_iff.mp hρ
  split at hρ
  · rename_i n
    split at hρ
    · rename_i hz
      cases hρ
      refine Call_ (b.eval hE hb (callWith_type1 (args_cons (wpAny_mono (h A env N α s ρ _ hA hE hb hin ed) (fun v s₁ h₁ => args_nil ?_) fun _ _ x => x) (hs _ env)) (hs _ env) rfl))
      obtain ⟨k₁, r⟩ := h₁
      obtain ⟨u, rfl⟩ := rt_int r
      refine call_range_1 ?_
      exact range_iter ht hA (k₁.trans ⟨_, s₁.toks + 1 + 1, rfl, fun b o e => Heap.get?_push_of_some _ e⟩) (IsRange.new _ _ _ _ _ _ _) hz
    · cases hρ
  · cases hρ

/-! is None -/
noncomputable def cIsNot (a b : D) : Option Bool := match b with
  | .none => some (!a.isNone)
  | _ => none
theorem rt_none {h : Heap} {N v d} (r : Rt h N v d) : (v == Value.none) = d.isNone := by
  cases r with
  | clean r => cases r <;> rfl
  | own _ _ => rfl
theorem cmpIsNot (a b : D) (c : Bool) (h : cIsNot a b = some c) : CmpOk G k .IsNot a b c := by
  intro A N s va vb hA hb lo ra rb
  unfold cIsNot at h
  split at h
  · cases h
    have : vb = .none := rb.isNone rfl
    subst this
    exact isnot_none_gen ⟨by rw [rt_none ra], Kp.refl s⟩
  · cases h

/-! truth -/
theorem truthy_ok {A : Around} {N : Addr → Prop} {s : Shared} {v : Value} {d : D} {b : Bool} (r : Rt s.heap N v d) (e : d.truth? = some b) : wpAny (model G.prog G.w) A (truthy v) (fun b' s' => b' = b ∧ Kp s s') NoX s := by
  cases d with
  | none =>
    cases e
    have : v = .none := r.isNone rfl
    subst this
    exact truthy_none ⟨rfl, Kp.refl s⟩
  | bool c =>
    cases e
    cases r with
    | clean r => cases r; exact wpAny_truthy_bool ⟨rfl, Kp.refl s⟩
  | list l =>
    simp only [D.truth?] at e
    split at e
    · rename_i hz
      cases e
      cases r with
      | clean r =>
        cases r with
        | @list a vs n _ ha hn rs =>
          refine wpAny_truthy_list ⟨_, ha, rfl, n, rfl⟩ (by rw [List.size_toArray, rs.length]; omega) ⟨?_, Kp.toks s _⟩
          cases rs <;> rfl
    · cases e
  | own l =>
    simp only [D.truth?] at e
    split at e
    · rename_i hz
      cases e
      cases r with
      | clean r => cases r
      | @own a vs n _ ha rs =>
        refine wpAny_truthy_list ⟨_, ha, rfl, n, rfl⟩ (by rw [List.size_toArray, rs.length]; omega) ⟨?_, Kp.toks s _⟩
        cases rs <;> rfl
    · cases e
  | _ => cases e

noncomputable def plainTest (e : Expr) : Prop := ∀ env whole, isTrue e env whole = (do let v ← whole; standAt e.pos; holding [v] (truthy v))
theorem ST.plain {e : Expr} {m : Loc → Option D} (hp : plainTest e) (h : SE G k sc e m) : ST G k sc e (fun ρ => (m ρ).bind D.truth?) := by
  intro A env N α s ρ b hA hE hb hi hρ
  obtain ⟨d, ed, hρ⟩ := Option.bind_eq_some_iff.mp hρ
  refine isTrue_plain (wpAny_mono (h A env N α s ρ d hA hE hb hi ed) (fun v s₁ h₁ => ?_) fun _ _ x => x) (hp env _)
  exact wpAny_mono (truthy_ok h₁.2 hρ) (fun b' s₂ h₂ => ⟨h₂.1, h₁.1.trans h₂.2⟩) fun _ _ x => x

theorem SE.ifexp {test body orelse : Expr} {pos : Pos} {c : Loc → Option Bool} {ma mb : Loc → Option D} (ht : ST G k sc test c) (h1 : SE G k sc body ma) (h2 : SE G k sc orelse mb) :
    SE G k sc (.IfExp test body orelse pos) (fun ρ => (c ρ).bind fun b => if b then ma ρ else mb ρ) := by
  intro A env N α s ρ d hA hE hb hi hρ
  obtain ⟨b, eb, hρ⟩ := Option.bind_eq_some_iff.mp hρ
  refine IfExp_ (wpAny_mono (ht A env N α s ρ b hA hE hb hi eb) (fun b' s₁ h₁ => ?_) fun _ _ x => x)
  obtain ⟨rfl, k₁⟩ := h₁
  cases b' with
  | true => exact wpAny_mono (h1 A env N α s₁ ρ d hA hE (stays_trans hb k₁) (hi.keep k₁.heap) hρ) (fun v s₂ h₂ => ⟨k₁.trans h₂.1, h₂.2⟩) fun _ _ x => x
  | false => exact wpAny_mono (h2 A env N α s₁ ρ d hA hE (stays_trans hb k₁) (hi.keep k₁.heap) hρ) (fun v s₂ h₂ => ⟨k₁.trans h₂.1, h₂.2⟩) fun _ _ x => x

theorem SE.and1 {e : Expr} {pos : Pos} {op : BoolOp} {m : Loc → Option D} (h : SE G k sc e m) : SE G k sc (.BoolOp op [e] pos) m :=
  fun A env N α s ρ d hA hE hb hi hρ => BoolOp_one (h A env N α s ρ d hA hE hb hi hρ)
theorem SE.and {e e₂ : Expr} {rest : List Expr} {pos : Pos} {m n : Loc → Option D} (h : SE G k sc e m) (hr : SE G k sc (.BoolOp .And (e₂ :: rest) pos) n) :
    SE G k sc (.BoolOp .And (e :: e₂ :: rest) pos) (fun ρ => (m ρ).bind fun d => (D.truth? d).bind fun b => if b then n ρ else some d) := by
  intro A env N α s ρ d hA hE hb hi hρ
  obtain ⟨d', ed, hρ⟩ := Option.bind_eq_some_iff.mp hρ
  obtain ⟨b, eb, hρ⟩ := Option.bind_eq_some_iff.mp hρ
  refine BoolOp_and (wpAny_mono (h A env N α s ρ d' hA hE hb hi ed) (fun v s₁ h₁ => ?_) fun _ _ x => x)
  refine wpAny_mono (truthy_ok h₁.2 eb) (fun b' s₂ h₂ => ?_) fun _ _ x => x
  obtain ⟨rfl, k₂⟩ := h₂
  have kk := h₁.1.trans k₂
  cases b' with
  | true => exact wpAny_mono (hr A env N α s₂ ρ d hA hE (stays_trans hb kk) (hi.keep kk.heap) hρ) (fun v s₃ h₃ => ⟨kk.trans h₃.1, h₃.2⟩) fun _ _ x => x
  | false => cases hρ; exact ⟨kk, h₁.2.keep k₂.heap⟩
theorem SE.or {e e₂ : Expr} {rest : List Expr} {pos : Pos} {m n : Loc → Option D} (h : SE G k sc e m) (hr : SE G k sc (.BoolOp .Or (e₂ :: rest) pos) n) :
    SE G k sc (.BoolOp .Or (e :: e₂ :: rest) pos) (fun ρ => (m ρ).bind fun d => (D.truth? d).bind fun b => if b then some d else n ρ) := by
  intro A env N α s ρ d hA hE hb hi hρ
  obtain ⟨d', ed, hρ⟩ := Option.bind_eq_some_iff.mp hρ
  obtain ⟨b, eb, hρ⟩ := Option.bind_eq_some_iff.mp hρ
  refine BoolOp_or (wpAny_mono (h A env N α s ρ d' hA hE hb hi ed) (fun v s₁ h₁ => ?_) fun _ _ x => x)
  refine wpAny_mono (truthy_ok h₁.2 eb) (fun b' s₂ h₂ => ?_) fun _ _ x => x
  obtain ⟨rfl, k₂⟩ := h₂
  have kk := h₁.1.trans k₂
  cases b' with
  | false => exact wpAny_mono (hr A env N α s₂ ρ d hA hE (stays_trans hb kk) (hi.keep kk.heap) hρ) (fun v s₃ h₃ => ⟨kk.trans h₃.1, h₃.2⟩) fun _ _ x => x
  | true => cases hρ; exact ⟨kk, h₁.2.keep k₂.heap⟩

theorem SE.not {e : Expr} {pos : Pos} {m : Loc → Option D} (h : SE G k sc e m) : SE G k sc (.UnaryOp .Not e pos) (fun ρ => (m ρ).bind fun d => (D.truth? d).map fun b => .bool (!b)) := by
  intro A env N α s ρ d hA hE hb hi hρ
  obtain ⟨d', ed, hρ⟩ := Option.bind_eq_some_iff.mp hρ
  obtain ⟨b, eb, rfl⟩ := Option.map_eq_some_iff.mp hρ
  refine UnaryOp_ (wpAny_mono (h A env N α s ρ d' hA hE hb hi ed) (fun v s₁ h₁ => ?_) fun _ _ x => x)
  refine not_of (wpAny_mono (truthy_ok h₁.2 eb) (fun b' s₂ h₂ => ?_) fun _ _ x => x)
  obtain ⟨rfl, k₂⟩ := h₂
  exact ⟨h₁.1.trans k₂, .clean (.bool _)⟩

end
end Mine
end
section
set_option maxRecDepth 20000
set_option linter.unusedVariables false
namespace Mine
open PySem PyProof.Rows

section
variable {G : Gnd} {k : Nat} {sc : Scope}

/-! a <= b < c -/
/-! enumerate -/
noncomputable def enumD : Nat → List D → List D
  | _, [] => []
  | i, d :: ds => .tup [.int i, d] :: enumD (i + 1) ds
theorem enumD_length : ∀ (i : Nat) (ds : List D), (enumD i ds).length = ds.length
  | _, [] => rfl
  | i, _ :: ds => by simp [enumD, enumD_length (i + 1) ds]
theorem enumD_get : ∀ (k : Nat) (ds : List D) (i : Nat) {e : D}, (enumD k ds)[i]? = some e → ∃ d, ds[i]? = some d ∧ e = .tup [.int ((k + i : Nat) : Int), d]
  | _, [], i, e, h => by simp [enumD] at h
  | k, d :: ds, 0, e, h => by simp [enumD] at h; exact ⟨d, by simp, by simp [h]⟩
  | k, d :: ds, i + 1, e, h => by
    obtain ⟨d', h1, h2⟩ := enumD_get (k + 1) ds i (by simpa [enumD] using h)
    exact ⟨d', by simpa using h1, by rw [h2, show k + 1 + i = k + (i + 1) by omega]⟩

theorem enum_not_seq {h : Heap} {e it : Addr} {i : Int} {old : Value} (q : IsEnum h e it i old) (us : List Value) (j : Nat) : h.get? e ≠ some (lstO us j) ∧ h.get? e ≠ some (tupO us j) := by
  constructor <;> (intro p; rw [q] at p; have := congrArg (fun o : Option Obj => o.map Obj.cls) p; simp at this)
theorem get_past (h : Heap) : h.get? (h.objs.size + 1) = none := by
  cases q : h.get? (h.objs.size + 1) with
  | none => rfl
  | some o => exact absurd (Heap.lt_size q) (Nat.not_lt.mpr (Nat.le_succ _))
theorem Wk.enum {A : Around} {es : List Expr} {kd : Nat} {tp : Pos} (hh : A.handled = none) (e it l : Addr) (hei : e ≠ it) (hle : l ≠ e) (hli : l ≠ it) (vs : List Value) (ds : List D) (hl : vs.length = ds.length) :
    Wk G A (.Tuple es kd tp) e [e, it, l] [e, it] vs ds (enumD 0 ds) (fun i h => (∃ old, IsEnum h e it i old) ∧ h.IsListIter it l i ∧ ∃ n, h.get? l = some (lstO vs n)) where
  sub := fun b hb => by simp at hb; rcases hb with rfl | rfl <;> simp
  frame := fun _ _ _ st hk => ⟨let ⟨o, q⟩ := st.1; ⟨o, hk e (by simp) _ q⟩, st.2.1.at fun o q => hk it (by simp) o q, let ⟨n, q⟩ := st.2.2; ⟨n, hk l (by simp) _ q⟩⟩
  kind := fun i h st b hb us j => by
    simp at hb
    rcases hb with rfl | rfl
    · obtain ⟨old, q⟩ := st.1
      exact enum_not_seq q us j
    · obtain ⟨o, ho, hc, hd⟩ := st.2.1
      constructor <;> (intro q; rw [ho] at q; cases q; cases hd)
  exist := fun i h st b hb => by
    simp at hb
    rcases hb with rfl | rfl
    · obtain ⟨old, q⟩ := st.1; exact ⟨_, q⟩
    · obtain ⟨o, ho, _⟩ := st.2.1; exact ⟨o, ho⟩
  item := fun i s d N Q R E hi st rv lo hR hQ => by
    obtain ⟨⟨old, he⟩, hit, n, hax⟩ := st
    obtain ⟨d', hd', rfl⟩ := enumD_get 0 ds i hi
    obtain ⟨v, hv, rp⟩ := rv.get hd'
    refine wpAny_pyNext_enum_item he hit ⟨_, hax, rfl, n, rfl⟩ (x := v) (by simpa using hv) hei fun h' ho hit' hT hsz hk => ?_
    refine hR _ _ ?_
    refine wpAny_letOwnedTupleGo_enum ho fun h'' he'' hs'' => ?_
    have hTe : s.heap.objs.size ≠ e := Nat.ne_of_gt (Heap.lt_size he)
    have keep : ∀ b o, b ∉ [e, it] → s.heap.get? b = some o → h''.get? b = some o := fun b o hb q => by
      simp at hb
      exact (hs''.2 b hb.1).trans (hk b o hb.1 hb.2 q)
    refine hQ _ h'' _ ⟨⟨_, he''⟩, hit'.at fun o q => (hs''.2 it (Ne.symm hei)).trans q, n, keep l _ (by simp [hle, hli]) hax⟩ keep ?_
    have rp' : Rp h'' N v d' := by
      obtain ⟨o1, ho1, hc1, hd1⟩ := hit
      refine rp.change (fun b us j q => keep b _ (fun m => ?_) q) fun b us j q hn => ⟨keep b _ (fun m => ?_) q, hn⟩
      · simp at m
        rcases m with rfl | rfl
        · exact (enum_not_seq he us j).2 q
        · rw [ho1] at q; cases q; cases hd1
      · simp at m
        rcases m with rfl | rfl
        · exact (enum_not_seq he us j).1 q
        · rw [ho1] at q; cases q; cases hd1
    have hT'' : h''.get? s.heap.objs.size = some (tupO [.int i s.toks, v] 0) := (hs''.2 _ hTe).trans hT
    simp only [Nat.zero_add]
    exact .tup hT'' (.cons (.int _ _) (.one rp'))
  done := fun s Q E st hQ => by
    obtain ⟨⟨old, he⟩, hit, n, hax⟩ := st
    rw [enumD_length] at he hit
    exact wpAny_pyNext_enum_end hh he hit ⟨_, hax, rfl, n, rfl⟩ (by simp [hl]) fun h' he' => hQ h' s.toks fun b o hb q => he' b o (fun h => hb (by simp [h])) q
  self := fun _ _ _ _ st hQ => let ⟨_, he⟩ := st.1; wpAny_pyIter_enum he hQ

noncomputable def iEnum (fz : Bool) (m : Loc → Option D) : Loc → Option (List D) := fun ρ => (m ρ).bind fun d => (listOf? fz d).bind fun l => if l.length ≤ 16777216 then some (enumD 0 l) else none
theorem SI.enum {fz : Bool} {e : Expr} {es : List Expr} {kd : Nat} {tp : Pos} {x : Str} {p pos : Pos} {m : Loc → Option D} (b : BName G sc x (.type "enumerate")) (hs : NoStar e) (h : SE G k sc e m) :
    SI G k sc fz (.Tuple es kd tp) (.Call (.Name x p) [e] [] pos) (iEnum fz m) := by
  intro A env N α s ρ ds hA hE hb hin hρ
  obtain ⟨d, ed, hρ⟩ := Option.bind_eq_some_iff.mp hρ
  obtain ⟨l, el, hρ⟩ := Option.bind_eq_some_iff.mp hρ
  split at hρ
  · rename_i hz
    cases hρ
    refine Call_ (b.eval hE hb (callWith_type1 (args_cons (wpAny_mono (h A env N α s ρ d hA hE hb hin ed) (fun v s₁ h₁ => args_nil ?_) fun _ _ x => x) (hs _ env)) (hs _ env) rfl))
    obtain ⟨k₁, rt⟩ := h₁
    have it : d.items? = some l := by cases d <;> simp [listOf?] at el <;> simp [D.items?, el]
    obtain ⟨a, vs, n, rfl, ha, rs⟩ := rt.items it
    refine call_enumerate_list ⟨_, ha, rfl, n, rfl⟩ fun h' hE' hI hsz hk => ?_
    have k₂ : Kp s { s₁ with heap := h' } := k₁.trans ⟨h', s₁.toks, rfl, hk⟩
    have hlt := Heap.lt_size ha
    refine wpAny_pyIter_enum hE' ⟨k₂, by rw [sizeLine_eq, enumD_length]; exact hz, _, _, _, _, _, _, rfl, Wk.enum hA.1 (s₁.heap.objs.size + 1) s₁.heap.objs.size a (Nat.succ_ne_self _) (Nat.ne_of_lt (Nat.lt_succ_of_lt hlt)) (Nat.ne_of_lt hlt) vs l rs.length, ⟨⟨_, hE'⟩, hI, n, hk _ _ ha⟩, rs.keep hk, fun b hb => ?_, fun b hb => ?_, fun b hb => ?_⟩
    · have g0 : s₁.heap.get? s₁.heap.objs.size = none := get_size _
      have g1 : s₁.heap.get? (s₁.heap.objs.size + 1) = none := get_past _
      simp at hb
      rcases hb with rfl | rfl
      · exact k₁.gone g1
      · exact k₁.gone g0
    · simp at hb
      rcases hb with rfl | rfl | rfl
      · exact ⟨_, hE'⟩
      · obtain ⟨o, ho, _⟩ := hI; exact ⟨o, ho⟩
      · exact ⟨_, hk _ _ ha⟩
    · have g0 : s₁.heap.get? s₁.heap.objs.size = none := get_size _
      have g1 : s₁.heap.get? (s₁.heap.objs.size + 1) = none := get_past _
      simp at hb
      rcases hb with rfl | rfl | rfl
      · exact .inl (k₁.gone g1)
      · exact .inl (k₁.gone g0)
      · cases hs : s.heap.get? b with
        | none => exact .inl rfl
        | some o =>
          have := k₁.heap _ _ hs
          rw [ha] at this
          cases this
          refine .inr (.inl ⟨vs, n, rfl, fun q => ?_⟩)
          cases rt with
          | clean r => cases r with
            | list _ hn _ => exact hn
            | tup _ _ => simp [listOf?] at el
          | own _ _ => simp [listOf?, q] at el
  · cases hρ

end
end Mine
end
section
set_option maxRecDepth 20000
set_option linter.unusedVariables false
namespace Mine
open PySem PyProof.Rows

section
variable {G : Gnd} {k : Nat} {sc : Scope}

theorem Kp.iter {s : Shared} {a : Addr} {h' : Heap} {tk : Nat} (hk : ∀ b o, b ∉ [s.heap.objs.size] → (s.heap.push { cls := .type "list_iterator", data := .fields #[.ref a, .int 0 0] }).get? b = some o → h'.get? b = some o) :
    Kp s { s with heap := h', toks := tk } := ⟨h', tk, rfl, fun b o e => hk b o (fun q => by simp at q; subst q; rw [get_size] at e; cases e) (Heap.get?_push_of_some _ e)⟩

/-! min(.., default=None) -/
end
end Mine
end
section
set_option maxRecDepth 20000
set_option linter.unusedVariables false
namespace Mine
open PySem PyProof.Rows

section
variable {G : Gnd} {k : Nat} {sc : Scope}

end
end Mine
end
section
set_option maxRecDepth 20000
set_option linter.unusedVariables false
namespace Mine
open PySem PyProof.Rows PySem.Calls

/-! names for what the rules tell -/
noncomputable def eV (x : String) : Loc → Option D := fun ρ => ρ (Str.ofString x)
noncomputable def eI (i : Int) : Loc → Option D := fun _ => some (.int i)
noncomputable def eB (b : Bool) : Loc → Option D := fun _ => some (.bool b)
noncomputable def eN : Loc → Option D := fun _ => some .none
noncomputable def eBin (f : D → D → Option D) (a b : Loc → Option D) : Loc → Option D := fun ρ => (a ρ).bind fun x => (b ρ).bind fun y => f x y
noncomputable def eCmp (f : D → D → Option Bool) (a b : Loc → Option D) : Loc → Option D := fun ρ => (a ρ).bind fun x => (b ρ).bind fun y => (f x y).map .bool
noncomputable def tCmp (f : D → D → Option Bool) (a b : Loc → Option D) : Loc → Option Bool := fun ρ => (a ρ).bind fun x => (b ρ).bind fun y => f x y
noncomputable def tNot (m : Loc → Option Bool) : Loc → Option Bool := fun ρ => (m ρ).map (!·)
noncomputable def tTrue : Loc → Option Bool := fun _ => some true
noncomputable def tFalse : Loc → Option Bool := fun _ => some false
noncomputable def tAnd (m n : Loc → Option Bool) : Loc → Option Bool := fun ρ => (m ρ).bind fun b => if b then n ρ else some false
noncomputable def tOr (m n : Loc → Option Bool) : Loc → Option Bool := fun ρ => (m ρ).bind fun b => if b then some true else n ρ
noncomputable def tPl (m : Loc → Option D) : Loc → Option Bool := fun ρ => (m ρ).bind D.truth?
noncomputable def eAnd (m n : Loc → Option D) : Loc → Option D := fun ρ => (m ρ).bind fun d => (D.truth? d).bind fun b => if b then n ρ else some d
noncomputable def eNot (m : Loc → Option D) : Loc → Option D := fun ρ => (m ρ).bind fun d => (D.truth? d).map fun b => .bool (!b)
noncomputable def eIf (c : Loc → Option Bool) (a b : Loc → Option D) : Loc → Option D := fun ρ => (c ρ).bind fun t => if t then a ρ else b ρ
noncomputable def dNeg : D → Option D
  | .int i => some (.int (-i))
  | _ => none
noncomputable def eNeg (m : Loc → Option D) : Loc → Option D := fun ρ => (m ρ).bind dNeg
noncomputable def eSub (a b : Loc → Option D) : Loc → Option D := fun ρ => (a ρ).bind fun o => (b ρ).bind fun i => dGet o i
noncomputable def esNil : Loc → Option (List D) := fun _ => some []
noncomputable def esCons (m : Loc → Option D) (ms : Loc → Option (List D)) : Loc → Option (List D) := fun ρ => (m ρ).bind fun d => (ms ρ).bind fun ds => some (d :: ds)
noncomputable def eTup (ms : Loc → Option (List D)) : Loc → Option D := fun ρ => (ms ρ).bind fun ds => if ds.all D.clean then some (.tup ds) else none
noncomputable def eCall (Φ : List D → Option D) (ms : Loc → Option (List D)) : Loc → Option D := fun ρ => (ms ρ).bind fun ds => callD Φ ds
noncomputable def eBi (Φ : List D → Option D) (ms : Loc → Option (List D)) : Loc → Option D := fun ρ => (ms ρ).bind fun ds => Φ ds
noncomputable def eIsI (T : String) (m : Loc → Option D) : Loc → Option D := fun ρ => (m ρ).map fun d => .bool (isInst T d)
noncomputable def eL (l : Loc → Option (List D)) : Loc → Option D := fun ρ => (l ρ).map .list
noncomputable def lDisp (ms : Loc → Option (List D)) : Loc → Option (List D) := fun ρ => (ms ρ).bind fun ds => if ds.all D.clean then some ds else none
noncomputable def lSlice (mv : Loc → Option D) (ml mu : Loc → Option (Option Int)) : Loc → Option (List D) :=
  fun ρ => (mv ρ).bind fun o => (ml ρ).bind fun lo => (mu ρ).bind fun hi => (D.items? o).bind fun l => if l.length ≤ 16777216 then some (sliceL l lo hi) else none
noncomputable def bNo : Loc → Option (Option Int) := fun _ => some none
noncomputable def lCat (ml mr : Loc → Option D) : Loc → Option (List D) := fun ρ => (ml ρ).bind fun a => (mr ρ).bind fun b => (D.items? a).bind fun x => (D.items? b).bind fun y => if x.length + y.length ≤ 16777216 then some (x ++ y) else none
noncomputable def lOf (m : Loc → Option D) : Loc → Option (List D) := fun ρ => (m ρ).bind fun d => (seqOf? d).bind fun l => if l.length ≤ 16777216 then some l else none
noncomputable def walkOf? (fz : Bool) : D → Option (List D)
  | .list l => some l
  | .own l => if fz then none else some l
  | .tup l => some l
  | _ => none
noncomputable def iSeq (fz : Bool) (m : Loc → Option D) : Loc → Option (List D) := fun ρ => (m ρ).bind fun d => (walkOf? fz d).bind fun l => if l.length ≤ 16777216 then some l else none
noncomputable def iRange (m : Loc → Option D) : Loc → Option (List D) := fun ρ => (m ρ).bind fun d => match d with | .int n => if n ≤ 16777216 ∧ -16777216 ≤ n then some (rangeD 0 n.toNat) else none | _ => none
noncomputable def sPass : Loc → Option Out := fun ρ => some (.next ρ)
noncomputable def sNo : Loc → Option Out := fun _ => none
noncomputable def sAsg (x : String) (m : Loc → Option D) : Loc → Option Out := fun ρ => (m ρ).bind fun d => if d.clean then some (.next (upd ρ (Str.ofString x) d)) else none
noncomputable def sOwn (x : String) (l : Loc → Option (List D)) : Loc → Option Out := fun ρ => (l ρ).bind fun ds => some (.next (upd ρ (Str.ofString x) (.own ds)))
noncomputable def sLst (x : String) (l : Loc → Option (List D)) : Loc → Option Out := fun ρ => (l ρ).bind fun ds => some (.next (upd ρ (Str.ofString x) (.list ds)))
noncomputable def sRet (m : Loc → Option D) : Loc → Option Out := fun ρ => (m ρ).bind fun d => if d.clean then some (.ret d) else none
noncomputable def sRetN (x : String) : Loc → Option Out := fun ρ => (ρ (Str.ofString x)).map fun d => .ret d.frz
noncomputable def sIf (c : Loc → Option Bool) (a b : Loc → Option Out) : Loc → Option Out := fun ρ => (c ρ).bind fun t => if t then a ρ else b ρ
noncomputable def sExpr (m : Loc → Option D) : Loc → Option Out := fun ρ => (m ρ).bind fun d => if d.isNone then some (.next ρ) else none
noncomputable def sFor (t : Tg) (mi : Loc → Option (List D)) (mb : Loc → Option Out) : Loc → Option Out := fun ρ => (mi ρ).bind fun ds => forM t mb ds ρ
noncomputable def sApp (x : String) (m : Loc → Option D) : Loc → Option Out := fun ρ => (m ρ).bind fun d => match ρ (Str.ofString x) with
      | some (.own l) => if d.clean = true ∧ l.length < 16777216 then some (.next (upd ρ (Str.ofString x) (.own (l ++ [d])))) else none
      | _ => none
noncomputable def sSet (x : String) (mi me : Loc → Option D) : Loc → Option Out := fun ρ => (me ρ).bind fun d => (mi ρ).bind fun j => match ρ (Str.ofString x), j with
      | some (.own l), .int j => if d.clean = true ∧ 0 ≤ j ∧ j < l.length ∧ j < 9223372036854775808 then some (.next (upd ρ (Str.ofString x) (.own (l.set j.toNat d)))) else none
      | _, _ => none
noncomputable def nms (xs : List String) : List Str := xs.map Str.ofString
noncomputable def sUnp (xs : List String) (m : Loc → Option D) : Loc → Option Out := fun ρ => (m ρ).bind fun d => (bindT (.many (nms xs)) d ρ).map .next
noncomputable def t1 (x : String) : Tg := .one (Str.ofString x)
noncomputable def tN (xs : List String) : Tg := .many (nms xs)

noncomputable def okName (sc : Scope) (x : String) : Bool := isVar (sc.names.lookup (Str.ofString x)) && !(Str.ofString x == ("__debug__" : Str)) && !(Str.ofString x == ("__classdict__" : Str)) && !(Str.ofString x == dot0)
noncomputable def okGlob (sc : Scope) (x : String) : Bool := (match sc.names.lookup (Str.ofString x) with | some .globalImplicit => true | _ => false) && !(Str.ofString x == ("__debug__" : Str))
theorem okGlob.ok {sc : Scope} {x : String} (h : okGlob sc x = true) : sc.names.lookup (Str.ofString x) = some .globalImplicit ∧ (Str.ofString x == ("__debug__" : Str)) = false := by
  simp only [okGlob, Bool.and_eq_true, Bool.not_eq_true'] at h
  refine ⟨?_, h.2⟩
  have h1 := h.1
  split at h1
  · assumption
  · cases h1
theorem okG1 {sc : Scope} {x : String} (h : okGlob sc x = true) : sc.names.lookup (Str.ofString x) = some .globalImplicit := (okGlob.ok h).1
theorem okG2 {sc : Scope} {x : String} (h : okGlob sc x = true) : (Str.ofString x == ("__debug__" : Str)) = false := (okGlob.ok h).2
noncomputable def notDbg (x : String) : Bool := !(Str.ofString x == ("__debug__" : Str))
theorem notDbg.ok {x : String} (h : notDbg x = true) : (Str.ofString x == ("__debug__" : Str)) = false := by simpa [notDbg] using h

section
variable {G : Gnd} {k : Nat} {sc : Scope}

theorem rV {x : String} {pos : Pos} (h : okName sc x = true) : SE G k sc (.Name (Str.ofString x) pos) (eV x) := by
  simp only [okName, Bool.and_eq_true, Bool.not_eq_true'] at h
  exact SE.name h.1.1.1 h.1.1.2 h.1.2 h.2
theorem rI {i : Int} {kd : Nat} {pos : Pos} : SE G k sc (.Constant (.int i) kd pos) (eI i) := SE.cInt
theorem rB {b : Bool} {kd : Nat} {pos : Pos} : SE G k sc (.Constant (.bool b) kd pos) (eB b) := SE.cBool
theorem rN {kd : Nat} {pos : Pos} : SE G k sc (.Constant .none kd pos) eN := SE.cNone
theorem rGlob {x : String} {pos : Pos} {i : Int} (h : okGlob sc x = true) (hg : ∃ t, G.mg (Str.ofString x) = some (.int i t)) : SE G k sc (.Name (Str.ofString x) pos) (eI i) := by
  obtain ⟨t, hg⟩ := hg
  exact SE.glob (okG1 h) (okG2 h) hg
theorem rBin {l r : Expr} {op : Operator} {pos : Pos} {ml mr : Loc → Option D} {f : D → D → Option D} (hf : ∀ a b d, f a b = some d → BinOk G k op a b d) (hl : SE G k sc l ml) (hr : SE G k sc r mr) : SE G k sc (.BinOp l op r pos) (eBin f ml mr) := SE.bin hf hl hr
theorem rCmp {l r : Expr} {op : CmpOp} {pos : Pos} {ml mr : Loc → Option D} {f : D → D → Option Bool} (hf : ∀ a b c, f a b = some c → CmpOk G k op a b c) (hm : behindInMarks op r = false) (hl : SE G k sc l ml) (hr : SE G k sc r mr) : SE G k sc (.Compare l [op] [r] pos) (eCmp f ml mr) := SE.cmp hf hl hr hm
theorem rTCmp {l r : Expr} {op : CmpOp} {pos : Pos} {ml mr : Loc → Option D} {f : D → D → Option Bool} (hf : ∀ a b c, f a b = some c → CmpOk G k op a b c) (hm : behindInMarks op r = false) (hl : SE G k sc l ml) (hr : SE G k sc r mr) : ST G k sc (.Compare l [op] [r] pos) (tCmp f ml mr) := ST.cmp hf hl hr hm
theorem rTNot {e : Expr} {pos : Pos} {m : Loc → Option Bool} (h : ST G k sc e m) : ST G k sc (.UnaryOp .Not e pos) (tNot m) := ST.not h
theorem rAnd0 {pos : Pos} : ST G k sc (.BoolOp .And [] pos) tTrue := ST.and_nil
theorem rOr0 {pos : Pos} : ST G k sc (.BoolOp .Or [] pos) tFalse := ST.or_nil
theorem rTAnd {e : Expr} {rest : List Expr} {pos : Pos} {m n : Loc → Option Bool} (h : ST G k sc e m) (hr : ST G k sc (.BoolOp .And rest pos) n) : ST G k sc (.BoolOp .And (e :: rest) pos) (tAnd m n) := ST.and h hr
theorem rTOr {e : Expr} {rest : List Expr} {pos : Pos} {m n : Loc → Option Bool} (h : ST G k sc e m) (hr : ST G k sc (.BoolOp .Or rest pos) n) : ST G k sc (.BoolOp .Or (e :: rest) pos) (tOr m n) := ST.or h hr
theorem rTPl {e : Expr} {m : Loc → Option D} (hp : plainTest e) (h : SE G k sc e m) : ST G k sc e (tPl m) := ST.plain hp h
theorem rOne {e : Expr} {pos : Pos} {op : BoolOp} {m : Loc → Option D} (h : SE G k sc e m) : SE G k sc (.BoolOp op [e] pos) m := SE.and1 h
theorem rAnd {e e₂ : Expr} {rest : List Expr} {pos : Pos} {m n : Loc → Option D} (h : SE G k sc e m) (hr : SE G k sc (.BoolOp .And (e₂ :: rest) pos) n) : SE G k sc (.BoolOp .And (e :: e₂ :: rest) pos) (eAnd m n) := SE.and h hr
theorem rNot {e : Expr} {pos : Pos} {m : Loc → Option D} (h : SE G k sc e m) : SE G k sc (.UnaryOp .Not e pos) (eNot m) := SE.not h
theorem rIf {test body orelse : Expr} {pos : Pos} {c : Loc → Option Bool} {ma mb : Loc → Option D} (ht : ST G k sc test c) (h1 : SE G k sc body ma) (h2 : SE G k sc orelse mb) : SE G k sc (.IfExp test body orelse pos) (eIf c ma mb) := SE.ifexp ht h1 h2
theorem rNeg {e : Expr} {pos : Pos} {m : Loc → Option D} (h : SE G k sc e m) : SE G k sc (.UnaryOp .USub e pos) (eNeg m) := by
  refine SE.weak (SE.neg h) fun ρ d e => ?_
  obtain ⟨x, e1, e2⟩ := Option.bind_eq_some_iff.mp e
  rw [e1]
  cases x <;> first | exact e2 | cases e2
theorem rSub {value idx : Expr} {pos : Pos} {mv mi : Loc → Option D} (hs : ∀ o i, subscripted idx false o i = operate [o, i] (getItem o i)) (hv : SE G k sc value mv) (hi : SE G k sc idx mi) : SE G k sc (.Subscript value idx pos) (eSub mv mi) := SE.sub hs hv hi
theorem rsNil : SEs G k sc [] esNil := SEs.nil
theorem rsCons {e : Expr} {rest : List Expr} {m : Loc → Option D} {ms : Loc → Option (List D)} (hs : NoStar e) (h : SE G k sc e m) (hr : SEs G k sc rest ms) : SEs G k sc (e :: rest) (esCons m ms) := SEs.cons hs h hr
theorem rTup {es : List Expr} {kd : Nat} {pos : Pos} {ms : Loc → Option (List D)} (hz : es.length ≤ 1000) (h : SEs G k sc es ms) : SE G k sc (.Tuple es kd pos) (eTup ms) := SE.tuple h hz
theorem rCall {j : Nat} {x : String} {f : Addr} {e : Expr} {rest : List Expr} {p pos : Pos} {Φ : List D → Option D} {ms : Loc → Option (List D)} (hf : FnOk G j f Φ) (hg : G.mg (Str.ofString x) = some (.ref f)) (hj : j ≤ k) (hx : okGlob sc x = true) (hs : NoStar e) (h : SEs G k sc (e :: rest) ms) :
    SE G k sc (.Call (.Name (Str.ofString x) p) (e :: rest) [] pos) (eCall Φ ms) := SE.call hf hj (okG1 hx) (okG2 hx) hg hs h
theorem rBi {x : String} {id : String} {e : Expr} {rest : List Expr} {p pos : Pos} {Φ : List D → Option D} {ms : Loc → Option (List D)} (hf : BfOk G k (.builtin id) Φ) (hn : G.mg (Str.ofString x) = none ∧ G.mb (Str.ofString x) = some (.builtin id)) (hx : okGlob sc x = true) (hs : NoStar e) (hp : ∀ env, (backTo pos (starEach rest env)).any (·.1) = false) (h : SEs G k sc (e :: rest) ms) :
    SE G k sc (.Call (.Name (Str.ofString x) p) (e :: rest) [] pos) (eBi Φ ms) := SE.bcall hf ⟨(okG1 hx), (okG2 hx), hn.1, hn.2⟩ hs hp h
theorem rIsI {T : String} {e : Expr} {p q pos : Pos} {m : Loc → Option D} (hT : T = "int" ∨ T = "bool" ∨ T = "tuple" ∨ T = "list" ∨ T = "str") (hn : G.mg (Str.ofString "isinstance") = none ∧ G.mb (Str.ofString "isinstance") = some (.builtin "isinstance")) (ht : G.mg (Str.ofString T) = none ∧ G.mb (Str.ofString T) = some (.type T))
    (hx : okGlob sc "isinstance" = true) (hy : okGlob sc T = true) (hs : NoStar e) (h : SE G k sc e m) :
    SE G k sc (.Call (.Name (Str.ofString "isinstance") p) [e, .Name (Str.ofString T) q] [] pos) (eIsI T m) := SE.isinst hT ⟨(okG1 hx), (okG2 hx), hn.1, hn.2⟩ ⟨(okG1 hy), (okG2 hy), ht.1, ht.2⟩ hs h
theorem rL {e : Expr} {m : Loc → Option (List D)} (h : SF G k sc e m) : SE G k sc e (eL m) := SF.se h
theorem rDisp {es : List Expr} {pos : Pos} {ms : Loc → Option (List D)} (hz : es.length ≤ 1000) (h : SEs G k sc es ms) : SF G k sc (.List es pos) (lDisp ms) := SF.list h hz
theorem rSlice {value : Expr} {lower upper : Option Expr} {p pos : Pos} {mv : Loc → Option D} {ml mu : Loc → Option (Option Int)} (hv : SE G k sc value mv) (hl : SB G k sc lower ml) (hu : SB G k sc upper mu) : SF G k sc (.Subscript value (.Slice lower upper none p) pos) (lSlice mv ml mu) := SF.slice hv hl hu
theorem rbNo : SB G k sc none bNo := SB.no
theorem rbAt {e : Expr} {m : Loc → Option D} (h : SE G k sc e m) : SB G k sc (some e) (optI m) := SB.at h
theorem rCat {l r : Expr} {pos : Pos} {ml mr : Loc → Option D} (hl : SE G k sc l ml) (hr : SE G k sc r mr) : SF G k sc (.BinOp l .Add r pos) (lCat ml mr) := SF.cat hl hr
theorem rOf {e : Expr} {p pos : Pos} {m : Loc → Option D} (hn : G.mg (Str.ofString "list") = none ∧ G.mb (Str.ofString "list") = some (.type "list")) (hx : okGlob sc "list" = true) (hs : NoStar e) (h : SE G k sc e m) : SF G k sc (.Call (.Name (Str.ofString "list") p) [e] [] pos) (lOf m) := SF.listOf ⟨(okG1 hx), (okG2 hx), hn.1, hn.2⟩ hs h
theorem riSeq {fz : Bool} {target e : Expr} {t : Tg} {m : Loc → Option D} (ht : tgOf target = some t) (h : SE G k sc e m) : SI G k sc fz target e (iSeq fz m) := by
  intro A env N α s ρ ds hA hE hb hi hρ
  obtain ⟨d, ed, h2⟩ := Option.bind_eq_some_iff.mp hρ
  cases d with
  | tup l => exact SI.tup ht h A env N α s ρ ds hA hE hb hi (by simp only [ed]; exact h2)
  | list l => exact SI.list ht h A env N α s ρ ds hA hE hb hi (by simp only [ed]; exact h2)
  | own l => exact SI.list ht h A env N α s ρ ds hA hE hb hi (by simp only [ed]; exact h2)
  | _ => simp [walkOf?] at h2
theorem riRange {fz : Bool} {target e : Expr} {t : Tg} {p pos : Pos} {m : Loc → Option D} (hn : G.mg (Str.ofString "range") = none ∧ G.mb (Str.ofString "range") = some (.type "range")) (hx : okGlob sc "range" = true) (hs : NoStar e) (ht : tgOf target = some t) (h : SE G k sc e m) :
    SI G k sc fz target (.Call (.Name (Str.ofString "range") p) [e] [] pos) (iRange m) := SI.range ht ⟨(okG1 hx), (okG2 hx), hn.1, hn.2⟩ hs h
theorem riEnum {fz : Bool} {e : Expr} {es : List Expr} {kd : Nat} {tp : Pos} {p pos : Pos} {m : Loc → Option D} (hn : G.mg (Str.ofString "enumerate") = none ∧ G.mb (Str.ofString "enumerate") = some (.type "enumerate")) (hx : okGlob sc "enumerate" = true) (hs : NoStar e) (h : SE G k sc e m) :
    SI G k sc fz (.Tuple es kd tp) (.Call (.Name (Str.ofString "enumerate") p) [e] [] pos) (iEnum fz m) := SI.enum ⟨(okG1 hx), (okG2 hx), hn.1, hn.2⟩ hs h
theorem rComp {elt target iter : Expr} {ifs : List Expr} {scope : Scope} {pos : Pos} {t : Tg} {mi : Loc → Option (List D)} {mc : Loc → Option Bool} {me : Loc → Option D} (ht : tgOf target = some t) (hS : compScB sc scope t = true) (hfs : ∀ env x, foldedSetIterable iter env x = pure x)
    (hi : SI G k sc false target iter mi) (hc : IfsOk G k (relSc scope sc) ifs mc) (he : SE G k (relSc scope sc) elt me) : SF G k sc (.ListComp elt [⟨target, iter, ifs, 0⟩] scope pos) (compL t mi mc me) := SF.comp ht hS hfs hi hc he
theorem rIfs0 : IfsOk G k sc [] tTrue := IfsOk.nil
theorem rIfs1 {c : Expr} {mc : Loc → Option Bool} (h : ST G k sc c mc) : IfsOk G k sc [c] mc := IfsOk.one h

/-! statements -/
theorem rNo {st : Stmt} : S1 G k sc st sNo := by intro A env N α s₀ s ρ o _ _ _ _ h; cases h
theorem rNil : SS G k sc [] sPass := SS.nil
theorem rCons {st : Stmt} {rest : List Stmt} {m ms : Loc → Option Out} (h : S1 G k sc st m) (hr : SS G k sc rest ms) : SS G k sc (st :: rest) (seqM m ms) := SS.cons h hr
theorem rAsg {x : String} {p pos : Pos} {e : Expr} {m : Loc → Option D} (hx : okStore sc (Str.ofString x) = true) (hs : NoSwap e) (h : SE G k sc e m) : S1 G k sc (.Assign [.Name (Str.ofString x) p] e pos) (sAsg x m) := S1.assign hx hs h
theorem rOwn {x : String} {p pos : Pos} {e : Expr} {m : Loc → Option (List D)} (hx : okStore sc (Str.ofString x) = true) (hs : NoSwap e) (h : SF G k sc e m) : S1 G k sc (.Assign [.Name (Str.ofString x) p] e pos) (sOwn x m) := S1.assignOwn hx hs h
theorem rCompOwn {elt target iter : Expr} {ifs : List Expr} {scope : Scope} {pos p spos : Pos} {x : String} {t : Tg} {mi : Loc → Option (List D)} {mc : Loc → Option Bool} {me : Loc → Option D} (hx : okStore sc (Str.ofString x) = true) (ht : tgOf target = some t) (hS : compScB sc scope t = true) (hfs : ∀ env x, foldedSetIterable iter env x = pure x)
    (hi : SI G k sc false target iter mi) (hc : IfsOk G k (relSc scope sc) ifs mc) (he : SE G k (relSc scope sc) elt me) :
    S1 G k sc (.Assign [.Name (Str.ofString x) p] (.ListComp elt [⟨target, iter, ifs, 0⟩] scope pos) spos) (sOwn x (compL t mi mc me)) := compAssign true hx ht hS hfs hi hc he
theorem rCompLst {elt target iter : Expr} {ifs : List Expr} {scope : Scope} {pos p spos : Pos} {x : String} {t : Tg} {mi : Loc → Option (List D)} {mc : Loc → Option Bool} {me : Loc → Option D} (hx : okStore sc (Str.ofString x) = true) (ht : tgOf target = some t) (hS : compScB sc scope t = true) (hfs : ∀ env x, foldedSetIterable iter env x = pure x)
    (hi : SI G k sc false target iter mi) (hc : IfsOk G k (relSc scope sc) ifs mc) (he : SE G k (relSc scope sc) elt me) :
    S1 G k sc (.Assign [.Name (Str.ofString x) p] (.ListComp elt [⟨target, iter, ifs, 0⟩] scope pos) spos) (sLst x (compL t mi mc me)) := compAssign false hx ht hS hfs hi hc he
theorem rRet {pos : Pos} {e : Expr} {m : Loc → Option D} (h : SE G k sc e m) : S1 G k sc (.Return (some e) pos) (sRet m) := S1.ret h
theorem rRetN {x : String} {p pos : Pos} (hd : notDbg x = true) : S1 G k sc (.Return (some (.Name (Str.ofString x) p)) pos) (sRetN x) := S1.retName (notDbg.ok hd)
theorem rSIf {test : Expr} {body orelse : List Stmt} {pos : Pos} {c : Loc → Option Bool} {mb mo : Loc → Option Out} (ht : ST G k sc test c) (h1 : SS G k sc body mb) (h2 : SS G k sc orelse mo) : S1 G k sc (.If test body orelse pos) (sIf c mb mo) := S1.ite ht h1 h2
theorem rExpr {e : Expr} {pos : Pos} {m : Loc → Option D} (hs : ∀ env, swapsWith e none pos.line env = pure false) (h : SE G k sc e m) : S1 G k sc (.Expr e pos) (sExpr m) := S1.expr hs not_interactive h
theorem rFor {target iter : Expr} {t : Tg} {body : List Stmt} {pos : Pos} {mi : Loc → Option (List D)} {mb : Loc → Option Out} (ht : tgOf target = some t) (ho : (t.names.all fun x => okStore sc x) = true) (hfs : ∀ env x, foldedSetIterable iter env x = pure x)
    (hi : SI G k sc true target iter mi) (hb' : SS G k sc body mb) : S1 G k sc (.For target iter body [] pos) (sFor t mi mb) := S1.for ht (fun x hx => List.all_eq_true.mp ho x hx) hfs hi hb'
theorem rApp {x : String} {p apos pos pos' : Pos} {e : Expr} {m : Loc → Option D} (hf : MethForm (.Name (Str.ofString x) p) (Str.ofString "append") apos [e] pos) (hd : notDbg x = true) (hs : NoStar e)
    (hsw : ∀ env, swapsWith (.Call (.Attribute (.Name (Str.ofString x) p) (Str.ofString "append") apos) [e] [] pos) none pos'.line env = pure false) (h : SE G k sc e m) :
    S1 G k sc (.Expr (.Call (.Attribute (.Name (Str.ofString x) p) (Str.ofString "append") apos) [e] [] pos) pos') (sApp x m) := S1.append hf (notDbg.ok hd) hs hsw h
theorem rSet {x : String} {p p2 pos : Pos} {i e : Expr} {mi me : Loc → Option D} (hd : notDbg x = true) (hsw : ∀ env, swapsWith e (some (.Subscript (.Name (Str.ofString x) p) i p2)) pos.line env = pure false) (hi : SE G k sc i mi) (he : SE G k sc e me) :
    S1 G k sc (.Assign [.Subscript (.Name (Str.ofString x) p) i p2] e pos) (sSet x mi me) := S1.setItem (notDbg.ok hd) hsw hi he
theorem rUnp {es : List Expr} {kd : Nat} {tp pos : Pos} {xs : List String} {e : Expr} {m : Loc → Option D} (hn : namesOf es = some (nms xs)) (ho : (nms xs).all (okStore sc) = true)
    (hsw : ∀ env, swapsWithSole [.Tuple es kd tp] e pos.line env = pure false) (hst : ∀ env, swappedStores [.Tuple es kd tp] e env = pure none) (h : SE G k sc e m) :
    S1 G k sc (.Assign [.Tuple es kd tp] e pos) (sUnp xs m) := S1.unpack hn (fun x hx => List.all_eq_true.mp ho x hx) hsw hst h

end

/-! a def of the text -/
noncomputable def plainSc (sc : Scope) (names : List Str) : Bool := names.all (okStore sc) && sc.names.all (fun p => p.2 != .free) && !sc.isCoroutine && !sc.isGenerator && (match sc.kind with | .function => true | _ => false)
/-- the function of the name, with its meaning -/
noncomputable def Has (G : Gnd) (k : Nat) (name : String) (Φ : List D → Option D) : Prop := ∃ a, G.mg (Str.ofString name) = some (.ref a) ∧ FnOk G k a Φ

theorem has_of {q : Program} {loose : List Str} {mean : ExcName → Option Value} {mg mb : Str → Option Value} {h : Heap} (T : Top q loose mean mg mb h) {prog : Program} {w : World} {k : Nat} {name : String} {names : List String} (i : Nat) {d : DefRec} (hi : (recsOf q)[i]? = some d) {m : Loc → Option Out} (hnm : d.name = Str.ofString name)
    (hbind : ∀ (pm code doc : Value) (vals : List Value), vals.length = (nms names).length → bindArgs (docDef d.name d.params d.body d.scope pm code doc) ⟨vals, []⟩ = pure ((nms names).zip vals))
    (hnd : (nms names).Nodup) (hsc : plainSc d.scope (nms names) = true)
    (hs : SS ⟨prog, w, h, mg, mb, T.g, T.b, T.nolimit⟩ k d.scope d.body m) : Has ⟨prog, w, h, mg, mb, T.g, T.b, T.nolimit⟩ (k + 1) name (fnM (nms names) m) := by
  obtain ⟨a, o, pm, code, doc, h1, h2, h3, h4⟩ := T.fn d (List.mem_of_getElem? hi)
  simp only [plainSc, Bool.and_eq_true, Bool.not_eq_true'] at hsc
  refine ⟨a, hnm ▸ h1, FnOk.of (fd := docDef d.name d.params d.body d.scope pm code doc) h2 h3 rfl rfl rfl rfl h4 (hbind pm code doc) hnd (fun x hx => List.all_eq_true.mp hsc.1.1.1.1 x hx) hsc.1.1.1.2 hsc.1.1.2 hsc.1.2 ?_ hs⟩
  have := hsc.2
  show d.scope.kind = .function
  split at this
  · assumption
  · cases this

noncomputable def freeB (q : Program) (loose : List Str) (x : String) : Bool := !startupNames.contains (Str.ofString x) && !loose.contains (Str.ofString x) && !((recsOf q).map (·.name)).contains (Str.ofString x) && !((litsOf q).map (·.1)).contains (Str.ofString x) && !((clssOf q loose).map (·.name)).contains (Str.ofString x) && !(Str.ofString x == ("__name__" : Str))
theorem bn_of {q : Program} {loose : List Str} {mean : ExcName → Option Value} {mg mb : Str → Option Value} {h : Heap} (T : Top q loose mean mg mb h) {x : String} {v : Value} (hf : freeB q loose x = true) (hv : bootBuiltins (Str.ofString x) = some v) : mg (Str.ofString x) = none ∧ mb (Str.ofString x) = some v := by
  simp only [freeB, Bool.and_eq_true, Bool.not_eq_true', List.contains_eq_mem, decide_eq_false_iff_not, beq_eq_false_iff_ne] at hf
  obtain ⟨⟨⟨⟨⟨h1, h2⟩, h3⟩, h4⟩, h5⟩, h6⟩ := hf
  exact ⟨T.free _ h1 h2 h3 h4 h5, (T.builtins _ h6).trans hv⟩
theorem cn_of {q : Program} {loose : List Str} {mean : ExcName → Option Value} {mg mb : Str → Option Value} {h : Heap} (T : Top q loose mean mg mb h) {x : String} {i : Int} (hv : PyProof.Rows.valOf q (Str.ofString x) = some (.int i)) : ∃ t, mg (Str.ofString x) = some (.int i t) := by
  obtain ⟨v, h1, h2⟩ := T.const _ _ hv
  obtain ⟨t, rfl, _⟩ := reads_int_inv (h2 h)
  exact ⟨t, h1⟩
end Mine
end
section
set_option maxRecDepth 20000
set_option linter.unusedVariables false
namespace Mine
open PySem PyProof.Rows PySem.Calls
noncomputable def m_whole : Loc → Option Out := (seqM (sRet (eAnd (eIsI "int" (eV "thing")) (eNot (eIsI "bool" (eV "thing"))))) <|
  sPass)
noncomputable def F_whole : List D → Option D := fnM (nms ["thing"]) m_whole
noncomputable def B_sound_1 : Loc → Option Out := (seqM (sIf (tOr (tNot (tPl (eCall F_whole (esCons (eV "part") esNil)))) (tOr (tCmp cLt (eV "part") (eI 0)) (tOr (tCmp cGe (eV "part") (eBin dPow (eI 10) (eI 60))) tFalse))) (seqM (sRet (eB false)) <|
      sPass) sPass) <|
    sPass)
noncomputable def m_sound : Loc → Option Out := (seqM (sIf (tOr (tNot (tPl (eIsI "tuple" (eV "job")))) (tOr (tCmp cNe (eBi lenD (esCons (eV "job") esNil)) (eI 3)) tFalse)) (seqM (sRet (eB false)) <|
    sPass) sPass) <|
  seqM (sFor (t1 "part") (iSeq true (eV "job")) B_sound_1) <|
  seqM (sRet (eAnd (eCmp cGe (eSub (eV "job") (eI 1)) (eI 1)) (eCmp cGt (eSub (eV "job") (eI 2)) (eSub (eV "job") (eI 0))))) <|
  sPass)
noncomputable def F_sound : List D → Option D := fnM (nms ["job"]) m_sound
noncomputable def B_check_1 : Loc → Option Out := (seqM (sIf (tNot (tPl (eCall F_sound (esCons (eV "job") esNil)))) (seqM sNo <|
      sPass) sPass) <|
    sPass)
noncomputable def m_check : Loc → Option Out := (seqM (sIf (tCmp cGt (eBi lenD (esCons (eV "jobs") esNil)) (eI 60)) (seqM sNo <|
    sPass) sPass) <|
  seqM (sFor (t1 "job") (iSeq true (eV "jobs")) B_check_1) <|
  sPass)
noncomputable def F_check : List D → Option D := fnM (nms ["jobs"]) m_check
noncomputable def m_fits : Loc → Option Out := (seqM (sIf (tOr (tCmp cLt (eSub (eV "piece") (eI 0)) (eI 0)) (tOr (tCmp cGe (eSub (eV "piece") (eI 0)) (eBi lenD (esCons (eV "jobs") esNil))) (tOr (tCmp cGe (eSub (eV "piece") (eI 1)) (eSub (eV "piece") (eI 2))) tFalse))) (seqM (sRet (eB false)) <|
    sPass) sPass) <|
  seqM (sIf (tAnd (tCmp cIsNot (eV "since") eN) (tAnd (tCmp cLt (eSub (eV "piece") (eI 1)) (eV "since")) tTrue)) (seqM (sRet (eB false)) <|
    sPass) sPass) <|
  seqM (sRet (eAnd (eCmp cGe (eSub (eV "piece") (eI 1)) (eSub (eSub (eV "jobs") (eSub (eV "piece") (eI 0))) (eI 0))) (eCmp cLe (eSub (eV "piece") (eI 2)) (eSub (eSub (eV "jobs") (eSub (eV "piece") (eI 0))) (eI 2))))) <|
  sPass)
noncomputable def F_fits : List D → Option D := fnM (nms ["jobs", "piece", "since"]) m_fits
noncomputable def B_meets_1 : Loc → Option Out := (seqM (sIf (tNot (tPl (eCall F_fits (esCons (eV "jobs") (esCons (eV "piece") (esCons (eV "since") esNil)))))) (seqM (sRet (eB false)) <|
      sPass) sPass) <|
    seqM (sSet "worked" (eSub (eV "piece") (eI 0)) (eBin dSub (eBin dAdd (eSub (eV "worked") (eSub (eV "piece") (eI 0))) (eSub (eV "piece") (eI 2))) (eSub (eV "piece") (eI 1)))) <|
    seqM (sAsg "since" (eSub (eV "piece") (eI 2))) <|
    sPass)
noncomputable def m_meets : Loc → Option Out := (seqM (sExpr (eCall F_check (esCons (eV "jobs") esNil))) <|
  seqM (sOwn "worked" (compL (t1 "job") (iSeq false (eV "jobs")) tTrue (eI 0))) <|
  seqM (sAsg "since" eN) <|
  seqM (sFor (t1 "piece") (iSeq true (eV "way")) B_meets_1) <|
  seqM (sRet (eCmp cEq (eV "worked") (eL (compL (t1 "job") (iSeq false (eV "jobs")) tTrue (eSub (eV "job") (eI 1)))))) <|
  sPass)
noncomputable def F_meets : List D → Option D := fnM (nms ["jobs", "way"]) m_meets
noncomputable def m_law_cell_at : Loc → Option Out := (seqM (sIf (tCmp cLt (eV "_law_k") (eBi lenD (esCons (eV "_law_script") esNil))) (seqM (sRet (eSub (eV "_law_script") (eV "_law_k"))) <|
    sPass) sPass) <|
  seqM (sRet (eI 0)) <|
  sPass)
noncomputable def F_law_cell_at : List D → Option D := fnM (nms ["_law_script", "_law_k"]) m_law_cell_at
noncomputable def B_law_pieces_by_1 : Loc → Option Out := (seqM (sAsg "_law_cell" (eCall F_law_cell_at (esCons (eV "_law_script") (esCons (eBin dAdd (eI 4) (eV "_law_k")) esNil)))) <|
    seqM (sIf (tCmp cGe (eV "_law_k") (eI 12)) (seqM (sAsg "_law_cell" (eBin dMod (eBin dMul (eBin dAdd (eCall F_law_cell_at (esCons (eV "_law_script") (esCons (eI 3) esNil))) (eV "_law_k")) (eI 48271)) (eI 2147483647))) <|
      sPass) sPass) <|
    seqM (sAsg "_law_begin" (eBin dAdd (eV "_law_time") (eBin dMul (eBin dMod (eV "_law_cell") (eI 3)) (eV "_law_wide")))) <|
    seqM (sAsg "_law_place" (eV "_law_k")) <|
    seqM (sIf (tCmp cGe (eV "_law_k") (eV "_law_count")) (seqM (sAsg "_law_place" (eBin dMod (eBin dFdiv (eV "_law_cell") (eI 12)) (eV "_law_count"))) <|
      sPass) sPass) <|
    seqM (sAsg "_law_time" (eBin dAdd (eV "_law_begin") (eBin dMul (eBin dAdd (eI 1) (eBin dMod (eBin dFdiv (eV "_law_cell") (eI 3)) (eI 4))) (eV "_law_wide")))) <|
    seqM (sApp "_law_pieces" (eTup (esCons (eV "_law_place") (esCons (eV "_law_begin") (esCons (eV "_law_time") esNil))))) <|
    sPass)
noncomputable def m_law_pieces_by : Loc → Option Out := (seqM (sOwn "_law_pieces" (lDisp esNil)) <|
  seqM (sAsg "_law_time" (eI 0)) <|
  seqM (sFor (t1 "_law_k") (iRange (eV "_law_many")) B_law_pieces_by_1) <|
  seqM (sRetN "_law_pieces") <|
  sPass)
noncomputable def F_law_pieces_by : List D → Option D := fnM (nms ["_law_script", "_law_count", "_law_many", "_law_wide"]) m_law_pieces_by
noncomputable def B_law_jobs_of_1 : Loc → Option Out := (seqM (sLst "_law_own" (compL (t1 "_law_piece") (iSeq false (eV "_law_pieces")) (tCmp cEq (eSub (eV "_law_piece") (eI 0)) (eV "_law_place")) (eV "_law_piece"))) <|
    seqM (sAsg "_law_length" (eBi sumD (esCons (eL (compL (t1 "_law_piece") (iSeq false (eV "_law_own")) tTrue (eBin dSub (eSub (eV "_law_piece") (eI 2)) (eSub (eV "_law_piece") (eI 1))))) esNil))) <|
    seqM (sAsg "_law_come" (eBi max2D (esCons (eI 0) (esCons (eBin dSub (eSub (eSub (eV "_law_own") (eI 0)) (eI 1)) (eBin dMul (eBin dMod (eBin dAdd (eV "_law_cell") (eV "_law_place")) (eI 3)) (eV "_law_wide"))) esNil)))) <|
    seqM (sApp "_law_jobs" (eTup (esCons (eV "_law_come") (esCons (eV "_law_length") (esCons (eBin dAdd (eSub (eSub (eV "_law_own") (eNeg (eI 1))) (eI 2)) (eBin dMul (eBin dMod (eBin dAdd (eBin dFdiv (eV "_law_cell") (eI 3)) (eV "_law_place")) (eI 3)) (eV "_law_wide"))) esNil))))) <|
    sPass)
noncomputable def m_law_jobs_of : Loc → Option Out := (seqM (sOwn "_law_jobs" (lDisp esNil)) <|
  seqM (sFor (t1 "_law_place") (iRange (eV "_law_count")) B_law_jobs_of_1) <|
  seqM (sRetN "_law_jobs") <|
  sPass)
noncomputable def F_law_jobs_of : List D → Option D := fnM (nms ["_law_pieces", "_law_count", "_law_cell", "_law_wide"]) m_law_jobs_of
noncomputable def m_law_spoilt : Loc → Option Out := (seqM (sAsg "_law_at" (eBin dMod (eBin dFdiv (eV "_law_cell") (eI 9)) (eBi lenD (esCons (eV "_law_pieces") esNil)))) <|
  seqM (sUnp ["_law_place", "_law_begin", "_law_end"] (eSub (eV "_law_pieces") (eV "_law_at"))) <|
  seqM (sAsg "_law_others" (eL (lDisp (esCons (eTup (esCons (eV "_law_place") (esCons (eBin dAdd (eV "_law_begin") (eI 1)) (esCons (eV "_law_end") esNil)))) (esCons (eTup (esCons (eV "_law_place") (esCons (eBin dSub (eV "_law_begin") (eI 1)) (esCons (eV "_law_end") esNil)))) (esCons (eTup (esCons (eV "_law_place") (esCons (eV "_law_begin") (esCons (eBin dAdd (eV "_law_end") (eI 1)) esNil)))) (esCons (eTup (esCons (eV "_law_place") (esCons (eV "_law_begin") (esCons (eBin dSub (eV "_law_end") (eI 1)) esNil)))) esNil))))))) <|
  seqM (sAsg "_law_odd" (eSub (eL (lDisp (esCons (eBin dSub (eBin dMod (eBin dAdd (eV "_law_place") (eBin dFdiv (eV "_law_cell") (eI 162))) (eBin dAdd (eV "_law_count") (eI 2))) (eI 1)) (esCons (eBin dSub (eV "_law_place") (eV "_law_count")) esNil)))) (eBin dMod (eBin dFdiv (eV "_law_cell") (eI 81)) (eI 2)))) <|
  seqM (sAsg "_law_others" (eL (lCat (eV "_law_others") (eL (lDisp (esCons (eTup (esCons (eV "_law_odd") (esCons (eV "_law_begin") (esCons (eV "_law_end") esNil)))) (esCons (eTup (esCons (eV "_law_place") (esCons (eBin dAdd (eV "_law_begin") (eI 1)) (esCons (eBin dAdd (eV "_law_end") (eI 1)) esNil)))) esNil))))))) <|
  seqM (sIf (tCmp cLt (eBin dMod (eV "_law_cell") (eI 9)) (eI 6)) (seqM (sRet (eL (lCat (eL (lCat (eL (lSlice (eV "_law_pieces") bNo (optI (eV "_law_at")))) (eL (lDisp (esCons (eSub (eV "_law_others") (eBin dMod (eV "_law_cell") (eI 9))) esNil))))) (eL (lSlice (eV "_law_pieces") (optI (eBin dAdd (eV "_law_at") (eI 1))) bNo))))) <|
    sPass) sPass) <|
  seqM (sIf (tCmp cEq (eBin dMod (eV "_law_cell") (eI 9)) (eI 6)) (seqM (sRet (eL (lCat (eL (lSlice (eV "_law_pieces") bNo (optI (eV "_law_at")))) (eL (lSlice (eV "_law_pieces") (optI (eBin dAdd (eV "_law_at") (eI 1))) bNo))))) <|
    sPass) sPass) <|
  seqM (sIf (tCmp cEq (eBin dMod (eV "_law_cell") (eI 9)) (eI 7)) (seqM (sRet (eL (lCat (eL (lCat (eL (lSlice (eV "_law_pieces") bNo (optI (eV "_law_at")))) (eL (lDisp (esCons (eSub (eV "_law_pieces") (eV "_law_at")) (esCons (eTup (esCons (eV "_law_place") (esCons (eV "_law_end") (esCons (eV "_law_end") esNil)))) esNil)))))) (eL (lSlice (eV "_law_pieces") (optI (eBin dAdd (eV "_law_at") (eI 1))) bNo))))) <|
    sPass) sPass) <|
  seqM (sRet (eL (lCat (eL (lCat (eL (lDisp (esCons (eSub (eV "_law_pieces") (eV "_law_at")) esNil))) (eL (lSlice (eV "_law_pieces") bNo (optI (eV "_law_at")))))) (eL (lSlice (eV "_law_pieces") (optI (eBin dAdd (eV "_law_at") (eI 1))) bNo))))) <|
  sPass)
noncomputable def F_law_spoilt : List D → Option D := fnM (nms ["_law_pieces", "_law_cell", "_law_count"]) m_law_spoilt
noncomputable def m_law_job_off : Loc → Option Out := (seqM (sAsg "_law_at" (eBin dMod (eBin dFdiv (eV "_law_cell") (eI 5)) (eBi lenD (esCons (eV "_law_jobs") esNil)))) <|
  seqM (sUnp ["_law_come", "_law_length", "_law_due_here"] (eSub (eV "_law_jobs") (eV "_law_at"))) <|
  seqM (sAsg "_law_others" (eL (lDisp (esCons (eTup (esCons (eBin dAdd (eV "_law_come") (eI 1)) (esCons (eV "_law_length") (esCons (eBin dAdd (eV "_law_due_here") (eI 1)) esNil)))) (esCons (eTup (esCons (eV "_law_come") (esCons (eBin dAdd (eV "_law_length") (eI 1)) (esCons (eV "_law_due_here") esNil)))) (esCons (eTup (esCons (eV "_law_come") (esCons (eBi max2D (esCons (eI 1) (esCons (eBin dSub (eV "_law_length") (eI 1)) esNil))) (esCons (eV "_law_due_here") esNil)))) esNil)))))) <|
  seqM (sAsg "_law_others" (eL (lCat (eV "_law_others") (eL (lDisp (esCons (eTup (esCons (eV "_law_come") (esCons (eV "_law_length") (esCons (eBi max2D (esCons (eBin dAdd (eV "_law_come") (eI 1)) (esCons (eBin dSub (eV "_law_due_here") (eI 1)) esNil))) esNil)))) (esCons (eTup (esCons (eV "_law_come") (esCons (eV "_law_length") (esCons (eBi max2D (esCons (eBin dAdd (eV "_law_come") (eI 1)) (esCons (eBin dSub (eV "_law_due_here") (eI 2)) esNil))) esNil)))) esNil))))))) <|
  seqM (sRet (eL (lCat (eL (lCat (eL (lSlice (eV "_law_jobs") bNo (optI (eV "_law_at")))) (eL (lDisp (esCons (eSub (eV "_law_others") (eBin dMod (eV "_law_cell") (eI 5))) esNil))))) (eL (lSlice (eV "_law_jobs") (optI (eBin dAdd (eV "_law_at") (eI 1))) bNo))))) <|
  sPass)
noncomputable def F_law_job_off : List D → Option D := fnM (nms ["_law_jobs", "_law_cell"]) m_law_job_off
noncomputable def m_law_one_fits : Loc → Option Out := (seqM (sUnp ["_law_place", "_law_begin", "_law_end"] (eV "_law_piece")) <|
  seqM (sIf (tOr (tCmp cLt (eV "_law_place") (eI 0)) (tOr (tCmp cGe (eV "_law_place") (eBi lenD (esCons (eV "_law_jobs") esNil))) (tOr (tCmp cGe (eV "_law_begin") (eV "_law_end")) (tOr (tCmp cLt (eV "_law_begin") (eV "_law_time")) tFalse)))) (seqM (sRet (eB false)) <|
    sPass) sPass) <|
  seqM (sRet (eAnd (eCmp cGe (eV "_law_begin") (eSub (eSub (eV "_law_jobs") (eV "_law_place")) (eI 0))) (eCmp cLe (eV "_law_end") (eSub (eSub (eV "_law_jobs") (eV "_law_place")) (eI 2))))) <|
  sPass)
noncomputable def F_law_one_fits : List D → Option D := fnM (nms ["_law_jobs", "_law_piece", "_law_time"]) m_law_one_fits
noncomputable def B_law_due_1 : Loc → Option Out := (seqM (sIf (tNot (tPl (eCall F_law_one_fits (esCons (eV "_law_jobs") (esCons (eV "_law_piece") (esCons (eV "_law_time") esNil)))))) (seqM (sRet (eB false)) <|
      sPass) sPass) <|
    seqM (sAsg "_law_time" (eSub (eV "_law_piece") (eI 2))) <|
    sPass)
noncomputable def B_law_due_2 : Loc → Option Out := (seqM (sIf (tCmp cNe (eBi sumD (esCons (eL (compL (t1 "_law_piece") (iSeq false (eV "_law_way")) (tCmp cEq (eSub (eV "_law_piece") (eI 0)) (eV "_law_place")) (eBin dSub (eSub (eV "_law_piece") (eI 2)) (eSub (eV "_law_piece") (eI 1))))) esNil)) (eSub (eV "_law_job") (eI 1))) (seqM (sRet (eB false)) <|
      sPass) sPass) <|
    sPass)
noncomputable def m_law_due : Loc → Option Out := (seqM (sAsg "_law_time" (eIf (tPl (eV "_law_way")) (eSub (eSub (eV "_law_way") (eI 0)) (eI 1)) (eI 0))) <|
  seqM (sFor (t1 "_law_piece") (iSeq true (eV "_law_way")) B_law_due_1) <|
  seqM (sFor (tN ["_law_place", "_law_job"]) (iEnum true (eV "_law_jobs")) B_law_due_2) <|
  seqM (sRet (eB true)) <|
  sPass)
noncomputable def F_law_due : List D → Option D := fnM (nms ["_law_jobs", "_law_way"]) m_law_due
noncomputable def K_law_04_12 : Loc → Option Out := (seqM (sAsg "_law_handed" (eL (lOf (eV "_law_jobs")))) <|
  seqM (sAsg "_law_given" (eL (lOf (eV "_law_way")))) <|
  seqM (sAsg "_law_found" (eCall F_meets (esCons (eV "_law_handed") (esCons (eV "_law_given") esNil)))) <|
  seqM (sRet (eAnd (eIsI "bool" (eV "_law_found")) (eAnd (eCmp cEq (eV "_law_found") (eCall F_law_due (esCons (eV "_law_jobs") (esCons (eV "_law_way") esNil)))) (eAnd (eCmp cEq (eV "_law_handed") (eV "_law_jobs")) (eCmp cEq (eV "_law_given") (eV "_law_way")))))) <|
  sPass)
noncomputable def K_law_04_9 : Loc → Option Out := (seqM (sAsg "_law_way" (eL (lDisp esNil))) <|
  seqM (sAsg "_law_jobs" (eL (lDisp esNil))) <|
  seqM (sIf (tCmp cGt (eV "_law_count") (eI 0)) (seqM (sAsg "_law_way" (eCall F_law_pieces_by (esCons (eV "_law_script") (esCons (eV "_law_count") (esCons (eV "_law_many") (esCons (eV "_law_wide") esNil)))))) <|
    seqM (sAsg "_law_jobs" (eCall F_law_jobs_of (esCons (eV "_law_way") (esCons (eV "_law_count") (esCons (eCall F_law_cell_at (esCons (eV "_law_script") (esCons (eI 2) esNil))) (esCons (eV "_law_wide") esNil)))))) <|
    seqM (sIf (tCmp cEq (eBin dMod (eBin dFdiv (eCall F_law_cell_at (esCons (eV "_law_script") (esCons (eI 2) esNil))) (eI 9)) (eI 4)) (eI 1)) (seqM (sAsg "_law_way" (eCall F_law_spoilt (esCons (eV "_law_way") (esCons (eCall F_law_cell_at (esCons (eV "_law_script") (esCons (eI 3) esNil))) (esCons (eV "_law_count") esNil))))) <|
      sPass) sPass) <|
    seqM (sIf (tCmp cEq (eBin dMod (eBin dFdiv (eCall F_law_cell_at (esCons (eV "_law_script") (esCons (eI 2) esNil))) (eI 9)) (eI 4)) (eI 2)) (seqM (sAsg "_law_jobs" (eCall F_law_job_off (esCons (eV "_law_jobs") (esCons (eCall F_law_cell_at (esCons (eV "_law_script") (esCons (eI 3) esNil))) esNil)))) <|
      sPass) sPass) <|
    sPass) (seqM (sIf (tCmp cEq (eBin dMod (eCall F_law_cell_at (esCons (eV "_law_script") (esCons (eI 2) esNil))) (eI 3)) (eI 1)) (seqM (sAsg "_law_way" (eL (lDisp (esCons (eTup (esCons (eBin dSub (eBin dMod (eCall F_law_cell_at (esCons (eV "_law_script") (esCons (eI 3) esNil))) (eI 3)) (eI 1)) (esCons (eI 0) (esCons (eI 1) esNil)))) esNil)))) <|
      sPass) sPass) <|
    sPass)) <|
  K_law_04_12)
noncomputable def K_law_04_7 : Loc → Option Out := (seqM (sAsg "_law_wide" (eI 1)) <|
  seqM (sIf (tCmp cEq (eBin dMod (eCall F_law_cell_at (esCons (eV "_law_script") (esCons (eI 1) esNil))) (eI 4)) (eI 3)) (seqM (sAsg "_law_wide" (eBin dAdd (eI 1) (eBin dMod (eBin dFdiv (eCall F_law_cell_at (esCons (eV "_law_script") (esCons (eI 1) esNil))) (eI 4)) (eBin dPow (eI 10) (eI 56))))) <|
    sPass) sPass) <|
  K_law_04_9)
noncomputable def K_law_04_4 : Loc → Option Out := (seqM (sAsg "_law_many" (eBin dAdd (eV "_law_count") (eBin dMod (eBin dFdiv (eCall F_law_cell_at (esCons (eV "_law_script") (esCons (eI 0) esNil))) (eI 40)) (eI 6)))) <|
  seqM (sIf (tCmp cEq (eBin dMod (eBin dFdiv (eCall F_law_cell_at (esCons (eV "_law_script") (esCons (eI 0) esNil))) (eI 240)) (eI 8)) (eI 1)) (seqM (sAsg "_law_many" (eBin dAdd (eV "_law_many") (eI 30))) <|
    sPass) sPass) <|
  seqM (sIf (tCmp cEq (eBin dMod (eBin dFdiv (eCall F_law_cell_at (esCons (eV "_law_script") (esCons (eI 0) esNil))) (eI 240)) (eI 64)) (eI 2)) (seqM (sAsg "_law_many" (eBin dAdd (eV "_law_many") (eI 90))) <|
    sPass) sPass) <|
  K_law_04_7)
noncomputable def m_law_04 : Loc → Option Out := (seqM (sAsg "_law_count" (eBin dMod (eCall F_law_cell_at (esCons (eV "_law_script") (esCons (eI 0) esNil))) (eI 5))) <|
  seqM (sIf (tCmp cEq (eBin dMod (eBin dFdiv (eCall F_law_cell_at (esCons (eV "_law_script") (esCons (eI 0) esNil))) (eI 5)) (eI 8)) (eI 1)) (seqM (sAsg "_law_count" (eBin dAdd (eI 5) (eBin dMod (eBin dFdiv (eCall F_law_cell_at (esCons (eV "_law_script") (esCons (eI 0) esNil))) (eI 40)) (eI 9)))) <|
    sPass) sPass) <|
  seqM (sIf (tCmp cEq (eBin dMod (eBin dFdiv (eCall F_law_cell_at (esCons (eV "_law_script") (esCons (eI 0) esNil))) (eI 5)) (eI 64)) (eI 2)) (seqM (sAsg "_law_count" (eBin dAdd (eI 14) (eBin dMod (eBin dFdiv (eCall F_law_cell_at (esCons (eV "_law_script") (esCons (eI 0) esNil))) (eI 320)) (eI 47)))) <|
    sPass) sPass) <|
  K_law_04_4)
noncomputable def F_law_04 : List D → Option D := fnM (nms ["_law_script"]) m_law_04
end Mine
end
section
set_option maxRecDepth 20000
set_option linter.unusedVariables false
set_option linter.unusedSimpArgs false
namespace Mine
open PySem PyProof.Rows PySem.Calls

/-! plain law: names -/
theorem ofString_inj {a b : String} (h : Str.ofString a = Str.ofString b) : a = b := by
  rw [Str.ofString_eq_toList, Str.ofString_eq_toList] at h
  have h1 := congrArg (fun s : Str => s.cps.toList) h
  simp only at h1
  have h2 : a.toList.map Char.toNat = b.toList.map Char.toNat := by simpa using h1
  have h3 : a.toList = b.toList := List.map_inj_right (fun x y e => Char.ext (by simpa [Char.toNat] using (UInt32.toNat_inj.mp e))) |>.mp h2
  exact String.toList_inj.mp h3
theorem sBeq (a b : String) : (Str.ofString a == Str.ofString b) = (a == b) := by
  by_cases h : a = b
  · subst h; simp
  · have : Str.ofString a ≠ Str.ofString b := fun q => h (ofString_inj q)
    rw [beq_eq_false_iff_ne.mpr h, beq_eq_false_iff_ne.mpr this]

section
variable {ρ : Loc} {x y : String}
noncomputable def kOut (o : Out) (ms : Loc → Option Out) : Option Out := match o with | .next ρ' => ms ρ' | o => some o
theorem a_seqM {m ms : Loc → Option Out} : seqM m ms ρ = (m ρ).bind fun o => kOut o ms := id rfl
theorem k_next {ms : Loc → Option Out} : kOut (.next ρ) ms = ms ρ := id rfl
theorem k_ret {ms : Loc → Option Out} {d : D} : kOut (.ret d) ms = some (.ret d) := id rfl
theorem a_sIf {c : Loc → Option Bool} {a b : Loc → Option Out} : sIf c a b ρ = (c ρ).bind fun t => if t then a ρ else b ρ := id rfl
theorem a_sRet {m : Loc → Option D} : sRet m ρ = (m ρ).bind fun d => if d.clean then some (.ret d) else none := id rfl
theorem a_sRetN : sRetN x ρ = (ρ (Str.ofString x)).map fun d => .ret d.frz := id rfl
theorem a_sAsg {m : Loc → Option D} : sAsg x m ρ = (m ρ).bind fun d => if d.clean then some (.next (upd ρ (Str.ofString x) d)) else none := id rfl
theorem a_sOwn {m : Loc → Option (List D)} : sOwn x m ρ = (m ρ).bind fun ds => some (.next (upd ρ (Str.ofString x) (.own ds))) := id rfl
theorem a_sLst {m : Loc → Option (List D)} : sLst x m ρ = (m ρ).bind fun ds => some (.next (upd ρ (Str.ofString x) (.list ds))) := id rfl
theorem a_sFor {t : Tg} {mi : Loc → Option (List D)} {mb : Loc → Option Out} : sFor t mi mb ρ = (mi ρ).bind fun ds => forM t mb ds ρ := id rfl
theorem a_sExpr {m : Loc → Option D} : sExpr m ρ = (m ρ).bind fun d => if d.isNone then some (.next ρ) else none := id rfl
noncomputable def appK (ρ : Loc) (x : String) (d : D) : Option D → Option Out
  | some (.own l) => if d.clean = true ∧ l.length < 16777216 then some (.next (upd ρ (Str.ofString x) (.own (l ++ [d])))) else none
  | _ => none
theorem a_sApp {m : Loc → Option D} : sApp x m ρ = (m ρ).bind fun d => appK ρ x d (ρ (Str.ofString x)) := by
  unfold sApp
  congr 1
theorem appK_own {d : D} {l : List D} : appK ρ x d (some (.own l)) = if d.clean = true ∧ l.length < 16777216 then some (.next (upd ρ (Str.ofString x) (.own (l ++ [d])))) else none := id rfl
noncomputable def setK (ρ : Loc) (x : String) (d j : D) : Option D → Option Out
  | some (.own l) => (match j with | .int j => if d.clean = true ∧ 0 ≤ j ∧ j < l.length ∧ j < 9223372036854775808 then some (.next (upd ρ (Str.ofString x) (.own (l.set j.toNat d)))) else none | _ => none)
  | _ => none
theorem a_sSet {mi me : Loc → Option D} : sSet x mi me ρ = (me ρ).bind fun d => (mi ρ).bind fun j => setK ρ x d j (ρ (Str.ofString x)) := by
  unfold sSet
  congr 1
  funext d
  congr 1
  funext j
  unfold setK
  cases ρ (Str.ofString x) with
  | none => rfl
  | some e => cases e <;> cases j <;> rfl
theorem setK_own {d : D} {j : Int} {l : List D} : setK ρ x d (.int j) (some (.own l)) = if d.clean = true ∧ 0 ≤ j ∧ j < l.length ∧ j < 9223372036854775808 then some (.next (upd ρ (Str.ofString x) (.own (l.set j.toNat d)))) else none := id rfl
theorem a_sUnp {xs : List String} {m : Loc → Option D} : sUnp xs m ρ = (m ρ).bind fun d => (bindT (.many (nms xs)) d ρ).map .next := id rfl
theorem a_sPass : sPass ρ = some (.next ρ) := id rfl
theorem a_sNo : sNo ρ = none := id rfl
theorem a_eV : eV x ρ = ρ (Str.ofString x) := id rfl
theorem a_eI {i : Int} : eI i ρ = some (.int i) := id rfl
theorem a_eB {b : Bool} : eB b ρ = some (.bool b) := id rfl
theorem a_eN : eN ρ = some .none := id rfl
theorem a_eBin {f : D → D → Option D} {a b : Loc → Option D} : eBin f a b ρ = (a ρ).bind fun x => (b ρ).bind fun y => f x y := id rfl
theorem a_eCmp {f : D → D → Option Bool} {a b : Loc → Option D} : eCmp f a b ρ = (a ρ).bind fun x => (b ρ).bind fun y => (f x y).map .bool := id rfl
theorem a_tCmp {f : D → D → Option Bool} {a b : Loc → Option D} : tCmp f a b ρ = (a ρ).bind fun x => (b ρ).bind fun y => f x y := id rfl
theorem a_iEnum {fz : Bool} {m : Loc → Option D} : iEnum fz m ρ = (m ρ).bind fun d => (listOf? fz d).bind fun l => if l.length ≤ 16777216 then some (enumD 0 l) else none := id rfl
theorem a_tNot {m : Loc → Option Bool} : tNot m ρ = (m ρ).map (!·) := id rfl
theorem a_tTrue : tTrue ρ = some true := id rfl
theorem a_tFalse : tFalse ρ = some false := id rfl
theorem a_tAnd {m n : Loc → Option Bool} : tAnd m n ρ = (m ρ).bind fun b => if b then n ρ else some false := id rfl
theorem a_tOr {m n : Loc → Option Bool} : tOr m n ρ = (m ρ).bind fun b => if b then some true else n ρ := id rfl
theorem a_tPl {m : Loc → Option D} : tPl m ρ = (m ρ).bind D.truth? := id rfl
theorem a_eAnd {m n : Loc → Option D} : eAnd m n ρ = (m ρ).bind fun d => (D.truth? d).bind fun b => if b then n ρ else some d := id rfl
theorem a_eNot {m : Loc → Option D} : eNot m ρ = (m ρ).bind fun d => (D.truth? d).map fun b => .bool (!b) := id rfl
theorem a_eIf {c : Loc → Option Bool} {a b : Loc → Option D} : eIf c a b ρ = (c ρ).bind fun t => if t then a ρ else b ρ := id rfl
theorem a_eNeg {m : Loc → Option D} : eNeg m ρ = (m ρ).bind dNeg := id rfl
theorem a_eSub {a b : Loc → Option D} : eSub a b ρ = (a ρ).bind fun o => (b ρ).bind fun i => dGet o i := id rfl
theorem a_esNil : esNil ρ = some [] := id rfl
theorem a_esCons {m : Loc → Option D} {ms : Loc → Option (List D)} : esCons m ms ρ = (m ρ).bind fun d => (ms ρ).bind fun ds => some (d :: ds) := id rfl
theorem a_eTup {ms : Loc → Option (List D)} : eTup ms ρ = (ms ρ).bind fun ds => if ds.all D.clean then some (.tup ds) else none := id rfl
theorem a_eCall {Φ : List D → Option D} {ms : Loc → Option (List D)} : eCall Φ ms ρ = (ms ρ).bind fun ds => callD Φ ds := id rfl
theorem a_eBi {Φ : List D → Option D} {ms : Loc → Option (List D)} : eBi Φ ms ρ = (ms ρ).bind fun ds => Φ ds := id rfl
theorem a_eIsI {T : String} {m : Loc → Option D} : eIsI T m ρ = (m ρ).map fun d => .bool (isInst T d) := id rfl
theorem a_eL {l : Loc → Option (List D)} : eL l ρ = (l ρ).map .list := id rfl
theorem a_lDisp {ms : Loc → Option (List D)} : lDisp ms ρ = (ms ρ).bind fun ds => if ds.all D.clean then some ds else none := id rfl
theorem a_lSlice {mv : Loc → Option D} {ml mu : Loc → Option (Option Int)} : lSlice mv ml mu ρ = (mv ρ).bind fun o => (ml ρ).bind fun lo => (mu ρ).bind fun hi => (D.items? o).bind fun l => if l.length ≤ 16777216 then some (sliceL l lo hi) else none := id rfl
theorem a_bNo : bNo ρ = some none := id rfl
noncomputable def optK : D → Option (Option Int)
  | .int i => some (some i)
  | _ => none
theorem optK_int {i : Int} : optK (.int i) = some (some i) := id rfl
theorem a_optI {m : Loc → Option D} : optI m ρ = (m ρ).bind optK := by
  unfold optI
  congr 1
theorem a_lCat {ml mr : Loc → Option D} : lCat ml mr ρ = (ml ρ).bind fun a => (mr ρ).bind fun b => (D.items? a).bind fun x => (D.items? b).bind fun y => if x.length + y.length ≤ 16777216 then some (x ++ y) else none := id rfl
theorem a_lOf {m : Loc → Option D} : lOf m ρ = (m ρ).bind fun d => (seqOf? d).bind fun l => if l.length ≤ 16777216 then some l else none := id rfl
theorem a_iSeq {fz : Bool} {m : Loc → Option D} : iSeq fz m ρ = (m ρ).bind fun d => (walkOf? fz d).bind fun l => if l.length ≤ 16777216 then some l else none := id rfl
noncomputable def rngK : D → Option (List D)
  | .int n => if n ≤ 16777216 ∧ -16777216 ≤ n then some (rangeD 0 n.toNat) else none
  | _ => none
theorem rngK_int {n : Int} : rngK (.int n) = if n ≤ 16777216 ∧ -16777216 ≤ n then some (rangeD 0 n.toNat) else none := id rfl
theorem a_iRange {m : Loc → Option D} : iRange m ρ = (m ρ).bind rngK := by
  unfold iRange
  congr 1
theorem a_compL {t : Tg} {mi : Loc → Option (List D)} {mc : Loc → Option Bool} {me : Loc → Option D} : compL t mi mc me ρ = (mi ρ).bind fun ds => compM t mc me ds ρ := id rfl
theorem upd_self {z : Str} {d : D} : upd ρ z d z = some d := by simp [upd]
theorem upds_nil {ds : List D} : upds ρ [] ds = ρ := by cases ds <;> rfl
theorem upds_cons {z : Str} {d : D} {zs : List Str} {ds : List D} : upds ρ (z :: zs) (d :: ds) = upds (upd ρ z d) zs ds := id rfl
theorem bindT_one {z : Str} {d : D} : bindT (.one z) d ρ = some (upd ρ z d) := id rfl
theorem bindT_many {zs : List Str} {ds : List D} : bindT (.many zs) (.tup ds) ρ = if zs.length = ds.length then some (upds ρ zs ds) else none := id rfl
theorem upd_ne {d : D} (h : (x == y) = false) : upd ρ (Str.ofString y) d (Str.ofString x) = ρ (Str.ofString x) := by
  unfold upd
  rw [if_neg fun e => by rw [ofString_inj e] at h; simp at h]
theorem bl_eq {ns : List Str} {d : D} {ds : List D} : bindLoc (Str.ofString x :: ns) (d :: ds) (Str.ofString x) = some d := by
  unfold bindLoc
  rw [List.zip_cons_cons, List.lookup_cons_self]
theorem bl_ne {ns : List Str} {d : D} {ds : List D} (h : (x == y) = false) : bindLoc (Str.ofString y :: ns) (d :: ds) (Str.ofString x) = bindLoc ns ds (Str.ofString x) := by
  unfold bindLoc
  rw [List.zip_cons_cons, List.lookup_cons, sBeq, h]
noncomputable def outK (o : Out) : Option D := outD o
theorem outK_next : outK (.next ρ) = some .none := id rfl
theorem outK_ret {d : D} : outK (.ret d) = some d := id rfl
theorem a_fnM {ns : List Str} {m : Loc → Option Out} {ds : List D} : fnM ns m ds = if ds.length = ns.length then (m (bindLoc ns ds)).bind outK else none := id rfl
end
theorem ob_some {α β : Type} {a : α} {f : α → Option β} : (some a).bind f = f a := id rfl
theorem ob_none {α β : Type} {f : α → Option β} : (none : Option α).bind f = none := id rfl
theorem om_some {α β : Type} {a : α} {f : α → β} : (some a).map f = some (f a) := id rfl
theorem om_none {α β : Type} {f : α → β} : (none : Option α).map f = none := id rfl
theorem ite_bind {α β : Type} {c : Prop} [Decidable c] {a b : Option α} {f : α → Option β} : (if c then a else b).bind f = if c then a.bind f else b.bind f := by split <;> rfl
theorem ite_map {α β : Type} {c : Prop} [Decidable c] {a b : Option α} {f : α → β} : (if c then a else b).map f = if c then a.map f else b.map f := by split <;> rfl
theorem dNegI {a : Int} : dNeg (.int a) = some (.int (-a)) := id rfl
theorem dAddI {a b : Int} : dAdd (.int a) (.int b) = some (.int (a + b)) := id rfl
theorem dSubI {a b : Int} : dSub (.int a) (.int b) = some (.int (a - b)) := id rfl
theorem dMulI {a b : Int} : dMul (.int a) (.int b) = if a.natAbs < 18446744073709551616 ∨ b.natAbs < 18446744073709551616 then some (.int (a * b)) else none := id rfl
theorem dFdivI {a b : Int} : dFdiv (.int a) (.int b) = if 0 < b ∧ b < 1073741824 then some (.int (a.fdiv b)) else none := id rfl
theorem dModI {a b : Int} : dMod (.int a) (.int b) = if b ≠ 0 then some (.int (a.fmod b)) else none := id rfl
theorem dPowI {a b : Int} : dPow (.int a) (.int b) = if 0 ≤ b ∧ b ≤ 1000 ∧ a.natAbs < 1000 then some (.int (a ^ b.toNat)) else none := id rfl
theorem dMulL {a b : Int} (h1 : -18446744073709551616 < a) (h2 : a < 18446744073709551616) : dMul (.int a) (.int b) = some (.int (a * b)) := by rw [dMulI, if_pos (.inl (by omega))]
theorem dMulR {a b : Int} (h1 : -18446744073709551616 < b) (h2 : b < 18446744073709551616) : dMul (.int a) (.int b) = some (.int (a * b)) := by rw [dMulI, if_pos (.inr (by omega))]
theorem dFdivP {a b : Int} (h1 : 0 < b) (h2 : b < 1073741824) : dFdiv (.int a) (.int b) = some (.int (a.fdiv b)) := by rw [dFdivI, if_pos ⟨h1, h2⟩]
theorem dModP {a b : Int} (h1 : 0 < b) : dMod (.int a) (.int b) = some (.int (a.fmod b)) := by rw [dModI, if_pos (by omega)]
theorem dPowP {a b : Int} (h1 : 0 ≤ b) (h2 : b ≤ 1000) (h3 : -1000 < a) (h4 : a < 1000) : dPow (.int a) (.int b) = some (.int (a ^ b.toNat)) := by rw [dPowI, if_pos ⟨h1, h2, by omega⟩]
theorem cLtI {a b : Int} : cLt (.int a) (.int b) = some (decide (a < b)) := id rfl
theorem cGtI {a b : Int} : cGt (.int a) (.int b) = some (decide (b < a)) := id rfl
theorem cLeI {a b : Int} : cLe (.int a) (.int b) = some (decide (a ≤ b)) := id rfl
theorem cGeI {a b : Int} : cGe (.int a) (.int b) = some (decide (b ≤ a)) := id rfl
theorem cEqI {a b : Int} : cEq (.int a) (.int b) = some (decide (a = b)) := by
  have : (a == b) = decide (a = b) := by by_cases h : a = b <;> simp [h]
  simp [cEq, D.ok, D.py, PyData.eqv, this]
theorem cNeI {a b : Int} : cNe (.int a) (.int b) = some (!decide (a = b)) := by
  have : (a == b) = decide (a = b) := by by_cases h : a = b <;> simp [h]
  simp [cNe, D.ok, D.py, PyData.eqv, this]
theorem cIsNotI {a : D} : cIsNot a .none = some (!a.isNone) := id rfl
theorem isNone_none : D.isNone .none = true := id rfl
theorem isNone_int {i : Int} : D.isNone (.int i) = false := id rfl
theorem cl_int {i : Int} : (D.int i).clean = true := id rfl
theorem cl_tup {l : List D} : (D.tup l).clean = true := id rfl
theorem cl_list {l : List D} : (D.list l).clean = true := id rfl
theorem cl_bool {b : Bool} : (D.bool b).clean = true := id rfl
theorem cl_none : D.none.clean = true := id rfl
theorem fz_int {i : Int} : (D.int i).frz = .int i := id rfl
theorem fz_list {l : List D} : (D.list l).frz = .list l := id rfl
theorem fz_own {l : List D} : (D.own l).frz = .list l := id rfl
theorem tr_bool {b : Bool} : D.truth? (.bool b) = some b := id rfl
theorem it_list {l : List D} : D.items? (.list l) = some l := id rfl
theorem sq_list {l : List D} : seqOf? (.list l) = some l := id rfl
theorem sq_own {l : List D} : seqOf? (.own l) = some l := id rfl
theorem sq_tup {l : List D} : seqOf? (.tup l) = some l := id rfl
theorem wk_list {fz : Bool} {l : List D} : walkOf? fz (.list l) = some l := id rfl
theorem wk_tup {fz : Bool} {l : List D} : walkOf? fz (.tup l) = some l := id rfl
theorem a_callD {Φ : List D → Option D} {ds : List D} : callD Φ ds = (Φ (ds.map D.frz)).bind fun r => if ds.all D.clean || r.flat then some r else none := id rfl
theorem isI_int {i : Int} {T : String} : isInst T (.int i) = (T == "int") := id rfl
theorem isI_bool {b : Bool} {T : String} : isInst T (.bool b) = (T == "bool" || T == "int") := id rfl
theorem lenDI {d : D} : lenD [d] = (seqOf? d).bind fun l => if l.length < 9223372036854775808 then some (.int l.length) else none := id rfl
theorem max2DI {a b : Int} : max2D [.int a, .int b] = some (.int (if b > a then b else a)) := id rfl
/-! the rules of reckoning, in bundles -/


/-! loops -/
theorem forM_all {α : Type} {g : α → D} {t : Tg} {mb : Loc → Option Out} : ∀ (xs : List α) (I : Nat → Loc → Prop) {ρ : Loc}, I 0 ρ → (∀ i x ρ, xs[i]? = some x → I i ρ → ∃ ρ', (bindT t (g x) ρ).bind mb = some (.next ρ') ∧ I (i + 1) ρ') →
    ∃ ρ', forM t mb (xs.map g) ρ = some (.next ρ') ∧ I xs.length ρ'
  | [], I, ρ, h0, _ => ⟨ρ, rfl, h0⟩
  | x :: xs, I, ρ, h0, step => by
    obtain ⟨ρ', e, h1⟩ := step 0 x ρ rfl h0
    obtain ⟨ρ₁, e1, e2⟩ := Option.bind_eq_some_iff.mp e
    obtain ⟨ρ₂, e3, h2⟩ := forM_all (g := g) (t := t) (mb := mb) xs (fun i => I (i + 1)) h1 fun i y ρ hy hi => step (i + 1) y ρ (by simpa using hy) hi
    refine ⟨ρ₂, ?_, h2⟩
    simp only [List.map_cons, forM, e1, e2, Option.bind_some, e3]
theorem forM_range {z : Str} {mb : Loc → Option Out} {n : Nat} (I : Nat → Loc → Prop) {ρ : Loc} (h0 : I 0 ρ) (step : ∀ (i : Nat) ρ, i < n → I i ρ → ∃ ρ', mb (upd ρ z (.int (i : Int))) = some (.next ρ') ∧ I (i + 1) ρ') :
    ∃ ρ', forM (.one z) mb (rangeD 0 n) ρ = some (.next ρ') ∧ I n ρ' := by
  have := forM_all (g := fun (i : Nat) => D.int (0 + (i : Int))) (t := .one z) (mb := mb) (List.range n) I h0 fun i x ρ hx hi => by
    obtain ⟨hl, hx⟩ := List.getElem?_eq_some_iff.mp hx
    simp at hx hl
    subst hx
    obtain ⟨ρ', e, h1⟩ := step i ρ hl hi
    exact ⟨ρ', by simp only [bindT_one, Option.bind_some, Int.zero_add]; exact e, h1⟩
  simpa [rangeD] using this
/-- a loop that may hand back -/
theorem forM_find {α : Type} {g : α → D} {t : Tg} {mb : Loc → Option Out} (P : α → Bool) (R : α → D) : ∀ (xs : List α) (I : Nat → Loc → Prop) {ρ : Loc}, I 0 ρ →
    (∀ i x ρ, xs[i]? = some x → I i ρ → if P x then (bindT t (g x) ρ).bind mb = some (.ret (R x)) else ∃ ρ', (bindT t (g x) ρ).bind mb = some (.next ρ') ∧ I (i + 1) ρ') →
    match xs.find? P with
    | some x => forM t mb (xs.map g) ρ = some (.ret (R x))
    | none => ∃ ρ', forM t mb (xs.map g) ρ = some (.next ρ') ∧ I xs.length ρ'
  | [], I, ρ, h0, _ => ⟨ρ, rfl, h0⟩
  | x :: xs, I, ρ, h0, step => by
    have s0 := step 0 x ρ rfl h0
    rw [List.find?_cons]
    cases hp : P x with
    | true =>
      rw [hp, if_pos rfl] at s0
      obtain ⟨ρ₁, e1, e2⟩ := Option.bind_eq_some_iff.mp s0
      simp only [List.map_cons, forM, e1, e2, Option.bind_some]
    | false =>
      rw [hp, if_neg Bool.false_ne_true] at s0
      obtain ⟨ρ', e, h1⟩ := s0
      obtain ⟨ρ₁, e1, e2⟩ := Option.bind_eq_some_iff.mp e
      have ih := forM_find (g := g) (t := t) (mb := mb) P R xs (fun i => I (i + 1)) h1 fun i y ρ hy hi => step (i + 1) y ρ (by simpa using hy) hi
      simp only [List.map_cons, forM, e1, e2, Option.bind_some]
      exact ih
theorem compM_map {α : Type} {g : α → D} {t : Tg} {mc : Loc → Option Bool} {me : Loc → Option D} {ρ : Loc} (p : α → Bool) (f : α → D) : ∀ (xs : List α), (∀ x ∈ xs, ∃ ρ₁, bindT t (g x) ρ = some ρ₁ ∧ mc ρ₁ = some (p x) ∧ (p x = true → me ρ₁ = some (f x) ∧ (f x).clean = true)) →
    compM t mc me (xs.map g) ρ = some ((xs.filter p).map f)
  | [], _ => rfl
  | x :: xs, h => by
    obtain ⟨ρ₁, e1, e2, e3⟩ := h x (.head _)
    have ih := compM_map (g := g) (t := t) (mc := mc) (me := me) (ρ := ρ) p f xs fun y hy => h y (.tail _ hy)
    simp only [List.map_cons, compM, e1, e2, Option.bind_some]
    cases hp : p x with
    | false => simp only [Bool.false_eq_true, if_false, ih, List.filter_cons, hp]
    | true =>
      obtain ⟨e4, e5⟩ := e3 hp
      simp only [if_true, e4, Option.bind_some, e5, ih, Option.map_some, List.filter_cons, hp, List.map_cons]

/-! items -/
theorem dGet_tup {l : List D} {i : Int} (h0 : 0 ≤ i) (h1 : i < 9223372036854775808) : dGet (.tup l) (.int i) = l[i.toNat]? := by
  simp only [dGet, sq_tup, Option.bind_some]
  rw [if_pos ⟨by omega, h1⟩, if_neg (by omega)]
theorem dGet_list {l : List D} {i : Int} (h0 : 0 ≤ i) (h1 : i < 9223372036854775808) : dGet (.list l) (.int i) = l[i.toNat]? := by
  simp only [dGet, sq_list, Option.bind_some]
  rw [if_pos ⟨by omega, h1⟩, if_neg (by omega)]
theorem dGet_own {l : List D} {i : Int} (h0 : 0 ≤ i) (h1 : i < 9223372036854775808) : dGet (.own l) (.int i) = l[i.toNat]? := by
  simp only [dGet, sq_own, Option.bind_some]
  rw [if_pos ⟨by omega, h1⟩, if_neg (by omega)]

/-! jobs -/
noncomputable abbrev J : Type := Int × Int × Int
noncomputable def jd (j : J) : D := .tup [.int j.1, .int j.2.1, .int j.2.2]
theorem jd_mk {a b c : Int} : jd (a, b, c) = .tup [.int a, .int b, .int c] := id rfl
theorem jd_0 {j : J} : dGet (jd j) (.int 0) = some (.int j.1) := dGet_tup (by omega) (by omega)
theorem jd_1 {j : J} : dGet (jd j) (.int 1) = some (.int j.2.1) := dGet_tup (by omega) (by omega)
theorem jd_2 {j : J} : dGet (jd j) (.int 2) = some (.int j.2.2) := dGet_tup (by omega) (by omega)
theorem cl_jd {j : J} : (jd j).clean = true := rfl
theorem fz_jd {j : J} : (jd j).frz = jd j := rfl
/-- what the checks let by -/
noncomputable def Snd (j : J) : Prop := 0 ≤ j.1 ∧ 1 ≤ j.2.1 ∧ j.1 < j.2.2 ∧ j.1 < 10 ^ 60 ∧ j.2.1 < 10 ^ 60 ∧ j.2.2 < 10 ^ 60
end Mine
end
section
set_option maxRecDepth 20000
set_option linter.unusedVariables false
set_option linter.unusedSimpArgs false
namespace Mine
open PySem PyProof.Rows PySem.Calls

noncomputable def scr (ns : List Int) : D := .list (ns.map .int)
noncomputable def cellAt (ns : List Int) (k : Int) : Int := ns.getD k.toNat 0
theorem F_cell {ns : List Int} {k : Int} (hn : ns.length ≤ 63) (hk : 0 ≤ k) : F_law_cell_at [scr ns, .int k] = some (.int (cellAt ns k)) := by
  simp only [F_law_cell_at, m_law_cell_at, scr, cellAt, a_seqM, k_next, k_ret, a_sIf, a_sRet, a_sPass, a_eV, a_eI, a_tCmp, a_eSub, a_esNil, a_esCons, a_eBi, bl_eq, bl_ne, nms, a_fnM, String.reduceBEq, List.map_cons, List.map_nil, List.length_cons, List.length_nil, ob_some, ob_none, ite_bind, cLtI, outK_ret, cl_int, sq_list, if_true, lenDI, decide_eq_true_eq, Nat.reduceAdd]
  simp only [List.length_map, show ns.length < 9223372036854775808 by omega, if_true]
  by_cases h : k < (ns.length : Int)
  · rw [if_pos h, dGet_list hk (by omega), List.getElem?_map, List.getD_eq_getElem?_getD]
    have : k.toNat < ns.length := by omega
    rw [List.getElem?_eq_getElem this]; rfl
  · rw [if_neg h, List.getD_eq_getElem?_getD, List.getElem?_eq_none (by omega)]; rfl
theorem fmod_pos {a b : Int} (h : 0 < b) : 0 ≤ a.fmod b ∧ a.fmod b < b := ⟨Int.fmod_nonneg_of_pos _ h, Int.fmod_lt_of_pos _ h⟩
theorem mul_le {a A w W : Int} (h0 : 0 ≤ a) (h1 : a ≤ A) (h2 : 0 ≤ w) (h3 : w ≤ W) : 0 ≤ a * w ∧ a * w ≤ A * W :=
  ⟨Int.mul_nonneg h0 h2, Int.mul_le_mul h1 h3 h2 (Int.le_trans h0 h1)⟩

end Mine
end
section
set_option maxRecDepth 20000
set_option linter.unusedVariables false
set_option linter.unusedSimpArgs false
namespace Mine
open PySem PyProof.Rows PySem.Calls

theorem slice_to {l : List D} {i : Int} (h0 : 0 ≤ i) : sliceL l none (some i) = l.take i.toNat := by
  simp only [sliceL, Option.map_none, Option.getD_none, Option.map_some, Option.getD_some, clip]
  rw [if_neg (by omega)]
  simp only [List.drop_zero, Nat.sub_zero]
  by_cases h : i.toNat ≤ l.length
  · rw [Nat.min_eq_left h]
  · rw [Nat.min_eq_right (by omega), List.take_of_length_le (Nat.le_refl _), List.take_of_length_le (by omega)]
theorem slice_from {l : List D} {i : Int} (h0 : 0 ≤ i) : sliceL l (some i) none = l.drop i.toNat := by
  simp only [sliceL, Option.map_none, Option.getD_none, Option.map_some, Option.getD_some, clip]
  rw [if_neg (by omega)]
  by_cases h : i.toNat ≤ l.length
  · rw [Nat.min_eq_left h, List.take_of_length_le (by simp)]
  · rw [Nat.min_eq_right (by omega), List.drop_of_length_le (Nat.le_refl _), List.drop_of_length_le (by omega)]; simp
end Mine
end
section
set_option maxRecDepth 20000
set_option linter.unusedVariables false
set_option linter.unusedSimpArgs false
namespace Mine
open PySem PyProof.Rows PySem.Calls

/-! the checks -/
theorem F_whole_int {i : Int} : F_whole [.int i] = some (.bool true) := by
  simp only [F_whole, m_whole, a_seqM, k_ret, a_sRet, a_eV, a_eAnd, a_eNot, a_eIsI, bl_eq, nms, a_fnM, String.reduceBEq, List.map_cons, List.map_nil, List.length_cons, List.length_nil, ob_some, om_some, outK_ret, cl_bool, tr_bool, isI_int, Bool.not_false, if_true, Nat.reduceAdd]
theorem F_sound_jd {j : J} (h : Snd j) : F_sound [jd j] = some (.bool true) := by
  obtain ⟨h1, h2, h3, h4, h5, h6⟩ := h
  simp only [F_sound, m_sound, jd, isInst, a_seqM, k_next, k_ret, a_sIf, a_sRet, a_sFor, a_sPass, a_eV, a_eI, a_eB, a_tCmp, a_tNot, a_tFalse, a_tOr, a_tPl, a_esNil, a_esCons, a_eBi, a_eIsI, a_iSeq, t1, bl_eq, nms, a_fnM, String.reduceBEq, List.map_cons, List.map_nil, List.length_cons, List.length_nil, ob_some, om_some, ite_bind, cNeI, outK_ret, cl_bool, tr_bool, sq_tup, wk_tup, Bool.not_true, Bool.or_self, if_true, if_false, Bool.false_eq_true, lenDI, Nat.reduceLT, Nat.reduceLeDiff, Nat.reduceAdd]
  simp only [forM, B_sound_1, F_whole_int, a_seqM, k_next, k_ret, a_sIf, a_sRet, a_sPass, a_eV, a_eI, a_eB, a_eBin, a_eCmp, a_tCmp, a_tNot, a_tFalse, a_tOr, a_tPl, a_eAnd, a_eSub, a_esNil, a_esCons, a_eCall, upd_self, bindT_one, bl_eq, upd_ne, String.reduceBEq, List.map_cons, List.map_nil, ob_some, om_some, ite_bind, dPowP, cLtI, cGeI, outK_ret, cl_int, cl_bool, fz_int, tr_bool, a_callD, List.all_cons, List.all_nil, Bool.true_or, Bool.not_true, Bool.and_self, if_true, if_false, Bool.false_eq_true, decide_eq_true_eq, Int.reduceLT, Int.reduceLE, Int.reduceToNat, Int.reduceNeg]
  have q1 : ¬ j.1 < 0 := by omega
  have q2 : ¬ j.2.1 < 0 := by omega
  have q3 : ¬ j.2.2 < 0 := by omega
  have q4 : ¬ (10 : Int) ^ 60 ≤ j.1 := by omega
  have q5 : ¬ (10 : Int) ^ 60 ≤ j.2.1 := by omega
  have q6 : ¬ (10 : Int) ^ 60 ≤ j.2.2 := by omega
  simp only [q1, q2, q3, q4, q5, q6, dGet_tup, Int.reduceLE, Int.reduceLT, List.getElem?_cons_succ, List.getElem?_cons_zero, h2, h3, k_ret, ob_some, om_some, cGtI, cGeI, outK_ret, cl_bool, tr_bool, if_true, if_false, decide_true, Int.reduceLT, Int.reduceLE, Int.reduceToNat]
  simp
theorem F_check_ok {js : List J} (hl : js.length ≤ 60) (h : ∀ j ∈ js, Snd j) : F_check [.list (js.map jd)] = some .none := by
  simp only [F_check, m_check, a_seqM, k_next, a_sIf, a_sFor, a_sPass, a_sNo, a_eV, a_eI, a_tCmp, a_esNil, a_esCons, a_eBi, a_iSeq, t1, bl_eq, nms, a_fnM, List.map_cons, List.map_nil, List.length_cons, List.length_nil, ob_some, ob_none, ite_bind, cGtI, sq_list, wk_list, if_true, lenDI, decide_eq_true_eq, Nat.reduceAdd]
  simp only [List.length_map, show js.length < 9223372036854775808 by omega, show ¬ (60 : Int) < (js.length : Int) by omega, show js.length ≤ 16777216 by omega, if_true, if_false]
  obtain ⟨ρ, e, _⟩ := forM_all (g := jd) (t := .one (Str.ofString "job")) (mb := B_check_1) js (fun _ _ => True) (ρ := bindLoc [Str.ofString "jobs"] [.list (js.map jd)]) trivial fun i x ρ hx _ => by
    have hm : x ∈ js := List.mem_of_getElem? hx
    simp only [B_check_1, F_sound_jd (h x hm), cl_jd, fz_jd, a_seqM, k_next, a_sIf, a_sPass, a_sNo, a_eV, a_tNot, a_tPl, a_esNil, a_esCons, a_eCall, upd_self, bindT_one, List.map_cons, List.map_nil, ob_some, ob_none, om_some, tr_bool, a_callD, List.all_cons, List.all_nil, Bool.true_or, Bool.not_true, Bool.and_self, if_true, if_false, Bool.false_eq_true, and_true]
    exact ⟨_, rfl⟩
  simp only [e, k_next, a_sPass, ob_some, outK_next]
end Mine
end
section
set_option maxRecDepth 20000
set_option linter.unusedVariables false
set_option linter.unusedSimpArgs false
namespace Mine
open PySem PyProof.Rows PySem.Calls

theorem ok_jd {j : J} {n : Nat} : (jd j).ok (n + 1) = true := by simp [jd, D.ok]
theorem ok_jobs {js : List J} {n : Nat} : (D.list (js.map jd)).ok (n + 2) = true := by
  simp only [D.ok, List.all_eq_true, List.mem_map]
  rintro d ⟨j, _, rfl⟩
  exact ok_jd
theorem ok_ints {ls : List Int} {n : Nat} : (D.list (ls.map .int)).ok (n + 1) = true := by
  simp only [D.ok, List.all_eq_true, List.mem_map]
  rintro d ⟨j, _, rfl⟩
  simp [D.ok]
theorem ok_own {l : List D} {n : Nat} : (D.own l).ok n = (D.list l).ok n := by cases n <;> rfl
theorem py_own {l : List D} : (D.own l).py = (D.list l).py := by simp [D.py]
theorem cEq_self {d : D} (h : d.ok 8 = true) : cEq d d = some true := by
  unfold cEq
  rw [h, Bool.and_self, if_pos rfl, SeqAt.eqv_refl _ (D.ok_lay 8 d h).1]
noncomputable def jAt (js : List J) (i : Nat) : J := js.getD i (0, 0, 0)
noncomputable def lAt (ls : List Int) (i : Nat) : Int := ls.getD i 0
theorem jAt_get {js : List J} {i : Nat} (h : i < js.length) : js[i]? = some (jAt js i) := by
  unfold jAt; rw [List.getD_eq_getElem?_getD, List.getElem?_eq_getElem h]; rfl
theorem jAt_mem {js : List J} {i : Nat} (h : i < js.length) : jAt js i ∈ js := List.mem_of_getElem? (jAt_get h)
theorem lAt_get {ls : List Int} {i : Nat} (h : i < ls.length) : ls[i]? = some (lAt ls i) := by
  unfold lAt; rw [List.getD_eq_getElem?_getD, List.getElem?_eq_getElem h]; rfl
theorem get_jobs {js : List J} {i : Nat} (h : i < js.length) (hb : js.length ≤ 1000000) : dGet (.list (js.map jd)) (.int (i : Int)) = some (jd (jAt js i)) := by
  rw [dGet_list (by omega) (by omega), List.getElem?_map, Int.toNat_natCast, jAt_get h]; rfl
theorem get_ints {ls : List Int} {i : Nat} (h : i < ls.length) (hb : ls.length ≤ 1000000) : dGet (.list (ls.map .int)) (.int (i : Int)) = some (.int (lAt ls i)) := by
  rw [dGet_list (by omega) (by omega), List.getElem?_map, Int.toNat_natCast, lAt_get h]; rfl
theorem get_own {ls : List Int} {i : Nat} (h : i < ls.length) (hb : ls.length ≤ 1000000) : dGet (.own (ls.map .int)) (.int (i : Int)) = some (.int (lAt ls i)) := by
  rw [dGet_own (by omega) (by omega), List.getElem?_map, Int.toNat_natCast, lAt_get h]; rfl

/-! the first due -/
end Mine
end
section
set_option maxRecDepth 20000
set_option linter.unusedVariables false
set_option linter.unusedSimpArgs false
namespace Mine
open PySem PyProof.Rows PySem.Calls

theorem get_last {l : List D} (h : l.length ≤ 1000000) : dGet (.list l) (.int (-1)) = l.getLast? := by
  simp only [dGet, sq_list, Option.bind_some]
  rw [if_pos ⟨by omega, by omega⟩, if_pos (by omega)]
  cases l with
  | nil => rfl
  | cons d l =>
    rw [if_neg (by simp; omega), List.getLast?_eq_getElem?]
    congr 1
    simp; omega
theorem sumD_list {l : List D} : sumD [.list l] = (intsOf? l).map fun ns => .int ns.sum := id rfl
theorem intsOf_map {α : Type} {f : α → Int} : ∀ (xs : List α), intsOf? (xs.map fun x => D.int (f x)) = some (xs.map f)
  | [] => rfl
  | x :: xs => by simp only [List.map_cons, intsOf?, intsOf_map xs, Option.map_some]
theorem lAt_set {ls : List Int} {p i : Nat} {x : Int} (hp : p < ls.length) : lAt (ls.set p x) i = if i = p then x else lAt ls i := by
  unfold lAt
  rw [List.getD_eq_getElem?_getD, List.getD_eq_getElem?_getD, List.getElem?_set]
  by_cases q : p = i
  · subst q; simp [hp]
  · rw [if_neg q, if_neg (fun e => q e.symm)]
theorem bindT_jd {ρ : Loc} {x y z : Str} {j : J} : bindT (.many [x, y, z]) (jd j) ρ = some (upd (upd (upd ρ x (.int j.1)) y (.int j.2.1)) z (.int j.2.2)) := rfl

/-! does a piece fit -/
noncomputable def optS : Option Int → D
  | none => .none
  | some t => .int t
noncomputable def sinceB (x : J) : Option Int → Bool
  | none => true
  | some t => decide (t ≤ x.2.1)
noncomputable def fitB (js : List J) (x : J) (s : Option Int) : Bool := decide (0 ≤ x.1) && decide (x.1 < (js.length : Int)) && decide (x.2.1 < x.2.2) && sinceB x s && decide ((jAt js x.1.toNat).1 ≤ x.2.1) && decide (x.2.2 ≤ (jAt js x.1.toNat).2.2)
theorem get_jobs' {js : List J} {i : Int} (h0 : 0 ≤ i) (h : i < (js.length : Int)) (hb : js.length ≤ 1000000) : dGet (.list (js.map jd)) (.int i) = some (jd (jAt js i.toNat)) := by
  have := get_jobs (js := js) (i := i.toNat) (by omega) hb
  rwa [Int.toNat_of_nonneg h0] at this
theorem F_fits_ok {js : List J} {x : J} {s : Option Int} (hl : js.length ≤ 60) : F_fits [.list (js.map jd), jd x, optS s] = some (.bool (fitB js x s)) := by
  simp only [F_fits, m_fits, jd_0, jd_1, jd_2, fitB, List.length_map, show js.length < 9223372036854775808 by omega, a_seqM, k_next, k_ret, a_sIf, a_sRet, a_sPass, a_eV, a_eI, a_eB, a_eN, a_eCmp, a_tCmp, a_tTrue, a_tFalse, a_tAnd, a_tOr, a_eAnd, a_eSub, a_esNil, a_esCons, a_eBi, bl_eq, bl_ne, nms, a_fnM, String.reduceBEq, List.map_cons, List.map_nil, List.length_cons, List.length_nil, ob_some, ite_bind, cLtI, cGeI, cIsNotI, outK_ret, cl_bool, sq_list, if_true, if_false, Bool.false_eq_true, lenDI, decide_eq_true_eq, Nat.reduceAdd]
  by_cases q0 : x.1 < 0
  · simp only [q0, show ¬ (0 ≤ x.1) by omega, Bool.false_and, if_true, decide_false]
  · by_cases q1 : (js.length : Int) ≤ x.1
    · simp only [q0, q1, show ¬ (x.1 < (js.length : Int)) by omega, Bool.and_false, Bool.false_and, if_true, if_false, decide_false]
    · by_cases q2 : x.2.2 ≤ x.2.1
      · simp only [q0, q1, q2, show ¬ (x.2.1 < x.2.2) by omega, Bool.and_false, Bool.false_and, if_true, if_false, decide_false]
      · have g := get_jobs' (js := js) (i := x.1) (by omega) (by omega) (by omega)
        have p0 : 0 ≤ x.1 := by omega
        have p1 : x.1 < (js.length : Int) := by omega
        have p2 : x.2.1 < x.2.2 := by omega
        cases s with
        | none =>
          simp only [q0, q1, q2, p0, p1, p2, g, optS, sinceB, jd_0, jd_2, k_ret, ob_some, om_some, ite_bind, cLeI, cGeI, isNone_none, outK_ret, cl_bool, tr_bool, Bool.true_and, Bool.not_true, Bool.and_self, if_true, if_false, Bool.false_eq_true, decide_eq_true_eq, decide_true]
          by_cases r1 : (jAt js x.1.toNat).1 ≤ x.2.1
          · by_cases r2 : x.2.2 ≤ (jAt js x.1.toNat).2.2 <;> simp only [r1, r2, Bool.and_false, Bool.and_self, if_true, decide_true, decide_false]
          · simp only [r1, Bool.false_and, if_false, decide_false]
        | some t =>
          by_cases r0 : x.2.1 < t
          · simp only [q0, q1, q2, p0, p1, p2, g, optS, sinceB, r0, show ¬ t ≤ x.2.1 by omega, k_ret, ob_some, cLtI, isNone_int, outK_ret, Bool.not_false, Bool.and_false, Bool.false_and, Bool.and_self, if_true, if_false, decide_true, decide_false]
          · have r0' : t ≤ x.2.1 := by omega
            simp only [q0, q1, q2, p0, p1, p2, g, optS, sinceB, r0, r0', jd_0, jd_1, jd_2, a_seqM, k_next, k_ret, a_sRet, a_eV, a_eI, a_eCmp, a_eAnd, a_eSub, bl_eq, bl_ne, String.reduceBEq, ob_some, om_some, ite_bind, cLtI, cLeI, cGeI, isNone_int, outK_ret, cl_bool, tr_bool, Bool.true_and, Bool.not_false, Bool.and_self, if_true, if_false, Bool.false_eq_true, decide_eq_true_eq, decide_true, decide_false]
            by_cases r1 : (jAt js x.1.toNat).1 ≤ x.2.1
            · by_cases r2 : x.2.2 ≤ (jAt js x.1.toNat).2.2 <;> simp only [r1, r2, Bool.and_false, Bool.and_self, if_true, decide_true, decide_false]
            · simp only [r1, Bool.false_and, if_false, decide_false]
theorem F_one_ok {js : List J} {x : J} {t : Int} (hl : js.length ≤ 60) : F_law_one_fits [.list (js.map jd), jd x, .int t] = some (.bool (fitB js x (some t))) := by
  simp only [F_law_one_fits, m_law_one_fits, bindT_jd, fitB, sinceB, List.length_map, show js.length < 9223372036854775808 by omega, a_seqM, k_next, k_ret, a_sIf, a_sRet, a_sUnp, a_sPass, a_eV, a_eI, a_eB, a_eCmp, a_tCmp, a_tFalse, a_tOr, a_eAnd, a_eSub, a_esNil, a_esCons, a_eBi, upd_self, bl_eq, bl_ne, upd_ne, nms, a_fnM, String.reduceBEq, List.map_cons, List.map_nil, List.length_cons, List.length_nil, ob_some, om_some, ite_bind, cLtI, cGeI, outK_ret, cl_bool, sq_list, if_true, if_false, Bool.false_eq_true, lenDI, decide_eq_true_eq, Nat.reduceAdd]
  by_cases q0 : x.1 < 0
  · simp only [q0, show ¬ (0 ≤ x.1) by omega, Bool.false_and, if_true, decide_false]
  · by_cases q1 : (js.length : Int) ≤ x.1
    · simp only [q0, q1, show ¬ (x.1 < (js.length : Int)) by omega, Bool.and_false, Bool.false_and, if_true, if_false, decide_false]
    · by_cases q2 : x.2.2 ≤ x.2.1
      · simp only [q0, q1, q2, show ¬ (x.2.1 < x.2.2) by omega, Bool.and_false, Bool.false_and, if_true, if_false, decide_false]
      · have g := get_jobs' (js := js) (i := x.1) (by omega) (by omega) (by omega)
        have p0 : 0 ≤ x.1 := by omega
        have p1 : x.1 < (js.length : Int) := by omega
        have p2 : x.2.1 < x.2.2 := by omega
        by_cases r0 : x.2.1 < t
        · simp only [q0, q1, q2, p0, p1, p2, r0, show ¬ t ≤ x.2.1 by omega, Bool.and_false, Bool.false_and, Bool.and_self, if_true, if_false, decide_true, decide_false]
        · have r0' : t ≤ x.2.1 := by omega
          simp only [q0, q1, q2, p0, p1, p2, g, r0, r0', jd_0, jd_2, k_ret, ob_some, om_some, ite_bind, cLeI, cGeI, outK_ret, cl_bool, tr_bool, Bool.true_and, Bool.and_self, if_true, if_false, decide_eq_true_eq, decide_true]
          by_cases r1 : (jAt js x.1.toNat).1 ≤ x.2.1
          · by_cases r2 : x.2.2 ≤ (jAt js x.1.toNat).2.2 <;> simp only [r1, r2, Bool.and_false, Bool.and_self, if_true, decide_true, decide_false]
          · simp only [r1, Bool.false_and, if_false, decide_false]
theorem fit_range {js : List J} {x : J} {s : Option Int} (h : fitB js x s = true) : 0 ≤ x.1 ∧ x.1.toNat < js.length := by
  simp only [fitB, Bool.and_eq_true, decide_eq_true_eq] at h
  omega

/-! meets -/
noncomputable def addW (ws : List Int) (x : J) : List Int := ws.set x.1.toNat (lAt ws x.1.toNat + x.2.2 - x.2.1)
noncomputable def goB (js : List J) : List J → List Int → Option Int → Option (List Int)
  | [], ws, _ => some ws
  | x :: xs, ws, s => if fitB js x s then goB js xs (addW ws x) (some x.2.2) else none
structure MI (js : List J) (ws : List Int) (s : Option Int) (ρ : Loc) : Prop where
  jobs : ρ (Str.ofString "jobs") = some (.list (js.map jd))
  worked : ρ (Str.ofString "worked") = some (.own (ws.map .int))
  since : ρ (Str.ofString "since") = some (optS s)
theorem os_clean {s : Option Int} : (optS s).clean = true := by cases s <;> rfl
theorem os_frz {s : Option Int} : (optS s).frz = optS s := by cases s <;> rfl
theorem meets_loop {js : List J} (hl : js.length ≤ 60) : ∀ (xs : List J) (ws : List Int) (s : Option Int) (ρ : Loc), ws.length = js.length → MI js ws s ρ →
    match goB js xs ws s with
    | none => forM (.one (Str.ofString "piece")) B_meets_1 (xs.map jd) ρ = some (.ret (.bool false))
    | some ws' => ∃ ρ' s', forM (.one (Str.ofString "piece")) B_meets_1 (xs.map jd) ρ = some (.next ρ') ∧ MI js ws' s' ρ' ∧ ws'.length = js.length
  | [], ws, s, ρ, hw, h => ⟨ρ, s, rfl, h, hw⟩
  | x :: xs, ws, s, ρ, hw, h => by
    obtain ⟨h1, h2, h3⟩ := h
    have hf := F_fits_ok (js := js) (x := x) (s := s) hl
    unfold goB
    cases hb : fitB js x s with
    | false =>
      rw [hb] at hf
      simp only [Bool.false_eq_true, if_false, List.map_cons, forM, bindT_one, B_meets_1, h1, h3, hf, os_clean, os_frz, cl_jd, fz_jd, a_seqM, k_ret, a_sIf, a_sRet, a_sPass, a_eV, a_eB, a_tNot, a_tPl, a_esNil, a_esCons, a_eCall, upd_self, bindT_one, upd_ne, String.reduceBEq, List.map_cons, List.map_nil, ob_some, om_some, cl_list, cl_bool, fz_list, tr_bool, a_callD, List.all_cons, List.all_nil, Bool.true_or, Bool.not_false, Bool.and_self, if_true, if_false, Bool.false_eq_true]
    | true =>
      rw [hb] at hf
      obtain ⟨p0, p1⟩ := fit_range hb
      have cnd : ((0 : Int) ≤ x.1 ∧ x.1 < (ws.length : Int) ∧ x.1 < 9223372036854775808) := ⟨p0, by omega, by omega⟩
      have g2 := get_own (ls := ws) (i := x.1.toNat) (by omega) (by omega)
      rw [Int.toNat_of_nonneg p0] at g2
      have hset : (ws.map D.int).set x.1.toNat (.int (lAt ws x.1.toNat + x.2.2 - x.2.1)) = (addW ws x).map D.int := by unfold addW; rw [List.map_set]
      have step : ∃ ρ₁, B_meets_1 (upd ρ (Str.ofString "piece") (jd x)) = some (.next ρ₁) ∧ MI js (addW ws x) (some x.2.2) ρ₁ := by
        simp only [B_meets_1, h1, h2, h3, hf, os_clean, os_frz, cl_jd, fz_jd, jd_0, jd_1, jd_2, g2, cnd, hset, List.length_map, a_seqM, k_next, k_ret, a_sIf, a_sRet, a_sAsg, a_sSet, setK_own, a_sPass, a_eV, a_eI, a_eB, a_eBin, a_tNot, a_tPl, a_eSub, a_esNil, a_esCons, a_eCall, upd_self, upd_ne, String.reduceBEq, List.map_cons, List.map_nil, ob_some, om_some, dAddI, dSubI, cl_int, cl_list, cl_bool, fz_list, tr_bool, a_callD, List.all_cons, List.all_nil, Bool.true_or, Bool.not_true, Bool.and_self, if_true, if_false, Bool.false_eq_true, and_self, and_true]
        exact ⟨_, rfl, by simp only [h1, upd_ne, String.reduceBEq], by simp only [upd_self, upd_ne, String.reduceBEq], by simp only [optS, upd_self]⟩
      obtain ⟨ρ₁, e1, hI⟩ := step
      have ih := meets_loop hl xs (addW ws x) (some x.2.2) ρ₁ (by simp [addW, hw]) hI
      simp only [if_true, List.map_cons, forM, bindT_one, ob_some, e1]
      exact ih
noncomputable def sumAt (xs : List J) (i : Nat) : Int := ((xs.filter fun x => decide (x.1 = (i : Int))).map fun x => x.2.2 - x.2.1).sum
theorem sumAt_cons {x : J} {xs : List J} {i : Nat} : sumAt (x :: xs) i = (if x.1 = (i : Int) then x.2.2 - x.2.1 else 0) + sumAt xs i := by
  unfold sumAt
  by_cases q : x.1 = (i : Int) <;> simp [q]
theorem goB_at {js : List J} : ∀ (xs : List J) (ws : List Int) (s : Option Int) (ws' : List Int), ws.length = js.length → goB js xs ws s = some ws' → ws'.length = js.length ∧ ∀ i < js.length, lAt ws' i = lAt ws i + sumAt xs i
  | [], ws, s, ws', hw, h => by cases h; exact ⟨hw, fun i _ => by simp [sumAt]⟩
  | x :: xs, ws, s, ws', hw, h => by
    unfold goB at h
    split at h
    · rename_i hb
      obtain ⟨p0, p1⟩ := fit_range hb
      obtain ⟨h1, h2⟩ := goB_at xs (addW ws x) (some x.2.2) ws' (by simp [addW, hw]) h
      refine ⟨h1, fun i hi => ?_⟩
      rw [h2 i hi, sumAt_cons]
      unfold addW
      rw [lAt_set (by omega)]
      by_cases q : i = x.1.toNat
      · have : x.1 = (i : Int) := by omega
        rw [if_pos q, if_pos this, ← q]; omega
      · have : ¬ x.1 = (i : Int) := by omega
        rw [if_neg q, if_neg this]; omega
    · cases h
theorem eqv_ints : ∀ (a b : List Int), PyData.eqvAll (D.pys (a.map D.int)) (D.pys (b.map D.int)) = decide (a = b)
  | [], [] => by simp [D.pys, PyData.eqvAll]
  | [], y :: b => by simp [D.pys, PyData.eqvAll]
  | x :: a, [] => by simp [D.pys, PyData.eqvAll]
  | x :: a, y :: b => by
    have ih := eqv_ints a b
    simp only [List.map_cons, D.pys, PyData.eqvAll, D.py, PyData.eqv, ih]
    by_cases q : x = y
    · subst q; simp
    · simp [q]
theorem cEq_ints {a b : List Int} : cEq (.own (a.map .int)) (.list (b.map .int)) = some (decide (a = b)) := by
  unfold cEq
  rw [ok_own, ok_ints, ok_ints, Bool.and_self, if_pos rfl, py_own]
  simp only [D.py, PyData.eqv, eqv_ints]
theorem rep0 : ∀ (js : List J), js.map (fun _ : J => D.int 0) = (List.replicate js.length 0).map D.int
  | [] => rfl
  | j :: js => by rw [List.map_cons, rep0 js, List.length_cons, List.replicate_succ]; rfl
noncomputable def meetsB (js way : List J) : Bool := match goB js way (List.replicate js.length 0) none with
  | none => false
  | some ws => decide (ws = js.map (·.2.1))
theorem F_meets_ok {js way : List J} (hl : js.length ≤ 60) (hs : ∀ j ∈ js, Snd j) (hw : way.length ≤ 1000) : F_meets [.list (js.map jd), .list (way.map jd)] = some (.bool (meetsB js way)) := by
  simp only [F_meets, m_meets, F_check_ok hl hs, a_compL, List.length_map, show js.length ≤ 16777216 by omega, a_seqM, k_next, a_sOwn, a_sExpr, a_eV, a_esNil, a_esCons, a_eCall, a_iSeq, t1, bl_eq, nms, a_fnM, List.map_cons, List.map_nil, List.length_cons, List.length_nil, ob_some, isNone_none, cl_list, fz_list, wk_list, a_callD, List.all_cons, List.all_nil, Bool.true_or, Bool.and_self, if_true, Nat.reduceAdd]
  rw [compM_map (fun _ => true) (fun j : J => .int 0) js (fun j hj => ⟨_, rfl, rfl, fun _ => ⟨by simp only [a_eI], rfl⟩⟩)]
  have hfil : js.filter (fun _ => true) = js := by simp
  have hrep := rep0 js
  simp only [hfil, hrep, List.length_map, show way.length ≤ 16777216 by omega, a_seqM, k_next, a_sAsg, a_sFor, a_eV, a_eN, a_iSeq, bl_eq, bl_ne, upd_ne, String.reduceBEq, ob_some, cl_none, wk_list, if_true]
  have lp := meets_loop hl way (List.replicate js.length 0) none (upd (upd (bindLoc [Str.ofString "jobs", Str.ofString "way"] [.list (js.map jd), .list (way.map jd)]) (Str.ofString "worked") (.own ((List.replicate js.length 0).map .int))) (Str.ofString "since") .none) (by simp) ⟨by simp only [bl_eq, upd_ne, String.reduceBEq], by simp only [upd_self, upd_ne, String.reduceBEq], by simp only [upd_self]; rfl⟩
  unfold meetsB
  cases hg : goB js way (List.replicate js.length 0) none with
  | none =>
    rw [hg] at lp
    simp only at lp
    simp only [lp, k_ret, ob_some, outK_ret]
  | some ws =>
    rw [hg] at lp
    obtain ⟨ρ', s', e, hI, _⟩ := lp
    simp only [e, hI.jobs, hI.worked, a_compL, List.length_map, show js.length ≤ 16777216 by omega, a_seqM, k_next, a_sRet, a_eV, a_eCmp, a_eL, a_iSeq, ob_some, wk_list, if_true]
    rw [compM_map (fun _ => true) (fun j : J => .int j.2.1) js (fun j hj => ⟨_, rfl, rfl, fun _ => ⟨by simp only [jd_1, a_eV, a_eI, a_eSub, upd_self, ob_some], rfl⟩⟩)]
    simp only [hfil, ob_some, om_some]
    rw [show js.map (fun j : J => D.int j.2.1) = (js.map (·.2.1)).map D.int by simp, cEq_ints]
    simp only [k_ret, ob_some, om_some, outK_ret, cl_bool, if_true]

/-! the law's own look -/
noncomputable def goD (js : List J) : List J → Int → Bool
  | [], _ => true
  | x :: xs, t => fitB js x (some t) && goD js xs x.2.2
theorem goB_goD {js : List J} : ∀ (xs : List J) (ws : List Int) (t : Int), (goB js xs ws (some t)).isSome = goD js xs t
  | [], _, _ => rfl
  | x :: xs, ws, t => by
    unfold goB goD
    cases fitB js x (some t) with
    | true => simp only [if_true, Bool.true_and]; exact goB_goD xs _ _
    | false => simp
noncomputable def headT (way : List J) : Int := match way with | x :: _ => x.2.1 | [] => 0
theorem goB_first {js way : List J} {ws : List Int} : (goB js way ws none).isSome = goD js way (headT way) := by
  cases way with
  | nil => rfl
  | cons x xs =>
    unfold goB goD
    have : fitB js x none = fitB js x (some (headT (x :: xs))) := by simp [fitB, sinceB, headT]
    rw [this]
    cases fitB js x (some (headT (x :: xs))) with
    | true => simp only [if_true, Bool.true_and]; exact goB_goD xs _ _
    | false => simp
noncomputable def dueB (js way : List J) : Bool := goD js way (headT way) && (List.range js.length).all fun i => decide (sumAt way i = (jAt js i).2.1)
theorem lAt_ext {a b : List Int} {n : Nat} (ha : a.length = n) (hb : b.length = n) (h : ∀ i < n, lAt a i = lAt b i) : a = b := by
  refine List.ext_getElem (by omega) fun i h1 h2 => ?_
  have := h i (by omega)
  unfold lAt at this
  simpa [h1, h2] using this
theorem lAt_len' {js : List J} {i : Nat} (h : i < js.length) : lAt (js.map (·.2.1)) i = (jAt js i).2.1 := by
  unfold lAt jAt
  simp [h]
theorem lAt_rep {n i : Nat} : lAt (List.replicate n 0) i = 0 := by
  unfold lAt
  by_cases h : i < n <;> simp [h]
theorem meets_due {js way : List J} : meetsB js way = dueB js way := by
  unfold meetsB dueB
  rw [← goB_first (ws := List.replicate js.length 0)]
  cases hg : goB js way (List.replicate js.length 0) none with
  | none => rfl
  | some ws =>
    obtain ⟨h1, h2⟩ := goB_at way _ _ _ (by simp) hg
    simp only [Option.isSome_some, Bool.true_and]
    by_cases q : ws = js.map (·.2.1)
    · have : ((List.range js.length).all fun i => decide (sumAt way i = (jAt js i).2.1)) = true := by
        rw [List.all_eq_true]
        intro i hi
        have hi' : i < js.length := by simpa using hi
        have := h2 i hi'
        rw [q, lAt_len' hi', lAt_rep] at this
        simp; omega
      rw [this]; simp [q]
    · have : ((List.range js.length).all fun i => decide (sumAt way i = (jAt js i).2.1)) = false := by
        rw [Bool.eq_false_iff]
        intro hall
        rw [List.all_eq_true] at hall
        refine q (lAt_ext (n := js.length) h1 (by simp) fun i hi => ?_)
        have := hall i (by simpa using hi)
        simp only [decide_eq_true_eq] at this
        rw [h2 i hi, lAt_rep, lAt_len' hi]; omega
      rw [this]; simp [q]
theorem due_loop {js : List J} (hl : js.length ≤ 60) : ∀ (xs : List J) (t : Int) (ρ : Loc) (way : List J), ρ (Str.ofString "_law_jobs") = some (.list (js.map jd)) → ρ (Str.ofString "_law_time") = some (.int t) → ρ (Str.ofString "_law_way") = some (.list (way.map jd)) →
    match goD js xs t with
    | false => forM (.one (Str.ofString "_law_piece")) B_law_due_1 (xs.map jd) ρ = some (.ret (.bool false))
    | true => ∃ ρ', forM (.one (Str.ofString "_law_piece")) B_law_due_1 (xs.map jd) ρ = some (.next ρ') ∧ ρ' (Str.ofString "_law_jobs") = some (.list (js.map jd)) ∧ ρ' (Str.ofString "_law_way") = some (.list (way.map jd))
  | [], t, ρ, way, h1, h2, h3 => ⟨ρ, rfl, h1, h3⟩
  | x :: xs, t, ρ, way, h1, h2, h3 => by
    have hf := F_one_ok (js := js) (x := x) (t := t) hl
    unfold goD
    cases hb : fitB js x (some t) with
    | false =>
      rw [hb] at hf
      simp only [Bool.false_and, List.map_cons, forM, bindT_one, B_law_due_1, h1, h2, hf, cl_jd, fz_jd, a_seqM, k_ret, a_sIf, a_sRet, a_sPass, a_eV, a_eB, a_tNot, a_tPl, a_esNil, a_esCons, a_eCall, upd_self, bindT_one, upd_ne, String.reduceBEq, List.map_cons, List.map_nil, ob_some, om_some, cl_int, cl_list, cl_bool, fz_int, fz_list, tr_bool, a_callD, List.all_cons, List.all_nil, Bool.true_or, Bool.not_false, Bool.false_and, Bool.and_self, if_true]
    | true =>
      rw [hb] at hf
      have step : ∃ ρ₁, B_law_due_1 (upd ρ (Str.ofString "_law_piece") (jd x)) = some (.next ρ₁) ∧ ρ₁ (Str.ofString "_law_jobs") = some (.list (js.map jd)) ∧ ρ₁ (Str.ofString "_law_time") = some (.int x.2.2) ∧ ρ₁ (Str.ofString "_law_way") = some (.list (way.map jd)) := by
        simp only [B_law_due_1, h1, h2, hf, cl_jd, fz_jd, jd_2, a_seqM, k_next, k_ret, a_sIf, a_sRet, a_sAsg, a_sPass, a_eV, a_eI, a_eB, a_tNot, a_tPl, a_eSub, a_esNil, a_esCons, a_eCall, upd_self, upd_ne, String.reduceBEq, List.map_cons, List.map_nil, ob_some, om_some, cl_int, cl_list, cl_bool, fz_int, fz_list, tr_bool, a_callD, List.all_cons, List.all_nil, Bool.true_or, Bool.not_true, Bool.and_self, if_true, if_false, Bool.false_eq_true]
        exact ⟨_, rfl, by simp only [h1, upd_ne, String.reduceBEq], by simp only [upd_self], by simp only [h3, upd_ne, String.reduceBEq]⟩
      obtain ⟨ρ₁, e1, k1, k2, k3⟩ := step
      have ih := due_loop hl xs x.2.2 ρ₁ way k1 k2 k3
      simp only [Bool.true_and, List.map_cons, forM, bindT_one, ob_some, e1]
      exact ih
theorem enum_map {js : List J} : enumD 0 (js.map jd) = (List.range js.length).map fun i => .tup [.int (i : Int), jd (jAt js i)] := by
  refine List.ext_getElem? fun i => ?_
  by_cases h : i < js.length
  · have h' : i < (enumD 0 (js.map jd)).length := by rw [enumD_length]; simpa using h
    obtain ⟨d, e1, e2⟩ := enumD_get 0 (js.map jd) i (List.getElem?_eq_getElem h')
    rw [List.getElem?_eq_getElem h', e2]
    rw [List.getElem?_map, jAt_get h] at e1
    cases e1
    simp [h]
  · rw [List.getElem?_eq_none (by rw [enumD_length]; simpa using h), List.getElem?_eq_none (by simpa using h)]
theorem lk_list {fz : Bool} {l : List D} : listOf? fz (.list l) = some l := id rfl
theorem tr_list {l : List D} : D.truth? (.list l) = if l.length < 9223372036854775808 then some (!l.isEmpty) else none := id rfl
theorem range_find {n : Nat} {P : Nat → Bool} : ((List.range n).find? P = none ∧ (List.range n).all (fun i => !P i) = true) ∨ (∃ k, (List.range n).find? P = some k ∧ (List.range n).all (fun i => !P i) = false) := by
  cases h : (List.range n).find? P with
  | none => exact .inl ⟨rfl, by rw [List.all_eq_true]; intro i hi; have := List.find?_eq_none.mp h i hi; simpa using this⟩
  | some k =>
    refine .inr ⟨k, rfl, ?_⟩
    rw [Bool.eq_false_iff]
    intro hall
    rw [List.all_eq_true] at hall
    have h1 := List.find?_some h
    have h2 := hall k (List.mem_of_find?_eq_some h)
    rw [h1] at h2; simp at h2
theorem F_due_ok {js way : List J} (hl : js.length ≤ 60) (hw : way.length ≤ 1000) : F_law_due [.list (js.map jd), .list (way.map jd)] = some (.bool (dueB js way)) := by
  have hh : (if (!(way.map jd).isEmpty) = true then (dGet (.list (way.map jd)) (.int 0)).bind fun o => dGet o (.int 1) else some (D.int 0)) = some (.int (headT way)) := by
    cases way with
    | nil => rfl
    | cons x xs =>
      have := get_jobs (js := x :: xs) (i := 0) (by simp) (by simp at hw ⊢; omega)
      simp only [Int.natCast_zero] at this
      simp only [List.map_cons, List.isEmpty_cons, Bool.not_false, if_true] at this ⊢
      rw [this, ob_some, jd_1]; rfl
  simp only [F_law_due, m_law_due, tr_list, List.length_map, show way.length < 9223372036854775808 by omega, show way.length ≤ 16777216 by omega, hh, a_seqM, k_next, a_sAsg, a_sFor, a_eV, a_eI, a_tPl, a_eIf, a_eSub, a_iSeq, t1, tN, bl_eq, bl_ne, upd_ne, nms, a_fnM, String.reduceBEq, List.map_cons, List.map_nil, List.length_cons, List.length_nil, ob_some, cl_int, wk_list, if_true, Nat.reduceAdd]
  have lp := due_loop hl way (headT way) (upd (bindLoc [Str.ofString "_law_jobs", Str.ofString "_law_way"] [.list (js.map jd), .list (way.map jd)]) (Str.ofString "_law_time") (.int (headT way))) way (by simp only [bl_eq, upd_ne, String.reduceBEq]) (by simp only [upd_self]) (by simp only [bl_eq, bl_ne, upd_ne, String.reduceBEq])
  unfold dueB
  cases hg : goD js way (headT way) with
  | false =>
    rw [hg] at lp
    simp only at lp
    simp only [lp, Bool.false_and, k_ret, ob_some, outK_ret, Bool.false_and]
  | true =>
    rw [hg] at lp
    obtain ⟨ρ', e, k1, k2⟩ := lp
    simp only [e, k1, lk_list, enum_map, List.length_map, show js.length ≤ 16777216 by omega, a_seqM, k_next, a_sFor, a_eV, a_iEnum, ob_some, Bool.true_and, if_true]
    have lf := forM_find (g := fun (i : Nat) => D.tup [.int (i : Int), jd (jAt js i)]) (t := .many [Str.ofString "_law_place", Str.ofString "_law_job"]) (mb := B_law_due_2) (fun i => !decide (sumAt way i = (jAt js i).2.1)) (fun _ => .bool false) (List.range js.length) (fun _ ρ => ρ (Str.ofString "_law_way") = some (.list (way.map jd))) (ρ := ρ') k2 fun i x ρ hx hI => by
      obtain ⟨hx1, hx2⟩ := List.getElem?_eq_some_iff.mp hx
      simp at hx1 hx2
      subst hx2
      have hsum : compM (.one (Str.ofString "_law_piece")) (tCmp cEq (eSub (eV "_law_piece") (eI 0)) (eV "_law_place")) (eBin dSub (eSub (eV "_law_piece") (eI 2)) (eSub (eV "_law_piece") (eI 1))) (way.map jd) (upd (upd ρ (Str.ofString "_law_place") (.int (i : Int))) (Str.ofString "_law_job") (jd (jAt js i))) = some ((way.filter fun x => decide (x.1 = (i : Int))).map fun x => D.int (x.2.2 - x.2.1)) :=
        compM_map (fun x : J => decide (x.1 = (i : Int))) (fun x : J => D.int (x.2.2 - x.2.1)) way fun x hx => ⟨_, rfl, by simp only [jd_0, a_eV, a_eI, a_tCmp, a_eSub, upd_self, upd_ne, String.reduceBEq, ob_some, cEqI], fun _ => ⟨by simp only [jd_1, jd_2, a_eV, a_eI, a_eBin, a_eSub, upd_self, ob_some, dSubI], rfl⟩⟩
      have hsa : ((way.filter fun x => decide (x.1 = (i : Int))).map fun x => x.2.2 - x.2.1).sum = sumAt way i := rfl
      simp only [B_law_due_2, hI, a_compL, List.length_map, show way.length ≤ 16777216 by omega, hsum, sumD_list, intsOf_map, hsa, jd_1, a_seqM, k_next, k_ret, a_sIf, a_sRet, a_sPass, a_eV, a_eI, a_eB, a_tCmp, a_eSub, a_esNil, a_esCons, a_eBi, a_eL, a_iSeq, upd_self, upds_nil, upds_cons, bindT_many, t1, upd_ne, String.reduceBEq, List.length_cons, List.length_nil, ob_some, om_some, ite_bind, cNeI, cl_bool, wk_list, if_true, Nat.reduceAdd]
      by_cases q : sumAt way i = (jAt js i).2.1
      · simp only [q, Bool.not_true, if_false, Bool.false_eq_true, decide_true]
        exact ⟨_, rfl, by simp only [hI, upd_ne, String.reduceBEq]⟩
      · simp only [q, Bool.not_false, if_true, decide_false]
    rcases range_find (n := js.length) (P := fun i => !decide (sumAt way i = (jAt js i).2.1)) with ⟨h1, h2⟩ | ⟨k, h1, h2⟩
    · rw [h1] at lf
      obtain ⟨ρ2, e2, _⟩ := lf
      simp only [Bool.not_not] at h2
      simp only [e2, h2, a_seqM, k_next, k_ret, a_sRet, a_eB, ob_some, outK_ret, cl_bool, if_true]
    · rw [h1] at lf
      simp only [Bool.not_not] at h2
      simp only at lf
      simp only [lf, h2, k_ret, ob_some, outK_ret]
end Mine
end
section
set_option maxRecDepth 20000
set_option linter.unusedVariables false
set_option linter.unusedSimpArgs false
namespace Mine
open PySem PyProof.Rows PySem.Calls

/-! the pieces that the law builds -/
structure Pc (n : Nat) (w : Int) (k : Nat) (ps : List J) (T : Int) : Prop where
  len : ps.length = k
  t0 : 0 ≤ T
  t1 : T ≤ (k : Int) * (6 * w)
  each : ∀ x ∈ ps, 0 ≤ x.2.1 ∧ x.2.1 < x.2.2 ∧ x.2.2 ≤ T ∧ x.2.2 - x.2.1 ≤ 4 * w
  ord : ps.Pairwise fun a b => a.2.2 ≤ b.2.2
  place : ∀ i < k, i < n → ∃ x ∈ ps, x.1 = (i : Int)
theorem Pc.snoc {n k : Nat} {w T p c d : Int} {ps : List J} (h : Pc n w k ps T) (hw : 1 ≤ w) (hc : 0 ≤ c ∧ c < 3) (hd : 0 ≤ d ∧ d < 4) (hp : k < n → p = (k : Int)) : Pc n w (k + 1) (ps ++ [(p, T + c * w, T + c * w + (1 + d) * w)]) (T + c * w + (1 + d) * w) := by
  have m1 := mul_le (a := c) (A := 2) (w := w) (W := w) hc.1 (by omega) (by omega) (Int.le_refl _)
  have m2 := mul_le (a := 1 + d) (A := 4) (w := w) (W := w) (by omega) (by omega) (by omega) (Int.le_refl _)
  have m3 : w ≤ (1 + d) * w := by have := Int.mul_le_mul_of_nonneg_right (show 1 ≤ 1 + d by omega) (show 0 ≤ w by omega); omega
  have m4 : ((k + 1 : Nat) : Int) * (6 * w) = (k : Int) * (6 * w) + 6 * w := by push_cast; rw [Int.add_mul, Int.one_mul]
  have t0 := h.t0
  have t1 := h.t1
  generalize c * w = a at *
  generalize (1 + d) * w = b at *
  refine ⟨by simp [h.len], by omega, by rw [m4]; omega, fun x hx => ?_, ?_, fun i hi hin => ?_⟩
  · rcases List.mem_append.mp hx with hx | hx
    · have := h.each x hx; omega
    · rw [List.mem_singleton] at hx; subst hx; simp only; omega
  · rw [List.pairwise_append]
    refine ⟨h.ord, by simp, fun x hx y hy => ?_⟩
    rw [List.mem_singleton] at hy; subst hy
    have := h.each x hx; simp only; omega
  · by_cases q : i < k
    · obtain ⟨x, hx, e⟩ := h.place i q hin; exact ⟨x, List.mem_append_left _ hx, e⟩
    · have : i = k := by omega
      subst this
      exact ⟨_, List.mem_append_right _ (.head _), hp hin⟩
structure PI4 (ns : List Int) (n : Nat) (w : Int) (i : Nat) (ρ : Loc) : Prop where
  script : ρ (Str.ofString "_law_script") = some (scr ns)
  count : ρ (Str.ofString "_law_count") = some (.int n)
  wide : ρ (Str.ofString "_law_wide") = some (.int w)
  ex : ∃ (ps : List J) (T : Int), ρ (Str.ofString "_law_pieces") = some (.own (ps.map jd)) ∧ ρ (Str.ofString "_law_time") = some (.int T) ∧ Pc n w i ps T
theorem cl_scr' {ns : List Int} : (scr ns).clean = true := rfl
theorem fz_scr' {ns : List Int} : (scr ns).frz = scr ns := rfl

set_option maxHeartbeats 1000000 in
theorem F_pieces {ns : List Int} {n m : Nat} {w : Int} (hn : ns.length ≤ 63) (hn0 : 0 < n) (hm : m ≤ 1000) (hw : 1 ≤ w) : ∃ (ps : List J) (T : Int), F_law_pieces_by [scr ns, .int n, .int m, .int w] = some (.list (ps.map jd)) ∧ Pc n w m ps T := by
  simp only [F_law_pieces_by, m_law_pieces_by, show ((m : Int) ≤ 16777216 ∧ -16777216 ≤ (m : Int)) by omega, a_seqM, k_next, a_sAsg, a_sOwn, a_sFor, a_eV, a_eI, a_esNil, a_lDisp, a_iRange, rngK_int, t1, bl_eq, bl_ne, upd_ne, nms, a_fnM, String.reduceBEq, List.map_cons, List.map_nil, List.length_cons, List.length_nil, ob_some, cl_int, List.all_nil, if_true, and_self, Nat.reduceAdd, Int.reduceNeg]
  rw [show (m : Int).toNat = m by omega]
  have b1 : ∀ c : Int, -18446744073709551616 < c.fmod 3 := fun c => by have := fmod_pos (a := c) (b := 3) (by decide); omega
  have b2 : ∀ c : Int, c.fmod 3 < 18446744073709551616 := fun c => by have := fmod_pos (a := c) (b := 3) (by decide); omega
  have b3 : ∀ c : Int, -18446744073709551616 < 1 + c.fmod 4 := fun c => by have := fmod_pos (a := c) (b := 4) (by decide); omega
  have b4 : ∀ c : Int, 1 + c.fmod 4 < 18446744073709551616 := fun c => by have := fmod_pos (a := c) (b := 4) (by decide); omega
  have hn0' : (0 : Int) < (n : Int) := by omega
  obtain ⟨ρ, e, hI⟩ := forM_range (n := m) (z := Str.ofString "_law_k") (mb := B_law_pieces_by_1) (PI4 ns n w)
    (ρ := upd (upd (bindLoc [Str.ofString "_law_script", Str.ofString "_law_count", Str.ofString "_law_many", Str.ofString "_law_wide"] [scr ns, .int n, .int m, .int w]) (Str.ofString "_law_pieces") (.own [])) (Str.ofString "_law_time") (.int 0))
    ⟨by simp only [bl_eq, upd_ne, String.reduceBEq], by simp only [bl_eq, bl_ne, upd_ne, String.reduceBEq], by simp only [bl_eq, bl_ne, upd_ne, String.reduceBEq], [], 0, by simp only [upd_self, upd_ne, String.reduceBEq, List.map_nil], by simp only [upd_self], rfl, by omega, by omega, (fun x hx => by cases hx), by simp, fun i hi => by omega⟩ fun i ρ hi H => by
      obtain ⟨h1, h2, h3, ps, T, h4, h5, hP⟩ := H
      have c1 := F_cell hn (show (0 : Int) ≤ 4 + (i : Int) by omega)
      have c2 := F_cell hn (show (0 : Int) ≤ 3 by omega)
      have hpl := hP.len
      -- what a cell gives
      have fin : ∀ (c p : Int), (i < n → p = (i : Int)) → ∀ ρ', ρ' (Str.ofString "_law_script") = some (scr ns) → ρ' (Str.ofString "_law_count") = some (.int n) → ρ' (Str.ofString "_law_wide") = some (.int w) → ρ' (Str.ofString "_law_pieces") = some (.own (ps.map jd ++ [D.tup [.int p, .int (T + c.fmod 3 * w), .int (T + c.fmod 3 * w + (1 + (c.fdiv 3).fmod 4) * w)]])) → ρ' (Str.ofString "_law_time") = some (.int (T + c.fmod 3 * w + (1 + (c.fdiv 3).fmod 4) * w)) → PI4 ns n w (i + 1) ρ' :=
        fun c p hp ρ' g1 g2 g3 g4 g5 => ⟨g1, g2, g3, _, _, by rw [g4, List.map_append]; rfl, g5, hP.snoc hw (fmod_pos (by decide)) (fmod_pos (by decide)) hp⟩
      simp only [B_law_pieces_by_1, h1, h3, h5, c1, c2, cl_scr', fz_scr', a_seqM, k_next, a_sIf, a_sAsg, a_sPass, a_eV, a_eI, a_eBin, a_tCmp, a_esNil, a_esCons, a_eCall, upd_self, upd_ne, String.reduceBEq, List.map_cons, List.map_nil, ob_some, ite_bind, dAddI, dMulR, dModP, cGeI, cl_int, fz_int, a_callD, List.all_cons, List.all_nil, Bool.true_or, Bool.and_self, if_true, decide_eq_true_eq, Int.reduceLT, Int.reduceNeg]
      by_cases q1 : (12 : Int) ≤ (i : Int)
      · by_cases q2 : (n : Int) ≤ (i : Int)
        · simp only [q1, q2, h2, h3, h4, b1, b2, b3, b4, hn0', List.length_map, show ps.length < 16777216 by omega, a_seqM, k_next, a_sIf, a_sAsg, a_sApp, appK_own, a_sPass, a_eV, a_eI, a_eBin, a_tCmp, a_esNil, a_esCons, a_eTup, upd_self, upd_ne, String.reduceBEq, ob_some, dAddI, dMulL, dFdivP, dModP, cGeI, cl_int, cl_tup, List.all_cons, List.all_nil, Bool.and_self, if_true, and_true, decide_true, Int.reduceLT, Int.reduceNeg]
          refine ⟨_, rfl, fin (((cellAt ns 3 + (i : Int)) * 48271).fmod 2147483647) (((((cellAt ns 3 + (i : Int)) * 48271).fmod 2147483647).fdiv 12).fmod n) (fun z => by omega) _ ?_ ?_ ?_ ?_ ?_⟩ <;> simp only [h1, h2, h3, upd_self, upd_ne, String.reduceBEq]
        · simp only [q1, q2, h2, h3, h4, b1, b2, b3, b4, hn0', List.length_map, show ps.length < 16777216 by omega, a_seqM, k_next, a_sIf, a_sAsg, a_sApp, appK_own, a_sPass, a_eV, a_eI, a_eBin, a_tCmp, a_esNil, a_esCons, a_eTup, upd_self, upd_ne, String.reduceBEq, ob_some, dAddI, dMulL, dFdivP, dModP, cGeI, cl_int, cl_tup, List.all_cons, List.all_nil, Bool.and_self, if_true, if_false, Bool.false_eq_true, and_true, decide_false, Int.reduceLT, Int.reduceNeg]
          refine ⟨_, rfl, fin (((cellAt ns 3 + (i : Int)) * 48271).fmod 2147483647) (i : Int) (fun z => rfl) _ ?_ ?_ ?_ ?_ ?_⟩ <;> simp only [h1, h2, h3, upd_self, upd_ne, String.reduceBEq]
      · by_cases q2 : (n : Int) ≤ (i : Int)
        · simp only [q1, q2, h2, h3, h4, b1, b2, b3, b4, hn0', List.length_map, show ps.length < 16777216 by omega, a_seqM, k_next, a_sIf, a_sAsg, a_sApp, appK_own, a_sPass, a_eV, a_eI, a_eBin, a_tCmp, a_esNil, a_esCons, a_eTup, upd_self, upd_ne, String.reduceBEq, ob_some, dAddI, dMulL, dFdivP, dModP, cGeI, cl_int, cl_tup, List.all_cons, List.all_nil, Bool.and_self, if_true, if_false, and_true, decide_true, Int.reduceLT, Int.reduceNeg]
          refine ⟨_, rfl, fin (cellAt ns (4 + (i : Int))) (((cellAt ns (4 + (i : Int))).fdiv 12).fmod n) (fun z => by omega) _ ?_ ?_ ?_ ?_ ?_⟩ <;> simp only [h1, h2, h3, upd_self, upd_ne, String.reduceBEq]
        · simp only [q1, q2, h2, h3, h4, b1, b2, b3, b4, hn0', List.length_map, show ps.length < 16777216 by omega, a_seqM, k_next, a_sIf, a_sAsg, a_sApp, appK_own, a_sPass, a_eV, a_eI, a_eBin, a_tCmp, a_esNil, a_esCons, a_eTup, upd_self, upd_ne, String.reduceBEq, ob_some, dAddI, dMulL, dFdivP, dModP, cGeI, cl_int, cl_tup, List.all_cons, List.all_nil, Bool.and_self, if_true, if_false, Bool.false_eq_true, and_true, decide_false, Int.reduceLT, Int.reduceNeg]
          refine ⟨_, rfl, fin (cellAt ns (4 + (i : Int))) (i : Int) (fun z => rfl) _ ?_ ?_ ?_ ?_ ?_⟩ <;> simp only [h1, h2, h3, upd_self, upd_ne, String.reduceBEq]
  obtain ⟨_, _, _, ps, T, h4, _, hP⟩ := hI
  simp only [e, h4, a_seqM, k_next, k_ret, a_sRetN, ob_some, om_some, outK_ret, fz_own]
  exact ⟨ps, T, rfl, hP⟩

/-! the jobs out of the pieces -/
noncomputable def Sn2 (j : J) : Prop := 0 ≤ j.1 ∧ 1 ≤ j.2.1 ∧ j.1 < j.2.2 ∧ j.1 < 2 * 10 ^ 59 ∧ j.2.1 < 2 * 10 ^ 59 ∧ j.2.2 < 2 * 10 ^ 59
theorem Sn2.snd {j : J} (h : Sn2 j) : Snd j := by
  obtain ⟨h1, h2, h3, h4, h5, h6⟩ := h
  exact ⟨h1, h2, h3, by omega, by omega, by omega⟩
theorem sum_between {c : Int} : ∀ (xs : List J), (∀ x ∈ xs, 1 ≤ x.2.2 - x.2.1 ∧ x.2.2 - x.2.1 ≤ c) → (xs.length : Int) ≤ (xs.map fun x => x.2.2 - x.2.1).sum ∧ (xs.map fun x => x.2.2 - x.2.1).sum ≤ (xs.length : Int) * c
  | [], _ => by simp
  | x :: xs, h => by
    obtain ⟨h1, h2⟩ := sum_between xs fun y hy => h y (.tail _ hy)
    have := h x (.head _)
    rw [List.map_cons, List.sum_cons, List.length_cons]
    have e : ((xs.length + 1 : Nat) : Int) * c = (xs.length : Int) * c + c := by push_cast; rw [Int.add_mul, Int.one_mul]
    rw [e]
    push_cast
    omega
structure JO (ps : List J) (n : Nat) (c w : Int) (i : Nat) (ρ : Loc) : Prop where
  pieces : ρ (Str.ofString "_law_pieces") = some (.list (ps.map jd))
  cell : ρ (Str.ofString "_law_cell") = some (.int c)
  wide : ρ (Str.ofString "_law_wide") = some (.int w)
  ex : ∃ js : List J, ρ (Str.ofString "_law_jobs") = some (.own (js.map jd)) ∧ js.length = i ∧ ∀ j ∈ js, Sn2 j
set_option maxHeartbeats 1000000 in
theorem F_jobs_of_ok {ps : List J} {n m : Nat} {c w T : Int} (hP : Pc n w m ps T) (hnm : n ≤ m) (hm : m ≤ 185) (hn : n ≤ 60) (hw : 1 ≤ w) (hw' : w ≤ 10 ^ 56) : ∃ js : List J, F_law_jobs_of [.list (ps.map jd), .int n, .int c, .int w] = some (.list (js.map jd)) ∧ js.length = n ∧ ∀ j ∈ js, Sn2 j := by
  simp only [F_law_jobs_of, m_law_jobs_of, show ((n : Int) ≤ 16777216 ∧ -16777216 ≤ (n : Int)) by omega, a_seqM, k_next, a_sOwn, a_sFor, a_eV, a_esNil, a_lDisp, a_iRange, rngK_int, t1, bl_eq, bl_ne, upd_ne, nms, a_fnM, String.reduceBEq, List.map_cons, List.map_nil, List.length_cons, List.length_nil, ob_some, List.all_nil, if_true, and_self, Nat.reduceAdd, Int.reduceNeg]
  rw [show (n : Int).toNat = n by omega]
  have b1 : ∀ c : Int, -18446744073709551616 < c.fmod 3 := fun c => by have := fmod_pos (a := c) (b := 3) (by decide); omega
  have b2 : ∀ c : Int, c.fmod 3 < 18446744073709551616 := fun c => by have := fmod_pos (a := c) (b := 3) (by decide); omega
  have hpl := hP.len
  have hT : T ≤ 185 * (6 * w) := Int.le_trans hP.t1 (Int.mul_le_mul_of_nonneg_right (by omega) (by omega))
  obtain ⟨ρ, e, hI⟩ := forM_range (n := n) (z := Str.ofString "_law_place") (mb := B_law_jobs_of_1) (JO ps n c w)
    (ρ := upd (bindLoc [Str.ofString "_law_pieces", Str.ofString "_law_count", Str.ofString "_law_cell", Str.ofString "_law_wide"] [.list (ps.map jd), .int n, .int c, .int w]) (Str.ofString "_law_jobs") (.own []))
    ⟨by simp only [bl_eq, upd_ne, String.reduceBEq], by simp only [bl_eq, bl_ne, upd_ne, String.reduceBEq], by simp only [bl_eq, bl_ne, upd_ne, String.reduceBEq], [], by simp only [upd_self, List.map_nil], rfl, fun j hj => by cases hj⟩ fun i ρ hi H => by
      obtain ⟨h1, h2, h3, js, h4, hjl, hall⟩ := H
      have hc : compM (.one (Str.ofString "_law_piece")) (tCmp cEq (eSub (eV "_law_piece") (eI 0)) (eV "_law_place")) (eV "_law_piece") (ps.map jd) (upd ρ (Str.ofString "_law_place") (.int (i : Int))) = some ((ps.filter fun x => decide (x.1 = (i : Int))).map jd) :=
        compM_map (fun x : J => decide (x.1 = (i : Int))) jd ps fun x hx => ⟨_, rfl, by simp only [jd_0, a_eV, a_eI, a_tCmp, a_eSub, upd_self, upd_ne, String.reduceBEq, ob_some, cEqI], fun _ => ⟨by simp only [a_eV, upd_self], rfl⟩⟩
      have hown : ∃ a r, ps.filter (fun x => decide (x.1 = (i : Int))) = a :: r := by
        obtain ⟨x, hx, ex⟩ := hP.place i (by omega) hi
        have : x ∈ ps.filter fun x => decide (x.1 = (i : Int)) := by simp [List.mem_filter, hx, ex]
        cases hf : ps.filter fun x => decide (x.1 = (i : Int)) with
        | nil => rw [hf] at this; cases this
        | cons a r => exact ⟨a, r, rfl⟩
      have hsub : ∀ x ∈ ps.filter (fun x => decide (x.1 = (i : Int))), x ∈ ps := fun x hx => (List.mem_filter.mp hx).1
      have hord := hP.ord.filter fun x => decide (x.1 = (i : Int))
      have hfl : (ps.filter fun x => decide (x.1 = (i : Int))).length ≤ m := by have := List.length_filter_le (fun x : J => decide (x.1 = (i : Int))) ps; omega
      obtain ⟨a, r, hf⟩ := hown
      generalize ps.filter (fun x => decide (x.1 = (i : Int))) = ow at *
      obtain ⟨l, hl⟩ : ∃ l, ow.getLast? = some l := by rw [hf]; exact ⟨_, List.getLast?_eq_some_getLast (by simp)⟩
      have hlm : l ∈ a :: r := hf ▸ List.mem_of_getLast? hl
      have hal : a.2.2 ≤ l.2.2 := by
        rcases List.mem_cons.mp hlm with q | q
        · rw [q]; exact Int.le_refl _
        · have hord' : List.Pairwise (fun a b : J => a.2.2 ≤ b.2.2) (a :: r) := hf ▸ hord
          exact (List.pairwise_cons.mp hord').1 l q
      have ham : a ∈ ow := by rw [hf]; exact .head _
      have ea := hP.each a (hsub a ham)
      have el := hP.each l (hsub l (by rw [hf]; exact hlm))
      have hsum := sum_between (c := 4 * w) ow fun x hx => by have := hP.each x (hsub x hx); omega
      have hs2 : (ow.length : Int) * (4 * w) ≤ 185 * (4 * w) := Int.mul_le_mul_of_nonneg_right (by omega) (by omega)
      have hlen1 : 0 < ow.length := by rw [hf]; simp
      have g0 := get_jobs (js := ow) (i := 0) hlen1 (by omega)
      have g1 := get_last (l := ow.map jd) (by rw [List.length_map]; omega)
      rw [List.getLast?_map, hl] at g1
      simp only [Int.natCast_zero, Option.map_some] at g0 g1
      have j0 : jAt ow 0 = a := by rw [hf]; rfl
      rw [j0] at g0
      have hc2 : ∀ ρ₁ : Loc, compM (.one (Str.ofString "_law_piece")) tTrue (eBin dSub (eSub (eV "_law_piece") (eI 2)) (eSub (eV "_law_piece") (eI 1))) (ow.map jd) ρ₁ = some ((ow.filter fun _ => true).map fun x => D.int (x.2.2 - x.2.1)) := fun ρ₁ =>
        compM_map (fun _ => true) (fun x : J => D.int (x.2.2 - x.2.1)) ow fun x hx => ⟨_, rfl, rfl, fun _ => ⟨by simp only [jd_1, jd_2, a_eV, a_eI, a_eBin, a_eSub, upd_self, ob_some, dSubI], rfl⟩⟩
      have hfil : ow.filter (fun _ => true) = ow := List.filter_eq_self.mpr fun _ _ => rfl
      rw [hfil] at hc2
      have m1 := mul_le (a := (c + (i : Int)).fmod 3) (A := 2) (w := w) (W := w) (fmod_pos (by decide)).1 (by have := fmod_pos (a := c + (i : Int)) (b := 3) (by decide); omega) (by omega) (Int.le_refl _)
      have m2 := mul_le (a := (c.fdiv 3 + (i : Int)).fmod 3) (A := 2) (w := w) (W := w) (fmod_pos (by decide)).1 (by have := fmod_pos (a := c.fdiv 3 + (i : Int)) (b := 3) (by decide); omega) (by omega) (Int.le_refl _)
      simp only [B_law_jobs_of_1, h1, h2, h3, h4, a_compL, hc, hc2, List.length_map, show ps.length ≤ 16777216 by omega, show ow.length ≤ 16777216 by omega, sumD_list, intsOf_map, g0, g1, jd_1, jd_2, b1, b2, show js.length < 16777216 by omega, a_seqM, k_next, a_sAsg, a_sLst, a_sApp, appK_own, a_sPass, a_eV, a_eI, a_eBin, a_eNeg, a_eSub, a_esNil, a_esCons, a_eTup, a_eBi, a_eL, a_iSeq, upd_self, t1, upd_ne, String.reduceBEq, ob_some, om_some, dNegI, dAddI, dSubI, dMulL, dFdivP, dModP, cl_int, cl_tup, wk_list, List.all_cons, List.all_nil, Bool.and_self, if_true, max2DI, and_true, Int.reduceLT, Int.reduceNeg]
      refine ⟨_, rfl, by simp only [h1, upd_ne, String.reduceBEq], by simp only [h2, upd_ne, String.reduceBEq], by simp only [h3, upd_ne, String.reduceBEq], js ++ [(if a.2.1 - (c + (i : Int)).fmod 3 * w > 0 then a.2.1 - (c + (i : Int)).fmod 3 * w else 0, (ow.map fun x => x.2.2 - x.2.1).sum, l.2.2 + (c.fdiv 3 + (i : Int)).fmod 3 * w)], by simp only [upd_self, List.map_cons, List.map_nil, List.map_append, jd_mk], by simp [hjl], fun j hj => ?_⟩
      rcases List.mem_append.mp hj with hj | hj
      · exact hall j hj
      · rw [List.mem_singleton] at hj
        subst hj
        generalize (c + (i : Int)).fmod 3 * w = u at *
        generalize (c.fdiv 3 + (i : Int)).fmod 3 * w = v at *
        generalize (ow.map fun x => x.2.2 - x.2.1).sum = S at *
        generalize (ow.length : Int) * (4 * w) = Z at *
        unfold Sn2
        simp only
        split <;> (refine ⟨by omega, by omega, by omega, by omega, by omega, by omega⟩)
  obtain ⟨_, _, _, js, h4, hjl, hall⟩ := hI
  simp only [e, h4, a_seqM, k_next, k_ret, a_sRetN, ob_some, om_some, outK_ret, fz_own]
  exact ⟨js, rfl, hjl, hall⟩
end Mine
end
section
set_option maxRecDepth 20000
set_option linter.unusedVariables false
set_option linter.unusedSimpArgs false
namespace Mine
open PySem PyProof.Rows PySem.Calls

/-- a list with one place put anew -/
noncomputable def cutJ (ps : List J) (k : Int) (mid : List J) : List J := ps.take k.toNat ++ mid ++ ps.drop (k + 1).toNat
theorem cutJ_map {ps mid : List J} {k : Int} : (ps.map jd).take k.toNat ++ mid.map jd ++ (ps.map jd).drop (k + 1).toNat = (cutJ ps k mid).map jd := by
  unfold cutJ; simp [List.map_append, List.map_take, List.map_drop]
theorem cutJ_len {ps mid : List J} {k : Int} : (cutJ ps k mid).length ≤ ps.length + mid.length := by
  unfold cutJ; simp; omega
theorem cutJ_mem {ps mid : List J} {k : Int} {j : J} (h : j ∈ cutJ ps k mid) : j ∈ ps ∨ j ∈ mid := by
  unfold cutJ at h
  rcases List.mem_append.mp h with h | h
  · rcases List.mem_append.mp h with h | h
    · exact .inl (List.mem_of_mem_take h)
    · exact .inr h
  · exact .inl (List.mem_of_mem_drop h)
theorem odd_get {a b r : Int} (h : 0 ≤ r ∧ r < 2) : ∃ x, dGet (.list [.int a, .int b]) (.int r) = some (.int x) := by
  have := get_ints (ls := [a, b]) (i := r.toNat) (by simp; omega) (by simp)
  rw [Int.toNat_of_nonneg h.1] at this
  exact ⟨_, this⟩

set_option maxHeartbeats 1000000 in
theorem F_spoilt_ok {ps : List J} {c n : Int} (hl : 0 < ps.length) (hl' : ps.length ≤ 185) (hn : 0 ≤ n) : ∃ qs : List J, F_law_spoilt [.list (ps.map jd), .int c, .int n] = some (.list (qs.map jd)) ∧ qs.length ≤ 1000 := by
  have hlp : (0 : Int) < (ps.length : Int) := by omega
  have hat := fmod_pos (a := c.fdiv 9) hlp
  have hn2 : (0 : Int) < n + 2 := by omega
  simp only [F_law_spoilt, m_law_spoilt, List.length_map, show ps.length < 9223372036854775808 by omega, hlp, a_seqM, k_next, a_sAsg, a_sUnp, a_eV, a_eI, a_eBin, a_eSub, a_esNil, a_esCons, a_eBi, upd_self, bl_eq, bl_ne, upd_ne, nms, a_fnM, String.reduceBEq, List.map_cons, List.map_nil, List.length_cons, List.length_nil, ob_some, dFdivP, dModP, cl_int, sq_list, if_true, lenDI, Int.reduceLT, Nat.reduceAdd]
  have ho : ∀ a b : Int, ∃ x, dGet (.list [.int a, .int b]) (.int ((c.fdiv 81).fmod 2)) = some (.int x) := fun a b => odd_get (fmod_pos (by decide))
  generalize (c.fdiv 9).fmod (ps.length : Int) = k at *
  have g := get_jobs' (js := ps) (i := k) hat.1 hat.2 (by omega)
  generalize jAt ps k.toNat = x at *
  obtain ⟨p, b, e⟩ := x
  simp only [g, bindT_jd, hn2, a_seqM, k_next, a_sAsg, a_eV, a_eI, a_eBin, a_eSub, a_esNil, a_esCons, a_eTup, a_eL, a_lDisp, upd_self, bl_eq, bl_ne, upd_ne, String.reduceBEq, ob_some, om_some, dAddI, dSubI, dFdivP, dModP, cl_int, cl_tup, cl_list, List.all_cons, List.all_nil, Bool.and_self, if_true, Int.reduceLT]
  obtain ⟨o, ho⟩ := ho ((p + c.fdiv 162).fmod (n + 2) - 1) (p - n)
  have gg : ∀ r : Int, 0 ≤ r → r < 6 → ∃ y : J, dGet (.list ([.tup [.int p, .int (b + 1), .int e], .tup [.int p, .int (b - 1), .int e], .tup [.int p, .int b, .int (e + 1)], .tup [.int p, .int b, .int (e - 1)]] ++ [.tup [.int o, .int b, .int e], .tup [.int p, .int (b + 1), .int (e + 1)]])) (.int r) = some (jd y) := fun r h0 h1 =>
    ⟨_, get_jobs' (js := [(p, b + 1, e), (p, b - 1, e), (p, b, e + 1), (p, b, e - 1), (o, b, e), (p, b + 1, e + 1)]) h0 (by simpa using h1) (by simp)⟩
  have c9 := fmod_pos (a := c) (b := 9) (by decide)
  have st := slice_to (l := ps.map jd) hat.1
  have sf := slice_from (l := ps.map jd) (show 0 ≤ k + 1 by omega)
  have tk : min k.toNat ps.length ≤ 185 := by omega
  have dk : ps.length - (k + 1).toNat ≤ 185 := by omega
  simp only [ho, st, sf, g, List.length_map, List.length_append, show ps.length ≤ 16777216 by omega, a_seqM, k_next, k_ret, a_sIf, a_sRet, a_sAsg, a_sPass, a_eV, a_eI, a_eBin, a_tCmp, a_eSub, a_esNil, a_esCons, a_eTup, a_eL, a_lDisp, a_lSlice, a_bNo, a_optI, optK_int, a_lCat, upd_self, bl_eq, bl_ne, upd_ne, String.reduceBEq, List.length_cons, List.length_nil, ob_some, ob_none, om_some, om_none, ite_bind, ite_map, dAddI, dModP, cLtI, cEqI, outK_ret, cl_int, cl_tup, cl_list, it_list, List.all_cons, List.all_nil, Bool.and_true, Bool.and_self, if_true, decide_eq_true_eq, Int.reduceLT, Nat.reduceLeDiff, Nat.reduceAdd]
  have l1 : min k.toNat ps.length + 1 + (ps.length - (k + 1).toNat) ≤ 16777216 := by omega
  have l2 : min k.toNat ps.length + 1 ≤ 16777216 := by omega
  have l2' : min k.toNat ps.length ≤ 16777215 := by omega
  have l3 : min k.toNat ps.length + (ps.length - (k + 1).toNat) ≤ 16777216 := by omega
  have l4 : min k.toNat ps.length + 2 + (ps.length - (k + 1).toNat) ≤ 16777216 := by omega
  have l5 : min k.toNat ps.length + 2 ≤ 16777216 := by omega
  have l5' : min k.toNat ps.length ≤ 16777214 := by omega
  have l6 : 1 + min k.toNat ps.length + (ps.length - (k + 1).toNat) ≤ 16777216 := by omega
  have l7 : 1 + min k.toNat ps.length ≤ 16777216 := by omega
  by_cases q : c.fmod 9 < 6
  · obtain ⟨y, ey⟩ := gg (c.fmod 9) c9.1 q
    simp only [q, ey, cl_jd, List.length_map, List.length_append, List.length_take, List.length_drop, l1, l2, k_ret, List.length_cons, List.length_nil, ob_some, om_some, outK_ret, cl_list, it_list, List.all_cons, List.all_nil, Bool.and_self, if_true, Nat.reduceAdd]
    refine ⟨cutJ ps k [y], by rw [← cutJ_map]; rfl, ?_⟩
    have := cutJ_len (ps := ps) (mid := [y]) (k := k)
    simp at this; omega
  · by_cases q6 : c.fmod 9 = 6
    · simp only [q6, cl_jd, List.length_map, List.length_take, List.length_drop, l3, Int.lt_irrefl, if_true, if_false, Int.reduceEq]
      refine ⟨cutJ ps k [], by rw [← cutJ_map]; simp, ?_⟩
      have := cutJ_len (ps := ps) (mid := []) (k := k)
      simp at this; omega
    · by_cases q7 : c.fmod 9 = 7
      · simp only [q7, cl_jd, List.length_map, List.length_take, List.length_drop, l4, l5', if_true, if_false, Int.reduceLT, Int.reduceEq]
        refine ⟨cutJ ps k [(p, b, e), (p, e, e)], by rw [← cutJ_map]; rfl, ?_⟩
        have := cutJ_len (ps := ps) (mid := [(p, b, e), (p, e, e)]) (k := k)
        simp at this; omega
      · simp only [q, q6, q7, cl_jd, List.length_map, List.length_take, List.length_drop, l6, l7, if_true, if_false]
        refine ⟨(p, b, e) :: (ps.take k.toNat ++ ps.drop (k + 1).toNat), by simp [List.map_append, List.map_take, List.map_drop], ?_⟩
        simp; omega

set_option maxHeartbeats 1000000 in
theorem F_job_off_ok {js : List J} {c : Int} (hl : 0 < js.length) (hl' : js.length ≤ 60) (hs : ∀ j ∈ js, Sn2 j) : ∃ ks : List J, F_law_job_off [.list (js.map jd), .int c] = some (.list (ks.map jd)) ∧ ks.length ≤ 60 ∧ ∀ j ∈ ks, Snd j := by
  have hlp : (0 : Int) < (js.length : Int) := by omega
  have hat := fmod_pos (a := c.fdiv 5) hlp
  have c5 := fmod_pos (a := c) (b := 5) (by decide)
  simp only [F_law_job_off, m_law_job_off, List.length_map, show js.length < 9223372036854775808 by omega, hlp, a_seqM, k_next, a_sAsg, a_sUnp, a_eV, a_eI, a_eBin, a_eSub, a_esNil, a_esCons, a_eBi, upd_self, bl_eq, bl_ne, upd_ne, nms, a_fnM, String.reduceBEq, List.map_cons, List.map_nil, List.length_cons, List.length_nil, ob_some, dFdivP, dModP, cl_int, sq_list, if_true, lenDI, Int.reduceLT, Nat.reduceAdd]
  generalize (c.fdiv 5).fmod (js.length : Int) = k at *
  have g := get_jobs' (js := js) (i := k) hat.1 hat.2 (by omega)
  have hx := hs _ (jAt_mem (js := js) (i := k.toNat) (by omega))
  generalize jAt js k.toNat = x at *
  obtain ⟨a, l, d⟩ := x
  obtain ⟨s1, s2, s3, s4, s5, s6⟩ := hx
  simp only at s1 s2 s3 s4 s5 s6
  simp only [g, bindT_jd, max2DI, a_seqM, k_next, a_sRet, a_sAsg, a_eV, a_eI, a_eBin, a_eSub, a_esNil, a_esCons, a_eTup, a_eBi, a_eL, a_lDisp, a_lSlice, a_bNo, a_optI, optK_int, a_lCat, upd_self, bl_eq, bl_ne, upd_ne, String.reduceBEq, List.length_cons, List.length_nil, ob_some, ob_none, om_some, om_none, ite_bind, ite_map, dAddI, dSubI, dModP, cl_int, cl_tup, cl_list, it_list, List.all_cons, List.all_nil, Bool.and_self, if_true, max2DI, Int.reduceLT, Nat.reduceLeDiff, Nat.reduceAdd]
  obtain ⟨y, ey, hy⟩ : ∃ y : J, dGet (.list ([.tup [.int (a + 1), .int l, .int (d + 1)], .tup [.int a, .int (l + 1), .int d], .tup [.int a, .int (if l - 1 > 1 then l - 1 else 1), .int d]] ++ [.tup [.int a, .int l, .int (if d - 1 > a + 1 then d - 1 else a + 1)], .tup [.int a, .int l, .int (if d - 2 > a + 1 then d - 2 else a + 1)]])) (.int (c.fmod 5)) = some (jd y) ∧ Snd y := by
    refine ⟨_, get_jobs' (js := [(a + 1, l, d + 1), (a, l + 1, d), (a, (if l - 1 > 1 then l - 1 else 1), d), (a, l, (if d - 1 > a + 1 then d - 1 else a + 1)), (a, l, (if d - 2 > a + 1 then d - 2 else a + 1))]) c5.1 (by simpa using c5.2) (by simp), ?_⟩
    have hall : ∀ y ∈ ([(a + 1, l, d + 1), (a, l + 1, d), (a, (if l - 1 > 1 then l - 1 else 1), d), (a, l, (if d - 1 > a + 1 then d - 1 else a + 1)), (a, l, (if d - 2 > a + 1 then d - 2 else a + 1))] : List J), Snd y := fun y hy => by
      clear c5 hat g
      simp only [List.mem_cons, List.not_mem_nil, or_false] at hy
      rcases hy with rfl | rfl | rfl | rfl | rfl <;> (unfold Snd; simp only; (try split) <;> omega)
    exact hall _ (jAt_mem (by simp; omega))
  have st := slice_to (l := js.map jd) hat.1
  have sf := slice_from (l := js.map jd) (show 0 ≤ k + 1 by omega)
  have l1 : min k.toNat js.length + 1 + (js.length - (k + 1).toNat) ≤ 16777216 := by omega
  have l2 : min k.toNat js.length + 1 ≤ 16777216 := by omega
  have l2' : min k.toNat js.length ≤ 16777215 := by omega
  simp only [ey, st, sf, cl_jd, List.length_map, List.length_append, List.length_take, List.length_drop, show js.length ≤ 16777216 by omega, l1, l2, k_ret, List.length_cons, List.length_nil, ob_some, om_some, outK_ret, cl_list, it_list, List.all_cons, List.all_nil, Bool.and_self, if_true, Nat.reduceAdd]
  refine ⟨cutJ js k [y], by rw [← cutJ_map]; rfl, ?_, fun j hj => ?_⟩
  · unfold cutJ; simp; omega
  · rcases cutJ_mem hj with hj | hj
    · exact (hs j hj).snd
    · rw [List.mem_singleton] at hj; subst hj; exact hy

theorem main12 {js way : List J} {ρ : Loc} (hl : js.length ≤ 60) (hs : ∀ j ∈ js, Snd j) (hw : way.length ≤ 1000) (h1 : ρ (Str.ofString "_law_jobs") = some (.list (js.map jd))) (h2 : ρ (Str.ofString "_law_way") = some (.list (way.map jd))) : K_law_04_12 ρ = some (.ret (.bool true)) := by
  have hb : ∀ b : Bool, cEq (.bool b) (.bool b) = some true := fun b => cEq_self rfl
  simp only [K_law_04_12, h1, h2, F_meets_ok hl hs hw, F_due_ok hl hw, meets_due, hb, cEq_self ok_jobs, List.length_map, show js.length ≤ 16777216 by omega, show way.length ≤ 16777216 by omega, a_seqM, k_next, k_ret, a_sRet, a_sAsg, a_eV, a_eCmp, a_eAnd, a_esNil, a_esCons, a_eCall, a_eIsI, a_eL, a_lOf, upd_self, upd_ne, String.reduceBEq, List.map_cons, List.map_nil, ob_some, om_some, cl_list, cl_bool, fz_list, tr_bool, sq_list, a_callD, isI_bool, List.all_cons, List.all_nil, Bool.true_or, Bool.or_false, Bool.and_self, if_true]
set_option maxHeartbeats 1000000 in
theorem main9 {ns : List Int} {ρ : Loc} {n m : Nat} {w : Int} (hns : ns.length ≤ 63) (hn : n ≤ 60) (hnm : n ≤ m) (hm : m ≤ 185) (hw : 1 ≤ w) (hw' : w ≤ 10 ^ 56) (h1 : ρ (Str.ofString "_law_script") = some (scr ns)) (h2 : ρ (Str.ofString "_law_count") = some (.int n)) (h3 : ρ (Str.ofString "_law_many") = some (.int m)) (h4 : ρ (Str.ofString "_law_wide") = some (.int w)) : K_law_04_9 ρ = some (.ret (.bool true)) := by
  have c2 := F_cell hns (show (0 : Int) ≤ 2 by omega)
  have c3 := F_cell hns (show (0 : Int) ≤ 3 by omega)
  by_cases q : 0 < n
  · obtain ⟨ps, T, ep, hP⟩ := F_pieces (m := m) hns q (by omega) hw
    obtain ⟨js, ej, hjl, hjs⟩ := F_jobs_of_ok (c := cellAt ns 2) hP hnm hm hn hw hw'
    have hpl := hP.len
    obtain ⟨qs, eq, hql⟩ := F_spoilt_ok (ps := ps) (c := cellAt ns 3) (n := n) (by omega) (by omega) (by omega)
    obtain ⟨ks, ek, hkl, hks⟩ := F_job_off_ok (js := js) (c := cellAt ns 3) (by omega) (by omega) hjs
    have q' : (0 : Int) < (n : Int) := by omega
    have hjs' : ∀ j ∈ js, Snd j := fun j hj => (hjs j hj).snd
    simp only [K_law_04_9, h1, h2, h3, h4, q', ep, ej, c2, cl_scr', fz_scr', a_seqM, k_next, a_sIf, a_sAsg, a_sPass, a_eV, a_eI, a_eBin, a_tCmp, a_esNil, a_esCons, a_eTup, a_eCall, a_eL, a_lDisp, upd_self, upd_ne, String.reduceBEq, List.map_cons, List.map_nil, ob_some, om_some, ite_bind, dFdivP, dModP, cGtI, cEqI, cl_int, cl_list, fz_int, fz_list, a_callD, List.all_cons, List.all_nil, Bool.true_or, Bool.and_self, if_true, decide_eq_true_eq, decide_true, Int.reduceLT]
    by_cases r1 : ((cellAt ns 2).fdiv 9).fmod 4 = 1
    · have r2 : ¬ (1 : Int) = 2 := by decide
      simp only [r1, r2, h1, c2, c3, eq, cl_scr', fz_scr', a_seqM, k_next, a_sIf, a_sAsg, a_sPass, a_eV, a_eI, a_eBin, a_tCmp, a_esNil, a_esCons, a_eCall, upd_self, upd_ne, String.reduceBEq, List.map_cons, List.map_nil, ob_some, dFdivP, dModP, cEqI, cl_int, cl_list, fz_int, fz_list, a_callD, List.all_cons, List.all_nil, Bool.true_or, Bool.and_self, if_true, if_false, Bool.false_eq_true, decide_false, Int.reduceLT]
      rw [main12 (js := js) (way := qs) (by omega) hjs' hql (by simp only [upd_self, upd_ne, String.reduceBEq]) (by simp only [upd_self])]
    · by_cases r2 : ((cellAt ns 2).fdiv 9).fmod 4 = 2
      · have r3 : ¬ (2 : Int) = 1 := by decide
        simp only [r2, r3, c3, ek, k_next, a_sPass, List.map_cons, List.map_nil, ob_some, cl_int, cl_list, fz_int, fz_list, List.all_cons, List.all_nil, Bool.true_or, Bool.and_self, if_true, if_false]
        rw [main12 (js := ks) (way := ps) hkl hks (by omega) (by simp only [upd_self]) (by simp only [upd_self, upd_ne, String.reduceBEq])]
      · simp only [r1, r2, c3, List.map_cons, List.map_nil, ob_some, cl_int, cl_list, fz_int, fz_list, List.all_cons, List.all_nil, Bool.true_or, Bool.and_self, if_true, if_false]
        rw [main12 (js := js) (way := ps) (by omega) hjs' (by omega) (by simp only [upd_self]) (by simp only [upd_self, upd_ne, String.reduceBEq])]
  · have q' : ¬ (0 : Int) < (n : Int) := by omega
    simp only [K_law_04_9, h1, h2, h3, h4, q', c2, cl_scr', fz_scr', a_seqM, k_next, a_sIf, a_sAsg, a_sPass, a_eV, a_eI, a_eBin, a_tCmp, a_esNil, a_esCons, a_eTup, a_eCall, a_eL, a_lDisp, upd_ne, String.reduceBEq, List.map_cons, List.map_nil, ob_some, om_some, ite_bind, dModP, cGtI, cEqI, cl_int, cl_list, fz_int, a_callD, List.all_cons, List.all_nil, Bool.true_or, Bool.and_self, if_true, if_false, Bool.false_eq_true, decide_eq_true_eq, decide_false, Int.reduceLT]
    by_cases r1 : (cellAt ns 2).fmod 3 = 1
    · simp only [r1, c3, k_next, a_sPass, ob_some, om_some, dSubI, dModP, cl_int, cl_tup, cl_list, List.all_cons, List.all_nil, Bool.and_self, if_true, Int.reduceLT]
      rw [main12 (js := []) (way := [((cellAt ns 3).fmod 3 - 1, 0, 1)]) (by simp) (fun j hj => by cases hj) (by simp) (by simp only [upd_self, upd_ne, String.reduceBEq, List.map_nil]) (by simp only [jd_mk, upd_self, List.map_cons, List.map_nil])]
    · simp only [r1, if_false]
      rw [main12 (js := []) (way := []) (by simp) (fun j hj => by cases hj) (by simp) (by simp only [upd_self, List.map_nil]) (by simp only [upd_self, upd_ne, String.reduceBEq, List.map_nil])]
theorem main7 {ns : List Int} {ρ : Loc} {n m : Nat} (hns : ns.length ≤ 63) (hn : n ≤ 60) (hnm : n ≤ m) (hm : m ≤ 185) (h1 : ρ (Str.ofString "_law_script") = some (scr ns)) (h2 : ρ (Str.ofString "_law_count") = some (.int n)) (h3 : ρ (Str.ofString "_law_many") = some (.int m)) : K_law_04_7 ρ = some (.ret (.bool true)) := by
  have c1 := F_cell hns (show (0 : Int) ≤ 1 by omega)
  have hw := fmod_pos (a := (cellAt ns 1).fdiv 4) (b := 10 ^ 56) (by decide)
  simp only [K_law_04_7, h1, c1, cl_scr', fz_scr', a_seqM, k_next, a_sIf, a_sAsg, a_sPass, a_eV, a_eI, a_eBin, a_tCmp, a_esNil, a_esCons, a_eCall, upd_ne, String.reduceBEq, List.map_cons, List.map_nil, ob_some, ite_bind, dFdivP, dModP, dPowP, cEqI, cl_int, fz_int, a_callD, List.all_cons, List.all_nil, Bool.true_or, Bool.and_self, if_true, decide_eq_true_eq, Int.reduceLT, Int.reduceLE, Int.reduceToNat, Int.reduceNeg]
  by_cases q : (cellAt ns 1).fmod 4 = 3
  · simp only [q, if_true]
    rw [dModP (by decide)]
    simp only [k_next, a_sPass, ob_some, dAddI, cl_int, if_true]
    rw [main9 hns hn hnm hm (w := 1 + ((cellAt ns 1).fdiv 4).fmod (10 ^ 56)) (by omega) (by omega)] <;> simp only [h1, h2, h3, upd_self, upd_ne, String.reduceBEq]
  · simp only [q, if_false]
    rw [main9 hns hn hnm hm (w := 1) (by omega) (by omega)] <;> simp only [h1, h2, h3, upd_self, upd_ne, String.reduceBEq]
theorem main4 {ns : List Int} {ρ : Loc} {n : Nat} (hns : ns.length ≤ 63) (hn : n ≤ 60) (h1 : ρ (Str.ofString "_law_script") = some (scr ns)) (h2 : ρ (Str.ofString "_law_count") = some (.int n)) : K_law_04_4 ρ = some (.ret (.bool true)) := by
  have c0 := F_cell hns (show (0 : Int) ≤ 0 by omega)
  have h6 := fmod_pos (a := (cellAt ns 0).fdiv 40) (b := 6) (by decide)
  simp only [K_law_04_4, h1, h2, c0, cl_scr', fz_scr', a_seqM, k_next, a_sIf, a_sAsg, a_sPass, a_eV, a_eI, a_eBin, a_tCmp, a_esNil, a_esCons, a_eCall, upd_self, upd_ne, String.reduceBEq, List.map_cons, List.map_nil, ob_some, ite_bind, dAddI, dFdivP, dModP, cEqI, cl_int, fz_int, a_callD, List.all_cons, List.all_nil, Bool.true_or, Bool.and_self, if_true, decide_eq_true_eq, Int.reduceLT]
  obtain ⟨m, hm⟩ : ∃ m : Nat, ((cellAt ns 0).fdiv 40).fmod 6 = m := ⟨_, (Int.toNat_of_nonneg h6.1).symm⟩
  have hm6 : m < 6 := by omega
  by_cases q1 : ((cellAt ns 0).fdiv 240).fmod 8 = 1
  · by_cases q2 : ((cellAt ns 0).fdiv 240).fmod 64 = 2
    · simp only [q1, q2, hm, if_true]
      rw [main7 hns hn (m := n + m + 30 + 90) (by omega) (by omega)] <;> simp only [h1, h2, upd_self, upd_ne, String.reduceBEq]
      push_cast; rfl
    · simp only [q1, q2, hm, if_true, if_false]
      rw [main7 hns hn (m := n + m + 30) (by omega) (by omega)] <;> simp only [h1, h2, upd_self, upd_ne, String.reduceBEq]
      push_cast; rfl
  · by_cases q2 : ((cellAt ns 0).fdiv 240).fmod 64 = 2
    · simp only [q1, q2, hm, if_true, if_false]
      rw [main7 hns hn (m := n + m + 90) (by omega) (by omega)] <;> simp only [h1, h2, upd_self, upd_ne, String.reduceBEq]
      push_cast; rfl
    · simp only [q1, q2, hm, if_false]
      rw [main7 hns hn (m := n + m) (by omega) (by omega)] <;> simp only [h1, h2, upd_self, upd_ne, String.reduceBEq]
      push_cast; rfl
theorem law04 {ns : List Int} (hn : ns.length ≤ 63) : F_law_04 [.list (ns.map .int)] = some (.bool true) := by
  have c0 := F_cell hn (show (0 : Int) ≤ 0 by omega)
  change F_law_04 [scr ns] = _
  have p5 := fmod_pos (a := cellAt ns 0) (b := 5) (by decide)
  have p9 := fmod_pos (a := (cellAt ns 0).fdiv 40) (b := 9) (by decide)
  have p47 := fmod_pos (a := (cellAt ns 0).fdiv 320) (b := 47) (by decide)
  have fin : ∀ (x : Int) (ρ : Loc), 0 ≤ x → x ≤ 60 → ρ (Str.ofString "_law_script") = some (scr ns) → ρ (Str.ofString "_law_count") = some (.int x) → K_law_04_4 ρ = some (.ret (.bool true)) := fun x ρ h0 h1 g1 g2 =>
    main4 (n := x.toNat) hn (by omega) g1 (by rw [g2, Int.toNat_of_nonneg h0])
  simp only [F_law_04, m_law_04, c0, cl_scr', fz_scr', a_seqM, k_next, a_sIf, a_sAsg, a_sPass, a_eV, a_eI, a_eBin, a_tCmp, a_esNil, a_esCons, a_eCall, bl_eq, upd_ne, nms, a_fnM, String.reduceBEq, List.map_cons, List.map_nil, List.length_cons, List.length_nil, ob_some, ite_bind, dAddI, dFdivP, dModP, cEqI, cl_int, fz_int, a_callD, List.all_cons, List.all_nil, Bool.true_or, Bool.and_self, if_true, decide_eq_true_eq, Int.reduceLT, Nat.reduceAdd]
  by_cases q1 : ((cellAt ns 0).fdiv 5).fmod 8 = 1
  · by_cases q2 : ((cellAt ns 0).fdiv 5).fmod 64 = 2
    · simp only [q1, q2, if_true]
      rw [fin (14 + ((cellAt ns 0).fdiv 320).fmod 47) _ (by omega) (by omega)] <;> simp only [upd_self, bl_eq, upd_ne, String.reduceBEq, ob_some, outK_ret]
    · simp only [q1, q2, if_true, if_false]
      rw [fin (5 + ((cellAt ns 0).fdiv 40).fmod 9) _ (by omega) (by omega)] <;> simp only [upd_self, bl_eq, upd_ne, String.reduceBEq, ob_some, outK_ret]
  · by_cases q2 : ((cellAt ns 0).fdiv 5).fmod 64 = 2
    · simp only [q1, q2, if_true, if_false]
      rw [fin (14 + ((cellAt ns 0).fdiv 320).fmod 47) _ (by omega) (by omega)] <;> simp only [upd_self, bl_eq, upd_ne, String.reduceBEq, ob_some, outK_ret]
    · simp only [q1, q2, if_false]
      rw [fin ((cellAt ns 0).fmod 5) _ (by omega) (by omega)] <;> simp only [upd_self, bl_eq, upd_ne, String.reduceBEq, ob_some, outK_ret]
end Mine
end
section
open PySem PySem.W PyProof.Rows
set_option Elab.async false
set_option maxRecDepth 100000
set_option maxHeartbeats 8000000
namespace Mine
open_top hd04 for PySem.Challenge.rw_uf050015_04
set_option pp.maxSteps 200
#check @hd04
end Mine
end
section
set_option maxRecDepth 20000
set_option linter.unusedVariables false
set_option Elab.async false
set_option maxHeartbeats 4000000
namespace Mine
open PySem PyProof.Rows PySem.Calls PySem.W

section
variable {mean : ExcName → Option Value} {mg mb : Str → Option Value} {h : Heap} (T : Top hd04.view_39 (looseW hd04.view_39 []) mean mg mb h) (w : World)
include T
theorem nb_isinstance : mg (Str.ofString "isinstance") = none ∧ mb (Str.ofString "isinstance") = some (.builtin "isinstance") := bn_of T (by decide +kernel) (by kernel_rfl)
theorem nb_int : mg (Str.ofString "int") = none ∧ mb (Str.ofString "int") = some (.type "int") := bn_of T (by decide +kernel) (by kernel_rfl)
theorem nb_bool : mg (Str.ofString "bool") = none ∧ mb (Str.ofString "bool") = some (.type "bool") := bn_of T (by decide +kernel) (by kernel_rfl)
theorem nb_len : mg (Str.ofString "len") = none ∧ mb (Str.ofString "len") = some (.builtin "len") := bn_of T (by decide +kernel) (by kernel_rfl)
theorem nb_tuple : mg (Str.ofString "tuple") = none ∧ mb (Str.ofString "tuple") = some (.type "tuple") := bn_of T (by decide +kernel) (by kernel_rfl)
theorem nb_range : mg (Str.ofString "range") = none ∧ mb (Str.ofString "range") = some (.type "range") := bn_of T (by decide +kernel) (by kernel_rfl)
theorem nb_sum : mg (Str.ofString "sum") = none ∧ mb (Str.ofString "sum") = some (.builtin "sum") := bn_of T (by decide +kernel) (by kernel_rfl)
theorem nb_max : mg (Str.ofString "max") = none ∧ mb (Str.ofString "max") = some (.builtin "max") := bn_of T (by decide +kernel) (by kernel_rfl)
theorem nb_enumerate : mg (Str.ofString "enumerate") = none ∧ mb (Str.ofString "enumerate") = some (.type "enumerate") := bn_of T (by decide +kernel) (by kernel_rfl)
theorem nb_list : mg (Str.ofString "list") = none ∧ mb (Str.ofString "list") = some (.type "list") := bn_of T (by decide +kernel) (by kernel_rfl)
theorem nc_LIMIT : ∃ t, mg (Str.ofString "LIMIT") = some (.int 60 t) := cn_of T (by kernel_rfl)
theorem has_whole : Has ⟨PySem.Challenge.rw_uf050015_04.prog, w, h, mg, mb, T.g, T.b, T.nolimit⟩ 1 "whole" F_whole := by
  have b_isinstance := nb_isinstance T
  have b_int := nb_int T
  have b_bool := nb_bool T
  exact has_of T (names := ["thing"]) 0 rfl rfl (by intro _ _ _ vals hv; match vals, hv with | [v0], _ => rfl) (by decide +kernel) (by decide +kernel) (rCons (rRet (rAnd (rIsI (by decide +kernel) b_isinstance b_int (by decide +kernel) (by decide +kernel) (fun _ _ => rfl) (rV (by decide +kernel))) (rOne (rNot (rIsI (by decide +kernel) b_isinstance b_bool (by decide +kernel) (by decide +kernel) (fun _ _ => rfl) (rV (by decide +kernel))))))) <|
  rNil)
theorem has_sound : Has ⟨PySem.Challenge.rw_uf050015_04.prog, w, h, mg, mb, T.g, T.b, T.nolimit⟩ 2 "sound" F_sound := by
  obtain ⟨a_whole, g_whole, f_whole⟩ := has_whole T w
  have b_len := nb_len T
  have b_isinstance := nb_isinstance T
  have b_tuple := nb_tuple T
  exact has_of T (names := ["job"]) 1 rfl rfl (by intro _ _ _ vals hv; match vals, hv with | [v0], _ => rfl) (by decide +kernel) (by decide +kernel) (rCons (rSIf (rTOr (rTNot (rTPl (fun _ _ => rfl) (rIsI (by decide +kernel) b_isinstance b_tuple (by decide +kernel) (by decide +kernel) (fun _ _ => rfl) (rV (by decide +kernel))))) (rTOr (rTCmp cmpNe rfl (rBi bfLen b_len (by decide +kernel) (fun _ _ => rfl) (fun _ => rfl) (rsCons (fun _ _ => rfl) (rV (by decide +kernel)) rsNil)) rI) rOr0)) (rCons (rRet rB) <|
    rNil) rNil) <|
  rCons (rFor rfl (by decide +kernel) (fun _ _ => rfl) (riSeq rfl (rV (by decide +kernel))) (rCons (rSIf (rTOr (rTNot (rTPl (fun _ _ => rfl) (rCall f_whole g_whole (by decide +kernel) (by decide +kernel) (fun _ _ => rfl) (rsCons (fun _ _ => rfl) (rV (by decide +kernel)) rsNil)))) (rTOr (rTCmp cmpLt rfl (rV (by decide +kernel)) rI) (rTOr (rTCmp cmpGe rfl (rV (by decide +kernel)) (rBin binPow rI rI)) rOr0))) (rCons (rRet rB) <|
      rNil) rNil) <|
    rNil)) <|
  rCons (rRet (rAnd (rCmp cmpGe rfl (rSub (fun _ _ => rfl) (rV (by decide +kernel)) rI) rI) (rOne (rCmp cmpGt rfl (rSub (fun _ _ => rfl) (rV (by decide +kernel)) rI) (rSub (fun _ _ => rfl) (rV (by decide +kernel)) rI))))) <|
  rNil)
theorem has_check : Has ⟨PySem.Challenge.rw_uf050015_04.prog, w, h, mg, mb, T.g, T.b, T.nolimit⟩ 3 "check" F_check := by
  obtain ⟨a_sound, g_sound, f_sound⟩ := has_sound T w
  have b_len := nb_len T
  have c_LIMIT := nc_LIMIT T
  exact has_of T (names := ["jobs"]) 2 rfl rfl (by intro _ _ _ vals hv; match vals, hv with | [v0], _ => rfl) (by decide +kernel) (by decide +kernel) (rCons (rSIf (rTCmp cmpGt rfl (rBi bfLen b_len (by decide +kernel) (fun _ _ => rfl) (fun _ => rfl) (rsCons (fun _ _ => rfl) (rV (by decide +kernel)) rsNil)) (rGlob (by decide +kernel) c_LIMIT)) (rCons rNo <|
    rNil) rNil) <|
  rCons (rFor rfl (by decide +kernel) (fun _ _ => rfl) (riSeq rfl (rV (by decide +kernel))) (rCons (rSIf (rTNot (rTPl (fun _ _ => rfl) (rCall f_sound g_sound (by decide +kernel) (by decide +kernel) (fun _ _ => rfl) (rsCons (fun _ _ => rfl) (rV (by decide +kernel)) rsNil)))) (rCons rNo <|
      rNil) rNil) <|
    rNil)) <|
  rNil)
theorem has_fits : Has ⟨PySem.Challenge.rw_uf050015_04.prog, w, h, mg, mb, T.g, T.b, T.nolimit⟩ 1 "fits" F_fits := by
  have b_len := nb_len T
  exact has_of T (names := ["jobs", "piece", "since"]) 3 rfl rfl (by intro _ _ _ vals hv; match vals, hv with | [v0, v1, v2], _ => rfl) (by decide +kernel) (by decide +kernel) (rCons (rSIf (rTOr (rTCmp cmpLt rfl (rSub (fun _ _ => rfl) (rV (by decide +kernel)) rI) rI) (rTOr (rTCmp cmpGe rfl (rSub (fun _ _ => rfl) (rV (by decide +kernel)) rI) (rBi bfLen b_len (by decide +kernel) (fun _ _ => rfl) (fun _ => rfl) (rsCons (fun _ _ => rfl) (rV (by decide +kernel)) rsNil))) (rTOr (rTCmp cmpGe rfl (rSub (fun _ _ => rfl) (rV (by decide +kernel)) rI) (rSub (fun _ _ => rfl) (rV (by decide +kernel)) rI)) rOr0))) (rCons (rRet rB) <|
    rNil) rNil) <|
  rCons (rSIf (rTAnd (rTCmp cmpIsNot rfl (rV (by decide +kernel)) rN) (rTAnd (rTCmp cmpLt rfl (rSub (fun _ _ => rfl) (rV (by decide +kernel)) rI) (rV (by decide +kernel))) rAnd0)) (rCons (rRet rB) <|
    rNil) rNil) <|
  rCons (rRet (rAnd (rCmp cmpGe rfl (rSub (fun _ _ => rfl) (rV (by decide +kernel)) rI) (rSub (fun _ _ => rfl) (rSub (fun _ _ => rfl) (rV (by decide +kernel)) (rSub (fun _ _ => rfl) (rV (by decide +kernel)) rI)) rI)) (rOne (rCmp cmpLe rfl (rSub (fun _ _ => rfl) (rV (by decide +kernel)) rI) (rSub (fun _ _ => rfl) (rSub (fun _ _ => rfl) (rV (by decide +kernel)) (rSub (fun _ _ => rfl) (rV (by decide +kernel)) rI)) rI))))) <|
  rNil)
theorem has_meets : Has ⟨PySem.Challenge.rw_uf050015_04.prog, w, h, mg, mb, T.g, T.b, T.nolimit⟩ 4 "meets" F_meets := by
  obtain ⟨a_check, g_check, f_check⟩ := has_check T w
  obtain ⟨a_fits, g_fits, f_fits⟩ := has_fits T w
  exact has_of T (names := ["jobs", "way"]) 4 rfl rfl (by intro _ _ _ vals hv; match vals, hv with | [v0, v1], _ => rfl) (by decide +kernel) (by decide +kernel) (rCons (rExpr (fun _ => rfl) (rCall f_check g_check (by decide +kernel) (by decide +kernel) (fun _ _ => rfl) (rsCons (fun _ _ => rfl) (rV (by decide +kernel)) rsNil))) <|
  rCons (rCompOwn (by decide +kernel) rfl (by decide +kernel) (fun _ _ => rfl) (riSeq rfl (rV (by decide +kernel))) rIfs0 rI) <|
  rCons (rAsg (by decide +kernel) (fun _ _ _ _ => rfl) rN) <|
  rCons (rFor rfl (by decide +kernel) (fun _ _ => rfl) (riSeq rfl (rV (by decide +kernel))) (rCons (rSIf (rTNot (rTPl (fun _ _ => rfl) (rCall f_fits g_fits (by decide +kernel) (by decide +kernel) (fun _ _ => rfl) (rsCons (fun _ _ => rfl) (rV (by decide +kernel)) (rsCons (fun _ _ => rfl) (rV (by decide +kernel)) (rsCons (fun _ _ => rfl) (rV (by decide +kernel)) rsNil)))))) (rCons (rRet rB) <|
      rNil) rNil) <|
    rCons (rSet (by decide +kernel) (fun _ => rfl) (rSub (fun _ _ => rfl) (rV (by decide +kernel)) rI) (rBin binSub (rBin binAdd (rSub (fun _ _ => rfl) (rV (by decide +kernel)) (rSub (fun _ _ => rfl) (rV (by decide +kernel)) rI)) (rSub (fun _ _ => rfl) (rV (by decide +kernel)) rI)) (rSub (fun _ _ => rfl) (rV (by decide +kernel)) rI))) <|
    rCons (rAsg (by decide +kernel) (fun _ _ _ _ => rfl) (rSub (fun _ _ => rfl) (rV (by decide +kernel)) rI)) <|
    rNil)) <|
  rCons (rRet (rCmp cmpEq rfl (rV (by decide +kernel)) (rL (rComp rfl (by decide +kernel) (fun _ _ => rfl) (riSeq rfl (rV (by decide +kernel))) rIfs0 (rSub (fun _ _ => rfl) (rV (by decide +kernel)) rI))))) <|
  rNil)
theorem has_law_cell_at : Has ⟨PySem.Challenge.rw_uf050015_04.prog, w, h, mg, mb, T.g, T.b, T.nolimit⟩ 1 "_law_cell_at" F_law_cell_at := by
  have b_len := nb_len T
  exact has_of T (names := ["_law_script", "_law_k"]) 6 rfl rfl (by intro _ _ _ vals hv; match vals, hv with | [v0, v1], _ => rfl) (by decide +kernel) (by decide +kernel) (rCons (rSIf (rTCmp cmpLt rfl (rV (by decide +kernel)) (rBi bfLen b_len (by decide +kernel) (fun _ _ => rfl) (fun _ => rfl) (rsCons (fun _ _ => rfl) (rV (by decide +kernel)) rsNil))) (rCons (rRet (rSub (fun _ _ => rfl) (rV (by decide +kernel)) (rV (by decide +kernel)))) <|
    rNil) rNil) <|
  rCons (rRet rI) <|
  rNil)
theorem has_law_pieces_by : Has ⟨PySem.Challenge.rw_uf050015_04.prog, w, h, mg, mb, T.g, T.b, T.nolimit⟩ 2 "_law_pieces_by" F_law_pieces_by := by
  obtain ⟨a_law_cell_at, g_law_cell_at, f_law_cell_at⟩ := has_law_cell_at T w
  have b_range := nb_range T
  exact has_of T (names := ["_law_script", "_law_count", "_law_many", "_law_wide"]) 7 rfl rfl (by intro _ _ _ vals hv; match vals, hv with | [v0, v1, v2, v3], _ => rfl) (by decide +kernel) (by decide +kernel) (rCons (rOwn (by decide +kernel) (fun _ _ _ _ => rfl) (rDisp (by decide +kernel) rsNil)) <|
  rCons (rAsg (by decide +kernel) (fun _ _ _ _ => rfl) rI) <|
  rCons (rFor rfl (by decide +kernel) (fun _ _ => rfl) (riRange b_range (by decide +kernel) (fun _ _ => rfl) rfl (rV (by decide +kernel))) (rCons (rAsg (by decide +kernel) (fun _ _ _ _ => rfl) (rCall f_law_cell_at g_law_cell_at (by decide +kernel) (by decide +kernel) (fun _ _ => rfl) (rsCons (fun _ _ => rfl) (rV (by decide +kernel)) (rsCons (fun _ _ => rfl) (rBin binAdd rI (rV (by decide +kernel))) rsNil)))) <|
    rCons (rSIf (rTCmp cmpGe rfl (rV (by decide +kernel)) rI) (rCons (rAsg (by decide +kernel) (fun _ _ _ _ => rfl) (rBin binMod (rBin binMul (rBin binAdd (rCall f_law_cell_at g_law_cell_at (by decide +kernel) (by decide +kernel) (fun _ _ => rfl) (rsCons (fun _ _ => rfl) (rV (by decide +kernel)) (rsCons (fun _ _ => rfl) rI rsNil))) (rV (by decide +kernel))) rI) rI)) <|
      rNil) rNil) <|
    rCons (rAsg (by decide +kernel) (fun _ _ _ _ => rfl) (rBin binAdd (rV (by decide +kernel)) (rBin binMul (rBin binMod (rV (by decide +kernel)) rI) (rV (by decide +kernel))))) <|
    rCons (rAsg (by decide +kernel) (fun _ _ _ _ => rfl) (rV (by decide +kernel))) <|
    rCons (rSIf (rTCmp cmpGe rfl (rV (by decide +kernel)) (rV (by decide +kernel))) (rCons (rAsg (by decide +kernel) (fun _ _ _ _ => rfl) (rBin binMod (rBin binFdiv (rV (by decide +kernel)) rI) (rV (by decide +kernel)))) <|
      rNil) rNil) <|
    rCons (rAsg (by decide +kernel) (fun _ _ _ _ => rfl) (rBin binAdd (rV (by decide +kernel)) (rBin binMul (rBin binAdd rI (rBin binMod (rBin binFdiv (rV (by decide +kernel)) rI) rI)) (rV (by decide +kernel))))) <|
    rCons (rApp (fun _ => ⟨_, rfl⟩) (by decide +kernel) (fun _ _ => rfl) (fun _ => rfl) (rTup (by decide +kernel) (rsCons (fun _ _ => rfl) (rV (by decide +kernel)) (rsCons (fun _ _ => rfl) (rV (by decide +kernel)) (rsCons (fun _ _ => rfl) (rV (by decide +kernel)) rsNil))))) <|
    rNil)) <|
  rCons (rRetN (by decide +kernel)) <|
  rNil)
theorem has_law_jobs_of : Has ⟨PySem.Challenge.rw_uf050015_04.prog, w, h, mg, mb, T.g, T.b, T.nolimit⟩ 1 "_law_jobs_of" F_law_jobs_of := by
  have b_range := nb_range T
  have b_sum := nb_sum T
  have b_max := nb_max T
  exact has_of T (names := ["_law_pieces", "_law_count", "_law_cell", "_law_wide"]) 8 rfl rfl (by intro _ _ _ vals hv; match vals, hv with | [v0, v1, v2, v3], _ => rfl) (by decide +kernel) (by decide +kernel) (rCons (rOwn (by decide +kernel) (fun _ _ _ _ => rfl) (rDisp (by decide +kernel) rsNil)) <|
  rCons (rFor rfl (by decide +kernel) (fun _ _ => rfl) (riRange b_range (by decide +kernel) (fun _ _ => rfl) rfl (rV (by decide +kernel))) (rCons (rCompLst (by decide +kernel) rfl (by decide +kernel) (fun _ _ => rfl) (riSeq rfl (rV (by decide +kernel))) (rIfs1 (rTCmp cmpEq rfl (rSub (fun _ _ => rfl) (rV (by decide +kernel)) rI) (rV (by decide +kernel)))) (rV (by decide +kernel))) <|
    rCons (rAsg (by decide +kernel) (fun _ _ _ _ => rfl) (rBi bfSum b_sum (by decide +kernel) (fun _ _ => rfl) (fun _ => rfl) (rsCons (fun _ _ => rfl) (rL (rComp rfl (by decide +kernel) (fun _ _ => rfl) (riSeq rfl (rV (by decide +kernel))) rIfs0 (rBin binSub (rSub (fun _ _ => rfl) (rV (by decide +kernel)) rI) (rSub (fun _ _ => rfl) (rV (by decide +kernel)) rI)))) rsNil))) <|
    rCons (rAsg (by decide +kernel) (fun _ _ _ _ => rfl) (rBi bfMax2 b_max (by decide +kernel) (fun _ _ => rfl) (fun _ => rfl) (rsCons (fun _ _ => rfl) rI (rsCons (fun _ _ => rfl) (rBin binSub (rSub (fun _ _ => rfl) (rSub (fun _ _ => rfl) (rV (by decide +kernel)) rI) rI) (rBin binMul (rBin binMod (rBin binAdd (rV (by decide +kernel)) (rV (by decide +kernel))) rI) (rV (by decide +kernel)))) rsNil)))) <|
    rCons (rApp (fun _ => ⟨_, rfl⟩) (by decide +kernel) (fun _ _ => rfl) (fun _ => rfl) (rTup (by decide +kernel) (rsCons (fun _ _ => rfl) (rV (by decide +kernel)) (rsCons (fun _ _ => rfl) (rV (by decide +kernel)) (rsCons (fun _ _ => rfl) (rBin binAdd (rSub (fun _ _ => rfl) (rSub (fun _ _ => rfl) (rV (by decide +kernel)) (rNeg rI)) rI) (rBin binMul (rBin binMod (rBin binAdd (rBin binFdiv (rV (by decide +kernel)) rI) (rV (by decide +kernel))) rI) (rV (by decide +kernel)))) rsNil))))) <|
    rNil)) <|
  rCons (rRetN (by decide +kernel)) <|
  rNil)
theorem has_law_spoilt : Has ⟨PySem.Challenge.rw_uf050015_04.prog, w, h, mg, mb, T.g, T.b, T.nolimit⟩ 1 "_law_spoilt" F_law_spoilt := by
  have b_len := nb_len T
  exact has_of T (names := ["_law_pieces", "_law_cell", "_law_count"]) 9 rfl rfl (by intro _ _ _ vals hv; match vals, hv with | [v0, v1, v2], _ => rfl) (by decide +kernel) (by decide +kernel) (rCons (rAsg (by decide +kernel) (fun _ _ _ _ => rfl) (rBin binMod (rBin binFdiv (rV (by decide +kernel)) rI) (rBi bfLen b_len (by decide +kernel) (fun _ _ => rfl) (fun _ => rfl) (rsCons (fun _ _ => rfl) (rV (by decide +kernel)) rsNil)))) <|
  rCons (rUnp rfl (by decide +kernel) (fun _ => rfl) (fun _ => rfl) (rSub (fun _ _ => rfl) (rV (by decide +kernel)) (rV (by decide +kernel)))) <|
  rCons (rAsg (by decide +kernel) (fun _ _ _ _ => rfl) (rL (rDisp (by decide +kernel) (rsCons (fun _ _ => rfl) (rTup (by decide +kernel) (rsCons (fun _ _ => rfl) (rV (by decide +kernel)) (rsCons (fun _ _ => rfl) (rBin binAdd (rV (by decide +kernel)) rI) (rsCons (fun _ _ => rfl) (rV (by decide +kernel)) rsNil)))) (rsCons (fun _ _ => rfl) (rTup (by decide +kernel) (rsCons (fun _ _ => rfl) (rV (by decide +kernel)) (rsCons (fun _ _ => rfl) (rBin binSub (rV (by decide +kernel)) rI) (rsCons (fun _ _ => rfl) (rV (by decide +kernel)) rsNil)))) (rsCons (fun _ _ => rfl) (rTup (by decide +kernel) (rsCons (fun _ _ => rfl) (rV (by decide +kernel)) (rsCons (fun _ _ => rfl) (rV (by decide +kernel)) (rsCons (fun _ _ => rfl) (rBin binAdd (rV (by decide +kernel)) rI) rsNil)))) (rsCons (fun _ _ => rfl) (rTup (by decide +kernel) (rsCons (fun _ _ => rfl) (rV (by decide +kernel)) (rsCons (fun _ _ => rfl) (rV (by decide +kernel)) (rsCons (fun _ _ => rfl) (rBin binSub (rV (by decide +kernel)) rI) rsNil)))) rsNil))))))) <|
  rCons (rAsg (by decide +kernel) (fun _ _ _ _ => rfl) (rSub (fun _ _ => rfl) (rL (rDisp (by decide +kernel) (rsCons (fun _ _ => rfl) (rBin binSub (rBin binMod (rBin binAdd (rV (by decide +kernel)) (rBin binFdiv (rV (by decide +kernel)) rI)) (rBin binAdd (rV (by decide +kernel)) rI)) rI) (rsCons (fun _ _ => rfl) (rBin binSub (rV (by decide +kernel)) (rV (by decide +kernel))) rsNil)))) (rBin binMod (rBin binFdiv (rV (by decide +kernel)) rI) rI))) <|
  rCons (rAsg (by decide +kernel) (fun _ _ _ _ => rfl) (rL (rCat (rV (by decide +kernel)) (rL (rDisp (by decide +kernel) (rsCons (fun _ _ => rfl) (rTup (by decide +kernel) (rsCons (fun _ _ => rfl) (rV (by decide +kernel)) (rsCons (fun _ _ => rfl) (rV (by decide +kernel)) (rsCons (fun _ _ => rfl) (rV (by decide +kernel)) rsNil)))) (rsCons (fun _ _ => rfl) (rTup (by decide +kernel) (rsCons (fun _ _ => rfl) (rV (by decide +kernel)) (rsCons (fun _ _ => rfl) (rBin binAdd (rV (by decide +kernel)) rI) (rsCons (fun _ _ => rfl) (rBin binAdd (rV (by decide +kernel)) rI) rsNil)))) rsNil))))))) <|
  rCons (rSIf (rTCmp cmpLt rfl (rBin binMod (rV (by decide +kernel)) rI) rI) (rCons (rRet (rL (rCat (rL (rCat (rL (rSlice (rV (by decide +kernel)) rbNo (rbAt (rV (by decide +kernel))))) (rL (rDisp (by decide +kernel) (rsCons (fun _ _ => rfl) (rSub (fun _ _ => rfl) (rV (by decide +kernel)) (rBin binMod (rV (by decide +kernel)) rI)) rsNil))))) (rL (rSlice (rV (by decide +kernel)) (rbAt (rBin binAdd (rV (by decide +kernel)) rI)) rbNo))))) <|
    rNil) rNil) <|
  rCons (rSIf (rTCmp cmpEq rfl (rBin binMod (rV (by decide +kernel)) rI) rI) (rCons (rRet (rL (rCat (rL (rSlice (rV (by decide +kernel)) rbNo (rbAt (rV (by decide +kernel))))) (rL (rSlice (rV (by decide +kernel)) (rbAt (rBin binAdd (rV (by decide +kernel)) rI)) rbNo))))) <|
    rNil) rNil) <|
  rCons (rSIf (rTCmp cmpEq rfl (rBin binMod (rV (by decide +kernel)) rI) rI) (rCons (rRet (rL (rCat (rL (rCat (rL (rSlice (rV (by decide +kernel)) rbNo (rbAt (rV (by decide +kernel))))) (rL (rDisp (by decide +kernel) (rsCons (fun _ _ => rfl) (rSub (fun _ _ => rfl) (rV (by decide +kernel)) (rV (by decide +kernel))) (rsCons (fun _ _ => rfl) (rTup (by decide +kernel) (rsCons (fun _ _ => rfl) (rV (by decide +kernel)) (rsCons (fun _ _ => rfl) (rV (by decide +kernel)) (rsCons (fun _ _ => rfl) (rV (by decide +kernel)) rsNil)))) rsNil)))))) (rL (rSlice (rV (by decide +kernel)) (rbAt (rBin binAdd (rV (by decide +kernel)) rI)) rbNo))))) <|
    rNil) rNil) <|
  rCons (rRet (rL (rCat (rL (rCat (rL (rDisp (by decide +kernel) (rsCons (fun _ _ => rfl) (rSub (fun _ _ => rfl) (rV (by decide +kernel)) (rV (by decide +kernel))) rsNil))) (rL (rSlice (rV (by decide +kernel)) rbNo (rbAt (rV (by decide +kernel))))))) (rL (rSlice (rV (by decide +kernel)) (rbAt (rBin binAdd (rV (by decide +kernel)) rI)) rbNo))))) <|
  rNil)
theorem has_law_job_off : Has ⟨PySem.Challenge.rw_uf050015_04.prog, w, h, mg, mb, T.g, T.b, T.nolimit⟩ 1 "_law_job_off" F_law_job_off := by
  have b_len := nb_len T
  have b_max := nb_max T
  exact has_of T (names := ["_law_jobs", "_law_cell"]) 10 rfl rfl (by intro _ _ _ vals hv; match vals, hv with | [v0, v1], _ => rfl) (by decide +kernel) (by decide +kernel) (rCons (rAsg (by decide +kernel) (fun _ _ _ _ => rfl) (rBin binMod (rBin binFdiv (rV (by decide +kernel)) rI) (rBi bfLen b_len (by decide +kernel) (fun _ _ => rfl) (fun _ => rfl) (rsCons (fun _ _ => rfl) (rV (by decide +kernel)) rsNil)))) <|
  rCons (rUnp rfl (by decide +kernel) (fun _ => rfl) (fun _ => rfl) (rSub (fun _ _ => rfl) (rV (by decide +kernel)) (rV (by decide +kernel)))) <|
  rCons (rAsg (by decide +kernel) (fun _ _ _ _ => rfl) (rL (rDisp (by decide +kernel) (rsCons (fun _ _ => rfl) (rTup (by decide +kernel) (rsCons (fun _ _ => rfl) (rBin binAdd (rV (by decide +kernel)) rI) (rsCons (fun _ _ => rfl) (rV (by decide +kernel)) (rsCons (fun _ _ => rfl) (rBin binAdd (rV (by decide +kernel)) rI) rsNil)))) (rsCons (fun _ _ => rfl) (rTup (by decide +kernel) (rsCons (fun _ _ => rfl) (rV (by decide +kernel)) (rsCons (fun _ _ => rfl) (rBin binAdd (rV (by decide +kernel)) rI) (rsCons (fun _ _ => rfl) (rV (by decide +kernel)) rsNil)))) (rsCons (fun _ _ => rfl) (rTup (by decide +kernel) (rsCons (fun _ _ => rfl) (rV (by decide +kernel)) (rsCons (fun _ _ => rfl) (rBi bfMax2 b_max (by decide +kernel) (fun _ _ => rfl) (fun _ => rfl) (rsCons (fun _ _ => rfl) rI (rsCons (fun _ _ => rfl) (rBin binSub (rV (by decide +kernel)) rI) rsNil))) (rsCons (fun _ _ => rfl) (rV (by decide +kernel)) rsNil)))) rsNil)))))) <|
  rCons (rAsg (by decide +kernel) (fun _ _ _ _ => rfl) (rL (rCat (rV (by decide +kernel)) (rL (rDisp (by decide +kernel) (rsCons (fun _ _ => rfl) (rTup (by decide +kernel) (rsCons (fun _ _ => rfl) (rV (by decide +kernel)) (rsCons (fun _ _ => rfl) (rV (by decide +kernel)) (rsCons (fun _ _ => rfl) (rBi bfMax2 b_max (by decide +kernel) (fun _ _ => rfl) (fun _ => rfl) (rsCons (fun _ _ => rfl) (rBin binAdd (rV (by decide +kernel)) rI) (rsCons (fun _ _ => rfl) (rBin binSub (rV (by decide +kernel)) rI) rsNil))) rsNil)))) (rsCons (fun _ _ => rfl) (rTup (by decide +kernel) (rsCons (fun _ _ => rfl) (rV (by decide +kernel)) (rsCons (fun _ _ => rfl) (rV (by decide +kernel)) (rsCons (fun _ _ => rfl) (rBi bfMax2 b_max (by decide +kernel) (fun _ _ => rfl) (fun _ => rfl) (rsCons (fun _ _ => rfl) (rBin binAdd (rV (by decide +kernel)) rI) (rsCons (fun _ _ => rfl) (rBin binSub (rV (by decide +kernel)) rI) rsNil))) rsNil)))) rsNil))))))) <|
  rCons (rRet (rL (rCat (rL (rCat (rL (rSlice (rV (by decide +kernel)) rbNo (rbAt (rV (by decide +kernel))))) (rL (rDisp (by decide +kernel) (rsCons (fun _ _ => rfl) (rSub (fun _ _ => rfl) (rV (by decide +kernel)) (rBin binMod (rV (by decide +kernel)) rI)) rsNil))))) (rL (rSlice (rV (by decide +kernel)) (rbAt (rBin binAdd (rV (by decide +kernel)) rI)) rbNo))))) <|
  rNil)
theorem has_law_one_fits : Has ⟨PySem.Challenge.rw_uf050015_04.prog, w, h, mg, mb, T.g, T.b, T.nolimit⟩ 1 "_law_one_fits" F_law_one_fits := by
  have b_len := nb_len T
  exact has_of T (names := ["_law_jobs", "_law_piece", "_law_time"]) 11 rfl rfl (by intro _ _ _ vals hv; match vals, hv with | [v0, v1, v2], _ => rfl) (by decide +kernel) (by decide +kernel) (rCons (rUnp rfl (by decide +kernel) (fun _ => rfl) (fun _ => rfl) (rV (by decide +kernel))) <|
  rCons (rSIf (rTOr (rTCmp cmpLt rfl (rV (by decide +kernel)) rI) (rTOr (rTCmp cmpGe rfl (rV (by decide +kernel)) (rBi bfLen b_len (by decide +kernel) (fun _ _ => rfl) (fun _ => rfl) (rsCons (fun _ _ => rfl) (rV (by decide +kernel)) rsNil))) (rTOr (rTCmp cmpGe rfl (rV (by decide +kernel)) (rV (by decide +kernel))) (rTOr (rTCmp cmpLt rfl (rV (by decide +kernel)) (rV (by decide +kernel))) rOr0)))) (rCons (rRet rB) <|
    rNil) rNil) <|
  rCons (rRet (rAnd (rCmp cmpGe rfl (rV (by decide +kernel)) (rSub (fun _ _ => rfl) (rSub (fun _ _ => rfl) (rV (by decide +kernel)) (rV (by decide +kernel))) rI)) (rOne (rCmp cmpLe rfl (rV (by decide +kernel)) (rSub (fun _ _ => rfl) (rSub (fun _ _ => rfl) (rV (by decide +kernel)) (rV (by decide +kernel))) rI))))) <|
  rNil)
theorem has_law_due : Has ⟨PySem.Challenge.rw_uf050015_04.prog, w, h, mg, mb, T.g, T.b, T.nolimit⟩ 2 "_law_due" F_law_due := by
  obtain ⟨a_law_one_fits, g_law_one_fits, f_law_one_fits⟩ := has_law_one_fits T w
  have b_enumerate := nb_enumerate T
  have b_sum := nb_sum T
  exact has_of T (names := ["_law_jobs", "_law_way"]) 12 rfl rfl (by intro _ _ _ vals hv; match vals, hv with | [v0, v1], _ => rfl) (by decide +kernel) (by decide +kernel) (rCons (rAsg (by decide +kernel) (fun _ _ _ _ => rfl) (rIf (rTPl (fun _ _ => rfl) (rV (by decide +kernel))) (rSub (fun _ _ => rfl) (rSub (fun _ _ => rfl) (rV (by decide +kernel)) rI) rI) rI)) <|
  rCons (rFor rfl (by decide +kernel) (fun _ _ => rfl) (riSeq rfl (rV (by decide +kernel))) (rCons (rSIf (rTNot (rTPl (fun _ _ => rfl) (rCall f_law_one_fits g_law_one_fits (by decide +kernel) (by decide +kernel) (fun _ _ => rfl) (rsCons (fun _ _ => rfl) (rV (by decide +kernel)) (rsCons (fun _ _ => rfl) (rV (by decide +kernel)) (rsCons (fun _ _ => rfl) (rV (by decide +kernel)) rsNil)))))) (rCons (rRet rB) <|
      rNil) rNil) <|
    rCons (rAsg (by decide +kernel) (fun _ _ _ _ => rfl) (rSub (fun _ _ => rfl) (rV (by decide +kernel)) rI)) <|
    rNil)) <|
  rCons (rFor rfl (by decide +kernel) (fun _ _ => rfl) (riEnum b_enumerate (by decide +kernel) (fun _ _ => rfl) (rV (by decide +kernel))) (rCons (rSIf (rTCmp cmpNe rfl (rBi bfSum b_sum (by decide +kernel) (fun _ _ => rfl) (fun _ => rfl) (rsCons (fun _ _ => rfl) (rL (rComp rfl (by decide +kernel) (fun _ _ => rfl) (riSeq rfl (rV (by decide +kernel))) (rIfs1 (rTCmp cmpEq rfl (rSub (fun _ _ => rfl) (rV (by decide +kernel)) rI) (rV (by decide +kernel)))) (rBin binSub (rSub (fun _ _ => rfl) (rV (by decide +kernel)) rI) (rSub (fun _ _ => rfl) (rV (by decide +kernel)) rI)))) rsNil)) (rSub (fun _ _ => rfl) (rV (by decide +kernel)) rI)) (rCons (rRet rB) <|
      rNil) rNil) <|
    rNil)) <|
  rCons (rRet rB) <|
  rNil)
theorem has_law : Has ⟨PySem.Challenge.rw_uf050015_04.prog, w, h, mg, mb, T.g, T.b, T.nolimit⟩ 5 "law" F_law_04 := by
  obtain ⟨a_law_cell_at, g_law_cell_at, f_law_cell_at⟩ := has_law_cell_at T w
  obtain ⟨a_law_pieces_by, g_law_pieces_by, f_law_pieces_by⟩ := has_law_pieces_by T w
  obtain ⟨a_law_jobs_of, g_law_jobs_of, f_law_jobs_of⟩ := has_law_jobs_of T w
  obtain ⟨a_law_spoilt, g_law_spoilt, f_law_spoilt⟩ := has_law_spoilt T w
  obtain ⟨a_law_job_off, g_law_job_off, f_law_job_off⟩ := has_law_job_off T w
  obtain ⟨a_meets, g_meets, f_meets⟩ := has_meets T w
  obtain ⟨a_law_due, g_law_due, f_law_due⟩ := has_law_due T w
  have b_list := nb_list T
  have b_isinstance := nb_isinstance T
  have b_bool := nb_bool T
  exact has_of T (names := ["_law_script"]) 13 rfl rfl (by intro _ _ _ vals hv; match vals, hv with | [v0], _ => rfl) (by decide +kernel) (by decide +kernel) (rCons (rAsg (by decide +kernel) (fun _ _ _ _ => rfl) (rBin binMod (rCall f_law_cell_at g_law_cell_at (by decide +kernel) (by decide +kernel) (fun _ _ => rfl) (rsCons (fun _ _ => rfl) (rV (by decide +kernel)) (rsCons (fun _ _ => rfl) rI rsNil))) rI)) <|
  rCons (rSIf (rTCmp cmpEq rfl (rBin binMod (rBin binFdiv (rCall f_law_cell_at g_law_cell_at (by decide +kernel) (by decide +kernel) (fun _ _ => rfl) (rsCons (fun _ _ => rfl) (rV (by decide +kernel)) (rsCons (fun _ _ => rfl) rI rsNil))) rI) rI) rI) (rCons (rAsg (by decide +kernel) (fun _ _ _ _ => rfl) (rBin binAdd rI (rBin binMod (rBin binFdiv (rCall f_law_cell_at g_law_cell_at (by decide +kernel) (by decide +kernel) (fun _ _ => rfl) (rsCons (fun _ _ => rfl) (rV (by decide +kernel)) (rsCons (fun _ _ => rfl) rI rsNil))) rI) rI))) <|
    rNil) rNil) <|
  rCons (rSIf (rTCmp cmpEq rfl (rBin binMod (rBin binFdiv (rCall f_law_cell_at g_law_cell_at (by decide +kernel) (by decide +kernel) (fun _ _ => rfl) (rsCons (fun _ _ => rfl) (rV (by decide +kernel)) (rsCons (fun _ _ => rfl) rI rsNil))) rI) rI) rI) (rCons (rAsg (by decide +kernel) (fun _ _ _ _ => rfl) (rBin binAdd rI (rBin binMod (rBin binFdiv (rCall f_law_cell_at g_law_cell_at (by decide +kernel) (by decide +kernel) (fun _ _ => rfl) (rsCons (fun _ _ => rfl) (rV (by decide +kernel)) (rsCons (fun _ _ => rfl) rI rsNil))) rI) rI))) <|
    rNil) rNil) <|
  rCons (rAsg (by decide +kernel) (fun _ _ _ _ => rfl) (rBin binAdd (rV (by decide +kernel)) (rBin binMod (rBin binFdiv (rCall f_law_cell_at g_law_cell_at (by decide +kernel) (by decide +kernel) (fun _ _ => rfl) (rsCons (fun _ _ => rfl) (rV (by decide +kernel)) (rsCons (fun _ _ => rfl) rI rsNil))) rI) rI))) <|
  rCons (rSIf (rTCmp cmpEq rfl (rBin binMod (rBin binFdiv (rCall f_law_cell_at g_law_cell_at (by decide +kernel) (by decide +kernel) (fun _ _ => rfl) (rsCons (fun _ _ => rfl) (rV (by decide +kernel)) (rsCons (fun _ _ => rfl) rI rsNil))) rI) rI) rI) (rCons (rAsg (by decide +kernel) (fun _ _ _ _ => rfl) (rBin binAdd (rV (by decide +kernel)) rI)) <|
    rNil) rNil) <|
  rCons (rSIf (rTCmp cmpEq rfl (rBin binMod (rBin binFdiv (rCall f_law_cell_at g_law_cell_at (by decide +kernel) (by decide +kernel) (fun _ _ => rfl) (rsCons (fun _ _ => rfl) (rV (by decide +kernel)) (rsCons (fun _ _ => rfl) rI rsNil))) rI) rI) rI) (rCons (rAsg (by decide +kernel) (fun _ _ _ _ => rfl) (rBin binAdd (rV (by decide +kernel)) rI)) <|
    rNil) rNil) <|
  rCons (rAsg (by decide +kernel) (fun _ _ _ _ => rfl) rI) <|
  rCons (rSIf (rTCmp cmpEq rfl (rBin binMod (rCall f_law_cell_at g_law_cell_at (by decide +kernel) (by decide +kernel) (fun _ _ => rfl) (rsCons (fun _ _ => rfl) (rV (by decide +kernel)) (rsCons (fun _ _ => rfl) rI rsNil))) rI) rI) (rCons (rAsg (by decide +kernel) (fun _ _ _ _ => rfl) (rBin binAdd rI (rBin binMod (rBin binFdiv (rCall f_law_cell_at g_law_cell_at (by decide +kernel) (by decide +kernel) (fun _ _ => rfl) (rsCons (fun _ _ => rfl) (rV (by decide +kernel)) (rsCons (fun _ _ => rfl) rI rsNil))) rI) (rBin binPow rI rI)))) <|
    rNil) rNil) <|
  rCons (rAsg (by decide +kernel) (fun _ _ _ _ => rfl) (rL (rDisp (by decide +kernel) rsNil))) <|
  rCons (rAsg (by decide +kernel) (fun _ _ _ _ => rfl) (rL (rDisp (by decide +kernel) rsNil))) <|
  rCons (rSIf (rTCmp cmpGt rfl (rV (by decide +kernel)) rI) (rCons (rAsg (by decide +kernel) (fun _ _ _ _ => rfl) (rCall f_law_pieces_by g_law_pieces_by (by decide +kernel) (by decide +kernel) (fun _ _ => rfl) (rsCons (fun _ _ => rfl) (rV (by decide +kernel)) (rsCons (fun _ _ => rfl) (rV (by decide +kernel)) (rsCons (fun _ _ => rfl) (rV (by decide +kernel)) (rsCons (fun _ _ => rfl) (rV (by decide +kernel)) rsNil)))))) <|
    rCons (rAsg (by decide +kernel) (fun _ _ _ _ => rfl) (rCall f_law_jobs_of g_law_jobs_of (by decide +kernel) (by decide +kernel) (fun _ _ => rfl) (rsCons (fun _ _ => rfl) (rV (by decide +kernel)) (rsCons (fun _ _ => rfl) (rV (by decide +kernel)) (rsCons (fun _ _ => rfl) (rCall f_law_cell_at g_law_cell_at (by decide +kernel) (by decide +kernel) (fun _ _ => rfl) (rsCons (fun _ _ => rfl) (rV (by decide +kernel)) (rsCons (fun _ _ => rfl) rI rsNil))) (rsCons (fun _ _ => rfl) (rV (by decide +kernel)) rsNil)))))) <|
    rCons (rSIf (rTCmp cmpEq rfl (rBin binMod (rBin binFdiv (rCall f_law_cell_at g_law_cell_at (by decide +kernel) (by decide +kernel) (fun _ _ => rfl) (rsCons (fun _ _ => rfl) (rV (by decide +kernel)) (rsCons (fun _ _ => rfl) rI rsNil))) rI) rI) rI) (rCons (rAsg (by decide +kernel) (fun _ _ _ _ => rfl) (rCall f_law_spoilt g_law_spoilt (by decide +kernel) (by decide +kernel) (fun _ _ => rfl) (rsCons (fun _ _ => rfl) (rV (by decide +kernel)) (rsCons (fun _ _ => rfl) (rCall f_law_cell_at g_law_cell_at (by decide +kernel) (by decide +kernel) (fun _ _ => rfl) (rsCons (fun _ _ => rfl) (rV (by decide +kernel)) (rsCons (fun _ _ => rfl) rI rsNil))) (rsCons (fun _ _ => rfl) (rV (by decide +kernel)) rsNil))))) <|
      rNil) rNil) <|
    rCons (rSIf (rTCmp cmpEq rfl (rBin binMod (rBin binFdiv (rCall f_law_cell_at g_law_cell_at (by decide +kernel) (by decide +kernel) (fun _ _ => rfl) (rsCons (fun _ _ => rfl) (rV (by decide +kernel)) (rsCons (fun _ _ => rfl) rI rsNil))) rI) rI) rI) (rCons (rAsg (by decide +kernel) (fun _ _ _ _ => rfl) (rCall f_law_job_off g_law_job_off (by decide +kernel) (by decide +kernel) (fun _ _ => rfl) (rsCons (fun _ _ => rfl) (rV (by decide +kernel)) (rsCons (fun _ _ => rfl) (rCall f_law_cell_at g_law_cell_at (by decide +kernel) (by decide +kernel) (fun _ _ => rfl) (rsCons (fun _ _ => rfl) (rV (by decide +kernel)) (rsCons (fun _ _ => rfl) rI rsNil))) rsNil)))) <|
      rNil) rNil) <|
    rNil) (rCons (rSIf (rTCmp cmpEq rfl (rBin binMod (rCall f_law_cell_at g_law_cell_at (by decide +kernel) (by decide +kernel) (fun _ _ => rfl) (rsCons (fun _ _ => rfl) (rV (by decide +kernel)) (rsCons (fun _ _ => rfl) rI rsNil))) rI) rI) (rCons (rAsg (by decide +kernel) (fun _ _ _ _ => rfl) (rL (rDisp (by decide +kernel) (rsCons (fun _ _ => rfl) (rTup (by decide +kernel) (rsCons (fun _ _ => rfl) (rBin binSub (rBin binMod (rCall f_law_cell_at g_law_cell_at (by decide +kernel) (by decide +kernel) (fun _ _ => rfl) (rsCons (fun _ _ => rfl) (rV (by decide +kernel)) (rsCons (fun _ _ => rfl) rI rsNil))) rI) rI) (rsCons (fun _ _ => rfl) rI (rsCons (fun _ _ => rfl) rI rsNil)))) rsNil)))) <|
      rNil) rNil) <|
    rNil)) <|
  rCons (rAsg (by decide +kernel) (fun _ _ _ _ => rfl) (rL (rOf b_list (by decide +kernel) (fun _ _ => rfl) (rV (by decide +kernel))))) <|
  rCons (rAsg (by decide +kernel) (fun _ _ _ _ => rfl) (rL (rOf b_list (by decide +kernel) (fun _ _ => rfl) (rV (by decide +kernel))))) <|
  rCons (rAsg (by decide +kernel) (fun _ _ _ _ => rfl) (rCall f_meets g_meets (by decide +kernel) (by decide +kernel) (fun _ _ => rfl) (rsCons (fun _ _ => rfl) (rV (by decide +kernel)) (rsCons (fun _ _ => rfl) (rV (by decide +kernel)) rsNil)))) <|
  rCons (rRet (rAnd (rIsI (by decide +kernel) b_isinstance b_bool (by decide +kernel) (by decide +kernel) (fun _ _ => rfl) (rV (by decide +kernel))) (rAnd (rCmp cmpEq rfl (rV (by decide +kernel)) (rCall f_law_due g_law_due (by decide +kernel) (by decide +kernel) (fun _ _ => rfl) (rsCons (fun _ _ => rfl) (rV (by decide +kernel)) (rsCons (fun _ _ => rfl) (rV (by decide +kernel)) rsNil)))) (rAnd (rCmp cmpEq rfl (rV (by decide +kernel)) (rV (by decide +kernel))) (rOne (rCmp cmpEq rfl (rV (by decide +kernel)) (rV (by decide +kernel)))))))) <|
  rNil)
end
end Mine
end
section
set_option maxRecDepth 20000
set_option linter.unusedVariables false
namespace Mine
open PySem PyProof.Rows PySem.Calls PySem.W

theorem fin04 : PySem.Challenge.rw_uf050015_04.Holds := hd04 (glue rfl rfl fun w mean h mg mb T a _ hm => by
  obtain ⟨a', g, f⟩ := has_law T w
  have e : some (Value.ref a') = some (Value.ref a) := g.symm.trans hm
  cases e
  exact ⟨_, F_law_04, by decide, f, fun ns hn => law04 hn⟩)
end Mine
end

theorem PySem.Challenge.cw_uf050015_04_holds : PySem.Challenge.rw_uf050015_04.Holds :=
  Mine.fin04
