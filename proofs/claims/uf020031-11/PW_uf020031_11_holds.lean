import PyProof.Rows.All
import Wide.All
import Open.Line
import Wide.FinOn
import PyProof.Cells
import PyProof.CompFree
import PyProof.Rows.Globals
import PyProof.Rows.TupSub
import PyProof.Rows.TupAssign
import PyProof.Rows.Own
import PyProof.DictStraight
import PyProof.RaisesMany
import PyProof.PureInt
import PyProof.AutoIntOps
import PyProof.Rules2
import PyProof.Rules3
import PyProof.Rows.Nodes
import PyProof.Rows.Chain
import PyProof.IsRules
import PyProof.NoPylong
import PyProof.Calls
import PyProof.ListCopy
import PyProof.Rows.Lst
import PyProof.Rows.Tup
import PyProof.Rows.StrTemp
import PyProof.IsiPairs
import PyProof.IsiHeapPairs
import PyProof.Conv_int_bool
import PyProof.Rows.Exc
import PyProof.DictTruth
import PyProof.ListOps
import PyProof.SliceList
import PyProof.SliceMore
import PyProof.SeqI
import PyProof.IsiNone
import PyProof.Rows.SeqMore
import PyProof.ForAppend
import PyProof.DictDisplay
import PyProof.DictRoads
import PyProof.ListMulRoad
import PyProof.Rows.ListMulArg
import PyProof.WalksMore
import PyProof.ConsumeWalk
import PyProof.ForAny
import PyProof.RangeFor
import PyProof.WalksPairs
import PyProof.TupleIter
import PyProof.Raises
import PyProof.ListIndex
import PyProof.CompMap
import PyProof.CompUse
import PyProof.RulesMatch
import PyProof.Rows.CellsNews
import PyProof.EqLayable
import PyProof.WalkInts
import PyProof.P3In
import PyProof.SeqI3
import PyProof.ExcClass3
import PyProof.ExcBaseAll.ValueError
import PyProof.RulesAs
import PyProof.IsiBase
import PyProof.ExcAttrAll.ValueError
import PyProof.IsInstance
import PyProof.CallTypeRange
import PyProof.FactsAll.range_2
import PyProof.RangeIter
import PyProof.EnumFor
import PyProof.EnumStmt
import PyProof.EnumMake
import KE.KDictOf
import PyProof.DictUpdate
import PyProof.Rows.SortWalk
import PyProof.Rows.SetFrom
import PyProof.MeetsSeq
import PyProof.TupleOfSeq
import PyProof.ListRange
import PyProof.FitsBits
import PyProof.ExcClsAt2
import PySem.Challenge.RW_uf020031_11
set_option Elab.async false
set_option linter.unusedVariables false
set_option linter.unusedSimpArgs false
section
namespace Mine
open Int.Internal.Linear (Expr Context Poly)
noncomputable abbrev Lc := Nat × Int × Expr × Expr
noncomputable def Ld (x : Context) (c : Lc) (G : Prop) : Prop := Nat.rec (c.2.2.1.denote x ≤ c.2.2.2.denote x → G) (fun n _ => Nat.rec (c.2.2.1.denote x < c.2.2.2.denote x → G) (fun n _ => Nat.rec (c.2.2.1.denote x = c.2.2.2.denote x → G) (fun n _ => Nat.rec (¬ c.2.2.1.denote x ≤ c.2.2.2.denote x → G) (fun _ _ => ¬ c.2.2.1.denote x < c.2.2.2.denote x → G) n) n) n) c.1
noncomputable def Lv (c : Lc) : Expr := .mulL c.2.1 (Nat.rec (.sub c.2.2.2 c.2.2.1) (fun n _ => Nat.rec (.sub (.sub c.2.2.2 c.2.2.1) (.num 1)) (fun n _ => Nat.rec (.sub c.2.2.2 c.2.2.1) (fun n _ => Nat.rec (.sub (.sub c.2.2.1 c.2.2.2) (.num 1)) (fun _ _ => .sub c.2.2.1 c.2.2.2) n) n) n) c.1)
noncomputable def Limp (x : Context) (G : Prop) (cs : List Lc) : Prop := List.rec G (fun c _ r => Ld x c r) cs
noncomputable def zhz (e : Expr) (cs : List Lc) : Expr := List.rec e (fun c _ r => .sub r (Lv c)) cs
noncomputable def Lnn (k : Int) : Bool := Int.rec (fun _ => true) (fun _ => false) k
noncomputable def Lok (cs : List Lc) : Bool := List.rec true (fun c _ r => ((c.1.beq 2).or (Lnn c.2.1)).and r) cs
noncomputable def Lfin (k : Int) (p : Poly) : Bool := Poly.rec (fun c => Lnn (k.add c)) (fun _ _ _ _ => false) p
theorem Lnn_i {k : Int} (h : Lnn k = true) : 0 ≤ k := by
  cases k with
  | ofNat k => exact Int.natCast_nonneg k
  | negSucc k => cases h
theorem Ld_i {x : Context} {c : Lc} {G : Prop} (hk : ((c.1.beq 2).or (Lnn c.2.1)) = true) (h : 0 ≤ (Lv c).denote x → G) : Ld x c G := by
  obtain ⟨t, k, a, b⟩ := c
  have pos : t ≠ 2 → 0 ≤ k := fun ht => by
    cases hb : t.beq 2 with
    | true => exact absurd (Nat.eq_of_beq_eq_true hb) ht
    | false => dsimp only at hk; rw [hb] at hk; exact Lnn_i hk
  match t, pos, h with
  | 0, pos, h => exact fun e => h (Int.mul_nonneg (pos (by decide)) (Int.sub_nonneg_of_le e))
  | 1, pos, h => exact fun e => h (Int.mul_nonneg (pos (by decide)) (Int.sub_nonneg_of_le (Int.add_one_le_of_lt (Int.sub_pos_of_lt e))))
  | 2, pos, h => exact fun e => h (by show 0 ≤ k * (b.denote x - a.denote x); rw [show a.denote x = b.denote x from e, Int.sub_self, Int.mul_zero]; exact Int.le_refl 0)
  | 3, pos, h => exact fun e => h (Int.mul_nonneg (pos (by decide)) (Int.sub_nonneg_of_le (Int.add_one_le_of_lt (Int.sub_pos_of_lt (Int.not_le.mp e)))))
  | n + 4, pos, h => exact fun e => h (Int.mul_nonneg (pos (by omega)) (Int.sub_nonneg_of_le (Int.not_lt.mp e)))
theorem Limp_i {x : Context} {G : Prop} {k : Int} {e : Expr} (cs : List Lc) (h : ((Lok cs).and (Lfin k (zhz e cs).norm)) = true) (hG : 0 ≤ k + e.denote x → G) : Limp x G cs := by
  have h2 : 0 ≤ k + (zhz e cs).denote x := by
    rw [← Expr.denote_norm]
    cases hp : (zhz e cs).norm with
    | num c => rw [hp] at h; exact Lnn_i (Bool.and_eq_true_iff.mp h).2
    | add a b c => rw [hp] at h; exact Bool.noConfusion (Bool.and_eq_true_iff.mp h).2
  have h1 := (Bool.and_eq_true_iff.mp h).1
  clear h
  revert h1 h2
  induction cs generalizing G with
  | nil => exact fun h2 _ => hG h2
  | cons c cs ih =>
    intro h2 h1
    have h1 := Bool.and_eq_true_iff.mp h1
    refine Ld_i h1.1 fun h3 => ih hG (Int.le_trans h2 ?_) h1.2
    exact Int.add_le_add_left (Int.sub_le_self _ h3) k
theorem lin (x : Context) (a b : Expr) (cs : List Lc) (h : ((Lok cs).and (Lfin 0 (zhz (.sub b a) cs).norm)) = true) : Limp x (a.denote x ≤ b.denote x) cs :=
  Limp_i cs h fun h => Int.le_of_sub_nonneg (by rw [Int.zero_add] at h; exact h)
theorem lit (x : Context) (a b : Expr) (cs : List Lc) (h : ((Lok cs).and (Lfin (-1) (zhz (.sub b a) cs).norm)) = true) : Limp x (a.denote x < b.denote x) cs :=
  Limp_i cs h fun h => by have : 0 ≤ -1 + (b.denote x - a.denote x) := h; omega
theorem lif {G : Prop} (x : Context) (cs : List Lc) (h : ((Lok cs).and (Lfin (-1) (zhz (.num 0) cs).norm)) = true) : Limp x G cs :=
  Limp_i cs h fun h => absurd (show (0 : Int) ≤ -1 + 0 from h) (by decide)
noncomputable def Lqs (cs : List Lc) : Bool := List.rec true (fun c _ r => (c.1.beq 2).and r) cs
noncomputable def Lz (p : Poly) : Bool := Poly.rec (fun c => Int.rec (fun n => n.beq 0) (fun _ => false) c) (fun _ _ _ _ => false) p
theorem Ld_q {x : Context} {c : Lc} {G : Prop} (hk : c.1.beq 2 = true) (h : (Lv c).denote x = 0 → G) : Ld x c G := by
  obtain ⟨t, k, a, b⟩ := c
  cases (Nat.eq_of_beq_eq_true hk : t = 2)
  exact fun e => h (by show k * (b.denote x - a.denote x) = 0; rw [show a.denote x = b.denote x from e, Int.sub_self, Int.mul_zero])
theorem Limp_q {x : Context} {G : Prop} {e : Expr} (cs : List Lc) (h : ((Lqs cs).and (Lz (zhz e cs).norm)) = true) (hG : e.denote x = 0 → G) : Limp x G cs := by
  have h2 : (zhz e cs).denote x = 0 := by
    rw [← Expr.denote_norm]
    cases hp : (zhz e cs).norm with
    | num c =>
      rw [hp] at h
      cases c with
      | ofNat n => exact congrArg Int.ofNat (Nat.eq_of_beq_eq_true (Bool.and_eq_true_iff.mp h).2)
      | negSucc n => exact Bool.noConfusion (Bool.and_eq_true_iff.mp h).2
    | add a b c => rw [hp] at h; exact Bool.noConfusion (Bool.and_eq_true_iff.mp h).2
  have h1 := (Bool.and_eq_true_iff.mp h).1
  clear h
  revert h1 h2
  induction cs generalizing G with
  | nil => exact fun h2 _ => hG h2
  | cons c cs ih =>
    intro h2 h1
    have h1 := Bool.and_eq_true_iff.mp h1
    refine Ld_q h1.1 fun h3 => ih hG ?_ h1.2
    have : (zhz e cs).denote x - (Lv c).denote x = 0 := h2
    rw [h3, Int.sub_zero] at this; exact this
theorem liq (x : Context) (a b : Expr) (cs : List Lc) (h : ((Lqs cs).and (Lz (zhz (.sub b a) cs).norm)) = true) : Limp x (a.denote x = b.denote x) cs :=
  Limp_q cs h fun h => (Int.eq_of_sub_eq_zero h).symm
theorem leI {a b : Nat} (h : a ≤ b) : (a : Int) ≤ b := Int.ofNat_le.mpr h
theorem ltI {a b : Nat} (h : a < b) : (a : Int) < b := Int.ofNat_lt.mpr h
theorem eqI {a b : Nat} (h : a = b) : (a : Int) = b := congrArg Nat.cast h
theorem noI {a b : Nat} (h : ¬ a ≤ b) : (b : Int) < a := Int.ofNat_lt.mpr (Nat.not_le.mp h)
theorem nuI {a b : Nat} (h : ¬ a < b) : (b : Int) ≤ a := Int.ofNat_le.mpr (Nat.not_lt.mp h)
theorem leN {a b : Nat} (h : (a : Int) ≤ b) : a ≤ b := Int.ofNat_le.mp h
theorem ltN {a b : Nat} (h : (a : Int) < b) : a < b := Int.ofNat_lt.mp h
theorem eqN {a b : Nat} (h : (a : Int) = b) : a = b := Int.ofNat_inj.mp h
theorem w9 {a b : Int} (h : a ≤ b) (h' : a ≠ b) : a < b := Int.lt_iff_le_and_ne.mpr ⟨h, h'⟩
theorem ww {a b : Nat} (h : (a : Int) ≤ b) (h' : a ≠ b) : (a : Int) < b := w9 h fun e => h' (Int.ofNat_inj.mp e)
theorem nnI (a : Nat) : (0 : Int) ≤ a := Int.natCast_nonneg a
noncomputable def r1 (a : Int) : Context := .leaf a
noncomputable def r2 (a b : Int) : Context := .branch 1 (.leaf a) (.leaf b)
noncomputable def r3 (a b c : Int) : Context := .branch 1 (.leaf a) (.branch 2 (.leaf b) (.leaf c))
noncomputable def r4 (a b c d : Int) : Context := .branch 2 (.branch 1 (.leaf a) (.leaf b)) (.branch 3 (.leaf c) (.leaf d))
noncomputable def r5 (a b c d e : Int) : Context := .branch 2 (.branch 1 (.leaf a) (.leaf b)) (.branch 3 (.leaf c) (.branch 4 (.leaf d) (.leaf e)))
noncomputable def r6 (a b c d e f : Int) : Context := .branch 3 (.branch 1 (.leaf a) (.branch 2 (.leaf b) (.leaf c))) (.branch 4 (.leaf d) (.branch 5 (.leaf e) (.leaf f)))
noncomputable def r7 (a b c d e f g : Int) : Context := .branch 6 (r6 a b c d e f) (.leaf g)
noncomputable abbrev V0 : Expr := Expr.var 0
noncomputable abbrev V1 : Expr := Expr.var 1
noncomputable abbrev V2 : Expr := Expr.var 2
noncomputable abbrev V3 : Expr := Expr.var 3
noncomputable abbrev V4 : Expr := Expr.var 4
noncomputable abbrev V5 : Expr := Expr.var 5
noncomputable abbrev V6 : Expr := Expr.var 6
noncomputable abbrev V7 : Expr := Expr.var 7
noncomputable abbrev N0 : Expr := Expr.num 0
noncomputable abbrev N1 : Expr := Expr.num 1
theorem tnn {a : Int} (h : 0 ≤ a) : (a.toNat : Int) = a := Int.toNat_of_nonneg h
end Mine
end
section
open PySem
namespace Mine
inductive X2 {t0 t1 : Type} (p : t0 → t1 → Prop) : Prop | mk (x0 : t0) (x1 : t1) (h : p x0 x1) : X2 p
inductive X3 {t0 t1 t2 : Type} (p : t0 → t1 → t2 → Prop) : Prop | mk (x0 : t0) (x1 : t1) (x2 : t2) (h : p x0 x1 x2) : X3 p
inductive X4 {t0 t1 t2 t3 : Type} (p : t0 → t1 → t2 → t3 → Prop) : Prop | mk (x0 : t0) (x1 : t1) (x2 : t2) (x3 : t3) (h : p x0 x1 x2 x3) : X4 p
inductive X5 {t0 t1 t2 t3 t4 : Type} (p : t0 → t1 → t2 → t3 → t4 → Prop) : Prop | mk (x0 : t0) (x1 : t1) (x2 : t2) (x3 : t3) (x4 : t4) (h : p x0 x1 x2 x3 x4) : X5 p
inductive X6 {t0 t1 t2 t3 t4 t5 : Type} (p : t0 → t1 → t2 → t3 → t4 → t5 → Prop) : Prop | mk (x0 : t0) (x1 : t1) (x2 : t2) (x3 : t3) (x4 : t4) (x5 : t5) (h : p x0 x1 x2 x3 x4 x5) : X6 p
inductive X12 {t0 t1 t2 t3 t4 t5 t6 t7 t8 t9 t10 t11 : Type} (p : t0 → t1 → t2 → t3 → t4 → t5 → t6 → t7 → t8 → t9 → t10 → t11 → Prop) : Prop | mk (x0 : t0) (x1 : t1) (x2 : t2) (x3 : t3) (x4 : t4) (x5 : t5) (x6 : t6) (x7 : t7) (x8 : t8) (x9 : t9) (x10 : t10) (x11 : t11) (h : p x0 x1 x2 x3 x4 x5 x6 x7 x8 x9 x10 x11) : X12 p
inductive X13 {t0 t1 t2 t3 t4 t5 t6 t7 t8 t9 t10 t11 t12 : Type} (p : t0 → t1 → t2 → t3 → t4 → t5 → t6 → t7 → t8 → t9 → t10 → t11 → t12 → Prop) : Prop | mk (x0 : t0) (x1 : t1) (x2 : t2) (x3 : t3) (x4 : t4) (x5 : t5) (x6 : t6) (x7 : t7) (x8 : t8) (x9 : t9) (x10 : t10) (x11 : t11) (x12 : t12) (h : p x0 x1 x2 x3 x4 x5 x6 x7 x8 x9 x10 x11 x12) : X13 p
inductive A3 (a0 a1 a2 : Prop) : Prop | mk (h0 : a0) (h1 : a1) (h2 : a2) : A3 a0 a1 a2
inductive A4 (a0 a1 a2 a3 : Prop) : Prop | mk (h0 : a0) (h1 : a1) (h2 : a2) (h3 : a3) : A4 a0 a1 a2 a3
inductive A5 (a0 a1 a2 a3 a4 : Prop) : Prop | mk (h0 : a0) (h1 : a1) (h2 : a2) (h3 : a3) (h4 : a4) : A5 a0 a1 a2 a3 a4
inductive A6 (a0 a1 a2 a3 a4 a5 : Prop) : Prop | mk (h0 : a0) (h1 : a1) (h2 : a2) (h3 : a3) (h4 : a4) (h5 : a5) : A6 a0 a1 a2 a3 a4 a5
inductive A8 (a0 a1 a2 a3 a4 a5 a6 a7 : Prop) : Prop | mk (h0 : a0) (h1 : a1) (h2 : a2) (h3 : a3) (h4 : a4) (h5 : a5) (h6 : a6) (h7 : a7) : A8 a0 a1 a2 a3 a4 a5 a6 a7
inductive A9 (a0 a1 a2 a3 a4 a5 a6 a7 a8 : Prop) : Prop | mk (h0 : a0) (h1 : a1) (h2 : a2) (h3 : a3) (h4 : a4) (h5 : a5) (h6 : a6) (h7 : a7) (h8 : a8) : A9 a0 a1 a2 a3 a4 a5 a6 a7 a8
inductive A10 (a0 a1 a2 a3 a4 a5 a6 a7 a8 a9 : Prop) : Prop | mk (h0 : a0) (h1 : a1) (h2 : a2) (h3 : a3) (h4 : a4) (h5 : a5) (h6 : a6) (h7 : a7) (h8 : a8) (h9 : a9) : A10 a0 a1 a2 a3 a4 a5 a6 a7 a8 a9
inductive E2 {α : Type} (p q : α → Prop) : Prop | mk (x) (h1 : p x) (h2 : q x) : E2 p q
inductive E3 {α : Type} (p q r : α → Prop) : Prop | mk (x) (h1 : p x) (h2 : q x) (h3 : r x) : E3 p q r
inductive E4 {α : Type} (p q r s : α → Prop) : Prop | mk (x) (h1 : p x) (h2 : q x) (h3 : r x) (h4 : s x) : E4 p q r s

theorem qF {α : Type} {x : Option α} {a : α} {p : Prop} (h : x = none) (h' : x = some a) : p := by cases h.symm.trans h'
theorem yV {α : Type} {x : Option α} (h : ∀ a, x = some a → False) : x = none := by
  cases x with
  | none => rfl
  | some a => exact (h a rfl).elim
theorem zao {α : Type} {x : Option α} {a : α} (h : x = some a) : x.isSome = true := h ▸ rfl
theorem some_f {α : Type} {x : Option α} {p : Prop} (h : x = none) (h' : x.isSome = true) : p := by rw [h] at h'; cases h'
theorem zfE {α : Type} {x : Option α} {a b : α} (h : x = some a) (h' : x = some b) : a = b := Option.some.inj (h.symm.trans h')

inductive V where
  | none
  | bool (b : Bool)
  | int (i : Int)
  | str (x : Str)
  | ref (a : Addr)

inductive O where
  | list (xs : List V)
  | tup (xs : List V)
  | dict (kvs : List (Int × V))
  | ro (xs : List V)
  | exc (x : Nat)

noncomputable abbrev zb := Addr → Option O
noncomputable def put (σ : zb) (a : Addr) (o : O) : zb := fun b => if b = a then some o else σ b
theorem zy (σ : zb) (a : Addr) (o : O) : put σ a o a = some o := by simp [put]
theorem zS {σ : zb} {a b : Addr} (o : O) (h : b ≠ a) : put σ a o b = σ b := by simp [put, h]
theorem zeg {σ : zb} {a b : Addr} {o : O} (h : b ≠ a) (e : (put σ a o b).isSome = true) : (σ b).isSome = true := (congrArg Option.isSome (zS o h)).symm.trans e
theorem put_s' {σ : zb} {a b : Addr} {o : O} (h : b ≠ a) (e : (σ b).isSome = true) : (put σ a o b).isSome = true := (congrArg Option.isSome (zS o h)).trans e
inductive VIs : V → Value → Prop
  | none : VIs .none .none
  | bool (b) : VIs (.bool b) (.bool b)
  | int (i t) : VIs (.int i) (.int i t)
  | str (x t) : VIs (.str x) (.str x t)
  | ref (a) : VIs (.ref a) (.ref a)

inductive jL : List V → List Value → Prop
  | nil : jL [] []
  | cons {v vs u us} : VIs v u → jL vs us → jL (v :: vs) (u :: us)

theorem jL.length {vs us} (h : jL vs us) : us.length = vs.length := by
  induction h with
  | nil => rfl
  | cons _ _ ih => exact congrArg Nat.succ ih
theorem jL.get {vs us} (h : jL vs us) : ∀ {i : Nat} {v : V}, vs[i]? = some v → ∃ u, us[i]? = some u ∧ VIs v u := by
  induction h with
  | nil => exact fun e => qF rfl e
  | @cons v vs u us h _ ih => exact fun {i w} => Nat.casesOn i (fun e => ⟨u, rfl, Option.some.inj e ▸ h⟩) fun i e => ih (i := i) e
theorem jL.append {vs us vs' us'} (h : jL vs us) (h' : jL vs' us') : jL (vs ++ vs') (us ++ us') := by
  induction h with
  | nil => exact h'
  | cons h _ ih => exact .cons h ih
theorem jL.set {vs us} (h : jL vs us) (i : Nat) {v : V} {u : Value} (h' : VIs v u) : jL (vs.set i v) (us.set i u) := by
  induction h generalizing i with
  | nil => exact .nil
  | cons h r ih => exact Nat.casesOn i (.cons h' r) fun i => .cons h (ih i)
theorem jL.take {vs us} (h : jL vs us) (i : Nat) : jL (vs.take i) (us.take i) := by
  induction h generalizing i with
  | nil => rw [List.take_nil, List.take_nil]; exact .nil
  | cons h r ih => exact Nat.casesOn i .nil fun i => .cons h (ih i)
theorem jL.drop {vs us} (h : jL vs us) (i : Nat) : jL (vs.drop i) (us.drop i) := by
  induction h generalizing i with
  | nil => rw [List.drop_nil, List.drop_nil]; exact .nil
  | cons h r ih => exact Nat.casesOn i (.cons h r) fun i => ih i

inductive KVs : List (Int × V) → List (Int × Value) → Prop
  | nil : KVs [] []
  | cons {k v u r s} : VIs v u → KVs r s → KVs ((k, v) :: r) ((k, u) :: s)

structure TC where
  prog : Program
  w : World
  s0 : Shared
  hb : Heap
  scr : Addr
  mg : Str → Option Value
  mb : Str → Option Value
  gl : ∃ o, hb.get? mainGlobals = some o
  fr : List Env
  calm : Bool
noncomputable def frs (T : TC) : List Addr := T.fr.filterMap (·.frame)
inductive IsD (h : Heap) (L : Addr) : Prop | mk (o es ep) (h1 : h.get? L = some o) (h2 : o.data = .dict es ep) : IsD h L
theorem IsD.keeps {h h' : Heap} {L : Addr} (x : IsD h L) (hk : ∀ b o, h.get? b = some o → h'.get? b = some o) : IsD h' L := let ⟨o, es, ep, e, d⟩ := x; ⟨o, es, ep, hk _ _ e, d⟩
theorem IsD.imp' {h h' : Heap} {L : Addr} (x : IsD h L) (e : h'.get? L = h.get? L) : IsD h' L := let ⟨o, es, ep, e', d⟩ := x; ⟨o, es, ep, e.trans e', d⟩
theorem IsD.some {h : Heap} {L : Addr} (x : IsD h L) (e : h.get? L = none) : False := let ⟨o, es, ep, e', _⟩ := x; qF e e'

structure TC.Ok (T : TC) : Prop where
  g : T.hb.Ns mainGlobals T.mg
  b : T.hb.Ns builtinsNs T.mb
  nolimit : T.hb.NoLimit
  builtins : ∀ x : Str, x ≠ "__name__" → T.mb x = bootBuiltins x
  sysm : ∃ o, T.hb.get? sysModules = some o

noncomputable def qq (x : Nat) : Str := (["YardError", "NoNet", "NoHeap", "NoPlace", "NoTree", "TooLittle", "NotAgain"] : List Str).getD x ""
noncomputable def lim : Nat := 1000000
noncomputable def OIs (T : TC) : O → Obj → Prop
  | .list xs, o => xs.length ≤ lim ∧ ∃ vs n, o = { cls := .type "list", dict := none, data := .seq vs n, slots := #[] } ∧ jL xs vs.toList
  | .tup xs, o => xs.length ≤ lim ∧ ∃ vs n, o = { cls := .type "tuple", dict := none, data := .seq vs n, slots := #[] } ∧ jL xs vs.toList
  | .ro xs, o => xs.length ≤ lim ∧ o.cls = .type "list" ∧ ∃ vs n, o.data = .seq vs n ∧ jL xs vs.toList
  | .dict kvs, o => kvs.length ≤ lim ∧ ∃ us, o.IsDictOf (intKind T.prog T.w) us ∧ KVs kvs us
  | .exc x, o => ∃ C, T.mg (qq x) = some (.ref C) ∧ o.cls = .ref C

noncomputable abbrev TC.M (T : TC) : Model := model T.prog T.w

noncomputable def Free (T : TC) (σ : zb) (b : Addr) : Prop := σ b = none ∨ b = T.scr

inductive ObjAt (P : Obj → Prop) (h : Heap) (a : Addr) : Prop | mk (o) (h1 : h.get? a = some o) (h2 : P o) : ObjAt P h a
inductive FrmOK (hb : Heap) (σ : zb) (h : Heap) (env : Env) : Prop | mk (h0 : env.scope.kind ≠ .module) (L) (h1 : env.frame = some L) (h2 : hb.get? L = none) (h3 : σ L = none) (h4 : IsD h L) : FrmOK hb σ h env
structure St (T : TC) (σ : zb) (s : Shared) : Prop where
  rest : ∃ h tk, s = { T.s0 with heap := h, toks := tk }
  base : ∀ b o, T.hb.get? b = some o → s.heap.get? b = some o
  objs : ∀ a so, σ a = some so → ObjAt (OIs T so) s.heap a
  fresh : ∀ a, (σ a).isSome → a ≠ T.scr → T.hb.get? a = none
  sysm : ∀ a, (σ a).isSome → a ≠ T.scr → (a == sysModules) = false
  ro : ∃ xs, σ T.scr = some (.ro xs)
  frames : ∀ env ∈ T.fr, FrmOK T.hb σ s.heap env
theorem St.fr {T σ s} (st : St T σ s) {L : Addr} (h : L ∈ frs T) : T.hb.get? L = none ∧ σ L = none ∧ IsD s.heap L := by
  obtain ⟨env, he, hf⟩ := List.mem_filterMap.mp h
  obtain ⟨_, L', e, h1, h2, h3⟩ := st.frames env he
  exact zfE e hf ▸ ⟨h1, h2, h3⟩
theorem St.notFr {T σ s} (st : St T σ s) {b : Addr} (h : s.heap.get? b = none) : b ∉ frs T := fun hb => (st.fr hb).2.2.some h
theorem St.notFrσ {T σ s} (st : St T σ s) {b : Addr} {so : O} (h : σ b = some so) : b ∉ frs T := fun hb => qF (st.fr hb).2.1 h
theorem frNe {T : TC} {c L : Addr} (hc : c ∉ frs T) (hL : L ∈ frs T) : L ≠ c := fun q => hc (q ▸ hL)
theorem frPut {T : TC} {σ : zb} {c : Addr} {so : O} (hc : c ∉ frs T) : ∀ L ∈ frs T, σ L = none → put σ c so L = none := fun L hL h => (zS _ (frNe hc hL)).trans h
theorem St.framesOf {T σ s} (st : St T σ s) {σ' : zb} {h' : Heap} (hσ : ∀ L ∈ frs T, σ L = none → σ' L = none) (hh : ∀ L ∈ frs T, IsD s.heap L → IsD h' L) : ∀ env ∈ T.fr, FrmOK T.hb σ' h' env := fun env he => by
  obtain ⟨hk, L, e, h1, h2, h3⟩ := st.frames env he
  have hL : L ∈ frs T := List.mem_filterMap.mpr ⟨env, he, e⟩
  exact ⟨hk, L, e, h1, hσ L hL h2, hh L hL h3⟩

noncomputable def zfB (F : List Addr) (x : Addr) (o o' : Obj) : Prop := x ∈ F ∧ ∃ sl, o' = { o with slots := sl }
inductive KeptAt (F : List Addr) (h : Heap) (b : Addr) (o : Obj) : Prop | mk (o') (h1 : h.get? b = some o') (h2 : o' = o ∨ zfB F b o o') : KeptAt F h b o
structure zL (T : TC) (X : List Addr) (σ : zb) (s : Shared) (σ' : zb) (s' : Shared) : Prop where
  keep : ∀ b o, Free T σ b → b ∉ X → s.heap.get? b = some o → KeptAt (frs T) s'.heap b o
  live : ∀ b o, s.heap.get? b = some o → ∃ o', s'.heap.get? b = some o'
  mono : ∀ a, (σ a).isSome → (σ' a).isSome
  new : ∀ a, σ a = none → (σ' a).isSome → s.heap.get? a = none

theorem zL.keepX {T X σ s σ' s'} (a : zL T X σ s σ' s') {b : Addr} {o : Obj} (hf : Free T σ b) (hx : b ∉ X) (hn : b ∉ frs T) (e : s.heap.get? b = some o) : s'.heap.get? b = some o := by
  obtain ⟨o', h, r⟩ := a.keep b o hf hx e
  exact r.elim (fun r => r ▸ h) fun r => absurd r.1 hn
theorem zL.keepD {T X σ s σ' s'} (a : zL T X σ s σ' s') {b : Addr} {o : Obj} (hf : Free T σ b) (hx : b ∉ X) (e : s.heap.get? b = some o) : ∃ o', s'.heap.get? b = some o' ∧ o'.data = o.data := by
  obtain ⟨o', h, r⟩ := a.keep b o hf hx e
  exact ⟨o', h, r.elim (congrArg _) fun ⟨_, sl, r⟩ => r ▸ rfl⟩
theorem zL.dead {T X σ s σ' s'} (a : zL T X σ s σ' s') {b : Addr} (h : s'.heap.get? b = none) : s.heap.get? b = none :=
  yV fun o e => let ⟨o', h'⟩ := a.live b o e; qF h h'
theorem zL.refl {T X σ s} : zL T X σ s σ s :=
  ⟨fun _ o _ _ e => ⟨o, e, .inl rfl⟩, fun _ o e => ⟨o, e⟩, fun _ h => h, fun a h h' => some_f h h'⟩
theorem slotsOf {F : List Addr} {x : Addr} {o o1 o2 : Obj} (r1 : o1 = o ∨ zfB F x o o1) (r2 : o2 = o1 ∨ zfB F x o1 o2) : o2 = o ∨ zfB F x o o2 :=
  r2.elim (fun r2 => r2 ▸ r1) fun r2 => r1.elim (fun r1 => .inr (r1 ▸ r2)) fun ⟨m, sl, e⟩ => .inr ⟨m, let ⟨_, sl', e'⟩ := r2; ⟨sl', e'.trans (e ▸ rfl)⟩⟩
theorem zL.trans {T X σ s σ₁ s₁ σ₂ s₂} (a : zL T X σ s σ₁ s₁) (b : zL T X σ₁ s₁ σ₂ s₂) : zL T X σ s σ₂ s₂ := by
  refine ⟨fun x o hf hx e => ?_, fun x o e => let ⟨o1, e1⟩ := a.live x o e; b.live x o1 e1, fun x h => b.mono x (a.mono x h), fun x h h' => ?_⟩
  · obtain ⟨o1, h1, r1⟩ := a.keep x o hf hx e
    obtain ⟨o2, h2, r2⟩ := b.keep x o1 (hf.elim (fun hf => .inl (yV fun o1 h1 => qF (a.new x hf (zao h1)) e)) .inr) hx h1
    exact ⟨o2, h2, slotsOf r1 r2⟩
  · exact yV fun o3 h3 => by
      cases h1 : σ₁ x with
      | some o1 => exact qF (a.new x h (zao h1)) h3
      | none => obtain ⟨o', h4⟩ := a.live x o3 h3; exact qF (b.new x h1 h') h4
theorem zL.weaken {T X Y σ s σ' s'} (a : zL T X σ s σ' s') (h : ∀ x ∈ X, x ∈ Y) : zL T Y σ s σ' s' :=
  ⟨fun b o hf hb e => a.keep b o hf (fun hx => hb (h b hx)) e, a.live, a.mono, a.new⟩
theorem zL.any {T Y σ s σ' s'} (a : zL T [] σ s σ' s') : zL T Y σ s σ' s' := a.weaken (by simp)
theorem zL.free {T X σ s σ' s'} (a : zL T X σ s σ' s') {b : Addr} {o : Obj} (hb : σ b = none) (e : s.heap.get? b = some o) : σ' b = none :=
  yV fun o1 h1 => qF (a.new b hb (zao h1)) e

noncomputable abbrev zP := List (Option V)
noncomputable def jW : zP → Nat → Option V
  | [], _ => none
  | o :: _, 0 => o
  | _ :: r, i + 1 => jW r i
noncomputable def ym : zP → Nat → V → zP
  | [], _, _ => []
  | _ :: r, 0, v => some v :: r
  | o :: r, i + 1, v => o :: ym r i v
theorem zdI (ρ : zP) (i j : Nat) (v u : V) : jW (ym ρ i v) j = some u → (j = i ∧ u = v) ∨ (j ≠ i ∧ jW ρ j = some u) := by
  induction ρ generalizing i j with
  | nil => exact fun h => qF rfl h
  | cons o r ih =>
    cases i with
    | zero => exact Nat.casesOn j (fun h => .inl ⟨rfl, (Option.some.inj h).symm⟩) fun j h => .inr ⟨Nat.succ_ne_zero j, h⟩
    | succ i => exact Nat.casesOn j (fun h => .inr ⟨Nat.noConfusion, h⟩) fun j h => (ih i j h).imp (fun h => ⟨congrArg Nat.succ h.1, h.2⟩) fun h => ⟨fun e => h.1 (Nat.succ.inj e), h.2⟩

noncomputable def own (env : Env) : List Addr := env.locals :: env.cells.map (·.2)

structure q8 (sc : Scope) (env : Env) : Prop where
  scope : env.scope = sc
  kind : sc.kind = .function
  globals : env.globals = mainGlobals
  builtins : env.builtins = builtinsNs

theorem q8.kindOf {sc env} (h : q8 sc env) (x : Str) : env.kindOf x = sc.names.lookup x := by unfold Env.kindOf; rw [h.scope]

inductive FrNs (env : Env) (ctx : List Str) (ρ : zP) (h : Heap) : Prop | mk (m) (h1 : h.Ns env.locals m) (h2 : ∀ i x v, ctx[i]? = some x → env.kindOf x = some .local → jW ρ i = some v → ∃ u, m x = some u ∧ VIs v u) : FrNs env ctx ρ h
inductive FrCell (env : Env) (ρ : zP) (h : Heap) (i : Nat) (x : Str) : Prop | mk (c o) (h1 : env.cells.lookup x = some c) (h2 : h.IsCell c o) (h3 : ∀ v, jW ρ i = some v → ∃ u, o = some u ∧ VIs v u) : FrCell env ρ h i x
structure qt (T : TC) (env : Env) (ctx : List Str) (ρ : zP) (σ : zb) (h : Heap) : Prop where
  nd : ctx.Nodup
  ns : FrNs env ctx ρ h
  cell : ∀ i x, ctx[i]? = some x → (env.kindOf x = some .cell ∨ env.kindOf x = some .free) → FrCell env ρ h i x
  loneM : ∀ x y c, (x, c) ∈ env.cells → (y, c) ∈ env.cells → x = y
  apartM : ∀ x c, (x, c) ∈ env.cells → c ≠ env.locals
  lfree : σ env.locals = none
  cfreeM : ∀ x c, (x, c) ∈ env.cells → σ c = none ∧ (∃ o, h.IsCell c o)
  lbase : T.hb.get? env.locals = none
  cbaseM : ∀ x c, (x, c) ∈ env.cells → T.hb.get? c = none

theorem qt.lone {T env ctx ρ σ h} (F : qt T env ctx ρ σ h) (x y c) (hx : env.cells.lookup x = some c) (hy : env.cells.lookup y = some c) : x = y := F.loneM x y c (mem_of_lookup hx) (mem_of_lookup hy)
theorem qt.apart {T env ctx ρ σ h} (F : qt T env ctx ρ σ h) (x c) (hx : env.cells.lookup x = some c) : c ≠ env.locals := F.apartM x c (mem_of_lookup hx)
theorem qt.cfree {T env ctx ρ σ h} (F : qt T env ctx ρ σ h) (x c) (hx : env.cells.lookup x = some c) : σ c = none ∧ (∃ o, h.IsCell c o) := F.cfreeM x c (mem_of_lookup hx)
theorem qt.cbase {T env ctx ρ σ h} (F : qt T env ctx ρ σ h) (x c) (hx : env.cells.lookup x = some c) : T.hb.get? c = none := F.cbaseM x c (mem_of_lookup hx)

theorem nsTo_ {h h' : Heap} {a : Addr} {m} (k : ∀ o, h.get? a = some o → ∃ o', h'.get? a = some o' ∧ o'.data = o.data) (n : h.Ns a m) : h'.Ns a m :=
  let ⟨o, es, ep, ho, hd, r⟩ := n; let ⟨o', e', d'⟩ := k o ho; ⟨o', es, ep, e', d'.trans hd, r⟩
theorem nsIn_ {h : Heap} {a : Addr} {m} (n : h.Ns a m) : ∃ o, h.get? a = some o := let ⟨o, _, _, ho, _⟩ := n; ⟨o, ho⟩
theorem cellTo_ {h h' : Heap} {a : Addr} {v} (k : ∀ o, h.get? a = some o → ∃ o', h'.get? a = some o' ∧ o'.data = o.data) (n : h.IsCell a v) : h'.IsCell a v :=
  let ⟨o, ho, hd⟩ := n; let ⟨o', e', d'⟩ := k o ho; ⟨o', e', d'.trans hd⟩
theorem cellIn_ {h : Heap} {a : Addr} {v} (n : h.IsCell a v) : ∃ o, h.get? a = some o := let ⟨o, ho, _⟩ := n; ⟨o, ho⟩
theorem qt.step {T env ctx ρ σ σ' s s'} (F : qt T env ctx ρ σ s.heap) (a : zL T [] σ s σ' s') : qt T env ctx ρ σ' s'.heap :=
  have kp : ∀ b, σ b = none → ∀ o, s.heap.get? b = some o → ∃ o', s'.heap.get? b = some o' ∧ o'.data = o.data := fun b hb o e => a.keepD (.inl hb) List.not_mem_nil e
  { F with
    ns := let ⟨m, h1, h2⟩ := F.ns; ⟨m, nsTo_ (kp _ F.lfree) h1, h2⟩
    cell := fun i x hi hk => let ⟨c, o, h1, h2, h3⟩ := F.cell i x hi hk; ⟨c, o, h1, cellTo_ (kp c (F.cfree x c h1).1) h2, h3⟩
    lfree := let ⟨m, h1, _⟩ := F.ns; (nsIn_ h1).elim fun o ho => a.free F.lfree ho
    cfreeM := fun x c hx => ⟨(F.cfreeM x c hx).2.elim fun o h => (cellIn_ h).elim fun _ e => a.free (F.cfreeM x c hx).1 e, (F.cfreeM x c hx).2.imp fun o h => cellTo_ (kp c (F.cfreeM x c hx).1) h⟩ }

noncomputable abbrev EW := zP → zb → (V → zb → Prop) → (Nat → zb → Prop) → Prop
inductive Out where
  | next
  | ret (v : V)
noncomputable abbrev SW := zP → zb → (Out → zP → zb → Prop) → (Nat → zb → Prop) → Prop

inductive ExTb (T : TC) (a : Addr) (vs : Array Value) (s s' : Shared) (σ' : zb) : Prop | mk (tb oT ts) (k1 : vs[1]? = some (.ref tb)) (k2 : tb ≠ a) (k3 : s.heap.get? tb = none ∧ T.hb.get? tb = none ∧ σ' tb = none) (k4 : s'.heap.get? tb = some oT) (k5 : oT.data = .fields ts) (k6 : ts[3]? = some .none) : ExTb T a vs s s' σ'
inductive ExcIs (T : TC) (x : Nat) (e : Value) (s s' : Shared) (σ' : zb) : Prop
  | mk (a C : Addr) (oe : Obj) (vs) (h1 : e = .ref a) (h2 : T.mg (qq x) = some (.ref C)) (h3 : s.heap.get? a = none ∧ T.hb.get? a = none ∧ σ' a = none) (h4 : s'.heap.get? a = some oe) (h5 : oe.cls = .ref C) (h6 : oe.data = .fields vs)
    (h7 : vs[1]? = some .none ∨ ExTb T a vs s s' σ') : ExcIs T x e s s' σ'

inductive zgQ (T : TC) (σ : zb) (s : Shared) (Q : V → zb → Prop) (v : Value) (s' : Shared) : Prop
  | mk (v' σ') (h1 : VIs v' v) (h2 : St T σ' s') (h3 : zL T [] σ s σ' s') (h4 : Q v' σ') : zgQ T σ s Q v s'
inductive jj (T : TC) (X : List Addr) (σ : zb) (s : Shared) (P : Nat → zb → Prop) (e : Value) (s' : Shared) : Prop
  | mk (x σ') (h1 : St T σ' s') (h2 : zL T X σ s σ' s') (h3 : ExcIs T x e s s' σ') (h4 : P x σ') : jj T X σ s P e s'
inductive FlowIs : Out → Flow → Prop
  | next : FlowIs .next .next
  | ret {v u} : VIs v u → FlowIs (.ret v) (.ret u)
inductive wJ (T : TC) (env : Env) (ctx : List Str) (σ : zb) (s : Shared) (K : Out → zP → zb → Prop) (f : Flow) (s' : Shared) : Prop
  | mk (o ρ' σ') (h1 : FlowIs o f) (h2 : St T σ' s') (h3 : qt T env ctx ρ' σ' s'.heap) (h4 : zL T (own env) σ s σ' s') (h5 : K o ρ' σ') : wJ T env ctx σ s K f s'

structure zah (T : TC) (A : Around) (d : Nat) : Prop where
  handled : T.calm = true → A.handled = none
  frames : A.frames = some T.fr
  depth : A.depth + d < recursionLimit
  units : A.units + 4 * d + 100 < cLine

noncomputable def zB (T : TC) (d : Nat) (sc : Scope) (ctx : List Str) (pe : Expr) (w : EW) : Prop :=
  ∀ A env ρ σ s Q P, q8 sc env → zah T A d → St T σ s → qt T env ctx ρ σ s.heap → w ρ σ Q P →
    wpAny T.M A (eval pe env) (zgQ T σ s Q) (jj T [] σ s P) s
noncomputable def jm (T : TC) (d : Nat) (sc : Scope) (ctx : List Str) (ps : List Stmt) (w : SW) : Prop :=
  ∀ A env ρ σ s K P, q8 sc env → zah T A d → St T σ s → qt T env ctx ρ σ s.heap → w ρ σ K P →
    wpAny T.M A (execs ps env) (wJ T env ctx σ s K) (jj T (own env) σ s P) s

theorem zgQ.step {T σ s σ₁ s₁ Q v s'} (a : zL T [] σ s σ₁ s₁) (h : zgQ T σ₁ s₁ Q v s') : zgQ T σ s Q v s' :=
  let ⟨v', σ', h1, h2, h3, h4⟩ := h; ⟨v', σ', h1, h2, a.trans h3, h4⟩
theorem ExcIs.back {T x e s s₁ s' σ'} (hd : ∀ b, s₁.heap.get? b = none → s.heap.get? b = none) (h : ExcIs T x e s₁ s' σ') : ExcIs T x e s s' σ' :=
  let ⟨a, C, oe, vs, h1, h2, h3, h6, h7, h8, h9⟩ := h
  ⟨a, C, oe, vs, h1, h2, ⟨hd _ h3.1, h3.2⟩, h6, h7, h8, h9.imp_right fun ⟨tb, oT, ts, k1, k2, k3, k4, k5, k6⟩ => ⟨tb, oT, ts, k1, k2, ⟨hd _ k3.1, k3.2⟩, k4, k5, k6⟩⟩
theorem jj.step {T X σ s σ₁ s₁ P v s'} (a : zL T X σ s σ₁ s₁) (h : jj T X σ₁ s₁ P v s') : jj T X σ s P v s' :=
  let ⟨v', σ', h2, h3, h4, h5⟩ := h; ⟨v', σ', h2, a.trans h3, h4.back (fun _ => a.dead), h5⟩
theorem jj.any {T X σ s P v s'} (h : jj T [] σ s P v s') : jj T X σ s P v s' :=
  let ⟨v', σ', h2, h3, h4, h5⟩ := h; ⟨v', σ', h2, h3.any, h4, h5⟩

theorem zB.run {T d sc ctx pe w} (h : zB T d sc ctx pe w) {A env ρ σ s Q P} (eo : q8 sc env) (ro : zah T A d) (st : St T σ s) (fr : qt T env ctx ρ σ s.heap) (hw : w ρ σ Q P) {Q'}
    (k : ∀ v' v σ' s', VIs v' v → St T σ' s' → zL T [] σ s σ' s' → qt T env ctx ρ σ' s'.heap → Q v' σ' → Q' v s') :
    wpAny T.M A (eval pe env) Q' (jj T [] σ s P) s :=
  wpAny_mono (h A env ρ σ s Q P eo ro st fr hw) (fun _ _ ⟨v', σ', h1, h2, h3, h4⟩ => k v' _ σ' _ h1 h2 h3 (fr.step h3) h4) fun _ _ x => x

theorem zB.then {T d sc ctx pe w} (h : zB T d sc ctx pe w) {A env ρ σ₀ s₀ σ s Q P} (eo : q8 sc env) (ro : zah T A d) (a : zL T [] σ₀ s₀ σ s) (st : St T σ s) (fr : qt T env ctx ρ σ s.heap) (hw : w ρ σ Q P) {Q'}
    (k : ∀ v' v σ' s', VIs v' v → St T σ' s' → zL T [] σ₀ s₀ σ' s' → qt T env ctx ρ σ' s'.heap → Q v' σ' → Q' v s') :
    wpAny T.M A (eval pe env) Q' (jj T [] σ₀ s₀ P) s :=
  wpAny_mono (h.run eo ro st fr hw (Q' := Q') fun v' v σ' s' h1 h2 h3 h4 h5 => k v' v σ' s' h1 h2 (a.trans h3) h4 h5) (fun _ _ x => x) fun _ _ x => x.step a

theorem St.tok {T σ s} (st : St T σ s) (n : Nat) : St T σ { s with toks := n } :=
  let ⟨h, _, e⟩ := st.rest; ⟨⟨h, n, by rw [e]⟩, st.base, st.objs, st.fresh, st.sysm, st.ro, st.frames⟩
theorem zL.tok {T X σ s₀ σ₀ s} (a : zL T X σ₀ s₀ σ s) (n : Nat) : zL T X σ₀ s₀ σ { s with toks := n } := ⟨a.keep, a.live, a.mono, a.new⟩

theorem St.push {T σ s} (st : St T σ s) (o : Obj) (tk : Nat) : St T σ { s with heap := s.heap.push o, toks := tk } :=
  let ⟨h, _, e⟩ := st.rest
  ⟨⟨h.push o, tk, by rw [e]⟩, fun b ob hb => Heap.get?_push_of_some _ (st.base b ob hb),
    fun a so ha => let ⟨ob, h1, h2⟩ := st.objs a so ha; ⟨ob, Heap.get?_push_of_some _ h1, h2⟩, st.fresh, st.sysm, st.ro, st.framesOf (fun _ _ h => h) fun _ _ h => h.keeps fun _ _ e => Heap.get?_push_of_some _ e⟩
theorem zL.push {T X σ₀ s₀ σ s} (a : zL T X σ₀ s₀ σ s) (o : Obj) (tk : Nat) : zL T X σ₀ s₀ σ { s with heap := s.heap.push o, toks := tk } :=
  ⟨fun b ob hf hb e => let ⟨o', h, r⟩ := a.keep b ob hf hb e; ⟨o', Heap.get?_push_of_some _ h, r⟩, fun b ob e => let ⟨o', h⟩ := a.live b ob e; ⟨o', Heap.get?_push_of_some _ h⟩, a.mono, a.new⟩
theorem St.lt {T σ s} (st : St T σ s) {a so} (h : σ a = some so) : a < s.heap.objs.size := let ⟨_, e, _⟩ := st.objs a so h; Heap.lt_size e
theorem St.sizeFree {T σ s} (st : St T σ s) : σ s.heap.objs.size = none :=
  yV fun so h => absurd (st.lt h) (Nat.lt_irrefl _)
theorem St.big {T σ s} (st : St T σ s) : (s.heap.objs.size == sysModules) = false := by
  obtain ⟨o, ho⟩ := T.gl
  have h : mainGlobals < s.heap.objs.size := Heap.lt_size (st.base _ _ ho)
  refine beq_eq_false_iff_ne.mpr fun e => ?_
  rw [e] at h
  exact absurd h (by decide)
theorem get?_size (h : Heap) : h.get? h.objs.size = none :=
  yV fun o e => absurd (Heap.lt_size e) (Nat.lt_irrefl _)
theorem St.roPut {T σ s} (st : St T σ s) (c : Addr) (so : O) (hc : σ c = none) : ∃ xs, put σ c so T.scr = some (.ro xs) := by
  exact st.ro.imp fun xs h => (zS _ fun e => qF hc (e ▸ h)).trans h
theorem St.notScr {T σ s} (st : St T σ s) {a so} (h : σ a = some so) (hs : ∀ xs, so ≠ .ro xs) : a ≠ T.scr := by
  rintro rfl
  obtain ⟨xs, e⟩ := st.ro
  exact hs xs (zfE h e)
theorem St.alloc {T σ s} (st : St T σ s) {o : Obj} {so : O} (ho : OIs T so o) (tk : Nat) (hf : o.isFreed = false) : St T (put σ s.heap.objs.size so) { s with heap := s.heap.push o, toks := tk } := by
  have st' := st.push o tk
  refine ⟨st'.rest, st'.base, fun a so' ha => ?_, fun a ha hn => ?_, fun a ha hn => ?_, st.roPut _ _ st.sizeFree, st'.framesOf (frPut (st.notFr (get?_size _))) fun _ _ h => h⟩
  · by_cases h : a = s.heap.objs.size
    · subst h; exact ⟨o, Heap.get?_push_size _ hf, Option.some.inj ((zy _ _ _).symm.trans ha) ▸ ho⟩
    · exact st'.objs a so' ((zS _ h).symm.trans ha)
  · by_cases h : a = s.heap.objs.size
    · subst h
      exact yV fun ob e => qF (get?_size _) (st.base _ _ e)
    · exact st.fresh a (zeg h ha) hn
  · by_cases h : a = s.heap.objs.size
    · subst h; exact st.big
    · exact st.sysm a (zeg h ha) hn
theorem zL.alloc {T X σ₀ s₀ σ s} (a : zL T X σ₀ s₀ σ s) (st : St T σ s) (o : Obj) (so : O) (tk : Nat) : zL T X σ₀ s₀ (put σ s.heap.objs.size so) { s with heap := s.heap.push o, toks := tk } := by
  have a' := a.push o tk
  refine ⟨a'.keep, a'.live, fun b hb => ?_, fun b hb hb' => ?_⟩
  · by_cases h : b = s.heap.objs.size
    · subst h; exact zao (zy _ _ _)
    · exact put_s' h (a.mono b hb)
  · by_cases h : b = s.heap.objs.size
    · subst h
      exact yV fun ob e => let ⟨o', h'⟩ := a.live _ _ e; qF (get?_size _) h'
    · exact a.new b hb (zeg h hb')
theorem St.grow {T σ s} (st : St T σ s) {h' : Heap} (hk : ∀ b o, s.heap.get? b = some o → h'.get? b = some o) (tk : Nat) : St T σ { s with heap := h', toks := tk } :=
  let ⟨h, _, e⟩ := st.rest
  ⟨⟨h', tk, by rw [e]⟩, fun b ob hb => hk b ob (st.base b ob hb), fun a so ha => let ⟨ob, h1, h2⟩ := st.objs a so ha; ⟨ob, hk _ _ h1, h2⟩, st.fresh, st.sysm, st.ro, st.framesOf (fun _ _ h => h) fun _ _ h => h.keeps hk⟩
theorem zL.grow {T X σ₀ s₀ σ s} (a : zL T X σ₀ s₀ σ s) {h' : Heap} (hk : ∀ b o, s.heap.get? b = some o → h'.get? b = some o) (tk : Nat) : zL T X σ₀ s₀ σ { s with heap := h', toks := tk } :=
  ⟨fun b ob hf hb e => let ⟨o', h, r⟩ := a.keep b ob hf hb e; ⟨o', hk _ _ h, r⟩, fun b ob e => let ⟨o', h⟩ := a.live b ob e; ⟨o', hk _ _ h⟩, a.mono, a.new⟩
theorem St.lay {T σ s} (st : St T σ s) {h' : Heap} (hk : ∀ b o, s.heap.get? b = some o → h'.get? b = some o) {o : Obj} {so : O} (hn : h'.get? s.heap.objs.size = some o) (ho : OIs T so o) (tk : Nat) :
    St T (put σ s.heap.objs.size so) { s with heap := h', toks := tk } := by
  have st' := st.grow hk tk
  refine ⟨st'.rest, st'.base, fun a so' ha => ?_, fun a ha hne => ?_, fun a ha hne => ?_, st.roPut _ _ st.sizeFree, st'.framesOf (frPut (st.notFr (get?_size _))) fun _ _ h => h⟩
  · by_cases h : a = s.heap.objs.size
    · subst h; exact ⟨o, hn, Option.some.inj ((zy _ _ _).symm.trans ha) ▸ ho⟩
    · exact st'.objs a so' ((zS _ h).symm.trans ha)
  · by_cases h : a = s.heap.objs.size
    · subst h
      exact yV fun ob e => qF (get?_size _) (st.base _ _ e)
    · exact st.fresh a (zeg h ha) hne
  · by_cases h : a = s.heap.objs.size
    · subst h; exact st.big
    · exact st.sysm a (zeg h ha) hne
theorem zL.lay {T X σ₀ s₀ σ s} (a : zL T X σ₀ s₀ σ s) {h' : Heap} (hk : ∀ b o, s.heap.get? b = some o → h'.get? b = some o) (so : O) (tk : Nat) :
    zL T X σ₀ s₀ (put σ s.heap.objs.size so) { s with heap := h', toks := tk } := by
  have a' := a.grow hk tk
  refine ⟨a'.keep, a'.live, fun b hb => ?_, fun b hb hb' => ?_⟩
  · by_cases h : b = s.heap.objs.size
    · subst h; exact zao (zy _ _ _)
    · exact put_s' h (a.mono b hb)
  · by_cases h : b = s.heap.objs.size
    · subst h
      exact yV fun ob e => let ⟨o', h'⟩ := a.live _ _ e; qF (get?_size _) h'
    · exact a.new b hb (zeg h hb')
theorem St.noneFree {T σ s} (st : St T σ s) {c : Addr} (h : s.heap.get? c = none) : σ c = none :=
  yV fun so e => let ⟨o, h1, _⟩ := st.objs c so e; qF h h1
theorem St.turn {T σ s} (st : St T σ s) {a : Addr} {so so' : O} (ha : σ a = some so) (hn : a ≠ T.scr) {h' : Heap} (hs : Heap.SameBut a s.heap h') {o' : Obj} (ho' : h'.get? a = some o') (hi : OIs T so' o') (tk : Nat) :
    St T (put σ a so') { s with heap := h', toks := tk } := by
  obtain ⟨h, t, e⟩ := st.rest
  refine ⟨⟨h', tk, by rw [e]⟩, fun b o hb => ?_, fun b sb hb => ?_, fun b hb hne => ?_, fun b hb hne => ?_, st.ro.imp fun xs h => (zS _ (Ne.symm hn)).trans h, st.framesOf (frPut (st.notFrσ ha)) fun L hL h => h.imp' (hs.2 L (frNe (st.notFrσ ha) hL))⟩
  · have hne : b ≠ a := fun q => by subst q; exact qF (st.fresh b (zao ha) hn) hb
    exact (hs.2 b hne).trans (st.base b o hb)
  · by_cases h : b = a
    · subst h; exact ⟨o', ho', Option.some.inj ((zy _ _ _).symm.trans hb) ▸ hi⟩
    · obtain ⟨o, h1, h2⟩ := st.objs b sb ((zS _ h).symm.trans hb); exact ⟨o, (hs.2 b h).trans h1, h2⟩
  · by_cases h : b = a
    · subst h; exact st.fresh b (zao ha) hne
    · exact st.fresh b (zeg h hb) hne
  · by_cases h : b = a
    · subst h; exact st.sysm b (zao ha) hne
    · exact st.sysm b (zeg h hb) hne
theorem zL.turn {T X σ₀ s₀ σ s} (a : zL T X σ₀ s₀ σ s) {b : Addr} {so so' : O} (hb : σ b = some so) (hn : b ≠ T.scr) {h' : Heap} (hs : Heap.SameBut b s.heap h') {o' : Obj} (ho' : h'.get? b = some o') (tk : Nat) :
    zL T X σ₀ s₀ (put σ b so') { s with heap := h', toks := tk } := by
  refine ⟨fun c o hf hc e => ?_, fun c o e => ?_, fun c hc => ?_, fun c hc hc' => ?_⟩
  · obtain ⟨o1, h1, r1⟩ := a.keep c o hf hc e
    have hne : c ≠ b := by
      rintro rfl
      rcases hf with hf | hf
      · exact qF (a.new c hf (zao hb)) e
      · exact hn hf
    exact ⟨o1, (hs.2 c hne).trans h1, r1⟩
  · obtain ⟨o1, h1⟩ := a.live c o e
    by_cases h : c = b
    · subst h; exact ⟨o', ho'⟩
    · exact ⟨o1, (hs.2 c h).trans h1⟩
  · by_cases h : c = b
    · subst h; exact zao (zy _ _ _)
    · exact put_s' h (a.mono c hc)
  · by_cases h : c = b
    · subst h; exact a.new c hc (zao hb)
    · exact a.new c hc (zeg h hc')

end Mine
end
section
open PySem
namespace Mine

noncomputable def V.asInt (v : V) (k : Int → Prop) : Prop := match v with | .int i => k i | _ => False
noncomputable def V.asBool (v : V) (k : Bool → Prop) : Prop := match v with | .bool b => k b | _ => False
noncomputable def V.asRef (v : V) (k : Addr → Prop) : Prop := match v with | .ref a => k a | _ => False
@[simp] theorem zd (i : Int) (k) : (V.int i).asInt k = k i := rfl
@[simp] theorem zm (b : Bool) (k) : (V.bool b).asBool k = k b := rfl
@[simp] theorem ze (a : Addr) (k) : (V.ref a).asRef k = k a := rfl
inductive GI (k : Int → Prop) : V → Value → Prop | mk (i t) (h : k i) : GI k (.int i) (.int i t)
inductive GB (k : Bool → Prop) : V → Value → Prop | mk (b) (h : k b) : GB k (.bool b) (.bool b)
inductive GR (k : Addr → Prop) : V → Value → Prop | mk (a) (h : k a) : GR k (.ref a) (.ref a)
theorem V.asInt.get {v : V} {k : Int → Prop} {u : Value} (h : v.asInt k) (hv : VIs v u) : GI k v u := by
  cases hv <;> first | exact ⟨_, _, h⟩ | exact h.elim
theorem V.asBool.get {v : V} {k : Bool → Prop} {u : Value} (h : v.asBool k) (hv : VIs v u) : GB k v u := by
  cases hv <;> first | exact ⟨_, h⟩ | exact h.elim
theorem V.asRef.get {v : V} {k : Addr → Prop} {u : Value} (h : v.asRef k) (hv : VIs v u) : GR k v u := by
  cases hv <;> first | exact ⟨_, h⟩ | exact h.elim

noncomputable def val (v : V) : EW := fun _ σ Q _ => Q v σ
noncomputable def loc (i : Nat) : EW := fun ρ σ Q _ => match jW ρ i with | some v => Q v σ | none => False

section
variable {T : TC} {d : Nat} {sc : Scope} {ctx : List Str}

theorem zhb {k pos} : zB T d sc ctx (.Constant .none k pos) (val .none) :=
  fun _ _ _ _ _ _ _ _ _ st _ hw => wpAny_Constant_none ⟨_, _, .none, st, .refl, hw⟩
theorem z9 {b k pos} : zB T d sc ctx (.Constant (.bool b) k pos) (val (.bool b)) :=
  fun _ _ _ _ _ _ _ _ _ st _ hw => wpAny_Constant_bool ⟨_, _, .bool b, st, .refl, hw⟩
theorem zl {i k pos} : zB T d sc ctx (.Constant (.int i) k pos) (val (.int i)) :=
  fun _ _ _ _ _ _ _ _ _ st _ hw => wpAny_Constant_int ⟨_, _, .int i _, st.tok _, .tok .refl _, hw⟩
theorem simStr {x k pos} : zB T d sc ctx (.Constant (.str x) k pos) (val (.str x)) :=
  fun _ _ _ _ _ _ _ _ _ st _ hw => wpAny_Constant_str ⟨_, _, .str x _, st.tok _, .tok .refl _, hw⟩

noncomputable def zgm : Option NameKind → Bool
  | some .local | some .cell | some .free => true
  | _ => false
noncomputable def locOK (sc : Scope) (ctx : List Str) (i : Nat) (x : Str) : Bool := (ctx[i]? == some x) && (zgm (sc.names.lookup x) && (!(x == ("__debug__" : Str)) && !(x == ("__classdict__" : Str))))
theorem za {x pos} (i : Nat) (h : locOK sc ctx i x = true := by decide +kernel) :
    zB T d sc ctx (.Name x pos) (loc i) := by
  unfold locOK at h
  rw [Bool.and_eq_true, Bool.and_eq_true, Bool.and_eq_true, beq_iff_eq, Bool.not_eq_true', Bool.not_eq_true'] at h
  obtain ⟨hx, hk, hd, hc⟩ := h
  intro A env ρ σ s Q P eo ro st fr hw
  unfold loc at hw
  cases hv : jW ρ i with
  | none => rw [hv] at hw; exact hw.elim
  | some v =>
    rw [hv] at hw
    have hkf : env.scope.kind = .function := by rw [eo.scope]; exact eo.kind
    refine wpAny_Name ?_ hd
    rw [← eo.kindOf] at hk
    cases hq : env.kindOf x with
    | none => rw [hq] at hk; cases hk
    | some kd =>
      rw [hq] at hk
      cases kd <;> first | (cases hk; done) | skip
      · obtain ⟨m, hn, h2⟩ := fr.ns
        obtain ⟨u, h3, h4⟩ := h2 i x v hx hq hv
        exact wpAny_loadName_local hkf hq hn h3 ⟨_, _, h4, st, .refl, hw⟩
      · obtain ⟨c, o, h1, h2, h3⟩ := fr.cell i x hx (.inl hq)
        obtain ⟨u, rfl, h4⟩ := h3 v hv
        exact wpAny_loadName_cell hkf hq h1 h2 ⟨_, _, h4, st, .refl, hw⟩
      · obtain ⟨c, o, h1, h2, h3⟩ := fr.cell i x hx (.inr hq)
        obtain ⟨u, rfl, h4⟩ := h3 v hv
        exact wpAny_loadName_free hkf hq h1 h2 ⟨_, _, h4, st, .refl, hw⟩ hc

noncomputable def opI (f : Int → Int → Int) (ok : Int → Int → Prop) (a b : EW) : EW := fun ρ σ Q P =>
  a ρ σ (fun va σ₁ => b ρ σ₁ (fun vb σ₂ => va.asInt fun x => vb.asInt fun y => ok x y ∧ Q (.int (f x y)) σ₂) P) P
noncomputable def jQ : EW → EW → EW := opI (· + ·) fun _ _ => True
noncomputable def zcB : EW → EW → EW := opI (· - ·) fun _ _ => True
noncomputable def zcC : EW → EW → EW := opI (· * ·) IntMulOk
noncomputable def zcb : EW → EW → EW := opI Int.fdiv fun x y => y ≠ 0 ∧ Builtin.divisionGoesByPylong x y = false
noncomputable def yJ : EW → EW → EW := opI Int.fmod fun _ y => y ≠ 0
noncomputable def PowOk (a b : Int) : Prop := b > 0 ∧ a > 1 ∧ ¬Builtin.Int.intTooBig (((Builtin.Int.intBits a : Nat) : Int) * b) = true
noncomputable def powI : EW → EW → EW := opI (fun x y => x ^ y.toNat) PowOk

theorem zdj {f ok op l r pos} {a b : EW} (hl : zB T d sc ctx l a) (hr : zB T d sc ctx r b)
    (h : ∀ A E s x y t u Q, ok x y → (∀ t, Q (.int (f x y) t) { s with toks := s.toks + 1 }) → wpAny T.M A (binaryOp op (.int x t) (.int y u)) Q E s) :
    zB T d sc ctx (.BinOp l op r pos) (opI f ok a b) := by
  intro A env ρ σ s Q P eo ro st fr hw
  refine wpAny_BinOp (hl.run eo ro st fr hw ?_)
  intro va ua σ₁ s₁ v1 st1 p1 fr1 hw1
  refine hr.then eo ro p1 st1 fr1 hw1 ?_
  intro vb ub σ₂ s₂ v2 st2 p2 fr2 hw2
  obtain ⟨x, t, hw3⟩ := hw2.get v1
  obtain ⟨y, u, hw4⟩ := hw3.get v2
  exact h A _ s₂ x y t u _ hw4.1 fun t => ⟨_, _, .int _ _, st2.tok _, p2.tok _, hw4.2⟩

theorem zJ {l r pos} {a b : EW} (hl : zB T d sc ctx l a) (hr : zB T d sc ctx r b) : zB T d sc ctx (.BinOp l .Add r pos) (jQ a b) :=
  zdj hl hr fun _ _ _ _ _ _ _ _ _ h => P.add_int (h _)
theorem j3 {l r pos} {a b : EW} (hl : zB T d sc ctx l a) (hr : zB T d sc ctx r b) : zB T d sc ctx (.BinOp l .Sub r pos) (zcB a b) :=
  zdj hl hr fun _ _ _ _ _ _ _ _ _ h => P.sub_int (h _)
theorem jO {l r pos} {a b : EW} (hl : zB T d sc ctx l a) (hr : zB T d sc ctx r b) : zB T d sc ctx (.BinOp l .Mult r pos) (zcC a b) :=
  zdj hl hr fun _ _ _ _ _ _ _ _ ok h => P.mul_int (h _) ok
theorem jl {l r pos} {a b : EW} (hl : zB T d sc ctx l a) (hr : zB T d sc ctx r b) : zB T d sc ctx (.BinOp l .FloorDiv r pos) (zcb a b) :=
  zdj hl hr fun _ _ _ _ _ _ _ _ ok h => AutoIntOps.floordiv_1 (by simpa using ok.1) (by simp [ok.2]) (h _)
theorem zX {l r pos} {a b : EW} (hl : zB T d sc ctx l a) (hr : zB T d sc ctx r b) : zB T d sc ctx (.BinOp l .Mod r pos) (yJ a b) :=
  zdj hl hr fun _ _ _ _ _ _ _ _ ok h => AutoIntOps.mod_1 (by simpa using ok) (h _)
noncomputable def negI (a : EW) : EW := fun ρ σ Q P => a ρ σ (fun v σ₁ => v.asInt fun x => Q (.int (-x)) σ₁) P
theorem simNegI {l pos} {a : EW} (hl : zB T d sc ctx l a) : zB T d sc ctx (.UnaryOp .USub l pos) (negI a) := by
  intro A env ρ σ s Q P eo ro st fr hw
  refine wpAny_UnaryOp (hl.run eo ro st fr hw ?_)
  intro va ua σ₁ s₁ v1 st1 p1 fr1 hw1
  obtain ⟨x, t, hw3⟩ := hw1.get v1
  exact PySem.P.neg_int ⟨_, _, .int _ _, st1.tok _, p1.tok _, hw3⟩

inductive Cmp where | lt | le | gt | ge | eq | ne
noncomputable def Cmp.op : Cmp → CmpOp
  | .lt => .Lt | .le => .LtE | .gt => .Gt | .ge => .GtE | .eq => .Eq | .ne => .NotEq
noncomputable def Cmp.run : Cmp → Int → Int → Bool
  | .lt, a, b => decide (a < b) | .le, a, b => decide (a ≤ b) | .gt, a, b => decide (a > b) | .ge, a, b => decide (a ≥ b) | .eq, a, b => a == b | .ne, a, b => a != b
theorem zcc (c : Cmp) {A E s x y t u} {Q : Value → Shared → Prop} (h : Q (.bool (c.run x y)) s) : wpAny T.M A (compareOp c.op (.int x t) (.int y u)) Q E s := by
  cases c
  · exact P.lt_int h
  · exact P.le_int h
  · exact P.gt_int h
  · exact P.ge_int h
  · exact P.eq_int h
  · exact P.ne_int h
theorem zfJ {op : CmpOp} (h : (op == .In || op == .NotIn) = false) (r : Expr) : behindInMarks op r = false := by
  cases r with
  | Set elts k p => show (k == 0 && (op == .In || op == .NotIn) && elts.all (constantsAlone 8)) = false; rw [h, Bool.and_false, Bool.false_and]
  | _ => rfl
theorem zdF (c : Cmp) (r : Expr) : behindInMarks c.op r = false := zfJ (by cases c <;> rfl) r

noncomputable def jh (c : Cmp) (a b : EW) : EW := fun ρ σ Q P =>
  a ρ σ (fun va σ₁ => b ρ σ₁ (fun vb σ₂ => va.asInt fun x => vb.asInt fun y => Q (.bool (c.run x y)) σ₂) P) P
theorem wZ (c : Cmp) {l r pos op} {a b : EW} (ho : op = c.op) (hl : zB T d sc ctx l a) (hr : zB T d sc ctx r b) : zB T d sc ctx (.Compare l [op] [r] pos) (jh c a b) := by
  subst ho
  intro A env ρ σ s Q P eo ro st fr hw
  refine wpAny_Compare1 (hl.run eo ro st fr hw ?_) (zdF c r)
  intro va ua σ₁ s₁ v1 st1 p1 fr1 hw1
  refine hr.then eo ro p1 st1 fr1 hw1 ?_
  intro vb ub σ₂ s₂ v2 st2 p2 fr2 hw2
  obtain ⟨x, t, hw3⟩ := hw2.get v1
  obtain ⟨y, u, hw4⟩ := hw3.get v2
  exact zcc c ⟨_, _, .bool _, st2, p2, hw4⟩

noncomputable def PostB (T : TC) (σ : zb) (s : Shared) (Q : V → zb → Prop) (b : Bool) (s' : Shared) : Prop :=
  ∃ σ', St T σ' s' ∧ zL T [] σ s σ' s' ∧ Q (.bool b) σ'
noncomputable def zbN (T : TC) (d : Nat) (sc : Scope) (ctx : List Str) (pe : Expr) (w : EW) : Prop :=
  ∀ A env ρ σ s Q P, q8 sc env → zah T A d → St T σ s → qt T env ctx ρ σ s.heap → w ρ σ Q P →
    wpAny T.M A (isTrue pe env (eval pe env)) (PostB T σ s Q) (jj T [] σ s P) s
theorem zbN.then {pe w} (h : zbN T d sc ctx pe w) {A env ρ σ₀ s₀ σ s Q P} (eo : q8 sc env) (ro : zah T A d) (a : zL T [] σ₀ s₀ σ s) (st : St T σ s) (fr : qt T env ctx ρ σ s.heap) (hw : w ρ σ Q P) {Q'}
    (k : ∀ b σ' s', St T σ' s' → zL T [] σ₀ s₀ σ' s' → qt T env ctx ρ σ' s'.heap → Q (.bool b) σ' → Q' b s') :
    wpAny T.M A (isTrue pe env (eval pe env)) Q' (jj T [] σ₀ s₀ P) s :=
  wpAny_mono (h A env ρ σ s Q P eo ro st fr hw) (fun _ _ ⟨σ', h2, h3, h4⟩ => k _ σ' _ h2 (a.trans h3) (fr.step h3) h4) fun _ _ x => x.step a

noncomputable def tst (a : EW) : EW := fun ρ σ Q P => a ρ σ (fun v σ₁ => v.asBool fun b => Q (.bool b) σ₁) P
theorem zT {pe} {a : EW} (h : zB T d sc ctx pe a) (hp : ∀ env whole, isTrue pe env whole = (do let v ← whole; standAt pe.pos; holding [v] (truthy v)) := by intro _ _; rfl) : zbN T d sc ctx pe (tst a) := by
  intro A env ρ σ s Q P eo ro st fr hw
  refine wpAny_isTrue_value (h.run eo ro st fr hw ?_) (hp env _)
  intro va ua σ₁ s₁ v1 st1 p1 fr1 hw1
  obtain ⟨b, hw3⟩ := hw1.get v1
  exact wpAny_truthy_bool ⟨_, st1, p1, hw3⟩
theorem zz (c : Cmp) {l r pos op} {a b : EW} (ho : op = c.op) (hl : zB T d sc ctx l a) (hr : zB T d sc ctx r b) : zbN T d sc ctx (.Compare l [op] [r] pos) (jh c a b) := by
  subst ho
  intro A env ρ σ s Q P eo ro st fr hw
  refine wpAny_isTrue_Compare1 (hl.run eo ro st fr hw ?_) (zdF c r)
  intro va ua σ₁ s₁ v1 st1 p1 fr1 hw1
  refine hr.then eo ro p1 st1 fr1 hw1 ?_
  intro vb ub σ₂ s₂ v2 st2 p2 fr2 hw2
  obtain ⟨x, t, hw3⟩ := hw2.get v1
  obtain ⟨y, u, hw4⟩ := hw3.get v2
  exact zcc c (wpAny_truthy_bool ⟨_, st2, p2, hw4⟩)

noncomputable def zbj (a : EW) : EW := fun ρ σ Q P => a ρ σ (fun v σ₁ => v.asBool fun b => Q (.bool (!b)) σ₁) P
theorem qA {x pos} {a : EW} (h : zbN T d sc ctx x a) : zbN T d sc ctx (.UnaryOp .Not x pos) (zbj a) := by
  intro A env ρ σ s Q P eo ro st fr hw
  exact wpAny_isTrue_Not (h.then eo ro .refl st fr hw fun b σ₁ s₁ st1 p1 fr1 hw1 => ⟨σ₁, st1, p1, hw1⟩)
theorem simNot {x pos} {a : EW} (h : zB T d sc ctx x a) : zB T d sc ctx (.UnaryOp .Not x pos) (zbj a) := by
  intro A env ρ σ s Q P eo ro st fr hw
  refine wpAny_UnaryOp (h.run eo ro st fr hw ?_)
  intro va ua σ₁ s₁ v1 st1 p1 fr1 hw1
  obtain ⟨b, hw3⟩ := hw1.get v1
  exact not_value (wpAny_truthy_bool ⟨_, _, .bool _, st1, p1, hw3⟩)

noncomputable def zag (a b : EW) : EW := fun ρ σ Q P => a ρ σ (fun v σ₁ => v.asBool fun t => if t then b ρ σ₁ Q P else Q (.bool false) σ₁) P
noncomputable def orW (a b : EW) : EW := fun ρ σ Q P => a ρ σ (fun v σ₁ => v.asBool fun t => if t then Q (.bool true) σ₁ else b ρ σ₁ Q P) P

noncomputable def zcX (T : TC) (d : Nat) (sc : Scope) (ctx : List Str) (op : BoolOp) (ps : List Expr) (w : EW) : Prop :=
  ∀ A env ρ σ s Q P, q8 sc env → zah T A d → St T σ s → qt T env ctx ρ σ s.heap → w ρ σ Q P →
    wpAny T.M A (allTrue op ps env) (PostB T σ s Q) (jj T [] σ s P) s
theorem PostB.step {σ s σ₁ s₁ Q v s'} (a : zL T [] σ s σ₁ s₁) (h : PostB T σ₁ s₁ Q v s') : PostB T σ s Q v s' :=
  let ⟨σ', h2, h3, h4⟩ := h; ⟨σ', h2, a.trans h3, h4⟩
theorem qJ {x} {a : EW} (h : zbN T d sc ctx x a) : zcX T d sc ctx .And [x] a := by
  intro A env ρ σ s Q P eo ro st fr hw
  refine wpAny_allTrue_And_cons (h.then eo ro .refl st fr hw fun b σ₁ s₁ st1 p1 fr1 hw1 => ?_)
  cases b
  · exact ⟨σ₁, st1, p1, hw1⟩
  · exact wpAny_allTrue_And_nil ⟨σ₁, st1, p1, hw1⟩
theorem qN {x} {a : EW} (h : zbN T d sc ctx x a) : zcX T d sc ctx .Or [x] a := by
  intro A env ρ σ s Q P eo ro st fr hw
  refine wpAny_allTrue_Or_cons (h.then eo ro .refl st fr hw fun b σ₁ s₁ st1 p1 fr1 hw1 => ?_)
  cases b
  · exact wpAny_allTrue_Or_nil ⟨σ₁, st1, p1, hw1⟩
  · exact ⟨σ₁, st1, p1, hw1⟩
theorem qO {x y r} {a b : EW} (h : zbN T d sc ctx x a) (h' : zcX T d sc ctx .And (y :: r) b) : zcX T d sc ctx .And (x :: y :: r) (zag a b) := by
  intro A env ρ σ s Q P eo ro st fr hw
  refine wpAny_allTrue_And_cons (h.then eo ro .refl st fr hw fun t σ₁ s₁ st1 p1 fr1 hw1 => ?_)
  cases t
  · exact ⟨σ₁, st1, p1, hw1⟩
  · exact wpAny_mono (h' A env ρ σ₁ s₁ Q P eo ro st1 fr1 hw1) (fun _ _ x => x.step p1) fun _ _ x => x.step p1
theorem qX {x y r} {a b : EW} (h : zbN T d sc ctx x a) (h' : zcX T d sc ctx .Or (y :: r) b) : zcX T d sc ctx .Or (x :: y :: r) (orW a b) := by
  intro A env ρ σ s Q P eo ro st fr hw
  refine wpAny_allTrue_Or_cons (h.then eo ro .refl st fr hw fun t σ₁ s₁ st1 p1 fr1 hw1 => ?_)
  cases t
  · exact wpAny_mono (h' A env ρ σ₁ s₁ Q P eo ro st1 fr1 hw1) (fun _ _ x => x.step p1) fun _ _ x => x.step p1
  · exact ⟨σ₁, st1, p1, hw1⟩
theorem zG {op ps pos} {a : EW} (h : zcX T d sc ctx op ps a) : zbN T d sc ctx (.BoolOp op ps pos) a :=
  fun A env ρ σ s Q P eo ro st fr hw => wpAny_isTrue_BoolOp (h A env ρ σ s Q P eo ro st fr hw)

noncomputable def SimBo (T : TC) (d : Nat) (sc : Scope) (ctx : List Str) (op : BoolOp) (ps : List Expr) (w : EW) : Prop :=
  ∀ A env ρ σ s Q P pos, q8 sc env → zah T A d → St T σ s → qt T env ctx ρ σ s.heap → w ρ σ Q P →
    wpAny T.M A (boolOp pos op (evalEach ps env)) (zgQ T σ s Q) (jj T [] σ s P) s
theorem zav {op x} {a : EW} (h : zB T d sc ctx x a) : SimBo T d sc ctx op [x] a :=
  fun A env ρ σ s Q P pos eo ro st fr hw => h A env ρ σ s Q P eo ro st fr hw
theorem jq {x y r} {a b : EW} (h : zB T d sc ctx x a) (h' : SimBo T d sc ctx .And (y :: r) b) : SimBo T d sc ctx .And (x :: y :: r) (zag a b) := by
  intro A env ρ σ s Q P pos eo ro st fr hw
  show wpAny T.M A (do
    let v ← eval x env
    standAt pos
    let t ← holding [v] (truthy v)
    match BoolOp.And, t with
    | .And, false | .Or, true => pure v
    | _, _ => boolOp pos .And (evalEach (y :: r) env)) _ _ s
  refine wpAny_bind (h.run eo ro st fr hw fun v u σ₁ s₁ hv st1 p1 fr1 hw1 => ?_)
  obtain ⟨b, hw2⟩ := hw1.get hv
  refine wpAny_bind (wpAny_standAt (wpAny_bind (wpAny_holding (wpAny_truthy_bool ?_))))
  cases b
  · exact wpAny_pure ⟨_, _, .bool _, st1, p1, hw2⟩
  · exact wpAny_mono (h' A env ρ σ₁ s₁ Q P pos eo ro st1 fr1 hw2) (fun _ _ x => x.step p1) fun _ _ x => x.step p1
theorem yB {op ps pos} {a : EW} (h : SimBo T d sc ctx op ps a) : zB T d sc ctx (.BoolOp op ps pos) a :=
  fun A env ρ σ s Q P eo ro st fr hw => h A env ρ σ s Q P pos eo ro st fr hw

noncomputable def iteW (c a b : EW) : EW := fun ρ σ Q P => c ρ σ (fun v σ₁ => v.asBool fun t => if t then a ρ σ₁ Q P else b ρ σ₁ Q P) P
theorem simIf {c l r pos} {wc a b : EW} (hc : zbN T d sc ctx c wc) (hl : zB T d sc ctx l a) (hr : zB T d sc ctx r b) : zB T d sc ctx (.IfExp c l r pos) (iteW wc a b) := by
  intro A env ρ σ s Q P eo ro st fr hw
  refine wpAny_IfExp (hc.then eo ro .refl st fr hw fun t σ₁ s₁ st1 p1 fr1 hw1 => ?_)
  cases t
  · exact wpAny_mono (hr A env ρ σ₁ s₁ Q P eo ro st1 fr1 hw1) (fun _ _ x => x.step p1) fun _ _ x => x.step p1
  · exact wpAny_mono (hl A env ρ σ₁ s₁ Q P eo ro st1 fr1 hw1) (fun _ _ x => x.step p1) fun _ _ x => x.step p1
end
end Mine
end
section
open PySem
namespace Mine
open PySem.Calls PyProof.Rows

noncomputable def qz (σ : zb) (a : Addr) (k : List V → Prop) : Prop := match σ a with | some (.list xs) => k xs | _ => False
noncomputable def zfy (σ : zb) (a : Addr) (k : List V → Prop) : Prop := match σ a with | some (.tup xs) => k xs | _ => False
noncomputable def yj (σ : zb) (a : Addr) (k : List V → Prop) : Prop := match σ a with | some (.list xs) => k xs | some (.ro xs) => k xs | some (.tup xs) => k xs | _ => False
noncomputable def jU (σ : zb) (a : Addr) (k : List (Int × V) → Prop) : Prop := match σ a with | some (.dict xs) => k xs | _ => False
noncomputable def yI (o : O) (σ : zb) (Q : V → zb → Prop) : Prop := ∀ c, σ c = none → Q (.ref c) (put σ c o)
theorem qz.get {σ a k} (h : qz σ a k) : E2 (fun xs => σ a = some (.list xs)) k := by
  unfold qz at h; split at h
  · exact ⟨_, ‹_›, h⟩
  · exact h.elim
theorem zfy.get {σ a k} (h : zfy σ a k) : E2 (fun xs => σ a = some (.tup xs)) k := by
  unfold zfy at h; split at h
  · exact ⟨_, ‹_›, h⟩
  · exact h.elim
theorem yj.get {σ a k} (h : yj σ a k) : E2 (fun xs => (σ a = some (.list xs) ∨ σ a = some (.ro xs)) ∨ σ a = some (.tup xs)) k := by
  unfold yj at h; split at h
  · exact ⟨_, .inl (.inl ‹_›), h⟩
  · exact ⟨_, .inl (.inr ‹_›), h⟩
  · exact ⟨_, .inr ‹_›, h⟩
  · exact h.elim
theorem jU.get {σ a k} (h : jU σ a k) : E2 (fun xs => σ a = some (.dict xs)) k := by
  unfold jU at h; split at h
  · exact ⟨_, ‹_›, h⟩
  · exact h.elim

theorem y9 : lim ≤ sizeLine := by rw [sizeLine_eq]; unfold lim; exact Nat.le_of_ble_eq_true rfl

section
variable {T : TC} {σ : zb} {s : Shared}
theorem St.isL (st : St T σ s) {a xs} (h : σ a = some (.list xs)) : X2 fun us n => A4 (IsL s.heap a us n) (jL xs us.toList) (us.size = xs.length) (xs.length ≤ lim) := by
  obtain ⟨o, ho, hl, vs, n, rfl, hv⟩ := st.objs a _ h
  exact ⟨vs, n, ho, hv, by have := hv.length; simpa using this, hl⟩
theorem St.list (st : St T σ s) {a xs} (h : σ a = some (.list xs) ∨ σ a = some (.ro xs)) : E4 (fun us => s.heap.IsList a us) (fun us => jL xs us.toList) (fun us => us.size = xs.length) (fun _ => xs.length ≤ lim) := by
  rcases h with h | h
  · obtain ⟨o, ho, hl, vs, n, rfl, hv⟩ := st.objs a _ h
    exact ⟨vs, ⟨_, ho, rfl, n, rfl⟩, hv, by have := hv.length; simpa using this, hl⟩
  · obtain ⟨o, ho, hl, hc, vs, n, hd, hv⟩ := st.objs a _ h
    exact ⟨vs, ⟨_, ho, hc, n, hd⟩, hv, by have := hv.length; simpa using this, hl⟩
theorem St.tup (st : St T σ s) {a xs} (h : σ a = some (.tup xs)) : E4 (fun us => IsTup s.heap a us) (fun us => jL xs us.toList) (fun us => us.size = xs.length) (fun _ => xs.length ≤ lim) := by
  obtain ⟨o, ho, hl, vs, n, rfl, hv⟩ := st.objs a _ h
  exact ⟨vs, ⟨_, ho, rfl, n, rfl⟩, hv, by have := hv.length; simpa using this, hl⟩
theorem St.dict (st : St T σ s) {a kvs} (h : σ a = some (.dict kvs)) : E3 (fun us => s.heap.DictOf (intKind T.prog T.w) a us) (fun us => KVs kvs us) (fun _ => kvs.length ≤ lim) := by
  obtain ⟨o, ho, hl, us, hd, hv⟩ := st.objs a _ h
  exact ⟨us, Heap.dictOf_iff.mpr ⟨o, ho, hd⟩, hv, hl⟩
theorem KVs.length {kvs us} (h : KVs kvs us) : us.length = kvs.length := by
  induction h with
  | nil => rfl
  | cons _ _ ih => exact congrArg Nat.succ ih
end

noncomputable abbrev EWs := zP → zb → (List V → zb → Prop) → (Nat → zb → Prop) → Prop
noncomputable def zR : EWs := fun _ σ Q _ => Q [] σ
noncomputable def zh (a : EW) (r : EWs) : EWs := fun ρ σ Q P => a ρ σ (fun v σ₁ => r ρ σ₁ (fun vs σ₂ => Q (v :: vs) σ₂) P) P

structure zhR (T : TC) (d : Nat) (sc : Scope) (ctx : List Str) (pes : List Expr) (w : EWs) : Prop where
  plain : ∀ env pos, (backTo pos (starEach pes env)).any (·.1) = false
  run : ∀ A env ρ σ₀ s₀ σ s Q P pos Q', q8 sc env → zah T A d → zL T [] σ₀ s₀ σ s → St T σ s → qt T env ctx ρ σ s.heap → w ρ σ Q P →
    (∀ vs us σ' s', jL vs us → St T σ' s' → zL T [] σ₀ s₀ σ' s' → qt T env ctx ρ σ' s'.heap → Q vs σ' → Q' us s') →
    wpAny T.M A (spliced (backTo pos (starEach pes env))) Q' (jj T [] σ₀ s₀ P) s

section
variable {T : TC} {d : Nat} {sc : Scope} {ctx : List Str}
theorem zo : zhR T d sc ctx [] zR :=
  ⟨fun _ _ => rfl, fun A env ρ σ₀ s₀ σ s Q P pos Q' eo ro p0 st fr hw k => spliced_nil (k [] [] σ s .nil st p0 fr hw)⟩
theorem zc {e r} {a : EW} {ws : EWs} (h : zB T d sc ctx e a) (hr : zhR T d sc ctx r ws) (he : ∀ env, starEach (e :: r) env = (false, eval e env) :: starEach r env := by intro _; rfl) : zhR T d sc ctx (e :: r) (zh a ws) := by
  refine ⟨fun env pos => ?_, fun A env ρ σ₀ s₀ σ s Q P pos Q' eo ro p0 st fr hw k => ?_⟩
  · rw [he]; exact hr.plain env pos
  · refine args_cons (h.then eo ro p0 st fr hw fun v u σ₁ s₁ hv st1 p1 fr1 hw1 => ?_) (he env)
    exact hr.run A env ρ σ₀ s₀ σ₁ s₁ _ P pos _ eo ro p1 st1 fr1 hw1 fun vs us σ₂ s₂ hvs st2 p2 fr2 hw2 => k (v :: vs) (u :: us) σ₂ s₂ (.cons hv hvs) st2 p2 fr2 hw2

noncomputable def q9 (ws : EWs) : EW := fun ρ σ Q P => ws ρ σ (fun vs σ₁ => vs.length ≤ lim ∧ yI (.list vs) σ₁ Q) P
noncomputable def zgq (ws : EWs) : EW := fun ρ σ Q P => ws ρ σ (fun vs σ₁ => vs.length ≤ lim ∧ yI (.tup vs) σ₁ Q) P
theorem qk {es pos} {ws : EWs} (h : zhR T d sc ctx es ws) : zB T d sc ctx (.List es pos) (q9 ws) := by
  intro A env ρ σ s Q P eo ro st fr hw
  refine wpAny_List (h.run A env ρ σ s σ s _ P pos _ eo ro .refl st fr hw fun vs us σ₁ s₁ hv st1 p1 fr1 hw1 => ?_)
  refine ⟨by rw [hv.length]; exact Nat.le_trans hw1.1 y9, _, _, .ref _, ?_, ?_, hw1.2 s₁.heap.objs.size st1.sizeFree⟩
  · exact st1.alloc (so := .list vs) ⟨hw1.1, us.toArray, 0, rfl, by simpa using hv⟩ s₁.toks rfl
  · exact p1.alloc st1 _ _ s₁.toks
theorem zbl {es k pos} {ws : EWs} (h : zhR T d sc ctx es ws) : zB T d sc ctx (.Tuple es k pos) (zgq ws) := by
  intro A env ρ σ s Q P eo ro st fr hw
  refine wpAny_Tuple (h.run A env ρ σ s σ s _ P pos _ eo ro .refl st fr hw fun vs us σ₁ s₁ hv st1 p1 fr1 hw1 => ?_)
  refine ⟨by rw [hv.length]; exact Nat.le_trans hw1.1 y9, _, _, .ref _, ?_, ?_, hw1.2 s₁.heap.objs.size st1.sizeFree⟩
  · exact st1.alloc (so := .tup vs) ⟨hw1.1, us.toArray, 0, rfl, by simpa using hv⟩ s₁.toks rfl
  · exact p1.alloc st1 _ _ s₁.toks

noncomputable def jJ (xs : List V) (i : Nat) (k : V → Prop) : Prop := match xs[i]? with | some v => k v | none => False
noncomputable def qi (a i : EW) : EW := fun ρ σ Q P =>
  a ρ σ (fun va σ₁ => i ρ σ₁ (fun vi σ₂ => va.asRef fun p => vi.asInt fun k => 0 ≤ k ∧ yj σ₂ p fun xs => jJ xs k.toNat fun v => Q v σ₂) P) P
theorem zw {e i pos} {a b : EW} (h : zB T d sc ctx e a) (h' : zB T d sc ctx i b)
    (hs : ∀ o k, subscripted i false o k = operate [o, k] (getItem o k) := by intro _ _; rfl) : zB T d sc ctx (.Subscript e i pos) (qi a b) := by
  intro A env ρ σ s Q P eo ro st fr hw
  refine Subscript_ (h.run eo ro st fr hw fun va ua σ₁ s₁ v1 st1 p1 fr1 hw1 => ?_)
  refine h'.then eo ro p1 st1 fr1 hw1 fun vi ui σ₂ s₂ v2 st2 p2 fr2 hw2 => ?_
  obtain ⟨p, hw3⟩ := hw2.get v1
  obtain ⟨k, t, h0, hw4⟩ := hw3.get v2
  obtain ⟨xs, hx, hw5⟩ := hw4.get
  unfold jJ at hw5
  cases hq : xs[k.toNat]? with
  | none => rw [hq] at hw5; exact hw5.elim
  | some v =>
    rw [hq] at hw5
    have hlt : k.toNat < xs.length := (List.getElem?_eq_some_iff.mp hq).1
    rcases hx with hx | hx
    · obtain ⟨us, hl, hv, hz, hlim⟩ := st2.list hx
      obtain ⟨u, hu, hvu⟩ := hv.get hq
      have hfit : k < 2 ^ 63 := by unfold lim at hlim; exact lit (r3 _ _ _) V0 (.num 9223372036854775808) [(1,1,V1,V2),(0,1,V2,.num 1000000),(0,1,V0,V1)] rfl (ltI hlt) (leI hlim) (Int.self_le_toNat _)
      exact tail_any hl.typeIs slot_list_getitem.lookup (wpAny_getItem_list hl h0 hfit (by simpa using hu) ⟨_, _, hvu, st2, p2, hw5⟩) (hs _ _)
    · obtain ⟨us, hl, hv, hz, hlim⟩ := st2.tup hx
      obtain ⟨u, hu, hvu⟩ := hv.get hq
      have hfit : k < 2 ^ 63 := by unfold lim at hlim; exact lit (r3 _ _ _) V0 (.num 9223372036854775808) [(1,1,V1,V2),(0,1,V2,.num 1000000),(0,1,V0,V1)] rfl (ltI hlt) (leI hlim) (Int.self_le_toNat _)
      refine tail_any hl.typeIs slot_tuple_getitem.lookup (getItem_tuple hl (by exact lin (r1 _) (.neg (.num 9223372036854775808)) V0 [(0,1,N0,V0)] rfl h0) hfit (j := k.toNat) ?_ (by simpa using hu) ⟨_, _, hvu, st2, p2, hw5⟩) (hs _ _)
      have : k = (k.toNat : Int) := by exact liq (r2 _ _) V0 V1 [(2,-1,V1,V0)] rfl (tnn (h0))
      unfold seqIndex?
      have hsz : us.size = xs.length := hz
      grind

structure Blt (T : TC) : Prop where
  none : ∀ x ∈ (["len", "isinstance", "list", "int", "bool", "tuple", "range", "all", "any", "sum", "max", "min", "sorted", "set", "dict", "enumerate", "reversed", "ValueError"] : List Str), T.mg x = none

theorem St.ns {σ s} (st : St T σ s) {a m} (h : T.hb.Ns a m) : s.heap.Ns a m := h.keeps st.base
theorem jP (ok : T.Ok) {env : Env} {x : Str} {pos : Pos} {v : Value} {A : Around} {σ s E} {Q : Value → Shared → Prop} (eo : q8 sc env) (st : St T σ s) (hx : sc.names.lookup x = some .globalImplicit) (hm : T.mg x = none)
    (hv : bootBuiltins x = some v) (hn : x ≠ "__name__") (hd : (x == ("__debug__" : Str)) = false) (h : Q v s) : wpAny T.M A (eval (.Name x pos) env) Q E s := by
  refine Name_function_global (by rw [eo.scope]; exact eo.kind) (by rw [eo.kindOf]; exact hx) ?_ hd
  exact loadGlobal_builtin (mg := T.mg) (mb := T.mb) (by rw [eo.globals]; exact st.ns ok.g) hm (by rw [eo.builtins]; exact st.ns ok.b) ((ok.builtins x hn).trans hv) h

theorem zhe (ok : T.Ok) {x : Str} {id : String} {p pos e} {a : EW} {w : EW} (h : zB T d sc ctx e a) (hx : sc.names.lookup x = some .globalImplicit) (hm : T.mg x = none)
    (hv : bootBuiltins x = some (.builtin id)) (hn : x ≠ "__name__") (hd : (x == ("__debug__" : Str)) = false)
    (hw : ∀ ρ σ Q P, w ρ σ Q P → ∃ Q₁, a ρ σ Q₁ P ∧ ∀ A v u σ₀ s₀ σ₁ s₁ E, zah T A d → VIs v u → St T σ₁ s₁ → zL T [] σ₀ s₀ σ₁ s₁ → Q₁ v σ₁ → wpAny T.M A (call (.builtin id) [u]) (zgQ T σ₀ s₀ Q) E s₁)
    (he : ∀ env, starEach [e] env = [(false, eval e env)] := by intro _; rfl) : zB T d sc ctx (.Call (.Name x p) [e] [] pos) w := by
  intro A env ρ σ s Q P eo ro st fr hq
  obtain ⟨Q₁, ha, hc⟩ := hw ρ σ Q P hq
  refine Call_ (jP ok eo st hx hm hv hn hd ?_)
  refine callWith_builtin1 (args_cons (h.then eo ro .refl st fr ha fun v u σ₁ s₁ hv st1 p1 fr1 hw1 => args_nil (hc A v u σ s σ₁ s₁ _ ro hv st1 p1 hw1)) (he env)) (he env) rfl
theorem zeV (ok : T.Ok) {x : Str} {id : String} {p pos e} {a : EW} {w : EW} (h : zB T d sc ctx e a) (hx : sc.names.lookup x = some .globalImplicit) (hm : T.mg x = none)
    (hv : bootBuiltins x = some (.type id)) (hn : x ≠ "__name__") (hd : (x == ("__debug__" : Str)) = false)
    (hw : ∀ ρ σ Q P, w ρ σ Q P → ∃ Q₁, a ρ σ Q₁ P ∧ ∀ A v u σ₀ s₀ σ₁ s₁ E, zah T A d → VIs v u → St T σ₁ s₁ → zL T [] σ₀ s₀ σ₁ s₁ → Q₁ v σ₁ → wpAny T.M A (call (.type id) [u]) (zgQ T σ₀ s₀ Q) E s₁)
    (he : ∀ env, starEach [e] env = [(false, eval e env)] := by intro _; rfl) : zB T d sc ctx (.Call (.Name x p) [e] [] pos) w := by
  intro A env ρ σ s Q P eo ro st fr hq
  obtain ⟨Q₁, ha, hc⟩ := hw ρ σ Q P hq
  refine Call_ (jP ok eo st hx hm hv hn hd ?_)
  refine callWith_type1 (args_cons (h.then eo ro .refl st fr ha fun v u σ₁ s₁ hv st1 p1 fr1 hw1 => args_nil (hc A v u σ s σ₁ s₁ _ ro hv st1 p1 hw1)) (he env)) (he env) rfl

noncomputable def zaf (σ : zb) (p : Addr) (k : Nat → Prop) : Prop := match σ p with
  | some (.list xs) => k xs.length
  | some (.ro xs) => k xs.length
  | some (.tup xs) => k xs.length
  | some (.dict kvs) => k kvs.length
  | _ => False
noncomputable def j4 (a : EW) : EW := fun ρ σ Q P => a ρ σ (fun v σ₁ => v.asRef fun p => zaf σ₁ p fun n => Q (.int n) σ₁) P
theorem z8 (ok : T.Ok) (B : Blt T) {p pos e} {a : EW} (h : zB T d sc ctx e a) (hx : sc.names.lookup ("len" : Str) = some .globalImplicit)
    (he : ∀ env, starEach [e] env = [(false, eval e env)] := by intro _; rfl) : zB T d sc ctx (.Call (.Name "len" p) [e] [] pos) (j4 a) := by
  refine zhe ok h hx (B.none _ (by decide)) (id := "len") (by decide +kernel) (by decide) (by decide) (fun ρ σ Q P hw => ⟨_, hw, fun A v u σ₀ s₀ σ₁ s₁ E ro hv st1 p1 hw1 => ?_⟩) he
  obtain ⟨q, hw2⟩ := hw1.get hv
  unfold zaf at hw2
  split at hw2
  · rename_i xs hx
    obtain ⟨us, hl, hv, hz, hlim⟩ := st1.list (.inl hx)
    exact len_list hl (by unfold lim at hlim; exact lit (r2 _ _) V0 (.num 9223372036854775808) [(2,1,V0,V1),(0,1,V1,.num 1000000)] rfl (eqI hz) (leI hlim)) ⟨_, _, .int _ _, st1.tok _, p1.tok _, by rw [hz]; exact hw2⟩
  · rename_i xs hx
    obtain ⟨us, hl, hv, hz, hlim⟩ := st1.list (.inr hx)
    exact len_list hl (by unfold lim at hlim; exact lit (r2 _ _) V0 (.num 9223372036854775808) [(2,1,V0,V1),(0,1,V1,.num 1000000)] rfl (eqI hz) (leI hlim)) ⟨_, _, .int _ _, st1.tok _, p1.tok _, by rw [hz]; exact hw2⟩
  · rename_i xs hx
    obtain ⟨us, hl, hv, hz, hlim⟩ := st1.tup hx
    exact len_tuple hl (by unfold lim at hlim; exact lit (r2 _ _) V0 (.num 9223372036854775808) [(2,1,V0,V1),(0,1,V1,.num 1000000)] rfl (eqI hz) (leI hlim)) ⟨_, _, .int _ _, st1.tok _, p1.tok _, by rw [hz]; exact hw2⟩
  · rename_i xs hx
    obtain ⟨us, hl, hv, hlim⟩ := st1.dict hx
    exact call_len_dict (st1.sysm _ (by simp [hx]) (st1.notScr hx (by intro xs e; cases e))) hl (by rw [hv.length]; unfold lim at hlim; exact lit (r1 _) V0 (.num 9223372036854775808) [(0,1,V0,.num 1000000)] rfl (leI hlim)) ⟨_, _, .int _ _, st1.tok _, p1.tok _, by rw [hv.length]; exact hw2⟩
  · exact hw2.elim

noncomputable def zbT (a : EW) : EW := fun ρ σ Q P => a ρ σ (fun v σ₁ => v.asRef fun p => yj σ₁ p fun xs => yI (.list xs) σ₁ Q) P
theorem zau (ok : T.Ok) (B : Blt T) {p pos e} {a : EW} (h : zB T d sc ctx e a) (hx : sc.names.lookup ("list" : Str) = some .globalImplicit)
    (he : ∀ env, starEach [e] env = [(false, eval e env)] := by intro _; rfl) : zB T d sc ctx (.Call (.Name "list" p) [e] [] pos) (zbT a) := by
  refine zeV ok h hx (B.none _ (by decide)) (id := "list") (by decide +kernel) (by decide) (by decide) (fun ρ σ Q P hw => ⟨_, hw, fun A v u σ₀ s₀ σ₁ s₁ E ro hv st1 p1 hw1 => ?_⟩) he
  obtain ⟨q, hw2⟩ := hw1.get hv
  obtain ⟨xs, hx, hw3⟩ := hw2.get
  have key : ∃ o vs n, ∃ TY : String, (TY = "list" ∨ TY = "tuple") ∧ s₁.heap.get? q = some o ∧ o.cls = .type TY ∧ o.data = .seq vs n ∧ jL xs vs.toList ∧ xs.length ≤ lim := by
    rcases hx with (hx | hx) | hx
    · obtain ⟨o, ho, hlim, vs, n, rfl, hv⟩ := st1.objs _ _ hx; exact ⟨_, vs, n, "list", .inl rfl, ho, rfl, rfl, hv, hlim⟩
    · obtain ⟨o, ho, hlim, hc, vs, n, hd, hv⟩ := st1.objs _ _ hx; exact ⟨_, vs, n, "list", .inl rfl, ho, hc, hd, hv, hlim⟩
    · obtain ⟨o, ho, hlim, vs, n, rfl, hv⟩ := st1.objs _ _ hx; exact ⟨_, vs, n, "tuple", .inr rfl, ho, rfl, rfl, hv, hlim⟩
  obtain ⟨o, vs, n, TY, hT, ho, hc, hd, hv, hlim⟩ := key
  refine call_list_seq q hT ho hc hd (fun h' c' hk hn => ?_) (by have := hv.length; simp at this; rw [this]; exact Nat.le_trans hlim y9)
  exact ⟨_, _, .ref _, st1.lay hk hn (so := .list xs) ⟨hlim, vs, c', rfl, hv⟩ s₁.toks, p1.lay hk _ s₁.toks, hw3 _ st1.sizeFree⟩

noncomputable def intW (a : EW) : EW := fun ρ σ Q P => a ρ σ (fun v σ₁ => v.asBool fun b => Q (.int (if b then 1 else 0)) σ₁) P
theorem simIntB (ok : T.Ok) (B : Blt T) {p pos e} {a : EW} (h : zB T d sc ctx e a) (hx : sc.names.lookup ("int" : Str) = some .globalImplicit)
    (he : ∀ env, starEach [e] env = [(false, eval e env)] := by intro _; rfl) : zB T d sc ctx (.Call (.Name "int" p) [e] [] pos) (intW a) := by
  refine zeV ok h hx (B.none _ (by decide)) (id := "int") (by decide +kernel) (by decide) (by decide) (fun ρ σ Q P hw => ⟨_, hw, fun A v u σ₀ s₀ σ₁ s₁ E ro hv st1 p1 hw1 => ?_⟩) he
  obtain ⟨b, hw2⟩ := hw1.get hv
  exact call_int_bool ⟨_, _, .int _ _, st1.tok _, p1.tok _, hw2⟩
end
end Mine
end
section
open PySem
namespace Mine
open PySem.Calls PyProof.Rows

section
variable {T : TC} {d : Nat} {sc : Scope} {ctx : List Str}

inductive Ty where | int | bool | list | tuple
noncomputable def Ty.str : Ty → String | .int => "int" | .bool => "bool" | .list => "list" | .tuple => "tuple"
noncomputable def isi (ty : Ty) (σ : zb) (v : V) (k : Bool → Prop) : Prop := match v with
  | .none => k false
  | .bool _ => k (match ty with | .int => true | .bool => true | _ => false)
  | .int _ => k (match ty with | .int => true | _ => false)
  | .str _ => k false
  | .ref a => match σ a with
    | some (.list _) => k (match ty with | .list => true | _ => false)
    | some (.ro _) => k (match ty with | .list => true | _ => false)
    | some (.tup _) => k (match ty with | .tuple => true | _ => false)
    | some (.dict _) => k false
    | _ => False
noncomputable def zgx (ty : Ty) (a : EW) : EW := fun ρ σ Q P => a ρ σ (fun v σ₁ => isi ty σ₁ v fun b => Q (.bool b) σ₁) P

theorem isi_call {A E s σ} (ty : Ty) {v u} {k : Bool → Prop} {Q : Value → Shared → Prop} (st : St T σ s) (hv : VIs v u) (h : isi ty σ v k) (hq : ∀ b tk, k b → Q (.bool b) { s with toks := tk }) :
    wpAny T.M A (call (.builtin "isinstance") [u, .type ty.str]) Q E s := by
  cases hv with
  | none => cases ty <;> first | exact IsiPair.NoneType_int (hq _ _ h) | exact IsiPair.NoneType_bool (hq _ _ h) | exact IsiPair.NoneType_list (hq _ _ h) | exact IsiPair.NoneType_tuple (hq _ _ h)
  | bool b => cases ty <;> first | exact IsiPair.bool_int (hq _ s.toks h) | exact IsiPair.bool_bool (hq _ s.toks h) | exact IsiPair.bool_list (hq _ _ h) | exact IsiPair.bool_tuple (hq _ _ h)
  | int i t => cases ty <;> first | exact IsiPair.int_int (hq _ s.toks h) | exact IsiPair.int_bool (hq _ _ h) | exact IsiPair.int_list (hq _ _ h) | exact IsiPair.int_tuple (hq _ _ h)
  | str x t => cases ty <;> first | exact IsiPair.str_int (hq _ _ h) | exact IsiPair.str_bool (hq _ _ h) | exact IsiPair.str_list (hq _ _ h) | exact IsiPair.str_tuple (hq _ _ h)
  | ref a =>
    unfold isi at h
    dsimp only at h
    split at h
    · rename_i xs hx
      obtain ⟨us, ⟨o, ho, hc, _⟩, _⟩ := st.list (.inl hx)
      cases ty <;> first | exact IsiPair.list_int ho hc (hq _ _ h) | exact IsiPair.list_bool ho hc (hq _ _ h) | exact IsiPair.list_list ho hc (hq _ s.toks h) | exact IsiPair.list_tuple ho hc (hq _ _ h)
    · rename_i xs hx
      obtain ⟨us, ⟨o, ho, hc, _⟩, _⟩ := st.list (.inr hx)
      cases ty <;> first | exact IsiPair.list_int ho hc (hq _ _ h) | exact IsiPair.list_bool ho hc (hq _ _ h) | exact IsiPair.list_list ho hc (hq _ s.toks h) | exact IsiPair.list_tuple ho hc (hq _ _ h)
    · rename_i xs hx
      obtain ⟨us, ⟨o, ho, hc, _⟩, _⟩ := st.tup hx
      cases ty <;> first | exact IsiPair.tuple_int ho hc (hq _ _ h) | exact IsiPair.tuple_bool ho hc (hq _ _ h) | exact IsiPair.tuple_list ho hc (hq _ _ h) | exact IsiPair.tuple_tuple ho hc (hq _ s.toks h)
    · rename_i xs hx
      obtain ⟨us, hd, _⟩ := st.dict hx
      obtain ⟨o, es, ep, ho, ⟨hc, _⟩, _⟩ := hd
      cases ty <;> first | exact IsiPair.dict_int ho hc (hq _ _ h) | exact IsiPair.dict_bool ho hc (hq _ _ h) | exact IsiPair.dict_list ho hc (hq _ _ h) | exact IsiPair.dict_tuple ho hc (hq _ _ h)
    · exact h.elim

theorem zaR (ok : T.Ok) (B : Blt T) (ty : Ty) {p q pos e x} {a : EW} (h : zB T d sc ctx e a) (hi : sc.names.lookup ("isinstance" : Str) = some .globalImplicit) (hx : sc.names.lookup x = some .globalImplicit) (ht : x = Str.ofString ty.str)
    (he : ∀ env, starEach [e, .Name x q] env = [(false, eval e env), (false, eval (.Name x q) env)] := by intro _; rfl) :
    zB T d sc ctx (.Call (.Name "isinstance" p) [e, .Name x q] [] pos) (zgx ty a) := by
  intro A env ρ σ s Q P eo ro st fr hw
  refine Call_ (jP ok eo st hi (B.none _ (by decide)) (v := .builtin "isinstance") (by decide +kernel) (by decide) (by decide) ?_)
  have he1 : starEach (e :: [.Name x q]) env = (false, eval e env) :: starEach [.Name x q] env := he env
  refine callWith_builtin1 (args_cons (h.then eo ro .refl st fr hw fun v u σ₁ s₁ hv st1 p1 fr1 hw1 => ?_) he1) he1 rfl
  have hm : T.mg x = none ∧ bootBuiltins x = some (.type ty.str) ∧ x ≠ "__name__" ∧ (x == ("__debug__" : Str)) = false := by
    subst ht
    cases ty <;> exact ⟨B.none _ (by decide), by decide +kernel, by decide, by decide⟩
  refine args_cons (jP ok eo st1 hx hm.1 hm.2.1 hm.2.2.1 hm.2.2.2 (args_nil ?_))
  exact isi_call ty st1 hv hw1 fun b tk hb => ⟨_, _, .bool b, st1.tok _, p1.tok _, hb⟩

noncomputable def mulL (a b : EW) : EW := fun ρ σ Q P =>
  a ρ σ (fun va σ₁ => b ρ σ₁ (fun vb σ₂ => va.asRef fun p => vb.asInt fun k => qz σ₂ p fun xs => k < 2 ^ 62 ∧ -(2 ^ 62) ≤ k ∧ xs.length * k.toNat ≤ lim ∧ yI (.list (List.replicate k.toNat xs).flatten) σ₂ Q) P) P
theorem jL.rep {xs us} (h : jL xs us) : ∀ n, jL (List.replicate n xs).flatten (List.replicate n us).flatten
  | 0 => by simp; exact .nil
  | n + 1 => by simp only [List.replicate_succ, List.flatten_cons]; exact h.append (h.rep n)
theorem zbZ {l r pos} {a b : EW} (hl : zB T d sc ctx l a) (hr : zB T d sc ctx r b) : zB T d sc ctx (.BinOp l .Mult r pos) (mulL a b) := by
  intro A env ρ σ s Q P eo ro st fr hw
  refine wpAny_BinOp (hl.run eo ro st fr hw ?_)
  intro va ua σ₁ s₁ v1 st1 p1 fr1 hw1
  refine hr.then eo ro p1 st1 fr1 hw1 ?_
  intro vb ub σ₂ s₂ v2 st2 p2 fr2 hw2
  obtain ⟨p, hw3⟩ := hw2.get v1
  obtain ⟨k, t, hw4⟩ := hw3.get v2
  obtain ⟨xs, hx, h1, h2, h3, hw5⟩ := hw4.get
  obtain ⟨us, n, ho, hv, hz, hlim⟩ := st2.isL hx
  have hsz : us.size * k.toNat ≤ 2 ^ 24 := by rw [hz]; unfold lim at h3; exact leN (lin (r1 _) V0 (.num 16777216) [(0,1,V0,.num 1000000)] rfl (leI h3))
  refine wpAny_binaryOp_repeat_ref (T := "list") (U := "int") (by decide) ⟨_, ho, rfl⟩ (fun s' => typeIs_int s' k t) noFill_list_mul F.fills_int_mul F.slot_int_rmul repeat_list F.slot_int_index.lookup
    (call_meets F.slot_int_rmul (typeIs_int s₂ k t) F.entry_int_rmul (F.args_int_rmul_2 _ _) (int___rmul___int_list k t p us n)
      ⟨ho, rfl, ⟨_, ho, rfl⟩, call_meets F.slot_list_mul ⟨_, ho, rfl⟩ F.entry_list_mul (F.args_list_mul_2 _ _)
        (AutoListH.list___mul___list_int_3 p us n k t (by simp [Builtin.List.listFitsIndex]; exact ⟨lin (r1 _) (.neg (.num 9223372036854775808)) V0 [(0,1,.neg (.num 4611686018427387904),V0)] rfl h2, lit (r1 _) V0 (.num 9223372036854775808) [(1,1,V0,.num 4611686018427387904)] rfl h1⟩) (by lia) (by simp [Builtin.List.listTooLong, sizeLine]; assumption))
        ⟨ho, ?_⟩⟩)
  rw [listMul_foldl_if]
  refine ⟨_, _, .ref _, st2.alloc (so := .list (List.replicate k.toNat xs).flatten) ⟨?_, _, 0, rfl, by simpa using hv.rep k.toNat⟩ s₂.toks rfl, p2.alloc st2 _ _ s₂.toks, hw5 _ st2.sizeFree⟩
  simpa [Nat.mul_comm] using h3

noncomputable def zgg (a b : EW) : EW := fun ρ σ Q P =>
  a ρ σ (fun va σ₁ => b ρ σ₁ (fun vb σ₂ => va.asRef fun p => vb.asRef fun q => qz σ₂ p fun xs => qz σ₂ q fun ys => xs.length + ys.length ≤ lim ∧ yI (.list (xs ++ ys)) σ₂ Q) P) P
theorem w6 {l r pos} {a b : EW} (hl : zB T d sc ctx l a) (hr : zB T d sc ctx r b) : zB T d sc ctx (.BinOp l .Add r pos) (zgg a b) := by
  intro A env ρ σ s Q P eo ro st fr hw
  refine wpAny_BinOp (hl.run eo ro st fr hw ?_)
  intro va ua σ₁ s₁ v1 st1 p1 fr1 hw1
  refine hr.then eo ro p1 st1 fr1 hw1 ?_
  intro vb ub σ₂ s₂ v2 st2 p2 fr2 hw2
  obtain ⟨p, hw3⟩ := hw2.get v1
  obtain ⟨q, hw4⟩ := hw3.get v2
  obtain ⟨xs, hx, hw5⟩ := hw4.get
  obtain ⟨ys, hy, h1, hw6⟩ := hw5.get
  obtain ⟨us, n, ho, hv, hz, _⟩ := st2.isL hx
  obtain ⟨ws, n', ho', hv', hz', _⟩ := st2.isL hy
  refine PySem.P.add_list ho ho' ⟨_, _, .ref _, st2.alloc (so := .list (xs ++ ys)) ⟨?_, _, 0, rfl, by simpa using hv.append hv'⟩ s₂.toks rfl, p2.alloc st2 _ _ s₂.toks, hw6 _ st2.sizeFree⟩ ?_
  · simpa using h1
  · rw [hz, hz']; exact Nat.le_trans h1 y9

noncomputable def zae (σ : zb) (a : Addr) (k : List V → Prop) : Prop := match σ a with | some (.list xs) => k xs | some (.ro xs) => k xs | _ => False
theorem zae.get {σ a k} (h : zae σ a k) : E2 (fun xs => σ a = some (.list xs) ∨ σ a = some (.ro xs)) k := by
  unfold zae at h; split at h
  · exact ⟨_, .inl ‹_›, h⟩
  · exact ⟨_, .inr ‹_›, h⟩
  · exact h.elim
noncomputable def zfd (a b : EW) : EW := fun ρ σ Q P =>
  a ρ σ (fun va σ₁ => b ρ σ₁ (fun vb σ₂ => va.asRef fun p => vb.asInt fun k => 0 ≤ k ∧ zae σ₂ p fun xs => yI (.list (xs.drop k.toNat)) σ₂ Q) P) P
noncomputable def zd9 (a b : EW) : EW := fun ρ σ Q P =>
  a ρ σ (fun va σ₁ => b ρ σ₁ (fun vb σ₂ => va.asRef fun p => vb.asInt fun k => 0 ≤ k ∧ zae σ₂ p fun xs => yI (.list (xs.take k.toNat)) σ₂ Q) P) P

theorem zdD {σ₀ s₀ σ s Q} (st : St T σ s) (p0 : zL T [] σ₀ s₀ σ s) {ob : Obj} {us : Array Value} {ys : List V} (hv : jL ys us.toList) (hl : ys.length ≤ lim) (hq : yI (.list ys) σ Q) :
    zgQ T σ₀ s₀ Q (.ref (s.heap.objs.size + 1)) { s with heap := (s.heap.push ob).push { cls := .type "list", data := .seq us } } := by
  have st1 := st.push ob s.toks
  have hz : (s.heap.push ob).objs.size = s.heap.objs.size + 1 := Heap.size_push ..
  have st2 := st1.alloc (o := { cls := .type "list", data := .seq us }) (so := .list ys) ⟨hl, us, 0, rfl, hv⟩ s.toks rfl
  have p2 := (p0.push ob s.toks).alloc st1 { cls := .type "list", data := .seq us } (.list ys) s.toks
  simp only [hz] at st2 p2
  refine ⟨_, _, .ref _, st2, p2, hq _ ?_⟩
  have := st1.sizeFree
  simp only [hz] at this
  exact this
theorem zdm {e i p pos} {a b : EW} (h : zB T d sc ctx e a) (h' : zB T d sc ctx i b) (ht : ∀ o r, letTemporaryGo e o r = pure () := by intro _ _; rfl) :
    zB T d sc ctx (.Subscript e (.Slice (some i) none none p) pos) (zfd a b) := by
  intro A env ρ σ s Q P eo ro st fr hw
  refine wpAny_Subscript_list_slice (h.run eo ro st fr hw fun va ua σ₁ s₁ v1 st1 p1 fr1 hw1 => ?_) ht
  refine wpAny_evalPart_some (h'.then eo ro p1 st1 fr1 hw1 fun vi ui σ₂ s₂ v2 st2 p2 fr2 hw2 => wpAny_evalPart_none ?_)
  obtain ⟨q, hw3⟩ := hw2.get v1
  obtain ⟨k, t, h0, hw4⟩ := hw3.get v2
  obtain ⟨xs, hx, hw5⟩ := hw4.get
  obtain ⟨us, hl, hv, hz, hlim⟩ := st2.list hx
  refine ⟨q, us, some k, none, rfl, hl, by rw [hz]; exact Nat.le_trans hlim y9, .int _ _, .none, ?_⟩
  obtain ⟨j, rfl⟩ := Int.eq_ofNat_of_zero_le h0
  have e : slicePick us (some (j : Int)) none none = (us.toList.drop j).toArray := slicePick_from' us j
  rw [e]
  exact zdD st2 p2 (by simpa using hv.drop j) (by simp; exact leN (lin (r3 _ _ _) V0 (.add V1 V2) [(0,1,V0,V1),(0,1,N0,V2)] rfl (leI hlim) h0)) hw5
theorem zbY {e i p pos} {a b : EW} (h : zB T d sc ctx e a) (h' : zB T d sc ctx i b) (ht : ∀ o r, letTemporaryGo e o r = pure () := by intro _ _; rfl) :
    zB T d sc ctx (.Subscript e (.Slice none (some i) none p) pos) (zd9 a b) := by
  intro A env ρ σ s Q P eo ro st fr hw
  refine wpAny_Subscript_list_slice (h.run eo ro st fr hw fun va ua σ₁ s₁ v1 st1 p1 fr1 hw1 => ?_) ht
  refine wpAny_evalPart_none (wpAny_evalPart_some (h'.then eo ro p1 st1 fr1 hw1 fun vi ui σ₂ s₂ v2 st2 p2 fr2 hw2 => ?_))
  obtain ⟨q, hw3⟩ := hw2.get v1
  obtain ⟨k, t, h0, hw4⟩ := hw3.get v2
  obtain ⟨xs, hx, hw5⟩ := hw4.get
  obtain ⟨us, hl, hv, hz, hlim⟩ := st2.list hx
  refine ⟨q, us, none, some k, rfl, hl, by rw [hz]; exact Nat.le_trans hlim y9, .none, .int _ _, ?_⟩
  obtain ⟨j, rfl⟩ := Int.eq_ofNat_of_zero_le h0
  have e : slicePick us none (some (j : Int)) none = (us.toList.take j).toArray := slicePick_upto' us j
  rw [e]
  exact zdD st2 p2 (by simpa using hv.take j) (by simp; lia) hw5

noncomputable def appW (a b : EW) : EW := fun ρ σ Q P =>
  a ρ σ (fun va σ₁ => va.asRef fun p => qz σ₁ p (fun _ => True) ∧ b ρ σ₁ (fun vb σ₂ => qz σ₂ p fun xs => xs.length < lim ∧ Q .none (put σ₂ p (.list (xs ++ [vb])))) P) P
theorem zcQ {o e apos pos} {a b : EW} (h : zB T d sc ctx o a) (h' : zB T d sc ctx e b)
    (hbase : ∀ env, attributeBase o "append" env (eval o env) = eval o env := by intro _; rfl)
    (hfew : ∀ env, ((backTo pos (starEach [e] env)).all (fun x => !x.1) && (backToKw pos (keywordEach [] env)).all (fun x => x.1.isSome)
      && decide (([e] : List Expr).length + ([] : List Keyword).length + (if ([] : List Keyword).isEmpty then 0 else 1) < 30)) = true := by intro _; rfl)
    (hline : (apos.endLine == pos.line) = true := by rfl)
    (htrees : ∀ env, backTo pos (starEach [e] env) = [(false, eval e env)] := by intro _; rfl) :
    zB T d sc ctx (.Call (.Attribute o "append" apos) [e] [] pos) (appW a b) := by
  intro A env ρ σ s Q P eo ro st fr hw
  refine wpAny_Call_append (hbase env) (hfew env) hline (htrees env) (h.run eo ro st fr hw fun va ua σ₁ s₁ v1 st1 p1 fr1 hw1 => ?_)
  obtain ⟨p, hw2, hw3⟩ := hw1.get v1
  obtain ⟨xs₁, hx₁, _⟩ := hw2.get
  obtain ⟨us₁, n₁, ho₁, _⟩ := st1.isL hx₁
  refine ⟨p, us₁, rfl, ⟨_, n₁, ho₁, rfl, rfl, rfl⟩, h'.then eo ro p1 st1 fr1 hw3 fun vb ub σ₂ s₂ v2 st2 p2 fr2 hw4 => ?_⟩
  obtain ⟨xs, hx, h1, hw5⟩ := hw4.get
  obtain ⟨us, n, ho, hv, hz, _⟩ := st2.isL hx
  refine call_meets F.slot_list_append ⟨_, ho, rfl⟩ F.entry_list_append (F.args_list_append_2 _ _) (AutoListH.list_append_list_val_0 p us n ub (by rw [hz]; exact Nat.le_trans (Nat.le_of_lt h1) y9)) ⟨ho, ?_⟩
  have hn := st2.notScr hx (by intro _ e; cases e)
  have ho' := IsL.update ho (fun x => x.push ub)
  refine ⟨_, _, .none, st2.turn hx hn (Heap.SameBut.update ..) ho' (so' := .list (xs ++ [vb])) ⟨by simp; assumption, _, _, rfl, by simpa using hv.append (.cons v2 .nil)⟩ s₂.toks, p2.turn hx hn (Heap.SameBut.update ..) ho' s₂.toks, hw5⟩

noncomputable def zhs (kvs : List (Int × V)) (k : Int) : Bool := kvs.any fun kv => decide (kv.1 = k)
noncomputable def zht (kvs : List (Int × V)) (k : Int) : Option V := (kvs.find? fun kv => decide (kv.1 = k)).map (·.2)
noncomputable def zcu (kvs : List (Int × V)) (k : Int) (v : V) : List (Int × V) :=
  if kvs.any (fun kv => decide (kv.1 = k)) then kvs.map (fun kv => if kv.1 = k then (kv.1, v) else kv) else kvs ++ [(k, v)]
theorem KVs.has {kvs us} (h : KVs kvs us) (k : Int) : (valueAt us k).isSome = zhs kvs k := by
  induction h with
  | nil => rfl
  | @cons k' v u r s h _ this =>
    unfold valueAt zhs at *
    rw [List.find?_cons, List.any_cons]
    by_cases e : k' = k
    · rw [decide_eq_true e]; rfl
    · rw [decide_eq_false e, Bool.false_or]; exact this
theorem KVs.get {kvs us} (h : KVs kvs us) (k : Int) {v : V} : zht kvs k = some v → ∃ u, valueAt us k = some u ∧ VIs v u := by
  induction h with
  | nil => exact fun e => qF rfl e
  | @cons k' v' u r s h _ ih =>
    unfold valueAt zht at *
    rw [List.find?_cons, List.find?_cons]
    by_cases q : k' = k
    · rw [decide_eq_true q]; exact fun e => ⟨u, rfl, Option.some.inj e ▸ h⟩
    · rw [decide_eq_false q]; exact ih
theorem KVs.any {kvs us} (h : KVs kvs us) (k : Int) : (us.any fun kv => decide (kv.1 = k)) = kvs.any fun kv => decide (kv.1 = k) := by
  induction h with
  | nil => rfl
  | cons _ _ ih => simp only [List.any_cons, ih]
theorem KVs.append {kvs us kvs' us'} (h : KVs kvs us) (h' : KVs kvs' us') : KVs (kvs ++ kvs') (us ++ us') := by
  induction h with
  | nil => exact h'
  | cons h _ ih => exact .cons h ih
theorem KVs.map {kvs us} (h : KVs kvs us) (k : Int) {v u} (hv : VIs v u) : KVs (kvs.map fun kv => if kv.1 = k then (kv.1, v) else kv) (us.map fun kv => if kv.1 = k then (kv.1, u) else kv) := by
  induction h with
  | nil => exact .nil
  | cons h _ ih =>
    simp only [List.map_cons]
    split
    · exact .cons hv ih
    · exact .cons h ih
theorem KVs.put {kvs us} (h : KVs kvs us) (k : Int) {v u} (hv : VIs v u) : KVs (zcu kvs k v) (stored us k u) := by
  unfold zcu stored
  rw [h.any]
  split
  · exact h.map k hv
  · exact h.append (.cons hv .nil)
theorem zfM (kvs : List (Int × V)) (k : Int) (v : V) : (zcu kvs k v).length ≤ kvs.length + 1 := by
  unfold zcu; split <;> simp

noncomputable def inD (neg : Bool) (a b : EW) : EW := fun ρ σ Q P =>
  a ρ σ (fun va σ₁ => b ρ σ₁ (fun vb σ₂ => va.asInt fun k => vb.asRef fun p => jU σ₂ p fun kvs => Q (.bool (if neg then !zhs kvs k else zhs kvs k)) σ₂) P) P
noncomputable def inOp (neg : Bool) : CmpOp := if neg then .NotIn else .In
theorem in_dict (neg : Bool) {A E s σ k t p kvs} {Q : Value → Shared → Prop} (st : St T σ s) (hx : σ p = some (.dict kvs)) (h : ∀ tk, Q (.bool (if neg then !zhs kvs k else zhs kvs k)) { s with toks := tk }) :
    wpAny T.M A (compareOp (inOp neg) (.int k t) (.ref p)) Q E s := by
  obtain ⟨us, hd, hv, _⟩ := st.dict hx
  have hs := st.sysm p (by simp [hx]) (st.notScr hx (by intro xs e; cases e))
  cases neg
  · refine wpAny_in_of (intKind_is T.prog T.w k t) hs hd.mapOf ?_
    rw [hv.has]; exact h _
  · refine wpAny_notIn_of (intKind_is T.prog T.w k t) hs hd.mapOf ?_
    rw [hv.has]; exact h _
theorem simInD (neg : Bool) {l r pos op} {a b : EW} (ho : op = inOp neg) (hl : zB T d sc ctx l a) (hr : zB T d sc ctx r b) (hm : behindInMarks op r = false := by rfl) : zB T d sc ctx (.Compare l [op] [r] pos) (inD neg a b) := by
  subst ho
  intro A env ρ σ s Q P eo ro st fr hw
  refine wpAny_Compare1 (hl.run eo ro st fr hw ?_) hm
  intro va ua σ₁ s₁ v1 st1 p1 fr1 hw1
  refine hr.then eo ro p1 st1 fr1 hw1 ?_
  intro vb ub σ₂ s₂ v2 st2 p2 fr2 hw2
  obtain ⟨k, t, hw3⟩ := hw2.get v1
  obtain ⟨p, hw4⟩ := hw3.get v2
  obtain ⟨kvs, hx, hw5⟩ := hw4.get
  exact in_dict neg st2 hx fun tk => ⟨_, _, .bool _, st2.tok _, p2.tok _, hw5⟩
theorem wA (neg : Bool) {l r pos op} {a b : EW} (ho : op = inOp neg) (hl : zB T d sc ctx l a) (hr : zB T d sc ctx r b) (hm : behindInMarks op r = false := by rfl) : zbN T d sc ctx (.Compare l [op] [r] pos) (inD neg a b) := by
  subst ho
  intro A env ρ σ s Q P eo ro st fr hw
  refine wpAny_isTrue_Compare1 (hl.run eo ro st fr hw ?_) hm
  intro va ua σ₁ s₁ v1 st1 p1 fr1 hw1
  refine hr.then eo ro p1 st1 fr1 hw1 ?_
  intro vb ub σ₂ s₂ v2 st2 p2 fr2 hw2
  obtain ⟨k, t, hw3⟩ := hw2.get v1
  obtain ⟨p, hw4⟩ := hw3.get v2
  obtain ⟨kvs, hx, hw5⟩ := hw4.get
  exact in_dict neg st2 hx fun tk => wpAny_truthy_bool ⟨_, st2.tok _, p2.tok _, hw5⟩

theorem St.adopt {σ s} (st : St T σ s) {D : Addr} (hF : D ∉ frs T) (hD : σ D = none) (hb : T.hb.get? D = none) (hm : (D == sysModules) = false) {h' : Heap} (hs : Heap.SameBut D s.heap h') {o : Obj} {so : O} (ho : h'.get? D = some o) (hi : OIs T so o) (tk : Nat) :
    St T (put σ D so) { s with heap := h', toks := tk } := by
  obtain ⟨h, t, e⟩ := st.rest
  refine ⟨⟨h', tk, by rw [e]⟩, fun b o hb' => ?_, fun b sb hb' => ?_, fun b hb' hne => ?_, fun b hb' hne => ?_, st.roPut _ _ hD, st.framesOf (frPut hF) fun L hL ⟨o, es, ep, e, d⟩ => ⟨o, es, ep, (hs.2 L (frNe hF hL)).trans e, d⟩⟩
  · have hne : b ≠ D := fun q => by subst q; rw [hb] at hb'; cases hb'
    exact (hs.2 b hne).trans (st.base b o hb')
  · by_cases h : b = D
    · subst h; rw [zy] at hb'; cases hb'; exact ⟨o, ho, hi⟩
    · rw [zS _ h] at hb'; obtain ⟨o, h1, h2⟩ := st.objs b sb hb'; exact ⟨o, (hs.2 b h).trans h1, h2⟩
  · by_cases h : b = D
    · subst h; exact hb
    · rw [zS _ h] at hb'; exact st.fresh b hb' hne
  · by_cases h : b = D
    · subst h; exact hm
    · rw [zS _ h] at hb'; exact st.sysm b hb' hne
theorem zL.adopt {X σ₀ s₀ σ s} (a : zL T X σ₀ s₀ σ s) {D : Addr} (hD : s₀.heap.get? D = none) {h' : Heap} (hs : Heap.SameBut D s.heap h') {o : Obj} (ho : h'.get? D = some o) (so : O) (tk : Nat) :
    zL T X σ₀ s₀ (put σ D so) { s with heap := h', toks := tk } := by
  refine ⟨fun c o hf hc e => ?_, fun c o e => ?_, fun c hc => ?_, fun c hc hc' => ?_⟩
  · have hne : c ≠ D := by rintro rfl; rw [hD] at e; cases e
    obtain ⟨o', h', r⟩ := a.keep c o hf hc e
    exact ⟨o', (hs.2 c hne).trans h', r⟩
  · obtain ⟨o1, h1⟩ := a.live c o e
    by_cases h : c = D
    · subst h; exact ⟨_, ho⟩
    · exact ⟨o1, (hs.2 c h).trans h1⟩
  · by_cases h : c = D
    · subst h; simp [zy]
    · rw [zS _ h]; exact a.mono c hc
  · by_cases h : c = D
    · subst h; exact hD
    · rw [zS _ h] at hc'; exact a.new c hc hc'
theorem St.hbSize {σ s} (st : St T σ s) : T.hb.get? s.heap.objs.size = none := by
  cases e : T.hb.get? s.heap.objs.size with
  | none => rfl
  | some ob => have := st.base _ _ e; rw [get?_size] at this; cases this

noncomputable def zcS (a b : EW) : EW := fun ρ σ Q P => a ρ σ (fun va σ₁ => b ρ σ₁ (fun vb σ₂ => va.asInt fun k => yI (.dict [(k, vb)]) σ₂ Q) P) P
theorem zbI {k v pos} {a b : EW} (hk : zB T d sc ctx k a) (hv : zB T d sc ctx v b) : zB T d sc ctx (.Dict [some k] [v] pos) (zcS a b) := by
  intro A env ρ σ s Q P eo ro st fr hw
  refine wpAny_Dict_pairs (knd := intKind T.prog T.w) (pairs := [(eval k env, do let x ← eval v env; standAt pos; pure x)]) rfl (by simp) (by simp) ?_
  have st0 := st.push { cls := .type "dict", data := .dict #[] } s.toks
  have p0 : zL T [] σ s σ { s with heap := s.heap.push { cls := .type "dict", data := .dict #[] }, toks := s.toks } := zL.refl.push _ _
  have fr0 := fr.step p0
  show wpAny T.M A (do
    let kv ← eval k env
    let vv ← holding [kv] (do let x ← eval v env; standAt pos; pure x)
    return (kv, vv) :: (← holding [kv, vv] (evalPairs []))) _ _ _
  refine wpAny_bind (wpAny_mono (hk.run eo ro st0 fr0 hw (Q' := fun ua s₁ => _) fun va ua σ₁ s₁ v1 st1 q1 fr1 hw1 => ?_) (fun _ _ x => x) fun _ _ x => x.step p0)
  refine wpAny_bind (wpAny_holding (wpAny_bind (wpAny_mono (hv.then eo ro q1 st1 fr1 hw1 (Q' := fun ub s₂ => _) fun vb ub σ₂ s₂ v2 st2 hp2 fr2 hw2 => ?_) (fun _ _ x => x) fun _ _ x => x.step p0)))
  have p2 := p0.trans hp2
  refine wpAny_bind (wpAny_standAt (wpAny_pure (wpAny_bind (wpAny_holding (evalPairs_nil (wpAny_pure ?_))))))
  obtain ⟨n, t, hw3⟩ := hw2.get v1
  have p2' : zL T [] σ { s with heap := s.heap.push { cls := .type "dict", data := .dict #[] } } σ₂ s₂ := hp2
  have hob : (s.heap.push { cls := .type "dict", data := .dict #[] }).get? s.heap.objs.size = some { cls := .type "dict", data := .dict #[] } := Heap.get?_push_size _ rfl
  have hF := st.notFr (get?_size s.heap)
  have hD2 := p2'.keepX (.inl st.sizeFree) (by simp) hF hob
  refine ⟨[(n, ub)], ⟨intKind_is .., rfl, trivial⟩, ⟨_, #[], 0, hD2, ⟨rfl, rfl, rfl⟩, rfl, fun _ he => by simp at he, Pairs.nil, List.nodup_nil⟩, fun h' hd hs => ?_⟩
  obtain ⟨o, ho, hd'⟩ := Heap.dictOf_iff.mp hd
  refine ⟨_, _, .ref _, st2.adopt hF (p2'.free st.sizeFree hob) st.hbSize st.big hs ho (so := .dict [(n, vb)]) ⟨?_, _, hd', ?_⟩ _, p2.adopt (get?_size _) hs ho _ _, hw3 _ (p2'.free st.sizeFree hob)⟩
  · simp [lim]
  · exact .cons v2 .nil
end
end Mine
end
section
open PySem
namespace Mine
open PySem.Calls PyProof.Rows

section
variable {T : TC} {d : Nat} {sc : Scope} {ctx : List Str}

theorem za4 {ρ : zP} {i j : Nat} {v u : V} (h : jW (ym ρ i v) j = some u) (hne : j ≠ i) : jW ρ j = some u := by
  rcases zdI ρ i j v u h with ⟨a, _⟩ | ⟨_, b⟩
  · exact absurd a hne
  · exact b
theorem zfh {ctx : List Str} (nd : ctx.Nodup) {i j : Nat} {x : Str} (hi : ctx[i]? = some x) (hj : ctx[j]? = some x) : i = j := by
  have hi1 := (List.getElem?_eq_some_iff.mp hi).1
  exact (List.getElem?_inj hi1 nd).mp (hi.trans hj.symm)

theorem zL.own {σ s} {a : Addr} {h' : Heap} (hs : Heap.SameBut a s.heap h') {o : Obj} (ho : h'.get? a = some o) (tk : Nat) : zL T [a] σ s σ { s with heap := h', toks := tk } := by
  refine ⟨fun b o hf hb e => ⟨o, (hs.2 b (by simpa using hb)).trans e, .inl rfl⟩, fun b ob e => ?_, fun _ h => h, fun x h1 h2 => by simp [h1] at h2⟩
  by_cases h : b = a
  · subst h; exact ⟨o, ho⟩
  · exact ⟨ob, (hs.2 b h).trans e⟩
theorem St.own {σ s} (st : St T σ s) {a : Addr} (ha : σ a = none) (hb : T.hb.get? a = none) {h' : Heap} (hs : Heap.SameBut a s.heap h') (hd : a ∈ frs T → IsD h' a) (tk : Nat) : St T σ { s with heap := h', toks := tk } := by
  obtain ⟨h, t, e⟩ := st.rest
  refine ⟨⟨h', tk, by rw [e]⟩, fun b o e => ?_, fun b sb hb' => ?_, st.fresh, st.sysm, st.ro, st.framesOf (fun _ _ h => h) fun L hL h => ?_⟩
  · exact (hs.2 b (by rintro rfl; rw [hb] at e; cases e)).trans (st.base b o e)
  · obtain ⟨o, h1, h2⟩ := st.objs b sb hb'
    exact ⟨o, (hs.2 b (by rintro rfl; rw [ha] at hb'; cases hb')).trans h1, h2⟩
  · by_cases e : L = a
    · subst e; exact hd hL
    · obtain ⟨o, es, ep, h1, h2⟩ := h; exact ⟨o, es, ep, (hs.2 L e).trans h1, h2⟩

noncomputable def zek : Option NameKind → Bool
  | some .local | some .cell => true
  | _ => false
theorem zeq {A E env ρ σ s} {x : Str} {i : Nat} {v : V} {u : Value} {Q : Unit → Shared → Prop} (eo : q8 sc env) (st : St T σ s) (fr : qt T env ctx ρ σ s.heap) (hx : ctx[i]? = some x) (hk : zek (sc.names.lookup x) = true) (hv : VIs v u)
    (h : ∀ s' a, a ∈ own env → ((sc.names.lookup x = some .local → a = env.locals) ∧ (sc.names.lookup x = some .cell → env.cells.lookup x = some a)) → St T σ s' → qt T env ctx (ym ρ i v) σ s'.heap → zL T [a] σ s σ s' → Q () s') : wpAny T.M A (storeName env x u) Q E s := by
  have hkf : env.scope.kind = .function := by rw [eo.scope]; exact eo.kind
  have hko := hk
  rw [← eo.kindOf] at hk
  cases hq : env.kindOf x with
  | none => rw [hq] at hk; cases hk
  | some kd =>
    rw [hq] at hk
    cases kd <;> first | (cases hk; done) | skip
    · -- a local
      obtain ⟨m, hn, h2⟩ := fr.ns
      refine wpAny_storeName_local hq hn (fun h' hn' hs => ?_) (by rw [hkf]; rfl)
      obtain ⟨o', es, ep, ho', hd', _⟩ := id hn'
      refine h _ env.locals (by simp [own]) ⟨fun _ => rfl, fun e => (by rw [← eo.kindOf, hq] at e; cases e)⟩ (st.own fr.lfree fr.lbase hs (fun _ => ⟨o', es, ep, ho', hd'⟩) _) ?_ (zL.own hs ho' _)
      have hc : ∀ y c, env.cells.lookup y = some c → ∀ o, s.heap.IsCell c o → h'.IsCell c o := fun y c hy o ho => ho.sameBut hs (fr.apart y c hy)
      refine ⟨fr.nd, ⟨_, hn', fun j y w hj hy hw => ?_⟩, fun j y hj hy => ?_, fr.loneM, fr.apartM, fr.lfree, fun y c hy => ⟨(fr.cfreeM y c hy).1, let ⟨o, ho⟩ := (fr.cfreeM y c hy).2; ⟨o, ho.sameBut hs (fr.apartM y c hy)⟩⟩, fr.lbase, fr.cbaseM⟩
      · rcases zdI ρ i j v w hw with ⟨e1, e2⟩ | ⟨e1, e2⟩
        · subst e1 e2; rw [hx] at hj; cases hj; exact ⟨u, by simp, hv⟩
        · have hne : y ≠ x := fun q => e1 (zfh fr.nd (q ▸ hj) hx)
          simp only [hne, if_false]; exact h2 j y w hj hy e2
      · obtain ⟨c, o, h3, h4, h5⟩ := fr.cell j y hj hy
        refine ⟨c, o, h3, hc y c h3 o h4, fun w hw => ?_⟩
        have hne : j ≠ i := by rintro rfl; rw [hx] at hj; cases hj; rw [hq] at hy; rcases hy with hy | hy <;> cases hy
        exact h5 w (za4 hw hne)
    · -- a cell
      obtain ⟨c, o, h1, h2, h3⟩ := fr.cell i x hx (.inl hq)
      refine wpAny_storeName_cell hkf hq h1 h2 fun h' hc' hs => ?_
      obtain ⟨o', ho', hd'⟩ := id hc'
      refine h _ c (by simp only [own, List.mem_cons, List.mem_map]; exact .inr ⟨(x, c), mem_of_lookup h1, rfl⟩) ⟨fun e => (by rw [← eo.kindOf, hq] at e; cases e), fun _ => h1⟩ (st.own (fr.cfree x c h1).1 (fr.cbase x c h1) hs (fun hF => by
        obtain ⟨o1, es, ep, e1, d1⟩ := (st.fr hF).2.2
        obtain ⟨o2, e2, d2⟩ := h2
        rw [e1] at e2; cases e2; rw [d1] at d2; cases d2) s.toks) ?_ (zL.own hs ho' s.toks)
      have hoth : ∀ y c', env.cells.lookup y = some c' → y ≠ x → c' ≠ c := fun y c' hy hne e => hne (fr.lone y x c (e ▸ hy) h1)
      refine ⟨fr.nd, ?_, fun j y hj hy => ?_, fr.loneM, fr.apartM, fr.lfree, fun y c' hy => ⟨(fr.cfreeM y c' hy).1, ?_⟩, fr.lbase, fr.cbaseM⟩
      · obtain ⟨m, hn, h4⟩ := fr.ns
        refine ⟨m, hn.sameBut hs (Ne.symm (fr.apart x c h1)), fun j y w hj hy hw => ?_⟩
        have hne : j ≠ i := by rintro rfl; rw [hx] at hj; cases hj; rw [hq] at hy; cases hy
        exact h4 j y w hj hy (za4 hw hne)
      · by_cases e : j = i
        · subst e; rw [hx] at hj; cases hj
          refine ⟨c, some u, h1, hc', fun w hw => ?_⟩
          rcases zdI ρ j j v w hw with ⟨_, e2⟩ | ⟨e1, _⟩
          · subst e2; exact ⟨u, rfl, hv⟩
          · exact absurd rfl e1
        · obtain ⟨c', o', h5, h6, h7⟩ := fr.cell j y hj hy
          have hne : y ≠ x := fun q => e (zfh fr.nd (q ▸ hj) hx)
          exact ⟨c', o', h5, h6.sameBut hs (hoth y c' h5 hne), fun w hw => h7 w (za4 hw e)⟩
      · by_cases e : c' = c
        · subst e; exact ⟨_, hc'⟩
        · obtain ⟨o'', ho''⟩ := (fr.cfreeM y c' hy).2
          exact ⟨o'', ho''.sameBut hs e⟩

noncomputable def zbr (T : TC) (d : Nat) (sc : Scope) (ctx : List Str) (ps : Stmt) (w : SW) : Prop :=
  ∀ A env ρ σ s K P, q8 sc env → zah T A d → St T σ s → qt T env ctx ρ σ s.heap → w ρ σ K P →
    wpAny T.M A (exec ps env) (wJ T env ctx σ s K) (jj T (own env) σ s P) s

noncomputable def qe : SW := fun ρ σ K _ => K .next ρ σ
noncomputable def zA (a b : SW) : SW := fun ρ σ K P => a ρ σ (fun o ρ₁ σ₁ => match o with | .next => b ρ₁ σ₁ K P | .ret v => K (.ret v) ρ₁ σ₁) P
theorem zD : jm T d sc ctx [] qe :=
  fun A env ρ σ s K P eo ro st fr hw => wpAny_execs_nil ⟨_, ρ, σ, .next, st, fr, .refl, hw⟩
theorem wJ.step {env σ s σ₁ s₁ K f s'} (a : zL T (own env) σ s σ₁ s₁) (h : wJ T env ctx σ₁ s₁ K f s') : wJ T env ctx σ s K f s' :=
  let ⟨o, ρ', σ', h1, h2, h3, h4, h5⟩ := h; ⟨o, ρ', σ', h1, h2, h3, a.trans h4, h5⟩
theorem zk {st1 rest} {a b : SW} (h : zbr T d sc ctx st1 a) (h' : jm T d sc ctx rest b) : jm T d sc ctx (st1 :: rest) (zA a b) := by
  intro A env ρ σ s K P eo ro st fr hw
  refine wpAny_execs_cons (wpAny_mono (h A env ρ σ s _ P eo ro st fr hw) (fun f s₁ hf => ?_) fun _ _ x => x)
  obtain ⟨o, ρ₁, σ₁, h1, h2, h3, h4, h5⟩ := hf
  cases h1 with
  | next => exact wpAny_mono (h' A env ρ₁ σ₁ s₁ K P eo ro h2 h3 h5) (fun _ _ x => x.step h4) fun _ _ x => x.step h4
  | ret hv => exact ⟨_, ρ₁, σ₁, .ret hv, h2, h3, h4, h5⟩
theorem zj {st1} {a : SW} (h : zbr T d sc ctx st1 a) : jm T d sc ctx [st1] a := by
  intro A env ρ σ s K P eo ro st fr hw
  refine wpAny_execs_cons (wpAny_mono (h A env ρ σ s _ P eo ro st fr hw) (fun f s₁ hf => ?_) fun _ _ x => x)
  obtain ⟨o, ρ₁, σ₁, h1, h2, h3, h4, h5⟩ := hf
  cases h1 with
  | next => exact wpAny_execs_nil ⟨_, ρ₁, σ₁, .next, h2, h3, h4, h5⟩
  | ret hv => exact ⟨_, ρ₁, σ₁, .ret hv, h2, h3, h4, h5⟩

noncomputable def qR (a : EW) : SW := fun ρ σ K P => a ρ σ (fun v σ₁ => K (.ret v) ρ σ₁) P
theorem zF {e pos} {a : EW} (h : zB T d sc ctx e a) : zbr T d sc ctx (.Return (some e) pos) (qR a) := by
  intro A env ρ σ s K P eo ro st fr hw
  exact wpAny_mono (wpAny_Return_some (h.run eo ro st fr hw fun v u σ₁ s₁ hv st1 p1 fr1 hw1 => (⟨_, ρ, σ₁, .ret hv, st1, fr1, p1.any, hw1⟩ : wJ T env ctx σ s K (.ret u) s₁))) (fun _ _ x => x) fun _ _ x => x.any

noncomputable def z1 (i : Nat) (a : EW) : SW := fun ρ σ K P => a ρ σ (fun v σ₁ => K .next (ym ρ i v) σ₁) P
theorem zdo {env : Env} {a : Addr} {σ s σ' s'} (h : zL T [a] σ s σ' s') (ha : a ∈ own env) : zL T (own env) σ s σ' s' := h.weaken (by simpa using ha)
theorem zt {x e p pos} {a : EW} (i : Nat) (hx : ctx[i]? = some x) (hk : zek (sc.names.lookup x) = true) (h : zB T d sc ctx e a)
    (hs : ∀ env, swapsWith e (some (.Name x p)) pos.line env = pure false := by intro _; rfl) : zbr T d sc ctx (.Assign [.Name x p] e pos) (z1 i a) := by
  intro A env ρ σ s K P eo ro st fr hw
  refine wpAny_mono (wpAny_Assign_Name (Q := wJ T env ctx σ s K) (h.run eo ro st fr hw fun v u σ₁ s₁ hv st1 p1 fr1 hw1 => ?_) (hs env)) (fun _ _ x => x) fun _ _ x => x.any
  refine zeq eo st1 fr1 hx hk hv fun s₂ b hb _ st2 fr2 p2 => ⟨_, _, σ₁, .next, st2, fr2, p1.any.trans (zdo p2 hb), hw1⟩

noncomputable def zam (a : EW) : SW := fun ρ σ K P => a ρ σ (fun _ σ₁ => K .next ρ σ₁) P
theorem yh {e pos} {a : EW} (h : zB T d sc ctx e a) (hs : ∀ env, swapsWith e none pos.line env = pure false := by intro _; rfl) : zbr T d sc ctx (.Expr e pos) (zam a) := by
  intro A env ρ σ s K P eo ro st fr hw
  have hi : interactive env = false := by unfold interactive; rw [eo.scope, eo.kind]; rfl
  exact wpAny_mono (wpAny_Expr_any (Q := wJ T env ctx σ s K) (h.run eo ro st fr hw fun v u σ₁ s₁ hv st1 p1 fr1 hw1 => ⟨_, ρ, σ₁, .next, st1, fr1, p1.any, hw1⟩) hi (hs env)) (fun _ _ x => x) fun _ _ x => x.any

noncomputable def jg (c : EW) (a b : SW) : SW := fun ρ σ K P => c ρ σ (fun v σ₁ => v.asBool fun t => if t then a ρ σ₁ K P else b ρ σ₁ K P) P
theorem zO {c t e pos} {wc : EW} {a b : SW} (hc : zbN T d sc ctx c wc) (ha : jm T d sc ctx t a) (hb : jm T d sc ctx e b) : zbr T d sc ctx (.If c t e pos) (jg wc a b) := by
  intro A env ρ σ s K P eo ro st fr hw
  refine wpAny_If ?_
  refine wpAny_mono (hc.then eo ro .refl st fr hw (Q' := fun t s₁ => ∃ σ₁, St T σ₁ s₁ ∧ zL T [] σ s σ₁ s₁ ∧ qt T env ctx ρ σ₁ s₁.heap ∧ if t then a ρ σ₁ K P else b ρ σ₁ K P) fun t σ₁ s₁ st1 p1 fr1 hw1 => ⟨σ₁, st1, p1, fr1, hw1⟩) (fun t s₁ h1 => ?_) fun _ _ x => x.any
  obtain ⟨σ₁, st1, p1, fr1, hw1⟩ := h1
  cases t
  · exact wpAny_mono (hb A env ρ σ₁ s₁ K P eo ro st1 fr1 hw1) (fun _ _ x => x.step p1.any) fun _ _ x => x.step p1.any
  · exact wpAny_mono (ha A env ρ σ₁ s₁ K P eo ro st1 fr1 hw1) (fun _ _ x => x.step p1.any) fun _ _ x => x.step p1.any

noncomputable def zhM : SW := fun _ _ _ _ => False
theorem zeW {ps} : zbr T d sc ctx ps zhM := fun _ _ _ _ _ _ _ _ _ _ _ hw => hw.elim

noncomputable def zem (σ : zb) (p : Addr) (k : Int) (v : V) (K : zb → Prop) : Prop := match σ p with
  | some (.list xs) => 0 ≤ k ∧ k < xs.length ∧ K (put σ p (.list (xs.set k.toNat v)))
  | some (.dict kvs) => kvs.length < lim ∧ K (put σ p (.dict (zcu kvs k v)))
  | _ => False
noncomputable def zax (a i e : EW) : SW := fun ρ σ K P => e ρ σ (fun ve σ₁ => a ρ σ₁ (fun va σ₂ => i ρ σ₂ (fun vi σ₃ => va.asRef fun p => vi.asInt fun k => zem σ₃ p k ve (K .next ρ)) P) P) P
theorem qt.turn {env ρ σ} {s : Shared} (fr : qt T env ctx ρ σ s.heap) {p : Addr} {so so'} (hp : σ p = some so) {h' : Heap} (hs : Heap.SameBut p s.heap h') : qt T env ctx ρ (put σ p so') h' := by
  have hl : env.locals ≠ p := by rintro e; have := fr.lfree; rw [e, hp] at this; cases this
  have hc : ∀ x c, (x, c) ∈ env.cells → c ≠ p := by rintro x c hx rfl; have := (fr.cfreeM x c hx).1; rw [hp] at this; cases this
  refine ⟨fr.nd, ?_, fun i x hi hk => ?_, fr.loneM, fr.apartM, by rw [zS _ hl]; exact fr.lfree, fun x c hx => ⟨by rw [zS _ (hc x c hx)]; exact (fr.cfreeM x c hx).1, ?_⟩, fr.lbase, fr.cbaseM⟩
  · obtain ⟨m, hn, h2⟩ := fr.ns
    exact ⟨m, hn.sameBut hs hl, h2⟩
  · obtain ⟨c, o, h1, h2, h3⟩ := fr.cell i x hi hk
    exact ⟨c, o, h1, h2.sameBut hs (hc x c (mem_of_lookup h1)), h3⟩
  · obtain ⟨o, ho⟩ := (fr.cfreeM x c hx).2
    exact ⟨o, ho.sameBut hs (hc x c hx)⟩
set_option maxRecDepth 100000 in
theorem zh6 {prog : Program} {w : World} {A : Around} {E : Value → Shared → Prop} {s : Shared} {a : Addr} {us : Array Value} {n : Nat} {i : Int} {t : Tok} {v : Value} {Q : Unit → Shared → Prop} (ho : IsL s.heap a us n) (h0 : 0 ≤ i) (hz : i < 2 ^ 63) (hj : i < us.size)
    (hq : Q () { s with heap := s.heap.update a (Obj.mapSeq (·.setIfInBounds i.toNat v)) }) : wpAny (model prog w) A (setItem (.ref a) (.int i t) v) Q E s := by
  have ty := ho.isList.typeIs
  have fit := fitsIndex_of h0 hz
  clear hz
  unfold setItem
  refine wpAny_holding (wpAny_bind (wpAny_sequenceKey ty (by decide) (wpAny_bind ?_)))
  refine wpAny_callSpecial?_slot (name := Str.ofString "__setitem__") ty slot_list_setitem (wpAny_call_entry slot_list_setitem ty entry_list_setitem ?_ (args_list_setitem _ _ _))
  show wpAny _ _ (Builtin.List.listSubscript? (.int i t) >>= _) _ _ s
  refine wpAny_bind (wpAny_listSubscript_int fit ?_)
  obtain ⟨j, rfl⟩ := Int.eq_ofNat_of_zero_le h0
  have hj' : j < us.size := by exact Int.ofNat_lt.mp ‹_›
  show wpAny _ _ ((seqItemAt a j >>= fun r => pure (r.map (j, ·))) >>= _) _ _ s
  refine wpAny_bind (wpAny_bind (wpAny_seqItemAt ho rfl (wpAny_pure ?_)))
  rw [Array.getElem?_eq_getElem hj']
  show wpAny _ _ (setSeqItemAt a j v >>= _) _ _ s
  refine wpAny_bind (wpAny_setSeqItemAt ho rfl ?_)
  first | exact wpAny_pure ⟨.none, rfl, wpAny_pure hq⟩ | exact wpAny_bind (wpAny_pure (wpAny_pure ⟨.none, rfl, wpAny_pure hq⟩))
theorem jn {o i e p pos} {wa wi we : EW} (ha : zB T d sc ctx o wa) (hi : zB T d sc ctx i wi) (he : zB T d sc ctx e we)
    (hs : ∀ env, swapsWith e (some (.Subscript o i p)) pos.line env = pure false := by intro _; rfl) : zbr T d sc ctx (.Assign [.Subscript o i p] e pos) (zax wa wi we) := by
  intro A env ρ σ s K P eo ro st fr hw
  refine wpAny_mono (wpAny_Assign_Subscript (Q := wJ T env ctx σ s K) (he.run eo ro st fr hw fun ve ue σ₁ s₁ v1 st1 p1 fr1 hw1 => ?_) (hs env)) (fun _ _ x => x) fun _ _ x => x.any
  refine ha.then eo ro p1 st1 fr1 hw1 fun va ua σ₂ s₂ v2 st2 p2 fr2 hw2 => ?_
  refine hi.then eo ro p2 st2 fr2 hw2 fun vi ui σ₃ s₃ v3 st3 p3 fr3 hw3 => ?_
  obtain ⟨q, hw4⟩ := hw3.get v2
  obtain ⟨k, t, hw5⟩ := hw4.get v3
  unfold zem at hw5
  split at hw5
  · rename_i xs hx
    obtain ⟨h0, h1, hw6⟩ := hw5
    obtain ⟨us, n, ho, hv, hz, hlim⟩ := st3.isL hx
    have hn := st3.notScr hx (by intro _ e; cases e)
    refine zh6 (n := n) ho h0 (by unfold lim at hlim; exact lit (r2 _ _) V0 (.num 9223372036854775808) [(1,1,V0,V1),(0,1,V1,.num 1000000)] rfl h1 (leI hlim)) (by rw [hz]; exact h1) ?_
    have ho' := IsL.update ho (fun x => x.setIfInBounds k.toNat ue)
    exact ⟨_, ρ, _, .next, st3.turn hx hn (Heap.SameBut.update ..) ho' (so' := .list (xs.set k.toNat ve)) ⟨by simpa using hlim, _, _, rfl, by simpa using hv.set k.toNat v1⟩ s₃.toks, fr3.turn hx (Heap.SameBut.update ..), p3.any.trans (zL.refl.turn hx hn (Heap.SameBut.update ..) ho' s₃.toks), hw6⟩
  · rename_i kvs hx
    obtain ⟨h1, hw6⟩ := hw5
    obtain ⟨us, hd, hv, hlim⟩ := st3.dict hx
    have hn := st3.notScr hx (by intro _ e; cases e)
    refine wpAny_setItem_pairs (intKind_is T.prog T.w k t) hd (fun h' hd' hs' => ?_) (by rw [hv.length]; exact Nat.le_trans hlim y9)
    obtain ⟨o', ho', hi'⟩ := Heap.dictOf_iff.mp hd'
    exact ⟨_, ρ, _, .next, st3.turn hx hn hs' ho' (so' := .dict (zcu kvs k ve)) ⟨Nat.le_trans (zfM ..) h1, _, hi', hv.put k v1⟩ _, fr3.turn hx hs', p3.any.trans (zL.refl.turn hx hn hs' ho' _), hw6⟩
  · exact hw5.elim
end
end Mine
end
section
open PySem
namespace Mine
open PySem.Calls PyProof.Rows

structure Iter (T : TC) (A : Around) (I : Addr) (wr : List Addr) (xs : List V) (chk : zb → Prop) (W : Nat → Heap → Prop) : Prop where
  mem : I ∈ wr
  frame : ∀ i h h', W i h → (∀ b ∈ wr, ∀ o, h.get? b = some o → h'.get? b = some o) → W i h'
  item : ∀ i x σ s (Q : Option Value → Shared → Prop) E, xs[i]? = some x → W i s.heap → St T σ s → chk σ →
    (∀ u h' tk, VIs x u → W (i + 1) h' → (∀ b o, b ∉ wr → s.heap.get? b = some o → h'.get? b = some o) → Q (some u) { s with heap := h', toks := tk }) → wpAny T.M A (pyNext (.ref I)) Q E s
  done : ∀ σ s (Q : Option Value → Shared → Prop) E, W xs.length s.heap → St T σ s → chk σ →
    (∀ h' tk, (∀ b o, b ∉ wr → s.heap.get? b = some o → h'.get? b = some o) → Q none { s with heap := h', toks := tk }) → wpAny T.M A (pyNext (.ref I)) Q E s
  self : ∀ i s (Q : Value → Shared → Prop) E, W i s.heap → Q (.ref I) s → wpAny T.M A (pyIter (.ref I)) Q E s
  lets : ∀ i s (target : Expr) (v : Value) (Q : Unit → Shared → Prop) E, W i s.heap → Q () s → wpAny T.M A (letOwnedTupleGo target (.ref I) v) Q E s
  alive : ∀ i h, W i h → ∀ b ∈ wr, ∃ o, h.get? b = some o

theorem zhj {T : TC} {A : Around} {s : Shared} {I : Addr} {o : Obj} {n : String} {vs : Array Value} (target : Expr) (v : Value) {Q : Unit → Shared → Prop} {E} (ho : s.heap.get? I = some o) (hc : o.cls = .type n) (hd : o.data = .fields vs)
    (hn : ["enumerate", "zip", "dict_itemiterator", "dict_reverseitemiterator", "odict_iterator", "itertools.zip_longest", "itertools.pairwise"].contains n = false) (h : Q () s) : wpAny T.M A (letOwnedTupleGo target (.ref I) v) Q E s := by
  have key : wpAny T.M A (do
      let (.ref r, .ref a) := (Value.ref I, v) | return
      let o ← load r
      match o.cls, o.data with
      | .type n, .fields vs =>
        if ["enumerate", "zip", "dict_itemiterator", "dict_reverseitemiterator", "odict_iterator", "itertools.zip_longest", "itertools.pairwise"].contains n && vs[0]? == some (rawInt a) then
          rule "for.unpacks-the-owned-tuple"
          updateField r 0 .none
      | _, _ => pure ()) Q E s := by
    cases v with
    | ref a =>
      refine wpAny_bind (wpAny_load ho ?_)
      rw [hc, hd]
      show wpAny _ _ (if (_ && _ : Bool) = true then _ else _) _ _ _
      rw [hn, Bool.false_and, if_neg Bool.false_ne_true]
      exact wpAny_pure h
    | _ => exact wpAny_pure h
  cases target with
  | Tuple => exact key
  | List => exact key
  | _ => exact wpAny_pure h

section
variable {T : TC} {d : Nat} {sc : Scope} {ctx : List Str}

theorem zgw {A I ax xs} (hh : A.handled = none) (hne : ax ≠ I) : Iter T A I [I] xs (fun σ => σ ax = some (.list xs) ∨ σ ax = some (.ro xs)) (fun i h => h.IsListIter I ax i) where
  mem := by simp
  frame := fun i h h' w hk => w.at fun o e => hk I (by simp) o e
  item := fun i x σ s Q E hx w st ck k => by
    obtain ⟨us, hl, hv, _⟩ := st.list ck
    obtain ⟨u, hu, hvu⟩ := hv.get hx
    exact wpAny_pyNext_list_item w hl (by simpa using hu) fun h' hit' hs' => k u h' s.toks hvu hit' fun b o hb e => hs'.extBut b o (by simpa using hb) e
  done := fun σ s Q E w st ck k => by
    obtain ⟨us, hl, hv, hz, _⟩ := st.list ck
    exact wpAny_pyNext_list_end hh w hl (by simp [hz]) fun h' he' => k h' s.toks fun b o hb e => he' b o (by simpa using hb) e
  self := fun i s Q E w h => wpAny_pyIter_listiter w h
  lets := fun i s t v Q E w h => let ⟨o, ho, hc, hd⟩ := w; zhj t v ho hc hd (by decide) h
  alive := fun i h w b hb => by simp at hb; subst hb; obtain ⟨o, ho, _⟩ := w; exact ⟨o, ho⟩
theorem iter_tup {A I ax xs} (hh : A.handled = none) (hne : ax ≠ I) : Iter T A I [I] xs (fun σ => σ ax = some (.tup xs)) (fun i h => h.IsTupleIter I ax i) where
  mem := by simp
  frame := fun i h h' w hk => w.at fun o e => hk I (by simp) o e
  item := fun i x σ s Q E hx w st ck k => by
    obtain ⟨us, hl, hv, _⟩ := st.tup ck
    obtain ⟨u, hu, hvu⟩ := hv.get hx
    exact wpAny_pyNext_tuple_item w hl (by simpa using hu) fun h' hit' hs' => k u h' s.toks hvu hit' fun b o hb e => hs'.extBut b o (by simpa using hb) e
  done := fun σ s Q E w st ck k => by
    obtain ⟨us, hl, hv, hz, _⟩ := st.tup ck
    exact wpAny_pyNext_tuple_end hh w hl (by simp [hz]) fun h' he' => k h' s.toks fun b o hb e => he' b o (by simpa using hb) e
  self := fun i s Q E w h => wpAny_pyIter_tupleiter w h
  lets := fun i s t v Q E w h => let ⟨o, ho, hc, hd⟩ := w; zhj t v ho hc hd (by decide) h
  alive := fun i h w b hb => by simp at hb; subst hb; obtain ⟨o, ho, _⟩ := w; exact ⟨o, ho⟩
noncomputable def rng (a : Int) (n : Nat) : List V := (List.range n).map fun i : Nat => .int (a + (i : Int))
theorem qf (a n) : (rng a n).length = n := by simp [rng]
theorem qQ {a n i x} (h : (rng a n)[i]? = some x) : i < n ∧ x = .int (a + i) := by
  unfold rng at h
  rw [List.getElem?_map] at h
  cases e : (List.range n)[i]? with
  | none => rw [e] at h; cases h
  | some j =>
    rw [e] at h
    obtain ⟨h1, h2⟩ := List.getElem?_eq_some_iff.mp e
    simp at h1 h2 h
    subst h2; exact ⟨h1, h.symm⟩
theorem iter_range {A I} (hh : A.handled = none) (a : Int) (n : Nat) : Iter T A I [I] (rng a n) (fun _ => True) (fun i h => IsRangeIter h I (a + (i : Nat) * 1) ((n : Int) - (i : Nat)) 1) where
  mem := by simp
  frame := fun i h h' w hk => hk I (by simp) _ w
  item := fun i x σ s Q E hx w st ck k => by
    obtain ⟨hi, rfl⟩ := qQ hx
    refine (Walks.range (prog := T.prog) (w := T.w) hh I a 1 n).item i s Q E hi w fun v h' tk hv w' hk => ?_
    obtain ⟨t, rfl⟩ := hv
    refine k _ h' tk ?_ w' hk
    rw [Int.mul_one]; exact .int _ _
  done := fun σ s Q E w st ck k => by
    rw [qf] at w
    exact (Walks.range (prog := T.prog) (w := T.w) hh I a 1 n).done s Q E w k
  self := fun i s Q E w h => wpAny_pyIter_rangeiter w h
  lets := fun i s t v Q E w h => zhj t v w rfl rfl (by decide) h
  alive := fun i h w b hb => by simp at hb; subst hb; exact ⟨_, w⟩

noncomputable abbrev zhx := zP → zb → (List V → (zb → Prop) → zb → Prop) → (Nat → zb → Prop) → Prop
inductive SrcAt (T : TC) (A : Around) (σ₀ : zb) (s₀ : Shared) (Q : List V → (zb → Prop) → zb → Prop) (it : Value) (s : Shared) : Prop
  | mk (xs chk σ I wr W) (h1 : it = .ref I) (h2 : Iter T A I wr xs chk W) (h3 : W 0 s.heap) (h4 : St T σ s) (h5 : zL T [] σ₀ s₀ σ s) (h6 : ∀ b ∈ wr, σ b = none ∧ T.hb.get? b = none ∧ s₀.heap.get? b = none) (h7 : Q xs chk σ) : SrcAt T A σ₀ s₀ Q it s
noncomputable def zev (T : TC) (d : Nat) (sc : Scope) (ctx : List Str) (pe : Expr) (w : zhx) : Prop :=
  (∀ env x, foldedSetIterable pe env x = pure x) ∧
  ∀ A env ρ σ s Q P, q8 sc env → zah T A d → St T σ s → qt T env ctx ρ σ s.heap → w ρ σ Q P →
    wpAny T.M A (eval pe env) (fun x s₁ => wpAny T.M A (pyIter x) (SrcAt T A σ s Q) (jj T [] σ s P) s₁) (jj T [] σ s P) s

noncomputable def zcl (σ : zb) (p : Addr) (k : List V → (zb → Prop) → Prop) : Prop := match σ p with
  | some (.list xs) => k xs (fun σ => σ p = some (.list xs) ∨ σ p = some (.ro xs))
  | some (.ro xs) => k xs (fun σ => σ p = some (.list xs) ∨ σ p = some (.ro xs))
  | some (.tup xs) => k xs (fun σ => σ p = some (.tup xs))
  | _ => False
noncomputable def zbh (a : EW) : zhx := fun ρ σ Q P => a ρ σ (fun v σ₁ => v.asRef fun p => zcl σ₁ p fun xs chk => Q xs chk σ₁) P
theorem zeT {A σ₀ s₀ σ s xs chk ob W} {Q : List V → (zb → Prop) → zb → Prop} (st : St T σ s) (p : zL T [] σ₀ s₀ σ s) (it : Iter T A s.heap.objs.size [s.heap.objs.size] xs chk W) (w : W 0 (s.heap.push ob)) (hq : Q xs chk σ) (tk : Nat) :
    SrcAt T A σ₀ s₀ Q (.ref s.heap.objs.size) { s with heap := s.heap.push ob, toks := tk } := by
  refine ⟨xs, chk, σ, _, _, W, rfl, it, w, st.push _ _, p.push _ _, fun b hb => ?_, hq⟩
  simp at hb; subst hb
  refine ⟨st.sizeFree, st.hbSize, ?_⟩
  cases e : s₀.heap.get? s.heap.objs.size with
  | none => rfl
  | some o => obtain ⟨o', h'⟩ := p.live _ _ e; rw [get?_size] at h'; cases h'
theorem qP {pe} {a : EW} (h : zB T d sc ctx pe a) (hf : ∀ env x, foldedSetIterable pe env x = pure x := by intro _ _; rfl) (C : T.calm = true := by assumption) : zev T d sc ctx pe (zbh a) := by
  refine ⟨hf, fun A env ρ σ s Q P eo ro st fr hw => ?_⟩
  refine h.run eo ro st fr hw fun v u σ₁ s₁ hv st1 p1 fr1 hw1 => ?_
  obtain ⟨p, hw2⟩ := hw1.get hv
  unfold zcl at hw2
  split at hw2
  · rename_i xs hx
    obtain ⟨us, hl, _⟩ := st1.list (.inl hx)
    exact wpAny_pyIter_list hl (zeT st1 p1 (zgw (ro.handled C) (Nat.ne_of_lt (st1.lt hx))) ⟨_, Heap.get?_push_size _ rfl, rfl, rfl⟩ hw2 s₁.toks)
  · rename_i xs hx
    obtain ⟨us, hl, _⟩ := st1.list (.inr hx)
    exact wpAny_pyIter_list hl (zeT st1 p1 (zgw (ro.handled C) (Nat.ne_of_lt (st1.lt hx))) ⟨_, Heap.get?_push_size _ rfl, rfl, rfl⟩ hw2 s₁.toks)
  · rename_i xs hx
    obtain ⟨us, hl, _⟩ := st1.tup hx
    exact wpAny_pyIter_tuple hl (zeT st1 p1 (iter_tup (ro.handled C) (Nat.ne_of_lt (st1.lt hx))) ⟨_, Heap.get?_push_size _ rfl, rfl, rfl⟩ hw2 s₁.toks)
  · exact hw2.elim

noncomputable def jc (a : Int) : Prop := -(2 ^ 62) ≤ a ∧ a < 2 ^ 62
noncomputable def jN (a : EW) : zhx := fun ρ σ Q P => a ρ σ (fun v σ₁ => v.asInt fun n => jc n ∧ Q (rng 0 n.toNat) (fun _ => True) σ₁) P
noncomputable def zgl (a b : EW) : zhx := fun ρ σ Q P => a ρ σ (fun va σ₁ => b ρ σ₁ (fun vb σ₂ => va.asInt fun m => vb.asInt fun n => jc m ∧ jc n ∧ Q (rng m (n - m).toNat) (fun _ => True) σ₂) P) P
theorem ze2 {A σ₀ s₀ σ s r t u v E} {m n : Int} {Q : List V → (zb → Prop) → zb → Prop} (C : T.calm = true) (ro : zah T A d) (st : St T σ s) (p : zL T [] σ₀ s₀ σ s) (hr : IsRange s.heap r m n 1 t u v) (hm : jc m) (hn : jc n) (hq : Q (rng m (n - m).toNat) (fun _ => True) σ) :
    wpAny T.M A (pyIter (.ref r)) (SrcAt T A σ₀ s₀ Q) E s := by
  refine wpAny_pyIter_range hr (small_one hm.1 hm.2 hn.1 hn.2) ?_
  refine zeT st p (iter_range (ro.handled C) m (n - m).toNat) ?_ hq s.toks
  have e : Builtin.Range.rangeSize m n 1 = ((n - m).toNat : Int) := by rw [rangeSize_one]; split <;> (first | exact liq (r3 _ _ _) (.sub V0 V1) V2 [(2,-1,V2,.sub V0 V1)] rfl (tnn (lin (r2 _ _) N0 (.sub V0 V1) [(1,1,V1,V0)] rfl ‹_›)) | lia)
  show Heap.get? _ _ = _
  rw [Heap.get?_push_size _ rfl, e]
  simp
theorem qj (ok : T.Ok) (B : Blt T) {p pos e} {a : EW} (h : zB T d sc ctx e a) (hx : sc.names.lookup ("range" : Str) = some .globalImplicit)
    (he : ∀ env, starEach [e] env = [(false, eval e env)] := by intro _; rfl) (C : T.calm = true := by assumption) : zev T d sc ctx (.Call (.Name "range" p) [e] [] pos) (jN a) := by
  refine ⟨fun _ _ => rfl, fun A env ρ σ s Q P eo ro st fr hw => ?_⟩
  refine Call_ (jP ok eo st hx (B.none _ (by decide)) (v := .type "range") (by decide +kernel) (by decide) (by decide) ?_)
  refine callWith_type1 (args_cons (h.then eo ro .refl st fr hw fun v u σ₁ s₁ hv st1 p1 fr1 hw1 => args_nil ?_) (he env)) (he env) rfl
  obtain ⟨n, t, hn, hw2⟩ := hw1.get hv
  refine call_range_1 ?_
  refine ze2 C ro (st1.push _ _) (p1.push _ _) (IsRange.new ..) ⟨by decide, by decide⟩ hn ?_
  simpa using hw2
theorem zfF (ok : T.Ok) (B : Blt T) {p pos e e'} {a b : EW} (h : zB T d sc ctx e a) (h' : zB T d sc ctx e' b) (hx : sc.names.lookup ("range" : Str) = some .globalImplicit)
    (he1 : ∀ env, starEach [e, e'] env = (false, eval e env) :: starEach [e'] env := by intro _; rfl) (he2 : ∀ env, starEach [e'] env = [(false, eval e' env)] := by intro _; rfl) (C : T.calm = true := by assumption) : zev T d sc ctx (.Call (.Name "range" p) [e, e'] [] pos) (zgl a b) := by
  refine ⟨fun _ _ => rfl, fun A env ρ σ s Q P eo ro st fr hw => ?_⟩
  refine Call_ (jP ok eo st hx (B.none _ (by decide)) (v := .type "range") (by decide +kernel) (by decide) (by decide) ?_)
  refine callWith_type1 (args_cons (h.then eo ro .refl st fr hw fun v u σ₁ s₁ hv st1 p1 fr1 hw1 => ?_) (he1 env)) (he1 env) (by rw [he2]; rfl)
  refine args_cons (h'.then eo ro p1 st1 fr1 hw1 fun v' u' σ₂ s₂ hv' st2 p2 fr2 hw2 => args_nil ?_) (he2 env)
  obtain ⟨m, t, hw3⟩ := hw2.get hv
  obtain ⟨n, t', hm, hn, hw4⟩ := hw3.get hv'
  refine call_range_2 ?_
  exact ze2 C ro (st2.push _ _) (p2.push _ _) (IsRange.new ..) hm hn hw4
end
end Mine
end
section
open PySem
namespace Mine
open PySem.Calls PyProof.Rows

section
variable {T : TC} {d : Nat} {sc : Scope} {ctx : List Str}

theorem zL.off {X σ₀ s₀ σ s} (a : zL T X σ₀ s₀ σ s) {wr : List Addr} (hw : ∀ b ∈ wr, s₀.heap.get? b = none) {h' : Heap} (hk : ∀ b o, b ∉ wr → s.heap.get? b = some o → h'.get? b = some o) (tk : Nat) : zL T X σ₀ s₀ σ { s with heap := h', toks := tk } := by
  have nw : ∀ b o, s₀.heap.get? b = some o → b ∉ wr := fun b o e hb => by rw [hw b hb] at e; cases e
  exact ⟨fun b o hf hb e => let ⟨o', h, r⟩ := a.keep b o hf hb e; ⟨o', hk b o' (nw b o e) h, r⟩, fun b o e => let ⟨o', h⟩ := a.live b o e; ⟨o', hk b o' (nw b o e) h⟩, a.mono, a.new⟩
theorem St.off {σ s} (st : St T σ s) {wr : List Addr} (hw : ∀ b ∈ wr, σ b = none ∧ T.hb.get? b = none ∧ b ∉ frs T) {h' : Heap} (hk : ∀ b o, b ∉ wr → s.heap.get? b = some o → h'.get? b = some o) (tk : Nat) : St T σ { s with heap := h', toks := tk } := by
  obtain ⟨h, t, e⟩ := st.rest
  refine ⟨⟨h', tk, by rw [e]⟩, fun b o e => hk b o (fun hb => by rw [(hw b hb).2.1] at e; cases e) (st.base b o e), fun a so ha => ?_, st.fresh, st.sysm, st.ro, st.framesOf (fun _ _ h => h) fun L hL ⟨o, es, ep, e, d⟩ => ⟨o, es, ep, hk L o (fun hb => (hw L hb).2.2 hL) e, d⟩⟩
  obtain ⟨o, h1, h2⟩ := st.objs a so ha
  exact ⟨o, hk a o (fun hb => by rw [(hw a hb).1] at ha; cases ha) h1, h2⟩
theorem qt.off {env ρ σ} {h h' : Heap} (fr : qt T env ctx ρ σ h) {wr : List Addr} (hw : ∀ b ∈ wr, b ∉ own env) (hk : ∀ b o, b ∉ wr → h.get? b = some o → h'.get? b = some o) : qt T env ctx ρ σ h' := by
  have hl : env.locals ∉ wr := fun hb => hw _ hb (by simp [own])
  have hc : ∀ x c, (x, c) ∈ env.cells → c ∉ wr := fun x c hx hb => hw c hb (by simp only [own, List.mem_cons, List.mem_map]; exact .inr ⟨(x, c), hx, rfl⟩)
  refine ⟨fr.nd, ?_, fun i x hi hk' => ?_, fr.loneM, fr.apartM, fr.lfree, fun x c hx => ⟨(fr.cfreeM x c hx).1, ?_⟩, fr.lbase, fr.cbaseM⟩
  · obtain ⟨m, ⟨o, es, ep, ho, r⟩, h2⟩ := fr.ns
    exact ⟨m, ⟨o, es, ep, hk _ _ hl ho, r⟩, h2⟩
  · obtain ⟨c, o, h1, ⟨ob, e, dd⟩, h3⟩ := fr.cell i x hi hk'
    exact ⟨c, o, h1, ⟨ob, hk _ _ (hc x c (mem_of_lookup h1)) e, dd⟩, h3⟩
  · obtain ⟨o, ob, e, dd⟩ := (fr.cfreeM x c hx).2
    exact ⟨o, ob, hk _ _ (hc x c hx) e, dd⟩
theorem qt.forget {env ρ ρ' σ h} (fr : qt T env ctx ρ σ h) (hρ : ∀ i v, jW ρ' i = some v → jW ρ i = some v) : qt T env ctx ρ' σ h := by
  refine ⟨fr.nd, ?_, fun i x hi hk => ?_, fr.loneM, fr.apartM, fr.lfree, fr.cfreeM, fr.lbase, fr.cbaseM⟩
  · obtain ⟨m, hn, h2⟩ := fr.ns
    exact ⟨m, hn, fun i x v hi hk hv => h2 i x v hi hk (hρ i v hv)⟩
  · obtain ⟨c, o, h1, h2, h3⟩ := fr.cell i x hi hk
    exact ⟨c, o, h1, h2, fun v hv => h3 v (hρ i v hv)⟩
theorem zio {env ρ σ h} (fr : qt T env ctx ρ σ h) : ∀ b ∈ own env, ∃ o, h.get? b = some o := by
  intro b hb
  simp only [own, List.mem_cons, List.mem_map] at hb
  rcases hb with rfl | ⟨⟨x, c⟩, hm, rfl⟩
  · obtain ⟨m, ⟨o, _, _, ho, _⟩, _⟩ := fr.ns; exact ⟨o, ho⟩
  · obtain ⟨o, ob, e, _⟩ := (fr.cfreeM x c hm).2; exact ⟨ob, e⟩

inductive Tgt where
  | nm (i : Nat)
  | tup (is : List Nat)
noncomputable def zbm : zP → List Nat → List V → zP
  | ρ, i :: is, v :: vs => zbm (ym ρ i v) is vs
  | ρ, _, _ => ρ
noncomputable def zfv (t : Tgt) (v : V) (ρ : zP) (σ : zb) (k : zP → Prop) : Prop := match t with
  | .nm i => k (ym ρ i v)
  | .tup is => v.asRef fun p => zfy σ p fun xs => xs.length = is.length ∧ k (zbm ρ is xs)

inductive yi (sc : Scope) (ctx : List Str) (lo : Bool) : List Expr → List Nat → Prop
  | nil : yi sc ctx lo [] []
  | cons {x p i r is} : ctx[i]? = some x → zek (sc.names.lookup x) = true → (lo = true → sc.names.lookup x = some .local) → yi sc ctx lo r is → yi sc ctx lo (.Name x p :: r) (i :: is)
theorem yi.length {lo es is} (h : yi sc ctx lo es is) : es.length = is.length := by
  induction h with
  | nil => rfl
  | cons _ _ _ _ ih => exact congrArg Nat.succ ih
theorem yi.each {lo env es is} (h : yi sc ctx lo es is) : (assignEach es env).length = is.length ∧ (assignEach es env).findIdx? (·.1) = none := by
  induction h with
  | nil => exact ⟨rfl, rfl⟩
  | @cons x p i r is _ _ _ _ ih =>
    show ((false, assign (.Name x p) env) :: assignEach r env).length = _ ∧ List.findIdx? _ ((false, assign (.Name x p) env) :: assignEach r env) = none
    refine ⟨congrArg Nat.succ ih.1, ?_⟩
    rw [List.findIdx?_cons, ih.2]; rfl
noncomputable def ownX (env : Env) (lo : Bool) : List Addr := if lo then [env.locals] else own env
theorem store_X {lo A E env ρ σ s} {x : Str} {i : Nat} {v : V} {u : Value} {Q : Unit → Shared → Prop} (eo : q8 sc env) (st : St T σ s) (fr : qt T env ctx ρ σ s.heap) (hx : ctx[i]? = some x) (hk : zek (sc.names.lookup x) = true) (hlo : lo = true → sc.names.lookup x = some .local) (hv : VIs v u)
    (h : ∀ s', St T σ s' → qt T env ctx (ym ρ i v) σ s'.heap → zL T (ownX env lo) σ s σ s' → Q () s') : wpAny T.M A (storeName env x u) Q E s :=
  zeq eo st fr hx hk hv fun s' a ha hl st' fr' p' => h s' st' fr' (p'.weaken (by
    intro b hb
    simp at hb; subst hb
    unfold ownX
    cases lo with
    | false => exact ha
    | true => simp only [if_true, List.mem_singleton]; exact hl.1 (hlo rfl)))
theorem assigns {lo A E env} (eo : q8 sc env) {es is} (hn : yi sc ctx lo es is) {ρ σ s vs us} {Q : Unit → Shared → Prop} (st : St T σ s) (fr : qt T env ctx ρ σ s.heap) (hv : jL vs us) (hl : vs.length = is.length)
    (k : ∀ s', St T σ s' → qt T env ctx (zbm ρ is vs) σ s'.heap → zL T (ownX env lo) σ s σ s' → Q () s') : wpAny T.M A (assignInOrder ((assignEach es env).map (·.2)) us) Q E s := by
  induction hn generalizing ρ s vs us with
  | nil =>
    cases hv with
    | nil => exact wpAny_assignInOrder_none (k s st fr .refl)
    | cons _ _ => exact Nat.noConfusion hl
  | cons hx hk hlo h ih =>
    cases hv with
    | nil => exact Nat.noConfusion hl
    | cons h1 h2 =>
      refine wpAny_assignInOrder_more (wpAny_assign_Name (store_X eo st fr hx hk hlo h1 fun s₁ st1 fr1 p1 => ?_))
      exact ih st1 fr1 h2 (Nat.succ.inj hl) fun s₂ st2 fr2 p2 => k s₂ st2 fr2 (p1.trans p2)

inductive TgtOK (sc : Scope) (ctx : List Str) (lo : Bool) : Expr → Tgt → Prop
  | nm {x p i} : ctx[i]? = some x → zek (sc.names.lookup x) = true → (lo = true → sc.names.lookup x = some .local) → TgtOK sc ctx lo (.Name x p) (.nm i)
  | tup {es k p is} : yi sc ctx lo es is → TgtOK sc ctx lo (.Tuple es k p) (.tup is)
theorem assign_ {lo A E env target t ρ σ s v u} {k : zP → Prop} {Q : Unit → Shared → Prop} (eo : q8 sc env) (hh : A.handled = none) (ht : TgtOK sc ctx lo target t) (st : St T σ s) (fr : qt T env ctx ρ σ s.heap) (hv : VIs v u) (hw : zfv t v ρ σ k)
    (h : ∀ s' ρ', St T σ s' → qt T env ctx ρ' σ s'.heap → zL T (ownX env lo) σ s σ s' → k ρ' → Q () s') : wpAny T.M A (assign target env u) Q E s := by
  cases ht with
  | nm hx hk hlo => exact wpAny_assign_Name (store_X eo st fr hx hk hlo hv fun s' st' fr' p' => h s' _ st' fr' p' hw)
  | tup hn =>
    obtain ⟨p, hw2⟩ := V.asRef.get hw hv
    obtain ⟨xs, hx, hl, hw3⟩ := hw2.get
    obtain ⟨us, ht, hvs, hz, _⟩ := st.tup hx
    have he := hn.each (env := env)
    refine wpAny_assign_Tuple hh ht (by rw [he.1, hz, hl]) he.2 fun h' hx' => ?_
    have hk : ∀ b o, s.heap.get? b = some o → h'.get? b = some o := fun b o e => hx' b o (Nat.ne_of_lt (Heap.lt_size e)) e
    have p0 : zL T (ownX env lo) σ s σ { s with heap := h', toks := s.toks } := zL.refl.grow hk _
    refine assigns eo hn (st.grow hk s.toks) (fr.step (zL.refl.grow hk s.toks)) hvs hl fun s' st' fr' p' => h s' _ st' fr' (p0.trans p') hw3

noncomputable def asgTW (is : List Nat) (a : EW) : SW := fun ρ σ K P => a ρ σ (fun v σ₁ => zfv (.tup is) v ρ σ₁ fun ρ' => K .next ρ' σ₁) P
theorem zhf {es k tp e pos is} {a : EW} (hn : yi sc ctx false es is) (h : zB T d sc ctx e a)
    (hs : ∀ env, swapsWithSole [.Tuple es k tp] e pos.line env = pure false := by intro _; rfl) (hw : ∀ env, swappedStores [.Tuple es k tp] e env = pure none := by intro _; rfl) (C : T.calm = true := by assumption) :
    zbr T d sc ctx (.Assign [.Tuple es k tp] e pos) (asgTW is a) := by
  intro A env ρ σ s K P eo ro st fr hq
  refine wpAny_mono (Assign_Tuple (Q := wJ T env ctx σ s K) (h.run eo ro st fr hq fun v u σ₁ s₁ hv st1 p1 fr1 hw1 => ?_) (hs env) (hw env)) (fun _ _ x => x) fun _ _ x => x.any
  exact assign_ eo (ro.handled C) (.tup hn) st1 fr1 hv hw1 fun s₂ ρ' st2 fr2 p2 hk => ⟨_, ρ', σ₁, .next, st2, fr2, p1.any.trans p2, hk⟩

noncomputable def noP : Nat → zb → Prop := fun _ _ => False
theorem jj.no {X σ s e s'} (h : jj T X σ s noP e s') : False := let ⟨_, _, _, _, _, f⟩ := h; f
noncomputable def zhI (chk : zb → Prop) (t : Tgt) (b : SW) : List V → zP → zb → (Out → zP → zb → Prop) → Prop
  | [], ρ, σ, K => chk σ ∧ K .next ρ σ
  | v :: r, ρ, σ, K => chk σ ∧ zfv t v ρ σ fun ρ' => b ρ' σ (fun o ρ'' σ'' => match o with | .next => zhI chk t b r ρ'' σ'' K | .ret u => K (.ret u) ρ'' σ'') noP
noncomputable def yL (t : Tgt) (src : zhx) (b : SW) : SW := fun ρ σ K P => src ρ σ (fun xs chk σ₁ => zhI chk t b xs ρ σ₁ K) P
theorem drop_get {xs : List V} {i : Nat} {x : V} {r : List V} (h : xs.drop i = x :: r) : xs[i]? = some x ∧ xs.drop (i + 1) = r := by
  constructor
  · have : (xs.drop i)[0]? = some x := by rw [h]; rfl
    simpa using this
  · have : (xs.drop i).drop 1 = r := by rw [h]; rfl
    simpa using this
theorem qr {tg it body pos} {t : Tgt} {src : zhx} {b : SW} (ht : TgtOK sc ctx false tg t) (hs : zev T d sc ctx it src) (hb : jm T d sc ctx body b) (C : T.calm = true := by assumption) : zbr T d sc ctx (.For tg it body [] pos) (yL t src b) := by
  intro A env ρ σ s K P eo ro st fr hw
  refine wpAny_mono (wpAny_For (Q := wJ T env ctx σ s K) (E := jj T [] σ s P) ?_ (hs.1 env)) (fun _ _ x => x) fun _ _ x => x.any
  refine wpAny_mono (hs.2 A env ρ σ s _ P eo ro st fr hw) (fun x s₁ h₁ => wpAny_mono h₁ (fun itv s₂ h₂ => ?_) fun _ _ e => e) fun _ _ e => e
  obtain ⟨xs, chk, σ₂, I, wr, W, rfl, ite, w0, st2, p2, hwr, hl⟩ := h₂
  have fr2 := fr.step p2
  have hown : ∀ b ∈ wr, b ∉ own env := fun b hb ho => by obtain ⟨o, e⟩ := zio fr b ho; rw [(hwr b hb).2.2] at e; cases e
  refine codeAny_forLoop_any (fun n s' => X3 fun i ρ' σ' => A8 (n = xs.length + 1 - i) (i ≤ xs.length) (W i s'.heap) (St T σ' s') (qt T env ctx ρ' σ' s'.heap) (zL T (own env) σ s σ' s') ((∀ b ∈ wr, σ' b = none)) (zhI chk t b (xs.drop i) ρ' σ' K)) ?_ (xs.length + 1)
    ⟨0, ρ, σ₂, rfl, Nat.zero_le _, w0, st2, fr2, p2.any, fun b hb => (hwr b hb).1, by simpa using hl⟩
  rintro n s' ⟨i, ρ', σ', rfl, hi, w, st', fr', p', hf, hl⟩
  have hnf : ∀ b ∈ wr, b ∉ frs T := fun b hb => st.notFr (hwr b hb).2.2
  have hwr' : ∀ b ∈ wr, σ' b = none ∧ T.hb.get? b = none ∧ b ∉ frs T := fun b hb => ⟨hf b hb, (hwr b hb).2.1, hnf b hb⟩
  have hs0 : ∀ b ∈ wr, s.heap.get? b = none := fun b hb => (hwr b hb).2.2
  cases hd : xs.drop i with
  | nil =>
    rw [hd] at hl
    have hlen : i = xs.length := by have := congrArg List.length hd; simp at this; lia
    subst hlen
    refine ite.done σ' s' _ _ w st' hl.1 fun h' tk hk => ?_
    exact wpAny_execs_nil ⟨_, ρ', σ', .next, st'.off hwr' hk tk, fr'.off hown hk, p'.off hs0 hk tk, hl.2⟩
  | cons v r =>
    rw [hd] at hl
    obtain ⟨hx, hr⟩ := drop_get hd
    have hlt : i < xs.length := (List.getElem?_eq_some_iff.mp hx).1
    refine ite.item i v σ' s' _ _ hx w st' hl.1 fun u h' tk hv w1 hk => ?_
    refine ite.lets (i + 1) _ tg u _ _ w1 ?_
    refine assign_ eo (ro.handled C) ht (st'.off hwr' hk tk) (fr'.off hown hk) hv hl.2 fun s₃ ρ₃ st3 fr3 p3 hk3 => ?_
    have w3 : W (i + 1) s₃.heap := ite.frame _ _ _ w1 fun b hb o e => p3.keepX (.inl (hf b hb)) (hown b hb) (hnf b hb) e
    have p3' := (p'.off hs0 hk tk).trans p3
    refine wpAny_mono (hb A env ρ₃ σ' s₃ _ noP eo ro st3 fr3 hk3) (fun f s₄ h₄ => ?_) fun _ _ x => x.no.elim
    obtain ⟨o, ρ₄, σ₄, hfl, st4, fr4, p4, hk4⟩ := h₄
    cases hfl with
    | next =>
      refine ⟨xs.length + 1 - (i + 1), by lia, i + 1, ρ₄, σ₄, rfl, hlt, ?_, st4, fr4, p3'.trans p4, fun b hb => ?_, by rw [hr]; exact hk4⟩
      · exact ite.frame _ _ _ w3 fun b hb o e => p4.keepX (.inl (hf b hb)) (hown b hb) (hnf b hb) e
      · obtain ⟨o, e⟩ := ite.alive _ _ w3 b hb
        exact p4.free (hf b hb) e
    | ret hv => exact ⟨_, ρ₄, σ₄, .ret hv, st4, fr4, p3'.trans p4, hk4⟩

noncomputable def zbk (c : EW) (b : SW) : Nat → zP → zb → (Out → zP → zb → Prop) → Prop
  | 0, _, _, _ => False
  | n + 1, ρ, σ, K => c ρ σ (fun v σ₁ => v.asBool fun t => if t then b ρ σ₁ (fun o ρ' σ' => match o with | .next => zbk c b n ρ' σ' K | .ret u => K (.ret u) ρ' σ') noP else K .next ρ σ₁) noP
noncomputable def zep (c : EW) (b : SW) : SW := fun ρ σ K _ => ∃ n, zbk c b n ρ σ K
theorem zc8 {c body pos} {wc : EW} {b : SW} (hc : zbN T d sc ctx c wc) (hb : jm T d sc ctx body b) : zbr T d sc ctx (.While c body [] pos) (zep wc b) := by
  intro A env ρ σ s K P eo ro st fr hw
  obtain ⟨n, hw⟩ := hw
  refine wpAny_While ?_
  refine codeAny_whileLoop (fun n s' => X2 fun ρ' σ' => A4 (St T σ' s') (qt T env ctx ρ' σ' s'.heap) (zL T (own env) σ s σ' s') (zbk wc b n ρ' σ' K)) ?_ n ⟨ρ, σ, st, fr, .refl, hw⟩
  rintro n s' ⟨ρ', σ', st', fr', p', hw⟩
  cases n with
  | zero => exact hw.elim
  | succ n =>
    refine wpAny_mono (hc.then eo ro .refl st' fr' hw (Q' := fun t s₁ => ∃ σ₁, St T σ₁ s₁ ∧ zL T [] σ' s' σ₁ s₁ ∧ qt T env ctx ρ' σ₁ s₁.heap ∧ if t then _ else _) fun t σ₁ s₁ st1 p1 fr1 hw1 => ⟨σ₁, st1, p1, fr1, hw1⟩) (fun t s₁ h1 => ?_) fun _ _ x => x.no.elim
    obtain ⟨σ₁, st1, p1, fr1, hw1⟩ := h1
    cases t
    · exact wpAny_execs_nil ⟨_, ρ', σ₁, .next, st1, fr1, p'.trans p1.any, hw1⟩
    · refine wpAny_mono (hb A env ρ' σ₁ s₁ _ noP eo ro st1 fr1 hw1) (fun f s₂ h₂ => ?_) fun _ _ x => x.no.elim
      obtain ⟨o, ρ₂, σ₂, hfl, st2, fr2, p2, hk⟩ := h₂
      cases hfl with
      | next => exact ⟨n, Nat.lt_succ_self _, ρ₂, σ₂, st2, fr2, (p'.trans p1.any).trans p2, hk⟩
      | ret hv => exact ⟨_, ρ₂, σ₂, .ret hv, st2, fr2, (p'.trans p1.any).trans p2, hk⟩
end
end Mine
end
section
open PySem
namespace Mine
open PySem.Calls PyProof.Rows

noncomputable def zaP : zP → Nat → zP
  | [], _ => []
  | _ :: r, 0 => none :: r
  | o :: r, i + 1 => o :: zaP r i
theorem wt (ρ : zP) (i j : Nat) (u : V) : jW (zaP ρ i) j = some u → j ≠ i ∧ jW ρ j = some u := by
  induction ρ generalizing i j with
  | nil => exact fun h => qF rfl h
  | cons o r ih =>
    cases i with
    | zero => exact Nat.casesOn j (fun h => qF rfl h) fun j h => ⟨Nat.succ_ne_zero j, h⟩
    | succ i => exact Nat.casesOn j (fun h => ⟨Nat.noConfusion, h⟩) fun j h => ⟨fun e => (ih i j h).1 (Nat.succ.inj e), (ih i j h).2⟩
theorem zh5 (ρ : zP) (i : Nat) (v : V) : ym (zaP ρ i) i v = ym ρ i v := by
  induction ρ generalizing i with
  | nil => rfl
  | cons o r ih => exact Nat.casesOn i rfl fun i => congrArg (List.cons o) (ih i)
theorem zbf (ρ : zP) (i j : Nat) (v u : V) : j ≠ i → jW ρ j = some u → jW (ym ρ i v) j = some u := by
  induction ρ generalizing i j with
  | nil => exact fun _ h => h
  | cons o r ih =>
    cases i with
    | zero => exact Nat.casesOn j (fun hn _ => absurd rfl hn) fun j _ h => h
    | succ i => exact Nat.casesOn j (fun _ h => h) fun j hn h => ih i j (fun e => hn (congrArg Nat.succ e)) h

noncomputable def zbi (scope sc : Scope) : Scope :=
  { scope with names := scope.names.map fun (n, k) => if (k == .free && sc.kind == .function && sc.names.lookup n == some .cell) then (n, .cell) else (n, k) }
theorem relS_eq {scope sc env} (eo : q8 sc env) : relabel scope env = zbi scope sc := by
  obtain ⟨h, _, _, _⟩ := eo
  subst h; rfl

structure CompB (sc : Scope) (ctx : List Str) (scope : Scope) : Prop where
  kind : scope.kind = .function
  nocell : ∀ y ∈ scope.names, y.2 ≠ .cell
  names : ∀ y ∈ scope.names, y.2 = .local → scope.names.lookup y.1 = some .local
  free : ∀ y ∈ scope.names, y.2 = .free → zgm (sc.names.lookup y.1) = true ∧ sc.names.lookup y.1 ≠ some .local ∧ ∃ i : Nat, ctx[i]? = some y.1
structure CompL (sc : Scope) (ctx : List Str) (scope : Scope) (j : Nat) (x : Str) : Prop extends CompB sc ctx scope where
  tgt : ctx[j]? = some x ∧ scope.names.lookup x = some .local
  onlyx : ∀ y ∈ ctx, scope.names.lookup y = some .local → y = x

theorem zej {f : Str → NameKind → NameKind} (l : List (Str × NameKind)) (x : Str) : (l.map fun (n, k) => (n, f n k)).lookup x = (l.lookup x).map (f x) := by
  induction l with
  | nil => rfl
  | cons y r ih =>
    rw [List.map_cons, List.lookup_cons, List.lookup_cons, ih]
    by_cases h : x = y.1
    · subst h; rw [beq_self_eq_true]; rfl
    · rw [beq_eq_false_iff_ne.mpr h]
theorem wq (scope sc : Scope) (x : Str) : (zbi scope sc).names.lookup x = (scope.names.lookup x).map fun k => if (k == .free && sc.kind == .function && sc.names.lookup x == some .cell) then .cell else k := by
  have e : (zbi scope sc).names = scope.names.map fun (n, k) => (n, if (k == .free && sc.kind == .function && sc.names.lookup n == some .cell) then NameKind.cell else k) := by
    unfold zbi
    simp only
    apply List.map_congr_left
    rintro ⟨n, k⟩ _
    simp only
    split <;> rfl
  rw [e]
  exact zej (f := fun n k => if (k == .free && sc.kind == .function && sc.names.lookup n == some .cell) then NameKind.cell else k) scope.names x

theorem zeE {α : Type} {l : List (Str × α)} {x : Str} {a : α} (h : (x, a) ∈ l) : ∃ b, l.lookup x = some b := by
  induction l with
  | nil => cases h
  | cons y r ih =>
    rw [List.lookup_cons]
    cases e : x == y.1 with
    | true => exact ⟨y.2, rfl⟩
    | false => exact (List.mem_cons.mp h).elim (fun h => absurd (h ▸ rfl) (beq_eq_false_iff_ne.mp e)) ih
theorem zg7 (env : Env) (f : Str × NameKind → List (Str × Addr) → Sem (ForInStep (List (Str × Addr)))) (hf1 : ∀ n c r, env.cells.lookup n = some c → f (n, .free) r = pure (.yield ((n, c) :: r))) (hf2 : ∀ n k r, k ≠ .free → f (n, k) r = pure (.yield r)) :
    ∀ (names : List (Str × NameKind)) (cs : List (Str × Addr)), (∀ y ∈ names, y.2 = .free → ∃ c, env.cells.lookup y.1 = some c) →
    ∃ cl, forIn names cs f = pure cl ∧
      (∀ x c, (x, c) ∈ cl → (x, c) ∈ cs ∨ env.cells.lookup x = some c) ∧ (∀ x c, (x, c) ∈ cs → (x, c) ∈ cl) ∧ (∀ y ∈ names, y.2 = .free → ∃ c, (y.1, c) ∈ cl) := by
  intro names
  induction names with
  | nil => exact fun cs _ => ⟨cs, rfl, fun _ _ h => .inl h, fun _ _ h => h, fun _ h => absurd h List.not_mem_nil⟩
  | cons nk r ih =>
    obtain ⟨n, k⟩ := nk
    intro cs h
    by_cases hk : k = .free
    · subst hk
      obtain ⟨c, hc⟩ := h (n, .free) (List.mem_cons_self ..) rfl
      obtain ⟨cl, e, h1, h2, h3⟩ := ih ((n, c) :: cs) fun y hy => h y (List.mem_cons_of_mem _ hy)
      refine ⟨cl, ?_, fun x c' hx => ?_, fun x c' hx => h2 x c' (List.mem_cons_of_mem _ hx), fun y hy hf => ?_⟩
      · rw [List.forIn_cons, hf1 n c cs hc, pure_bind]
        exact e
      · rcases h1 x c' hx with h4 | h4
        · rcases List.mem_cons.mp h4 with h5 | h5
          · cases h5; exact .inr hc
          · exact .inl h5
        · exact .inr h4
      · rcases List.mem_cons.mp hy with h4 | h4
        · subst h4; exact ⟨c, h2 _ _ (List.mem_cons_self ..)⟩
        · exact h3 y h4 hf
    · obtain ⟨cl, e, h1, h2, h3⟩ := ih cs fun y hy => h y (List.mem_cons_of_mem _ hy)
      refine ⟨cl, ?_, h1, h2, fun y hy hf => ?_⟩
      · rw [List.forIn_cons, hf2 n k cs hk, pure_bind]
        exact e
      · rcases List.mem_cons.mp hy with h4 | h4
        · subst h4; exact absurd hf hk
        · exact h3 y h4 hf
theorem zfl {scope : Scope} {env : Env} (h : ∀ y ∈ scope.names, y.2 = .free → ∃ c, env.cells.lookup y.1 = some c) :
    ∃ cl, closureFor scope env = pure cl ∧ (∀ x c, (x, c) ∈ cl → env.cells.lookup x = some c) ∧ (∀ y ∈ scope.names, y.2 = .free → ∃ c, cl.lookup y.1 = some c) := by
  obtain ⟨cl, e, h1, h2, h3⟩ := zg7 env (fun (x : Str × NameKind) r => if (x.2 == .free) = true then (do let a ← cellOf env x.1; pure (ForInStep.yield ((x.1, a) :: r))) else pure (ForInStep.yield r))
    (fun n c r hc => by simp [cellOf, hc]) (fun n k r hk => by simp [hk]) scope.names [] h
  refine ⟨cl, ?_, fun x c hx => ?_, fun y hy hf => ?_⟩
  · simp only [closureFor]
    rw [← e]
    simp only [bind_pure]
  · rcases h1 x c hx with h4 | h4
    · simp at h4
    · exact h4
  · obtain ⟨c, hc⟩ := h3 y hy hf
    exact zeE hc

section
variable {T : TC} {d : Nat} {sc : Scope} {ctx : List Str}

theorem zfk {env ρ ρ' σ scope cl C} {h : Heap} (eo : q8 sc env) (fr : qt T env ctx ρ σ h) (co : CompB sc ctx scope) (hρ : ∀ i y v, ctx[i]? = some y → jW ρ' i = some v → jW ρ i = some v ∧ scope.names.lookup y ≠ some .local) (h1 : ∀ x c, (x, c) ∈ cl → env.cells.lookup x = some c) (h2 : ∀ y ∈ scope.names, y.2 = .free → ∃ c, cl.lookup y.1 = some c)
    (hC : σ C = none) (hCb : T.hb.get? C = none) {h' : Heap} (hk : ∀ b o, h.get? b = some o → h'.get? b = some o) (hCn : h.get? C = none) (hns : h'.Ns C fun _ => none) :
    qt T (compEnvC scope cl C env) ctx ρ' σ h' ∧ q8 (zbi scope sc) (compEnvC scope cl C env) := by
  have eo' : q8 (zbi scope sc) (compEnvC scope cl C env) := ⟨relS_eq eo, co.kind, eo.globals, eo.builtins⟩
  have hcl : ∀ y c, (y, c) ∈ cl → ∃ o, h.IsCell c o ∧ σ c = none ∧ T.hb.get? c = none := fun y c hy => by
    have := h1 y c hy
    obtain ⟨a, o, b⟩ := fr.cfree y c this
    exact ⟨o, b, a, fr.cbase y c this⟩
  refine ⟨⟨fr.nd, ⟨_, hns, fun i y v hi hy hv => ?_⟩, fun i y hi hy => ?_, fun y z c hy hz => fr.lone y z c (h1 y c hy) (h1 z c hz), fun y c hy => ?_, hC, fun y c hy => ?_, hCb, fun y c hy => ?_⟩, eo'⟩
  · rw [eo'.kindOf, wq] at hy
    cases hq : scope.names.lookup y with
    | none => rw [hq] at hy; cases hy
    | some kd =>
      rw [hq] at hy
      have hkd : kd = .local := by
        simp only [Option.map_some, Option.some.injEq] at hy
        split at hy
        · cases hy
        · exact hy
      subst hkd
      exact absurd hq (hρ i y v hi hv).2
  · rw [eo'.kindOf, wq] at hy
    cases hq : scope.names.lookup y with
    | none => rw [hq] at hy; rcases hy with hy | hy <;> cases hy
    | some kd =>
      rw [hq] at hy
      have hm : (y, kd) ∈ scope.names := mem_of_lookup hq
      have hkd : kd = .free := by
        simp only [Option.map_some, Option.some.injEq] at hy
        split at hy
        · rename_i hc; simp only [Bool.and_eq_true, beq_iff_eq] at hc; exact hc.1.1
        · rcases hy with hy | hy
          · exact absurd hy (co.nocell _ hm)
          · exact hy
      subst hkd
      obtain ⟨hl, hnl, i', hi'⟩ := co.free _ hm rfl
      have hk0 : env.kindOf y = some .cell ∨ env.kindOf y = some .free := by
        rw [eo.kindOf]
        cases hz : sc.names.lookup y with
        | none => rw [hz] at hl; cases hl
        | some kk =>
          rw [hz] at hl hnl
          cases kk <;> first | (cases hl; done) | exact absurd rfl hnl | exact .inl rfl | exact .inr rfl
      obtain ⟨c, o, g1, g2, g3⟩ := fr.cell i y hi hk0
      obtain ⟨c', hc'⟩ := h2 _ hm rfl
      have := h1 y c' (mem_of_lookup hc')
      rw [g1] at this; cases this
      exact ⟨c, o, hc', g2.keeps hk, fun v hv => g3 v (hρ i y v hi hv).1⟩
  · obtain ⟨o, ⟨ob, e, _⟩, _⟩ := hcl y c hy
    rintro rfl
    rw [hCn] at e; cases e
  · obtain ⟨o, a, b, _⟩ := hcl y c hy
    exact ⟨b, o, a.keeps hk⟩
  · obtain ⟨o, a, b, c'⟩ := hcl y c hy
    exact c'

noncomputable def zcm (T : TC) (d : Nat) (sc : Scope) (ctx : List Str) (ifs : List Expr) (c : Option EW) : Prop :=
  match ifs, c with
  | [], none => True
  | [e], some w => zbN T d sc ctx e w
  | _, _ => False
noncomputable def zfj (c : Option EW) (ρ : zP) (σ : zb) (k : Bool → zb → Prop) : Prop := match c with
  | none => k true σ
  | some w => w ρ σ (fun v σ₁ => v.asBool fun b => k b σ₁) noP
theorem ifs_ {A E env ρ σ s ifs c} {k : Bool → zb → Prop} {Q : Bool → Shared → Prop} (hi : zcm T d sc ctx ifs c) (eo : q8 sc env) (ro : zah T A d) (st : St T σ s) (fr : qt T env ctx ρ σ s.heap) (hw : zfj c ρ σ k)
    (h : ∀ b σ' s', St T σ' s' → zL T [] σ s σ' s' → qt T env ctx ρ σ' s'.heap → k b σ' → Q b s') :
    wpAny T.M A (forIn ifs true fun c r => if r = true then do let ok ← isTrue c env (eval c env); pure (ForInStep.yield ok) else pure (ForInStep.yield r)) Q E s := by
  unfold zcm at hi
  split at hi
  · rw [List.forIn_nil]; exact wpAny_pure (h true σ s st .refl fr hw)
  · rename_i e w
    rw [List.forIn_cons]
    refine wpAny_bind (wpAny_bind ?_)
    refine wpAny_mono (hi.then eo ro .refl st fr (P := noP) hw fun b σ' s' st' p' fr' hk => ?_) (fun _ _ x => x) fun _ _ x => x.no.elim
    refine wpAny_pure ?_
    show wpAny _ _ (forIn [] b _) Q E s'
    rw [List.forIn_nil]
    exact wpAny_pure (h b σ' s' st' p' fr' hk)
  · exact hi.elim

noncomputable def zbp (chk : zb → Prop) (j : Nat) (c : Option EW) (e : EW) (ρ : zP) : List V → List V → zb → (V → zb → Prop) → Prop
  | [], acc, σ, Q => chk σ ∧ yI (.list acc) σ Q
  | v :: r, acc, σ, Q => chk σ ∧ zfj c (ym ρ j v) σ fun b σ₁ => if b then e (ym ρ j v) σ₁ (fun u σ₂ => zbp chk j c e ρ r (acc ++ [u]) σ₂ Q) noP else zbp chk j c e ρ r acc σ₁ Q
noncomputable def yM (j : Nat) (src : zhx) (c : Option EW) (e : EW) : EW := fun ρ σ Q P => src ρ σ (fun xs chk σ₁ => xs.length ≤ lim ∧ zbp chk j c e ρ xs [] σ₁ Q) P

noncomputable def zar {α : Type} (chk : zb → Prop) (bd : α → zP) (c : Option EW) (e : EW) : List α → List V → zb → (V → zb → Prop) → Prop
  | [], acc, σ, Q => chk σ ∧ yI (.list acc) σ Q
  | v :: r, acc, σ, Q => chk σ ∧ zfj c (bd v) σ fun b σ₁ => if b then e (bd v) σ₁ (fun u σ₂ => zar chk bd c e r (acc ++ [u]) σ₂ Q) noP else zar chk bd c e r acc σ₁ Q
theorem compL_g (chk : zb → Prop) (j : Nat) (c : Option EW) (e : EW) (ρ : zP) : ∀ (xs acc : List V) (σ : zb) (Q : V → zb → Prop), zbp chk j c e ρ xs acc σ Q = zar chk (ym ρ j) c e xs acc σ Q := by
  intro r_
  induction r_ with
  | nil =>
    intro _ _ _
    exact rfl
  | cons v r ih_ =>
    intro acc σ Q
    show (chk σ ∧ zfj c (ym ρ j v) σ fun b σ₁ => if b then e (ym ρ j v) σ₁ (fun u σ₂ => zbp chk j c e ρ r (acc ++ [u]) σ₂ Q) noP else zbp chk j c e ρ r acc σ₁ Q) = _
    have h : ∀ acc σ Q, zbp chk j c e ρ r acc σ Q = zar chk (ym ρ j) c e r acc σ Q := fun acc σ Q => ih_ acc σ Q
    simp only [h]
    rfl
structure Head {α : Type} (T : TC) (A : Around) (ctx : List Str) (cenv : Env) (ρ0 : zP) (bd : α → zP) (target : Expr) (xs : List α) (chk : zb → Prop) (I D : Addr) (X : List Addr) (W : Nat → Heap → Prop) : Prop where
  item : ∀ i a σ' s' (K : Shared → Prop) E, xs[i]? = some a → W i s'.heap → St T σ' s' → qt T cenv ctx ρ0 σ' s'.heap → (∀ b ∈ X, σ' b = none) → chk σ' →
    (∀ s₃, St T σ' s₃ → qt T cenv ctx (bd a) σ' s₃.heap → zL T X σ' s' σ' s₃ → W (i + 1) s₃.heap → K s₃) →
    wpAny T.M A (pyNext (.ref I)) (fun r s₁ => match r with | none => False | some v => wpAny T.M A (letOwnedTupleGo target (.ref I) v) (fun _ s₂ => wpAny T.M A (assign target cenv v) (fun _ s₃ => K s₃) E s₂) E s₁) E s'
  last : ∀ σ' s' (K : Shared → Prop) E, W xs.length s'.heap → St T σ' s' → qt T cenv ctx ρ0 σ' s'.heap → (∀ b ∈ X, σ' b = none) → chk σ' →
    (∀ h tk, St T σ' { s' with heap := h, toks := tk } → qt T cenv ctx ρ0 σ' h → (∀ b o, b ∉ X → s'.heap.get? b = some o → h.get? b = some o) → K { s' with heap := h, toks := tk }) → wpAny T.M A (pyNext (.ref I)) (fun r s₁ => match r with | none => K s₁ | some _ => False) E s'
  keep : ∀ i h h', W i h → (∀ b o, b ∈ X → h.get? b = some o → h'.get? b = some o) → W i h'
  live : ∀ i h, W i h → ∀ b ∈ X, b ∉ own cenv → ∃ o, h.get? b = some o
inductive CInv {α : Type} (T : TC) (ctx : List Str) (cenv : Env) (ρ0 : zP) (bd : α → zP) (chk : zb → Prop) (c : Option EW) (we : EW) (xs : List α) (D : Addr) (X : List Addr) (W : Nat → Heap → Prop) (σ : zb) (s : Shared) (Q : V → zb → Prop) (i : Nat) (s' : Shared) : Prop
  | mk (σ' us nn vs) (h1 : W i s'.heap) (h2 : St T σ' s') (h3 : zL T [] σ s σ' s') (h4 : qt T cenv ctx ρ0 σ' s'.heap) (h5 : ∀ b ∈ X, σ' b = none ∧ ∃ o, s'.heap.get? b = some o) (h6 : σ' D = none) (h7 : IsL s'.heap D us nn) (h8 : jL vs us.toList) (h9 : vs.length ≤ i) (h10 : zar chk bd c we (xs.drop i) vs σ' Q) : CInv T ctx cenv ρ0 bd chk c we xs D X W σ s Q i s'
theorem zgD {α : Type} {A : Around} {cenv : Env} {ρ0 : zP} {bd : α → zP} {σ σ₂ : zb} {s s₂ : Shared} {target iter : Expr} {ifs : List Expr} {scope : Scope} {pos : Pos} {elt : Expr} {xs : List α} {chk : zb → Prop} {I D : Addr} {X : List Addr} {W : Nat → Heap → Prop} {c : Option EW} {we : EW} {Q : V → zb → Prop} {R : Result → Shared → Prop}
    (hif : zcm T d sc ctx ifs c) (hel : zB T d sc ctx elt we) (eoc : q8 sc cenv) (ro : zah T A d) (hd : Head T A ctx cenv ρ0 bd target xs chk I D X W)
    (hforget : ∀ a i w, jW ρ0 i = some w → jW (bd a) i = some w) (hXs : ∀ b ∈ X, s.heap.get? b = none ∧ b ∉ frs T) (hXl : ∀ b ∈ X, ∃ o, s₂.heap.get? b = some o) (hDX : D ∉ X) (hDF : D ∉ frs T) (hDs : s.heap.get? D = none) (hDb : T.hb.get? D = none) (hDsys : (D == sysModules) = false) (hDown : D ∉ own cenv)
    (st2 : St T σ₂ s₂) (p2 : zL T [] σ s σ₂ s₂) (fr2 : qt T cenv ctx ρ0 σ₂ s₂.heap) (w0 : W 0 s₂.heap) (hX2 : ∀ b ∈ X, σ₂ b = none) (hD2 : σ₂ D = none) (hDo : IsL s₂.heap D #[] 0) (hlim : xs.length ≤ lim) (hl : zar chk bd c we xs [] σ₂ Q)
    (fin : ∀ σ' s' m, St T σ' s' → zL T [] σ s σ' s' → s'.heap.Ns cenv.locals m → σ' cenv.locals = none → Q (.ref D) σ' → R (.ok .next) s') :
    codeAny T.M A (.compLoop (.ListComp elt [⟨target, iter, ifs, 0⟩] scope pos) 0 (.ref I) (.ref D) cenv) R s₂ := by
  have offX : ∀ {σ' : zb} {s' s₃ : Shared}, zL T [] σ s σ' s' → zL T X σ' s' σ' s₃ → zL T [] σ s σ' s₃ := fun {σ' s' s₃} p q => by
    have pc : zL T X σ s σ' s₃ := (p.weaken (by simp)).trans q
    exact ⟨fun b o hf _ e => pc.keep b o hf (fun hx => by rw [(hXs b hx).1] at e; cases e) e, pc.live, pc.mono, pc.new⟩
  have keepD : ∀ {σ' : zb} {s' s₃ : Shared} {us nn}, σ' D = none → zL T X σ' s' σ' s₃ → IsL s'.heap D us nn → IsL s₃.heap D us nn := fun {σ' s' s₃ us nn} h q e => q.keepX (.inl h) hDX hDF e
  refine codeAny_loop rfl (fun n s' => ∃ i, A3 (n = xs.length + 1 - i) (i ≤ xs.length) (CInv T ctx cenv ρ0 bd chk c we xs D X W σ s Q i s')) ?_ (xs.length + 1) ⟨0, rfl, Nat.zero_le _, σ₂, #[], 0, [], w0, st2, p2, fr2, fun b hb => ⟨hX2 b hb, hXl b hb⟩, hD2, hDo, .nil, Nat.le_refl _, by simpa using hl⟩
  rintro n s' ⟨i, rfl, hi, σ', us, nn, vs, w, st', p', fr', hX', hDσ, hDo', hvs, hlen, hl'⟩
  show wpAny _ A ((compTurn (.ListComp elt [⟨target, iter, ifs, 0⟩] scope pos) 0 (.ref I) (.ref D) cenv).onRaise (fun x => do noteFrame x cenv; theTreesLotGoes x)) _ _ s'
  refine wpAny_noted ?_
  rw [compTurn_list]
  refine wpAny_bind (wpAny_standAt (wpAny_bind ?_))
  cases hdr : xs.drop i with
  | nil =>
    rw [hdr] at hl'
    have hlen' : i = xs.length := by have := congrArg List.length hdr; simp at this; lia
    subst hlen'
    refine wpAny_mono (hd.last σ' s' (fun s₃ => R (.ok .next) s₃) _ w st' fr' (fun b hb => (hX' b hb).1) hl'.1 fun h tk st3 fr3 q3 => ?_) (fun r s₃ h₃ => ?_) fun _ _ e => e
    · have hDo3 : IsL h D us nn := q3 _ _ hDX hDo'
      have p3 := p'.off (wr := X) (fun b hb => (hXs b hb).1) q3 tk
      obtain ⟨m, hn, _⟩ := fr3.ns
      refine fin (put σ' D (.list vs)) _ m ?_ ?_ hn ?_ (hl'.2 D hDσ)
      · exact st3.adopt hDF hDσ hDb hDsys ⟨rfl, fun _ _ => rfl⟩ hDo3 (so := .list vs) ⟨by exact Nat.le_trans ‹_› ‹_›, us, nn, rfl, hvs⟩ tk
      · exact p3.adopt hDs ⟨rfl, fun _ _ => rfl⟩ hDo3 (.list vs) tk
      · rw [zS _ (fun e => hDown (by rw [← e]; exact List.mem_cons_self ..))]; exact fr3.lfree
    · cases r with
      | none => exact wpAny_pure h₃
      | some _ => exact h₃.elim
  | cons a r =>
    rw [hdr] at hl'
    obtain ⟨hx, hr⟩ : xs[i]? = some a ∧ xs.drop (i + 1) = r := by
      have h1 := List.getElem?_drop (xs := xs) (i := i) (j := 0)
      rw [hdr] at h1
      refine ⟨by simpa using h1.symm, ?_⟩
      rw [← List.drop_drop, hdr]; rfl
    have hlt : i < xs.length := (List.getElem?_eq_some_iff.mp hx).1
    refine wpAny_mono (hd.item i a σ' s' (fun s₃ => wpAny T.M A (forIn ifs true fun c r => if r = true then do let ok ← isTrue c cenv (eval c cenv); pure (ForInStep.yield ok) else pure (ForInStep.yield r)) (fun ok s₄ =>
        if ok = true then wpAny T.M A (eval elt cenv) (fun x s₅ => wpAny T.M A (call (.builtin "list.append") [.ref D, x]) (fun _ s₆ => CInv T ctx cenv ρ0 bd chk c we xs D X W σ s Q (i + 1) s₆)
          (notedBy T.M A cenv fun e s' => R (.error e) s') s₅) (notedBy T.M A cenv fun e s' => R (.error e) s') s₄
        else CInv T ctx cenv ρ0 bd chk c we xs D X W σ s Q (i + 1) s₄) (notedBy T.M A cenv fun e s' => R (.error e) s') s₃) _ hx w st' fr' (fun b hb => (hX' b hb).1) hl'.1 fun s₃ st3 fr3 q3 w3 => ?_) (fun r' s₁ h₁ => ?_) fun _ _ e => e
    · have hDo3 := keepD hDσ q3 hDo'
      have p3 := offX p' q3
      have hX3 : ∀ b ∈ X, σ' b = none ∧ ∃ o, s₃.heap.get? b = some o := fun b hb => ⟨(hX' b hb).1, let ⟨o, e⟩ := (hX' b hb).2; q3.live b o e⟩
      have stepX : ∀ {σ₄ : zb} {s₄ : Shared} {σ₅ : zb} {s₅ : Shared}, (∀ b ∈ X, σ₄ b = none ∧ ∃ o, s₄.heap.get? b = some o) → zL T [] σ₄ s₄ σ₅ s₅ → (∀ b ∈ X, σ₅ b = none ∧ ∃ o, s₅.heap.get? b = some o) := fun {σ₄ s₄ σ₅ s₅} h q b hb => by
        obtain ⟨h1, o, e⟩ := h b hb
        exact ⟨q.free h1 e, q.live b o e⟩
      have stepW : ∀ {σ₄ : zb} {s₄ : Shared} {σ₅ : zb} {s₅ : Shared} {k}, (∀ b ∈ X, σ₄ b = none ∧ ∃ o, s₄.heap.get? b = some o) → zL T [] σ₄ s₄ σ₅ s₅ → W k s₄.heap → W k s₅.heap := fun {σ₄ s₄ σ₅ s₅ k} h q w => hd.keep _ _ _ w fun b o hb e => q.keepX (.inl (h b hb).1) (by simp) (hXs b hb).2 e
      refine ifs_ hif eoc ro st3 fr3 hl'.2 fun b σ₄ s₄ st4 p4 fr4 hk4 => ?_
      have hX4 := stepX hX3 p4
      have w4 := stepW hX3 p4 w3
      have hDo4 : IsL s₄.heap D us nn := p4.keepX (.inl hDσ) (by simp) hDF hDo3
      have hD4 : σ₄ D = none := p4.free hDσ hDo3
      cases b with
      | false =>
        simp only [Bool.false_eq_true, if_false] at hk4 ⊢
        exact ⟨σ₄, us, nn, vs, w4, st4, p3.trans p4, fr4.forget (hforget a), hX4, hD4, hDo4, hvs, by exact leN (lin (r2 _ _) V0 (.add V1 N1) [(0,1,V0,V1)] rfl (leI hlen)), by rw [hr]; exact hk4⟩
      | true =>
        simp only [if_true] at hk4 ⊢
        refine wpAny_mono (hel.run eoc ro st4 fr4 hk4 (Q' := fun y s₅ => ∃ v' σ₅, VIs v' y ∧ St T σ₅ s₅ ∧ zL T [] σ₄ s₄ σ₅ s₅ ∧ qt T cenv ctx (bd a) σ₅ s₅.heap ∧ zar chk bd c we r (vs ++ [v']) σ₅ Q) fun v' y σ₅ s₅ hv' st5 p5 fr5 hk5 => ⟨v', σ₅, hv', st5, p5, fr5, hk5⟩) (fun y s₅ h₅ => ?_) fun _ _ x => x.no.elim
        obtain ⟨v', σ₅, hv', st5, p5, fr5, hk5⟩ := h₅
        have hDo5 : IsL s₅.heap D us nn := p5.keepX (.inl hD4) (by simp) hDF hDo4
        have hD5 : σ₅ D = none := p5.free hD4 hDo4
        have hX5 := stepX hX4 p5
        have w5 := stepW hX4 p5 w4
        have hz : us.size = vs.length := by have := hvs.length; simpa using this
        refine call_meets F.slot_list_append ⟨_, hDo5, rfl⟩ F.entry_list_append (F.args_list_append_2 _ _) (AutoListH.list_append_list_val_0 D us nn y (by rw [hz]; have := y9; exact leN (lin (r5 _ _ _ _ _) V0 V1 [(0,1,V2,V3),(0,1,V0,V4),(1,1,V4,V2),(0,1,V3,V1)] rfl (leI hlim) (leI hlen) (ltI hlt) (leI this)))) ⟨hDo5, ?_⟩
        have ho' := IsL.update hDo5 (fun x => x.push y)
        have hoff : ∀ b o, b ∉ [D] → s₅.heap.get? b = some o → (s₅.heap.update D (Obj.mapSeq fun x => x.push y)).get? b = some o := fun b o hb e => (Heap.get?_update_other _ _ (by simp at hb; exact Ne.symm hb)).trans e
        have hneD : ∀ b ∈ X, b ∉ [D] := fun b hb h => hDX (by rw [← List.mem_singleton.mp h]; exact hb)
        refine ⟨σ₅, us.push y, _, vs ++ [v'], hd.keep _ _ _ w5 fun b o hb e => hoff b o (hneD b hb) e, st5.off (wr := [D]) (by simp; exact ⟨hD5, hDb, hDF⟩) hoff s₅.toks, ((p3.trans p4).trans p5).off (wr := [D]) (by simp; exact hDs) hoff s₅.toks,
          (fr5.forget (hforget a)).off (wr := [D]) (by simpa using hDown) hoff, fun b hb => ⟨(hX5 b hb).1, let ⟨o, e⟩ := (hX5 b hb).2; ⟨o, hoff b o (hneD b hb) e⟩⟩, hD5, ho', by simpa using hvs.append (.cons hv' .nil), by simp; assumption, by rw [hr]; exact hk5⟩
    · cases r' with
      | none => exact h₁.elim
      | some v =>
        refine wpAny_bind (wpAny_mono h₁ (fun _ s₂ h₂ => wpAny_bind (wpAny_mono h₂ (fun _ s₃ h₃ => wpAny_bind (wpAny_mono h₃ (fun ok s₄ h₄ => ?_) fun _ _ h' => h')) fun _ _ h' => h')) fun _ _ h' => h')
        cases ok with
        | false =>
          exact wpAny_pure ⟨rfl, xs.length + 1 - (i + 1), by lia, i + 1, rfl, hlt, h₄⟩
        | true =>
          exact wpAny_bind (wpAny_bind (wpAny_mono h₄ (fun x s₅ h₅ => wpAny_bind (wpAny_mono h₅ (fun _ s₆ h₆ => wpAny_pure (wpAny_pure ⟨rfl, xs.length + 1 - (i + 1), by lia, i + 1, rfl, hlt, h₆⟩)) fun _ _ h' => h')) fun _ _ h' => h'))
theorem head_name {A : Around} {cenv : Env} {ρ : zP} {j : Nat} {x : Str} {px : Pos} {xs : List V} {chk : zb → Prop} {I D Wa : Addr} {wr : List Addr} {W : Nat → Heap → Prop} (eoc : q8 sc cenv) (hx : ctx[j]? = some x) (hk : zek (sc.names.lookup x) = true)
    (hWa : (sc.names.lookup x = some .local ∧ Wa = cenv.locals) ∨ (sc.names.lookup x = some .cell ∧ cenv.cells.lookup x = some Wa)) (ite : Iter T A I wr xs chk W) (hwr : ∀ b ∈ wr, T.hb.get? b = none ∧ b ∉ frs T) (hown : ∀ b ∈ wr, b ∉ own cenv) :
    Head T A ctx cenv (zaP ρ j) (ym ρ j) (.Name x px) xs chk I D (Wa :: wr) W := by
  have hWo : Wa ∈ own cenv := by
    rcases hWa with ⟨_, e⟩ | ⟨_, e⟩
    · rw [e]; exact List.mem_cons_self ..
    · exact List.mem_cons_of_mem _ (List.mem_map.mpr ⟨(x, Wa), mem_of_lookup e, rfl⟩)
  have hWw : Wa ∉ wr := fun h => hown _ h hWo
  refine ⟨fun i a σ' s' K E hi w st' fr' hX ck k => ?_, fun σ' s' K E w st' fr' hX ck k => ?_, fun i h h' w hk => ite.frame i h h' w fun b hb o e => hk b o (List.mem_cons_of_mem _ hb) e, fun i h w b hb hno => ?_⟩
  · have hf : ∀ b ∈ wr, σ' b = none := fun b hb => hX b (List.mem_cons_of_mem _ hb)
    refine ite.item i a σ' s' _ _ hi w st' ck fun u h' tk hv w1 hk' => ?_
    refine wpAny_of_eq (show letOwnedTupleGo (.Name x px) (.ref I) u = pure () from rfl) ?_
    refine wpAny_assign_Name (zeq eoc (st'.off (fun b hb => ⟨hf b hb, hwr b hb⟩) hk' tk) (fr'.off hown hk') hx hk hv fun s₃ b hb hl st3 fr3 p3 => ?_)
    have hbW : b = Wa := by
      rcases hWa with ⟨e1, e2⟩ | ⟨e1, e2⟩
      · rw [hl.1 e1, e2]
      · have := hl.2 e1; rw [e2] at this; exact (Option.some.inj this).symm
    subst hbW
    rw [zh5] at fr3
    refine k s₃ st3 fr3 ?_ (ite.frame _ _ _ w1 fun b' hb' o e => p3.keepX (.inl (hf b' hb')) (fun h => hWw (by rw [← List.mem_singleton.mp h]; exact hb')) (hwr b' hb').2 e)
    refine zL.trans (σ₁ := σ') (s₁ := { s' with heap := h', toks := tk }) ⟨fun c o hfc hc e => ⟨o, hk' c o (fun h => hc (List.mem_cons_of_mem _ h)) e, .inl rfl⟩, fun c o e => ?_, fun c h => h, fun c h h' => by simp [h] at h'⟩ (p3.weaken (by intro c hc; rw [List.mem_singleton.mp hc]; exact List.mem_cons_self ..))
    by_cases hc : c ∈ wr
    · exact ite.alive _ _ w1 c hc
    · exact ⟨o, hk' c o hc e⟩
  · have hf : ∀ b ∈ wr, σ' b = none := fun b hb => hX b (List.mem_cons_of_mem _ hb)
    exact ite.done σ' s' _ _ w st' ck fun h' tk hk' => k h' tk (st'.off (fun b hb => ⟨hf b hb, hwr b hb⟩) hk' tk) (fr'.off hown hk') fun b o hb e => hk' b o (fun h => hb (List.mem_cons_of_mem _ h)) e
  · rcases List.mem_cons.mp hb with h | h
    · rw [h] at hno; exact absurd hWo hno
    · exact ite.alive i _ w b h
structure zhB (sc : Scope) (ctx : List Str) (scope : Scope) (j : Nat) (x : Str) : Prop where
  kind : scope.kind = .function
  names : ∀ y ∈ scope.names, y.2 = .local → scope.names.lookup y.1 = some .local
  one : ∀ (L : Addr) (cl : List (Str × Addr)), cellsFrom L scope.names cl = (x, L) :: cl
  tgt : ctx[j]? = some x ∧ scope.names.lookup x = some .cell
  free : ∀ y ∈ scope.names, y.2 = .free → y.1 ≠ x ∧ zgm (sc.names.lookup y.1) = true ∧ sc.names.lookup y.1 ≠ some .local ∧ ∃ i : Nat, ctx[i]? = some y.1
  other : ∀ y ∈ ctx, ∀ k, scope.names.lookup y = some k → k = .free ∨ y = x ∧ k = .cell ∨ (k ≠ .local ∧ k ≠ .cell ∧ k ≠ .free)
noncomputable abbrev yz (sc : Scope) (ctx : List Str) (scope : Scope) (j : Nat) (x : Str) : Prop := CompL sc ctx scope j x ∨ zhB sc ctx scope j x
theorem yz.kind {sc ctx scope j x} : yz sc ctx scope j x → scope.kind = .function
  | .inl h => h.kind
  | .inr h => h.kind
theorem yz.names {sc ctx scope j x} : yz sc ctx scope j x → ∀ y ∈ scope.names, y.2 = .local → scope.names.lookup y.1 = some .local
  | .inl h => h.names
  | .inr h => h.names
theorem yz.free {sc ctx scope j x} : yz sc ctx scope j x → ∀ y ∈ scope.names, y.2 = .free → zgm (sc.names.lookup y.1) = true ∧ sc.names.lookup y.1 ≠ some .local ∧ ∃ i : Nat, ctx[i]? = some y.1
  | .inl h => h.free
  | .inr h => fun y hy hf => (h.free y hy hf).2
theorem zie {env ρ σ scope j x cl C K} {h : Heap} (eo : q8 sc env) (fr : qt T env ctx ρ σ h) (co : zhB sc ctx scope j x) (h1 : ∀ x c, (x, c) ∈ cl → env.cells.lookup x = some c) (h2 : ∀ y ∈ scope.names, y.2 = .free → ∃ c, cl.lookup y.1 = some c)
    (hC : σ C = none) (hCb : T.hb.get? C = none) (hK : σ K = none) (hKb : T.hb.get? K = none) (hKC : K ≠ C) {h' : Heap} (hk : ∀ b o, h.get? b = some o → h'.get? b = some o) (hCn : h.get? C = none) (hKn : h.get? K = none) (hns : h'.Ns C fun _ => none) (hcell : h'.IsCell K none) :
    qt T (compEnvC scope ((x, K) :: cl) C env) ctx (zaP ρ j) σ h' ∧ q8 (zbi scope sc) (compEnvC scope ((x, K) :: cl) C env) := by
  have eo' : q8 (zbi scope sc) (compEnvC scope ((x, K) :: cl) C env) := ⟨relS_eq eo, co.kind, eo.globals, eo.builtins⟩
  have hcl : ∀ y c, (y, c) ∈ cl → ∃ o, h.IsCell c o ∧ σ c = none ∧ T.hb.get? c = none := fun y c hy => by
    have := h1 y c hy
    obtain ⟨a, o, b⟩ := fr.cfree y c this
    exact ⟨o, b, a, fr.cbase y c this⟩
  have hclK : ∀ y c, (y, c) ∈ cl → c ≠ K := fun y c hy e => by
    obtain ⟨o, ⟨ob, e1, _⟩, _⟩ := hcl y c hy
    rw [e, hKn] at e1; cases e1
  have kinds : ∀ i y k, ctx[i]? = some y → (compEnvC scope ((x, K) :: cl) C env).kindOf y = some k → (k = .local → False) ∧ (k = .cell ∨ k = .free → y = x ∨ y ≠ x ∧ (y, NameKind.free) ∈ scope.names) := fun i y k hi hy => by
    rw [eo'.kindOf, wq] at hy
    cases hq : scope.names.lookup y with
    | none => rw [hq] at hy; cases hy
    | some kd =>
      rw [hq] at hy
      simp only [Option.map_some, Option.some.injEq] at hy
      have ho := co.other y (List.mem_of_getElem? hi) kd hq
      rcases ho with e | ⟨e1, e2⟩ | ⟨e1, e2, e3⟩
      · subst e
        refine ⟨fun hl => ?_, fun _ => .inr ⟨(co.free (y, .free) (mem_of_lookup hq) rfl).1, mem_of_lookup hq⟩⟩
        split at hy
        · rw [hl] at hy; cases hy
        · rw [hl] at hy; cases hy
      · subst e2
        refine ⟨fun hl => ?_, fun _ => .inl e1⟩
        rw [hl] at hy; simp at hy
      · have hy' : kd = k := by
          have : (kd == NameKind.free) = false := by cases kd <;> first | rfl | exact absurd rfl e3
          rw [this] at hy; simpa using hy
        subst hy'
        exact ⟨fun hl => e1 hl, fun h => by rcases h with h | h; exact absurd h e2; exact absurd h e3⟩
  refine ⟨⟨fr.nd, ⟨_, hns, fun i y v hi hy hv => ((kinds i y _ hi hy).1 rfl).elim⟩, fun i y hi hy => ?_, fun y z c hy hz => ?_, fun y c hy => ?_, hC, fun y c hy => ?_, hCb, fun y c hy => ?_⟩, eo'⟩
  · have hor : y = x ∨ y ≠ x ∧ (y, NameKind.free) ∈ scope.names := by
      rcases hy with hy | hy
      · exact (kinds i y _ hi hy).2 (.inl rfl)
      · exact (kinds i y _ hi hy).2 (.inr rfl)
    rcases hor with rfl | ⟨hne, hm⟩
    · refine ⟨K, none, by show List.lookup y ((y, K) :: cl) = _; simp [List.lookup_cons], hcell, fun v hv => ?_⟩
      have := (wt _ _ _ _ hv).1
      exact absurd (zfh fr.nd hi co.tgt.1) this
    · obtain ⟨_, hl, hnl, i', hi'⟩ := co.free _ hm rfl
      have hk0 : env.kindOf y = some .cell ∨ env.kindOf y = some .free := by
        rw [eo.kindOf]
        cases hz : sc.names.lookup y with
        | none => rw [hz] at hl; cases hl
        | some kk =>
          rw [hz] at hl hnl
          cases kk <;> first | (cases hl; done) | exact absurd rfl hnl | exact .inl rfl | exact .inr rfl
      obtain ⟨c, o, g1, g2, g3⟩ := fr.cell i y hi hk0
      obtain ⟨c', hc'⟩ := h2 _ hm rfl
      have := h1 y c' (mem_of_lookup hc')
      rw [g1] at this; cases this
      have hb : (y == x) = false := beq_eq_false_iff_ne.mpr hne
      refine ⟨c, o, ?_, g2.keeps hk, fun v hv => g3 v (wt _ _ _ _ hv).2⟩
      show List.lookup y ((x, K) :: cl) = _
      rw [List.lookup_cons, hb]; exact hc'
  · rcases List.mem_cons.mp hy with e | hy <;> rcases List.mem_cons.mp hz with e' | hz
    · cases e; cases e'; rfl
    · cases e; exact absurd rfl (hclK z K hz)
    · cases e'; exact absurd rfl (hclK y K hy)
    · exact fr.lone y z c (h1 y c hy) (h1 z c hz)
  · rcases List.mem_cons.mp hy with e | hy
    · cases e; exact hKC
    · obtain ⟨o, ⟨ob, e, _⟩, _⟩ := hcl y c hy
      rintro rfl
      rw [hCn] at e; cases e
  · rcases List.mem_cons.mp hy with e | hy
    · cases e; exact ⟨hK, _, hcell⟩
    · obtain ⟨o, a, b, _⟩ := hcl y c hy
      exact ⟨b, o, a.keeps hk⟩
  · rcases List.mem_cons.mp hy with e | hy
    · cases e; exact hKb
    · obtain ⟨o, a, b, c'⟩ := hcl y c hy
      exact c'
theorem ziA {A : Around} {env : Env} {ρ : zP} {σ σ₂ : zb} {s s₁ : Shared} {x : Str} {px : Pos} {iter elt : Expr} {ifs : List Expr} {scope : Scope} {pos : Pos} {j : Nat} {xs : List V} {chk : zb → Prop} {I D C Wa : Addr} {wr : List Addr} {W : Nat → Heap → Prop} {c : Option EW} {we : EW} {cs : List (Str × Addr)} {Q : V → zb → Prop} {R : Result → Shared → Prop}
    (hif : zcm T d (zbi scope sc) ctx ifs c) (hel : zB T d (zbi scope sc) ctx elt we) (ro : zah T A d) (frc : qt T (compEnvC scope cs C env) ctx (zaP ρ j) σ₂ s₁.heap) (eoc : q8 (zbi scope sc) (compEnvC scope cs C env)) (hx : ctx[j]? = some x)
    (hWa : ((zbi scope sc).names.lookup x = some .local ∧ Wa = C) ∨ ((zbi scope sc).names.lookup x = some .cell ∧ cs.lookup x = some Wa))
    (ite : Iter T A I wr xs chk W) (w1 : W 0 s₁.heap) (st1 : St T σ₂ s₁) (p1 : zL T [] σ s σ₂ s₁) (hwr : ∀ b ∈ wr, σ₂ b = none ∧ T.hb.get? b = none ∧ s.heap.get? b = none) (nf : ∀ b, s.heap.get? b = none → b ∉ frs T) (hlim : xs.length ≤ lim) (hw : zbp chk j c we ρ xs [] σ₂ Q)
    (hWs : s.heap.get? Wa = none) (hcs : ∀ y c', (y, c') ∈ cs → c' = Wa ∨ ∃ o, s.heap.get? c' = some o) (hCs : s.heap.get? C = none) (hCw : C ∉ wr) (hWw : Wa ∉ wr) (hDs : s.heap.get? D = none) (hDC : D ≠ C) (hDW : D ≠ Wa) (hDw : D ∉ wr) (hDσ : σ₂ D = none) (hDb : T.hb.get? D = none) (hDsys : (D == sysModules) = false) (hDo : IsL s₁.heap D #[] 0)
    (fin : ∀ σ' s' m, St T σ' s' → zL T [] σ s σ' s' → s'.heap.Ns C m → σ' C = none → Q (.ref D) σ' → R (.ok .next) s') :
    codeAny T.M A (.compStart (.ListComp elt [⟨.Name x px, iter, ifs, 0⟩] scope pos) 0 (.ref I) (.ref D) (compEnvC scope cs C env)) R s₁ := by
  have hno : ∀ b, s.heap.get? b = none → b ≠ C → b ≠ Wa → b ∉ own (compEnvC scope cs C env) := fun b hb h1 h2 ho => by
    simp only [own, compEnvC, List.mem_cons, List.mem_map] at ho
    rcases ho with h | ⟨⟨y, c'⟩, hm, rfl⟩
    · exact h1 h
    · rcases hcs y c' hm with h | ⟨o, e⟩
      · exact h2 h
      · rw [hb] at e; cases e
  have hown : ∀ b ∈ wr, b ∉ own (compEnvC scope cs C env) := fun b hb => hno b (hwr b hb).2.2 (fun e => hCw (e ▸ hb)) fun e => hWw (e ▸ hb)
  have hWo : σ₂ Wa = none ∧ (∃ o, s₁.heap.get? Wa = some o) ∧ T.hb.get? Wa = none := by
    rcases hWa with ⟨_, e⟩ | ⟨_, e⟩
    · obtain ⟨m, ⟨o, es, ep, ho, _⟩, _⟩ := frc.ns
      subst e
      exact ⟨frc.lfree, ⟨o, ho⟩, frc.lbase⟩
    · obtain ⟨a, o, ob, b, _⟩ := frc.cfree x Wa e
      exact ⟨a, ⟨ob, b⟩, frc.cbase x Wa e⟩
  have hd := head_name (D := D) (px := px) (ρ := ρ) eoc hx (by rcases hWa with ⟨e, _⟩ | ⟨e, _⟩ <;> rw [e] <;> rfl) hWa ite (fun b hb => ⟨(hwr b hb).2.1, nf b (hwr b hb).2.2⟩) hown
  have loop : codeAny T.M A (.compLoop (.ListComp elt [⟨.Name x px, iter, ifs, 0⟩] scope pos) 0 (.ref I) (.ref D) (compEnvC scope cs C env)) R s₁ := by
    refine zgD hif hel eoc ro hd (fun a i w hw' => ?_) (fun b hb => ?_) (fun b hb => ?_) ?_ (nf D hDs) hDs hDb hDsys (hno D hDs hDC hDW) st1 p1 frc w1 (fun b hb => ?_) hDσ hDo hlim (by rw [← compL_g]; exact hw) fin
    · obtain ⟨hne, hg⟩ := wt _ _ _ _ hw'
      exact zbf ρ j i a w hne hg
    · rcases List.mem_cons.mp hb with rfl | h
      · exact ⟨hWs, nf _ hWs⟩
      · exact ⟨(hwr b h).2.2, nf b (hwr b h).2.2⟩
    · rcases List.mem_cons.mp hb with rfl | h
      · exact hWo.2.1
      · exact ite.alive 0 _ w1 b h
    · exact fun h => by
        rcases List.mem_cons.mp h with h | h
        · exact hDW h
        · exact hDw h
    · rcases List.mem_cons.mp hb with rfl | h
      · exact hWo.1
      · exact (hwr b h).1
  exact codeAny_compStart_list loop (ite.self 0 _ _ _ w1 loop)
theorem zgC {A env ρ σ s σ₂ s₂ x px iter ifs scope pos elt j xs chk I wr W c} {we : EW} {Q : V → zb → Prop} {RR : Addr → Addr → Result → Shared → Prop} {E : Value → Shared → Prop}
    (co : yz sc ctx scope j x) (hif : zcm T d (zbi scope sc) ctx ifs c) (hel : zB T d (zbi scope sc) ctx elt we) (eo : q8 sc env) (ro : zah T A d) (fr : qt T env ctx ρ σ s.heap)
    (ite : Iter T A I wr xs chk W) (w0 : W 0 s₂.heap) (st2 : St T σ₂ s₂) (p2 : zL T [] σ s σ₂ s₂) (hwr : ∀ b ∈ wr, σ₂ b = none ∧ T.hb.get? b = none ∧ s.heap.get? b = none) (nf : ∀ b, s.heap.get? b = none → b ∉ frs T) (hlim : xs.length ≤ lim) (hw : zbp chk j c we ρ xs [] σ₂ Q)
    {cl : List (Str × Addr)} (h1 : ∀ x c, (x, c) ∈ cl → env.cells.lookup x = some c) (h2 : ∀ y ∈ scope.names, y.2 = .free → ∃ c, cl.lookup y.1 = some c)
    (hRR : ∀ D C σ' s' m, s.heap.get? C = none → σ' C = none → T.hb.get? C = none → s'.heap.Ns C m → St T σ' s' → zL T [] σ s σ' s' → Q (.ref D) σ' → RR D C (.ok .next) s') :
    wpAny T.M A (newList []) (fun acc s₃ => wpAny T.M A (newFunctionEnv scope env.globals cl [] env.qual none .none (some env)) (fun cenv s₄ => ∃ D, acc = .ref D ∧
      codeAny T.M A (.compStart (.ListComp elt [⟨.Name x px, iter, ifs, 0⟩] scope pos) 0 (.ref I) acc { cenv with scope := relabel scope env }) (RR D cenv.locals) s₄) E s₃) E s₂ := by
  have fr2 := fr.step p2
  refine wpAny_newObj_type ?_
  generalize hD : s₂.heap.objs.size = D
  generalize hH2 : s₂.heap.push { cls := .type "list", dict := none, data := .seq ([] : List Value).toArray } = H2
  have hC : H2.objs.size = D + 1 := by rw [← hH2, Heap.size_push, hD]
  have hHD : IsL H2 D #[] 0 := by rw [← hH2, ← hD]; exact Heap.get?_push_size _ rfl
  have e2 : ∀ b o, s₂.heap.get? b = some o → H2.get? b = some o := fun b o e => hH2 ▸ Heap.get?_push_of_some _ e
  have n2 : ∀ b, D ≤ b → s₂.heap.get? b = none := fun b hb => Heap.get?_none_of_le (by rw [hD]; exact hb)
  have n0 : ∀ b, D ≤ b → s.heap.get? b = none := fun b hb => by
    cases e : s.heap.get? b with
    | none => rfl
    | some o => obtain ⟨o', h'⟩ := p2.live b o e; rw [n2 b hb] at h'; cases h'
  have nb : ∀ b, D ≤ b → T.hb.get? b = none := fun b hb => by
    cases e : T.hb.get? b with
    | none => rfl
    | some o => have := st2.base b o e; rw [n2 b hb] at this; cases this
  have nσ : ∀ b, D ≤ b → σ₂ b = none := fun b hb => st2.noneFree (n2 b hb)
  have nw : ∀ b, D ≤ b → b ∉ wr := fun b h hb => by obtain ⟨o, e⟩ := ite.alive 0 _ w0 b hb; rw [n2 b h] at e; cases e
  have hDsys : (D == sysModules) = false := by rw [← hD]; exact st2.big
  have hcl : ∀ y c', (y, c') ∈ cl → ∃ o, s.heap.get? c' = some o := fun y c' hm => by
    obtain ⟨o, ob, e, _⟩ := (fr.cfree y c' (h1 y c' hm)).2
    exact ⟨ob, e⟩
  have fin : ∀ C, D < C → ∀ σ' s' m, St T σ' s' → zL T [] σ s σ' s' → s'.heap.Ns C m → σ' C = none → Q (.ref D) σ' → RR D C (.ok .next) s' := fun C h σ' s' m a b c' e f => hRR D C σ' s' m (n0 C (by exact Nat.le_of_lt ‹_›)) e (nb C (by exact Nat.le_of_lt ‹_›)) c' a b f
  rcases co with co | co
  · refine wpAny_newFunctionEnv co.nocell (by intro y hy; simp at hy) (fun h₁ hns₁ hsb₁ => ?_) co.kind
    dsimp only at hns₁ hsb₁ ⊢
    refine ⟨_, rfl, ?_⟩
    generalize hCe : H2.objs.size = C at hns₁ hsb₁ hC ⊢
    have up : ∀ b o, H2.get? b = some o → h₁.get? b = some o := fun b o e => hsb₁.extBut b o (Nat.ne_of_lt (hCe ▸ Heap.lt_size e)) (Heap.get?_push_of_some _ e)
    have old : ∀ b o, s₂.heap.get? b = some o → h₁.get? b = some o := fun b o e => up b o (e2 b o e)
    have hDC : D ≠ C := by exact (fun h_ => lif (r2 (↑(C)) (↑(D))) [(2,-1,V0,.add V1 N1),(2,-1,V1,V0)] rfl (eqI hC) (eqI h_))
    obtain ⟨frc, eoc⟩ := zfk (ρ' := zaP ρ j) (C := C) (h' := h₁) eo fr2 co.toCompB (fun i y v hi hv => by
      obtain ⟨hne, hv'⟩ := wt _ _ _ _ hv
      exact ⟨hv', fun hq => hne (zfh fr.nd hi (by rw [co.onlyx y (List.mem_of_getElem? hi) hq]; exact co.tgt.1))⟩) h1 h2 (nσ C (by exact leN (lin (r2 _ _) V0 V1 [(2,-1,V1,.add V0 N1)] rfl (eqI hC)))) (nb C (by exact leN (lin (r2 _ _) V0 V1 [(2,-1,V1,.add V0 N1)] rfl (eqI hC)))) old (n2 C (by exact leN (lin (r2 _ _) V0 V1 [(2,-1,V1,.add V0 N1)] rfl (eqI hC)))) (by simpa using hns₁)
    exact ziA (Wa := C) hif hel ro frc eoc co.tgt.1 (.inl ⟨by rw [wq, co.tgt.2]; rfl, rfl⟩) ite (ite.frame _ _ _ w0 fun b _ o e => old b o e) (st2.grow old _) (p2.grow old _) hwr nf hlim hw (n0 C (by exact leN (lin (r2 _ _) V0 V1 [(2,-1,V1,.add V0 N1)] rfl (eqI hC)))) (fun y c' hm => .inr (hcl y c' hm)) (n0 C (by exact leN (lin (r2 _ _) V0 V1 [(2,-1,V1,.add V0 N1)] rfl (eqI hC)))) (nw C (by exact leN (lin (r2 _ _) V0 V1 [(2,-1,V1,.add V0 N1)] rfl (eqI hC)))) (nw C (by exact leN (lin (r2 _ _) V0 V1 [(2,-1,V1,.add V0 N1)] rfl (eqI hC)))) (n0 D (Nat.le_refl _)) hDC hDC (nw D (Nat.le_refl _)) (nσ D (Nat.le_refl _)) (nb D (Nat.le_refl _)) hDsys (up _ _ hHD) (fin C (by exact ltN (lit (r2 _ _) V0 V1 [(2,-1,V1,.add V0 N1)] rfl (eqI hC))))
  · simp only [newFunctionEnv, Option.isSome_some, if_true]
    refine wpAny_bind (wpAny_alloc (wpAny_bind (wpAny_layCells _ (fun name kind cells => by cases hkc : kind == NameKind.cell <;> simp [hkc]) _ _ _ _ ?_)))
    have hsz : (H2.push { cls := .type "dict", data := .dict #[] }).objs.size = D + 2 := by rw [Heap.size_push, hC]
    have ok := cellsFrom_ok scope.names (H2.push { cls := .type "dict", data := .dict #[] }) 0 [] ⟨fun _ _ hm => (nomatch hm), List.Pairwise.nil⟩ (Nat.zero_le _)
    rw [hsz, co.one] at ok
    have hup : ∀ b o, (H2.push { cls := .type "dict", data := .dict #[] }).get? b = some o → (pushCells (H2.push { cls := .type "dict", data := .dict #[] }) scope.names).get? b = some o := pushCells_keeps _ _
    dsimp only
    rw [hsz, co.one, hC]
    have hns := (Heap.Ns.new H2 (.type "dict")).keeps hup
    rw [hC] at hns
    generalize pushCells (H2.push { cls := .type "dict", data := .dict #[] }) scope.names = h₁ at hup hns ok ⊢
    refine wpAny_bind ?_
    rw [List.forIn_nil]
    refine wpAny_pure (wpAny_pure ⟨D, rfl, ?_⟩)
    have up : ∀ b o, H2.get? b = some o → h₁.get? b = some o := fun b o e => hup b o (Heap.get?_push_of_some _ e)
    have old : ∀ b o, s₂.heap.get? b = some o → h₁.get? b = some o := fun b o e => up b o (e2 b o e)
    have a1 : D ≤ D + 1 := by exact Nat.le_succ _
    have a2 : D ≤ D + 2 := by exact leN (lin (r1 _) V0 (.add V0 (.num 2)) [] rfl)
    have b1 : D ≠ D + 1 := by exact (fun h_ => lif (r1 _) [(2,-1,V0,.add V0 N1)] rfl (eqI h_))
    have b2 : D ≠ D + 2 := by exact (fun h_ => lif (r1 _) [(2,-1,V0,.add V0 (.num 2))] rfl (eqI h_))
    have b3 : D + 2 ≠ D + 1 := by exact (fun h_ => lif (r1 (↑(D))) [(2,1,.add V0 (.num 2),.add V0 N1)] rfl (eqI h_))
    obtain ⟨frc, eoc⟩ := zie (C := D + 1) (K := D + 2) (h' := h₁) eo fr2 co h1 h2 (nσ _ a1) (nb _ a1) (nσ _ a2) (nb _ a2) b3 old (n2 _ a1) (n2 _ a2) hns (ok.empty x (D + 2) (by simp)).1
    exact ziA (s₁ := { s₂ with heap := h₁ }) (Wa := D + 2) hif hel ro frc eoc co.tgt.1 (.inr ⟨by rw [wq, co.tgt.2]; rfl, by simp [List.lookup_cons]⟩) ite (ite.frame _ _ _ w0 fun b _ o e => old b o e) (st2.grow old s₂.toks) (p2.grow old s₂.toks) hwr nf hlim hw (n0 _ a2) (fun y c' hm => by
        rcases List.mem_cons.mp hm with h | h
        · cases h; exact .inl rfl
        · exact .inr (hcl y c' h)) (n0 _ a1) (nw _ a1) (nw _ a2) (n0 D (Nat.le_refl _)) b1 b2 (nw D (Nat.le_refl _)) (nσ D (Nat.le_refl _)) (nb D (Nat.le_refl _)) hDsys (up _ _ hHD) (fin _ (Nat.lt_succ_self _))

theorem zcI {env ρ σ h scope j x} (eo : q8 sc env) (fr : qt T env ctx ρ σ h) (co : yz sc ctx scope j x) :
    ∃ cl, closureFor scope env = pure cl ∧ (∀ x c, (x, c) ∈ cl → env.cells.lookup x = some c) ∧ (∀ y ∈ scope.names, y.2 = .free → ∃ c, cl.lookup y.1 = some c) := by
  refine zfl fun y hy hf => ?_
  obtain ⟨hl, hnl, i, hi⟩ := yz.free co y hy hf
  have hk0 : env.kindOf y.1 = some .cell ∨ env.kindOf y.1 = some .free := by
    rw [eo.kindOf]
    cases hz : sc.names.lookup y.1 with
    | none => rw [hz] at hl; cases hl
    | some kk =>
      rw [hz] at hl hnl
      cases kk <;> first | (cases hl; done) | exact absurd rfl hnl | exact .inl rfl | exact .inr rfl
  obtain ⟨c, o, g1, _⟩ := fr.cell i y.1 hi hk0
  exact ⟨c, g1⟩

theorem wY {elt x px iter ifs scope pos j} {src : zhx} {c : Option EW} {we : EW} (co : yz sc ctx scope j x) (hs : zev T d sc ctx iter src) (hif : zcm T d (zbi scope sc) ctx ifs c) (hel : zB T d (zbi scope sc) ctx elt we) :
    zB T d sc ctx (.ListComp elt [⟨.Name x px, iter, ifs, 0⟩] scope pos) (yM j src c we) := by
  intro A env ρ σ s Q P eo ro st fr hw
  rw [eval_ListComp]
  obtain ⟨cl, hcl, h1, h2⟩ := zcI eo fr co
  refine wpAny_comprehension_free (use := none) rfl (hs.1 env) hcl (yz.kind co) (yz.names co) ?_
  refine wpAny_mono (hs.2 A env ρ σ s _ P eo ro st fr hw) (fun xv s₁ h₁ => wpAny_mono h₁ (fun itv s₂ h₂ => ?_) fun _ _ e => e) fun _ _ e => e
  obtain ⟨xs, chk, σ₂, I, wr, W, rfl, ite, w0, st2, p2, hwr, hlim, hl⟩ := h₂
  refine wpAny_mono (zgC (iter := iter) (px := px) (pos := pos) (RR := fun D C => compPost T.M A (jj T [] σ s P) none (zgQ T σ s Q) (.ref D) C) (E := jj T [] σ s P) co hif hel eo ro fr ite w0 st2 p2 hwr (fun b hb => st.notFr hb) hlim hl h1 h2 ?_)
    (fun acc s₃ h₃ => wpAny_mono h₃ (fun cenv s₄ h₄ => by obtain ⟨D, rfl, h⟩ := h₄; exact h) fun _ _ e => e) fun _ _ e => e
  intro D C σ' s' m hC hCσ hCb hn st' p' hq
  refine ⟨m, hn, fun h' hs' => ⟨_, σ', .ref D, ?_, ?_, hq⟩⟩
  · exact st'.off (wr := [C]) (by simp; exact ⟨hCσ, hCb, st.notFr hC⟩) (fun b o hb e => hs'.extBut b o (by simpa using hb) e) s'.toks
  · exact p'.off (wr := [C]) (by simpa using hC) (fun b o hb e => hs'.extBut b o (by simpa using hb) e) s'.toks

noncomputable def swapB (sc scope : Scope) (t : Str) (tp vp : Pos) : Bool := sc.names.lookup t == some .local && tp.line == vp.line && !(scope.names.any fun (n, k) => n == t && (k == .local || k == .cell))
theorem yl {y py elt x px iter ifs scope pos spos j i} {src : zhx} {c : Option EW} {we : EW} (hy : ctx[i]? = some y) (hk : zek (sc.names.lookup y) = true) (co : yz sc ctx scope j x) (hs : zev T d sc ctx iter src) (hif : zcm T d (zbi scope sc) ctx ifs c) (hel : zB T d (zbi scope sc) ctx elt we) :
    zbr T d sc ctx (.Assign [.Name y py] (.ListComp elt [⟨.Name x px, iter, ifs, 0⟩] scope pos) spos) (z1 i (yM j src c we)) := by
  intro A env ρ σ s K P eo ro st fr hw
  have hsw : swapsWith (.ListComp elt [⟨.Name x px, iter, ifs, 0⟩] scope pos) (some (.Name y py)) spos.line env = pure (swapB sc scope y py pos) := by
    show pure (env.blockKind == .function && env.kindOf y == some .local && py.line == pos.line && !(scope.names.any fun (n, k) => n == y && (k == .local || k == .cell))) = _
    have hb : env.blockKind = .function := by unfold Env.blockKind; rw [eo.scope, eo.kind]; rfl
    rw [hb, eo.kindOf]
    unfold swapB
    simp
  cases hb : swapB sc scope y py pos with
  | false =>
    rw [hb] at hsw
    refine wpAny_mono (wpAny_Assign_Name (Q := wJ T env ctx σ s K) ((wY (pos := pos) (px := px) co hs hif hel).run eo ro st fr hw fun v u σ₁ s₁ hv st1 p1 fr1 hw1 => ?_) hsw) (fun _ _ x => x) fun _ _ x => x.any
    refine zeq eo st1 fr1 hy hk hv fun s₂ b hb _ st2 fr2 p2 => ⟨_, _, σ₁, .next, st2, fr2, p1.any.trans (zdo p2 hb), hw1⟩
  | true =>
    rw [hb] at hsw
    rw [exec_Assign_Name_used _ _ _ _ hsw]
    refine wpAny_bind (wpAny_standAt ?_)
    obtain ⟨cl, hcl, h1, h2⟩ := zcI eo fr co
    have key : wpAny T.M A (comprehension (.ListComp elt [⟨.Name x px, iter, ifs, 0⟩] scope pos) scope env (firstIterPos [⟨.Name x px, iter, ifs, 0⟩] pos) (newList []) false (eval iter env) (some (assign (.Name y py) env)))
        (fun _ s' => wJ T env ctx σ s K .next s') (jj T [] σ s P) s := by
      refine wpAny_comprehension_free (E := jj T [] σ s P) (Q := fun _ s' => wJ T env ctx σ s K .next s') rfl (hs.1 env) hcl (yz.kind co) (yz.names co) ?_
      refine wpAny_mono (hs.2 A env ρ σ s _ P eo ro st fr hw) (fun xv s₁ h₁ => wpAny_mono h₁ (fun itv s₂ h₂ => ?_) fun _ _ e => e) fun _ _ e => e
      obtain ⟨xs, chk, σ₂, I, wr, W, rfl, ite, w0, st2, p2, hwr, hlim, hl⟩ := h₂
      refine wpAny_mono (zgC (iter := iter) (px := px) (pos := pos) (RR := fun D C => compPost T.M A (jj T [] σ s P) (some (assign (.Name y py) env)) (fun _ s' => wJ T env ctx σ s K .next s') (.ref D) C) (E := jj T [] σ s P) co hif hel eo ro fr ite w0 st2 p2 hwr (fun b hb => st.notFr hb) hlim hl h1 h2 ?_)
        (fun acc s₃ h₃ => wpAny_mono h₃ (fun cenv s₄ h₄ => by obtain ⟨D, rfl, h⟩ := h₄; exact h) fun _ _ e => e) fun _ _ e => e
      intro D C σ' s' m hC hCσ hCb hn st' p' hq
      have fr' := fr.step p'
      have hCown : C ∉ own env := fun ho => by obtain ⟨o, e⟩ := zio fr C ho; rw [hC] at e; cases e
      refine wpAny_assign_Name (zeq eo st' fr' hy hk (.ref D) fun s₅ b hb' _ st5 fr5 p5 => ?_)
      have hn5 : ∃ m, s₅.heap.Ns C m := by
        obtain ⟨o, es, ep, ho, r⟩ := hn
        exact ⟨m, o, es, ep, p5.keepX (.inl hCσ) (by simp; rintro rfl; exact hCown hb') (st.notFr hC) ho, r⟩
      obtain ⟨m5, hn5⟩ := hn5
      refine ⟨m5, hn5, fun h' hs' => ?_⟩
      have hoff : ∀ b o, b ∉ [C] → s₅.heap.get? b = some o → h'.get? b = some o := fun b o hb e => hs'.extBut b o (by simpa using hb) e
      refine ⟨_, ym ρ i (.ref D), σ', .next, st5.off (wr := [C]) (by simp; exact ⟨hCσ, hCb, st.notFr hC⟩) hoff s₅.toks, fr5.off (wr := [C]) (by simpa using hCown) hoff, ?_, hq⟩
      exact (p'.any.trans (zdo p5 hb')).off (wr := [C]) (by simpa using hC) hoff s₅.toks
    refine wpAny_bind ?_
    show wpAny T.M A (comprehension (.ListComp elt [⟨.Name x px, iter, ifs, 0⟩] scope pos) scope env (firstIterPos [⟨.Name x px, iter, ifs, 0⟩] pos) (newList []) (firstAsync [⟨.Name x px, iter, ifs, 0⟩]) (firstIter [⟨.Name x px, iter, ifs, 0⟩] env) (some (assign (.Name y py) env)) >>= fun _ => pure ()) _ _ s
    exact wpAny_bind (wpAny_mono key (fun _ s' h' => wpAny_pure (wpAny_pure h')) fun _ _ x => x.any)
end
end Mine
end
section
open PySem
namespace Mine
open PySem.Calls PyProof.Rows
theorem St.funFrames {T σ s} (st : St T σ s) : s.heap.FunFrames T.hb T.fr := by
  have key : ∀ l : List Env, (∀ env ∈ l, FrmOK T.hb σ s.heap env) → s.heap.FunFrames T.hb l := by
    intro l
    induction l with
    | nil => intro _; trivial
    | cons env r ih =>
      intro h
      obtain ⟨hk, L, e, h1, _, o, es, ep, h2, h3⟩ := h env (List.mem_cons_self ..)
      exact ⟨hk, ⟨L, o, e, h1, h2, fun vs q => by rw [h3] at q; cases q⟩, ih fun x hx => h x (List.mem_cons_of_mem _ hx)⟩
  exact key T.fr st.frames
inductive NTb (a : Addr) (c : Value) (h h' : Heap) : Prop | mk (t oT ts oe vs) (n1 : h.get? t = none) (n2 : h'.get? a = some oe) (n3 : oe.cls = c) (n4 : oe.data = .fields vs) (n5 : vs[1]? = some (.ref t)) (n6 : t ≠ a) (n7 : h'.get? t = some oT) (n8 : oT.data = .fields ts) (n9 : ts[3]? = some .none) : NTb a c h h'
inductive Tb1 (a : Addr) (vs : Array Value) (h : Heap) : Prop | mk (tb oT ts) (k1 : vs[1]? = some (.ref tb)) (k2 : tb ≠ a) (k3 : h.get? tb = some oT) (k4 : oT.data = .fields ts) (k5 : ts[3]? = some .none) : Tb1 a vs h
structure Noted (a : Addr) (c : Value) (h h' : Heap) : Prop where
  tb : NTb a c h h'
structure zgh (T : TC) (a : Addr) (tb : Option Addr) (h h' : Heap) : Prop where
  old : ∀ b o, h.get? b = some o → b ∉ frs T → b ≠ a → tb ≠ some b → h'.get? b = some o
  fr : ∀ b o, h.get? b = some o → b ∈ frs T → ∃ sl, h'.get? b = some { o with slots := sl }
section
variable {T : TC} {A : Around} {E : Value → Shared → Prop} {s : Shared}
theorem entry_ {env : Env} {outer : List Env} {L a : Addr} {oe : Obj} {vs : Array Value} {head : Value} {hadNext : Bool} {Q : Unit → Shared → Prop}
    (hT : T.fr = env :: outer) (hfr : A.frames = some T.fr) (hl : s.heap.FunFrames T.hb T.fr) (hf : env.frame = some L) (he : s.heap.get? a = some oe) (hd : oe.data = .fields vs) (hsz : 1 < vs.size) (ha : a ∉ frs T)
    (h : ∀ h', zgh T a none s.heap h' → Noted a oe.cls s.heap h' → Q () { s with heap := h' }) :
    wpAny T.M A (do let x ← frameOf env; let pl ← entryPlaceOf L hadNext; let b ← EntryCells.newEntry head x .none (rawInt L) .none pl; setField (.ref a) 1 b) (fun _ s' => wpAny T.M A (setFlight (.ref a) none) Q E s') E s := by
  rw [hT] at hfr hl
  refine wpAny_bind (wpAny_frameOf_fun hfr hl hf fun h₁ hs₁ => ?_)
  have hfe : (env :: outer).filterMap (·.frame) = frs T := by unfold frs; rw [hT]
  rw [hfe] at hs₁
  refine wpAny_bind (wpAny_entryPlaceOf fun pl hpl => ?_)
  unfold EntryCells.newEntry newFields
  refine wpAny_bind (wpAny_newObj_type ?_ (hpl.sizeOk5 _ _ _ _ _))
  generalize hob : ({ cls := .type "traceback", dict := none, data := .fields ([head, .ref L, .none, rawInt L, .none] ++ (if pl.isEmpty then List.replicate 6 Value.none else pl)).toArray } : Obj) = ob
  have hobd : ob.data = .fields ([head, .ref L, .none, rawInt L, .none] ++ (if pl.isEmpty then List.replicate 6 Value.none else pl)).toArray := by rw [← hob]
  have he₁ : h₁.get? a = some oe := (hs₁.2.1 a ha).trans he
  have he₂ := Heap.get?_push_of_some ob he₁
  refine wpAny_setField he₂ hd hsz ?_
  have hta : h₁.objs.size ≠ a := Nat.ne_of_gt (Heap.lt_size he₁)
  have hd₃ := Obj.data_mapFields hd (·.setIfInBounds 1 (Value.ref h₁.objs.size))
  have he₃ := Heap.get?_update_self (Obj.mapFields (·.setIfInBounds 1 (Value.ref h₁.objs.size))) he₂ (Obj.isFreed_of_fields hd₃)
  have ht₃ := (Heap.get?_update_other (h₁.push ob) (Obj.mapFields (·.setIfInBounds 1 (Value.ref h₁.objs.size))) (Ne.symm hta)).trans (Heap.get?_push_size h₁ (Obj.isFreed_of_fields hobd))
  unfold setFlight
  refine wpAny_bind (wpAny_field he₃ hd₃ (x := .ref h₁.objs.size) (by simp [hsz]) ?_)
  rw [if_pos (show (Value.ref h₁.objs.size != Value.none) = true from by simp)]
  have hlen : 3 < ([head, .ref L, .none, rawInt L, .none] ++ (if pl.isEmpty then List.replicate 6 Value.none else pl)).toArray.size := by
    simp only [List.size_toArray, List.length_append, List.length_cons, List.length_nil]; exact ltN (lit (r1 _) (.num 3) (.add (.add (.add (.add (.add (.add N0 N1) N1) N1) N1) N1) V0) [(0,1,N0,V0)] rfl (nnI _))
  refine wpAny_setField ht₃ hobd hlen (h _ ⟨fun b o hb hbf hba _ => ?_, fun b o hb hbf => ?_⟩ ⟨h₁.objs.size, _, _, _, _, ?_, ?_, Obj.cls_mapFields _ _, hd₃, by simp [hsz], hta, Heap.get?_update_self _ ht₃ (Obj.isFreed_of_fields (Obj.data_mapFields hobd _)), Obj.data_mapFields hobd _, ?_⟩)
  · have h1 : h₁.get? b = some o := (hs₁.2.1 b hbf).trans hb
    rw [Heap.get?_update_other _ _ (Nat.ne_of_gt (Heap.lt_size h1)), Heap.get?_update_other _ _ (Ne.symm hba)]
    exact Heap.get?_push_of_some _ h1
  · obtain ⟨sl, h1⟩ := hs₁.2.2 b o hb
    refine ⟨sl, ?_⟩
    rw [Heap.get?_update_other _ _ (Nat.ne_of_gt (Heap.lt_size h1)), Heap.get?_update_other _ _ (fun q : a = b => ha (by rw [q]; exact hbf))]
    exact Heap.get?_push_of_some _ h1
  · exact Heap.get?_none_of_le (by rw [hs₁.1]; exact Nat.le_refl _)
  · rw [Heap.get?_update_other _ _ hta]; exact he₃
  · rw [Array.getElem?_setIfInBounds]; simp [hlen]
theorem note_ {σ : zb} {env : Env} {outer : List Env} {L a : Addr} {oe : Obj} {vs : Array Value} {Q : Unit → Shared → Prop} (st : St T σ s) (hT : T.fr = env :: outer) (hfr : A.frames = some T.fr) (hf : env.frame = some L) (he : s.heap.get? a = some oe) (hd : oe.data = .fields vs)
    (h1 : vs[1]? = some .none ∨ Tb1 a vs s.heap)
    (hq : ∀ h' tb, (∀ t, tb = some t → vs[1]? = some (.ref t)) → zgh T a tb s.heap h' → Noted a oe.cls s.heap h' → Q () { s with heap := h' }) : wpAny T.M A (noteFrame (.ref a) env) (fun _ s₂ => wpAny T.M A (setFlight (.ref a) none) Q E s₂) E s := by
  have nof : ∀ {b : Addr} {o : Obj} {xs : Array Value}, s.heap.get? b = some o → o.data = .fields xs → b ∉ frs T := fun e d hF => by
    obtain ⟨o', es, ep, e', d'⟩ := (st.fr hF).2.2
    rw [zfE e e', d'] at d; cases d
  have ha := nof he hd
  unfold noteFrame
  simp only [hf]
  rcases h1 with h1 | ⟨tb, oT, ts, h1, hta, ht, hdt, h3⟩
  · refine wpAny_bind (wpAny_field he hd h1 ?_)
    rw [if_neg (by decide)]
    exact entry_ hT hfr st.funFrames hf he hd (Array.getElem?_eq_some_iff.mp h1).1 ha fun h' t n => hq h' none (fun _ e => by cases e) t n
  · refine wpAny_bind (wpAny_field he hd h1 ?_)
    rw [if_pos (show (Value.ref tb != Value.none) = true from by simp)]
    refine wpAny_bind (wpAny_field ht hdt h3 ?_)
    rw [if_neg (show ¬ ((Value.none == rawInt L) = true) from by simp [rawInt])]
    refine wpAny_bind (wpAny_setField ht hdt (Array.getElem?_eq_some_iff.mp h3).1 ?_)
    have htf := nof ht hdt
    have other : ∀ b, b ≠ tb → (s.heap.update tb (Obj.mapFields (·.setIfInBounds 3 Value.none))).get? b = s.heap.get? b := fun b hb => Heap.get?_update_other _ _ (Ne.symm hb)
    have dead : ∀ b, (s.heap.update tb (Obj.mapFields (·.setIfInBounds 3 Value.none))).get? b = none → s.heap.get? b = none := fun b e => by
      by_cases q : b = tb
      · rw [q, Heap.get?_update_self _ ht (Obj.isFreed_of_fields (Obj.data_mapFields hdt _))] at e; cases e
      · rw [other b q] at e; exact e
    refine entry_ hT hfr (st.funFrames.of_keeps fun b o hb hnf => ⟨o, (other b fun q => by subst q; rw [ht] at hb; cases hb; exact hnf _ hdt).trans hb, rfl⟩) hf ((other a (Ne.symm hta)).trans he) hd (Array.getElem?_eq_some_iff.mp h1).1 ha fun h' t n => hq h' (some tb) (fun _ e => by cases e; exact h1) ⟨fun b o hb hbf hba hbt => ?_, fun b o hb hbf => ?_⟩ ?_
    · exact t.old b o ((other b fun q => hbt (by rw [q])).trans hb) hbf hba (by simp)
    · exact t.fr b o ((other b fun q => htf (q ▸ hbf)).trans hb) hbf
    · obtain ⟨t', oT', ts', oe', vs', k1, k2, k3, k4, k5, k6, k7, k8, k9⟩ := n.tb
      exact ⟨t', oT', ts', oe', vs', dead _ k1, k2, k3, k4, k5, k6, k7, k8, k9⟩
theorem leave_ {σ : zb} {env : Env} {outer : List Env} {L a : Addr} {oe : Obj} {vs : Array Value} {Q : Unit → Shared → Prop} (st : St T σ s) (hT : T.fr = env :: outer) (hfr : A.frames = some T.fr) (hf : env.frame = some L) (he : s.heap.get? a = some oe) (hd : oe.data = .fields vs)
    (h1 : vs[1]? = some .none ∨ Tb1 a vs s.heap)
    (hq : ∀ h' tb, (∀ t, tb = some t → vs[1]? = some (.ref t)) → zgh T a tb s.heap h' → Noted a oe.cls s.heap h' → Q () { s with heap := h' }) : wpAny T.M A (leaving env (.ref a)) Q E s := by
  unfold leaving
  exact wpAny_bind (note_ st hT hfr hf he hd h1 hq)
end
end Mine
end
section
open PySem
namespace Mine
open PySem.Calls PyProof.Rows

theorem zfw (kindOf : Str → Option NameKind) : ∀ (names : List Str) (us : List Value) (m : Str → Option Value) (x : Str), x ∉ names → bindL kindOf (names.zip us) m x = m x
  | [], _, m, x, _ => by simp [bindL]
  | n :: r, [], m, x, _ => by simp [bindL]
  | n :: r, u :: us, m, x, h => by
    have hn : x ≠ n := fun e => h (by simp [e])
    show bindL kindOf (r.zip us) _ x = _
    rw [zfw kindOf r us _ x (fun hm => h (by simp [hm]))]
    split
    · simp [hn]
    · rfl
theorem zgM (kindOf : Str → Option NameKind) : ∀ (names : List Str) (us : List Value) (m : Str → Option Value) (i : Nat) (x : Str) (u : Value), names.Nodup → names[i]? = some x → us[i]? = some u → kindOf x = some .local → bindL kindOf (names.zip us) m x = some u
  | [], _, _, _, _, _, _, h, _, _ => by simp at h
  | n :: r, [], _, _, _, _, _, _, h, _ => by simp at h
  | n :: r, v :: us, m, 0, x, u, nd, h1, h2, hk => by
    simp at h1 h2; subst h1 h2
    show bindL kindOf (r.zip us) _ n = _
    rw [zfw kindOf r us _ n (List.nodup_cons.mp nd).1]
    simp [hk]
  | n :: r, v :: us, m, i + 1, x, u, nd, h1, h2, hk => by
    show bindL kindOf (r.zip us) _ x = _
    exact zgM kindOf r us _ i x u (List.nodup_cons.mp nd).2 (by simpa using h1) (by simpa using h2) hk
theorem zfx (kindOf : Str → Option NameKind) : ∀ (names : List Str) (us : List Value) (m : Str → Option Value) (x : Str), x ∉ names → bindC kindOf (names.zip us) m x = m x
  | [], _, m, x, _ => by simp [bindC]
  | n :: r, [], m, x, _ => by simp [bindC]
  | n :: r, u :: us, m, x, h => by
    have hn : x ≠ n := fun e => h (by simp [e])
    show bindC kindOf (r.zip us) _ x = _
    rw [zfx kindOf r us _ x (fun hm => h (by simp [hm]))]
    split
    · rfl
    · simp [hn]
theorem zgN (kindOf : Str → Option NameKind) : ∀ (names : List Str) (us : List Value) (m : Str → Option Value) (i : Nat) (x : Str) (u : Value), names.Nodup → names[i]? = some x → us[i]? = some u → kindOf x ≠ some .local → bindC kindOf (names.zip us) m x = some u
  | [], _, _, _, _, _, _, h, _, _ => by simp at h
  | n :: r, [], _, _, _, _, _, _, h, _ => by simp at h
  | n :: r, v :: us, m, 0, x, u, nd, h1, h2, hk => by
    simp at h1 h2; subst h1 h2
    show bindC kindOf (r.zip us) _ n = _
    rw [zfx kindOf r us _ n (List.nodup_cons.mp nd).1]
    simp [hk]
  | n :: r, v :: us, m, i + 1, x, u, nd, h1, h2, hk => by
    show bindC kindOf (r.zip us) _ x = _
    exact zgN kindOf r us _ i x u (List.nodup_cons.mp nd).2 (by simpa using h1) (by simpa using h2) hk

theorem zgf {x : Str} : ∀ (names : List (Str × NameKind)) (n : Nat) (acc : List (Str × Addr)), ((x, NameKind.cell) ∈ names ∨ x ∈ acc.map (·.1)) → x ∈ (cellsFrom n names acc).map (·.1) := by
  intro r_
  induction r_ with
  | nil =>
    intro _ _ h
    rcases h with h | h
    · cases h
    · exact h
  | cons y r ih_ =>
    intro n acc h
    obtain ⟨y, k⟩ := y
    simp only [cellsFrom]
    split
    · refine ih_ _ _ ?_
      rcases h with h | h
      · rcases List.mem_cons.mp h with e | h
        · cases e; exact .inr (by simp)
        · exact .inl h
      · exact .inr (by simp [h])
    · rename_i hk
      refine ih_ _ _ ?_
      rcases h with h | h
      · rcases List.mem_cons.mp h with e | h
        · cases e; exact absurd rfl hk
        · exact .inl h
      · exact .inr h
theorem zdW {x : Str} : ∀ {l : List (Str × Addr)}, x ∈ l.map (·.1) → (l.lookup x).isSome = true
  | [], h => by cases h
  | (y, c) :: r, h => by
    rw [List.lookup_cons]
    cases hy : x == y with
    | true => rfl
    | false =>
      have hne : x ≠ y := by simpa using hy
      exact zdW (by simpa [hne] using h)
theorem zfm {x : Str} (names : List (Str × NameKind)) (n : Nat) (h : names.lookup x = some .cell) : ((cellsFrom n names []).lookup x).isSome = true := zdW (zgf names n [] (.inl (mem_of_lookup h)))

noncomputable abbrev TC.at (T : TC) (fr : List Env) : TC := { T with fr := fr }
inductive zC (T : TC) (d : Nat) (f : Str) (vs : List V) (σ : zb) (Q : V → zb → Prop) (P : Nat → zb → Prop) : Prop
  | mk (fa : Addr) (o : Obj) (fd) (h1 : T.mg f = some (.ref fa)) (h2 : T.hb.get? fa = some o) (h3 : o.data = .func fd)
    (h4 : ∀ fr A s us, zah (T.at fr) A d → St (T.at fr) σ s → jL vs us → wpAny T.M A (call (.ref fa) us) (zgQ (T.at fr) σ s Q) (jj (T.at fr) [] σ s P) s) : zC T d f vs σ Q P
noncomputable def zM (T : TC) (d : Nat) (f : Str) (ws : EWs) : EW := fun ρ σ Q P => ws ρ σ (fun vs σ₁ => zC T d f vs σ₁ Q P) P

structure jX (T : TC) (f : Str) (params : Arguments) (body : List Stmt) (scope : Scope) : Prop where
  here : ∃ a o fd, T.mg f = some (.ref a) ∧ T.hb.get? a = some o ∧ o.data = .func fd ∧ fd.params = params ∧ fd.body = .stmts body ∧ fd.scope = scope ∧ fd.closure = [] ∧ fd.globals = mainGlobals ∧ fd.builtins = builtinsNs ∧
    fd.defaults = .none ∧ fd.kwdefaults = .none ∧ T.hb.CodeRec fd.code fd.qualname

structure FnOK (params : Arguments) (scope : Scope) (ctx : List Str) (n : Nat) : Prop where
  kind : scope.kind = .function
  co : scope.isCoroutine = false
  gen : scope.isGenerator = false
  nofree : ∀ y ∈ scope.names, y.2 ≠ .free
  nd : ctx.Nodup
  hnd : ((cellsFrom 0 scope.names []).map (·.1)).Nodup
  par : params.args.map (·.arg) = ctx.take n
  kinds : ∀ x ∈ ctx.take n, zek (scope.names.lookup x) = true

noncomputable def zct (vs : List V) (k : Nat) : zP := vs.map some ++ List.replicate k none
theorem zdJ : ∀ (vs : List V) (k i : Nat) (v : V), jW (zct vs k) i = some v → vs[i]? = some v
  | [], k, i, v, h => by
    exfalso
    induction k generalizing i with
    | zero => simp [zct, jW] at h
    | succ k ih => cases i with
      | zero => simp [zct, jW, List.replicate_succ] at h
      | succ i => exact ih i (by simpa [zct, jW, List.replicate_succ] using h)
  | u :: r, k, 0, v, h => by simpa [zct, jW] using h
  | u :: r, k, i + 1, v, h => by simpa using zdJ r k i v (by simpa [zct, jW] using h)

section
variable {T : TC} {d : Nat} {sc : Scope} {ctx : List Str}
theorem zah.deeper {A : Around} {fr : List Env} (ro : zah (T.at fr) A (d + 1)) (env : Env) : zah (T.at (env :: fr)) (A.deeper env) d := by
  refine ⟨ro.handled, Around.frames_deeper ro.frames, ?_, ?_⟩
  · show A.depth + 1 + d < recursionLimit
    have := ro.depth; exact ltN (lit (r3 (↑(A.depth)) (↑(d)) (↑(recursionLimit))) (.add (.add V0 N1) V1) V2 [(1,1,.add V0 (.add V1 N1),V2)] rfl (ltI this))
  · show A.units + 3 + 4 * d + 100 < cLine
    have := ro.units; omega
theorem frs_at {fr : List Env} {env : Env} {L b : Addr} (hf : env.frame = some L) (h : b ∈ frs (T.at (env :: fr))) : b = L ∨ b ∈ frs (T.at fr) := by
  unfold frs at h
  rw [List.filterMap_cons, hf] at h
  exact List.mem_cons.mp h
theorem zL.frame {fr env L X σ s s₁ σ' s'} (hf : env.frame = some L) (hL : s.heap.get? L = none) (p : zL (T.at (env :: fr)) X σ s₁ σ' s') (hk : ∀ b o, s.heap.get? b = some o → s₁.heap.get? b = some o) (hX : ∀ b ∈ X, s.heap.get? b = none) : zL (T.at fr) [] σ s σ' s' := by
  refine ⟨fun b o hfr _ e => ?_, fun b o e => p.live b o (hk b o e), p.mono, fun a ha ha' => ?_⟩
  · obtain ⟨o', h1, h2⟩ := p.keep b o hfr (fun hb => by rw [hX b hb] at e; cases e) (hk b o e)
    refine ⟨o', h1, h2.imp id fun ⟨h3, h4⟩ => ⟨?_, h4⟩⟩
    rcases frs_at hf h3 with rfl | h3
    · rw [hL] at e; cases e
    · exact h3
  · have h := p.new a ha ha'
    cases e : s.heap.get? a with
    | none => rfl
    | some o => rw [hk a o e] at h; cases h
theorem St.up {fr env σ s} (st : St (T.at (env :: fr)) σ s) : St (T.at fr) σ s := ⟨st.rest, st.base, st.objs, st.fresh, st.sysm, st.ro, fun e he => st.frames e (List.mem_cons_of_mem _ he)⟩
theorem zL.noted {fr : List Env} {X σ s σ' s' a tb h'} (p : zL (T.at fr) X σ s σ' s') (ha : s.heap.get? a = none) (ht : ∀ t, tb = some t → s.heap.get? t = none) (t : zgh (T.at fr) a tb s'.heap h') : zL (T.at fr) X σ s σ' { s' with heap := h' } := by
  refine ⟨fun b o hf hx e => ?_, fun b o e => ?_, p.mono, p.new⟩
  · obtain ⟨o1, h1, r⟩ := p.keep b o hf hx e
    have hba : b ≠ a := fun q => by rw [q, ha] at e; cases e
    have hbt : tb ≠ some b := fun q => by rw [ht b q] at e; cases e
    by_cases hF : b ∈ frs (T.at fr)
    · obtain ⟨sl, h2⟩ := t.fr b o1 h1 hF
      refine ⟨_, h2, .inr ⟨hF, sl, ?_⟩⟩
      rcases r with rfl | ⟨_, sl', rfl⟩ <;> rfl
    · exact ⟨o1, t.old b o1 h1 hF hba hbt, r⟩
  · obtain ⟨o1, h1⟩ := p.live b o e
    have hba : b ≠ a := fun q => by rw [q, ha] at e; cases e
    have hbt : tb ≠ some b := fun q => by rw [ht b q] at e; cases e
    by_cases hF : b ∈ frs (T.at fr)
    · obtain ⟨sl, h2⟩ := t.fr b o1 h1 hF; exact ⟨_, h2⟩
    · exact ⟨o1, t.old b o1 h1 hF hba hbt⟩
theorem St.noted {fr : List Env} {σ s a tb h'} (st : St (T.at fr) σ s) (ha : T.hb.get? a = none ∧ σ a = none) (ht : ∀ t, tb = some t → T.hb.get? t = none ∧ σ t = none) (t : zgh (T.at fr) a tb s.heap h') : St (T.at fr) σ { s with heap := h' } := by
  obtain ⟨h, tk, e⟩ := st.rest
  refine ⟨⟨h', tk, by rw [e]⟩, fun b o hb => ?_, fun b so hb => ?_, st.fresh, st.sysm, st.ro, st.framesOf (fun _ _ h => h) fun L hL ⟨o, es, ep, e1, d⟩ => ?_⟩
  · refine t.old b o (st.base b o hb) (fun hF => by rw [(st.fr hF).1] at hb; cases hb) (fun q => by rw [q, ha.1] at hb; cases hb) fun q => by rw [(ht b q).1] at hb; cases hb
  · obtain ⟨o, h1, h2⟩ := st.objs b so hb
    exact ⟨o, t.old b o h1 (fun hF => by rw [(st.fr hF).2.1] at hb; cases hb) (fun q => by rw [q, ha.2] at hb; cases hb) (fun q => by rw [(ht b q).2] at hb; cases hb), h2⟩
  · obtain ⟨sl, h2⟩ := t.fr L o e1 hL
    exact ⟨_, es, ep, h2, d⟩

noncomputable def SimF (T : TC) (d : Nat) (sc : Scope) (ctx : List Str) (ps : List Stmt) (w : SW) : Prop :=
  ∀ A env ρ σ s K P outer L, T.fr = env :: outer → env.frame = some L → q8 sc env → zah T A d → St T σ s → qt T env ctx ρ σ s.heap → w ρ σ K P →
    wpAny T.M A (execs ps env) (wJ T env ctx σ s K) (jj T (own env) σ s P) s
theorem jm.own {ps w} (h : jm T d sc ctx ps w) : SimF T d sc ctx ps w := fun A env ρ σ s K P _ _ _ _ => h A env ρ σ s K P
theorem fnIntro (ok : T.Ok) {f params body scope n vs σ} {w : SW} {Q : V → zb → Prop} {P : Nat → zb → Prop} (fa : jX T f params body scope) (fo : FnOK params scope ctx n)
    (hb : ∀ fd us, fd.params = params → fd.defaults = .none → fd.kwdefaults = .none → us.length = n → bindArgs fd ⟨us, []⟩ = pure ((params.args.map (·.arg)).zip us))
    (hs : ∀ fr, SimF (T.at fr) d scope ctx body w) (hn : vs.length = n) (hw : w (zct vs (ctx.length - n)) σ (fun o _ σ' => Q (match o with | .ret v => v | .next => .none) σ') P) : zC T (d + 1) f vs σ Q P := by
  obtain ⟨a, o, fd, h1, h2, h3, h4, h5, h6, h7, h8, h9, h10, h11, h12⟩ := fa.here
  refine ⟨a, o, fd, h1, h2, h3, fun fr A s us ro st hv => ?_⟩
  subst h6
  have hus : us.length = n := by rw [hv.length, hn]
  have hbind := hb fd us h4 h10 h11 hus
  rw [fo.par] at hbind
  have hmemz : ∀ x ∈ (ctx.take n).zip us, x.1 ∈ ctx.take n := fun x hx => (List.of_mem_zip (a := x.1) (b := x.2) hx).1
  refine wpAny_call (codeAny_call_cells (by have := ro.depth; exact ltN (lit (r3 (↑(A.depth)) (↑(recursionLimit)) (↑(d))) V0 V1 [(1,1,.add V0 (.add V2 N1),V1),(0,1,N0,V2)] rfl (ltI this) (nnI _))) (st.base a o h2) h3 (ok.nolimit.keeps st.base) (h12.keeps st.base) h5 hbind h7 (fun x hx => ?_) (fun s₁ ic => ?_) fo.co fo.gen fo.kind)
  · have := fo.kinds x.1 (hmemz x hx)
    cases hq : fd.scope.names.lookup x.1 with
    | none => rw [hq] at this; cases this
    | some kd =>
      rw [hq] at this
      cases kd <;> first | (cases this; done) | exact .inl rfl | exact .inr ⟨rfl, zfm _ _ hq⟩
  · obtain ⟨h', tk, rfl, hk⟩ := ic.done
    generalize hL : s.heap.objs.size = L at ic ⊢
    have hdead : ∀ b, L ≤ b → s.heap.get? b = none := fun b hb => Heap.get?_none_of_le (by rw [hL]; exact hb)
    have hdeadσ : ∀ b, L ≤ b → σ b = none := fun b hb => st.noneFree (hdead b hb)
    have hdeadb : ∀ b, L ≤ b → T.hb.get? b = none := fun b hb => by
      cases e : T.hb.get? b with
      | none => rfl
      | some ob => have := st.base b ob e; rw [hdead b hb] at this; cases this
    have habove : ∀ x c, (x, c) ∈ (callEnvC fd L a).cells → L ≤ c := fun x c hm => Nat.le_of_lt (ic.above x c hm)
    have hnames : ((cellsFrom (L + 1) fd.scope.names []).map (·.1)).Nodup := by
      exact cellsFrom_names fd.scope.names 0 (L + 1) [] [] rfl ▸ fo.hnd
    have eo : q8 fd.scope (callEnvC fd L a) := ⟨rfl, fo.kind, h8, h9⟩
    have hfs : (callEnvC fd L a).frame = some L := rfl
    have fis : qt (T.at (callEnvC fd L a :: fr)) (callEnvC fd L a) ctx (zct vs (ctx.length - n)) σ h' := by
      refine ⟨fo.nd, ⟨_, ic.toInCall.ns, fun i x v hi hx hv' => ?_⟩, fun i x hi hx => ?_, fun x y c hx hy => name_of_addr ic.apart hx hy, fun x c hm => Nat.ne_of_gt (ic.above x c hm), hdeadσ L (Nat.le_refl _), fun x c hm => ⟨hdeadσ c (habove x c hm), ?_⟩, hdeadb L (Nat.le_refl _), fun x c hm => hdeadb c (habove x c hm)⟩
      · have hvi := zdJ _ _ _ _ hv'
        obtain ⟨u, hu, hvu⟩ := hv.get hvi
        have hlt : i < n := by have := (List.getElem?_eq_some_iff.mp hvi).1; exact ltN (lit (r3 _ _ _) V0 V1 [(2,1,V2,V1),(1,1,V0,V2)] rfl (eqI hn) (ltI this))
        exact ⟨u, zgM _ _ _ _ i x u (fo.nd.sublist (List.take_sublist _ _)) (by rw [List.getElem?_take_of_lt hlt]; exact hi) hu hx, hvu⟩
      · have hx' : fd.scope.names.lookup x = some .cell := by
          rw [eo.kindOf] at hx
          rcases hx with hx | hx
          · exact hx
          · exact absurd rfl (fo.nofree _ (mem_of_lookup hx))
        have := zfm (x := x) fd.scope.names (L + 1) hx'
        obtain ⟨c, hc⟩ := Option.isSome_iff_exists.mp this
        refine ⟨c, _, hc, ic.cell x c hc, fun v hv' => ?_⟩
        have hvi := zdJ _ _ _ _ hv'
        obtain ⟨u, hu, hvu⟩ := hv.get hvi
        have hlt : i < n := by have := (List.getElem?_eq_some_iff.mp hvi).1; exact ltN (lit (r3 _ _ _) V0 V1 [(2,1,V2,V1),(1,1,V0,V2)] rfl (eqI hn) (ltI this))
        refine ⟨u, zgN _ _ _ _ i x u (fo.nd.sublist (List.take_sublist _ _)) (by rw [List.getElem?_take_of_lt hlt]; exact hi) hu ?_, hvu⟩
        rw [eo.kindOf, hx']; intro e; cases e
      · exact ⟨_, ic.cell x c (lookup_of_mem_nodup hnames hm)⟩
    have st0 : St (T.at fr) σ { s with heap := h', toks := tk } := st.grow hk tk
    have st1 : St (T.at (callEnvC fd L a :: fr)) σ { s with heap := h', toks := tk } := by
      refine ⟨st0.rest, st0.base, st0.objs, st0.fresh, st0.sysm, st0.ro, fun e he => ?_⟩
      rcases List.mem_cons.mp he with rfl | he
      · obtain ⟨o1, es, ep, e1, d1, _⟩ := ic.toInCall.ns
        refine ⟨?_, L, hfs, hdeadb L (Nat.le_refl _), hdeadσ L (Nat.le_refl _), o1, es, ep, e1, d1⟩
        rw [eo.scope, fo.kind]; intro q; cases q
      · exact st0.frames e he
    have hX : ∀ b ∈ own (callEnvC fd L a), s.heap.get? b = none := fun b hb => by
      simp only [own, List.mem_cons, List.mem_map] at hb
      rcases hb with hb | ⟨⟨x, c⟩, hm, rfl⟩
      · exact hdead b (by rw [hb]; exact Nat.le_refl _)
      · exact hdead _ (habove x c hm)
    refine wpAny_mono (hs (callEnvC fd L a :: fr) (A.deeper _) (callEnvC fd L a) _ σ _ _ P fr L rfl hfs eo (ro.deeper _) st1 fis hw) (fun fl s' hp => ?_) fun e s' hp => ?_
    · obtain ⟨o', ρ', σ', hfl, st', fr', p', hq⟩ := hp
      have p := p'.frame hfs (hdead L (Nat.le_refl _)) hk hX
      cases hfl with
      | next => exact ⟨_, σ', .none, st'.up, p, hq⟩
      | ret hv => exact ⟨_, σ', hv, st'.up, p, hq⟩
    · obtain ⟨x, σ', st', p', hE, hP⟩ := hp
      obtain ⟨ax, C, oe, xs, rfl, hC, ⟨q1, q2, q3⟩, q4, q5, q6, q7⟩ := hE
      have hd1 : ∀ b, h'.get? b = none → s.heap.get? b = none := fun b e => by
        cases e' : s.heap.get? b with
        | none => rfl
        | some o => rw [hk b o e'] at e; cases e
      refine leave_ (T := T.at (callEnvC fd L a :: fr)) (L := L) st' rfl (ro.deeper _).frames hfs q4 q6 (q7.imp id fun ⟨tb, oT, ts, k1, k2, _, k4, k5, k6⟩ => ⟨tb, oT, ts, k1, k2, k4, k5, k6⟩) fun h'' tb htb tu nt => ?_
      have htb' : ∀ t, tb = some t → h'.get? t = none ∧ T.hb.get? t = none ∧ σ' t = none := fun t e => by
        have e1 := htb t e
        rcases q7 with q7 | ⟨tb', oT, ts, k1, k2, k3, k4⟩
        · rw [q7] at e1; cases e1
        · rw [k1] at e1; cases e1; exact k3
      have st2 := st'.noted ⟨q2, q3⟩ (fun t e => (htb' t e).2) tu
      have p2 := p'.noted q1 (fun t e => (htb' t e).1) tu
      have p3 := p2.frame hfs (hdead L (Nat.le_refl _)) hk hX
      obtain ⟨t, oT, ts, oe', vs', n1, n2, n3, n4, n5, n6, n7, n8, n9⟩ := nt.tb
      have hs't : s.heap.get? t = none := hd1 _ (p'.dead n1)
      refine ⟨x, σ', st2.up, p3, ⟨ax, C, oe', vs', rfl, hC, ⟨hd1 _ q1, q2, q3⟩, n2, n3.trans q5, n4, .inr ⟨t, oT, ts, n5, n6, ⟨hs't, ?_, st'.noneFree n1⟩, n7, n8, n9⟩⟩, hP⟩
      cases e : T.hb.get? t with
      | none => rfl
      | some ob => have := st'.base t ob e; rw [n1] at this; cases this

theorem zr {fr : List Env} (ok : (T.at fr).Ok) {f : Str} {p pos e r} {ws : EWs} (h : zhR (T.at fr) d sc ctx (e :: r) ws) (hx : sc.names.lookup f = some .globalImplicit) (hd : (f == ("__debug__" : Str)) = false := by decide)
    (he : ∀ env, starEach (e :: r) env = (false, eval e env) :: starEach r env := by intro _; rfl) (hf : ∃ a, T.mg f = some (.ref a) ∧ ∃ o fd, T.hb.get? a = some o ∧ o.data = .func fd) : zB (T.at fr) d sc ctx (.Call (.Name f p) (e :: r) [] pos) (zM T d f ws) := by
  intro A env ρ σ s Q P eo ro st fis hw
  obtain ⟨a, hm, o, fd, ho, hdat⟩ := hf
  refine Call_ (Name_function_global (by rw [eo.scope]; exact eo.kind) (by rw [eo.kindOf]; exact hx) (loadGlobal_global (mg := T.mg) (by rw [eo.globals]; exact st.ns ok.g) hm ?_) hd)
  refine callWith_def hdat ?_ (he env)
  refine h.run A env ρ σ s σ s _ P pos _ eo ro .refl st fis hw fun vs us σ₁ s₁ hv st1 p1 fr1 hw1 => ⟨st1.base _ _ ho, ?_⟩
  obtain ⟨fa, o', fd', g1, g2, g3, g4⟩ := hw1
  rw [hm] at g1; cases g1
  exact wpAny_mono (g4 fr A s₁ us ro st1 hv) (fun _ _ x => x.step p1) fun _ _ x => x.step p1

end
end Mine
end
section
open PySem
namespace Mine
open PySem.Calls PyProof.Rows

mutual
inductive Rd (σ : zb) : V → PyData → Prop
  | none : Rd σ .none .none
  | bool (b) : Rd σ (.bool b) (.bool b)
  | int (i) : Rd σ (.int i) (.int i)
  | str (x) : Rd σ (.str x) (.str x)
  | list {a xs ds} : σ a = some (.list xs) → Rds σ xs ds → Rd σ (.ref a) (.list ds)
  | ro {a xs ds} : σ a = some (.ro xs) → Rds σ xs ds → Rd σ (.ref a) (.list ds)
  | tup {a xs ds} : σ a = some (.tup xs) → Rds σ xs ds → Rd σ (.ref a) (.tuple ds)
inductive Rds (σ : zb) : List V → List PyData → Prop
  | nil : Rds σ [] []
  | cons {v vs d ds} : Rd σ v d → Rds σ vs ds → Rds σ (v :: vs) (d :: ds)
end
section
variable {T : TC} {d : Nat} {sc : Scope} {ctx : List Str}
theorem reads_all {σ s} (st : St T σ s) {v d} (h : Rd σ v d) : ∀ u, VIs v u → ∃ as, Reads s.heap u d as := by
  refine Rd.rec (motive_1 := fun v d _ => ∀ u, VIs v u → ∃ as, Reads s.heap u d as) (motive_2 := fun vs ds _ => ∀ us, jL vs us → ∃ as, ReadsAll s.heap us ds as) ?_ ?_ ?_ ?_ ?_ ?_ ?_ ?_ ?_ h
  · intro u h; cases h; exact ⟨_, .none⟩
  · intro b u h; cases h; exact ⟨_, .bool b⟩
  · intro i u h; cases h; exact ⟨_, .int i _⟩
  · intro x u h; cases h; exact ⟨_, .str x _⟩
  · intro a xs ds hx _ ih u h
    cases h
    obtain ⟨o, ho, hl, vs, n, rfl, hv⟩ := st.objs a _ hx
    obtain ⟨as, h⟩ := ih _ hv
    exact ⟨_, .list ho rfl rfl h⟩
  · intro a xs ds hx _ ih u h
    cases h
    obtain ⟨o, ho, hl, hc, vs, n, hd, hv⟩ := st.objs a _ hx
    obtain ⟨as, h⟩ := ih _ hv
    exact ⟨_, .list ho hc hd h⟩
  · intro a xs ds hx _ ih u h
    cases h
    obtain ⟨o, ho, hl, vs, n, rfl, hv⟩ := st.objs a _ hx
    obtain ⟨as, h⟩ := ih _ hv
    exact ⟨_, .tuple ho rfl rfl h⟩
  · intro us h; cases h; exact ⟨_, .nil⟩
  · intro v vs d ds _ _ ih ihs us h
    cases h with
    | cons hv hvs =>
      obtain ⟨as, h1⟩ := ih _ hv
      obtain ⟨bs, h2⟩ := ihs _ hvs
      exact ⟨_, .cons h1 h2⟩
theorem Rd.reads {σ s} (st : St T σ s) {v d u} (h : Rd σ v d) (hv : VIs v u) : ∃ as, Reads s.heap u d as := reads_all st h u hv

inductive Eqv (σ : zb) (va vb : V) (k : Bool → Prop) : Prop | mk (da db) (h1 : Rd σ va da) (h2 : Rd σ vb db) (h3 : SeqAt.shaped da = true) (h4 : SeqAt.shaped db = true) (h5 : k (PyData.eqv da db)) : Eqv σ va vb k
noncomputable def eqW (neg : Bool) (a b : EW) : EW := fun ρ σ Q P => a ρ σ (fun va σ₁ => b ρ σ₁ (fun vb σ₂ => Eqv σ₂ va vb fun t => Q (.bool (if neg then !t else t)) σ₂) P) P
noncomputable def eqOp (neg : Bool) : CmpOp := if neg then .NotEq else .Eq
theorem zhq (neg : Bool) {A E s σ va vb ua ub} {k : Bool → Prop} {Q : Value → Shared → Prop} (ro : zah T A d) (st : St T σ s) (h : Eqv σ va vb k) (ha : VIs va ua) (hb : VIs vb ub) (hq : ∀ t, k t → Q (.bool (if neg then !t else t)) s) :
    wpAny T.M A (compareOp (eqOp neg) ua ub) Q E s := by
  obtain ⟨da, db, r1, r2, s1, s2, hk⟩ := h
  obtain ⟨as, h1⟩ := r1.reads st ha
  obtain ⟨bs, h2⟩ := r2.reads st hb
  have hu : A.units + 64 < cLine := by have := ro.units; omega
  cases neg
  · exact SeqAt.compareEq_shaped h1 h2 s1 s2 hu (hq _ hk)
  · exact SeqAt.compareNe_shaped h1 h2 s1 s2 hu (hq _ hk)
theorem zfK (neg : Bool) (r : Expr) : behindInMarks (eqOp neg) r = false := zfJ (by cases neg <;> rfl) r
theorem simEq (neg : Bool) {l r pos op} {a b : EW} (ho : op = eqOp neg) (hl : zB T d sc ctx l a) (hr : zB T d sc ctx r b) : zB T d sc ctx (.Compare l [op] [r] pos) (eqW neg a b) := by
  subst ho
  intro A env ρ σ s Q P eo ro st fr hw
  refine wpAny_Compare1 (hl.run eo ro st fr hw ?_) (zfK neg r)
  intro va ua σ₁ s₁ v1 st1 p1 fr1 hw1
  refine hr.then eo ro p1 st1 fr1 hw1 ?_
  intro vb ub σ₂ s₂ v2 st2 p2 fr2 hw2
  exact zhq neg ro st2 hw2 v1 v2 fun t ht => ⟨_, _, .bool _, st2, p2, ht⟩
theorem zaw (neg : Bool) {l r pos op} {a b : EW} (ho : op = eqOp neg) (hl : zB T d sc ctx l a) (hr : zB T d sc ctx r b) : zbN T d sc ctx (.Compare l [op] [r] pos) (eqW neg a b) := by
  subst ho
  intro A env ρ σ s Q P eo ro st fr hw
  refine wpAny_isTrue_Compare1 (hl.run eo ro st fr hw ?_) (zfK neg r)
  intro va ua σ₁ s₁ v1 st1 p1 fr1 hw1
  refine hr.then eo ro p1 st1 fr1 hw1 ?_
  intro vb ub σ₂ s₂ v2 st2 p2 fr2 hw2
  exact zhq neg ro st2 hw2 v1 v2 fun t ht => wpAny_truthy_bool ⟨_, st2, p2, ht⟩

noncomputable def eqB (neg : Bool) (a b : EW) : EW := fun ρ σ Q P => a ρ σ (fun va σ₁ => b ρ σ₁ (fun vb σ₂ => va.asBool fun x => vb.asBool fun y => Q (.bool (if neg then x != y else x == y)) σ₂) P) P
theorem eqB_ (neg : Bool) {A E s} {σ : zb} (ro : zah T A d) (st : St T σ s) {x y : Bool} {Q : Value → Shared → Prop} (h : Q (.bool (if neg then x != y else x == y)) s) : wpAny T.M A (compareOp (eqOp neg) (.bool x) (.bool y)) Q E s := by
  refine zhq neg ro st (va := .bool x) (vb := .bool y) (k := fun t => t = (x == y)) ⟨_, _, .bool x, .bool y, by rfl, by rfl, rfl⟩ (.bool _) (.bool _) fun t ht => ?_
  subst ht
  cases neg
  · exact h
  · exact h
theorem simB_eqB (neg : Bool) {l r pos op} {a b : EW} (ho : op = eqOp neg) (hl : zB T d sc ctx l a) (hr : zB T d sc ctx r b) : zbN T d sc ctx (.Compare l [op] [r] pos) (eqB neg a b) := by
  subst ho
  intro A env ρ σ s Q P eo ro st fr hw
  refine wpAny_isTrue_Compare1 (hl.run eo ro st fr hw ?_) (zfK neg r)
  intro va ua σ₁ s₁ v1 st1 p1 fr1 hw1
  refine hr.then eo ro p1 st1 fr1 hw1 ?_
  intro vb ub σ₂ s₂ v2 st2 p2 fr2 hw2
  obtain ⟨x, hw3⟩ := hw2.get v1
  obtain ⟨y, hw4⟩ := hw3.get v2
  exact eqB_ neg ro st2 (wpAny_truthy_bool ⟨_, st2, p2, hw4⟩)

noncomputable def zeu (c₁ c₂ : Cmp) (a b e : EW) : EW := fun ρ σ Q P =>
  a ρ σ (fun va σ₁ => b ρ σ₁ (fun vb σ₂ => va.asInt fun x => vb.asInt fun y => if c₁.run x y then e ρ σ₂ (fun ve σ₃ => ve.asInt fun z => Q (.bool (c₂.run y z)) σ₃) P else Q (.bool false) σ₂) P) P
theorem ze7 (c₁ c₂ : Cmp) (r₁ r₂ : Expr) : lastMarks [c₁.op, c₂.op] [r₁, r₂] = false := by
  show lastMarks [c₂.op] [r₂] = false
  exact zdF c₂ r₂
theorem simChain (c₁ c₂ : Cmp) {l r₁ r₂ pos o₁ o₂} {a b e : EW} (h₁ : o₁ = c₁.op) (h₂ : o₂ = c₂.op) (hl : zB T d sc ctx l a) (hr : zB T d sc ctx r₁ b) (he : zB T d sc ctx r₂ e) : zB T d sc ctx (.Compare l [o₁, o₂] [r₁, r₂] pos) (zeu c₁ c₂ a b e) := by
  subst h₁ h₂
  intro A env ρ σ s Q P eo ro st fr hw
  refine Compare_chain (rs := []) (hl.run eo ro st fr hw fun va ua σ₁ s₁ v1 st1 p1 fr1 hw1 => ?_) (ze7 c₁ c₂ r₁ r₂)
  refine chain_link (hr.then eo ro p1 st1 fr1 hw1 fun vb ub σ₂ s₂ v2 st2 p2 fr2 hw2 => ?_)
  obtain ⟨x, t, hw3⟩ := hw2.get v1
  obtain ⟨y, u, hw4⟩ := hw3.get v2
  refine zcc c₁ (wpAny_truthy_bool ?_)
  cases hc : c₁.run x y with
  | false => rw [hc] at hw4; exact ⟨_, _, .bool _, st2, p2, hw4⟩
  | true =>
    rw [hc] at hw4
    refine chain_last (he.then eo ro p2 st2 fr2 hw4 fun ve ue σ₃ s₃ v3 st3 p3 fr3 hw5 => ?_)
    obtain ⟨z, t', hw6⟩ := hw5.get v3
    exact zcc c₂ ⟨_, _, .bool _, st3, p3, hw6⟩
theorem zeX (c₁ c₂ : Cmp) {l r₁ r₂ pos o₁ o₂} {a b e : EW} (h₁ : o₁ = c₁.op) (h₂ : o₂ = c₂.op) (hl : zB T d sc ctx l a) (hr : zB T d sc ctx r₁ b) (he : zB T d sc ctx r₂ e) : zbN T d sc ctx (.Compare l [o₁, o₂] [r₁, r₂] pos) (zeu c₁ c₂ a b e) := by
  subst h₁ h₂
  intro A env ρ σ s Q P eo ro st fr hw
  refine isTrue_chain (rs := []) (hl.run eo ro st fr hw fun va ua σ₁ s₁ v1 st1 p1 fr1 hw1 => ?_) (ze7 c₁ c₂ r₁ r₂)
  refine test_link (hr.then eo ro p1 st1 fr1 hw1 fun vb ub σ₂ s₂ v2 st2 p2 fr2 hw2 => ?_)
  obtain ⟨x, t, hw3⟩ := hw2.get v1
  obtain ⟨y, u, hw4⟩ := hw3.get v2
  refine zcc c₁ (wpAny_truthy_bool ?_)
  cases hc : c₁.run x y with
  | false => rw [hc] at hw4; exact ⟨_, st2, p2, hw4⟩
  | true =>
    rw [hc] at hw4
    refine test_last (he.then eo ro p2 st2 fr2 hw4 fun ve ue σ₃ s₃ v3 st3 p3 fr3 hw5 => ?_)
    obtain ⟨z, t', hw6⟩ := hw5.get v3
    exact zcc c₂ (wpAny_truthy_bool ⟨_, st3, p3, hw6⟩)

noncomputable def bools (xs : List V) (k : List Bool → Prop) : Prop := ∃ bs : List Bool, xs = bs.map .bool ∧ k bs
noncomputable def allW (a : EW) : EW := fun ρ σ Q P => a ρ σ (fun v σ₁ => v.asRef fun p => qz σ₁ p fun xs => bools xs fun bs => Q (.bool (bs.all id)) σ₁) P
noncomputable def anyW (a : EW) : EW := fun ρ σ Q P => a ρ σ (fun v σ₁ => v.asRef fun p => qz σ₁ p fun xs => bools xs fun bs => Q (.bool (bs.any id)) σ₁) P
theorem bools_get {bs : List Bool} {us : List Value} (h : jL (bs.map .bool) us) : us = bs.map .bool := by
  induction bs generalizing us with
  | nil => cases h; rfl
  | cons b r ih => cases h with | cons h1 h2 => cases h1; rw [ih h2]; rfl
theorem range_all (bs : List Bool) (f : Bool → Bool) : (List.range bs.length).all (fun i => f (bs.getD i false)) = bs.all f := by
  rw [Bool.eq_iff_iff]
  simp only [List.all_eq_true, List.mem_range]
  constructor
  · intro h x hx
    obtain ⟨i, hi, rfl⟩ := List.getElem_of_mem hx
    have := h i hi
    simpa [List.getD, hi] using this
  · intro h i hi
    have := h bs[i] (List.getElem_mem hi)
    simpa [List.getD, hi] using this
theorem zeY (ok : T.Ok) (B : Blt T) {p pos e} {a : EW} (h : zB T d sc ctx e a) (hx : sc.names.lookup ("all" : Str) = some .globalImplicit)
    (he : ∀ env, starEach [e] env = [(false, eval e env)] := by intro _; rfl) (C : T.calm = true := by assumption) : zB T d sc ctx (.Call (.Name "all" p) [e] [] pos) (allW a) := by
  refine zhe ok h hx (B.none _ (by decide)) (id := "all") (by decide +kernel) (by decide) (by decide) (fun ρ σ Q P hw => ⟨_, hw, fun A v u σ₀ s₀ σ₁ s₁ E ro hv st1 p1 hw1 => ?_⟩) he
  obtain ⟨q, hw2⟩ := hw1.get hv
  obtain ⟨xs, hx, bs, rfl, hw3⟩ := hw2.get
  obtain ⟨us, hl, hv, hz, _⟩ := st1.list (.inl hx)
  have hu := bools_get hv
  refine call_all_walk (wpAny_pyIter_list hl ?_)
  refine ⟨_, _, _, _, _, _, fun i => bs.getD i false, rfl, Walks.list (A := A.in1) (ro.handled C) _ q (Nat.ne_of_lt (st1.lt hx)) us, ⟨⟨_, Heap.get?_push_size _ rfl, rfl, rfl⟩, hl.push _⟩, fun i v s' Q' E' hP hQ => ?_, fun h' tk hk => ?_⟩
  · have hP' : us.toList[i]? = some v := by simpa using hP
    rw [hu, List.getElem?_map] at hP'
    cases hb : bs[i]? with
    | none => rw [hb] at hP'; cases hP'
    | some b =>
      rw [hb] at hP'; cases hP'
      refine wpAny_truthy_bool ?_
      simpa [List.getD, hb] using hQ
  · have hlen : us.size = bs.length := by rw [hz]; simp
    have hall : ((List.range bs.length).all fun i => bs.getD i false) = bs.all id := range_all bs id
    rw [hlen, hall]
    have st2 := (st1.push { cls := .type "list_iterator", data := .fields #[.ref q, .int 0 0] } s₁.toks).off (wr := [s₁.heap.objs.size]) (by simp; exact ⟨st1.sizeFree, st1.hbSize, st1.notFr (get?_size _)⟩) hk tk
    have dead : s₀.heap.get? s₁.heap.objs.size = none := by
      cases e : s₀.heap.get? s₁.heap.objs.size with
      | none => rfl
      | some o => obtain ⟨o', h'⟩ := p1.live _ _ e; rw [get?_size] at h'; cases h'
    exact ⟨_, _, .bool _, st2, (p1.push { cls := .type "list_iterator", data := .fields #[.ref q, .int 0 0] } s₁.toks).off (wr := [s₁.heap.objs.size]) (by simpa using dead) hk tk, hw3⟩
end
end Mine
end
section
open PySem
namespace Mine
open PySem.Calls PyProof.Rows

noncomputable def zu : Stmt → List Stmt
  | .FunctionDef _ _ b _ _ _ _ _ _ _ => b
  | _ => []
noncomputable def zn : Stmt → Scope
  | .FunctionDef _ _ _ _ _ _ sc _ _ _ => sc
  | _ => default
noncomputable def zx : Stmt → Arguments
  | .FunctionDef _ a _ _ _ _ _ _ _ _ => a
  | _ => default
noncomputable def z7 (p : Program) (i : Nat) : Stmt := p.main.body.getD i (.Pass default)

noncomputable def compLb (sc : Scope) (ctx : List Str) (scope : Scope) (j : Nat) (x : Str) : Bool :=
  scope.kind == .function && scope.names.all (fun y => y.2 != .cell) && scope.names.all (fun y => y.2 != .local || scope.names.lookup y.1 == some .local) && (ctx[j]? == some x && scope.names.lookup x == some .local) &&
  scope.names.all (fun y => y.2 != .free || (zgm (sc.names.lookup y.1) && sc.names.lookup y.1 != some .local && ctx.contains y.1)) && ctx.all fun y => scope.names.lookup y != some .local || y == x
theorem compL_of {sc ctx scope j x} (h : compLb sc ctx scope j x = true) : CompL sc ctx scope j x := by
  unfold compLb at h
  simp only [Bool.and_eq_true, List.all_eq_true, Bool.or_eq_true, bne_iff_ne, ne_eq, beq_iff_eq] at h
  obtain ⟨⟨⟨⟨⟨h1, h2⟩, h3⟩, h4⟩, h5⟩, h6⟩ := h
  refine ⟨⟨h1, h2, fun y hy hl => ?_, fun y hy hf => ?_⟩, h4, fun y hy hl => ?_⟩
  · rcases h3 y hy with h | h
    · exact absurd hl h
    · exact h
  · rcases h5 y hy with h | h
    · exact absurd hf h
    · refine ⟨h.1.1, h.1.2, ?_⟩
      have := List.contains_iff_mem.mp h.2
      exact List.getElem?_of_mem this
  · rcases h6 y hy with h | h
    · exact absurd hl h
    · exact h

noncomputable def compCb (sc : Scope) (ctx : List Str) (scope : Scope) (j : Nat) (x : Str) : Bool :=
  scope.kind == .function && scope.names.all (fun y => y.2 != .local || scope.names.lookup y.1 == some .local) && (scope.names.filterMap (fun y => if y.2 == .cell then some y.1 else none) == [x]) && (ctx[j]? == some x && scope.names.lookup x == some .cell) &&
  scope.names.all (fun y => y.2 != .free || (y.1 != x && zgm (sc.names.lookup y.1) && sc.names.lookup y.1 != some .local && ctx.contains y.1)) &&
  ctx.all fun y => match scope.names.lookup y with | some .local => false | some .cell => y == x | _ => true
theorem yW : ∀ (names : List (Str × NameKind)) (L : Addr) (cl : List (Str × Addr)), (∀ x, names.filterMap (fun y => if y.2 == .cell then some y.1 else none) = [x] → cellsFrom L names cl = (x, L) :: cl) ∧ (names.filterMap (fun y => if y.2 == .cell then some y.1 else none) = [] → cellsFrom L names cl = cl)
  | [], _, _ => ⟨fun _ h => (by simp at h), fun _ => rfl⟩
  | (n, k) :: r, L, cl => by
    unfold cellsFrom
    by_cases hk : (k == NameKind.cell) = true
    · simp only [List.filterMap_cons, hk, if_true]
      refine ⟨fun x h => ?_, fun h => by simp at h⟩
      simp only [List.cons.injEq] at h
      rw [(yW r (L + 1) ((n, L) :: cl)).2 h.2, h.1]
    · simp only [List.filterMap_cons, hk]
      exact yW r L cl
theorem compC_of {sc ctx scope j x} (h : compCb sc ctx scope j x = true) : zhB sc ctx scope j x := by
  unfold compCb at h
  simp only [Bool.and_eq_true, List.all_eq_true, Bool.or_eq_true, bne_iff_ne, ne_eq, beq_iff_eq] at h
  obtain ⟨⟨⟨⟨⟨h1, h3⟩, h2⟩, h4⟩, h5⟩, h6⟩ := h
  refine ⟨h1, fun y hy hl => ?_, fun L cl => (yW _ L cl).1 x (by simpa using h2), h4, fun y hy hf => ?_, fun y hy k hk => ?_⟩
  · rcases h3 y hy with h | h
    · exact absurd hl h
    · exact h
  · rcases h5 y hy with h | h
    · exact absurd hf h
    · exact ⟨h.1.1.1, h.1.1.2, h.1.2, List.getElem?_of_mem (List.contains_iff_mem.mp h.2)⟩
  · have := h6 y hy
    rw [hk] at this
    cases k <;> simp_all
noncomputable def compOKb (sc : Scope) (ctx : List Str) (scope : Scope) (j : Nat) (x : Str) : Bool := compLb sc ctx scope j x || compCb sc ctx scope j x
theorem qD {sc ctx scope j x} (h : compOKb sc ctx scope j x = true) : yz sc ctx scope j x := by
  rcases (Bool.or_eq_true ..).mp h with h | h
  · exact .inl (compL_of h)
  · exact .inr (compC_of h)

noncomputable def fnOKb (params : Arguments) (scope : Scope) (ctx : List Str) (n : Nat) : Bool :=
  scope.kind == .function && !scope.isCoroutine && !scope.isGenerator && scope.names.all (fun y => y.2 != .free) && decide ctx.Nodup && decide ((cellsFrom 0 scope.names []).map (·.1)).Nodup &&
  (params.args.map (·.arg) == ctx.take n) && (ctx.take n).all fun x => zek (scope.names.lookup x)
theorem fnOK_of {params scope ctx n} (h : fnOKb params scope ctx n = true) : FnOK params scope ctx n := by
  unfold fnOKb at h
  simp only [Bool.and_eq_true, List.all_eq_true, bne_iff_ne, ne_eq, beq_iff_eq, Bool.not_eq_true', decide_eq_true_eq] at h
  obtain ⟨⟨⟨⟨⟨⟨⟨h1, h2⟩, h3⟩, h4⟩, h5⟩, h6⟩, h7⟩, h8⟩ := h
  exact ⟨h1, h2, h3, h4, h5, h6, h7, h8⟩

section
variable {T : TC} {d : Nat} {sc : Scope} {ctx : List Str}
theorem zhd (ok : T.Ok) {x : Str} {i : Int} {pos} (hm : ∃ t, T.mg x = some (.int i t)) (hx : sc.names.lookup x = some .globalImplicit) (hd : (x == ("__debug__" : Str)) = false) : zB T d sc ctx (.Name x pos) (val (.int i)) := by
  intro A env ρ σ s Q P eo ro st fr hw
  obtain ⟨t, hm⟩ := hm
  exact Name_function_global (by rw [eo.scope]; exact eo.kind) (by rw [eo.kindOf]; exact hx) (loadGlobal_global (mg := T.mg) (by rw [eo.globals]; exact st.ns ok.g) hm ⟨_, _, .int i t, st, .refl, hw⟩) hd
noncomputable def zI (T : TC) (f : Str) : Prop := ∃ a, T.mg f = some (.ref a) ∧ ∃ o fd, T.hb.get? a = some o ∧ o.data = .func fd
theorem jX.known {f params body scope} (h : jX T f params body scope) : zI T f :=
  let ⟨a, o, fd, h1, h2, h3, _⟩ := h.here; ⟨a, h1, o, fd, h2, h3⟩
end
end Mine
end
section
open PySem
namespace Mine

section
variable (ρ : zP) (σ : zb) (Q : V → zb → Prop) (K : Out → zP → zb → Prop) (P : Nat → zb → Prop)
@[simp] theorem ql (v) : val v ρ σ Q P = Q v σ := rfl
@[simp] theorem zv (i) : loc i ρ σ Q P = match jW ρ i with | some v => Q v σ | none => False := rfl
@[simp] theorem qV (a b : EW) : jQ a b ρ σ Q P = a ρ σ (fun va σ₁ => b ρ σ₁ (fun vb σ₂ => va.asInt fun x => vb.asInt fun y => Q (.int (x + y)) σ₂) P) P := by simp [jQ, opI]
@[simp] theorem zak (a b : EW) : zcB a b ρ σ Q P = a ρ σ (fun va σ₁ => b ρ σ₁ (fun vb σ₂ => va.asInt fun x => vb.asInt fun y => Q (.int (x - y)) σ₂) P) P := by simp [zcB, opI]
@[simp] theorem ze4 (a b : EW) : zcC a b ρ σ Q P = a ρ σ (fun va σ₁ => b ρ σ₁ (fun vb σ₂ => va.asInt fun x => vb.asInt fun y => IntMulOk x y ∧ Q (.int (x * y)) σ₂) P) P := rfl
@[simp] theorem wx (a b : EW) : zcb a b ρ σ Q P = a ρ σ (fun va σ₁ => b ρ σ₁ (fun vb σ₂ => va.asInt fun x => vb.asInt fun y => (y ≠ 0 ∧ Builtin.divisionGoesByPylong x y = false) ∧ Q (.int (x.fdiv y)) σ₂) P) P := rfl
@[simp] theorem yo (a b : EW) : yJ a b ρ σ Q P = a ρ σ (fun va σ₁ => b ρ σ₁ (fun vb σ₂ => va.asInt fun x => vb.asInt fun y => y ≠ 0 ∧ Q (.int (x.fmod y)) σ₂) P) P := rfl
@[simp] theorem powI_ (a b : EW) : powI a b ρ σ Q P = a ρ σ (fun va σ₁ => b ρ σ₁ (fun vb σ₂ => va.asInt fun x => vb.asInt fun y => PowOk x y ∧ Q (.int (x ^ y.toNat)) σ₂) P) P := rfl
@[simp] theorem negI_ (a : EW) : negI a ρ σ Q P = a ρ σ (fun v σ₁ => v.asInt fun x => Q (.int (-x)) σ₁) P := rfl
@[simp] theorem qy (c) (a b : EW) : jh c a b ρ σ Q P = a ρ σ (fun va σ₁ => b ρ σ₁ (fun vb σ₂ => va.asInt fun x => vb.asInt fun y => Q (.bool (c.run x y)) σ₂) P) P := rfl
@[simp] theorem zbF (a : EW) : tst a ρ σ Q P = a ρ σ (fun v σ₁ => v.asBool fun b => Q (.bool b) σ₁) P := rfl
@[simp] theorem wv (a : EW) : zbj a ρ σ Q P = a ρ σ (fun v σ₁ => v.asBool fun b => Q (.bool (!b)) σ₁) P := rfl
@[simp] theorem zan (a b : EW) : zag a b ρ σ Q P = a ρ σ (fun v σ₁ => v.asBool fun t => if t then b ρ σ₁ Q P else Q (.bool false) σ₁) P := rfl
@[simp] theorem zdp (a b : EW) : orW a b ρ σ Q P = a ρ σ (fun v σ₁ => v.asBool fun t => if t then Q (.bool true) σ₁ else b ρ σ₁ Q P) P := rfl
@[simp] theorem iteW_ (c a b : EW) : iteW c a b ρ σ Q P = c ρ σ (fun v σ₁ => v.asBool fun t => if t then a ρ σ₁ Q P else b ρ σ₁ Q P) P := rfl
@[simp] theorem z4 (Q : List V → zb → Prop) : zR ρ σ Q P = Q [] σ := rfl
@[simp] theorem zK (a : EW) (r : EWs) (Q : List V → zb → Prop) : zh a r ρ σ Q P = a ρ σ (fun v σ₁ => r ρ σ₁ (fun vs σ₂ => Q (v :: vs) σ₂) P) P := rfl
@[simp] theorem jC (ws : EWs) : q9 ws ρ σ Q P = ws ρ σ (fun vs σ₁ => vs.length ≤ lim ∧ yI (.list vs) σ₁ Q) P := rfl
@[simp] theorem zc3 (ws : EWs) : zgq ws ρ σ Q P = ws ρ σ (fun vs σ₁ => vs.length ≤ lim ∧ yI (.tup vs) σ₁ Q) P := rfl
@[simp] theorem qG (a i : EW) : qi a i ρ σ Q P = a ρ σ (fun va σ₁ => i ρ σ₁ (fun vi σ₂ => va.asRef fun p => vi.asInt fun k => 0 ≤ k ∧ yj σ₂ p fun xs => jJ xs k.toNat fun v => Q v σ₂) P) P := rfl
@[simp] theorem qu (a : EW) : j4 a ρ σ Q P = a ρ σ (fun v σ₁ => v.asRef fun p => zaf σ₁ p fun n => Q (.int n) σ₁) P := rfl
@[simp] theorem zcV (a : EW) : zbT a ρ σ Q P = a ρ σ (fun v σ₁ => v.asRef fun p => yj σ₁ p fun xs => yI (.list xs) σ₁ Q) P := rfl
@[simp] theorem zhJ (a : EW) : intW a ρ σ Q P = a ρ σ (fun v σ₁ => v.asBool fun b => Q (.int (if b then 1 else 0)) σ₁) P := rfl
@[simp] theorem zbn (ty) (a : EW) : zgx ty a ρ σ Q P = a ρ σ (fun v σ₁ => isi ty σ₁ v fun b => Q (.bool b) σ₁) P := rfl
@[simp] theorem zhF (a b : EW) : mulL a b ρ σ Q P = a ρ σ (fun va σ₁ => b ρ σ₁ (fun vb σ₂ => va.asRef fun p => vb.asInt fun k => qz σ₂ p fun xs => k < 2 ^ 62 ∧ -(2 ^ 62) ≤ k ∧ xs.length * k.toNat ≤ lim ∧ yI (.list (List.replicate k.toNat xs).flatten) σ₂ Q) P) P := rfl
@[simp] theorem zgn (a b : EW) : zgg a b ρ σ Q P = a ρ σ (fun va σ₁ => b ρ σ₁ (fun vb σ₂ => va.asRef fun p => vb.asRef fun q => qz σ₂ p fun xs => qz σ₂ q fun ys => xs.length + ys.length ≤ lim ∧ yI (.list (xs ++ ys)) σ₂ Q) P) P := rfl
@[simp] theorem zet (a b : EW) : zfd a b ρ σ Q P = a ρ σ (fun va σ₁ => b ρ σ₁ (fun vb σ₂ => va.asRef fun p => vb.asInt fun k => 0 ≤ k ∧ zae σ₂ p fun xs => yI (.list (xs.drop k.toNat)) σ₂ Q) P) P := rfl
@[simp] theorem zcO (a b : EW) : zd9 a b ρ σ Q P = a ρ σ (fun va σ₁ => b ρ σ₁ (fun vb σ₂ => va.asRef fun p => vb.asInt fun k => 0 ≤ k ∧ zae σ₂ p fun xs => yI (.list (xs.take k.toNat)) σ₂ Q) P) P := rfl
@[simp] theorem zen (a b : EW) : appW a b ρ σ Q P = a ρ σ (fun va σ₁ => va.asRef fun p => qz σ₁ p (fun _ => True) ∧ b ρ σ₁ (fun vb σ₂ => qz σ₂ p fun xs => xs.length < lim ∧ Q .none (put σ₂ p (.list (xs ++ [vb])))) P) P := rfl
@[simp] theorem ziw (neg) (a b : EW) : inD neg a b ρ σ Q P = a ρ σ (fun va σ₁ => b ρ σ₁ (fun vb σ₂ => va.asInt fun k => vb.asRef fun p => jU σ₂ p fun kvs => Q (.bool (if neg then !zhs kvs k else zhs kvs k)) σ₂) P) P := rfl
@[simp] theorem zab (a b : EW) : zcS a b ρ σ Q P = a ρ σ (fun va σ₁ => b ρ σ₁ (fun vb σ₂ => va.asInt fun k => yI (.dict [(k, vb)]) σ₂ Q) P) P := rfl
@[simp] theorem zgd (neg) (a b : EW) : eqW neg a b ρ σ Q P = a ρ σ (fun va σ₁ => b ρ σ₁ (fun vb σ₂ => Eqv σ₂ va vb fun t => Q (.bool (if neg then !t else t)) σ₂) P) P := rfl
@[simp] theorem eqB_w (neg) (a b : EW) : eqB neg a b ρ σ Q P = a ρ σ (fun va σ₁ => b ρ σ₁ (fun vb σ₂ => va.asBool fun x => vb.asBool fun y => Q (.bool (if neg then x != y else x == y)) σ₂) P) P := rfl
@[simp] theorem zce (c₁ c₂) (a b e : EW) : zeu c₁ c₂ a b e ρ σ Q P = a ρ σ (fun va σ₁ => b ρ σ₁ (fun vb σ₂ => va.asInt fun x => vb.asInt fun y => if c₁.run x y then e ρ σ₂ (fun ve σ₃ => ve.asInt fun z => Q (.bool (c₂.run y z)) σ₃) P else Q (.bool false) σ₂) P) P := rfl
@[simp] theorem zeo (a : EW) : allW a ρ σ Q P = a ρ σ (fun v σ₁ => v.asRef fun p => qz σ₁ p fun xs => bools xs fun bs => Q (.bool (bs.all id)) σ₁) P := rfl
@[simp] theorem anyW_ (a : EW) : anyW a ρ σ Q P = a ρ σ (fun v σ₁ => v.asRef fun p => qz σ₁ p fun xs => bools xs fun bs => Q (.bool (bs.any id)) σ₁) P := rfl
@[simp] theorem z5 (T d f) (ws : EWs) : zM T d f ws ρ σ Q P = ws ρ σ (fun vs σ₁ => zC T d f vs σ₁ Q P) P := rfl
@[simp] theorem jT (j) (src : zhx) (c) (e : EW) : yM j src c e ρ σ Q P = src ρ σ (fun xs chk σ₁ => xs.length ≤ lim ∧ zbp chk j c e ρ xs [] σ₁ Q) P := rfl
@[simp] theorem yk (a : EW) (Q) : zbh a ρ σ Q P = a ρ σ (fun v σ₁ => v.asRef fun p => zcl σ₁ p fun xs chk => Q xs chk σ₁) P := rfl
@[simp] theorem jS (a : EW) (Q) : jN a ρ σ Q P = a ρ σ (fun v σ₁ => v.asInt fun n => jc n ∧ Q (rng 0 n.toNat) (fun _ => True) σ₁) P := rfl
@[simp] theorem zcP (a b : EW) (Q) : zgl a b ρ σ Q P = a ρ σ (fun va σ₁ => b ρ σ₁ (fun vb σ₂ => va.asInt fun m => vb.asInt fun n => jc m ∧ jc n ∧ Q (rng m (n - m).toNat) (fun _ => True) σ₂) P) P := rfl
@[simp] theorem qx : qe ρ σ K P = K .next ρ σ := rfl
@[simp] theorem zE (a b : SW) : zA a b ρ σ K P = a ρ σ (fun o ρ₁ σ₁ => match o with | .next => b ρ₁ σ₁ K P | .ret v => K (.ret v) ρ₁ σ₁) P := rfl
@[simp] theorem yn (a : EW) : qR a ρ σ K P = a ρ σ (fun v σ₁ => K (.ret v) ρ σ₁) P := rfl
@[simp] theorem qa (i) (a : EW) : z1 i a ρ σ K P = a ρ σ (fun v σ₁ => K .next (ym ρ i v) σ₁) P := rfl
@[simp] theorem zcW (is) (a : EW) : asgTW is a ρ σ K P = a ρ σ (fun v σ₁ => zfv (.tup is) v ρ σ₁ fun ρ' => K .next ρ' σ₁) P := rfl
@[simp] theorem wk (a : EW) : zam a ρ σ K P = a ρ σ (fun _ σ₁ => K .next ρ σ₁) P := rfl
@[simp] theorem qv (c : EW) (a b : SW) : jg c a b ρ σ K P = c ρ σ (fun v σ₁ => v.asBool fun t => if t then a ρ σ₁ K P else b ρ σ₁ K P) P := rfl
@[simp] theorem zhL : zhM ρ σ K P = False := rfl
@[simp] theorem w7 (a i e : EW) : zax a i e ρ σ K P = e ρ σ (fun ve σ₁ => a ρ σ₁ (fun va σ₂ => i ρ σ₂ (fun vi σ₃ => va.asRef fun p => vi.asInt fun k => zem σ₃ p k ve (K .next ρ)) P) P) P := rfl
@[simp] theorem j5 (t) (src : zhx) (b : SW) : yL t src b ρ σ K P = src ρ σ (fun xs chk σ₁ => zhI chk t b xs ρ σ₁ K) P := rfl
@[simp] theorem zdf (c : EW) (b : SW) : zep c b ρ σ K P = ∃ n, zbk c b n ρ σ K := rfl
@[simp] theorem qB (i) (v : V) (k) : zfv (.nm i) v ρ σ k = k (ym ρ i v) := rfl
@[simp] theorem yd (is) (v : V) (k) : zfv (.tup is) v ρ σ k = v.asRef fun p => zfy σ p fun xs => xs.length = is.length ∧ k (zbm ρ is xs) := rfl
@[simp] theorem qY (k) : zfj none ρ σ k = k true σ := rfl
@[simp] theorem jy (w : EW) (k) : zfj (some w) ρ σ k = w ρ σ (fun v σ₁ => v.asBool fun b => k b σ₁) noP := rfl
end
@[simp] theorem zf (o : Option V) (r : zP) : jW (o :: r) 0 = o := rfl
@[simp] theorem zg (o : Option V) (r : zP) (i : Nat) : jW (o :: r) (i + 1) = jW r i := rfl
@[simp] theorem zp (o : Option V) (r : zP) (v : V) : ym (o :: r) 0 v = some v :: r := rfl
@[simp] theorem zq (o : Option V) (r : zP) (i : Nat) (v : V) : ym (o :: r) (i + 1) v = o :: ym r i v := rfl
@[simp] theorem yU (ρ : zP) (i : Nat) (is : List Nat) (v : V) (vs : List V) : zbm ρ (i :: is) (v :: vs) = zbm (ym ρ i v) is vs := rfl
@[simp] theorem yT (ρ : zP) (vs : List V) : zbm ρ [] vs = ρ := by cases vs <;> rfl

theorem zbU {σ : zb} {a xs k} (h : σ a = some (.list xs)) : qz σ a k = k xs := by simp [qz, h]
theorem asTup_of {σ : zb} {a xs k} (h : σ a = some (.tup xs)) : zfy σ a k = k xs := by simp [zfy, h]
theorem zgP {σ : zb} {a xs k} (h : σ a = some (.dict xs)) : jU σ a k = k xs := by simp [jU, h]
theorem zcv {σ : zb} {a xs k} (h : σ a = some (.list xs)) : yj σ a k = k xs := by simp [yj, h]
theorem asSeq_tup {σ : zb} {a xs k} (h : σ a = some (.tup xs)) : yj σ a k = k xs := by simp [yj, h]
theorem asSeq_ro {σ : zb} {a xs k} (h : σ a = some (.ro xs)) : yj σ a k = k xs := by simp [yj, h]
theorem asLst_list {σ : zb} {a xs k} (h : σ a = some (.list xs)) : zae σ a k = k xs := by simp [zae, h]
theorem zig {σ : zb} {a xs k} (h : σ a = some (.list xs)) : zcl σ a k = k xs (fun σ => σ a = some (.list xs) ∨ σ a = some (.ro xs)) := by simp [zcl, h]
theorem asIter_tup {σ : zb} {a xs k} (h : σ a = some (.tup xs)) : zcl σ a k = k xs (fun σ => σ a = some (.tup xs)) := by simp [zcl, h]
theorem zcw {σ : zb} {a xs k} (h : σ a = some (.list xs)) : zaf σ a k = k xs.length := by simp [zaf, h]
theorem asLen_tup {σ : zb} {a xs k} (h : σ a = some (.tup xs)) : zaf σ a k = k xs.length := by simp [zaf, h]
theorem asLen_ro {σ : zb} {a xs k} (h : σ a = some (.ro xs)) : zaf σ a k = k xs.length := by simp [zaf, h]
theorem asLen_dict {σ : zb} {a xs k} (h : σ a = some (.dict xs)) : zaf σ a k = k xs.length := by simp [zaf, h]
theorem zad {σ : zb} {a xs i v k} (h : σ a = some (.list xs)) : zem σ a i v k = (0 ≤ i ∧ i < xs.length ∧ k (put σ a (.list (xs.set i.toNat v)))) := by simp [zem, h]
theorem qZ {σ : zb} {a kvs i v k} (h : σ a = some (.dict kvs)) : zem σ a i v k = (kvs.length < lim ∧ k (put σ a (.dict (zcu kvs i v)))) := by simp [zem, h]
@[simp] theorem itemAt_s (v : V) (r : List V) (i : Nat) (k) : jJ (v :: r) (i + 1) k = jJ r i k := by simp [jJ]
theorem yc {xs : List V} {i v k} (h : xs[i]? = some v) : jJ xs i k = k v := by simp [jJ, h]

theorem zU {chk t} {b : SW} {xs : List V} {ρ σ K} (I : Nat → zP → zb → Prop) (h0 : I 0 ρ σ)
    (step : ∀ i v ρ σ (K' : Out → zP → zb → Prop), xs[i]? = some v → I i ρ σ → (∀ o ρ' σ', (match o with | .next => I (i + 1) ρ' σ' | .ret u => K (.ret u) ρ' σ') → K' o ρ' σ') → chk σ ∧ zfv t v ρ σ fun ρ' => b ρ' σ K' noP)
    (fin : ∀ ρ σ, I xs.length ρ σ → chk σ ∧ K .next ρ σ) : zhI chk t b xs ρ σ K := by
  have key : ∀ (n i : Nat) (ρ : zP) (σ : zb), i + n = xs.length → I i ρ σ → zhI chk t b (xs.drop i) ρ σ K := by
    intro n
    induction n with
    | zero =>
      intro i ρ σ hi hI
      have hi' : i = xs.length := by assumption
      subst hi'
      rw [List.drop_length]
      exact fin ρ σ hI
    | succ n ih =>
      intro i ρ σ hi hI
      have hlt : i < xs.length := by exact ltN (lit (r3 (↑(i)) (↑(xs.length)) (↑(n))) V0 V1 [(2,1,.add V0 (.add V2 N1),V1),(0,1,N0,V2)] rfl (eqI hi) (nnI _))
      rw [List.drop_eq_getElem_cons hlt]
      refine step i xs[i] ρ σ _ (by simp [hlt]) hI fun o ρ' σ' h => ?_
      cases o with
      | next => exact ih (i + 1) ρ' σ' (by exact eqN (liq (r3 (↑(i)) (↑(n)) (↑(xs.length))) (.add (.add V0 N1) V1) V2 [(2,1,.add V0 (.add V1 N1),V2)] rfl (eqI hi))) h
      | ret u => exact h
  have := key xs.length 0 ρ σ (by exact eqN (liq (r1 (↑(xs.length))) (.add N0 V0) V0 [] rfl)) h0
  simpa using this
theorem qE {chk j c} {e : EW} {ρ : zP} {xs acc : List V} {σ Q} (I : Nat → List V → zb → Prop) (h0 : I 0 acc σ)
    (step : ∀ i v acc σ (K' : List V → zb → Prop), xs[i]? = some v → I i acc σ → (∀ acc' σ', I (i + 1) acc' σ' → K' acc' σ') → chk σ ∧ zfj c (ym ρ j v) σ fun b σ₁ => if b then e (ym ρ j v) σ₁ (fun u σ₂ => K' (acc ++ [u]) σ₂) noP else K' acc σ₁)
    (fin : ∀ acc σ, I xs.length acc σ → chk σ ∧ yI (.list acc) σ Q) : zbp chk j c e ρ xs acc σ Q := by
  have key : ∀ (n i : Nat) (acc : List V) (σ : zb), i + n = xs.length → I i acc σ → zbp chk j c e ρ (xs.drop i) acc σ Q := by
    intro n
    induction n with
    | zero =>
      intro i acc σ hi hI
      have hi' : i = xs.length := by assumption
      subst hi'
      rw [List.drop_length]
      exact fin acc σ hI
    | succ n ih =>
      intro i acc σ hi hI
      have hlt : i < xs.length := by exact ltN (lit (r3 (↑(i)) (↑(xs.length)) (↑(n))) V0 V1 [(2,1,.add V0 (.add V2 N1),V1),(0,1,N0,V2)] rfl (eqI hi) (nnI _))
      rw [List.drop_eq_getElem_cons hlt]
      exact step i xs[i] acc σ (fun acc' σ' => zbp chk j c e ρ (xs.drop (i + 1)) acc' σ' Q) (by simp [hlt]) hI fun acc' σ' h => ih (i + 1) acc' σ' (by exact eqN (liq (r3 (↑(i)) (↑(n)) (↑(xs.length))) (.add (.add V0 N1) V1) V2 [(2,1,.add V0 (.add V1 N1),V2)] rfl (eqI hi))) h
  have := key xs.length 0 acc σ (by exact eqN (liq (r1 (↑(xs.length))) (.add N0 V0) V0 [] rfl)) h0
  simpa using this
theorem zeN {c : EW} {b : SW} {ρ σ K} (I : zP → zb → Prop) (m : zP → zb → Nat) (h0 : I ρ σ)
    (step : ∀ ρ σ n (K' : Out → zP → zb → Prop), I ρ σ → m ρ σ = n → (∀ o ρ' σ', (match o with | .next => I ρ' σ' ∧ m ρ' σ' < n | .ret u => K (.ret u) ρ' σ') → K' o ρ' σ') →
      c ρ σ (fun v σ₁ => v.asBool fun t => if t then b ρ σ₁ K' noP else K .next ρ σ₁) noP) : ∃ n, zbk c b n ρ σ K := by
  refine ⟨m ρ σ + 1, ?_⟩
  have key : ∀ (N : Nat) (ρ : zP) (σ : zb), I ρ σ → m ρ σ < N → zbk c b N ρ σ K := by
    intro N
    induction N with
    | zero => intro ρ σ _ h; exact lif (r1 _) [(1,1,V0,N0),(0,1,N0,V0)] rfl (ltI h) (nnI _)
    | succ N ih =>
      intro ρ σ hI hm
      refine step ρ σ (m ρ σ) _ hI rfl fun o ρ' σ' h => ?_
      cases o with
      | next => exact ih ρ' σ' h.1 (by have := h.2; exact ltN (lit (r3 _ _ _) V0 V1 [(1,1,V2,.add V1 N1),(1,1,V0,V2)] rfl (ltI hm) (ltI h.2)))
      | ret u => exact h
  exact key _ ρ σ h0 (Nat.lt_succ_self _)

noncomputable def Ext (σ σ' : zb) : Prop := ∀ a o, σ a = some o → σ' a = some o
theorem Ext.refl {σ} : Ext σ σ := fun _ _ h => h
theorem Ext.trans {a b c} (h : Ext a b) (h' : Ext b c) : Ext a c := fun x o e => h' x o (h x o e)
theorem Ext.put {σ₀ σ : zb} (h : Ext σ₀ σ) {c : Addr} (hc : σ₀ c = none) (o : O) : Ext σ₀ (put σ c o) := fun a o' e => by
  rw [zS _ (by rintro rfl; rw [hc] at e; cases e)]; exact h a o' e
theorem Ext.none {σ σ' : zb} (h : Ext σ σ') {c : Addr} (hc : σ' c = none) : σ c = none := by
  cases e : σ c with
  | none => rfl
  | some o => rw [h c o e] at hc; cases hc
theorem Ext.new {σ₀ σ : zb} (h : Ext σ₀ σ) {c : Addr} (hc : σ c = .none) (o : O) : Ext σ₀ (Mine.put σ c o) := h.put (h.none hc) o

theorem zi {o : O} {σ : zb} {Q : V → zb → Prop} (h : ∀ c σ', σ c = none → Ext σ σ' → σ' c = some o → Q (.ref c) σ') : yI o σ Q :=
  fun c hc => h c _ hc (Ext.refl.new hc o) (zy _ _ _)
theorem qT {σ : zb} {a b : Addr} {o : O} (h : σ a = some o) (h' : σ b = none) : a ≠ b := by rintro rfl; rw [h] at h'; cases h'

noncomputable def zs (ns : List Int) : List V := ns.map .int
theorem zQ (ns) : (zs ns).length = ns.length := by simp [zs]
theorem zaN {ns : List Int} {i : Nat} {n : Int} (h : ns[i]? = some n) : (zs ns)[i]? = some (.int n) := by simp [zs, h]
theorem zs_set (ns : List Int) (i : Nat) (n : Int) : (zs ns).set i (.int n) = zs (ns.set i n) := by simp [zs, List.map_set]
theorem zfQ (ns ms : List Int) : zs ns ++ zs ms = zs (ns ++ ms) := by simp [zs]
theorem zs_inv {ns : List Int} {i : Nat} {v : V} (h : (zs ns)[i]? = some v) : ∃ n, ns[i]? = some n ∧ v = .int n := by
  unfold zs at h; rw [List.getElem?_map] at h
  cases e : ns[i]? with
  | none => rw [e] at h; cases h
  | some n => rw [e] at h; cases h; exact ⟨n, rfl, rfl⟩
noncomputable def q0 (σ : zb) (a : Addr) (ns : List Int) : Prop := σ a = some (.list (zs ns))
theorem q0.ext {σ σ' a ns} (h : q0 σ a ns) (e : Ext σ σ') : q0 σ' a ns := e _ _ h

inductive Prs (σ : zb) : List V → List (Int × Int) → Prop
  | nil : Prs σ [] []
  | cons {t a b vs rs} : σ t = some (.tup [.int a, .int b]) → Prs σ vs rs → Prs σ (.ref t :: vs) ((a, b) :: rs)
theorem Prs.ext {σ σ' vs rs} (h : Prs σ vs rs) (e : Ext σ σ') : Prs σ' vs rs := by
  induction h with
  | nil => exact .nil
  | cons h _ ih => exact .cons (e _ _ h) ih
theorem Prs.length {σ vs rs} (h : Prs σ vs rs) : vs.length = rs.length := by
  induction h with
  | nil => rfl
  | cons _ _ ih => simp [ih]
inductive PrG (σ : zb) (v : V) (o : Option (Int × Int)) : Prop | mk (t a b) (h1 : v = .ref t) (h2 : o = some (a, b)) (h3 : σ t = some (.tup [.int a, .int b])) : PrG σ v o
theorem Prs.get {σ vs rs} (h : Prs σ vs rs) {i : Nat} {v : V} : vs[i]? = some v → PrG σ v rs[i]? := by
  induction h generalizing i with
  | nil => exact fun e => qF rfl e
  | @cons t a b vs rs h _ ih => exact Nat.casesOn i (fun e => ⟨t, a, b, (Option.some.inj e).symm, rfl, h⟩) fun i e => ih (i := i) e
theorem Prs.append {σ vs rs vs' rs'} (h : Prs σ vs rs) (h' : Prs σ vs' rs') : Prs σ (vs ++ vs') (rs ++ rs') := by
  induction h with
  | nil => exact h'
  | cons h _ ih => exact .cons h ih
theorem Prs.take {σ vs rs} (h : Prs σ vs rs) (i : Nat) : Prs σ (vs.take i) (rs.take i) := by
  induction h generalizing i with
  | nil => simp; exact .nil
  | cons h _ ih => cases i with
    | zero => exact .nil
    | succ i => exact .cons h (ih i)
theorem Prs.drop {σ vs rs} (h : Prs σ vs rs) (i : Nat) : Prs σ (vs.drop i) (rs.drop i) := by
  induction h generalizing i with
  | nil => simp; exact .nil
  | cons h r ih => cases i with
    | zero => exact .cons h r
    | succ i => exact ih i
inductive z2 (σ : zb) (a : Addr) (rs : List (Int × Int)) : Prop | mk (vs) (h1 : σ a = some (.list vs)) (h2 : Prs σ vs rs) : z2 σ a rs
theorem z2.ext {σ σ' a rs} (h : z2 σ a rs) (e : Ext σ σ') : z2 σ' a rs := let ⟨vs, h1, h2⟩ := h; ⟨vs, e _ _ h1, h2.ext e⟩

theorem zdb (σ : zb) : ∀ ns : List Int, Rds σ (zs ns) (ns.map .int) := by
  intro r_
  induction r_ with
  | nil =>
    exact .nil
  | cons n r ih_ =>
    exact .cons (.int n) (ih_)
theorem q0.rd {σ a ns} (h : q0 σ a ns) : Rd σ (.ref a) (.list (ns.map .int)) := .list h (zdb σ ns)
theorem zbE : ∀ ns ms : List Int, PyData.eqvAll (ns.map .int) (ms.map .int) = decide (ns = ms)
  | [], [] => rfl
  | [], _ :: _ => rfl
  | _ :: _, [] => rfl
  | n :: r, m :: q => by
    simp only [List.map_cons, PyData.eqvAll, PyData.eqv, zbE r q]
    by_cases h : n = m <;> by_cases h' : r = q <;> simp [h, h']
theorem zif : ∀ ns : List Int, PyData.canLayAll0 (ns.map .int) = true := by
  intro r_
  induction r_ with
  | nil =>
    exact rfl
  | cons n r ih_ =>
    simp [PyData.canLayAll0, PyData.canLay0, ih_]
theorem depth_ints : ∀ ns : List Int, PyData.depthAll (ns.map .int) = 0 := by
  intro r_
  induction r_ with
  | nil =>
    exact rfl
  | cons n r ih_ =>
    simp [PyData.depthAll, PyData.depth, ih_]
theorem zal (ns : List Int) : SeqAt.shaped (.list (ns.map .int)) = true := by
  simp [SeqAt.shaped, PyData.canLay0, PyData.depth, zif, depth_ints]
theorem Eqv.zs {σ a b ns ms} {k : Bool → Prop} (ha : q0 σ a ns) (hb : q0 σ b ms) (hk : k (decide (ns = ms))) : Eqv σ (.ref a) (.ref b) k :=
  ⟨_, _, ha.rd, hb.rd, zal _, zal _, by simpa [PyData.eqv, zbE] using hk⟩
noncomputable def prD (p : Int × Int) : PyData := .tuple [.int p.1, .int p.2]
theorem Prs.rd {σ vs rs} (h : Prs σ vs rs) : Rds σ vs (rs.map prD) := by
  induction h with
  | nil => exact .nil
  | cons h _ ih => exact .cons (.tup h (.cons (.int _) (.cons (.int _) .nil))) ih
theorem z2.rd {σ a rs} (h : z2 σ a rs) : Rd σ (.ref a) (.list (rs.map prD)) := let ⟨vs, h1, h2⟩ := h; .list h1 h2.rd
theorem zfe : ∀ rs qs : List (Int × Int), PyData.eqvAll (rs.map prD) (qs.map prD) = decide (rs = qs)
  | [], [] => rfl
  | [], _ :: _ => rfl
  | _ :: _, [] => rfl
  | (a, b) :: r, (c, e) :: q => by
    simp only [List.map_cons, PyData.eqvAll, zfe r q, prD, PyData.eqv]
    by_cases h : a = c <;> by_cases h2 : b = e <;> by_cases h' : r = q <;> simp [h, h', h2]
theorem canLay_prs : ∀ rs : List (Int × Int), PyData.canLayAll0 (rs.map prD) = true := by
  intro r_
  induction r_ with
  | nil =>
    exact rfl
  | cons n r ih_ =>
    simp [PyData.canLayAll0, PyData.canLay0, prD, ih_]
theorem depth_prs : ∀ rs : List (Int × Int), PyData.depthAll (rs.map prD) ≤ 1 := by
  intro r_
  induction r_ with
  | nil =>
    simp [PyData.depthAll]
  | cons n r ih_ =>
    have := ih_; simp [PyData.depthAll, PyData.depth, prD]; lia
theorem zeZ (rs : List (Int × Int)) : SeqAt.shaped (.list (rs.map prD)) = true := by
  have := depth_prs rs
  simp [SeqAt.shaped, PyData.canLay0, PyData.depth, canLay_prs]; exact leN (lin (r1 _) V0 (.num 63) [(0,1,V0,N1)] rfl (leI this))
theorem Eqv.roads {σ a b ns ms} {k : Bool → Prop} (ha : z2 σ a ns) (hb : z2 σ b ms) (hk : k (decide (ns = ms))) : Eqv σ (.ref a) (.ref b) k :=
  ⟨_, _, ha.rd, hb.rd, zeZ _, zeZ _, by simpa [PyData.eqv, zfe] using hk⟩

noncomputable def FnW (T : TC) (f : Str) (n k : Nat) (w : Nat → SW) : Prop :=
  ∀ d vs σ Q P, vs.length = n → w d (zct vs k) σ (fun o _ σ' => Q (match o with | .ret v => v | .next => .none) σ') P → zC T (d + 1) f vs σ Q P
@[simp] theorem qd (v : V) (vs : List V) (k : Nat) : zct (v :: vs) k = some v :: zct vs k := rfl
@[simp] theorem qc : zct [] 0 = [] := rfl
@[simp] theorem qg (k : Nat) : zct [] (k + 1) = none :: zct [] k := rfl
end Mine
end
section
open PySem
namespace Mine
theorem zH {σ : zb} {a xs} {k : List V → Prop} (h : σ a = some (.list xs)) (hk : k xs) : qz σ a k := by rw [zbU h]; exact hk
theorem zaE {σ : zb} {a xs} {k : List V → Prop} (h : σ a = some (.tup xs)) (hk : k xs) : zfy σ a k := by rw [asTup_of h]; exact hk
theorem qC {σ : zb} {a xs} {k : List (Int × V) → Prop} (h : σ a = some (.dict xs)) (hk : k xs) : jU σ a k := by rw [zgP h]; exact hk
theorem ji {σ : zb} {a xs} {k : List V → Prop} (h : σ a = some (.list xs)) (hk : k xs) : yj σ a k := by rw [zcv h]; exact hk
theorem jR {σ : zb} {a xs} {k : List V → Prop} (h : σ a = some (.tup xs)) (hk : k xs) : yj σ a k := by rw [asSeq_tup h]; exact hk
theorem zW {σ : zb} {a} {xs : List V} {k : Nat → Prop} (h : σ a = some (.list xs)) (hk : k xs.length) : zaf σ a k := by rw [zcw h]; exact hk
theorem asLen_ti {σ : zb} {a} {xs : List V} {k : Nat → Prop} (h : σ a = some (.tup xs)) (hk : k xs.length) : zaf σ a k := by rw [asLen_tup h]; exact hk
theorem asLen_ri {σ : zb} {a} {xs : List V} {k : Nat → Prop} (h : σ a = some (.ro xs)) (hk : k xs.length) : zaf σ a k := by rw [asLen_ro h]; exact hk
theorem zaX {σ : zb} {a} {xs : List (Int × V)} {k : Nat → Prop} (h : σ a = some (.dict xs)) (hk : k xs.length) : zaf σ a k := by rw [asLen_dict h]; exact hk
theorem jt {σ : zb} {a xs} {k : List V → Prop} (h : σ a = some (.list xs)) (hk : k xs) : zae σ a k := by rw [asLst_list h]; exact hk
theorem zaV {xs : List V} {i v} {k : V → Prop} (h : xs[i]? = some v) (hk : k v) : jJ xs i k := by rw [yc h]; exact hk
theorem qh {σ : zb} {a xs} {k : List V → (zb → Prop) → Prop} (h : σ a = some (.list xs)) (hk : k xs fun σ => σ a = some (.list xs) ∨ σ a = some (.ro xs)) : zcl σ a k := by rw [zig h]; exact hk
theorem qK {b : Bool} {A B : Prop} (h : b = true) (ha : A) : if b = true then A else B := by rw [if_pos h]; exact ha
theorem je {b : Bool} {A B : Prop} (h : b = false) (hb : B) : if b = true then A else B := by rw [h, if_neg Bool.false_ne_true]; exact hb
theorem not_dt {p : Prop} [Decidable p] (h : p) : (!decide p) = false := by rw [decide_eq_true h]; rfl
theorem not_df {p : Prop} [Decidable p] (h : ¬ p) : (!decide p) = true := by rw [decide_eq_false h]; rfl
theorem Eqv.zs_t {σ : zb} {a b : Addr} {ns ms : List Int} {k : Bool → Prop} (ha : q0 σ a ns) (hb : q0 σ b ms) (h : ns = ms) (hk : k true) : Eqv σ (.ref a) (.ref b) k := Eqv.zs ha hb (by rw [decide_eq_true h]; exact hk)
theorem Eqv.roads_t {σ : zb} {a b : Addr} {ns ms : List (Int × Int)} {k : Bool → Prop} (ha : z2 σ a ns) (hb : z2 σ b ms) (h : ns = ms) (hk : k true) : Eqv σ (.ref a) (.ref b) k := Eqv.roads ha hb (by rw [decide_eq_true h]; exact hk)
end Mine
end
section
open PySem
namespace Mine
open PySem.Calls PyProof.Rows
section
variable {T : TC} {d : Nat} {sc : Scope} {ctx : List Str}
noncomputable def isOp (neg : Bool) : CmpOp := if neg then .IsNot else .Is
theorem marks_is (neg : Bool) (r : Expr) : behindInMarks (isOp neg) r = false := zfJ (by cases neg <;> rfl) r
noncomputable def V.isNone : V → Bool
  | .none => true
  | _ => false
noncomputable def V.isTrue : V → Bool
  | .bool true => true
  | _ => false
noncomputable def isNone (neg : Bool) (a : EW) : EW := fun ρ σ Q P => a ρ σ (fun v σ₁ => Q (.bool (if neg then !v.isNone else v.isNone)) σ₁) P
noncomputable def isTrueW (neg : Bool) (a : EW) : EW := fun ρ σ Q P => a ρ σ (fun v σ₁ => Q (.bool (if neg then !v.isTrue else v.isTrue)) σ₁) P
theorem is_none (neg : Bool) {A E s v u} {Q : Value → Shared → Prop} (hv : VIs v u) (h : Q (.bool (if neg then !v.isNone else v.isNone)) s) : wpAny T.M A (compareOp (isOp neg) u .none) Q E s := by
  cases neg
  · cases hv <;> exact wpAny_is_plain (by rfl) h
  · cases hv <;> exact wpAny_isNot_plain (by rfl) h
theorem zh4 (neg : Bool) {l r pos op} {a : EW} (ho : op = isOp neg) (hl : zB T d sc ctx l a) (hr : zB T d sc ctx r (val .none) := by exact zhb) : zbN T d sc ctx (.Compare l [op] [r] pos) (isNone neg a) := by
  subst ho
  intro A env ρ σ s Q P eo ro st fr hw
  refine wpAny_isTrue_Compare1 (hl.run eo ro st fr hw ?_) (marks_is neg r)
  intro va ua σ₁ s₁ v1 st1 p1 fr1 hw1
  refine hr.then eo ro p1 st1 fr1 (Q := fun v σ₂ => v = .none ∧ Q (.bool (if neg then !va.isNone else va.isNone)) σ₂) ⟨rfl, hw1⟩ ?_
  intro vb ub σ₂ s₂ v2 st2 p2 fr2 hw2
  obtain ⟨rfl, hw3⟩ := hw2
  cases v2
  exact is_none neg v1 (wpAny_truthy_bool ⟨_, st2, p2, hw3⟩)
noncomputable def max2W (a b : EW) : EW := fun ρ σ Q P => a ρ σ (fun va σ₁ => b ρ σ₁ (fun vb σ₂ => va.asInt fun x => vb.asInt fun y => Q (.int (if y > x then y else x)) σ₂) P) P
noncomputable def min2W (a b : EW) : EW := fun ρ σ Q P => a ρ σ (fun va σ₁ => b ρ σ₁ (fun vb σ₂ => va.asInt fun x => vb.asInt fun y => Q (.int (if y < x then y else x)) σ₂) P) P
theorem zhc (ok : T.Ok) (B : Blt T) {p pos e f} {a b : EW} (h : zB T d sc ctx e a) (h' : zB T d sc ctx f b) (hx : sc.names.lookup ("max" : Str) = some .globalImplicit)
    (he1 : ∀ env, starEach (e :: [f]) env = (false, eval e env) :: starEach [f] env := by intro _; rfl) (he2 : ∀ env, starEach [f] env = [(false, eval f env)] := by intro _; rfl) (C : T.calm = true := by assumption) :
    zB T d sc ctx (.Call (.Name "max" p) [e, f] [] pos) (max2W a b) := by
  intro A env ρ σ s Q P eo ro st fr hw
  refine Call_ (jP ok eo st hx (B.none _ (by decide)) (v := .builtin "max") (by decide +kernel) (by decide) (by decide) ?_)
  refine callWith_builtin1 (args_cons (h.then eo ro .refl st fr hw fun v u σ₁ s₁ hv st1 p1 fr1 hw1 => ?_) (he1 env)) (he1 env) (by rw [he2 env]; rfl)
  refine args_cons (h'.then eo ro p1 st1 fr1 hw1 fun v' u' σ₂ s₂ hv' st2 p2 fr2 hw2 => args_nil ?_) (he2 env)
  obtain ⟨x, t, hw3⟩ := hw2.get hv
  obtain ⟨y, t', hw4⟩ := hw3.get hv'
  refine max_two_ints (ro.handled C) fun h' tk hk => ?_
  split
  · rename_i hgt
    simp only [hgt, if_true] at hw4
    exact ⟨_, _, .int _ _, st2.grow hk tk, p2.grow hk tk, hw4⟩
  · rename_i hgt
    simp only [hgt, if_false] at hw4
    exact ⟨_, _, .int _ _, st2.grow hk tk, p2.grow hk tk, hw4⟩
end
section
variable (ρ : zP) (σ : zb) (Q : V → zb → Prop) (P : Nat → zb → Prop)
@[simp] theorem zdu (neg) (a : EW) : isNone neg a ρ σ Q P = a ρ σ (fun v σ₁ => Q (.bool (if neg then !v.isNone else v.isNone)) σ₁) P := rfl
@[simp] theorem zdd (neg) (a : EW) : isTrueW neg a ρ σ Q P = a ρ σ (fun v σ₁ => Q (.bool (if neg then !v.isTrue else v.isTrue)) σ₁) P := rfl
@[simp] theorem zcR (a b : EW) : max2W a b ρ σ Q P = a ρ σ (fun va σ₁ => b ρ σ₁ (fun vb σ₂ => va.asInt fun x => vb.asInt fun y => Q (.int (if y > x then y else x)) σ₂) P) P := rfl
@[simp] theorem zhH (a b : EW) : min2W a b ρ σ Q P = a ρ σ (fun va σ₁ => b ρ σ₁ (fun vb σ₂ => va.asInt fun x => vb.asInt fun y => Q (.int (if y < x then y else x)) σ₂) P) P := rfl
end
end Mine
end
section
open PySem
namespace Mine
open PySem.Calls PyProof.Rows
section
variable {T : TC} {d : Nat} {sc : Scope} {ctx : List Str}
inductive InV (σ : zb) (va vb : V) (k : Bool → Prop) : Prop | mk (da : PyData) (xs : List PyData) (h1 : Rd σ va da) (h2 : Rd σ vb (.list xs) ∨ Rd σ vb (.tuple xs)) (h3 : PyData.canLayAll0 xs = true) (h4 : da.canLay0 = true) (h5 : min (PyData.depthAll xs) da.depth ≤ 60) (h6 : k (xs.any fun y => PyData.eqv y da)) : InV σ va vb k
noncomputable def inL (neg : Bool) (a b : EW) : EW := fun ρ σ Q P => a ρ σ (fun va σ₁ => b ρ σ₁ (fun vb σ₂ => InV σ₂ va vb fun t => Q (.bool (if neg then !t else t)) σ₂) P) P
theorem in_data (neg : Bool) {A E s σ va vb ua ub} {k : Bool → Prop} {Q : Value → Shared → Prop} (ro : zah T A d) (st : St T σ s) (h : InV σ va vb k) (ha : VIs va ua) (hb : VIs vb ub) (hq : ∀ t, k t → Q (.bool (if neg then !t else t)) s) :
    wpAny T.M A (compareOp (inOp neg) ua ub) Q E s := by
  obtain ⟨da, xs, r1, r2, s1, s2, hd, hk⟩ := h
  obtain ⟨as, h1⟩ := r1.reads st ha
  have hu : A.units + 1 + min (PyData.depthAll xs) da.depth < cLine := by have := ro.units; omega
  rcases r2 with r2 | r2
  · obtain ⟨bs, h2⟩ := r2.reads st hb
    cases neg
    · exact SeqAt.in_list_reads h2 h1 s1 s2 hu (hq _ hk)
    · exact SeqAt.notIn_list_reads h2 h1 s1 s2 hu (hq _ hk)
  · obtain ⟨bs, h2⟩ := r2.reads st hb
    cases neg
    · exact SeqAt.in_tuple_reads h2 h1 s1 s2 hu (hq _ hk)
    · exact SeqAt.notIn_tuple_reads h2 h1 s1 s2 hu (hq _ hk)
theorem zbK (neg : Bool) {l r pos op} {a b : EW} (ho : op = inOp neg) (hl : zB T d sc ctx l a) (hr : zB T d sc ctx r b) (hm : behindInMarks op r = false := by rfl) : zbN T d sc ctx (.Compare l [op] [r] pos) (inL neg a b) := by
  subst ho
  intro A env ρ σ s Q P eo ro st fr hw
  refine wpAny_isTrue_Compare1 (hl.run eo ro st fr hw ?_) hm
  intro va ua σ₁ s₁ v1 st1 p1 fr1 hw1
  refine hr.then eo ro p1 st1 fr1 hw1 ?_
  intro vb ub σ₂ s₂ v2 st2 p2 fr2 hw2
  exact in_data neg ro st2 hw2 v1 v2 fun t ht => wpAny_truthy_bool ⟨_, st2, p2, ht⟩
end
section
variable (ρ : zP) (σ : zb) (Q : V → zb → Prop) (P : Nat → zb → Prop)
@[simp] theorem inL_ (neg) (a b : EW) : inL neg a b ρ σ Q P = a ρ σ (fun va σ₁ => b ρ σ₁ (fun vb σ₂ => InV σ₂ va vb fun t => Q (.bool (if neg then !t else t)) σ₂) P) P := rfl
end
theorem InV.tup {σ : zb} {t : Addr} {ns : List Int} {x : Int} {k : Bool → Prop} (ht : σ t = some (.tup (ns.map .int))) (hk : k (decide (x ∈ ns))) : InV σ (.int x) (.ref t) k := by
  refine ⟨.int x, ns.map .int, .int x, .inr (.tup ht (zdb σ ns)), ?_, by rfl, by simp [PyData.depth], ?_⟩
  · clear ht hk; induction ns with
    | nil => rfl
    | cons a r ih => simp [PyData.canLayAll0, PyData.canLay0, ih]
  · have : ((ns.map PyData.int).any fun y => PyData.eqv y (.int x)) = decide (x ∈ ns) := by
      rw [Bool.eq_iff_iff, List.any_map, List.any_eq_true, decide_eq_true_eq]
      constructor
      · intro hI0a
        obtain ⟨y, hy, h⟩ := hI0a
        simp only [Function.comp, PyData.eqv] at h
        have : y = x := by simpa using h
        exact this ▸ hy
      · intro h; exact ⟨x, h, by simp [PyData.eqv]⟩
    rw [this]; exact hk
end Mine
namespace Mine
theorem lt_toNat {x m : Int} (h : x < m) : x < (m.toNat : Int) := by (first | lia | omega)
theorem wG {i : Nat} {m : Int} (h : (i : Int) < m) : i < m.toNat := by (first | lia | omega)
theorem qM {i : Nat} {m : Int} (hm : 0 ≤ m) (h : i < m.toNat) : (i : Int) < m := by (first | lia | omega)
theorem qL {m : Int} (h : 0 ≤ m) (h' : m ≤ 10) : jc m := by unfold jc; exact ⟨lin (r1 _) (.neg (.num 4611686018427387904)) V0 [(0,1,N0,V0)] rfl h, lit (r1 _) V0 (.num 4611686018427387904) [(0,1,V0,.num 10)] rfl h'⟩
theorem zdn {m : Int} (h' : m ≤ 10) : (rng 0 m.toNat).length ≤ lim := by rw [qf]; unfold lim; lia
theorem mem_lt {v : Nat} {m : Int} (hm : 0 ≤ m) (h : v ∈ List.range m.toNat) : (v : Int) < m := qM hm (List.mem_range.mp h)
theorem two_get {α : Type} {a b v : α} {j : Nat} (h : [a, b][j]? = some v) : (j = 0 ∧ a = v) ∨ (j = 1 ∧ b = v) := by
  cases j with
  | zero => exact .inl ⟨rfl, Option.some.inj h⟩
  | succ j => cases j with
    | zero => exact .inr ⟨rfl, Option.some.inj h⟩
    | succ j => cases h
theorem jB {x : Int} (h : 0 < x) : x ≠ 0 := by (first | lia | omega)
end Mine
end
open PySem Mine
section
open PySem
namespace Mine
section
variable (ρ : zP) (σ : zb) (Q : V → zb → Prop) (P : Nat → zb → Prop) (K : Out → zP → zb → Prop)
theorem zeR (v) : val v ρ σ Q P = Q v σ := (rfl)
theorem ze6 (i) : loc i ρ σ Q P = match jW ρ i with | some v => Q v σ | none => False := (rfl)
theorem zhG (a b : EW) : zcC a b ρ σ Q P = a ρ σ (fun va σ₁ => b ρ σ₁ (fun vb σ₂ => va.asInt fun x => vb.asInt fun y => IntMulOk x y ∧ Q (.int (x * y)) σ₂) P) P := (rfl)
theorem divI_P (a b : EW) : zcb a b ρ σ Q P = a ρ σ (fun va σ₁ => b ρ σ₁ (fun vb σ₂ => va.asInt fun x => vb.asInt fun y => (y ≠ 0 ∧ Builtin.divisionGoesByPylong x y = false) ∧ Q (.int (x.fdiv y)) σ₂) P) P := (rfl)
theorem zf3 (a b : EW) : yJ a b ρ σ Q P = a ρ σ (fun va σ₁ => b ρ σ₁ (fun vb σ₂ => va.asInt fun x => vb.asInt fun y => y ≠ 0 ∧ Q (.int (x.fmod y)) σ₂) P) P := (rfl)
theorem cmpI_P (c) (a b : EW) : jh c a b ρ σ Q P = a ρ σ (fun va σ₁ => b ρ σ₁ (fun vb σ₂ => va.asInt fun x => vb.asInt fun y => Q (.bool (c.run x y)) σ₂) P) P := (rfl)
theorem andW_P (a b : EW) : zag a b ρ σ Q P = a ρ σ (fun v σ₁ => v.asBool fun t => if t then b ρ σ₁ Q P else Q (.bool false) σ₁) P := (rfl)
theorem orW_P (a b : EW) : orW a b ρ σ Q P = a ρ σ (fun v σ₁ => v.asBool fun t => if t then Q (.bool true) σ₁ else b ρ σ₁ Q P) P := (rfl)
theorem nilW_P (Q : List V → zb → Prop) : zR ρ σ Q P = Q [] σ := (rfl)
theorem consW_P (a : EW) (r : EWs) (Q : List V → zb → Prop) : zh a r ρ σ Q P = a ρ σ (fun v σ₁ => r ρ σ₁ (fun vs σ₂ => Q (v :: vs) σ₂) P) P := (rfl)
theorem subW_P (a i : EW) : qi a i ρ σ Q P = a ρ σ (fun va σ₁ => i ρ σ₁ (fun vi σ₂ => va.asRef fun p => vi.asInt fun k => 0 ≤ k ∧ yj σ₂ p fun xs => jJ xs k.toNat fun v => Q v σ₂) P) P := (rfl)
theorem lenW_P (a : EW) : j4 a ρ σ Q P = a ρ σ (fun v σ₁ => v.asRef fun p => zaf σ₁ p fun n => Q (.int n) σ₁) P := (rfl)
theorem callW_P (T d f) (ws : EWs) : zM T d f ws ρ σ Q P = ws ρ σ (fun vs σ₁ => zC T d f vs σ₁ Q P) P := (rfl)
theorem zha : qe ρ σ K P = K .next ρ σ := (rfl)
theorem seqW_P (a b : SW) : zA a b ρ σ K P = a ρ σ (fun o ρ₁ σ₁ => match o with | .next => b ρ₁ σ₁ K P | .ret v => K (.ret v) ρ₁ σ₁) P := (rfl)
theorem retW_P (a : EW) : qR a ρ σ K P = a ρ σ (fun v σ₁ => K (.ret v) ρ σ₁) P := (rfl)
theorem zhN (i) (a : EW) : z1 i a ρ σ K P = a ρ σ (fun v σ₁ => K .next (ym ρ i v) σ₁) P := (rfl)
theorem iteS_P (c : EW) (a b : SW) : jg c a b ρ σ K P = c ρ σ (fun v σ₁ => v.asBool fun t => if t then a ρ σ₁ K P else b ρ σ₁ K P) P := (rfl)
theorem zaA (o : Option V) (r : zP) : jW (o :: r) 0 = o := (rfl)
theorem zaB (o : Option V) (r : zP) (i : Nat) : jW (o :: r) (i + 1) = jW r i := (rfl)
theorem ze0 (o : Option V) (r : zP) (v : V) : ym (o :: r) 0 v = some v :: r := (rfl)
theorem ze1 (o : Option V) (r : zP) (i : Nat) (v : V) : ym (o :: r) (i + 1) v = o :: ym r i v := (rfl)
theorem env0_cP (v : V) (vs : List V) (k : Nat) : zct (v :: vs) k = some v :: zct vs k := (rfl)
theorem env0_zP : zct [] 0 = [] := (rfl)
theorem env0_sP (k : Nat) : zct [] (k + 1) = none :: zct [] k := (rfl)
theorem jz (i : Int) (k) : (V.int i).asInt k = k i := (rfl)
theorem ya (b : Bool) (k) : (V.bool b).asBool k = k b := (rfl)
theorem zfz (a : Addr) (k) : (V.ref a).asRef k = k a := (rfl)
end
end Mine
end
section
open PySem
namespace Mine
open PySem.Calls PyProof.Rows
section
variable {T : TC} {d : Nat} {sc : Scope} {ctx : List Str}
end
section
variable (ρ : zP) (σ : zb) (Q : V → zb → Prop) (K : Out → zP → zb → Prop) (P : Nat → zb → Prop)
end
end Mine
end
section
open PySem
namespace Mine
open PySem.Calls PyProof.Rows
noncomputable def bmV : List Value := [.type "ValueError", .type "Exception", .type "BaseException", .type "object"]
noncomputable def subX (x y : Nat) : Bool := x == y || y == 0
noncomputable def ze9 : List Str := ["__init__", "__getattribute__", "__getattr__", "__class__"]
inductive zcx (h : Heap) : List Value → Prop
  | base : zcx h bmV
  | own {A : Addr} {c0 : Value} {dd : Option Addr} {cd : ClassData} {sl : Array (Option Value)} {mA : Str → Option Value} {tl : List Value} :
      h.get? A = some { cls := c0, dict := dd, data := .cls cd, slots := sl } → h.Ns cd.ns mA → (∀ n ∈ ze9, mA n = none) → zcx h tl → zcx h (.ref A :: tl)
theorem zcx.old {h : Heap} {tl : List Value} (T : zcx h tl) : OwnTail h bmV tl := by
  induction T with
  | base => exact .base
  | own hA hN hq _ ih => exact .own hA hN (hq _ (.head _)) ih
theorem zcx.keeps {h h' : Heap} {tl : List Value} (T : zcx h tl) (hk : ∀ b o, h.get? b = some o → h'.get? b = some o) : zcx h' tl := by
  induction T with
  | base => exact .base
  | own hA hN hq _ ih => exact .own (hk _ _ hA) (hN.keeps hk) hq ih
structure CP where
  nm : Str
  q : Str
  N : Addr
  bs : List Value
  bm : List Value
  hdct : Bool
  sn : List Str
  sub : List Value
  ab : Bool
  col : Option Bool
  dd : Option Addr
  k0 : Option Value
  k1 : Option Value
  k2 : Option Value
  k3 : Option Value
  k5 : Option Value
noncomputable abbrev CP.obj (p : CP) (C : Addr) (newId : String) : Obj := excClassObj p.nm p.q C p.N p.bs p.bm p.hdct p.sn p.sub p.ab p.col p.dd p.k0 p.k1 p.k2 p.k3 p.k5 newId
structure XAt (g₀ : Str → Option Value) (h₀ : Heap) (xs : List Nat) (x : Nat) (C : Addr) : Prop where
  mg : g₀ (qq x) = some (.ref C)
  obj : ∃ (p : CP) (mN : Str → Option Value), h₀.get? C = some (p.obj C "ValueError.__new__") ∧ h₀.Ns p.N mN ∧ (∀ n ∈ ze9, mN n = none) ∧ zcx h₀ p.bm ∧
    ∀ y ∈ xs, ∀ Cy, g₀ (qq y) = some (.ref Cy) → (Value.ref C :: p.bm).contains (.ref Cy) = subX x y
noncomputable def XG (mg : Str → Option Value) (hb : Heap) (xs : List Nat) : Prop := ∀ x ∈ xs, ∃ C, XAt mg hb xs x C
noncomputable abbrev XF (T : TC) (xs : List Nat) : Prop := XG T.mg T.hb xs
section
variable {T : TC} {d : Nat} {sc : Scope} {ctx : List Str}
noncomputable def zer (x : Nat) : SW := fun _ σ _ P => P x σ
theorem zc9 (ok : T.Ok) {xs : List Nat} (X : XF T xs) {x : Nat} (hx : x ∈ xs) {n m : Str} (hn : n = qq x) {np cp pos k mp} (hk : sc.names.lookup n = some .globalImplicit) (hd : (n == ("__debug__" : Str)) = false) (C : T.calm = true := by assumption) :
    zbr T d sc ctx (.Raise (some (.Call (.Name n np) [.Constant (.str m) k mp] [] cp)) none pos) (zer x) := by
  subst hn
  intro A env ρ σ s K P eo ro st fr hw
  obtain ⟨Cx, hX⟩ := X x hx
  obtain ⟨p, mN, hC, hN, hni, hT, _⟩ := hX.obj
  refine wpAny_Raise_call_subU (C := Cx) (nm := p.nm) (q := p.q) (N := p.N) (bs := p.bs) (bm := p.bm) (hdct := p.hdct) (sn := p.sn) (sub := p.sub) (ab := p.ab) (col := p.col) (dd := p.dd) (k0 := p.k0) (k1 := p.k1) (k2 := p.k2) (k3 := p.k3) (k5 := p.k5)
    PySem.F.excBase_ValueError (by decide +kernel) PySem.F.excBase_ValueError (mN := mN) (hT.old.hasType (by decide +kernel)) (ro.handled C) rfl (hni _ (.head _))
    (Name_function_global (by rw [eo.scope]; exact eo.kind) (by rw [eo.kindOf]; exact hk) (loadGlobal_global (mg := T.mg) (by rw [eo.globals]; exact st.ns ok.g) hX.mg ⟨rfl, ?_⟩) hd)
  refine Calls.evalArgs_plain (Calls.spliced_cons (wpAny_Constant_str (k := k) (pos := mp) (Calls.spliced_nil ⟨rfl, Nat.le_of_ble_eq_true rfl, st.base _ _ hC, st.ns hN, (hT.keeps st.base).old, fun h' e hm => ?_⟩)))
  obtain ⟨t, h1, h2, h3⟩ := hm.there
  have st1 := st.tok (s.toks + 1)
  have hb : T.hb.get? e = none := by
    cases q : T.hb.get? e with
    | none => rfl
    | some o => have := st.base _ _ q; rw [hm.new] at this; cases this
  refine ⟨x, σ, st.grow hm.keeps _, (zL.refl (T := T) (X := own env) (σ := σ) (s := s)).grow hm.keeps _, ⟨e, Cx, _, _, rfl, hX.mg, ⟨hm.new, hb, st.noneFree hm.new⟩, h1, rfl, rfl, .inl rfl⟩, hw⟩
noncomputable abbrev TC.cold (T : TC) : TC := { T with calm := false }
theorem St.cold {σ s} (st : St T σ s) : St T.cold σ s := ⟨st.rest, st.base, st.objs, st.fresh, st.sysm, st.ro, st.frames⟩
theorem St.warm {σ s} (st : St T.cold σ s) : St T σ s := ⟨st.rest, st.base, st.objs, st.fresh, st.sysm, st.ro, st.frames⟩
theorem qt.cold {env ρ σ h} (f : qt T env ctx ρ σ h) : qt T.cold env ctx ρ σ h := ⟨f.nd, f.ns, f.cell, f.loneM, f.apartM, f.lfree, f.cfreeM, f.lbase, f.cbaseM⟩
theorem zL.warm {X σ s σ' s'} (p : zL T.cold X σ s σ' s') : zL T X σ s σ' s' := ⟨p.keep, p.live, p.mono, p.new⟩
theorem exc_hit {M : Model} {A : Around} {E : Value → Shared → Prop} {h : Heap} {g : Array GenState} {dr : Drawn} {t : Nat} {os : OsState} {p : CP} {C : Addr} {newId : String}
    {p' : CP} {Y : Addr} {newId' : String} {e : Addr} {oe : Obj} {Q : Bool → Shared → Prop}
    (hC : h.get? C = some (p.obj C newId)) (hY : h.get? Y = some (p'.obj Y newId'))
    (he : h.get? e = some oe) (hcls : oe.cls = .ref C) (hbase : p'.bm.contains (.type "BaseException") = true) (hs : (Value.ref C :: p.bm).contains (.ref Y) = true)
    (hq : Q true ⟨h, g, dr, t, os⟩) : wpAny M A (excMatches (.ref e) (.ref Y)) Q E ⟨h, g, dr, t, os⟩ := by
  have hcB : (Value.ref Y :: p'.bm).contains (.type "BaseException") = true := by rw [List.contains_cons, hbase, Bool.or_true]
  have f := tc_notTuple
  unfold excMatches
  repeat (first | (with_reducible refine wpAny_loadPart_at he ?_; rw [hcls]) | with_reducible refine wpAny_loadPart_at hY ?_ | (with_reducible refine wpAny_isSubtype_exc hY ?_; rw [hcB]) | (with_reducible refine wpAny_isSubtype_exc hC ?_; rw [hs]) | wp_step)
  exact hq
noncomputable def tryW (xs : List Nat) (a : EW) (i : Nat) (hand : SW) : SW := fun ρ σ K P => a ρ σ (fun _ σ₁ => K .next ρ σ₁) (fun x σ₁ => x ∈ xs ∧ ∀ c, σ₁ c = none → hand (ym ρ i (.ref c)) (put σ₁ c (.exc x)) (fun o _ σ₂ => K o [] σ₂) noP)
theorem try_ (ok : T.Ok) {xs : List Nat} (X : XF T xs) (h0 : 0 ∈ xs) {outer : List Env} {L : Addr} {env : Env} (hT : T.fr = env :: outer) (hf : env.frame = some L) {e ep tp b₀ suite hp pos} {n : Str} {i : Nat} {a : EW} {hand : SW} (ha : zB T d sc ctx e a)
    (hh : jm T.cold d sc ctx (b₀ :: suite) hand) (hi : ctx[i]? = some n) (hl : sc.names.lookup n = some .local) (hk : sc.names.lookup ("YardError" : Str) = some .globalImplicit) (hs : ∀ env, swapsWith e none ep.line env = pure false := by intro _; rfl)
    {A : Around} {ρ : zP} {σ : zb} {s : Shared} {K : Out → zP → zb → Prop} {P : Nat → zb → Prop} (eo : q8 sc env) (ro : zah T A d) (st : St T σ s) (fr : qt T env ctx ρ σ s.heap) (hw : tryW xs a i hand ρ σ K P) :
    wpAny T.M A (exec (.Try [.Expr e ep] [.ExceptHandler (some (.Name "YardError" tp)) (some n) (b₀ :: suite) hp] [] [] pos) env) (wJ T env ctx σ s K) (jj T (own env) σ s P) s := by
  have hin : interactive env = false := by unfold interactive; rw [eo.scope, eo.kind]; rfl
  refine wpAny_Try_except (wpAny_execs_cons (wpAny_Expr_any ?_ hin (hs env)))
  refine wpAny_mono (ha A env ρ σ s _ _ eo ro st fr hw) (fun v s₁ hv => ?_) (fun ex s₁ hx => ?_)
  · obtain ⟨v', σ₁, hv', st1, p1, hq⟩ := hv
    exact wpAny_execs_nil (wpAny_execs_nil ⟨_, ρ, σ₁, .next, st1, fr.step p1, p1.any, hq⟩)
  · obtain ⟨x, σ₁, st1, p1, hE, hxs, hhand⟩ := hx
    obtain ⟨a, C, oe, vs, rfl, hC, ⟨q1, q2, q3⟩, q4, q5, q6, q7⟩ := hE
    obtain ⟨Cx, hX⟩ := X x hxs
    have hCe : Cx = C := by have := hX.mg; rw [hC] at this; cases this; rfl
    subst hCe
    obtain ⟨CY, hY⟩ := X 0 h0
    refine note_ (L := L) st1 hT ro.frames hf q4 q6 (q7.imp id fun ⟨tb, oT, ts, k1, k2, _, k4, k5, k6⟩ => ⟨tb, oT, ts, k1, k2, k4, k5, k6⟩) fun h' tb htb tu nt => ?_
    have htb' : ∀ t, tb = some t → s.heap.get? t = none ∧ T.hb.get? t = none ∧ σ₁ t = none := fun t e => by
      have e1 := htb t e
      rcases q7 with q7 | ⟨tb', oT, ts, k1, k2, k3, k4⟩
      · rw [q7] at e1; cases e1
      · rw [k1] at e1; cases e1; exact k3
    have st2 : St T σ₁ { s₁ with heap := h' } := St.noted (fr := T.fr) st1 ⟨q2, q3⟩ (fun t e => (htb' t e).2) tu
    have p2 : zL T [] σ s σ₁ { s₁ with heap := h' } := zL.noted (fr := T.fr) p1 q1 (fun t e => (htb' t e).1) tu
    obtain ⟨t, oT, ts, oe', vs', n1, n2, n3, n4, n5, n6, n7, n8, n9⟩ := nt.tb
    have ht0 : s.heap.get? t = none := p1.dead n1
    have htb0 : T.hb.get? t = none := by
      cases e : T.hb.get? t with
      | none => rfl
      | some ob => have := st1.base t ob e; rw [n1] at this; cases this
    have hts : σ₁ t = none := st1.noneFree n1
    obtain ⟨p, mN, c1, c2, c3, c4, c5⟩ := hX.obj
    obtain ⟨p', mN', y1, y2, y3, y4, y5⟩ := hY.obj
    have hsub : (Value.ref Cx :: p.bm).contains (.ref CY) = true := (c5 0 h0 CY hY.mg).trans (by simp [subX])
    refine wpAny_handleBy_cons (codeAny_handlers_test (Name_function_global (by rw [eo.scope]; exact eo.kind) (by rw [eo.kindOf]; exact hk) (loadGlobal_global (mg := T.mg) (by rw [eo.globals]; exact st2.ns ok.g) hY.mg ?_) (by decide))) (by intro q; cases q)
    refine exc_hit (st2.base _ _ c1) (st2.base _ _ y1) n2 (n3.trans q5) (y4.old.hasType (by decide +kernel)) hsub ?_
    refine codeAny_handlers_suite_as (wpAny_setFlight_none n2 n4 n5 n7 n8 (Array.getElem?_eq_some_iff.mp n9).1 ?_)
    have hoff : ∀ b o, b ∉ [t] → h'.get? b = some o → (h'.update t (Obj.mapFields (·.setIfInBounds 3 .none))).get? b = some o := fun b o hb e => (Heap.get?_update_other _ _ (by simpa using Ne.symm (by simpa using hb))).trans e
    have hnt : t ∉ frs T := st1.notFr n1
    have hna : a ∉ frs T := fun hF => by
      obtain ⟨o', es, ep', e', d'⟩ := (st1.fr hF).2.2
      rw [q4] at e'; cases e'; rw [q6] at d'; cases d'
    have st3 := st2.off (wr := [t]) (by simp; exact ⟨hts, htb0, hnt⟩) hoff s₁.toks
    have p3 := p2.off (wr := [t]) (by simpa using ht0) hoff s₁.toks
    have ha3 : (h'.update t (Obj.mapFields (·.setIfInBounds 3 .none))).get? a = some oe' := hoff a oe' (by simpa using Ne.symm n6) n2
    have hbig : (a == sysModules) = false := by
      refine beq_eq_false_iff_ne.mpr fun e => ?_
      obtain ⟨o, ho⟩ := ok.sysm
      rw [e, ho] at q2; cases q2
    have st4 := st3.adopt hna q3 q2 hbig ⟨rfl, fun _ _ => rfl⟩ ha3 (so := .exc x) ⟨Cx, hX.mg, n3.trans q5⟩ s₁.toks
    have p4 := p3.adopt q1 ⟨rfl, fun _ _ => rfl⟩ ha3 (.exc x) s₁.toks
    have fr4 := fr.step p4
    refine zeq (T := T) eo st4 fr4 hi (by rw [hl]; rfl) (.ref a) fun s₅ c5' hc5 _ st5 fr5 p5 => ?_
    have roC : zah T.cold (A.mark (some (.ref a))) d := ⟨fun h => (by cases h), ro.frames, ro.depth, ro.units⟩
    refine wpAny_mono (hh (A.mark (some (.ref a))) env _ _ s₅ _ noP eo roC st5.cold fr5.cold (hhand a q3)) (fun f s₆ h₆ => ?_) fun y s₆ h₆ => h₆.no.elim
    obtain ⟨o, ρ', σ₂, hfl, st6, fr6, p6, hk6⟩ := h₆
    obtain ⟨m6, hn6, _⟩ := fr6.ns
    have hkf : env.scope.kind = .function := by rw [eo.scope]; exact eo.kind
    refine wpAny_nameGoes (by rw [eo.kindOf]; exact hl) hn6 (by rw [hkf]; rfl) fun h7 m7 hn7 hs7 => ?_
    obtain ⟨o7, es7, ep7, e7, d7, _⟩ := id hn7
    refine ⟨o, [], σ₂, hfl, st6.warm.own fr6.lfree fr6.lbase hs7 (fun _ => ⟨o7, es7, ep7, e7, d7⟩) _, ⟨fr6.nd, ⟨m7, hn7, fun j y w _ _ hw' => by cases hw'⟩, fun j y hj hy => ?_, fr6.loneM, fr6.apartM, fr6.lfree, fun y c hy => ⟨(fr6.cfreeM y c hy).1, ?_⟩, fr6.lbase, fr6.cbaseM⟩, ?_, hk6⟩
    · obtain ⟨c, o, g1, g2, g3⟩ := fr6.cell j y hj hy
      exact ⟨c, o, g1, g2.sameBut hs7 (fr6.apart y c g1), fun w hw' => by cases hw'⟩
    · obtain ⟨o, ho⟩ := (fr6.cfreeM y c hy).2
      exact ⟨o, ho.sameBut hs7 (fr6.apartM y c hy)⟩
    · exact ((p4.any.trans (zdo p5 hc5)).trans p6.warm).trans (zdo (zL.own hs7 e7 _) (by simp [own]))
theorem simTry (ok : T.Ok) {xs : List Nat} (X : XF T xs) (h0 : 0 ∈ xs) {e ep tp b₀ suite hp pos rest} {n : Str} (i : Nat) {a : EW} {hand b : SW} (ha : zB T d sc ctx e a)
    (hh : jm T.cold d sc ctx (b₀ :: suite) hand) (hr : jm T d sc ctx rest b) (hi : ctx[i]? = some n) (hl : sc.names.lookup n = some .local) (hk : sc.names.lookup ("YardError" : Str) = some .globalImplicit) (hs : ∀ env, swapsWith e none ep.line env = pure false := by intro _; rfl) :
    SimF T d sc ctx (.Try [.Expr e ep] [.ExceptHandler (some (.Name "YardError" tp)) (some n) (b₀ :: suite) hp] [] [] pos :: rest) (zA (tryW xs a i hand) b) := by
  intro A env ρ σ s K P outer L hT hf eo ro st fr hw
  refine wpAny_execs_cons (wpAny_mono (try_ ok X h0 hT hf ha hh hi hl hk hs eo ro st fr hw) (fun f s₁ hf => ?_) fun _ _ x => x)
  obtain ⟨o, ρ₁, σ₁, h1, h2, h3, h4, h5⟩ := hf
  cases h1 with
  | next => exact wpAny_mono (hr A env ρ₁ σ₁ s₁ K P eo ro h2 h3 h5) (fun _ _ x => x.step h4) fun _ _ x => x.step h4
  | ret hv => exact ⟨_, ρ₁, σ₁, .ret hv, h2, h3, h4, h5⟩
theorem TC.Ok.cold (ok : T.Ok) : T.cold.Ok := ⟨ok.g, ok.b, ok.nolimit, ok.builtins, ok.sysm⟩
theorem Blt.cold (B : Blt T) : Blt T.cold := ⟨B.none⟩
end
end Mine
end
section
open PySem
set_option maxRecDepth 100000
namespace Mine
open PySem.Calls PyProof.Rows
section
variable {prog : Program} {w : World} {M : Model} {A : Around} {E : Value → Shared → Prop} {h : Heap} {g : Array GenState} {d : Drawn} {t : Nat} {os : OsState} {a : Addr} {o : Obj}
  {p : CP} {C : Addr} {newId : String} {mN : Str → Option Value}
theorem tail_along {tl : List Value} {n : Str} {y : Option Value} {Q : Option Value → Shared → Prop} (hn : n ∈ ze9) (T : zcx h tl) (hrest : lookupAlong bmV n = pure y) (hq : Q y ⟨h, g, d, t, os⟩) :
    wpAny M A (lookupAlong tl n) Q E ⟨h, g, d, t, os⟩ := by
  induction T with
  | base => rw [hrest]; exact wpAny_pure hq
  | own hA hN hni _ ih =>
    rw [lookupAlong_cons]
    refine wpAny_bind (wpAny_classOwn_cls hA hN ?_)
    rw [hni n hn]
    exact ih
theorem zbD {n : Str} {y : Option Value} {Q : Option Value → Shared → Prop} (hn : n ∈ ze9)
    (hC : h.get? C = some (p.obj C newId)) (hN : h.Ns p.N mN) (hmN : ∀ n ∈ ze9, mN n = none) (T : zcx h p.bm)
    (hB : typeLookup (.type "ValueError") n = pure y) (hq : Q y ⟨h, g, d, t, os⟩) : wpAny M A (typeLookup (.ref C) n) Q E ⟨h, g, d, t, os⟩ := by
  have hrest : lookupAlong bmV n = pure y := by rw [typeLookup_eq, F.attrBase_ValueError.mro] at hB; exact hB
  rw [typeLookup_eq]
  refine wpAny_bind (wpAny_mroOf_exc hC ?_)
  rw [lookupAlong_cons]
  refine wpAny_bind (wpAny_classOwn_exc hC hN ?_)
  rw [hmN n hn]
  exact tail_along hn T hrest hq
theorem lk_class : typeLookup (.type "ValueError") "__class__" = pure (some (.builtin "object.__class__")) := by rw [typeLookup_type, builtinLookup_eq_fast]; kernel_rfl
theorem cls_get {R : Result → Shared → Prop} (hC : h.get? C = some (p.obj C newId)) (T : zcx h p.bm)
    (hx : h.get? a = some o) (hc : o.cls = .ref C) (hq : R (.ok (.ret (.ref C))) ⟨h, g, d, t, os⟩) :
    codeAny (model prog w) A (.call (.builtin "getset_descriptor.__get__") ⟨[.builtin "object.__class__", .ref a, .ref C], []⟩) R ⟨h, g, d, t, os⟩ := by
  have hT5 : (⟨h, g, d, t, os⟩ : Shared).TypeIs (.builtin "object.__class__") "getset_descriptor" := F.typeOf_object_class
  have hcB : (Value.ref C :: p.bm).contains (.type (".".intercalate ("object.__class__".cutAt '.').dropLast)) = true := by
    rw [F.owner_object_class, List.contains_cons, T.old.hasType (X := "object") (b := true) (by decide +kernel)]; rfl
  refine codeAny_call_builtin F.slot_gs_get.plain F.entry_gs_get (F.slot_gs_get.check _ _ _ _ _ _ _ _ hT5 (F.args_gs_get _ _ _) ?_)
  repeat (any_goals (first | assumption | (with_reducible refine wpAny_loadPart_at hx ?_; rw [hc]) | (with_reducible refine wpAny_isSubtype_exc hC ?_; rw [hcB]) | wp_step))
  refine ⟨Code.quiet_builtin _ (by decide +kernel), codeAny_builtin F.entry_object_class ?_⟩
  repeat (any_goals (first | assumption | (with_reducible refine wpAny_loadPart_at hx ?_; rw [hc]) | wp_step))
theorem cls_check {nameV : Value} {Q : Unit → Shared → Prop} (hC : h.get? C = some (p.obj C newId)) (T : zcx h p.bm)
    (hx : h.get? a = some o) (hc : o.cls = .ref C) (hq : Q () ⟨h, g, d, t, os⟩) : wpAny M A (checkBuiltinCall "BaseException.__getattribute__" ⟨[.ref a, nameV], []⟩) Q E ⟨h, g, d, t, os⟩ := by
  have hk : builtinKind "BaseException.__getattribute__" = some .slot := by decide +kernel
  have hsplit : splitId "BaseException.__getattribute__" = some ("BaseException", "__getattribute__") := by decide +kernel
  have hcB : (Value.ref C :: p.bm).contains (.type "BaseException") = true := by rw [List.contains_cons, T.old.hasType (X := "BaseException") (b := true) (by decide +kernel)]; rfl
  have ha := F.args_bexc_ga (.ref a) nameV
  simp only [checkBuiltinCall, hk, hsplit]
  refine wpAny_bind ?_
  · unfold isInstance
    repeat (first | (with_reducible refine wpAny_loadPart_at hx ?_; rw [hc]) | (with_reducible refine wpAny_isSubtype_exc hC ?_; rw [hcB]) | wp_step)
    exact hq
theorem cls_entry {tk : Tok} {Q : Fin → Shared → Prop} (hC : h.get? C = some (p.obj C newId)) (hN : h.Ns p.N mN)
    (hmN : ∀ n ∈ ze9, mN n = none) (T : zcx h p.bm) (hx : h.get? a = some o) (hc : o.cls = .ref C) (hq : Q (.done (.ret (.ref C))) ⟨h, g, d, t, os⟩) :
    wpAny (model prog w) A (Builtin.«object.__getattribute__» ⟨[.ref a, .str "__class__" tk], []⟩) Q E ⟨h, g, d, t, os⟩ := by
  have hT5 : (⟨h, g, d, t, os⟩ : Shared).TypeIs (.builtin "object.__class__") "getset_descriptor" := F.typeOf_object_class
  have f5 := F.typeOf_object_class
  have f6 := F.slot_gs_get.lookup
  have f7 := F.slot_gs_set.lookup
  have hmA : ("__class__" : Str) ∈ ze9 := .tail _ (.tail _ (.tail _ (.head _)))
  repeat (any_goals (first | assumption | (with_reducible refine wpAny_loadPart_at hx ?_; rw [hc]) | with_reducible refine zbD hmA hC hN hmN T lk_class ?_ | wp_step))
  refine cls_get hC T hx hc ?_
  repeat (any_goals (first | assumption | wp_step))
theorem cls_by {tk : Tok} {Q : Value → Shared → Prop} (hC : h.get? C = some (p.obj C newId)) (hN : h.Ns p.N mN)
    (hmN : ∀ n ∈ ze9, mN n = none) (T : zcx h p.bm) (hx : h.get? a = some o) (hc : o.cls = .ref C) (hq : Q (.ref C) ⟨h, g, d, t, os⟩) :
    wpAny (model prog w) A (getAttrBy (.ref a) (.str "__class__" tk) false) Q E ⟨h, g, d, t, os⟩ := by
  have f3 := F.attrBase_ValueError.ga.bind (.ref a)
  have hx2 : (Value.builtin "BaseException.__getattribute__" == Value.builtin "object.__getattribute__") = false := by decide +kernel
  have hx1 : (onTheHeap (Value.ref C) && Value.builtin "BaseException.__getattribute__" == Value.builtin "object.__getattribute__") = false := by rw [hx2]; rfl
  have hm1 : ("__getattribute__" : Str) ∈ ze9 := .tail _ (.head _)
  have hm2 : ("__getattr__" : Str) ∈ ze9 := .tail _ (.tail _ (.head _))
  repeat (any_goals (first | assumption | (with_reducible refine wpAny_loadPart_at hx ?_; rw [hc]) | with_reducible refine zbD hm1 hC hN hmN T F.attrBase_ValueError.ga.lookup ?_ | with_reducible refine zbD hm2 hC hN hmN T F.attrBase_ValueError.noGetattr ?_ | wp_step))
  refine codeAny_call_builtin F.attrBase_ValueError.ga.plain F.entry_bexc_ga (cls_check hC T hx hc (cls_entry hC hN hmN T hx hc ?_))
  repeat (any_goals (first | assumption | wp_step))
theorem cls_attr {Q : Option Value → Shared → Prop} (hC : h.get? C = some (p.obj C newId)) (hN : h.Ns p.N mN)
    (hmN : ∀ n ∈ ze9, mN n = none) (T : zcx h p.bm) (hx : h.get? a = some o) (hc : o.cls = .ref C) (hq : Q (some (.ref C)) ⟨h, g, d, t + 1, os⟩) :
    wpAny (model prog w) A (getAttr? (.ref a) "__class__") Q E ⟨h, g, d, t, os⟩ := by
  unfold getAttr? getAttrBy?
  repeat (any_goals (first | assumption | with_reducible apply cls_by hC hN hmN T hx hc | wp_step))
variable {p' : CP} {Y : Addr} {newId' : String}
theorem nest_true {dep : Int} {tk : Tok} {Q : Fin → Shared → Prop} (hC : h.get? C = some (p.obj C newId)) (hY : h.get? Y = some (p'.obj Y newId'))
    (hx : h.get? a = some o) (hc : o.cls = .ref C) (hs : (Value.ref C :: p.bm).contains (.ref Y) = true) (hq : Q (.done (.ret (.bool true))) ⟨h, g, d, t, os⟩) :
    wpAny (model prog w) A (Builtin.«isinstance.nested» ⟨[.ref a, .ref Y, .int dep tk], []⟩) Q E ⟨h, g, d, t, os⟩ := by
  by_cases he : (Value.ref C == Value.ref Y) = true
  · repeat (any_goals (first | assumption | (with_reducible refine wpAny_loadPart_at hx ?_; rw [hc]) | with_reducible refine wpAny_loadPart_at hY ?_ | (with_reducible refine wpAny_isSubtype_exc hC ?_; rw [hs]) | wp_step))
  · have he' : (Value.ref C == Value.ref Y) = false := by simpa using he
    repeat (any_goals (first | assumption | (with_reducible refine wpAny_loadPart_at hx ?_; rw [hc]) | with_reducible refine wpAny_loadPart_at hY ?_ | (with_reducible refine wpAny_isSubtype_exc hC ?_; rw [hs]) | wp_step))
set_option maxHeartbeats 1000000 in
theorem nest_false {dep : Int} {tk : Tok} {Q : Fin → Shared → Prop} (hC : h.get? C = some (p.obj C newId)) (hN : h.Ns p.N mN)
    (hmN : ∀ n ∈ ze9, mN n = none) (T : zcx h p.bm) (hY : h.get? Y = some (p'.obj Y newId'))
    (hx : h.get? a = some o) (hc : o.cls = .ref C) (hs : (Value.ref C :: p.bm).contains (.ref Y) = false) (hq : Q (.done (.ret (.bool false))) ⟨h, g, d, t + 1, os⟩) :
    wpAny (model prog w) A (Builtin.«isinstance.nested» ⟨[.ref a, .ref Y, .int dep tk], []⟩) Q E ⟨h, g, d, t, os⟩ := by
  have he' : (Value.ref C == Value.ref Y) = false := by
    refine Bool.eq_false_iff.mpr fun q => ?_
    rw [← eq_of_beq q, List.contains_cons, beq_self_eq_true] at hs
    exact Bool.noConfusion hs
  repeat (any_goals (first | assumption | (with_reducible refine wpAny_loadPart_at hx ?_; rw [hc]) | with_reducible refine wpAny_loadPart_at hY ?_ | with_reducible refine wpAny_loadPart_at hC ?_ | (with_reducible refine wpAny_isSubtype_exc hC ?_; rw [hs]) | with_reducible apply cls_attr hC hN hmN T hx hc | wp_step))
theorem nest_base {dep : Int} {tk : Tok} {Q : Fin → Shared → Prop} (hC : h.get? C = some (p.obj C newId)) (T : zcx h p.bm)
    (hx : h.get? a = some o) (hc : o.cls = .ref C) (hq : Q (.done (.ret (.bool true))) ⟨h, g, d, t, os⟩) :
    wpAny (model prog w) A (Builtin.«isinstance.nested» ⟨[.ref a, .type "ValueError", .int dep tk], []⟩) Q E ⟨h, g, d, t, os⟩ := by
  have hs : (Value.ref C :: p.bm).contains (.type "ValueError") = true := by rw [List.contains_cons, T.old.hasType (X := "ValueError") (b := true) (by decide +kernel)]; rfl
  have he' : (Value.ref C == Value.type "ValueError") = false := rfl
  have hty : typeOf (.type "ValueError") = pure (.type "type") := by kernel_rfl
  repeat (any_goals (first | assumption | (with_reducible refine wpAny_loadPart_at hx ?_; rw [hc]) | (with_reducible refine wpAny_isSubtype_exc hC ?_; rw [hs]) | wp_step))
end
section
variable {T : TC} {d : Nat} {sc : Scope} {ctx : List Str}
theorem isi_own {A E σ s} {xs : List Nat} (X : XF T xs) {x y : Nat} (hx : x ∈ xs) (hy : y ∈ xs) {r Y : Addr} {Q : Value → Shared → Prop} (st : St T σ s) (hr : σ r = some (.exc x)) (hY : T.mg (qq y) = some (.ref Y)) (hq : ∀ tk, Q (.bool (subX x y)) { s with toks := tk }) :
    wpAny T.M A (call (.builtin "isinstance") [.ref r, .ref Y]) Q E s := by
  obtain ⟨Cx, hX⟩ := X x hx
  obtain ⟨o, ho, C', g1, hc⟩ := st.objs r _ hr
  rw [hX.mg] at g1; cases g1
  obtain ⟨Cy, hYy⟩ := X y hy
  have hh := hYy.mg
  rw [hY] at hh; cases hh
  obtain ⟨p, mN, c1, c2, c3, c4, c5⟩ := hX.obj
  obtain ⟨p', mN', y1, y2, y3, y4, y5⟩ := hYy.obj
  have hs := c5 y hy Y hY
  refine call_isinstance (S := fun _ R s => (s.heap.get? r = some o ∧ ∀ b o, T.hb.get? b = some o → s.heap.get? b = some o) ∧ ∀ tk, R (.ok (.ret (.bool (subX x y)))) { s with toks := tk }) (fun _ _ _ _ s₁ hs₁ => isinstance_outer ?_ (by intro e; cases e)) ⟨⟨ho, st.base⟩, hq⟩
  obtain ⟨h, g, d, t, os⟩ := s₁
  cases hb : subX x y with
  | true => exact nest_true (hs₁.1.2 _ _ c1) (hs₁.1.2 _ _ y1) hs₁.1.1 hc (hs.trans hb) (hb ▸ hs₁.2 t)
  | false => exact nest_false (hs₁.1.2 _ _ c1) (c2.keeps hs₁.1.2) c3 (c4.keeps hs₁.1.2) (hs₁.1.2 _ _ y1) hs₁.1.1 hc (hs.trans hb) (hb ▸ hs₁.2 (t + 1))
theorem isi_base {A E σ s} {xs : List Nat} (X : XF T xs) {x : Nat} (hx : x ∈ xs) {r : Addr} {Q : Value → Shared → Prop} (st : St T σ s) (hr : σ r = some (.exc x)) (hq : ∀ tk, Q (.bool true) { s with toks := tk }) :
    wpAny T.M A (call (.builtin "isinstance") [.ref r, .type "ValueError"]) Q E s := by
  obtain ⟨Cx, hX⟩ := X x hx
  obtain ⟨o, ho, C', g1, hc⟩ := st.objs r _ hr
  rw [hX.mg] at g1; cases g1
  obtain ⟨p, mN, c1, c2, c3, c4, c5⟩ := hX.obj
  refine call_isinstance (S := fun _ R s => (s.heap.get? r = some o ∧ ∀ b o, T.hb.get? b = some o → s.heap.get? b = some o) ∧ ∀ tk, R (.ok (.ret (.bool true))) { s with toks := tk }) (fun _ _ _ _ s₁ hs₁ => isinstance_outer ?_ (by intro e; cases e)) ⟨⟨ho, st.base⟩, hq⟩
  obtain ⟨h, g, d, t, os⟩ := s₁
  exact nest_base (hs₁.1.2 _ _ c1) (c4.keeps hs₁.1.2) hs₁.1.1 hc (hs₁.2 t)
noncomputable def isiX (xs : List Nat) (y : Nat) (a : EW) : EW := fun ρ σ Q P => a ρ σ (fun v σ₁ => v.asRef fun r => ∃ x ∈ xs, σ₁ r = some (.exc x) ∧ Q (.bool (subX x y)) σ₁) P
noncomputable def isiV (xs : List Nat) (a : EW) : EW := fun ρ σ Q P => a ρ σ (fun v σ₁ => v.asRef fun r => ∃ x ∈ xs, σ₁ r = some (.exc x) ∧ Q (.bool true) σ₁) P
theorem simIsiX (ok : T.Ok) (B : Blt T) {xs : List Nat} (X : XF T xs) (y : Nat) (hy : y ∈ xs) {p q pos e n} {a : EW} (h : zB T d sc ctx e a) (hn : n = qq y) (hd : (n == ("__debug__" : Str)) = false) (hi : sc.names.lookup ("isinstance" : Str) = some .globalImplicit) (hx : sc.names.lookup n = some .globalImplicit)
    (he : ∀ env, starEach [e, .Name n q] env = [(false, eval e env), (false, eval (.Name n q) env)] := by intro _; rfl) :
    zB T d sc ctx (.Call (.Name "isinstance" p) [e, .Name n q] [] pos) (isiX xs y a) := by
  intro A env ρ σ s Q P eo ro st fr hw
  subst hn
  obtain ⟨Y, hY⟩ := X y hy
  refine Call_ (jP ok eo st hi (B.none _ (by decide)) (v := .builtin "isinstance") (by decide +kernel) (by decide) (by decide) ?_)
  have he1 : starEach (e :: [.Name (qq y) q]) env = (false, eval e env) :: starEach [.Name (qq y) q] env := he env
  refine callWith_builtin1 (args_cons (h.then eo ro .refl st fr hw fun v u σ₁ s₁ hv st1 p1 fr1 hw1 => ?_) he1) he1 rfl
  obtain ⟨r, x, hxs, hr, hQ⟩ := hw1.get hv
  refine args_cons (Name_function_global (by rw [eo.scope]; exact eo.kind) (by rw [eo.kindOf]; exact hx) (loadGlobal_global (mg := T.mg) (by rw [eo.globals]; exact st1.ns ok.g) hY.mg (args_nil ?_)) hd)
  exact isi_own X hxs hy st1 hr hY.mg fun tk => ⟨_, _, .bool _, st1.tok _, p1.tok _, hQ⟩
theorem simIsiV (ok : T.Ok) (B : Blt T) {xs : List Nat} (X : XF T xs) {p q pos e} {a : EW} (h : zB T d sc ctx e a) (hi : sc.names.lookup ("isinstance" : Str) = some .globalImplicit) (hx : sc.names.lookup ("ValueError" : Str) = some .globalImplicit)
    (he : ∀ env, starEach [e, .Name "ValueError" q] env = [(false, eval e env), (false, eval (.Name "ValueError" q) env)] := by intro _; rfl) :
    zB T d sc ctx (.Call (.Name "isinstance" p) [e, .Name "ValueError" q] [] pos) (isiV xs a) := by
  intro A env ρ σ s Q P eo ro st fr hw
  refine Call_ (jP ok eo st hi (B.none _ (by decide)) (v := .builtin "isinstance") (by decide +kernel) (by decide) (by decide) ?_)
  have he1 : starEach (e :: [.Name "ValueError" q]) env = (false, eval e env) :: starEach [.Name "ValueError" q] env := he env
  refine callWith_builtin1 (args_cons (h.then eo ro .refl st fr hw fun v u σ₁ s₁ hv st1 p1 fr1 hw1 => ?_) he1) he1 rfl
  obtain ⟨r, x, hxs, hr, hQ⟩ := hw1.get hv
  refine args_cons (jP ok eo st1 hx (B.none _ (by decide)) (v := .type "ValueError") (by decide +kernel) (by decide) (by decide) (args_nil ?_))
  exact isi_base X hxs st1 hr fun tk => ⟨_, _, .bool _, st1.tok _, p1.tok _, hQ⟩
end
end Mine
end
section
open PySem
set_option maxRecDepth 100000
namespace Mine
open PySem.Calls PyProof.Rows
section
variable {prog : Program} {w : World} {A : Around} {E : Value → Shared → Prop} {s : Shared}
end
section
variable {T : TC} {d : Nat} {sc : Scope} {ctx : List Str}
end
section
variable {prog : Program} {w : World} {A : Around} {R : Result → Shared → Prop} {I : Addr} {fp wr : List Addr} {n : Nat} {P : Nat → Value → Prop} {St : Nat → Heap → Prop}
end
section
variable {prog : Program} {w : World} {A : Around} {E : Value → Shared → Prop} {s : Shared}
end
section
variable {T : TC} {d : Nat} {sc : Scope} {ctx : List Str}
end
section
variable (ρ : zP) (σ : zb) (Q : V → zb → Prop) (K : Out → zP → zb → Prop) (P : Nat → zb → Prop)
end
end Mine
end
section
open PySem
namespace Mine
open PySem.Calls PyProof.Rows
section
variable {T : TC} {d : Nat} {sc : Scope} {ctx : List Str}
noncomputable def enm : Nat → List V → List (Nat × V)
  | _, [] => []
  | k, v :: r => (k, v) :: enm (k + 1) r
theorem zff : ∀ (k : Nat) (xs : List V), (enm k xs).length = xs.length
  | _, [] => rfl
  | k, _ :: r => congrArg (· + 1) (zff (k + 1) r)
theorem zhr : ∀ (k : Nat) (xs : List V) (i : Nat) (a : Nat × V), (enm k xs)[i]? = some a → xs[i]? = some a.2 ∧ a.1 = k + i
  | _, [], i, a, h => by simp [enm] at h
  | k, v :: r, 0, a, h => by simp [enm] at h; subst h; exact ⟨rfl, rfl⟩
  | k, v :: r, i + 1, a, h => by
    have := zhr (k + 1) r i a (by simpa [enm] using h)
    exact ⟨by simpa using this.1, by exact eqN (liq (r3 (↑(a.1)) (↑(k)) (↑(i))) V0 (.add V1 (.add V2 N1)) [(2,1,V0,.add (.add V1 N1) V2)] rfl (eqI this.2))⟩
noncomputable def zdi (ρ : zP) (is : List Nat) : zP := is.foldl zaP ρ
theorem zcE : ∀ (is : List Nat) (ρ : zP) (j : Nat) (u : V), jW (zdi ρ is) j = some u → j ∉ is ∧ jW ρ j = some u := by
  intro is_
  induction is_ with
  | nil =>
    intro ρ j u h
    exact ⟨by simp, h⟩
  | cons i is ih_ =>
    intro ρ j u h
    obtain ⟨h1, h2⟩ := ih_ (zaP ρ i) j u h
    obtain ⟨h3, h4⟩ := wt _ _ _ _ h2
    exact ⟨by simp [h1, h3], h4⟩
theorem zb9 : ∀ (is : List Nat) (vs : List V) (ρ : zP) (j : Nat) (u : V), j ∉ is → jW ρ j = some u → jW (zbm ρ is vs) j = some u
  | [], _, ρ, j, u, _, h => by simpa [zbm] using h
  | i :: is, [], ρ, j, u, _, h => by simpa [zbm] using h
  | i :: is, v :: vs, ρ, j, u, hn, h => by
    simp only [List.mem_cons, not_or] at hn
    exact zb9 is vs _ j u hn.2 (zbf ρ i j v u hn.1 h)
noncomputable abbrev zgj (e it l : Addr) (i : Nat) (h : Heap) : Prop := (∃ old, IsEnum h e it i old) ∧ h.IsListIter it l i
theorem head_enum {A : Around} {cenv : Env} {ρ0 : zP} {es : List Expr} {is : List Nat} {k : _} {pt : Pos} {xs : List V} {e it l D : Addr} (eoc : q8 sc cenv) (hh : A.handled = none) (hn : yi sc ctx true es is) (hl2 : is.length = 2) (hei : e ≠ it)
    (hwr : ∀ b ∈ [e, it], T.hb.get? b = none ∧ b ∉ frs T) (hown : ∀ b ∈ [e, it], b ∉ own cenv) :
    Head T A ctx cenv ρ0 (fun a : Nat × V => zbm ρ0 is [.int a.1, a.2]) (.Tuple es k pt) (enm 0 xs) (fun σ => σ l = some (.list xs) ∨ σ l = some (.ro xs)) e D [cenv.locals, e, it] (zgj e it l) := by
  have hX : ∀ {σ : zb}, (∀ b ∈ [cenv.locals, e, it], σ b = none) → ∀ b ∈ [e, it], σ b = none := fun h b hb => h b (List.mem_cons_of_mem _ hb)
  have hLe : ∀ b ∈ [e, it], b ≠ cenv.locals := fun b hb h => hown b hb (by rw [h]; exact List.mem_cons_self ..)
  have frm : ∀ (i : Nat) (h h' : Heap), zgj e it l i h → (∀ b o, b ∈ [e, it] → h.get? b = some o → h'.get? b = some o) → zgj e it l i h' := fun i h h' w hk => by
    obtain ⟨⟨old, w1⟩, w2⟩ := w
    exact ⟨⟨old, hk e _ (by simp) w1⟩, w2.at fun o x => hk it o (by simp) x⟩
  refine ⟨fun i a σ' s' K E hi w st' fr' hXs ck kk => ?_, fun σ' s' K E w st' fr' hXs ck kk => ?_, fun i h h' w hk => frm i h h' w fun b o hb x => hk b o (List.mem_cons_of_mem _ hb) x, fun i h w b hb hno => ?_⟩
  · obtain ⟨hx, ha⟩ := zhr 0 xs i a hi
    rw [Nat.zero_add] at ha
    obtain ⟨⟨old, he⟩, hit⟩ := w
    obtain ⟨us, hl, hv, _⟩ := st'.list ck
    obtain ⟨u, hu, hvu⟩ := hv.get hx
    refine wpAny_pyNext_enum_item he hit hl (by simpa using hu) hei fun h₁ heo hit₁ ht₁ hz₁ hk₁ => ?_
    refine wpAny_letOwnedTupleGo_enum heo fun h₂ he₂ hs₂ => ?_
    replace hs₂ : Heap.SameBut e h₁ h₂ := hs₂
    have ht₂ : h₂.IsTuple s'.heap.objs.size #[.int i s'.toks, u] := ⟨_, (hs₂.2 _ (Nat.ne_of_gt (Heap.lt_size he))).trans ht₁, rfl, _, rfl⟩
    have hea := hn.each (env := cenv)
    refine wpAny_assign_Tuple hh ht₂ (by rw [hea.1, hl2]; rfl) hea.2 fun h₃ hx₃ => ?_
    replace hx₃ : Heap.ExtBut h₂.objs.size h₂ h₃ := hx₃
    have k₃ : ∀ b o, h₂.get? b = some o → h₃.get? b = some o := fun b o x => hx₃ b o (Nat.ne_of_lt (Heap.lt_size x)) x
    have hk : ∀ b o, b ∉ [e, it] → s'.heap.get? b = some o → h₃.get? b = some o := fun b o hb x => by
      simp only [List.mem_cons, List.not_mem_nil, or_false, not_or] at hb
      exact k₃ b o (hs₂.extBut b o hb.1 (hk₁ b o hb.1 hb.2 x))
    have w3 : zgj e it l (i + 1) h₃ := by
      refine ⟨⟨u, k₃ e _ ?_⟩, (hit₁.extBut hs₂.extBut (Ne.symm hei)).at fun o x => k₃ it o x⟩
      have : ((i + 1 : Nat) : Int) = (i : Int) + 1 := by push_cast; rfl
      rw [this]; exact he₂
    refine assigns eoc hn (st'.off (wr := [e, it]) (fun b hb => ⟨hX hXs b hb, hwr b hb⟩) hk (s'.toks + 1)) (fr'.off (wr := [e, it]) hown hk) (vs := [.int a.1, a.2]) (us := [.int i s'.toks, u]) ?_ hl2.symm fun s₄ st4 fr4 p4 => ?_
    · rw [ha]; exact .cons (.int _ _) (.cons hvu .nil)
    · replace p4 : zL T [cenv.locals] σ' { s' with heap := h₃, toks := s'.toks + 1 } σ' s₄ := p4
      refine kk s₄ st4 fr4 (zL.trans (σ₁ := σ') (s₁ := { s' with heap := h₃, toks := s'.toks + 1 }) ⟨fun c o hfc hc x => ⟨o, hk c o (fun h => hc (List.mem_cons_of_mem _ h)) x, .inl rfl⟩, fun c o x => ?_, fun c h => h, fun c h h' => by simp [h] at h'⟩ (p4.weaken (by intro c hc; rw [List.mem_singleton.mp hc]; exact List.mem_cons_self ..)))
        (frm _ _ _ w3 fun b o hb x => p4.keepX (.inl (hX hXs b hb)) (fun h => hLe b hb (List.mem_singleton.mp h)) (hwr b hb).2 x)
      by_cases hc : c ∈ [e, it]
      · obtain ⟨⟨old', w1⟩, ⟨o2, w2, _⟩⟩ := w3
        rcases List.mem_cons.mp hc with rfl | hc
        · exact ⟨_, w1⟩
        · rw [List.mem_singleton.mp hc]; exact ⟨_, w2⟩
      · exact ⟨o, hk c o hc x⟩
  · obtain ⟨⟨old, he⟩, hit⟩ := w
    rw [zff] at he hit
    obtain ⟨us, hl, hv, hz, _⟩ := st'.list ck
    refine wpAny_pyNext_enum_end hh he hit hl (by simp [hz]) fun h' hx' => ?_
    have hk : ∀ b o, b ∉ [e, it] → s'.heap.get? b = some o → h'.get? b = some o := fun b o hb x => hx' b o (fun h => hb (by simp [h])) x
    exact kk h' s'.toks (st'.off (wr := [e, it]) (fun b hb => ⟨hX hXs b hb, hwr b hb⟩) hk s'.toks) (fr'.off (wr := [e, it]) hown hk) fun b o hb x => hk b o (fun h => hb (List.mem_cons_of_mem _ h)) x
  · obtain ⟨⟨old', w1⟩, ⟨o2, w2, _⟩⟩ := w
    rcases List.mem_cons.mp hb with rfl | hb
    · exact absurd (List.mem_cons_self ..) hno
    · rcases List.mem_cons.mp hb with rfl | hb
      · exact ⟨_, w1⟩
      · rw [List.mem_singleton.mp hb]; exact ⟨_, w2⟩
noncomputable def enumL (p : Addr) (xs : List V) (is : List Nat) (c : Option EW) (e : EW) (ρ : zP) (σ : zb) (Q : V → zb → Prop) : Prop :=
  zar (fun σ => σ p = some (.list xs) ∨ σ p = some (.ro xs)) (fun a : Nat × V => zbm (zdi ρ is) is [.int a.1, a.2]) c e (enm 0 xs) [] σ Q
noncomputable def compEW (is : List Nat) (a : EW) (c : Option EW) (e : EW) : EW := fun ρ σ Q P => a ρ σ (fun v σ₁ => v.asRef fun p => zae σ₁ p fun xs => enumL p xs is c e ρ σ₁ Q) P
structure CompE (sc : Scope) (ctx : List Str) (scope : Scope) (es : List Expr) (is : List Nat) : Prop extends CompB sc ctx scope where
  tgts : yi (zbi scope sc) ctx true es is
  two : is.length = 2
  only : ∀ i y, ctx[i]? = some y → scope.names.lookup y = some .local → i ∈ is
theorem simCompE (ok : T.Ok) (B : Blt T) {elt es k pt p pc pos ie ifs scope is} {a : EW} {c : Option EW} {we : EW} (co : CompE sc ctx scope es is) (ha : zB T d sc ctx ie a) (hx : sc.names.lookup ("enumerate" : Str) = some .globalImplicit) (hif : zcm T d (zbi scope sc) ctx ifs c) (hel : zB T d (zbi scope sc) ctx elt we)
    (he : ∀ env, starEach [ie] env = [(false, eval ie env)] := by intro _; rfl) (Cm : T.calm = true := by assumption) :
    zB T d sc ctx (.ListComp elt [⟨.Tuple es k pt, .Call (.Name "enumerate" p) [ie] [] pc, ifs, 0⟩] scope pos) (compEW is a c we) := by
  intro A env ρ σ s Q P eo ro st fr hw
  rw [eval_ListComp]
  obtain ⟨cl, hcl, h1, h2⟩ : ∃ cl, closureFor scope env = pure cl ∧ (∀ x c, (x, c) ∈ cl → env.cells.lookup x = some c) ∧ (∀ y ∈ scope.names, y.2 = .free → ∃ c, cl.lookup y.1 = some c) := by
    refine zfl fun y hy hf => ?_
    obtain ⟨hl, hnl, i, hi⟩ := co.free y hy hf
    have hk0 : env.kindOf y.1 = some .cell ∨ env.kindOf y.1 = some .free := by
      rw [eo.kindOf]
      cases hz : sc.names.lookup y.1 with
      | none => rw [hz] at hl; cases hl
      | some kk =>
        rw [hz] at hl hnl
        cases kk <;> first | (cases hl; done) | exact absurd rfl hnl | exact .inl rfl | exact .inr rfl
    obtain ⟨c, o, g1, _⟩ := fr.cell i y.1 hi hk0
    exact ⟨c, g1⟩
  refine wpAny_comprehension_free (use := none) rfl (fun _ => rfl) hcl co.kind co.names ?_
  refine Call_ (jP ok eo st hx (B.none _ (by decide)) (v := .type "enumerate") (by decide +kernel) (by decide) (by decide) ?_)
  refine callWith_type1 (args_cons (ha.then eo ro .refl st fr hw fun v u σ₂ s₂ hv st2 p2 fr2 hw1 => args_nil ?_) (he env)) (he env) rfl
  obtain ⟨l, hw2⟩ := hw1.get hv
  obtain ⟨xs, hl, hw3⟩ := hw2.get
  obtain ⟨us, hL, hvs, hz, hlim⟩ := st2.list hl
  refine call_enumerate_list hL fun h₀ hen hit hsz₀ hk₀ => ?_
  have hlt : l < s₂.heap.objs.size := by obtain ⟨o, e, _⟩ := hL; exact Heap.lt_size e
  generalize hN : s₂.heap.objs.size = N at hen hit hsz₀ hlt ⊢
  refine wpAny_pyIter_enum hen ?_
  have n2 : ∀ b, N ≤ b → s₂.heap.get? b = none := fun b hb => Heap.get?_none_of_le (by rw [hN]; exact hb)
  have n0 : ∀ b, N ≤ b → s.heap.get? b = none := fun b hb => by
    cases e : s.heap.get? b with
    | none => rfl
    | some o => obtain ⟨o', h'⟩ := p2.live b o e; rw [n2 b hb] at h'; cases h'
  have nb : ∀ b, N ≤ b → T.hb.get? b = none := fun b hb => by
    cases e : T.hb.get? b with
    | none => rfl
    | some o => have := st2.base b o e; rw [n2 b hb] at this; cases this
  have nσ : ∀ b, N ≤ b → σ₂ b = none := fun b hb => st2.noneFree (n2 b hb)
  have nf : ∀ b, N ≤ b → b ∉ frs T := fun b hb => st2.notFr (n2 b hb)
  refine wpAny_newObj_type ?_
  generalize hH2 : h₀.push { cls := .type "list", dict := none, data := .seq ([] : List Value).toArray } = H2
  have hHD : IsL H2 (N + 2) #[] 0 := by rw [← hH2, ← hsz₀]; exact Heap.get?_push_size _ rfl
  have hC : H2.objs.size = N + 3 := by rw [← hH2, Heap.size_push, hsz₀]
  have e2 : ∀ b o, h₀.get? b = some o → H2.get? b = some o := fun b o e => hH2 ▸ Heap.get?_push_of_some _ e
  refine wpAny_newFunctionEnv co.nocell (by intro y hy; simp at hy) (fun h₁ hns₁ hsb₁ => ?_) co.kind
  dsimp only at hns₁ hsb₁ ⊢
  rw [hC] at hns₁ hsb₁ ⊢
  have up : ∀ b o, H2.get? b = some o → h₁.get? b = some o := fun b o e => hsb₁.extBut b o (Nat.ne_of_lt (hC ▸ Heap.lt_size e)) (Heap.get?_push_of_some _ e)
  have old : ∀ b o, s₂.heap.get? b = some o → h₁.get? b = some o := fun b o e => up b o (e2 b o (hk₀ b o e))
  have a0 : N ≤ N := Nat.le_refl _
  have a1 : N ≤ N + 1 := by exact Nat.le_succ _
  have a2 : N ≤ N + 2 := by exact leN (lin (r1 _) V0 (.add V0 (.num 2)) [] rfl)
  have a3 : N ≤ N + 3 := by exact leN (lin (r1 _) V0 (.add V0 (.num 3)) [] rfl)
  obtain ⟨frc, eoc⟩ := zfk (ρ' := zdi ρ is) (C := N + 3) (h' := h₁) eo fr2 co.toCompB (fun i y v hi hv => by
    obtain ⟨hne, hv'⟩ := zcE _ _ _ _ hv
    exact ⟨hv', fun hq => hne (co.only i y hi hq)⟩) h1 h2 (nσ _ a3) (nb _ a3) old (n2 _ a3) (by simpa using hns₁)
  have hcl' : ∀ y c', (y, c') ∈ cl → ∃ o, s.heap.get? c' = some o := fun y c' hm => by
    obtain ⟨o, ob, e, _⟩ := (fr.cfree y c' (h1 y c' hm)).2
    exact ⟨ob, e⟩
  have hno : ∀ b, N ≤ b → b ≠ N + 3 → b ∉ own (compEnvC scope cl (N + 3) env) := fun b hb hb3 ho => by
    simp only [own, compEnvC, List.mem_cons, List.mem_map] at ho
    rcases ho with h | ⟨⟨y, c'⟩, hm, rfl⟩
    · exact hb3 h
    · obtain ⟨o, e⟩ := hcl' y c' hm
      rw [n0 _ hb] at e; cases e
  have b01 : N + 1 ≠ N := by exact (fun h_ => lif (r1 (↑(N))) [(2,1,.add V0 N1,V0)] rfl (eqI h_))
  have b03 : N ≠ N + 3 := by exact (fun h_ => lif (r1 _) [(2,-1,V0,.add V0 (.num 3))] rfl (eqI h_))
  have b13 : N + 1 ≠ N + 3 := by exact (fun h_ => lif (r1 (↑(N))) [(2,-1,.add V0 N1,.add V0 (.num 3))] rfl (eqI h_))
  have b23 : N + 2 ≠ N + 3 := by exact (fun h_ => lif (r1 (↑(N))) [(2,-1,.add V0 (.num 2),.add V0 (.num 3))] rfl (eqI h_))
  have b20 : N + 2 ≠ N := by exact (fun h_ => lif (r1 (↑(N))) [(2,1,.add V0 (.num 2),V0)] rfl (eqI h_))
  have b21 : N + 2 ≠ N + 1 := by exact (fun h_ => lif (r1 (↑(N))) [(2,1,.add V0 (.num 2),.add V0 N1)] rfl (eqI h_))
  have two : ∀ {R : Addr → Prop}, R (N + 1) → R N → ∀ b ∈ [N + 1, N], R b := fun h1 h2 b hb => by
    rcases List.mem_cons.mp hb with rfl | hb
    · exact h1
    · rw [List.mem_singleton.mp hb]; exact h2
  have three : ∀ {R : Addr → Prop}, R (N + 3) → R (N + 1) → R N → ∀ b ∈ [N + 3, N + 1, N], R b := fun h0 h1 h2 b hb => by
    rcases List.mem_cons.mp hb with rfl | hb
    · exact h0
    · exact two h1 h2 b hb
  have hd := head_enum (T := T) (A := A) (ρ0 := zdi ρ is) (xs := xs) (l := l) (D := N + 2) (k := k) (pt := pt) eoc (ro.handled Cm) co.tgts co.two b01 (two ⟨nb _ a1, nf _ a1⟩ ⟨nb _ a0, nf _ a0⟩) (two (hno _ a1 b13) (hno _ a0 b03))
  have w1 : zgj (N + 1) N l 0 h₁ := ⟨⟨_, up _ _ (e2 _ _ hen)⟩, hit.at fun o x => up _ _ (e2 _ _ x)⟩
  have ex : ∀ b, (∃ o, h₀.get? b = some o) → ∃ o, h₁.get? b = some o := fun b h => let ⟨o, e⟩ := h; ⟨o, up _ _ (e2 _ _ e)⟩
  have loop : codeAny T.M A (.compLoop (.ListComp elt [⟨.Tuple es k pt, .Call (.Name "enumerate" p) [ie] [] pc, ifs, 0⟩] scope pos) 0 (.ref (N + 1)) (.ref (N + 2)) (compEnvC scope cl (N + 3) env)) (compPost T.M A (jj T [] σ s P) none (zgQ T σ s Q) (.ref (N + 2)) (N + 3)) { s₂ with heap := h₁, toks := s₂.toks + ([] : List (Str × Value)).length } := by
    refine zgD hif hel eoc ro hd (fun a i w hw' => ?_) (three ⟨n0 _ a3, nf _ a3⟩ ⟨n0 _ a1, nf _ a1⟩ ⟨n0 _ a0, nf _ a0⟩) (three ?_ (ex _ ⟨_, hen⟩) (ex _ (let ⟨o, e, _⟩ := hit; ⟨o, e⟩))) ?_ (nf _ a2) (n0 _ a2) (nb _ a2) ?_ (hno _ a2 b23) (st2.grow old _) (p2.grow old _) frc w1 (three (nσ _ a3) (nσ _ a1) (nσ _ a0)) (nσ _ a2) (up _ _ hHD) (by rw [zff]; exact hlim) hw3 fun σ' s' m st' p' hn hCσ hq => ?_
    · obtain ⟨hne, hg⟩ := zcE _ _ _ _ hw'
      exact zb9 is _ _ i w hne hw'
    · obtain ⟨o, es', ep, ho, _⟩ := hns₁; exact ⟨o, ho⟩
    · intro h
      rcases List.mem_cons.mp h with h | h
      · exact b23 h
      · rcases List.mem_cons.mp h with h | h
        · exact b21 h
        · exact b20 (List.mem_singleton.mp h)
    · have := (st2.grow hk₀ s₂.toks).big
      rw [show ({ s₂ with heap := h₀, toks := s₂.toks } : Shared).heap.objs.size = N + 2 from hsz₀] at this
      exact this
    · refine ⟨m, hn, fun h' hs' => ⟨_, σ', .ref (N + 2), ?_, ?_, hq⟩⟩
      · exact st'.off (wr := [N + 3]) (by simp; exact ⟨hCσ, nb _ a3, nf _ a3⟩) (fun b o hb e => hs'.extBut b o (by simpa using hb) e) s'.toks
      · exact p'.off (wr := [N + 3]) (by simpa using n0 _ a3) (fun b o hb e => hs'.extBut b o (by simpa using hb) e) s'.toks
  simp only [hsz₀]
  exact codeAny_compStart_list loop (wpAny_pyIter_enum (up _ _ (e2 _ _ hen)) loop)
noncomputable def nmOf (e : Expr) : Option Str := match e with
  | .Name x _ => some x
  | _ => none
theorem nmOf_i {e : Expr} {x : Str} (h : nmOf e = some x) : ∃ p, e = .Name x p := by
  cases e with
  | Name y p => exact ⟨p, Option.some.inj h ▸ rfl⟩
  | _ => exact qF rfl h
noncomputable def zis (sc : Scope) (ctx : List Str) (es : List Expr) : List Nat → Bool :=
  es.rec (fun is => is.isEmpty) fun e _ f is => is.rec false fun i r _ => (nmOf e).any (fun x => ctx[i]? == some x && sc.names.lookup x == some .local) && f r
theorem namesOK_of {sc : Scope} {ctx : List Str} {es : List Expr} : ∀ {is : List Nat}, zis sc ctx es is = true → yi sc ctx true es is := by
  induction es with
  | nil =>
    intro is h
    cases is with
    | nil => exact .nil
    | cons => cases h
  | cons e r ih =>
    intro is h
    cases is with
    | nil => cases h
    | cons i is =>
      have h := Bool.and_eq_true_iff.mp h
      obtain ⟨x, hx, h1⟩ := (Option.any_eq_true _ _).mp h.1
      obtain ⟨p, rfl⟩ := nmOf_i hx
      have h1 := Bool.and_eq_true_iff.mp h1
      exact .cons (eq_of_beq h1.1) (by rw [eq_of_beq h1.2]; rfl) (fun _ => eq_of_beq h1.2) (ih h.2)
noncomputable def compEb (sc : Scope) (ctx : List Str) (scope : Scope) (es : List Expr) (is : List Nat) : Bool :=
  scope.kind == .function && scope.names.all (fun y => y.2 != .cell) && scope.names.all (fun y => y.2 != .local || scope.names.lookup y.1 == some .local) && is.length == 2 && zis (zbi scope sc) ctx es is &&
  scope.names.all (fun y => y.2 != .free || (zgm (sc.names.lookup y.1) && sc.names.lookup y.1 != some .local && ctx.contains y.1)) && (List.range ctx.length).all fun i => (ctx[i]?).all fun y => scope.names.lookup y != some .local || is.contains i
theorem compE_of {sc ctx scope es is} (h : compEb sc ctx scope es is = true) : CompE sc ctx scope es is := by
  unfold compEb at h
  simp only [Bool.and_eq_true, List.all_eq_true, Bool.or_eq_true, bne_iff_ne, ne_eq, beq_iff_eq] at h
  obtain ⟨⟨⟨⟨⟨⟨h1, h2⟩, h3⟩, h4⟩, h5⟩, h6⟩, h7⟩ := h
  refine ⟨⟨h1, h2, fun y hy hl => ?_, fun y hy hf => ?_⟩, namesOK_of h5, h4, fun i y hi hl => ?_⟩
  · rcases h3 y hy with h | h
    · exact absurd hl h
    · exact h
  · rcases h6 y hy with h | h
    · exact absurd hf h
    · exact ⟨h.1.1, h.1.2, List.getElem?_of_mem (List.contains_iff_mem.mp h.2)⟩
  · have := h7 i (List.mem_range.mpr (List.getElem?_eq_some_iff.mp hi).1)
    rw [hi] at this
    simp only [Option.all_some, Bool.or_eq_true, bne_iff_ne, ne_eq] at this
    rcases this with h | h
    · exact absurd hl h
    · exact List.contains_iff_mem.mp h
end
end Mine
end
section
open PySem
namespace Mine
open PySem.Calls PyProof.Rows
section
variable {T : TC} {d : Nat} {sc : Scope} {ctx : List Str}
noncomputable def zcT : EW := fun ρ σ Q P => yI (.dict []) σ Q
theorem zbJ {pos} : zB T d sc ctx (.Dict [] [] pos) zcT := by
  intro A env ρ σ s Q P eo ro st fr hw
  refine wpAny_Dict_empty ?_
  exact ⟨_, _, .ref _, st.lay (fun b o e => Heap.get?_push_of_some _ e) (Heap.get?_push_size _ rfl) (so := .dict []) ⟨by simp, [], ⟨#[], 0, ⟨rfl, rfl, rfl⟩, rfl, fun _ he => by simp at he, Pairs.nil, List.nodup_nil⟩, .nil⟩ s.toks, zL.refl.lay (fun b o e => Heap.get?_push_of_some _ e) _ s.toks, hw _ st.sizeFree⟩
noncomputable def dictCW (a : EW) : EW := fun ρ σ Q P => a ρ σ (fun v σ₁ => v.asRef fun p => jU σ₁ p fun kvs => yI (.dict kvs) σ₁ Q) P
theorem simDictC (ok : T.Ok) (B : Blt T) {p pos e} {a : EW} (h : zB T d sc ctx e a) (hx : sc.names.lookup ("dict" : Str) = some .globalImplicit)
    (he : ∀ env, starEach [e] env = [(false, eval e env)] := by intro _; rfl) : zB T d sc ctx (.Call (.Name "dict" p) [e] [] pos) (dictCW a) := by
  refine zeV ok h hx (B.none _ (by decide)) (id := "dict") (by decide +kernel) (by decide) (by decide) (fun ρ σ Q P hw => ⟨_, hw, fun A v u σ₀ s₀ σ₁ s₁ E ro hv st1 p1 hw1 => ?_⟩) he
  obtain ⟨q, hw2⟩ := hw1.get hv
  obtain ⟨kvs, hx, hw3⟩ := hw2.get
  obtain ⟨us, hd, hk, hlim⟩ := st1.dict hx
  refine kt_call_dict (knd := intKind T.prog T.w) (st1.sysm _ (by simp [hx]) (st1.notScr hx (by intro xs e; cases e))) hd (by rw [hk.length]; exact Nat.le_trans hlim y9) fun h' hd' hs' => ?_
  have old : ∀ b o, s₁.heap.get? b = some o → h'.get? b = some o := fun b o e => hs'.extBut b o (Nat.ne_of_lt (Heap.lt_size e)) (Heap.get?_push_of_some _ e)
  obtain ⟨o, ho, hi⟩ := Heap.dictOf_iff.mp hd'
  exact ⟨_, _, .ref _, st1.lay old ho (so := .dict kvs) ⟨hlim, us, hi, hk⟩ s₁.toks, p1.lay old _ s₁.toks, hw3 _ st1.sizeFree⟩
noncomputable def zbo (kvs more : List (Int × V)) : List (Int × V) := more.foldl (fun acc kv => zcu acc kv.1 kv.2) kvs
theorem KVs.merge {kvs us more ms} (h : KVs kvs us) (h' : KVs more ms) : KVs (zbo kvs more) (merged us ms) := by
  induction h' generalizing kvs us with
  | nil => exact h
  | cons hv _ ih => exact ih (h.put _ hv)
theorem zfg : ∀ (more kvs : List (Int × V)), (zbo kvs more).length ≤ kvs.length + more.length
  | [], _ => Nat.le_refl _
  | kv :: r, kvs => by
    have h1 := zfg r (zcu kvs kv.1 kv.2)
    have h2 := zfM kvs kv.1 kv.2
    simp only [zbo, List.foldl_cons, List.length_cons] at h1 ⊢
    lia
noncomputable def updW (a b : EW) : EW := fun ρ σ Q P =>
  a ρ σ (fun va σ₁ => va.asRef fun p => jU σ₁ p (fun _ => True) ∧ b ρ σ₁ (fun vb σ₂ => vb.asRef fun q => p ≠ q ∧ jU σ₂ p fun kvs => jU σ₂ q fun more => kvs.length + more.length ≤ lim ∧ Q .none (put σ₂ p (.dict (zbo kvs more)))) P) P
theorem simUpd {o e apos pos} {a b : EW} (h : zB T d sc ctx o a) (h' : zB T d sc ctx e b)
    (hbase : ∀ env, attributeBase o "update" env (eval o env) = eval o env := by intro _; rfl)
    (hline : (apos.endLine == pos.line) = true := by rfl)
    (htrees : ∀ env, backTo pos (starEach [e] env) = [(false, eval e env)] := by intro _; rfl) :
    zB T d sc ctx (.Call (.Attribute o "update" apos) [e] [] pos) (updW a b) := by
  intro A env ρ σ s Q P eo ro st fr hw
  refine wpAny_Call_method1_late (hbase env) hline (htrees env) (h.run eo ro st fr hw fun va ua σ₁ s₁ v1 st1 p1 fr1 hw1 => ?_)
  obtain ⟨p, hw2, hw3⟩ := hw1.get v1
  obtain ⟨kv₁, hx₁, _⟩ := hw2.get
  obtain ⟨us₁, hd₁, _⟩ := st1.dict hx₁
  refine ⟨"dict", "dict.update", F.plainAttrs_dict, F.slot_dict_update, F.type_dict_update, hd₁.typeIs, hd₁.mapOf.noDict, ?_⟩
  refine Calls.callWith_builtin rfl (Calls.evalArgs_plain (Calls.spliced_cons (h'.then eo ro p1 st1 fr1 hw3 fun vb ub σ₂ s₂ v2 st2 p2 fr2 hw4 => Calls.spliced_nil ?_)))
  obtain ⟨q, hne, hw5⟩ := hw4.get v2
  obtain ⟨kvs, hx, hw6⟩ := hw5.get
  obtain ⟨more, hy, hl, hw7⟩ := hw6.get
  obtain ⟨us, hd, hk, hlim⟩ := st2.dict hx
  obtain ⟨ms, hd', hk', hlim'⟩ := st2.dict hy
  refine call_meetsIn F.slot_dict_update hd.typeIs F.entry_dict_update (F.args_dict_update_2 _ _) (meets_dict_update (intKind T.prog T.w) p q hne (st2.sysm _ (by simp [hy]) (st2.notScr hy (by intro xs e; cases e)))) ⟨us, ms, hd, hd', by rw [hk.length, hk'.length]; exact Nat.le_trans hl y9, fun hh hdd _ hs => ?_⟩
  have hn := st2.notScr hx (by intro _ e; cases e)
  obtain ⟨ob, ho, hi⟩ := Heap.dictOf_iff.mp hdd
  exact ⟨_, _, .none, st2.turn hx hn hs ho (so' := .dict (zbo kvs more)) ⟨Nat.le_trans (zfg _ _) hl, _, hi, hk.merge hk'⟩ s₂.toks, p2.turn hx hn hs ho s₂.toks, hw7⟩
theorem zeM : ∀ {ns : List Int} {us : List Value}, jL (zs ns) us → IntsAre us ns
  | [], _, h => by cases h; exact .nil
  | n :: ns, _, h => by
    cases h with
    | cons h1 h2 => cases h1; exact .cons n _ (zeM h2)
theorem ints_zs : ∀ {ns : List Int} {us : List Value}, IntsAre us ns → jL (zs ns) us
  | _, _, .nil => .nil
  | _, _, .cons n t h => .cons (.int n t) (ints_zs h)
noncomputable def sortW (a : EW) : EW := fun ρ σ Q P => a ρ σ (fun v σ₁ => v.asRef fun p => zae σ₁ p fun xs => ∃ ns, xs = zs ns ∧ ns.length < 64 ∧ ∀ ns' : List Int, ns'.Perm ns → ns'.Pairwise (· ≤ ·) → yI (.list (zs ns')) σ₁ Q) P
theorem simSort (ok : T.Ok) (B : Blt T) {p pos e} {a : EW} (h : zB T d sc ctx e a) (hx : sc.names.lookup ("sorted" : Str) = some .globalImplicit)
    (he : ∀ env, starEach [e] env = [(false, eval e env)] := by intro _; rfl) : zB T d sc ctx (.Call (.Name "sorted" p) [e] [] pos) (sortW a) := by
  refine zhe ok h hx (B.none _ (by decide)) (id := "sorted") (by decide +kernel) (by decide) (by decide) (fun ρ σ Q P hw => ⟨_, hw, fun A v u σ₀ s₀ σ₁ s₁ E ro hv st1 p1 hw1 => ?_⟩) he
  obtain ⟨q, hw2⟩ := hw1.get hv
  obtain ⟨xs, hx, ns, rfl, h64, hw3⟩ := hw2.get
  obtain ⟨us, hl, hvs, hz, hlim⟩ := st1.list hx
  rw [zQ] at hz hlim
  refine sorted_ints (vs := us.toList) (ns := ns) (by simpa using hl) (zeM hvs) (by simpa [hz] using h64) fun out ns' a1 a2 a3 => ?_
  have old : ∀ b o, s₁.heap.get? b = some o → (sortedAll s₁.heap us.toList out).get? b = some o := fun b o e => sortedAll_old e
  obtain ⟨c, hat⟩ := sortedAll_at s₁.heap us.toList out
  have st2 := st1.grow old s₁.toks
  have n1 : s₁.heap.get? (s₁.heap.objs.size + 1) = none := Heap.get?_none_of_le (Nat.le_succ _)
  refine ⟨_, put σ₁ (s₁.heap.objs.size + 1) (.list (zs ns')), .ref _, st2.adopt (st1.notFr n1) (st1.noneFree n1) ?_ ?_ (h' := sortedAll s₁.heap us.toList out) ⟨rfl, fun _ _ => rfl⟩ hat (so := .list (zs ns')) ⟨by rw [zQ, a2.length_eq]; exact hlim, out, c, rfl, ints_zs a1⟩ s₁.toks, (p1.grow old s₁.toks).adopt ?_ (h' := sortedAll s₁.heap us.toList out) ⟨rfl, fun _ _ => rfl⟩ hat _ s₁.toks, hw3 ns' a2 a3 _ (st1.noneFree n1)⟩
  · cases e : T.hb.get? (s₁.heap.objs.size + 1) with
    | none => rfl
    | some ob => have := st1.base _ _ e; rw [n1] at this; cases this
  · have := (st1.push { cls := .type "list", data := .seq #[] } s₁.toks).big
    rw [show ({ s₁ with heap := s₁.heap.push { cls := .type "list", data := .seq #[] }, toks := s₁.toks } : Shared).heap.objs.size = s₁.heap.objs.size + 1 from Heap.size_push ..] at this
    exact this
  · cases e : s₀.heap.get? (s₁.heap.objs.size + 1) with
    | none => rfl
    | some ob => obtain ⟨o', h'⟩ := p1.live _ _ e; rw [n1] at h'; cases h'
noncomputable def zcU (ns : List Int) : Nat := (firstMet (fun i => ns.getD i 0) ns.length).length
noncomputable def zhk (a : EW) : EW := fun ρ σ Q P => a ρ σ (fun v σ₁ => v.asRef fun p => zae σ₁ p fun xs => ∃ ns, xs = zs ns ∧ ns.length + 1 < 4096 ∧ Q (.int (zcU ns)) σ₁) P
theorem simLenSet (ok : T.Ok) (B : Blt T) {p p' pos pos' e} {a : EW} (h : zB T d sc ctx e a) (hx : sc.names.lookup ("len" : Str) = some .globalImplicit) (hx' : sc.names.lookup ("set" : Str) = some .globalImplicit)
    (he : ∀ env, starEach [e] env = [(false, eval e env)] := by intro _; rfl) (C : T.calm = true := by assumption) : zB T d sc ctx (.Call (.Name "len" p) [.Call (.Name "set" p') [e] [] pos'] [] pos) (zhk a) := by
  intro A env ρ σ s Q P eo ro st fr hw
  refine Call_ (jP ok eo st hx (B.none _ (by decide)) (v := .builtin "len") (by decide +kernel) (by decide) (by decide) ?_)
  refine Calls.callWith_builtin rfl (Calls.evalArgs_plain (Calls.spliced_cons ?_))
  refine Call_ (jP ok eo st hx' (B.none _ (by decide)) (v := .type "set") (by decide +kernel) (by decide) (by decide) ?_)
  refine callWith_type1 (args_cons (h.then eo ro .refl st fr hw fun v u σ₁ s₁ hv st1 p1 fr1 hw1 => args_nil ?_) (he env)) (he env) rfl
  obtain ⟨q, hw2⟩ := hw1.get hv
  obtain ⟨xs, hx, ns, rfl, h64, hw3⟩ := hw2.get
  obtain ⟨us, hl, hvs, hz, hlim⟩ := st1.list hx
  rw [zQ] at hz hlim
  refine call_set_list (ns := ns) (ro.handled C) hl (zeM hvs) (by rw [hz]; exact h64) fun h' tk hS hk => Calls.spliced_nil ?_
  obtain ⟨o, es, ep, t, ho, hex, hd, _, _, hb, hf, hn⟩ := hS
  rw [hz] at hn
  refine call_len_set ho hex hd hf (by rw [hn]; have := firstMet_length_le (fun i => ns.getD i 0) ns.length; omega) ?_
  have old : ∀ b o, s₁.heap.get? b = some o → h'.get? b = some o := fun b o e => hk b o (Heap.lt_size e) e
  rw [hn]
  exact ⟨_, _, .int _ _, (st1.grow old tk).tok _, (p1.grow old tk).tok _, hw3⟩
noncomputable def idxW (a b : EW) : EW := fun ρ σ Q P =>
  a ρ σ (fun va σ₁ => va.asRef fun p => qz σ₁ p (fun _ => True) ∧ b ρ σ₁ (fun vb σ₂ => vb.asInt fun k => qz σ₂ p fun xs => ∃ ns j, xs = zs ns ∧ ns[j]? = some k ∧ (∀ m : Nat, m < j → ns[m]? ≠ some k) ∧ Q (.int (j : Nat)) σ₂) P) P
theorem zfL : ∀ {us : List Value} {ns : List Int}, IntsAre us ns → ∀ {j : Nat} {u : Value}, us[j]? = some u → ∃ n t, ns[j]? = some n ∧ u = .int n t
  | _, _, .nil, j, u, h => by simp at h
  | _, _, .cons n t r, 0, u, h => by simp at h; exact ⟨n, t, rfl, h.symm⟩
  | _, _, .cons n t r, j + 1, u, h => by simpa using zfL r (by simpa using h)
theorem simIdx {o e apos pos} {a b : EW} (h : zB T d sc ctx o a) (h' : zB T d sc ctx e b)
    (hbase : ∀ env, attributeBase o "index" env (eval o env) = eval o env := by intro _; rfl)
    (hline : (apos.endLine == pos.line) = true := by rfl)
    (htrees : ∀ env, backTo pos (starEach [e] env) = [(false, eval e env)] := by intro _; rfl) :
    zB T d sc ctx (.Call (.Attribute o "index" apos) [e] [] pos) (idxW a b) := by
  intro A env ρ σ s Q P eo ro st fr hw
  refine wpAny_Call_method1_late (hbase env) hline (htrees env) (h.run eo ro st fr hw fun va ua σ₁ s₁ v1 st1 p1 fr1 hw1 => ?_)
  obtain ⟨p, hw2, hw3⟩ := hw1.get v1
  obtain ⟨xs₁, hx₁, _⟩ := hw2.get
  obtain ⟨us₁, n₁, ho₁, _⟩ := st1.isL hx₁
  refine ⟨"list", "list.index", F.plainAttrs_list, F.slot_list_index, F.type_list_index, ⟨_, ho₁, rfl⟩, (fun a e => by cases e; exact ⟨_, ho₁, rfl⟩), ?_⟩
  refine Calls.callWith_builtin rfl (Calls.evalArgs_plain (Calls.spliced_cons (h'.then eo ro p1 st1 fr1 hw3 fun vb ub σ₂ s₂ v2 st2 p2 fr2 hw4 => Calls.spliced_nil ?_)))
  obtain ⟨k, tk, hw5⟩ := hw4.get v2
  obtain ⟨xs, hx, ns, j, rfl, hj, hfirst, hw6⟩ := hw5.get
  obtain ⟨us, n, ho, hv, hz, hlim⟩ := st2.isL hx
  have hI := zeM hv
  have hlen : us.size = ns.length := by have := hv.length; simpa [zQ] using this
  have hjl : j < us.size := by rw [hlen]; exact (List.getElem?_eq_some_iff.mp hj).1
  refine call_meets F.slot_list_index ⟨_, ho, rfl⟩ F.entry_list_index (F.args_list_index_2 _ _) (MeetsSeq.list_index p us n (.int k tk) (isInt k) (fun y hy => eq_isInt k tk hI y (by simpa using hy)) j hjl (by rw [zQ] at hlim; unfold lim at hlim; exact lit (r3 _ _ _) V0 (.sub (.num 9223372036854775808) N1) [(0,1,V1,.num 1000000),(2,1,V2,V1),(1,1,V0,V2)] rfl (leI hlim) (eqI hlen) (ltI hjl)) ?_ fun m hm hmj => ?_) ⟨ho, ?_⟩
  · obtain ⟨m, t, h1, h2⟩ := zfL hI (j := j) (u := us[j]) (by simp [hjl])
    rw [h2]; rw [hj] at h1; cases h1; simp [isInt]
  · obtain ⟨m', t, h1, h2⟩ := zfL hI (j := m) (u := us[m]) (by simp [hm])
    rw [h2]
    have := hfirst m hmj
    rw [h1] at this
    simp only [ne_eq, Option.some.injEq] at this
    simp [isInt, this]
  · exact ⟨_, _, .int _ _, st2.tok _, p2.tok _, hw6⟩
end
end Mine
end
section
open PySem
namespace Mine
open PySem.Calls PyProof.Rows
section
variable {T : TC} {d : Nat} {sc : Scope} {ctx : List Str}
noncomputable def subD (a i : EW) : EW := fun ρ σ Q P => a ρ σ (fun va σ₁ => i ρ σ₁ (fun vi σ₂ => va.asRef fun p => vi.asInt fun k => jU σ₂ p fun kvs => ∃ v, zht kvs k = some v ∧ Q v σ₂) P) P
theorem zdl {e i pos} {a b : EW} (h : zB T d sc ctx e a) (h' : zB T d sc ctx i b)
    (hs : ∀ o k, subscripted i false o k = operate [o, k] (getItem o k) := by intro _ _; rfl) : zB T d sc ctx (.Subscript e i pos) (subD a b) := by
  intro A env ρ σ s Q P eo ro st fr hw
  refine Subscript_ (h.run eo ro st fr hw fun va ua σ₁ s₁ v1 st1 p1 fr1 hw1 => ?_)
  refine h'.then eo ro p1 st1 fr1 hw1 fun vi ui σ₂ s₂ v2 st2 p2 fr2 hw2 => ?_
  obtain ⟨p, hw3⟩ := hw2.get v1
  obtain ⟨k, t, hw4⟩ := hw3.get v2
  obtain ⟨kvs, hx, v, hv, hw5⟩ := hw4.get
  obtain ⟨us, hd, hk, hlim⟩ := st2.dict hx
  obtain ⟨u, hu, hvu⟩ := hk.get k hv
  exact tail_any hd.typeIs slot_dict_getitem.lookup (wpAny_getItem_of (knd := intKind T.prog T.w) (intKind_is ..) hd.mapOf hu ⟨_, _, hvu, st2.tok _, p2.tok _, hw5⟩) (hs _ _)
noncomputable def tupleW (a : EW) : EW := fun ρ σ Q P => a ρ σ (fun v σ₁ => v.asRef fun p => zae σ₁ p fun xs => yI (.tup xs) σ₁ Q) P
theorem simTupleOf (ok : T.Ok) (B : Blt T) {p pos e} {a : EW} (h : zB T d sc ctx e a) (hx : sc.names.lookup ("tuple" : Str) = some .globalImplicit)
    (he : ∀ env, starEach [e] env = [(false, eval e env)] := by intro _; rfl) : zB T d sc ctx (.Call (.Name "tuple" p) [e] [] pos) (tupleW a) := by
  refine zeV ok h hx (B.none _ (by decide)) (id := "tuple") (by decide +kernel) (by decide) (by decide) (fun ρ σ Q P hw => ⟨_, hw, fun A v u σ₀ s₀ σ₁ s₁ E ro hv st1 p1 hw1 => ?_⟩) he
  obtain ⟨q, hw2⟩ := hw1.get hv
  obtain ⟨xs, hx, hw3⟩ := hw2.get
  obtain ⟨us, hl, hvs, hz, hlim⟩ := st1.list hx
  refine call_tuple_list hl (fun h' hk => ?_) (by rw [hz]; exact Nat.le_trans hlim y9)
  have st2 := st1.grow hk s₁.toks
  have p2 := p1.grow hk s₁.toks
  exact ⟨_, _, .ref _, st2.lay (fun b o e => Heap.get?_push_of_some _ e) (Heap.get?_push_size _ rfl) (so := .tup xs) ⟨hlim, us, 0, rfl, hvs⟩ s₁.toks, p2.lay (fun b o e => Heap.get?_push_of_some _ e) _ s₁.toks, hw3 _ st2.sizeFree⟩
theorem rng_items {n : Nat} {acc : Array Value} (h : ItemsOf (fun i v => ∃ t, v = .int (0 + (i : Nat) * 1) t) acc n) : jL (rng 0 n) acc.toList := by
  have key : ∀ (l : List Value) (xs : List V), l.length = xs.length → (∀ (i : Nat) u v, l[i]? = some u → xs[i]? = some v → VIs v u) → jL xs l := by
    intro l
    induction l with
    | nil => intro xs hl _; rw [List.eq_nil_of_length_eq_zero hl.symm]; exact .nil
    | cons u l ih =>
      intro xs hl hv
      cases xs with
      | nil => simp at hl
      | cons v xs => exact .cons (hv 0 u v rfl rfl) (ih xs (by simpa using hl) fun i u' v' h1 h2 => hv (i + 1) u' v' (by simpa using h1) (by simpa using h2))
  refine key _ _ (by simp [h.1, qf]) fun i u v hu hv => ?_
  obtain ⟨t, rfl⟩ := h.2 i u (by simpa using hu)
  obtain ⟨_, rfl⟩ := qQ hv
  rw [Int.mul_one]; exact .int _ _
noncomputable def zdG (a : EW) : EW := fun ρ σ Q P => a ρ σ (fun v σ₁ => v.asInt fun n => jc n ∧ n ≤ 1000 ∧ yI (.list (rng 0 n.toNat)) σ₁ Q) P
theorem zgZ (ok : T.Ok) (B : Blt T) {p p' pos pos' e} {a : EW} (h : zB T d sc ctx e a) (hx : sc.names.lookup ("list" : Str) = some .globalImplicit) (hx' : sc.names.lookup ("range" : Str) = some .globalImplicit)
    (he : ∀ env, starEach [e] env = [(false, eval e env)] := by intro _; rfl) (C : T.calm = true := by assumption) : zB T d sc ctx (.Call (.Name "list" p) [.Call (.Name "range" p') [e] [] pos'] [] pos) (zdG a) := by
  intro A env ρ σ s Q P eo ro st fr hw
  refine Call_ (jP ok eo st hx (B.none _ (by decide)) (v := .type "list") (by decide +kernel) (by decide) (by decide) ?_)
  refine callWith_type1 (args_cons ?_ rfl) rfl rfl
  refine Call_ (jP ok eo st hx' (B.none _ (by decide)) (v := .type "range") (by decide +kernel) (by decide) (by decide) ?_)
  refine callWith_type1 (args_cons (h.then eo ro .refl st fr hw fun v u σ₁ s₁ hv st1 p1 fr1 hw1 => args_nil ?_) (he env)) (he env) rfl
  obtain ⟨n, t, hn, hn', hw2⟩ := hw1.get hv
  refine call_range_1 ?_
  refine args_nil ?_
  have hsz : Builtin.Range.rangeSize 0 n 1 = ((n.toNat : Nat) : Int) := by rw [rangeSize_one]; split <;> (first | exact liq (r2 _ _) (.sub V0 N0) V1 [(2,-1,V1,V0)] rfl (tnn (lin (r1 _) N0 V0 [(1,1,N0,V0)] rfl ‹_›)) | lia)
  refine call_list_range (ro.handled C) (IsRange.new ..) (small_one (by decide) (by decide) hn.1 hn.2) hsz (by lia) fun h' tk acc c hk hS hacc => ?_
  have st2 := st1.push { cls := .type "range", data := .fields #[.int 0 s₁.toks, .int n t, .int 1 (s₁.toks + 1)] } (s₁.toks + 1 + 1)
  exact ⟨_, _, .ref _, st2.lay hk hS (so := .list (rng 0 n.toNat)) ⟨by rw [qf]; unfold lim; lia, acc, c, rfl, rng_items hacc⟩ tk, (p1.push _ _).lay hk _ tk, hw2 _ st2.sizeFree⟩
theorem jL.erase : ∀ {vs : List V} {us : List Value}, jL vs us → ∀ i : Nat, jL (vs.eraseIdx i) (us.eraseIdx i)
  | _, _, .nil, i => by simp; exact .nil
  | _, _, .cons h r, 0 => r
  | _, _, .cons h r, i + 1 => .cons h (r.erase i)
noncomputable def popW (a b : EW) : EW := fun ρ σ Q P =>
  a ρ σ (fun va σ₁ => va.asRef fun p => qz σ₁ p (fun _ => True) ∧ b ρ σ₁ (fun vb σ₂ => vb.asInt fun k => qz σ₂ p fun xs => 0 ≤ k ∧ ∃ v, xs[k.toNat]? = some v ∧ Q v (put σ₂ p (.list (xs.eraseIdx k.toNat)))) P) P
theorem simPop {o e apos pos} {a b : EW} (h : zB T d sc ctx o a) (h' : zB T d sc ctx e b)
    (hbase : ∀ env, attributeBase o "pop" env (eval o env) = eval o env := by intro _; rfl)
    (hline : (apos.endLine == pos.line) = true := by rfl)
    (htrees : ∀ env, backTo pos (starEach [e] env) = [(false, eval e env)] := by intro _; rfl) :
    zB T d sc ctx (.Call (.Attribute o "pop" apos) [e] [] pos) (popW a b) := by
  intro A env ρ σ s Q P eo ro st fr hw
  refine wpAny_Call_method1_late (hbase env) hline (htrees env) (h.run eo ro st fr hw fun va ua σ₁ s₁ v1 st1 p1 fr1 hw1 => ?_)
  obtain ⟨p, hw2, hw3⟩ := hw1.get v1
  obtain ⟨xs₁, hx₁, _⟩ := hw2.get
  obtain ⟨us₁, n₁, ho₁, _⟩ := st1.isL hx₁
  refine ⟨"list", "list.pop", F.plainAttrs_list, F.slot_list_pop, F.type_list_pop, ⟨_, ho₁, rfl⟩, (fun a e => by cases e; exact ⟨_, ho₁, rfl⟩), ?_⟩
  refine Calls.callWith_builtin rfl (Calls.evalArgs_plain (Calls.spliced_cons (h'.then eo ro p1 st1 fr1 hw3 fun vb ub σ₂ s₂ v2 st2 p2 fr2 hw4 => Calls.spliced_nil ?_)))
  obtain ⟨k, tk, hw5⟩ := hw4.get v2
  obtain ⟨xs, hx, h0, v, hv, hw6⟩ := hw5.get
  obtain ⟨us, n, ho, hvs, hz, hlim⟩ := st2.isL hx
  obtain ⟨u, hu, hvu⟩ := hvs.get hv
  have hlt : k.toNat < xs.length := (List.getElem?_eq_some_iff.mp hv).1
  refine call_meets F.slot_list_pop ⟨_, ho, rfl⟩ F.entry_list_pop (F.args_list_pop_2 _ _) (MeetsSeq.list_pop_at p us n k tk k.toNat u ?_ ?_ (by simpa using hu) (by rw [hz]; exact Nat.le_trans hlim y9)) ⟨ho, ?_⟩
  · unfold lim at hlim
    unfold Builtin.List.listFitsIndex
    simp; exact ⟨lin (r1 _) (.neg (.num 9223372036854775808)) V0 [(0,1,N0,V0)] rfl h0, lit (r3 _ _ _) V0 (.num 9223372036854775808) [(0,1,V1,.num 1000000),(1,1,V2,V1),(2,-1,V2,V0)] rfl (leI hlim) (ltI hlt) (tnn (h0))⟩
  · unfold seqIndex?
    grind
  · have hn := st2.notScr hx (by intro _ e; cases e)
    have ho' := IsL.update ho (fun x => x.eraseIdxIfInBounds k.toNat)
    refine ⟨_, _, hvu, st2.turn hx hn (Heap.SameBut.update ..) ho' (so' := .list (xs.eraseIdx k.toNat)) ⟨Nat.le_trans (List.length_eraseIdx_le ..) hlim, _, _, rfl, ?_⟩ s₂.toks, p2.turn hx hn (Heap.SameBut.update ..) ho' s₂.toks, hw6⟩
    have : (us.eraseIdxIfInBounds k.toNat).toList = us.toList.eraseIdx k.toNat := by simp
    rw [this]; exact hvs.erase _
theorem rev_pick {α} (us : Array α) : ((List.range us.size).map fun (k : Nat) => ((us.size : Int) - 1 + (-1) * (k : Int)).toNat).filterMap (fun x => us[x]?) = us.toList.reverse := by
  have h : ∀ k ∈ List.range us.size, us[((us.size : Int) - 1 + (-1) * (k : Int)).toNat]? = us.toList.reverse[k]? := by
    intro k hk
    have hk' := List.mem_range.mp hk
    have e : ((us.size : Int) - 1 + (-1) * (k : Int)).toNat = us.size - 1 - k := by
      obtain ⟨n, hn⟩ : ∃ n, us.size = n + (k + 1) := ⟨_, (Nat.sub_add_cancel hk').symm⟩
      rw [hn, show ((n + (k + 1) : Nat) : Int) - 1 + (-1) * (k : Int) = (n : Int) from liq (r2 (↑n) (↑k)) (.add (.sub (.add V0 (.add V1 N1)) N1) (.mulL (-1) V1)) V0 [] rfl]
      exact (Nat.add_sub_cancel ..).symm
    rw [e, List.getElem?_reverse (by simpa using hk')]
    simp
  rw [List.filterMap_map]
  have h2 : List.filterMap ((fun x => us[x]?) ∘ fun (k : Nat) => ((us.size : Int) - 1 + (-1) * (k : Int)).toNat) (List.range us.size) = List.filterMap (fun k => us.toList.reverse[k]?) (List.range us.size) := by
    have g : ∀ (l : List Nat), (∀ k ∈ l, us[((us.size : Int) - 1 + (-1) * (k : Int)).toNat]? = us.toList.reverse[k]?) → List.filterMap ((fun x => us[x]?) ∘ fun (k : Nat) => ((us.size : Int) - 1 + (-1) * (k : Int)).toNat) l = List.filterMap (fun k => us.toList.reverse[k]?) l := by
      intro l
      induction l with
      | nil => intro _; rfl
      | cons k l ih =>
        intro hl
        rw [List.filterMap_cons, List.filterMap_cons, ih fun x hx => hl x (List.mem_cons_of_mem _ hx)]
        have := hl k (List.mem_cons_self ..)
        simp only [Function.comp]
        rw [this]
    exact g _ h
  rw [h2]
  have : us.size = us.toList.reverse.length := by simp
  rw [this]
  generalize us.toList.reverse = l
  have key : ∀ (n : Nat), n ≤ l.length → List.filterMap (fun k => l[k]?) (List.range n) = l.take n := by
    intro n
    induction n with
    | zero => intro _; simp
    | succ n ih =>
      intro hn
      rw [List.range_succ, List.filterMap_append, ih (by exact Nat.le_of_lt ‹_›), List.take_add_one]
      have : l[n]? = some l[n] := List.getElem?_eq_getElem ‹_›
      simp [this]
  rw [key _ (Nat.le_refl _), List.take_length]
theorem zfS (us : Array Value) : slicePick us none none (some (-1)) = us.toList.reverse.toArray := by
  have e : sliceBounds none none (some (-1)) us.size = ((us.size : Int) - 1, -1, -1) := by
    simp [sliceBounds]
  unfold slicePick
  rw [e]
  unfold sliceRange
  have hc : (if (-1 : Int) > 0 then (if (us.size : Int) - 1 < -1 then (-1 - ((us.size : Int) - 1) + -1 - 1) / -1 else 0) else (if (us.size : Int) - 1 > -1 then ((us.size : Int) - 1 - -1 - -1 - 1) / (- -1) else 0)).toNat = us.size := by
    rw [if_neg (by decide)]
    split
    · simp
    · exact eqN (Int.le_antisymm (lin (r2 _ _) V0 V1 [(0,1,N0,V1),(2,1,V0,N0)] rfl (nnI _) (tnn (lin (r1 0) N0 N0 [] rfl))) (lin (r2 _ _) V0 V1 [(4,1,.neg N1,.sub V0 N1),(0,1,N0,V1)] rfl ‹_› (nnI _)))
  simp only [hc]
  rw [rev_pick]
theorem jL.reverse : ∀ {vs : List V} {us : List Value}, jL vs us → jL vs.reverse us.reverse
  | _, _, .nil => .nil
  | _, _, .cons h r => by rw [List.reverse_cons, List.reverse_cons]; exact r.reverse.append (.cons h .nil)
noncomputable def revW (a : EW) : EW := fun ρ σ Q P => a ρ σ (fun v σ₁ => v.asRef fun p => zae σ₁ p fun xs => yI (.list xs.reverse) σ₁ Q) P
theorem simRev {e st p pos} {a b : EW} (h : zB T d sc ctx e a) (h' : zB T d sc ctx st b) (hb : ∀ ρ σ (Q : V → zb → Prop) (P : Nat → zb → Prop), Q (.int (-1)) σ → b ρ σ Q P) (ht : ∀ o r, letTemporaryGo e o r = pure () := by intro _ _; rfl) :
    zB T d sc ctx (.Subscript e (.Slice none none (some st) p) pos) (revW a) := by
  intro A env ρ σ s Q P eo ro st' fr hw
  refine wpAny_Subscript_Slice_step slot_list_getitem.lookup (h.run eo ro st' fr hw fun va ua σ₁ s₁ v1 st1 p1 fr1 hw1 => ?_) ht
  obtain ⟨q, hw3⟩ := hw1.get v1
  obtain ⟨xs, hx, hw4⟩ := hw3.get
  refine wpAny_Slice (wpAny_evalPart_none (wpAny_evalPart_none (wpAny_evalPart_some (h'.then eo ro p1 st1 fr1 (hb ρ σ₁ (fun v σ₂ => v = .int (-1) ∧ σ₂ = σ₁) _ ⟨rfl, rfl⟩) fun vi ui σ₂ s₂ v2 st2 p2 fr2 hw2 => ?_))))
  obtain ⟨rfl, rfl⟩ := hw2
  cases v2 with | int _ t => ?_
  obtain ⟨us, hl, hv, hz, hlim⟩ := st2.list hx
  have hl' : (s₂.heap.push { cls := .type "slice", data := .fields #[.none, .none, .int (-1) t] }).IsList q us := by
    obtain ⟨o, ho, r⟩ := hl; exact ⟨o, Heap.get?_push_of_some _ ho, r⟩
  refine ⟨hl'.typeIs, wpAny_getItem_list_slice hl' ⟨_, Heap.get?_push_size _ rfl, rfl, rfl⟩ .none .none (.int _ _) (by simp) ?_ (by rw [hz]; exact Nat.le_trans hlim y9)⟩
  rw [zfS]
  have := zdD st2 p2 (ob := { cls := .type "slice", data := .fields #[.none, .none, .int (-1) t] }) (us := us.toList.reverse.toArray) (ys := xs.reverse) (by simpa using hv.reverse) (by simpa using hlim) hw4
  have hz' : (s₂.heap.push { cls := .type "slice", data := .fields #[.none, .none, .int (-1) t] }).objs.size = s₂.heap.objs.size + 1 := Heap.size_push ..
  simp only [hz']
  exact this
end
end Mine
end
section
open PySem
namespace Mine
noncomputable def zd7 : List Str := ["thing", "least", "most"]
noncomputable def qI (T : TC) (d : Nat) : SW := (qR (zag (zgx .int (loc 0)) (zag (zbj (zgx .bool (loc 0))) (zeu .le .le (loc 1) (loc 0) (loc 2)))))
noncomputable def zgJ : List Str := ["many", "road"]
noncomputable def zaI (T : TC) (d : Nat) : SW := (zA (jg (orW (zbj (tst (zgx .tuple (loc 1)))) (jh .ne (j4 (loc 1)) (val (.int 2)))) (qR (val (.bool false))) qe)
    (qR (zag (zM T d "is_within" (zh (qi (loc 1) (val (.int 0))) (zh (val (.int 0)) (zh (loc 0) zR)))) (zag (zM T d "is_within" (zh (qi (loc 1) (val (.int 1))) (zh (val (.int 0)) (zh (loc 0) zR)))) (jh .ne (qi (loc 1) (val (.int 0))) (qi (loc 1) (val (.int 1))))))))
noncomputable def zgL : List Str := ["many", "roads", "found", "more", "one", "other"]
noncomputable def zaK (T : TC) (d : Nat) : SW := (zA (z1 2 (zcS (loc 0) (val (.bool true))))
    (zA (z1 3 (val (.bool true)))
    (zA (zep (tst (loc 3)) (zA (z1 3 (val (.bool false)))
    (yL (.tup [4, 5]) (zbh (loc 1)) (jg (eqB true (inD false (loc 4) (loc 2)) (inD false (loc 5) (loc 2))) (zA (zax (loc 2) (loc 4) (val (.bool true)))
    (zA (zax (loc 2) (loc 5) (val (.bool true)))
    (z1 3 (val (.bool true))))) qe))))
    (qR (loc 2)))))
noncomputable def zfp : List Str := ["many", "roads", "road"]
noncomputable def za9 (T : TC) (d : Nat) : SW := (zA (jg (orW (zbj (tst (zM T d "is_within" (zh (loc 0) (zh (val (.int 0)) (zh (val (.int 10)) zR)))))) (orW (zbj (tst (zgx .list (loc 1)))) (jh .gt (j4 (loc 1)) (val (.int 40))))) zhM qe)
    (jg (orW (zbj (tst (allW (yM 2 (zbh (loc 1)) none (zM T d "is_road" (zh (loc 0) (zh (loc 2) zR))))))) (jh .ne (j4 (zM T d "come_to" (zh (loc 0) (zh (loc 1) zR)))) (jQ (loc 0) (val (.int 1))))) zhM qe))
noncomputable def zd8 : List Str := ["many", "roads", "found", "road", "end"]
noncomputable def jZ (T : TC) (d : Nat) : SW := (zA (z1 2 (mulL (q9 (zh (val (.int 0)) zR)) (loc 0)))
    (zA (yL (.nm 3) (zbh (loc 1)) (yL (.nm 4) (zbh (loc 3)) (jg (jh .lt (loc 4) (loc 0)) (zax (loc 2) (loc 4) (jQ (qi (loc 2) (loc 4)) (val (.int 1)))) qe)))
    (qR (loc 2))))
noncomputable def zci : List Str := ["_law_script", "_law_k", "_law_mixed_here"]
noncomputable def jd (T : TC) (d : Nat) : SW := (zA (jg (jh .lt (loc 1) (j4 (loc 0))) (qR (qi (loc 0) (loc 1))) qe)
    (zA (jg (eqW false (loc 0) (q9 zR)) (qR (val (.int 0))) qe)
    (zA (z1 2 (yJ (jQ (zcC (qi (loc 0) (yJ (loc 1) (j4 (loc 0)))) (val (.int 48271))) (zcC (loc 1) (val (.int 104729)))) (val (.int 2147483647))))
    (qR (yJ (jQ (zcC (loc 2) (loc 2)) (zcC (val (.int 48271)) (loc 1))) (val (.int 2147483629)))))))
noncomputable def zd5 : List Str := ["_law_found"]
noncomputable def qH (T : TC) (d : Nat) : SW := (qR (zag (zgx .int (loc 0)) (zbj (zgx .bool (loc 0)))))
noncomputable def zd6 : List Str := ["_law_cell", "_law_k", "_law_mixed_here"]
noncomputable def wp (T : TC) (d : Nat) : SW := (zA (z1 2 (yJ (jQ (zcC (loc 0) (val (.int 48271))) (zcC (zcC (jQ (loc 1) (val (.int 1))) (val (.int 7919))) (jQ (yJ (loc 0) (val (.int 9973))) (val (.int 7))))) (val (.int 2147483647))))
    (qR (yJ (jQ (zcC (loc 2) (loc 2)) (zcC (val (.int 69621)) (loc 1))) (val (.int 2147483629)))))
noncomputable def zcM : List Str := ["_law_number", "_law_many", "_law_shift"]
noncomputable def yG (T : TC) (d : Nat) : SW := (zA (jg (jh .eq (loc 0) (loc 1)) (qR (loc 1)) qe)
    (zA (jg (jh .eq (yJ (zcb (loc 2) (val (.int 16))) (val (.int 2))) (val (.int 1))) (qR (zcB (zcB (loc 1) (val (.int 1))) (yJ (jQ (loc 0) (loc 2)) (loc 1)))) qe)
    (qR (yJ (jQ (loc 0) (loc 2)) (loc 1)))))
noncomputable def zdP (T : TC) (d : Nat) : SW := (zA (z1 8 (yJ (zM T d "_law_cell_at" (zh (loc 0) (zh (val (.int 17)) zR))) (val (.int 32))))
    (zA (z1 9 (yJ (zM T d "_law_cell_at" (zh (loc 0) (zh (val (.int 18)) zR))) (jQ (j4 (loc 5)) (val (.int 1)))))
    (zA (z1 10 (q9 zR))
    (zA (yL (.tup [13, 14]) (zbh (zgg (zfd (loc 5) (loc 9)) (zd9 (loc 5) (loc 9)))) (zA (z1 15 (zgq (zh (zM T d "_law_turned" (zh (loc 13) (zh (loc 3) (zh (loc 8) zR)))) (zh (zM T d "_law_turned" (zh (loc 14) (zh (loc 3) (zh (loc 8) zR)))) zR))))
    (zA (jg (jh .eq (yJ (jQ (zcb (zM T d "_law_cell_at" (zh (loc 0) (zh (val (.int 18)) zR))) (val (.int 41))) (j4 (loc 10))) (val (.int 3))) (val (.int 1))) (z1 15 (zgq (zh (qi (loc 15) (val (.int 1))) (zh (qi (loc 15) (val (.int 0))) zR)))) qe)
    (zam (appW (loc 10) (loc 15))))))
    (qR (zgq (zh (loc 3) (zh (loc 10) zR))))))))
noncomputable def zbA (T : TC) (d : Nat) : SW := (zA (yL (.nm 6) (jN (zcC (loc 7) (intW (jh .gt (loc 3) (val (.int 0)))))) (zA (z1 11 (zM T d "_law_mixed" (zh (zM T d "_law_cell_at" (zh (loc 0) (zh (jQ (val (.int 12)) (yJ (loc 6) (val (.int 5)))) zR))) (zh (loc 6) zR))))
    (zA (z1 13 (yJ (loc 11) (jQ (loc 3) (val (.int 1)))))
    (zam (appW (loc 5) (zgq (zh (loc 13) (zh (yJ (jQ (jQ (loc 13) (val (.int 1))) (yJ (zcb (loc 11) (val (.int 11))) (loc 3))) (jQ (loc 3) (val (.int 1)))) zR))))))))
    (zdP T d))
noncomputable def zbB (T : TC) (d : Nat) : SW := (zA (jg (zag (jh .eq (yJ (zcb (zM T d "_law_cell_at" (zh (loc 0) (zh (val (.int 11)) zR))) (val (.int 6))) (val (.int 12))) (val (.int 1))) (orW (jh .lt (loc 3) (val (.int 3))) (jh .eq (loc 1) (val (.int 3))))) (z1 7 (zcB (val (.int 40)) (loc 3))) qe)
    (zbA T d))
noncomputable def zbC (T : TC) (d : Nat) : SW := (zA (z1 7 (yJ (zM T d "_law_cell_at" (zh (loc 0) (zh (val (.int 11)) zR))) (val (.int 6))))
    (zA (jg (zag (tst (loc 4)) (jh .lt (loc 1) (val (.int 3)))) (z1 7 (yJ (loc 7) (val (.int 3)))) qe)
    (zbB T d)))
noncomputable def zai (T : TC) (d : Nat) : SW := (zA (z1 5 (q9 zR))
    (zA (yL (.nm 6) (jN (loc 3)) (zA (z1 11 (zM T d "_law_cell_at" (zh (loc 0) (zh (jQ (val (.int 1)) (loc 6)) zR))))
    (zA (z1 12 (yJ (loc 11) (jQ (loc 6) (val (.int 1)))))
    (zA (jg (zag (tst (loc 4)) (zag (jh .gt (yJ (loc 11) (val (.int 5))) (val (.int 0))) (jh .eq (yJ (zcb (loc 2) (val (.int 240))) (val (.int 2))) (val (.int 0))))) (z1 12 (loc 6)) qe)
    (zam (appW (loc 5) (zgq (zh (loc 6) (zh (qi (q9 (zh (loc 3) (zh (zcB (loc 12) (val (.int 1))) zR))) (intW (jh .gt (loc 12) (val (.int 0))))) zR)))))))))
    (zbC T d)))
noncomputable def zgG : List Str := ["_law_script", "_law_lines", "_law_first", "_law_many", "_law_line", "_law_roads", "_law_k", "_law_size", "_law_shift", "_law_at", "_law_found", "_law_cell", "_law_ahead", "_law_one", "_law_other", "_law_pair"]
noncomputable def zbP (T : TC) (d : Nat) : SW := (zA (z1 2 (zM T d "_law_cell_at" (zh (loc 0) (zh (val (.int 0)) zR))))
    (zA (z1 3 (yJ (loc 2) (val (.int 6))))
    (zA (z1 4 (zag (jh .eq (yJ (zcb (loc 2) (val (.int 6))) (val (.int 8))) (val (.int 1))) (jh .gt (loc 1) (val (.int 0)))))
    (zA (jg (tst (loc 4)) (z1 3 (jQ (val (.int 6)) (yJ (zcb (loc 2) (val (.int 48))) (qi (q9 (zh (val (.int 1)) (zh (val (.int 2)) (zh (val (.int 5)) (zh (val (.int 5)) zR))))) (loc 1))))) qe)
    (zai T d)))))
noncomputable def zch : List Str := ["_law_many", "_law_roads", "_law_found", "_law_one", "_law_other", "_law_place"]
noncomputable def jA (T : TC) (d : Nat) : SW := (zA (z1 2 (mulL (q9 (zh (val (.int 0)) zR)) (loc 0)))
    (zA (yL (.tup [3, 4]) (zbh (loc 1)) (yL (.nm 5) (zbh (q9 (zh (loc 3) (zh (loc 4) zR)))) (jg (jh .lt (loc 5) (loc 0)) (zax (loc 2) (loc 5) (jQ (qi (loc 2) (loc 5)) (val (.int 1)))) qe)))
    (qR (loc 2))))
end Mine
end
section
open PySem
namespace Mine
noncomputable def zaD (m : Int) (f : List Int) (e : Int) : List Int := if e < m then f.set e.toNat (f.getD e.toNat 0 + 1) else f
noncomputable def zbM (m : Int) (f : List Int) (rs : List (Int × Int)) : List Int := rs.foldl (fun f p => zaD m (zaD m f p.1) p.2) f
noncomputable def degs (m : Int) (rs : List (Int × Int)) : List Int := zbM m (List.replicate m.toNat 0) rs
theorem zfP (m f e) : (zaD m f e).length = f.length := by unfold zaD; split <;> simp
theorem cnts_len (m) : ∀ (rs f), (zbM m f rs).length = f.length := by
  intro r_
  induction r_ with
  | nil =>
    intro f
    exact rfl
  | cons p r ih_ =>
    intro f
    show (zbM m _ r).length = _; rw [ih_]; simp [zfP]
theorem zbx (m f) (rs : List (Int × Int)) (i : Nat) (p : Int × Int) (h : rs[i]? = some p) : zbM m f (rs.take (i + 1)) = zaD m (zaD m (zbM m f (rs.take i)) p.1) p.2 := by
  unfold zbM; rw [List.take_add_one, h]; simp

section
variable {T : TC} {d : Nat} {σ : zb} {Q : V → zb → Prop} {P : Nat → zb → Prop}
theorem jK (h : FnW T "is_within" 3 0 (qI T)) {i lo hi : Int} (hq : Q (.bool (decide (lo ≤ i ∧ i ≤ hi))) σ) : zC T (d + 1) "is_within" [.int i, .int lo, .int hi] σ Q P := by
  refine h d _ _ _ _ rfl ?_
  show (if decide (lo ≤ i) = true then Q (.bool (decide (i ≤ hi))) σ else Q (.bool false) σ)
  by_cases h1 : lo ≤ i
  · rw [if_pos (decide_eq_true h1), ← decide_eq_decide.mpr (and_iff_right h1)]; exact hq
  · rw [if_neg (Bool.eq_false_iff.mp (decide_eq_false h1)), ← decide_eq_false (fun h : lo ≤ i ∧ i ≤ hi => h1 h.1)]; exact hq
theorem isi_t {σ : zb} {t : Addr} {xs : List V} {k : Bool → Prop} (ht : σ t = some (.tup xs)) (h : k true) : isi .tuple σ (.ref t) k := by
  simp only [isi, ht]; exact h
theorem zg0 (h : FnW T "is_within" 3 0 (qI T)) (h' : FnW T "is_road" 2 0 (zaI T)) {m a b : Int} {t : Addr} (ht : σ t = some (.tup [.int a, .int b])) (hq : Q (.bool (decide (0 ≤ a ∧ a ≤ m) && decide (0 ≤ b ∧ b ≤ m) && decide (a ≠ b))) σ) :
    zC T (d + 2) "is_road" [.int m, .ref t] σ Q P := by
  refine h' (d + 1) _ _ _ _ rfl ?_
  simp only [zaI, zE, qv, zdp, wv, zbF, zbn, zv, qd, qg, qc, zf, zg]
  refine isi_t ht ?_
  simp only [zm, Bool.not_true, Bool.false_eq_true, if_false, qy, qu, zv, zf, zg, ze]
  refine asLen_ti ht ?_
  simp only [ql, zd, Cmp.run, List.length_cons, List.length_nil, yn, qx, zan, z5, zK, qG, z4, zv, zf, zg, ze]
  refine ⟨Int.le_refl 0, ?_⟩
  refine jR ht ?_
  refine jK h ?_
  by_cases h1 : 0 ≤ a ∧ a ≤ m
  · simp only [h1, and_self, decide_true, zm, if_true, Bool.true_and] at hq ⊢
    refine ⟨by decide, ?_⟩
    refine jR ht ?_
    refine jK h ?_
    by_cases h2 : 0 ≤ b ∧ b ≤ m
    · simp only [h2, and_self, decide_true, zm, if_true, Bool.true_and] at hq ⊢
      have e : (a != b) = decide (a ≠ b) := by by_cases h3 : a = b <;> simp [h3]
      simp only [qy, qG, zv, ql, zf, zg, ze, zd]
      refine ⟨by decide, jR ht ⟨by decide, jR ht ?_⟩⟩
      simp only [Cmp.run]
      show Q (.bool (a != b)) σ
      rw [e]; exact hq
    · simp [h2] at hq ⊢; exact hq
  · simp [h1] at hq ⊢; exact hq

theorem zbw (h : FnW T "counts_at" 2 3 (jZ T)) {m : Int} {r : Addr} {rs : List (Int × Int)} (hm : 0 ≤ m) (hm' : m ≤ 10) (hr : z2 σ r rs) (hp : ∀ p ∈ rs, 0 ≤ p.1 ∧ 0 ≤ p.2)
    (hq : ∀ c σ', Ext σ σ' → σ c = none → q0 σ' c (degs m rs) → Q (.ref c) σ') : zC T (d + 1) "counts_at" [.int m, .ref r] σ Q P := by
  refine h d _ _ _ _ rfl ?_
  obtain ⟨vs, hr1, hr2⟩ := hr
  simp only [jZ, zE, qa, zhF, jC, zK, ql, z4, zv, qd, qg, qc, zf, zg, ze, zd, yI, List.length_cons, List.length_nil]
  refine ⟨by first | exact Nat.le_of_ble_eq_true rfl | simp [lim], fun c hc => ?_⟩
  refine zH (zy _ _ _) ?_
  refine ⟨by exact lit (r1 _) V0 (.num 4611686018427387904) [(0,1,V0,.num 10)] rfl hm', by exact lin (r1 _) (.neg (.num 4611686018427387904)) V0 [(0,1,N0,V0)] rfl hm, by simp [lim]; exact lin (r1 _) V0 (.num 1000000) [(0,1,V0,.num 10)] rfl hm', fun f hf => ?_⟩
  have e1 : Ext σ (put σ c (.list [.int 0])) := Ext.refl.new hc _
  have hfn := e1.none hf
  simp only [zq, zp, j5, yk, zv, zf, zg, ze]
  have e2 := e1.new hf (.list (List.replicate m.toNat [.int 0]).flatten)
  refine qh (e2 _ _ hr1) ?_
  refine zU (fun i ρ σ' => X2 fun o3 o4 => ρ = [some (.int m), some (.ref r), some (.ref f), o3, o4] ∧ Ext σ σ' ∧ q0 σ' f (zbM m (List.replicate m.toNat 0) (rs.take i))) ?_ ?_ ?_
  · refine ⟨none, none, rfl, e2, ?_⟩
    show put _ f _ f = _
    rw [zy]; simp [zbM, zs]
  · intro i v ρ σ' K' hv hI6a hK
    obtain ⟨o3, o4, rfl, hcj⟩ := hI6a
    have e := hcj.1; have hi := hcj.2; clear hcj
    obtain ⟨t, a, b, rfl, hrs, ht⟩ := hr2.get hv
    have hab := hp _ (List.mem_of_getElem? hrs)
    refine ⟨.inl (e _ _ hr1), ?_⟩
    simp only [qB, zq, zp, j5, yk, zv, zf, zg, ze]
    rw [asIter_tup (e _ _ ht)]
    refine zU (fun j ρ σ'' => ∃ o4, ρ = [some (.int m), some (.ref r), some (.ref f), some (.ref t), o4] ∧ Ext σ σ'' ∧ q0 σ'' f (([a, b].take j).foldl (zaD m) (zbM m (List.replicate m.toNat 0) (rs.take i)))) ⟨o4, rfl, e, by simpa using hi⟩ ?_ ?_
    · intro j v ρ σ'' K'' hv' hI6b hK'
      obtain ⟨o4, rfl, hcj⟩ := hI6b
      have e' := hcj.1; have hi' := hcj.2; clear hcj
      refine ⟨e' _ _ ht, ?_⟩
      have hv2 : ∃ x, [a, b][j]? = some x ∧ v = .int x ∧ 0 ≤ x := by
        match j with
        | 0 => simp at hv'; exact ⟨a, rfl, hv'.symm, hab.1⟩
        | 1 => simp at hv'; exact ⟨b, rfl, hv'.symm, hab.2⟩
        | j + 2 => simp at hv'
      obtain ⟨x, hx, rfl, hx0⟩ := hv2
      have hnext : ([a, b].take (j + 1)).foldl (zaD m) (zbM m (List.replicate m.toNat 0) (rs.take i)) = zaD m (([a, b].take j).foldl (zaD m) (zbM m (List.replicate m.toNat 0) (rs.take i))) x := by
        rw [List.take_add_one, hx]; simp
      generalize hF : ([a, b].take j).foldl (zaD m) (zbM m (List.replicate m.toNat 0) (rs.take i)) = F at *
      have hFl : F.length = m.toNat := by
        rw [← hF]
        have : ∀ (l : List Int) (f : List Int), (l.foldl (zaD m) f).length = f.length := by
          intro l; induction l with
          | nil => intro f; rfl
          | cons y l ih => intro f; rw [List.foldl_cons, ih, zfP]
        rw [this, cnts_len]; simp
      simp only [qB, zq, zp, qv, qy, zv, zf, zg, zd, zm, Cmp.run, qx]
      by_cases hlt : x < m
      · simp only [hlt, decide_true, if_true, w7, qV, qG, zv, zf, zg, ql, ze, zd]
        have hxl : x.toNat < F.length := by exact ltN (lit (r5 _ _ _ _ _) V0 V1 [(2,-1,V1,V2),(1,1,V3,V4),(2,1,V0,V3),(2,-1,V2,V4)] rfl (eqI hFl) hlt (tnn (hx0)) (tnn (hm)))
        refine ⟨hx0, ?_⟩
        refine ji hi' (zaV (zaN (n := F.getD x.toNat 0) (by simp [List.getD, hxl])) ?_)
        refine Eq.mpr (zad hi') ?_
        rw [zQ]
        refine ⟨hx0, by exact lit (r3 _ _ _) V0 V1 [(1,1,V2,V1),(2,-1,V2,V0)] rfl (ltI hxl) (tnn (hx0)), hK' .next _ _ ⟨_, rfl, e'.put hfn _, ?_⟩⟩
        rw [hnext]
        show put _ f _ f = _
        rw [zy, zs_set]; simp [zaD, hlt]
      · refine je (decide_eq_false hlt) ?_
        exact hK' .next _ _ ⟨_, rfl, e', by rw [hnext]; simpa [zaD, hlt] using hi'⟩
    · rintro ρ σ'' ⟨o4, rfl, hcj⟩
      have e' := hcj.1; have hi' := hcj.2; clear hcj
      refine ⟨e' _ _ ht, hK .next _ _ ⟨_, _, rfl, e', ?_⟩⟩
      rw [zbx m _ rs i _ hrs]
      simpa using hi'
  · rintro ρ σ' ⟨o3, o4, rfl, hcj⟩
    have e := hcj.1; have hi := hcj.2; clear hcj
    refine ⟨.inl (e _ _ hr1), ?_⟩
    refine hq f σ' e hfn ?_
    rw [hr2.length, List.take_length] at hi
    exact hi
end
end Mine
end
section
open PySem
namespace Mine
inductive yD (rs : List (Int × Int)) : Int → Int → Prop
  | refl {a} : yD rs a a
  | fwd {a b c} : yD rs a b → (b, c) ∈ rs → yD rs a c
  | bwd {a b c} : yD rs a b → (c, b) ∈ rs → yD rs a c
structure Net (m : Int) (rs : List (Int × Int)) : Prop where
  m0 : 0 ≤ m
  m10 : m ≤ 10
  len : rs.length ≤ 40
  ends : ∀ p ∈ rs, (0 ≤ p.1 ∧ p.1 ≤ m) ∧ (0 ≤ p.2 ∧ p.2 ≤ m) ∧ p.1 ≠ p.2
  conn : ∀ k, 0 ≤ k → k < m → yD rs m k
noncomputable def wF (ks : List Int) (k : Int) : List Int := if k ∈ ks then ks else ks ++ [k]
noncomputable def dk (ks : List Int) : List (Int × V) := ks.map fun k => (k, .bool true)
theorem yy (ks) : (dk ks).length = ks.length := by simp [dk]
theorem wE (ks : List Int) (k : Int) : zhs (dk ks) k = decide (k ∈ ks) := by
  unfold zhs dk
  rw [List.any_map, Bool.eq_iff_iff]
  simp [List.any_eq_true]
theorem wD (ks : List Int) (k : Int) : zcu (dk ks) k (.bool true) = dk (wF ks k) := by
  unfold zcu wF
  have := wE ks k
  unfold zhs at this
  rw [this]
  by_cases h : k ∈ ks
  · simp only [h, decide_true, if_true]
    unfold dk
    rw [List.map_map]
    apply List.map_congr_left
    intro x _
    simp only [Function.comp]
    split <;> rfl
  · simp [h, dk]
theorem zbg {ks : List Int} (h : ks.Nodup) (k : Int) : (wF ks k).Nodup := by
  unfold wF; split
  · exact h
  · rename_i hk
    rw [List.nodup_append]
    refine ⟨h, by simp, ?_⟩
    intro a ha b hb
    simp at hb; subst hb
    rintro rfl; exact hk ha
theorem jr (ks : List Int) (k x : Int) : x ∈ wF ks k ↔ x ∈ ks ∨ x = k := by
  unfold wF; split
  · rename_i h; exact ⟨.inl, fun h' => h'.elim id (fun e => e ▸ h)⟩
  · simp
theorem zdE : ∀ (l m : List Int), l.Nodup → (∀ x ∈ l, x ∈ m) → l.length ≤ m.length := by
  intro l_
  induction l_ with
  | nil =>
    intro m _ _
    simp
  | cons a l ih_ =>
    intro m nd h
    have ha := h a (by simp)
    have h1 := ih_ (m.erase a) (List.nodup_cons.mp nd).2 (fun x hx => by
      have hne : x ≠ a := by rintro rfl; exact (List.nodup_cons.mp nd).1 hx
      exact (List.mem_erase_of_ne hne).mpr (h x (by simp [hx])))
    rw [List.length_erase_of_mem ha] at h1
    have : 0 < m.length := List.length_pos_of_mem ha
    simp only [List.length_cons]
    lia
noncomputable def upTo (n : Nat) : List Int := (List.range (n + 1)).map fun i : Nat => (i : Int)
theorem ziu (n : Nat) (k : Int) : k ∈ upTo n ↔ 0 ≤ k ∧ k ≤ (n : Int) := by
  unfold upTo
  simp only [List.mem_map, List.mem_range]
  constructor
  · rintro ⟨i, hi, rfl⟩; exact ⟨(nnI _), lin (r2 _ _) V0 V1 [(1,1,V0,.add V1 N1)] rfl (ltI hi)⟩
  · intro h; exact ⟨k.toNat, by exact ltN (lit (r3 _ _ _) V0 (.add V1 N1) [(0,1,V2,V1),(2,1,V0,V2)] rfl h.2 (tnn (h.1))), by exact (tnn (h.1))⟩
theorem upTo_nodup (n : Nat) : (upTo n).Nodup := by
  unfold upTo
  rw [List.nodup_iff_pairwise_ne, List.pairwise_map]
  exact (List.nodup_range (n := n + 1)).imp (fun h e => h (by exact eqN (e)))
theorem wB (n : Nat) (ks : List Int) (nd : ks.Nodup) (h : ∀ k ∈ ks, 0 ≤ k ∧ k ≤ (n : Int)) : ks.length ≤ n + 1 := by
  have := zdE ks (upTo n) nd fun x hx => (ziu n x).mpr (h x hx)
  simpa [upTo] using this
theorem zbL (n : Nat) (ks : List Int) (h : ∀ k : Int, 0 ≤ k → k ≤ (n : Int) → k ∈ ks) : n + 1 ≤ ks.length := by
  have := zdE (upTo n) ks (upTo_nodup n) fun x hx => by have := (ziu n x).mp hx; exact h x this.1 this.2
  simpa [upTo] using this

structure zhT (m : Int) (rs : List (Int × Int)) (ks : List Int) : Prop where
  nd : ks.Nodup
  pit : m ∈ ks
  rng : ∀ k ∈ ks, 0 ≤ k ∧ k ≤ m
  reach : ∀ k ∈ ks, yD rs m k
theorem zhT.le {m rs ks} (h : zhT m rs ks) : (ks.length : Int) ≤ m + 1 := by
  have h0 := h.rng m h.pit
  have := wB m.toNat ks h.nd fun k hk => by have := h.rng k hk; exact ⟨this.1, lin (r3 _ _ _) V0 V1 [(0,1,V0,V2),(2,-1,V1,V2)] rfl this.2 (tnn (h0.1))⟩
  exact lin (r3 (↑(ks.length)) _ (↑(m.toNat))) V0 (.add V1 N1) [(0,1,V0,.add V2 N1),(2,1,V2,V1)] rfl (leI this) (tnn (h0.1))
noncomputable def zcn (rs : List (Int × Int)) (ks : List Int) : Prop := ∀ p ∈ rs, p.1 ∈ ks ↔ p.2 ∈ ks
theorem zcn.all {rs ks a b} (h : zcn rs ks) (ha : a ∈ ks) (r : yD rs a b) : b ∈ ks := by
  induction r with
  | refl => exact ha
  | fwd _ hm ih => exact (h _ hm).mp ih
  | bwd _ hm ih => exact (h _ hm).mpr ih

section
variable {T : TC} {d : Nat} {σ : zb} {Q : V → zb → Prop} {P : Nat → zb → Prop}
theorem zcJ (h : FnW T "come_to" 2 4 (zaK T)) {m : Int} {r : Addr} {rs : List (Int × Int)} (hm : 0 ≤ m) (hm' : m ≤ 10) (hr : z2 σ r rs) (hp : ∀ p ∈ rs, (0 ≤ p.1 ∧ p.1 ≤ m) ∧ (0 ≤ p.2 ∧ p.2 ≤ m))
    (hq : ∀ c σ' ks, Ext σ σ' → σ c = none → σ' c = some (.dict (dk ks)) → zhT m rs ks → zcn rs ks → Q (.ref c) σ') : zC T (d + 1) "come_to" [.int m, .ref r] σ Q P := by
  refine h d _ _ _ _ rfl ?_
  obtain ⟨vs, hr1, hr2⟩ := hr
  simp only [zaK, zE, qa, zab, ql, zv, qd, qg, qc, zf, zg, ze, zd, yI, zq, zp, zdf]
  intro f hf
  have e1 : Ext σ (put σ f (.dict [(m, .bool true)])) := Ext.refl.new hf _
  refine zeN (fun ρ σ' => X4 fun b o4 o5 ks => ρ = [some (.int m), some (.ref r), some (.ref f), some (.bool b), o4, o5] ∧ Ext σ σ' ∧ σ' f = some (.dict (dk ks)) ∧ zhT m rs ks ∧ (b = false → zcn rs ks))
    (fun ρ σ' => (match σ' f with | some (.dict kvs) => 2 * (12 - kvs.length) | _ => 0) + (match jW ρ 3 with | some (.bool true) => 1 | _ => 0)) ?_ ?_
  · exact ⟨true, none, none, [m], rfl, e1, zy _ _ _, ⟨by simp, by simp, by simp; assumption, by simp; exact .refl⟩, by simp⟩
  · intro ρ σ' n K' hI4a hn hK
    obtain ⟨b, o4, o5, ks, rfl, hcj⟩ := hI4a
    have e := hcj.1; have hd := hcj.2.1; have hc := hcj.2.2.1; have hcl := hcj.2.2.2; clear hcj
    simp only [zbF, zv, zf, zg, zm]
    cases b with
    | false =>
      exact hq f σ' ks e hf hd hc (hcl rfl)
    | true =>
      simp only [if_true, zE, qa, ql, zq, zp, j5, yk, zv, zf, zg, ze]
      refine qh (e _ _ hr1) ?_
      refine zU (fun i ρ σ'' => X4 fun b o4 o5 ks' => ρ = [some (.int m), some (.ref r), some (.ref f), some (.bool b), o4, o5] ∧ Ext σ σ'' ∧ σ'' f = some (.dict (dk ks')) ∧ zhT m rs ks' ∧ (b = false → ks' = ks ∧ ∀ j p, j < i → rs[j]? = some p → (p.1 ∈ ks ↔ p.2 ∈ ks)) ∧ (b = true → ks.length < ks'.length)) ?_ ?_ ?_
      · exact ⟨false, o4, o5, ks, rfl, e, hd, hc, fun _ => ⟨rfl, fun j p hj => by exact lif (r1 _) [(1,1,V0,N0),(0,1,N0,V0)] rfl (ltI hj) (nnI _)⟩, by simp⟩
      · intro i v ρ σ'' K'' hv hI6b hK''
        obtain ⟨b, o4, o5, ks', rfl, hcj⟩ := hI6b
        have e' := hcj.1; have hd' := hcj.2.1; have hc' := hcj.2.2.1; have hb0 := hcj.2.2.2.1; have hb1 := hcj.2.2.2.2; clear hcj
        obtain ⟨t, x, y, rfl, hrs, ht⟩ := hr2.get hv
        have hxy := hp _ (List.mem_of_getElem? hrs)
        refine ⟨.inl (e' _ _ hr1), ?_⟩
        simp only [yd, ze]
        refine zaE (e' _ _ ht) ?_
        refine ⟨rfl, ?_⟩
        simp only [yU, yT, zq, zp, qv, eqB_w, ziw, zv, zf, zg, zd, ze]
        refine qC hd' ?_
        refine qC hd' ?_
        simp only [wE, Bool.false_eq_true, if_false, zm, if_true]
        have hle := hc'.le
        have hlim : (dk ks').length < lim := by rw [yy]; unfold lim; exact ltN (lit (r2 _ _) V0 (.num 1000000) [(0,1,V1,.num 10),(0,1,V0,.add V1 N1)] rfl hm' hle)
        by_cases hxk : x ∈ ks' <;> by_cases hyk : y ∈ ks'
        · simp only [hxk, hyk, decide_true, bne_self_eq_false, Bool.false_eq_true, if_false, qx]
          refine hK'' .next _ _ ⟨b, _, _, ks', rfl, e', hd', hc', fun hb => ⟨(hb0 hb).1, fun j p hj hjp => ?_⟩, hb1⟩
          by_cases hji : j = i
          · subst hji; rw [hrs] at hjp; cases hjp; rw [← (hb0 hb).1]; simp [hxk, hyk]
          · exact (hb0 hb).2 j p (by exact ltN ((ww (lin (r2 _ _) V0 V1 [(1,1,V0,.add V1 N1)] rfl (ltI hj)) hji))) hjp
        · simp only [hxk, hyk, decide_true, decide_false, Bool.true_bne, Bool.not_false, if_true, zE, w7, ql, zv, zf, zg, ze, zd]
          refine Eq.mpr (qZ hd') ?_
          rw [wD]
          refine ⟨hlim, ?_⟩
          have e1 : wF ks' x = ks' := by simp [wF, hxk]
          rw [e1, qZ (zy _ _ _), wD]
          refine ⟨hlim, ?_⟩
          simp only [qa, ql, zq, zp]
          refine hK'' .next _ _ ⟨true, _, _, wF ks' y, rfl, (e'.put hf _).put hf _, zy _ _ _, ⟨zbg hc'.nd _, (jr ..).mpr (.inl hc'.pit), fun k hk => ?_, fun k hk => ?_⟩, by simp, fun _ => ?_⟩
          · rcases (jr ..).mp hk with hk | rfl
            · exact hc'.rng k hk
            · exact hxy.2
          · rcases (jr ..).mp hk with hk | rfl
            · exact hc'.reach k hk
            · exact .fwd (hc'.reach x hxk) (List.mem_of_getElem? hrs)
          · have : (wF ks' y).length = ks'.length + 1 := by simp [wF, hyk]
            cases b with
            | false => rw [this, (hb0 rfl).1]; exact Nat.le_refl _
            | true => have := hb1 rfl; exact ltN (lit (r3 _ _ _) V0 V1 [(2,-1,V1,.add V2 N1),(1,1,V0,V2)] rfl (eqI ‹_›) (ltI this))
        · simp only [hxk, hyk, decide_true, decide_false, Bool.false_bne, if_true, zE, w7, ql, zv, zf, zg, ze, zd]
          refine Eq.mpr (qZ hd') ?_
          rw [wD]
          refine ⟨hlim, ?_⟩
          have e1 : wF (wF ks' x) y = wF ks' x := by rw [wF, if_pos ((jr ..).mpr (.inl hyk))]
          have hlx : (wF ks' x).length = ks'.length + 1 := by simp [wF, hxk]
          refine Eq.mpr (qZ (zy _ _ _)) ?_
          rw [wD, e1]
          refine ⟨by rw [yy, hlx]; unfold lim; omega, ?_⟩
          simp only [qa, ql, zq, zp]
          refine hK'' .next _ _ ⟨true, _, _, wF ks' x, rfl, (e'.put hf _).put hf _, zy _ _ _, ⟨zbg hc'.nd _, (jr ..).mpr (.inl hc'.pit), fun k hk => ?_, fun k hk => ?_⟩, by simp, fun _ => ?_⟩
          · rcases (jr ..).mp hk with hk | rfl
            · exact hc'.rng k hk
            · exact hxy.1
          · rcases (jr ..).mp hk with hk | rfl
            · exact hc'.reach k hk
            · exact .bwd (hc'.reach y hyk) (List.mem_of_getElem? hrs)
          · cases b with
            | false => rw [hlx, (hb0 rfl).1]; exact Nat.le_refl _
            | true => have := hb1 rfl; exact ltN (lit (r3 (↑(ks.length)) (↑((wF ks' x).length)) (↑(ks'.length))) V0 V1 [(2,-1,V1,.add V2 N1),(1,1,V0,V2)] rfl (eqI hlx) (ltI this))
        · simp only [hxk, hyk, decide_false, bne_self_eq_false, Bool.false_eq_true, if_false, qx]
          refine hK'' .next _ _ ⟨b, _, _, ks', rfl, e', hd', hc', fun hb => ⟨(hb0 hb).1, fun j p hj hjp => ?_⟩, hb1⟩
          by_cases hji : j = i
          · subst hji; rw [hrs] at hjp; cases hjp; rw [← (hb0 hb).1]; simp [hxk, hyk]
          · exact (hb0 hb).2 j p (by exact ltN ((ww (lin (r2 _ _) V0 V1 [(1,1,V0,.add V1 N1)] rfl (ltI hj)) hji))) hjp
      · rintro ρ σ'' ⟨b, o4, o5, ks', rfl, hcj⟩
        have e' := hcj.1; have hd' := hcj.2.1; have hc' := hcj.2.2.1; have hb0 := hcj.2.2.2.1; have hb1 := hcj.2.2.2.2; clear hcj
        refine ⟨.inl (e' _ _ hr1), hK .next _ _ ⟨⟨b, o4, o5, ks', rfl, e', hd', hc', fun hb => ?_⟩, ?_⟩⟩
        · obtain ⟨rfl, h2⟩ := hb0 hb
          intro p hpm
          obtain ⟨j, hj, hjp⟩ := List.getElem_of_mem hpm
          exact h2 j p (by rw [hr2.length]; exact hj) (by rw [← hjp]; simp [hj])
        · rw [← hn, hd, hd']
          have h1 := hc.le; have h2 := hc'.le
          simp only [zf, zg, yy]
          cases b with
          | false => obtain ⟨rfl, _⟩ := hb0 rfl; simp
          | true => have := hb1 rfl; simp; lia
end
end Mine
end
section
open PySem
namespace Mine
section
variable {T : TC} {d : Nat} {σ : zb} {Q : V → zb → Prop} {P : Nat → zb → Prop}
structure NetFns (T : TC) : Prop where
  within : FnW T "is_within" 3 0 (qI T)
  road : FnW T "is_road" 2 0 (zaI T)
  come : FnW T "come_to" 2 4 (zaK T)
  need : FnW T "need_net" 2 1 (za9 T)

theorem Net.full {m rs ks} (n : Net m rs) (hc : zhT m rs ks) (hcl : zcn rs ks) : (ks.length : Int) = m + 1 := by
  have h1 := hc.le
  have h3 := n.m0
  have h2 := zbL m.toNat ks fun k h0 hk => by
    by_cases e : k = m
    · subst e; exact hc.pit
    · exact hcl.all hc.pit (n.conn k h0 (by exact (w9 (lin (r3 _ _ _) V0 V1 [(0,1,V0,V2),(2,1,V2,V1)] rfl hk (tnn (h3))) e)))
  have := n.m0
  exact Int.le_antisymm (h1) (lin (r3 _ (↑(ks.length)) (↑(m.toNat))) (.add V0 N1) V1 [(0,1,.add V2 N1,V1),(2,-1,V2,V0)] rfl (leI h2) (tnn (h3)))

theorem zap (h : NetFns T) {m : Int} {r : Addr} {rs : List (Int × Int)} (n : Net m rs) (hr : z2 σ r rs) (hq : ∀ σ', Ext σ σ' → Q .none σ') : zC T (d + 3) "need_net" [.int m, .ref r] σ Q P := by
  refine h.need (d + 2) _ _ _ _ rfl ?_
  obtain ⟨vs, hr1, hr2⟩ := id hr
  simp only [za9, zE, qv, zdp, wv, zbF, z5, zK, z4, ql, zv, qd, qg, qc, zf, zg]
  refine jK (d := d + 1) h.within ?_
  have hm0 := n.m0; have hm10 := n.m10
  simp only [hm0, hm10, and_self, decide_true, zm, Bool.not_true, Bool.false_eq_true, if_false, zbn, zv, zf, zg, isi, hr1, qy, qu, ze, ql]
  refine zW hr1 ?_
  have hlen := n.len
  simp only [zd, Cmp.run, hr2.length]
  have : ¬ ((rs.length : Int) > 40) := by exact (fun h_ => lif (r1 _) [(0,1,V0,.num 40),(1,1,.num 40,V0)] rfl (leI hlen) h_)
  simp only [this, decide_false, zm, Bool.false_eq_true, if_false, qx, zeo, jT, yk, zv, zf, zg, ze]
  refine qh hr1 ?_
  refine ⟨by rw [hr2.length]; unfold lim; exact leN (lin (r1 _) V0 (.num 1000000) [(0,1,V0,.num 40)] rfl (leI hlen)), ?_⟩
  refine qE (fun i acc σ' => acc = List.replicate i (.bool true) ∧ σ' = σ) ⟨rfl, rfl⟩ ?_ ?_
  · rintro i v acc σ' K' hv ⟨rfl, rfl⟩ hK
    obtain ⟨t, x, y, rfl, hrs, ht⟩ := hr2.get hv
    have he := n.ends _ (List.mem_of_getElem? hrs)
    refine ⟨.inl hr1, ?_⟩
    refine zg0 (d := d) h.within h.road ht ?_
    have he1 := he.1; have he2 := he.2.1; have he3 := he.2.2
    refine hK _ _ ⟨?_, rfl⟩
    simp only [he1, he2, and_self, decide_true, Bool.true_and, ne_eq, he3, not_false_eq_true]
    rw [List.replicate_succ']
  · rintro acc σ' ⟨rfl, rfl⟩
    refine ⟨.inl hr1, fun c hc => ?_⟩
    refine zH (zy _ _ _) ?_
    have e1 : Ext σ' (put σ' c (.list (List.replicate vs.length (.bool true)))) := Ext.refl.new hc _
    refine ⟨List.replicate vs.length true, by simp, ?_⟩
    have : (List.replicate vs.length true).all id = true := by simp
    simp only [this, zm, Bool.not_true, Bool.false_eq_true, if_false, qy, qu, z5, zK, z4, qV, ql, zv, zf, zg, zd]
    refine (zcJ (d := d + 1) h.come hm0 hm10 (hr.ext e1) (fun p hp => ⟨(n.ends p hp).1, (n.ends p hp).2.1⟩) fun f σ'' ks e2 hf hfd hco hcl => ?_)
    simp only [ze]
    refine zaX hfd ?_
    have hfull := n.full hco hcl
    simp only [yy, zd, Cmp.run, hfull, bne_self_eq_false, zm, Bool.false_eq_true, if_false, qx]
    exact hq σ'' (e1.trans e2)

end
end Mine
end
section
open PySem
namespace Mine
noncomputable def yK (σ : zb) (a : Addr) (ns : List Int) : Prop := σ a = some (.ro (zs ns)) ∧ ns.length ≤ 63
theorem yK.ext {σ σ' a ns} (h : yK σ a ns) (e : Ext σ σ') : yK σ' a ns := ⟨e _ _ h.1, h.2⟩
noncomputable def mix1 (x k : Int) : Int := (x * 48271 + k * 104729).fmod 2147483647
noncomputable def mix2 (x k : Int) : Int := (x * x + 48271 * k).fmod 2147483629
noncomputable def js (ns : List Int) (k : Int) : Int := if k < ns.length then ns.getD k.toNat 0 else if ns = [] then 0 else mix2 (mix1 (ns.getD (k.fmod ns.length).toNat 0) k) k
noncomputable def mixedF (c k : Int) : Int := let x := (c * 48271 + (k + 1) * 7919 * (c.fmod 9973 + 7)).fmod 2147483647; (x * x + 69621 * k).fmod 2147483629
noncomputable def jf (n m s : Int) : Int := if n = m then m else if (s.fdiv 16).fmod 2 = 1 then m - 1 - (n + s).fmod m else (n + s).fmod m

theorem zaz {a b : Int} (h1 : -(2 ^ 64) < b) (h2 : b < 2 ^ 64) : IntMulOk a b := .of_right (intBits_le_64 h1 h2)
theorem zdq {a b : Int} (h1 : -(2 ^ 64) < a) (h2 : a < 2 ^ 64) : IntMulOk a b := .of_left (intBits_le_64 h1 h2)
theorem zew {x y : Int} (h : y.natAbs < 1073741824) : Builtin.divisionGoesByPylong x y = false := PyProof.noPylong_small h
section
variable {T : TC} {d : Nat} {σ : zb} {Q : V → zb → Prop} {P : Nat → zb → Prop}
theorem zb3 (h : FnW T "_law_whole" 1 0 (qH T)) {i : Int} (hq : Q (.bool true) σ) : zC T (d + 1) "_law_whole" [.int i] σ Q P := by
  refine h d _ _ _ _ rfl ?_
  simpa [qH, isi] using hq
theorem yK.rd {σ a ns} (h : yK σ a ns) : Rd σ (.ref a) (.list (ns.map .int)) := .ro h.1 (zdb σ ns)
theorem qm (h : FnW T "_law_cell_at" 2 1 (jd T)) {ns : List Int} {s : Addr} {k : Int} (hs : yK σ s ns) (h0 : 0 ≤ k) (hk : k < 2 ^ 30) (hq : ∀ σ', Ext σ σ' → Q (.int (js ns k)) σ') : zC T (d + 1) "_law_cell_at" [.ref s, .int k] σ Q P := by
  refine h d _ _ _ _ rfl ?_
  simp only [jd, seqW_P, iteS_P, cmpI_P, lenW_P, ze6, env0_cP, env0_sP, env0_zP, zaA, zaB, zfz]
  refine asLen_ri hs.1 ?_
  simp only [jz, Cmp.run, ya, zQ]
  by_cases h1 : k < (ns.length : Int)
  · refine qK (decide_eq_true h1) ?_
    refine ⟨h0, ?_⟩
    have hlt : k.toNat < ns.length := by exact ltN (lit (r3 _ _ _) V0 V1 [(1,1,V2,V1),(2,1,V0,V2)] rfl h1 (tnn (h0)))
    rw [asSeq_ro hs.1, yc (zaN (n := ns.getD k.toNat 0) (by simp [List.getD, hlt]))]
    have := hq σ .refl
    simpa only [js, h1, if_true] using this
  · refine je (decide_eq_false h1) ?_
    refine ⟨by first | exact Nat.le_of_ble_eq_true rfl | simp [lim], fun c hc => ?_⟩
    have e1 : Ext σ (put σ c (.list [])) := Ext.refl.new hc _
    have hs1 := hs.ext e1
    have hemp : q0 (put σ c (.list [])) c [] := zy _ _ _
    refine ⟨_, _, hs1.rd, hemp.rd, zal _, zal _, ?_⟩
    have eqv : PyData.eqv (.list (ns.map .int)) (.list (([] : List Int).map .int)) = decide (ns = []) := by simp only [PyData.eqv]; exact zbE ns []
    rw [eqv]
    by_cases h2 : ns = []
    · simp only [h2, decide_true, Bool.false_eq_true, if_false, ya, if_true, retW_P, zeR]
      have := hq _ e1
      simp only [js, h2] at this
      simpa using this
    · have hpos : 0 < ns.length := List.length_pos_iff.mpr h2
      simp only [h2, decide_false, Bool.false_eq_true, if_false, ya, zha, zhN, zf3, qV, zhG, subW_P, lenW_P, zeR, ze6, zaA, zaB, zfz, jz]
      refine asLen_ri hs1.1 ?_
      simp only [jz, zQ]
      have hn0 : (ns.length : Int) ≠ 0 := by exact (fun h_ => lif (r1 _) [(1,1,N0,V0),(2,1,V0,N0)] rfl (ltI hpos) h_)
      have hm0 := Int.fmod_nonneg_of_pos k (b := (ns.length : Int)) (by exact Int.ofNat_lt.mpr ‹_›)
      have hm1 := Int.fmod_lt_of_pos k (b := (ns.length : Int)) (by exact Int.ofNat_lt.mpr ‹_›)
      refine ⟨hn0, hm0, ?_⟩
      rw [asSeq_ro hs1.1, yc (zaN (n := ns.getD (k.fmod ns.length).toNat 0) (by
        have : (k.fmod ns.length).toNat < ns.length := by lia
        simp [List.getD, this]))]
      refine ⟨zaz (by exact nnI _) (by exact nnI _), zaz (by exact nnI _) (by exact nnI _), by decide, ?_⟩
      simp only [ze1, ze0, retW_P, zf3, qV, zhG, zeR, ze6, zaA, zaB, jz]
      have a0 := Int.fmod_nonneg_of_pos (ns.getD (k.fmod ns.length).toNat 0 * 48271 + k * 104729) (b := 2147483647) (by exact nnI _)
      have a1 := Int.fmod_lt_of_pos (ns.getD (k.fmod ns.length).toNat 0 * 48271 + k * 104729) (b := 2147483647) (by exact nnI _)
      refine ⟨zaz (by exact lit (r1 _) (.neg (.num 18446744073709551616)) V0 [(0,1,N0,V0)] rfl a0) (by exact lit (r1 _) V0 (.num 18446744073709551616) [(1,1,V0,.num 2147483647)] rfl a1), zdq (by exact nnI _) (by exact nnI _), by decide, ?_⟩
      have := hq _ e1
      simp only [js, h1, h2, if_false] at this
      exact this
theorem mixed_spec (h : FnW T "_law_mixed" 2 1 (wp T)) {c k : Int} (h0 : 0 ≤ k) (hk : k < 2 ^ 20) (hq : Q (.int (mixedF c k)) σ) : zC T (d + 1) "_law_mixed" [.int c, .int k] σ Q P := by
  refine h d _ _ _ _ rfl ?_
  simp only [wp, seqW_P, zhN, zf3, qV, zhG, ze6, zeR, env0_cP, env0_sP, env0_zP, zaA, zaB, jz]
  have a0 := Int.fmod_nonneg_of_pos c (b := 9973) (by exact nnI _)
  have a1 := Int.fmod_lt_of_pos c (b := 9973) (by exact nnI _)
  refine ⟨zaz (by exact nnI _) (by exact nnI _), zaz (by exact nnI _) (by exact nnI _), by decide, zaz (by exact lit (r1 _) (.neg (.num 18446744073709551616)) (.add V0 (.num 7)) [(0,1,N0,V0)] rfl a0) (by exact lit (r1 _) (.add V0 (.num 7)) (.num 18446744073709551616) [(1,1,V0,.num 9973)] rfl a1), by decide, ?_⟩
  simp only [ze1, ze0, retW_P, zf3, qV, zhG, zeR, ze6, zaA, zaB, jz]
  have b0 := Int.fmod_nonneg_of_pos (c * 48271 + (k + 1) * 7919 * (c.fmod 9973 + 7)) (b := 2147483647) (by exact nnI _)
  have b1 := Int.fmod_lt_of_pos (c * 48271 + (k + 1) * 7919 * (c.fmod 9973 + 7)) (b := 2147483647) (by exact nnI _)
  exact ⟨zaz (by exact lit (r1 _) (.neg (.num 18446744073709551616)) V0 [(0,1,N0,V0)] rfl b0) (by exact lit (r1 _) V0 (.num 18446744073709551616) [(1,1,V0,.num 2147483647)] rfl b1), zdq (by exact nnI _) (by exact nnI _), by decide, hq⟩
theorem zdT (h : FnW T "_law_turned" 3 0 (yG T)) {n m s : Int} (hm : n ≠ m → 0 < m) (hq : Q (.int (jf n m s)) σ) : zC T (d + 1) "_law_turned" [.int n, .int m, .int s] σ Q P := by
  refine h d _ _ _ _ rfl ?_
  simp only [yG, zE, qv, qy, zv, qd, qc, zf, zg, zd, zm, Cmp.run]
  by_cases h1 : n = m
  · simp only [h1, beq_self_eq_true, if_true, yn, zv, zf, zg]
    simpa [jf, h1] using hq
  · have hm' := hm h1
    have hb : (n == m) = false := by simpa using h1
    simp only [hb, Bool.false_eq_true, if_false, qx, yo, wx, zv, ql, zf, zg, zd]
    refine ⟨⟨by decide, zew (by decide)⟩, by decide, ?_⟩
    by_cases h2 : (s.fdiv 16).fmod 2 = 1
    · simp only [h2, beq_self_eq_true, if_true, yn, zak, yo, qV, zv, ql, zf, zg, zd]
      refine ⟨by exact Mine.jB ‹_›, ?_⟩
      simpa [jf, h1, h2] using hq
    · have hb2 : ((s.fdiv 16).fmod 2 == 1) = false := by simpa using h2
      simp only [hb2, Bool.false_eq_true, if_false, qx, yn, yo, qV, zv, zf, zg, zd]
      refine ⟨by exact Mine.jB ‹_›, ?_⟩
      simpa [jf, h1, h2] using hq

theorem zdt (h : FnW T "_law_degrees" 2 4 (jA T)) {m : Int} {r : Addr} {rs : List (Int × Int)} (hm : 0 ≤ m) (hm' : m ≤ 10) (hr : z2 σ r rs) (hp : ∀ p ∈ rs, 0 ≤ p.1 ∧ 0 ≤ p.2)
    (hq : ∀ c σ', Ext σ σ' → σ c = none → q0 σ' c (degs m rs) → Q (.ref c) σ') : zC T (d + 1) "_law_degrees" [.int m, .ref r] σ Q P := by
  refine h d _ _ _ _ rfl ?_
  obtain ⟨vs, hr1, hr2⟩ := hr
  simp only [jA, zE, qa, zhF, jC, zK, ql, z4, zv, qd, qg, qc, zf, zg, ze, zd, yI, List.length_cons, List.length_nil]
  refine ⟨by first | exact Nat.le_of_ble_eq_true rfl | simp [lim], fun c hc => ?_⟩
  refine zH (zy _ _ _) ?_
  refine ⟨by exact lit (r1 _) V0 (.num 4611686018427387904) [(0,1,V0,.num 10)] rfl hm', by exact lin (r1 _) (.neg (.num 4611686018427387904)) V0 [(0,1,N0,V0)] rfl hm, by simp [lim]; exact lin (r1 _) V0 (.num 1000000) [(0,1,V0,.num 10)] rfl hm', fun f hf => ?_⟩
  have e1 : Ext σ (put σ c (.list [.int 0])) := Ext.refl.new hc _
  have hfn := e1.none hf
  simp only [zq, zp, j5, yk, zv, zf, zg, ze]
  have e2 := e1.new hf (.list (List.replicate m.toNat [.int 0]).flatten)
  refine qh (e2 _ _ hr1) ?_
  refine zU (fun i ρ σ' => X3 fun o3 o4 o5 => ρ = [some (.int m), some (.ref r), some (.ref f), o3, o4, o5] ∧ Ext σ σ' ∧ q0 σ' f (zbM m (List.replicate m.toNat 0) (rs.take i))) ?_ ?_ ?_
  · refine ⟨none, none, none, rfl, e2, ?_⟩
    show put _ f _ f = _
    rw [zy]; simp [zbM, zs]
  · intro i v ρ σ' K' hv hI6a hK
    obtain ⟨o3, o4, o5, rfl, hcj⟩ := hI6a
    have e := hcj.1; have hi := hcj.2; clear hcj
    obtain ⟨t, a, b, rfl, hrs, ht⟩ := hr2.get hv
    have hab := hp _ (List.mem_of_getElem? hrs)
    refine ⟨.inl (e _ _ hr1), ?_⟩
    refine zaE (e _ _ ht) ?_
    refine ⟨rfl, ?_⟩
    simp only [yU, yT, zq, zp, j5, yk, jC, zK, z4, zv, zf, zg, List.length_cons, List.length_nil, yI]
    refine ⟨by first | exact Nat.le_of_ble_eq_true rfl | simp [lim], fun l hl => ?_⟩
    simp only [ze]
    have e' := e.new hl (.list [.int a, .int b])
    have hlf : l ≠ f := by rintro rfl; rw [hi] at hl; cases hl
    have hln := e.none hl
    refine qh (zy _ _ _) ?_
    refine zU (fun j ρ σ'' => ∃ o5, ρ = [some (.int m), some (.ref r), some (.ref f), some (.int a), some (.int b), o5] ∧ Ext σ σ'' ∧ σ'' l = some (.list [.int a, .int b]) ∧ q0 σ'' f (([a, b].take j).foldl (zaD m) (zbM m (List.replicate m.toNat 0) (rs.take i)))) ⟨o5, rfl, e', zy _ _ _, ?_⟩ ?_ ?_
    · show put _ l _ f = _
      rw [zS _ (Ne.symm hlf)]; exact hi
    · intro j v ρ σ'' K'' hv' hI6b hK'
      obtain ⟨o5, rfl, hcj⟩ := hI6b
      have e' := hcj.1; have hl' := hcj.2.1; have hi' := hcj.2.2; clear hcj
      refine ⟨.inl hl', ?_⟩
      have hv2 : ∃ x, [a, b][j]? = some x ∧ v = .int x ∧ 0 ≤ x := by
        match j with
        | 0 => simp at hv'; exact ⟨a, rfl, hv'.symm, hab.1⟩
        | 1 => simp at hv'; exact ⟨b, rfl, hv'.symm, hab.2⟩
        | j + 2 => simp at hv'
      obtain ⟨x, hx, rfl, hx0⟩ := hv2
      have hnext : ([a, b].take (j + 1)).foldl (zaD m) (zbM m (List.replicate m.toNat 0) (rs.take i)) = zaD m (([a, b].take j).foldl (zaD m) (zbM m (List.replicate m.toNat 0) (rs.take i))) x := by
        rw [List.take_add_one, hx]; simp
      generalize hF : ([a, b].take j).foldl (zaD m) (zbM m (List.replicate m.toNat 0) (rs.take i)) = F at *
      have hFl : F.length = m.toNat := by
        rw [← hF]
        have : ∀ (l : List Int) (f : List Int), (l.foldl (zaD m) f).length = f.length := by
          intro l; induction l with
          | nil => intro f; rfl
          | cons y l ih => intro f; rw [List.foldl_cons, ih, zfP]
        rw [this, cnts_len]; simp
      simp only [qB, zq, zp, qv, qy, zv, zf, zg, zd, zm, Cmp.run, qx]
      by_cases hlt : x < m
      · simp only [hlt, decide_true, if_true, w7, qV, qG, zv, zf, zg, ql, ze, zd]
        have hxl : x.toNat < F.length := by exact ltN (lit (r5 _ _ _ _ _) V0 V1 [(2,-1,V1,V2),(1,1,V3,V4),(2,1,V0,V3),(2,-1,V2,V4)] rfl (eqI hFl) hlt (tnn (hx0)) (tnn (hm)))
        refine ⟨hx0, ?_⟩
        refine ji hi' (zaV (zaN (n := F.getD x.toNat 0) (by simp [List.getD, hxl])) ?_)
        refine Eq.mpr (zad hi') ?_
        rw [zQ]
        refine ⟨hx0, by exact lit (r3 _ _ _) V0 V1 [(1,1,V2,V1),(2,-1,V2,V0)] rfl (ltI hxl) (tnn (hx0)), hK' .next _ _ ⟨_, rfl, e'.put hfn _, by rw [zS _ hlf]; exact hl', ?_⟩⟩
        rw [hnext]
        show put _ f _ f = _
        rw [zy, zs_set]; simp [zaD, hlt]
      · refine je (decide_eq_false hlt) ?_
        exact hK' .next _ _ ⟨_, rfl, e', hl', by rw [hnext]; simpa [zaD, hlt] using hi'⟩
    · rintro ρ σ'' ⟨o5, rfl, hcj⟩
      have e' := hcj.1; have hl' := hcj.2.1; have hi' := hcj.2.2; clear hcj
      refine ⟨.inl hl', hK .next _ _ ⟨_, _, _, rfl, e', ?_⟩⟩
      rw [zbx m _ rs i _ hrs]
      simpa using hi'
  · rintro ρ σ' ⟨o3, o4, o5, rfl, hcj⟩
    have e := hcj.1; have hi := hcj.2; clear hcj
    refine ⟨.inl (e _ _ hr1), ?_⟩
    refine hq f σ' e hfn ?_
    rw [hr2.length, List.take_length] at hi
    exact hi
end
end Mine
end
section
open PySem
namespace Mine
theorem yD.mono {rs qs a b} (h : yD rs a b) (hs : ∀ p ∈ rs, p ∈ qs) : yD qs a b := by
  induction h with
  | refl => exact .refl
  | fwd _ hm ih => exact .fwd ih (hs _ hm)
  | bwd _ hm ih => exact .bwd ih (hs _ hm)
theorem yD.map {rs qs a b} (τ : Int → Int) (h : yD rs a b) (hs : ∀ p ∈ rs, (τ p.1, τ p.2) ∈ qs ∨ (τ p.2, τ p.1) ∈ qs) : yD qs (τ a) (τ b) := by
  induction h with
  | refl => exact .refl
  | fwd _ hm ih => rcases hs _ hm with h | h
                   · exact .fwd ih h
                   · exact .bwd ih h
  | bwd _ hm ih => rcases hs _ hm with h | h
                   · exact .bwd ih h
                   · exact .fwd ih h
noncomputable def Okr (m : Int) (p : Int × Int) : Prop := (0 ≤ p.1 ∧ p.1 ≤ m) ∧ (0 ≤ p.2 ∧ p.2 ≤ m) ∧ p.1 ≠ p.2

theorem add_inj {a b s m : Int} (h0 : 0 ≤ a) (h1 : a < m) (h2 : 0 ≤ b) (h3 : b < m) (h : (a + s) % m = (b + s) % m) : a = b := by
  have h4 : (a - b) % m = 0 := by
    have h5 : ((a + s) - (b + s)) % m = 0 := by rw [Int.sub_emod, h]; simp
    have e : (a + s) - (b + s) = a - b := by exact liq (r3 _ _ _) (.sub (.add V0 V1) (.add V2 V1)) (.sub V0 V2) [] rfl
    rwa [e] at h5
  obtain ⟨k, hk⟩ := Int.dvd_of_emod_eq_zero h4
  have : k = 0 := by
    rcases Int.lt_trichotomy k 0 with h | h | h
    · have : m * k ≤ m * (-1) := Int.mul_le_mul_of_nonneg_left (by exact lin (r1 _) V0 (.neg N1) [(1,1,V0,N0)] rfl h) (by exact lin (r2 _ _) N0 V0 [(0,1,N0,V1),(1,1,V1,V0)] rfl h2 h3)
      exact lif (r4 _ _ _ _) [(0,1,N0,V0),(1,1,V1,V2),(2,1,.sub V0 V1,V3),(0,1,V3,.mulR V2 (-1))] rfl h0 h3 hk this
    · exact h
    · have : m * 1 ≤ m * k := Int.mul_le_mul_of_nonneg_left ‹_› (by exact lin (r2 _ _) N0 V0 [(0,1,N0,V1),(1,1,V1,V0)] rfl h2 h3)
      exact lif (r4 _ _ _ _) [(1,1,V0,V1),(0,1,N0,V2),(2,-1,.sub V0 V2,V3),(0,1,.mulR V1 1,V3)] rfl h1 h2 hk this
  subst this; exact liq (r3 _ _ _) V0 V1 [(2,1,.sub V0 V1,.mulR V2 0)] rfl hk
theorem zc2 (m s : Int) : jf m m s = m := by simp [jf]
theorem zg8 {n m s : Int} (h0 : 0 ≤ n) (h : n < m) : 0 ≤ jf n m s ∧ jf n m s < m := by
  have hne : n ≠ m := by exact (fun h_ => lif (r2 _ _) [(1,1,V0,V1),(2,-1,V0,V1)] rfl h h_)
  have a := Int.fmod_nonneg_of_pos (n + s) (b := m) (by exact lit (r2 _ _) N0 V0 [(0,1,N0,V1),(1,1,V1,V0)] rfl h0 h)
  have b := Int.fmod_lt_of_pos (n + s) (b := m) (by exact lit (r2 _ _) N0 V0 [(0,1,N0,V1),(1,1,V1,V0)] rfl h0 h)
  unfold jf
  rw [if_neg hne]
  split <;> (first | exact ⟨lin (r2 _ _) N0 (.sub (.sub V0 N1) V1) [(1,1,V1,V0)] rfl b, lit (r2 _ _) (.sub (.sub V0 N1) V1) V0 [(0,1,N0,V1)] rfl a⟩ | exact ⟨a, b⟩)
theorem zih {n m s : Int} (h0 : 0 ≤ n) (h : n ≤ m) : 0 ≤ jf n m s ∧ jf n m s ≤ m := by
  by_cases e : n = m
  · subst e; rw [zc2]; exact ⟨h0, lin (r1 _) V0 V0 [] rfl⟩
  · have := zg8 (s := s) h0 (by exact (w9 (h) e) : n < m); exact ⟨this.1, lin (r2 _ _) V0 V1 [(1,1,V0,V1)] rfl this.2⟩
theorem turn_inj {a b m s : Int} (ha : 0 ≤ a ∧ a ≤ m) (hb : 0 ≤ b ∧ b ≤ m) (h : jf a m s = jf b m s) : a = b := by
  by_cases ea : a = m
  · by_cases eb : b = m
    · exact liq (r3 _ _ _) V0 V1 [(2,1,V0,V2),(2,-1,V1,V2)] rfl ea eb
    · have := zg8 (s := s) hb.1 (by exact (w9 (hb.2) eb) : b < m); rw [ea, zc2] at h; exact lif (r2 _ _) [(2,1,V0,V1),(1,1,V1,V0)] rfl h this.2
  · by_cases eb : b = m
    · have := zg8 (s := s) ha.1 (by exact (w9 (ha.2) ea) : a < m); rw [eb, zc2] at h; exact lif (r2 _ _) [(2,-1,V0,V1),(1,1,V0,V1)] rfl h this.2
    · unfold jf at h
      rw [if_neg ea, if_neg eb] at h
      rw [Int.fmod_eq_emod_of_nonneg _ (by exact lin (r2 _ _) N0 V0 [(0,1,N0,V1),(0,1,V1,V0)] rfl ha.1 ha.2 : 0 ≤ m), Int.fmod_eq_emod_of_nonneg _ (by exact lin (r2 _ _) N0 V0 [(0,1,N0,V1),(0,1,V1,V0)] rfl ha.1 ha.2 : 0 ≤ m)] at h
      refine add_inj (m := m) (s := s) ha.1 (by exact (w9 (ha.2) ea)) hb.1 (by exact (w9 (hb.2) eb)) ?_
      split at h <;> (first | assumption | exact liq (r3 _ _ _) V0 V1 [(2,-1,.sub (.sub V2 N1) V0,.sub (.sub V2 N1) V1)] rfl h)
theorem turn_surj {k m : Int} (s : Int) (h0 : 0 ≤ k) (h : k < m) : ∃ j, 0 ≤ j ∧ j < m ∧ jf j m s = k := by
  have hm : 0 < m := by exact Int.lt_of_le_of_lt ‹_› ‹_›
  have hm' : 0 ≤ m := by exact Int.le_of_lt ‹_›
  have key : ∀ x, 0 ≤ x → x < m → ((x - s) % m + s) % m = x := fun x hx hx' => by
    have := Int.emod_emod_of_dvd (x - s + s) (Int.dvd_refl m)
    rw [Int.emod_add_emod]
    have e : x - s + s = x := by exact liq (r2 _ _) (.add (.sub V0 V1) V1) V0 [] rfl
    rw [e]
    exact Int.emod_eq_of_lt hx hx'
  by_cases hs : (s.fdiv 16).fmod 2 = 1
  · refine ⟨(m - 1 - k - s) % m, Int.emod_nonneg _ (by exact Mine.jB ‹_›), Int.emod_lt_of_pos _ hm, ?_⟩
    have hne : (m - 1 - k - s) % m ≠ m := by have := Int.emod_lt_of_pos (m - 1 - k - s) hm; exact (fun h_ => lif (r2 _ _) [(1,1,V0,V1),(2,-1,V0,V1)] rfl this h_)
    unfold jf
    rw [if_neg hne, if_pos hs, Int.fmod_eq_emod_of_nonneg _ hm', key (m - 1 - k) (by exact lin (r2 _ _) N0 (.sub (.sub V0 N1) V1) [(1,1,V1,V0)] rfl h) (by exact lit (r2 _ _) (.sub (.sub V0 N1) V1) V0 [(0,1,N0,V1)] rfl h0)]
    exact liq (r2 _ _) (.sub (.sub V0 N1) (.sub (.sub V0 N1) V1)) V1 [] rfl
  · refine ⟨(k - s) % m, Int.emod_nonneg _ (by exact Mine.jB ‹_›), Int.emod_lt_of_pos _ hm, ?_⟩
    have hne : (k - s) % m ≠ m := by have := Int.emod_lt_of_pos (k - s) hm; exact (fun h_ => lif (r2 _ _) [(1,1,V0,V1),(2,-1,V0,V1)] rfl this h_)
    unfold jf
    rw [if_neg hne, if_neg hs, Int.fmod_eq_emod_of_nonneg _ hm', key k h0 h]

structure zcY (T : TC) : Prop where
  cell : FnW T "_law_cell_at" 2 1 (jd T)
  mixed : FnW T "_law_mixed" 2 1 (wp T)
  turned : FnW T "_law_turned" 3 0 (yG T)
  net : FnW T "_law_net" 2 14 (zbP T)
  degs : FnW T "_law_degrees" 2 4 (jA T)

theorem z2.push {σ : zb} {g t : Addr} {vs rs a b} (h1 : σ g = some (.list vs)) (h2 : Prs σ vs rs) (ht : σ t = some (.tup [.int a, .int b])) : z2 (put σ g (.list (vs ++ [.ref t]))) g (rs ++ [(a, b)]) := by
  refine ⟨_, zy _ _ _, ?_⟩
  have hne : ∀ {t a b}, σ t = some (.tup [.int a, .int b]) → put σ g (.list (vs ++ [.ref t])) t = some (.tup [.int a, .int b]) := by
    intro t a b h
    rw [zS _ (by rintro rfl; rw [h1] at h; cases h)]; exact h
  have hmono : ∀ {us qs} (o : O), Prs σ us qs → Prs (put σ g o) us qs := by
    intro us qs o h
    induction h with
    | nil => exact .nil
    | cons h _ ih => exact .cons (by rw [zS _ (by rintro rfl; rw [h1] at h; cases h)]; exact h) ih
  refine (hmono _ h2).append (.cons ?_ .nil)
  rw [zS _ (by rintro rfl; rw [h1] at ht; cases ht)]; exact ht

theorem Prs.keep {σ : zb} {g : Addr} {xs : List V} {o : O} {us qs} (h : Prs σ us qs) (h1 : σ g = some (.list xs)) : Prs (put σ g o) us qs := by
  induction h with
  | nil => exact .nil
  | cons h _ ih => exact .cons (by rw [zS _ (by rintro rfl; rw [h1] at h; cases h)]; exact h) ih

theorem zca {α : Type} (l : List α) (n : Nat) : (l.drop n).length + (l.take n).length = l.length := by
  rw [Nat.add_comm, ← List.length_append, List.take_append_drop]
section
variable {T : TC} {d : Nat} {σ : zb} {K : Out → zP → zb → Prop} {P : Nat → zb → Prop}
theorem net_5 (h : zcY T) {s g : Addr} {ns : List Int} {L first m : Int} {line : Bool} {rs : List (Int × Int)} {o6 o7 o8 o9 o10 o11 o12 o13 o14 o15 : Option V} (hs : yK σ s ns) (hg : z2 σ g rs) (hm : 0 ≤ m) (hm' : m ≤ 10) (hl : rs.length ≤ 40) (hok : ∀ p ∈ rs, Okr m p)
    (hre : ∀ k, 0 ≤ k → k < m → yD rs m k)
    (hq : ∀ t c σ' qs ρ, Ext σ σ' → σ' t = some (.tup [.int m, .ref c]) → z2 σ' c qs → Net m qs → σ c = none → K (.ret (.ref t)) ρ σ') :
    zdP T (d + 1) [some (.ref s), some (.int L), some (.int first), some (.int m), some (.bool line), some (.ref g), o6, o7, o8, o9, o10, o11, o12, o13, o14, o15] σ K P := by
  refine qm h.cell hs (by exact nnI _) (by exact nnI _) fun σ₁ e1 => ?_
  simp only [zd, zp, zq, zv, zf, zg, z5, zK, z4, ql]
  refine ⟨by decide, ?_⟩
  refine qm h.cell (hs.ext e1) (by exact nnI _) (by exact nnI _) fun σ₂ e2 => ?_
  have e12 := e1.trans e2
  obtain ⟨vs, hg1, hg2⟩ := hg.ext e12
  simp only [zd, qV, qu, zv, ql, zf, zg, ze]
  refine zW hg1 ?_
  simp only [zd, hg2.length, jC, z4, List.length_nil, zp, zq]
  refine ⟨by exact (fun h_ => lif (r1 _) [(2,1,.add V0 N1,N0),(0,1,N0,V0)] rfl h_ (nnI _)), by simp [lim], zi fun f σ₃ hf e3 hfv => ?_⟩
  generalize hsh : (js ns 17).fmod 32 = sh
  have a0 := Int.fmod_nonneg_of_pos (js ns 18) (b := (rs.length : Int) + 1) (by exact lit (r1 _) N0 (.add V0 N1) [(0,1,N0,V0)] rfl (nnI _))
  have a1 := Int.fmod_lt_of_pos (js ns 18) (b := (rs.length : Int) + 1) (by exact lit (r1 _) N0 (.add V0 N1) [(0,1,N0,V0)] rfl (nnI _))
  generalize (js ns 18).fmod ((rs.length : Int) + 1) = at' at a0 a1
  refine ⟨a0, ?_⟩
  refine jt (e3 _ _ hg1) ?_
  refine zi fun c1 σ₄ hc1 e4 hv1 => ⟨a0, ?_⟩
  refine jt (e4 _ _ (e3 _ _ hg1)) ?_
  refine zi fun c2 σ₅ hc2 e5 hv2 => ?_
  refine zH (e5 _ _ hv1) (zH hv2 ?_)
  have hvl := hg2.length
  refine ⟨by rw [zca]; exact Nat.le_trans (hvl ▸ hl) (by decide), zi fun c3 σ₆ hc3 e6 hv3 => ?_⟩
  simp only [ze]
  refine qh hv3 ?_
  have x6 := ((e12.trans e3).trans e4).trans (e5.trans e6)
  have y6 : Ext σ₂ σ₆ := (e3.trans e4).trans (e5.trans e6)
  have hfs : σ f = none := e12.none hf
  have hff := e6 _ _ (e5 _ _ (e4 _ _ hfv))
  have hc3s : σ c3 = none := (((e12.trans e3).trans e4).trans e5).none hc3
  have hc3f : c3 ≠ f := Ne.symm (qT (e5 _ _ (e4 _ _ hfv)) hc3)
  have hrot : Prs σ₆ (vs.drop at'.toNat ++ vs.take at'.toNat) (rs.drop at'.toNat ++ rs.take at'.toNat) := ((hg2.drop _).append (hg2.take _)).ext y6
  have hmem : ∀ p, p ∈ rs.drop at'.toNat ++ rs.take at'.toNat ↔ p ∈ rs := fun p => by
    rw [List.mem_append, or_comm, ← List.mem_append, List.take_append_drop]
  have hlen : (rs.drop at'.toNat ++ rs.take at'.toNat).length = rs.length := (List.length_append).trans (zca rs _)
  generalize vs.drop at'.toNat ++ vs.take at'.toNat = us at hv3 hrot
  generalize rs.drop at'.toNat ++ rs.take at'.toNat = ts at hrot hmem hlen
  clear hc3 hc2 hc1 e3 e4 e5 e6 hv1 hv2 hfv hf
  refine zU (fun i ρ σ' => X6 fun qs o11 o12 o13 o14 o15 => ρ = [some (.ref s), some (.int L), some (.int first), some (.int m), some (.bool line), some (.ref g), o6, o7, some (.int sh), some (.int at'), some (.ref f), o11, o12, o13, o14, o15] ∧ Ext σ σ' ∧ σ' c3 = some (.list us) ∧ Prs σ' us ts ∧ z2 σ' f qs ∧ qs.length = i ∧ (∀ j p, j < i → ts[j]? = some p → (jf p.1 m sh, jf p.2 m sh) ∈ qs ∨ (jf p.2 m sh, jf p.1 m sh) ∈ qs) ∧ ∀ q ∈ qs, ∃ p ∈ rs, q = (jf p.1 m sh, jf p.2 m sh) ∨ q = (jf p.2 m sh, jf p.1 m sh)) ?_ ?_ ?_
  · exact ⟨[], _, _, _, _, _, rfl, x6, hv3, hrot, ⟨[], hff, .nil⟩, rfl, fun j p hj => by exact lif (r1 _) [(1,1,V0,N0),(0,1,N0,V0)] rfl (ltI hj) (nnI _), by simp⟩
  · intro i v ρ σ' K' hv hI6a hK
    obtain ⟨qs, o11, o12, o13, o14, o15, rfl, hcj⟩ := hI6a
    have e := hcj.1; have hc3' := hcj.2.1; have hrot' := hcj.2.2.1; have hfq := hcj.2.2.2.1; have hql := hcj.2.2.2.2.1; have hin := hcj.2.2.2.2.2.1; have hout := hcj.2.2.2.2.2.2; clear hcj
    obtain ⟨t, a, b, rfl, hts, ht⟩ := hrot'.get hv
    have hpm : (a, b) ∈ rs := (hmem _).mp (List.mem_of_getElem? hts)
    have hokp := hok _ hpm
    refine ⟨.inl hc3', ?_⟩
    simp only [yd, ze]
    refine zaE ht ?_
    refine ⟨rfl, ?_⟩
    simp only [yU, yT, zq, zp, zE, qa, zc3, zK, z4, z5, zv, zf, zg]
    refine zdT h.turned (fun hne => by have := hokp.1; simp only at this; exact lit (r2 _ _) N0 V0 [(0,1,N0,V1),(1,1,V1,V0)] rfl this.1 (w9 (this.2) hne)) ?_
    refine zdT h.turned (fun hne => by have := hokp.2.1; simp only at this; exact lit (r2 _ _) N0 V0 [(0,1,N0,V1),(1,1,V1,V0)] rfl this.1 (w9 (this.2) hne)) ?_
    refine ⟨by first | exact Nat.le_of_ble_eq_true rfl | simp [lim], zi fun t1 σ₇ ht1 e7 hv7 => ?_⟩
    simp only [zq, zp, qv, qy, yo, qV, wx, qu, z5, zK, z4, zv, ql, zf, zg]
    refine qm h.cell (hs.ext (e.trans e7)) (by exact nnI _) (by exact nnI _) fun σ₈ e8 => ?_
    have e78 := e7.trans e8
    obtain ⟨ws, hf1, hf2⟩ := hfq.ext e78
    simp only [zd, ze]
    refine ⟨⟨by decide, zew (by decide)⟩, ?_⟩
    refine zW hf1 ?_
    simp only [zd, Cmp.run, zm]
    refine ⟨by decide, ?_⟩
    have hwl : ws.length < lim := by
      have h1 := hf2.length
      have h2 : i < us.length := (List.getElem?_eq_some_iff.mp hv).1
      have h3 := hrot'.length
      unfold lim; exact ltN (lit (r6 _ _ _ _ _ _) V0 (.num 1000000) [(0,1,V1,.num 40),(2,1,V2,V1),(2,1,V3,V4),(2,1,V0,V3),(1,1,V4,V5),(2,1,V5,V2)] rfl (leI hl) (eqI hlen) (eqI hql) (eqI h1) (ltI h2) (eqI h3))
    have fin : ∀ σ₉ t2 x y, Ext σ₈ σ₉ → σ₉ t2 = some (.tup [.int x, .int y]) → (x, y) = (jf a m sh, jf b m sh) ∨ (x, y) = (jf b m sh, jf a m sh) → ∀ ρ', (∃ o11 o12 o13 o14 o15, ρ' = [some (.ref s), some (.int L), some (.int first), some (.int m), some (.bool line), some (.ref g), o6, o7, some (.int sh), some (.int at'), some (.ref f), o11, o12, o13, o14, o15]) →
        K' .next ρ' (put σ₉ f (.list (ws ++ [.ref t2]))) := by
      rintro σ₉ t2 x y e9 ht2 hxy ρ' ⟨p11, p12, p13, p14, p15, rfl⟩
      have hf9 := e9 _ _ hf1
      refine hK .next _ _ ⟨qs ++ [(x, y)], p11, p12, p13, p14, p15, rfl, (e.trans (e78.trans e9)).put hfs _, ?_, ?_, z2.push hf9 (hf2.ext e9) ht2, by simp [hql], fun j p hj hjp => ?_, fun q hq' => ?_⟩
      · rw [zS _ hc3f]; exact e9 _ _ (e78 _ _ hc3')
      · have := hrot'.ext (e78.trans e9)
        exact this.keep hf9
      · by_cases hji : j = i
        · subst hji; rw [hts] at hjp; cases hjp
          rcases hxy with e | e
          · exact .inl (by simp [← e])
          · exact .inr (by simp [← e])
        · rcases hin j p (by exact ltN ((ww (lin (r2 _ _) V0 V1 [(1,1,V0,.add V1 N1)] rfl (ltI hj)) hji))) hjp with h | h
          · exact .inl (by simp [h])
          · exact .inr (by simp [h])
      · rcases List.mem_append.mp hq' with h | h
        · exact hout q h
        · simp at h; subst h; exact ⟨(a, b), hpm, hxy⟩
    by_cases hfl : (((js ns 18).fdiv 41 + (ws.length : Int)).fmod 3 == 1) = true
    · simp only [hfl, if_true, qa, zc3, zK, z4, qG, zv, ql, zf, zg, ze, zd]
      refine ⟨by exact nnI _, ?_⟩
      refine jR (e8 _ _ hv7) ?_
      refine ⟨by exact nnI _, ?_⟩
      refine jR (e8 _ _ hv7) ?_
      refine ⟨by first | exact Nat.le_of_ble_eq_true rfl | simp [lim], zi fun t2 σ₉ ht2 e9 hv9 => ?_⟩
      refine ⟨zH (e9 _ _ hf1) trivial, ?_⟩
      refine zH (e9 _ _ hf1) ?_
      refine ⟨hwl, ?_⟩
      exact fin σ₉ t2 _ _ e9 hv9 (.inr rfl) _ ⟨_, _, _, _, _, rfl⟩
    · have hfl' : (((js ns 18).fdiv 41 + (ws.length : Int)).fmod 3 == 1) = false := by simpa using hfl
      refine je hfl' ?_
      refine ⟨zH hf1 trivial, ?_⟩
      refine zH hf1 ?_
      refine ⟨hwl, ?_⟩
      exact fin σ₈ t1 _ _ .refl (e8 _ _ hv7) (.inl rfl) _ ⟨_, _, _, _, _, rfl⟩
  · rintro ρ σ' ⟨qs, o11, o12, o13, o14, o15, rfl, hcj⟩
    have e := hcj.1; have hc3' := hcj.2.1; have hrot' := hcj.2.2.1; have hfq := hcj.2.2.2.1; have hql := hcj.2.2.2.2.1; have hin := hcj.2.2.2.2.2.1; have hout := hcj.2.2.2.2.2.2; clear hcj
    refine ⟨.inl hc3', ?_⟩
    refine ⟨by first | exact Nat.le_of_ble_eq_true rfl | simp [lim], zi fun t σ₇ ht e7 hv7 => ?_⟩
    have hul := hrot'.length
    refine hq t f σ₇ qs _ (e.trans e7) hv7 (hfq.ext e7) ⟨hm, hm', by exact leN (lin (r4 _ _ _ _) V0 (.num 40) [(0,1,V1,.num 40),(2,1,V2,V1),(2,1,V0,V3),(2,1,V3,V2)] rfl (leI hl) (eqI hlen) (eqI hql) (eqI hul)), fun q hq' => ?_, fun k h0 hk => ?_⟩ hfs
    · obtain ⟨p, hp, hpq⟩ := hout q hq'
      obtain ⟨o1, o2, o3⟩ := hok p hp
      have r1 := zih (s := sh) o1.1 o1.2
      have r2 := zih (s := sh) o2.1 o2.2
      have r3 : jf p.1 m sh ≠ jf p.2 m sh := fun e => o3 (turn_inj o1 o2 e)
      rcases hpq with rfl | rfl
      · exact ⟨r1, r2, r3⟩
      · exact ⟨r2, r1, Ne.symm r3⟩
    · obtain ⟨j, j0, j1, rfl⟩ := turn_surj sh h0 hk
      have := (hre j j0 j1).map (qs := qs) (fun x => jf x m sh) fun p hp => by
        obtain ⟨i, hi, hip⟩ := List.getElem_of_mem ((hmem p).mpr hp)
        exact hin i p (by exact ltN (lit (r3 _ _ _) V0 V1 [(2,-1,V1,V2),(1,1,V0,V2)] rfl (eqI hul) (ltI hi))) (by rw [← hip]; simp [hi])
      simpa [zc2] using this
end
end Mine
end
section
open PySem
namespace Mine
theorem qU {a b : Int} (h : 0 < b) : 0 ≤ a.fmod b ∧ a.fmod b < b := ⟨Int.fmod_nonneg_of_pos a h, Int.fmod_lt_of_pos a h⟩
theorem other_ok {one x m : Int} (hm : 0 < m) (h0 : 0 ≤ one) (h1 : one ≤ m) (hx : 0 ≤ x) (hx' : x < m) : Okr m (one, (one + 1 + x).fmod (m + 1)) := by
  have h2 := qU (a := one + 1 + x) (b := m + 1) (by exact lit (r1 _) N0 (.add V0 N1) [(1,1,N0,V0)] rfl hm)
  refine ⟨⟨h0, h1⟩, ⟨h2.1, by simp only; exact lin (r2 _ _) V0 V1 [(1,1,V0,.add V1 N1)] rfl h2.2⟩, ?_⟩
  simp only
  rw [Int.fmod_eq_emod_of_nonneg _ (by exact lin (r1 _) N0 (.add V0 N1) [(1,1,N0,V0)] rfl hm : 0 ≤ m + 1)]
  by_cases h : one + 1 + x < m + 1
  · rw [Int.emod_eq_of_lt (by exact lin (r2 _ _) N0 (.add (.add V0 N1) V1) [(0,1,N0,V0),(0,1,N0,V1)] rfl h0 hx) h]; exact (fun h_ => lif (r2 _ _) [(0,1,N0,V0),(2,-1,V1,.add (.add V1 N1) V0)] rfl hx h_)
  · have e : one + 1 + x = (one + x - m) + (m + 1) * 1 := by exact liq (r3 _ _ _) (.add (.add V0 N1) V1) (.add (.sub (.add V0 V1) V2) (.mulR (.add V2 N1) 1)) [] rfl
    rw [e, Int.add_mul_emod_self_left, Int.emod_eq_of_lt (by exact lin (r3 _ _ _) N0 (.sub (.add V0 V1) V2) [(4,1,.add (.add V0 N1) V1,.add V2 N1)] rfl h) (by exact lit (r3 _ _ _) (.sub (.add V0 V1) V2) (.add V2 N1) [(0,1,V0,V2),(1,1,V1,V2)] rfl h1 hx')]; exact (fun h_ => lif (r3 _ _ _) [(1,1,V0,V1),(2,1,V2,.sub (.add V2 V0) V1)] rfl hx' h_)
noncomputable def netQ (σ₀ : zb) (m : Int) (K : Out → zP → zb → Prop) : Prop := ∀ t c σ' qs ρ, Ext σ₀ σ' → σ' t = some (.tup [.int m, .ref c]) → z2 σ' c qs → Net m qs → σ₀ c = none → K (.ret (.ref t)) ρ σ'
structure zhS (σ₀ σ : zb) (s g : Addr) (ns : List Int) (m : Int) (rs : List (Int × Int)) : Prop where
  e0 : Ext σ₀ σ
  hs : yK σ₀ s ns
  hg0 : σ₀ g = none
  hg : z2 σ g rs
  hm : 0 ≤ m
  hm' : m ≤ 10
  hl : (rs.length : Int) = m
  hok : ∀ p ∈ rs, Okr m p
  hre : ∀ k, 0 ≤ k → k < m → yD rs m k
theorem zhS.ext {σ₀ σ σ' s g ns m rs} (h : zhS σ₀ σ s g ns m rs) (e : Ext σ σ') : zhS σ₀ σ' s g ns m rs := { h with e0 := h.e0.trans e, hg := h.hg.ext e }
section
variable {T : TC} {d : Nat} {σ₀ σ : zb} {K : Out → zP → zb → Prop} {P : Nat → zb → Prop}
variable {s g : Addr} {ns : List Int} {L first m : Int} {line : Bool} {rs : List (Int × Int)} {o6 o7 o8 o9 o10 o11 o12 o13 o14 o15 : Option V}
theorem net_4 (h : zcY T) (hn : zhS σ₀ σ s g ns m rs) {z : Int} (hz : 0 ≤ z) (hz' : m + z ≤ 40) (hq : netQ σ₀ m K) :
    zbA T (d + 1) [some (.ref s), some (.int L), some (.int first), some (.int m), some (.bool line), some (.ref g), o6, some (.int z), o8, o9, o10, o11, o12, o13, o14, o15] σ K P := by
  obtain ⟨e0, hs, hg0, hg, hm, hm', hl, hok, hre⟩ := hn
  simp only [zbA, zE, j5, jS, ze4, zhJ, qy, zv, ql, zf, zg, zd, zm, Cmp.run]
  refine ⟨zaz (by split <;> decide) (by split <;> decide), ?_⟩
  generalize hN : z * (if decide (m > 0) = true then 1 else 0) = N
  have hN0 : 0 ≤ N := by rw [← hN]; split <;> (first | exact lin (r1 _) N0 (.mulR V0 1) [(0,1,N0,V0)] rfl hz | exact lin (r1 _) N0 (.mulR V0 0) [] rfl)
  have hNz : N ≤ z := by rw [← hN]; split <;> (first | exact lin (r1 _) (.mulR V0 1) V0 [] rfl | exact lin (r1 _) (.mulR V0 0) V0 [(0,1,N0,V0)] rfl hz)
  have hNm : 0 < N → 0 < m := by
    intro hp; rw [← hN] at hp
    by_cases hmm : m > 0
    · exact hmm
    · simp [hmm] at hp
  refine ⟨by first | exact qL ‹_› ‹_› | (unfold jc; exact ⟨lin (r1 _) (.neg (.num 4611686018427387904)) V0 [(0,1,N0,V0)] rfl hN0, lit (r3 _ _ _) V0 (.num 4611686018427387904) [(0,1,.add V1 V2,.num 40),(0,1,N0,V1),(0,1,V0,V2)] rfl hz' hm hNz⟩), ?_⟩
  refine zU (fun i ρ σ' => X4 fun qs o6 o11 o13 => ρ = [some (.ref s), some (.int L), some (.int first), some (.int m), some (.bool line), some (.ref g), o6, some (.int z), o8, o9, o10, o11, o12, o13, o14, o15] ∧ Ext σ₀ σ' ∧ z2 σ' g qs ∧ (qs.length : Int) = m + i ∧ (∀ p ∈ rs, p ∈ qs) ∧ ∀ p ∈ qs, Okr m p) ?_ ?_ ?_
  · exact ⟨rs, _, _, _, rfl, e0, hg, by exact liq (r2 _ _) V0 (.add V1 N0) [(2,1,V0,V1)] rfl hl, fun p hp => hp, hok⟩
  · intro i v ρ σ' K' hv hI6a hK
    obtain ⟨qs, o6, o11, o13, rfl, hcj⟩ := hI6a
    have e := hcj.1; have hgq := hcj.2.1; have hql := hcj.2.2.1; have hin := hcj.2.2.2.1; have hokq := hcj.2.2.2.2; clear hcj
    obtain ⟨hi, rfl⟩ := qQ hv
    have hmp := hNm (by exact lit (r2 _ _) N0 V0 [(1,1,V1,V0),(0,1,N0,V1)] rfl (Int.lt_toNat.mp hi) (nnI _))
    refine ⟨trivial, ?_⟩
    simp only [qB, zq, zp, zE, qa, z5, zK, z4, qV, yo, zv, ql, zf, zg, zd]
    have k5 := qU (a := (0 : Int) + i) (b := 5) (by exact nnI _)
    refine ⟨by decide, ?_⟩
    refine qm h.cell (hs.ext e) (by exact lin (r1 _) N0 (.add (.num 12) V0) [(0,1,N0,V0)] rfl k5.1) (by exact lit (r1 _) (.add (.num 12) V0) (.num 1073741824) [(1,1,V0,.num 5)] rfl k5.2) fun σ₃ e3 => ?_
    refine mixed_spec h.mixed (by exact nnI _) (by exact lit (r4 _ _ _ _) (.add N0 V0) (.num 1048576) [(0,1,.add V1 V2,.num 40),(0,1,N0,V1),(0,1,V3,V2),(1,1,V0,V3)] rfl hz' hm hNz (Int.lt_toNat.mp hi)) ?_
    generalize mixedF _ _ = c
    refine ⟨by exact (fun h_ => lif (r1 _) [(0,1,N0,V0),(2,1,.add V0 N1,N0)] rfl hm h_), ?_⟩
    have c1 := qU (a := c) (b := m + 1) (by exact lit (r1 _) N0 (.add V0 N1) [(0,1,N0,V0)] rfl hm)
    have c2 := qU (a := c.fdiv 11) (b := m) hmp
    generalize c.fmod (m + 1) = one at c1
    obtain ⟨ws, hw1, hw2⟩ := hgq.ext e3
    simp only [wk, zen, zc3, zK, z4, yo, qV, wx, zv, ql, zf, zg, zd, ze, zq, zp]
    rw [zbU hw1]
    refine ⟨trivial, ⟨by decide, zew (by decide)⟩, by exact Mine.jB ‹_›, by exact (fun h_ => lif (r1 _) [(0,1,N0,V0),(2,1,.add V0 N1,N0)] rfl hm h_), by simp [lim], zi fun t σ₄ ht e4 hv4 => ?_⟩
    refine zH (e4 _ _ hw1) ?_
    have := hw2.length
    refine ⟨by unfold lim; exact ltN (lit (r6 _ _ _ _ _ _) V0 (.num 1000000) [(0,1,.add V1 V2,.num 40),(0,1,V3,V2),(2,1,V4,.add V1 V5),(1,1,V5,V3),(2,1,V0,V4)] rfl hz' hNz hql (Int.lt_toNat.mp hi) (eqI this)), hK .next _ _ ⟨_, _, _, _, rfl, ?_, z2.push (e4 _ _ hw1) (hw2.ext e4) hv4, by simp; exact liq (r3 _ _ _) (.add V0 N1) (.add V1 (.add V2 N1)) [(2,1,V0,.add V1 V2)] rfl hql, fun p hp => by simp [hin p hp], fun p hp => ?_⟩⟩
    · exact ((e.trans e3).trans e4).put hg0 _
    · rcases List.mem_append.mp hp with hp | hp
      · exact hokq p hp
      · simp only [List.mem_singleton] at hp; subst hp
        exact other_ok hmp c1.1 (by exact lin (r2 _ _) V0 V1 [(1,1,V0,.add V1 N1)] rfl c1.2) c2.1 c2.2
  · rintro ρ σ' ⟨qs, o6, o11, o13, rfl, hcj⟩
    have e := hcj.1; have hgq := hcj.2.1; have hql := hcj.2.2.1; have hin := hcj.2.2.2.1; have hokq := hcj.2.2.2.2; clear hcj
    rw [qf] at hql
    refine ⟨trivial, ?_⟩
    simp only
    refine net_5 h (hs.ext e) hgq hm hm' (by lia) hokq (fun k h0 hk => (hre k h0 hk).mono hin) fun t c σ'' qs' ρ e5 ht hc hn hcn => ?_
    exact hq t c σ'' qs' ρ (e.trans e5) ht hc hn (e.none hcn)
theorem net_3 (h : zcY T) (hn : zhS σ₀ σ s g ns m rs) {z : Int} (hz : 0 ≤ z) (hz' : m + z ≤ 40) (hq : netQ σ₀ m K) :
    zbB T (d + 1) [some (.ref s), some (.int L), some (.int first), some (.int m), some (.bool line), some (.ref g), o6, some (.int z), o8, o9, o10, o11, o12, o13, o14, o15] σ K P := by
  simp only [zbB, seqW_P, iteS_P, andW_P, orW_P, cmpI_P, zf3, divI_P, callW_P, consW_P, nilW_P, ze6, zeR, zaA, zaB]
  refine qm h.cell (hn.hs.ext hn.e0) (by exact nnI _) (by exact nnI _) fun σ₁ e1 => ?_
  have hn' := hn.ext e1
  have := hn.hm; have := hn.hm'
  simp only [jz, Cmp.run, ya]
  refine ⟨⟨by decide, zew (by decide)⟩, by decide, ?_⟩
  split
  · split
    · simp only [ya, if_true, zhN, zak, zeR, ze6, zaA, zaB, jz, ze0, ze1]
      exact net_4 h hn' (by exact lin (r1 _) N0 (.sub (.num 40) V0) [(0,1,V0,.num 10)] rfl this) (by exact lin (r1 _) (.add V0 (.sub (.num 40) V0)) (.num 40) [] rfl) hq
    · split
      · simp only [zhN, zak, zeR, ze6, zaA, zaB, jz, ze0, ze1]
        exact net_4 h hn' (by exact lin (r1 _) N0 (.sub (.num 40) V0) [(0,1,V0,.num 10)] rfl this) (by exact lin (r1 _) (.add V0 (.sub (.num 40) V0)) (.num 40) [] rfl) hq
      · simp only [zha]
        exact net_4 h hn' hz hz' hq
  · simp only [ya, Bool.false_eq_true, if_false, zha]
    exact net_4 h hn' hz hz' hq
theorem net_2 (h : zcY T) (hn : zhS σ₀ σ s g ns m rs) (hq : netQ σ₀ m K) :
    zbC T (d + 1) [some (.ref s), some (.int L), some (.int first), some (.int m), some (.bool line), some (.ref g), o6, o7, o8, o9, o10, o11, o12, o13, o14, o15] σ K P := by
  simp only [zbC, zE, qa, yo, z5, zK, z4, zv, ql, zf, zg]
  refine qm h.cell (hn.hs.ext hn.e0) (by exact nnI _) (by exact nnI _) fun σ₁ e1 => ?_
  have hn' := hn.ext e1
  have := hn.hm; have := hn.hm'
  have z6 := qU (a := js ns 11) (b := 6) (by exact nnI _)
  simp only [zd, zp, zq, qv, zan, zbF, qy, zv, ql, zf, zg, zm, Cmp.run]
  generalize (js ns 11).fmod 6 = z at z6
  have z3 := qU (a := z) (b := 3) (by exact nnI _)
  refine ⟨by decide, ?_⟩
  split
  · split
    · exact ⟨by exact (fun h_ => lif (r1 0) [(2,1,.num 3,N0)] rfl h_), net_3 h hn' z3.1 (by exact lin (r2 _ _) (.add V0 V1) (.num 40) [(0,1,V0,.num 10),(1,1,V1,.num 3)] rfl this z3.2) hq⟩
    · exact net_3 h hn' z6.1 (by exact lin (r2 _ _) (.add V0 V1) (.num 40) [(0,1,V0,.num 10),(1,1,V1,.num 6)] rfl this z6.2) hq
  · exact net_3 h hn' z6.1 (by exact lin (r2 _ _) (.add V0 V1) (.num 40) [(0,1,V0,.num 10),(1,1,V1,.num 6)] rfl this z6.2) hq
theorem net_1 (h : zcY T) (hs : yK σ s ns) (hm : 0 ≤ m) (hm' : m ≤ 10) (hq : netQ σ m K) {o5 : Option V} :
    zai T (d + 1) [some (.ref s), some (.int L), some (.int first), some (.int m), some (.bool line), o5, o6, o7, o8, o9, o10, o11, o12, o13, o14, o15] σ K P := by
  simp only [zai, zE, qa, jC, zK, z4, List.length_nil]
  refine ⟨by first | exact Nat.le_of_ble_eq_true rfl | simp [lim], zi fun g σ₁ hg e1 hgv => ?_⟩
  simp only [zq, zp, j5, jS, zv, zf, zg, zd]
  refine ⟨by first | exact qL ‹_› ‹_› | (unfold jc; omega), ?_⟩
  refine zU (fun i ρ σ' => X4 fun qs o6 o11 o12 => ρ = [some (.ref s), some (.int L), some (.int first), some (.int m), some (.bool line), some (.ref g), o6, o7, o8, o9, o10, o11, o12, o13, o14, o15] ∧ Ext σ σ' ∧ z2 σ' g qs ∧ qs.length = i ∧ (∀ p ∈ qs, Okr m p) ∧ ∀ k, 0 ≤ k → k < (i : Int) → yD qs m k) ?_ ?_ ?_
  · exact ⟨[], _, _, _, rfl, e1, ⟨[], hgv, .nil⟩, rfl, by simp, fun k h0 hk => by exact lif (r1 _) [(0,1,N0,V0),(1,1,V0,N0)] rfl h0 hk⟩
  · intro i v ρ σ' K' hv hI6a hK
    obtain ⟨qs, o6, o11, o12, rfl, hcj⟩ := hI6a
    have e := hcj.1; have hgq := hcj.2.1; have hql := hcj.2.2.1; have hokq := hcj.2.2.2.1; have hre := hcj.2.2.2.2; clear hcj
    obtain ⟨hi, rfl⟩ := qQ hv
    have hi' : (i : Int) < m := by exact Mine.qM ‹_› ‹_›
    refine ⟨trivial, ?_⟩
    simp only [qB, zq, zp, zE, qa, z5, zK, z4, qV, yo, zv, ql, zf, zg, zd, Int.zero_add]
    refine qm h.cell (hs.ext e) (by exact nnI _) (by exact lit (r2 _ _) (.add N1 V0) (.num 1073741824) [(0,1,V1,.num 10),(1,1,V0,V1)] rfl hm' hi') fun σ₃ e3 => ?_
    refine ⟨by exact (fun h_ => lif (r1 _) [(2,1,.add V0 N1,N0),(0,1,N0,V0)] rfl h_ (nnI _)), ?_⟩
    obtain ⟨ws, hw1, hw2⟩ := hgq.ext e3
    have hwl := hw2.length
    have c1 := qU (a := js ns (1 + i)) (b := (i : Int) + 1) (by exact lit (r1 _) N0 (.add V0 N1) [(0,1,N0,V0)] rfl (nnI _))
    have fin : ∀ ah : Int, 0 ≤ ah → ah ≤ i → (zam (appW (loc 5) (zgq (zh (loc 6) (zh (qi (q9 (zh (loc 3) (zh (zcB (loc 12) (val (.int 1))) zR))) (intW (jh .gt (loc 12) (val (.int 0))))) zR)))) : SW)
        [some (.ref s), some (.int L), some (.int first), some (.int m), some (.bool line), some (.ref g), some (.int i), o7, o8, o9, o10, some (.int (js ns (1 + i))), some (.int ah), o13, o14, o15] σ₃ K' noP := by
      intro ah h0 h1
      simp only [wk, zen, zc3, zK, z4, qG, jC, zak, zhJ, qy, zv, ql, zf, zg, ze, zd, zm, Cmp.run, List.length_cons, List.length_nil]
      rw [zbU hw1]
      refine ⟨trivial, by simp [lim], zi fun l σ₄ hl e4 hv4 => ?_⟩
      refine ⟨by split <;> decide, ?_⟩
      refine ji hv4 ?_
      have go : ∀ b : Int, (b = m ∨ (0 ≤ b ∧ b < i)) → yI (.tup [.int i, .int b]) σ₄ (fun vb σ₂ => qz σ₂ g fun xs => xs.length < lim ∧ K' .next [some (.ref s), some (.int L), some (.int first), some (.int m), some (.bool line), some (.ref g), some (.int i), o7, o8, o9, o10, some (.int (js ns (1 + i))), some (.int ah), o13, o14, o15] (put σ₂ g (.list (xs ++ [vb])))) := by
        intro b hb
        refine zi fun t σ₅ ht e5 hv5 => ?_
        refine zH (e5 _ _ (e4 _ _ hw1)) ?_
        refine ⟨by unfold lim; exact ltN (lit (r4 _ _ _ _) V0 (.num 1000000) [(0,1,V1,.num 10),(2,1,V2,V3),(1,1,V3,V1),(2,1,V0,V2)] rfl hm' (eqI hql) hi' (eqI hwl)), hK .next _ _ ⟨_, _, _, _, rfl, ?_, z2.push (e5 _ _ (e4 _ _ hw1)) ((hw2.ext e4).ext e5) hv5, by simp [hql], fun p hp => ?_, fun k h0 hk => ?_⟩⟩
        · exact ((e.trans e3).trans (e4.trans e5)).put hg _
        · rcases List.mem_append.mp hp with hp | hp
          · exact hokq p hp
          · simp only [List.mem_singleton] at hp; subst hp
            unfold Okr; simp only; lia
        · by_cases hki : k = i
          · subst hki
            refine .bwd (b := b) ?_ (by simp)
            rcases hb with rfl | hb
            · exact .refl
            · exact (hre b hb.1 hb.2).mono fun p hp => by simp [hp]
          · exact (hre k h0 (by exact (w9 (lin (r2 _ _) V0 V1 [(1,1,V0,.add V1 N1)] rfl hk) hki))).mono fun p hp => by simp [hp]
      by_cases hah : ah > 0
      · simp only [hah, decide_true, if_true]
        exact ⟨by first | exact Nat.le_of_ble_eq_true rfl | simp [lim], go (ah - 1) (.inr (by exact ⟨lin (r1 _) N0 (.sub V0 N1) [(1,1,N0,V0)] rfl hah, lit (r2 _ _) (.sub V0 N1) V1 [(0,1,V0,V1)] rfl h1⟩))⟩
      · simp only [hah, decide_false, Bool.false_eq_true, if_false]
        exact ⟨by first | exact Nat.le_of_ble_eq_true rfl | simp [lim], go m (.inl rfl)⟩
    simp only [qv, zan, zbF, qy, yo, wx, zv, ql, zf, zg, zd, zm, Cmp.run]
    split
    · refine ⟨by decide, ?_⟩
      split
      · refine ⟨⟨by decide, zew (by decide)⟩, by decide, ?_⟩
        split
        · exact fin i (by exact nnI _) (by exact lin (r1 _) V0 V0 [] rfl)
        · exact fin _ c1.1 (by exact lin (r2 _ _) V0 V1 [(1,1,V0,.add V1 N1)] rfl c1.2)
      · exact fin _ c1.1 (by exact lin (r2 _ _) V0 V1 [(1,1,V0,.add V1 N1)] rfl c1.2)
    · exact fin _ c1.1 (by exact lin (r2 _ _) V0 V1 [(1,1,V0,.add V1 N1)] rfl c1.2)
  · rintro ρ σ' ⟨qs, o6, o11, o12, rfl, hcj⟩
    have e := hcj.1; have hgq := hcj.2.1; have hql := hcj.2.2.1; have hokq := hcj.2.2.2.1; have hre := hcj.2.2.2.2; clear hcj
    rw [qf] at hql
    refine ⟨trivial, ?_⟩
    simp only
    have hlm : (qs.length : Int) = m := by exact liq (r3 _ _ _) V0 V1 [(2,1,V0,V2),(2,1,V2,V1)] rfl (eqI hql) (tnn (hm))
    exact net_2 h ⟨e, hs, hg, hgq, hm, hm', hlm, hokq, fun k h0 hk => hre k h0 (by rw [qf]; exact Mine.lt_toNat ‹_›)⟩ hq
noncomputable def netB (L : Int) : Int := if L = 0 then 5 else if L = 1 then 7 else 10
theorem net_spec (h : zcY T) {Q : V → zb → Prop} (hs : yK σ s ns) (hL0 : 0 ≤ L) (hL : L ≤ 3)
    (hq : ∀ t c σ' m qs, Ext σ σ' → σ' t = some (.tup [.int m, .ref c]) → z2 σ' c qs → Net m qs → m ≤ netB L → σ c = none → Q (.ref t) σ') :
    zC T (d + 2) "_law_net" [.ref s, .int L] σ Q P := by
  refine h.net (d + 1) _ _ _ _ rfl ?_
  simp only [zbP, zE, qa, yo, z5, zK, z4, zv, ql, qd, qg, qc, zf, zg]
  refine qm h.cell hs (by exact nnI _) (by exact nnI _) fun σ₁ e1 => ?_
  have hs1 := hs.ext e1
  generalize js ns 0 = first
  have z6 := qU (a := first) (b := 6) (by exact nnI _)
  simp only [zd, zp, zq, zv, zf, zg, zan, qy, yo, wx, ql, Cmp.run, zm]
  refine ⟨by decide, ⟨by decide, zew (by decide)⟩, by decide, ?_⟩
  have fin : ∀ m σ₂ (b : Bool), Ext σ₁ σ₂ → 0 ≤ m → m ≤ netB L → zai T (d + 1) [some (.ref s), some (.int L), some (.int first), some (.int m), some (.bool b), none, none, none, none, none, none, none, none, none, none, none] σ₂ (fun o x σ' => Q (match o with | .ret v => v | .next => .none) σ') P := by
    intro m σ₂ b e2 h0 h1
    refine net_1 h (hs1.ext e2) h0 (by unfold netB at h1; split at h1 <;> (try split at h1) <;> (first | assumption | exact lin (r1 _) V0 (.num 10) [(0,1,V0,.num 5)] rfl h1 | exact lin (r1 _) V0 (.num 10) [(0,1,V0,.num 7)] rfl h1)) fun t c σ' qs ρ e3 ht hc hn hcn => ?_
    exact hq t c σ' m qs ((e1.trans e2).trans e3) ht hc hn h1 ((e1.trans e2).none hcn)
  have five : (5 : Int) ≤ netB L := by unfold netB; split <;> (try split) <;> decide
  split
  · simp only [qv, zbF, zv, zf, zg, zm]
    split
    · rename_i hLp
      simp only [qa, qV, yo, wx, qG, jC, zK, z4, zv, ql, zf, zg, zd, zq, zp, List.length_cons, List.length_nil]
      refine ⟨⟨by decide, zew (by decide)⟩, by simp [lim], zi fun l σ₂ hl e2 hv2 => ?_⟩
      refine ⟨hL0, ?_⟩
      refine ji hv2 ?_
      have hLp' : L > 0 := by simpa using hLp
      have : L = 1 ∨ L = 2 ∨ L = 3 := by lia
      rcases this with rfl | rfl | rfl
      · refine ⟨by decide, ?_⟩
        have := qU (a := first.fdiv 48) (b := 2) ‹_›
        exact fin _ _ _ e2 (by exact lin (r1 _) N0 (.add (.num 6) V0) [(0,1,N0,V0)] rfl this.1) (by simp [netB]; exact lin (r1 _) (.add (.num 6) V0) (.num 7) [(1,1,V0,.num 2)] rfl this.2)
      · refine ⟨by decide, ?_⟩
        have := qU (a := first.fdiv 48) (b := 5) (by exact nnI _)
        exact fin _ _ _ e2 (by exact lin (r1 _) N0 (.add (.num 6) V0) [(0,1,N0,V0)] rfl this.1) (by simp [netB]; exact lin (r1 _) (.add (.num 6) V0) (.num 10) [(1,1,V0,.num 5)] rfl this.2)
      · refine ⟨by decide, ?_⟩
        have := qU (a := first.fdiv 48) (b := 5) (by exact nnI _)
        exact fin _ _ _ e2 (by exact lin (r1 _) N0 (.add (.num 6) V0) [(0,1,N0,V0)] rfl this.1) (by simp [netB]; exact lin (r1 _) (.add (.num 6) V0) (.num 10) [(1,1,V0,.num 5)] rfl this.2)
    · exact fin _ _ _ .refl z6.1 (by exact lin (r2 _ _) V0 V1 [(1,1,V0,.num 6),(0,1,.num 5,V1)] rfl z6.2 five)
  · exact fin _ _ _ .refl z6.1 (by exact lin (r2 _ _) V0 V1 [(1,1,V0,.num 6),(0,1,.num 5,V1)] rfl z6.2 five)
end
end Mine
end
section
namespace Mine
noncomputable abbrev Row := Nat → Int
noncomputable def Ex (l : Row → Int) (g : List Row → Int) : List Row → Int
  | [] => 0
  | r :: rs => l r * g rs - Ex l (fun t => g (r :: t)) rs
noncomputable def ev (c : Nat) : Row → Int := fun r => r c
noncomputable def det : List Nat → List Row → Int
  | [], [] => 1
  | [], _ :: _ => 0
  | c :: cs, rows => Ex (ev c) (det cs) rows
theorem qo (c cs rows) : det (c :: cs) rows = Ex (ev c) (det cs) rows := by cases rows <;> rfl
theorem Ex_lin (l : Row → Int) (a b : Int) : ∀ (rows : List Row) (g h : List Row → Int), Ex l (fun t => a * g t + b * h t) rows = a * Ex l g rows + b * Ex l h rows := by
  intro rs_
  induction rs_ with
  | nil =>
    intro g h
    simp [Ex]
  | cons r rs ih_ =>
    intro g h
    simp only [Ex]
    rw [ih_ (fun t => g (r :: t)) (fun t => h (r :: t))]
    grind
theorem Ex_congr {l : Row → Int} {g h : List Row → Int} (e : ∀ t, g t = h t) (rows : List Row) : Ex l g rows = Ex l h rows := by rw [funext e]
theorem Ex_mul (l : Row → Int) (a : Int) (rows : List Row) (g : List Row → Int) : Ex l (fun t => a * g t) rows = a * Ex l g rows := by
  have := Ex_lin l a 0 rows g g
  simpa using this
theorem Ex_anti (c d : Row → Int) : ∀ (rows : List Row) (g : List Row → Int), Ex c (Ex d g) rows = - Ex d (Ex c g) rows := by
  intro rs_
  induction rs_ with
  | nil =>
    intro g
    simp [Ex]
  | cons r rs ih_ =>
    intro g
    have key : ∀ (c d : Row → Int), Ex c (Ex d g) (r :: rs) = c r * Ex d g rs - d r * Ex c g rs + Ex c (Ex d (fun t => g (r :: t))) rs := by
      intro c d
      show c r * Ex d g rs - Ex c (fun t => d r * g t - Ex d (fun t' => g (r :: t')) t) rs = _
      have := Ex_lin c (d r) (-1) rs g (Ex d (fun t' => g (r :: t')))
      rw [show (fun t => d r * g t - Ex d (fun t' => g (r :: t')) t) = (fun t => d r * g t + (-1) * Ex d (fun t' => g (r :: t')) t) from funext fun t => by exact liq (r2 _ _) (.sub V0 V1) (.add V0 (.mulL (-1) V1)) [] rfl, this]
      exact liq (r3 _ _ _) (.sub V0 (.add V1 (.mulL (-1) V2))) (.add (.sub V0 V1) V2) [] rfl
    rw [key c d, key d c, ih_]
    exact liq (r3 _ _ _) (.add (.sub V0 V1) (.neg V2)) (.neg (.add (.sub V1 V0) V2)) [] rfl
theorem zgB (c d : Nat) (cs : List Nat) (rows : List Row) : det (c :: d :: cs) rows = - det (d :: c :: cs) rows := by
  rw [qo, qo, show det (d :: cs) = Ex (ev d) (det cs) from funext fun t => qo .., show det (c :: cs) = Ex (ev c) (det cs) from funext fun t => qo ..]
  exact Ex_anti _ _ _ _
theorem det_pre (k : Int) {cs cs' : List Nat} (h : ∀ rows, det cs rows = k * det cs' rows) : ∀ (p : List Nat) (rows : List Row), det (p ++ cs) rows = k * det (p ++ cs') rows := by
  intro p_
  induction p_ with
  | nil =>
    intro rows
    exact h rows
  | cons c p ih_ =>
    intro rows
    rw [List.cons_append, List.cons_append, qo, qo, Ex_congr (ih_), Ex_mul]
theorem zfN (p : List Nat) (c d : Nat) (cs : List Nat) (rows : List Row) : det (p ++ c :: d :: cs) rows = - det (p ++ d :: c :: cs) rows := by
  have := det_pre (-1) (cs := c :: d :: cs) (cs' := d :: c :: cs) (fun rows => by rw [zgB]; exact liq (r1 _) (.neg V0) (.mulL (-1) V0) [] rfl) p rows
  rw [this]; exact liq (r1 _) (.mulL (-1) V0) (.neg V0) [] rfl
theorem det_tr (a b : Nat) (q : List Nat) : ∀ (m p : List Nat) (rows : List Row), det (p ++ a :: (m ++ b :: q)) rows = - det (p ++ b :: (m ++ a :: q)) rows := by
  intro m_
  induction m_ with
  | nil =>
    intro p rows
    exact zfN p a b q rows
  | cons x m ih_ =>
    intro p rows
    have h1 := zfN p a x (m ++ b :: q) rows
    have h2 := ih_ (p ++ [x]) rows
    have h3 := zfN p x b (m ++ a :: q) rows
    simp only [List.append_assoc, List.singleton_append, List.cons_append, List.nil_append] at h1 h2 h3 ⊢
    exact liq (r4 _ _ _ _) V0 (.neg V1) [(2,1,V0,.neg V2),(2,1,V3,.neg V1),(2,-1,V2,.neg V3)] rfl h1 h3 h2
theorem det_eqcol (a : Nat) (p m q : List Nat) (rows : List Row) : det (p ++ a :: (m ++ a :: q)) rows = 0 := by
  have := det_tr a a q m p rows
  lia
theorem det_last (j : Nat) : ∀ (cs : List Nat) (rows : List Row), det (cs ++ [j]) rows = (-1) ^ cs.length * det (j :: cs) rows := by
  intro cs_
  induction cs_ with
  | nil =>
    intro rows
    simp
  | cons c cs ih_ =>
    intro rows
    have h1 : det (c :: (cs ++ [j])) rows = (-1) ^ cs.length * det (c :: j :: cs) rows := by
      have := det_pre ((-1) ^ cs.length) (cs := cs ++ [j]) (cs' := j :: cs) (ih_) [c] rows
      simpa using this
    rw [List.cons_append, h1, zgB c j, List.length_cons, Int.pow_succ]
    grind

noncomputable def RL (g : List Row → Int) : Prop := ∀ xs a u b v ys, g (xs ++ (fun j => a * u j + b * v j) :: ys) = a * g (xs ++ u :: ys) + b * g (xs ++ v :: ys)
noncomputable def RA (g : List Row → Int) : Prop := ∀ xs u ys, g (xs ++ u :: u :: ys) = 0
theorem RL.cons {g} (h : RL g) (x : Row) : RL (fun t => g (x :: t)) := fun xs a u b v ys => h (x :: xs) a u b v ys
theorem RA.cons {g} (h : RA g) (x : Row) : RA (fun t => g (x :: t)) := fun xs u ys => h (x :: xs) u ys
theorem Ex_RL {l : Row → Int} (hl : ∀ a u b v, l (fun j => a * u j + b * v j) = a * l u + b * l v) : ∀ (xs : List Row) {g : List Row → Int} (h : RL g) (a u b v ys),
    Ex l g (xs ++ (fun j => a * u j + b * v j) :: ys) = a * Ex l g (xs ++ u :: ys) + b * Ex l g (xs ++ v :: ys) := by
  intro xs_
  induction xs_ with
  | nil =>
    intro g h a u b v ys
    simp only [List.nil_append, Ex]
    have e : (fun t => g ((fun j => a * u j + b * v j) :: t)) = fun t => a * g (u :: t) + b * g (v :: t) := funext fun t => h [] a u b v t
    rw [e, Ex_lin l a b ys (fun t => g (u :: t)) (fun t => g (v :: t)), hl]
    grind
  | cons x xs ih_ =>
    intro g h a u b v ys
    simp only [List.cons_append, Ex]
    rw [h xs a u b v ys, ih_ (h.cons x) a u b v ys]
    grind
theorem Ex_RA {l : Row → Int} : ∀ (xs : List Row) {g : List Row → Int} (h : RA g) (u ys), Ex l g (xs ++ u :: u :: ys) = 0 := by
  intro xs_
  induction xs_ with
  | nil =>
    intro g h u ys
    simp only [List.nil_append, Ex]
    have e : (fun t => g (u :: u :: t)) = fun t => 0 * g t := funext fun t => by rw [show g (u :: u :: t) = 0 from h [] u t]; exact liq (r1 _) N0 (.mulL 0 V0) [] rfl
    rw [e, Ex_mul]
    exact liq (r2 _ _) (.sub V0 (.sub V0 (.mulL 0 V1))) N0 [] rfl
  | cons x xs ih_ =>
    intro g h u ys
    simp only [List.cons_append, Ex]
    rw [h xs u ys, ih_ (h.cons x) u ys]
    exact liq (r1 _) (.sub (.mulR V0 0) N0) N0 [] rfl
theorem ev_lin (c : Nat) (a : Int) (u : Row) (b : Int) (v : Row) : ev c (fun j => a * u j + b * v j) = a * ev c u + b * ev c v := rfl
theorem zaW : ∀ cs, RL (det cs)
  | [] => fun xs a u b v ys => by cases xs <;> simp [det]
  | c :: cs => fun xs a u b v ys => by
    rw [qo, qo, qo]
    exact Ex_RL (ev_lin c) xs (zaW cs) a u b v ys
theorem zge : ∀ cs, RA (det cs) := by
  intro cs_
  induction cs_ with
  | nil =>
    exact fun xs u ys => by cases xs <;> simp [det]
  | cons c cs ih_ =>
    exact fun xs u ys => by rw [qo]; exact Ex_RA xs (ih_) u ys
theorem RL.add {g} (h : RL g) (xs u v ys) : g (xs ++ (fun j => u j + v j) :: ys) = g (xs ++ u :: ys) + g (xs ++ v :: ys) := by
  have := h xs 1 u 1 v ys
  simpa using this
theorem row_swap {g} (h : RL g) (h' : RA g) (xs u v ys) : g (xs ++ u :: v :: ys) = - g (xs ++ v :: u :: ys) := by
  have h1 := h' xs (fun j => u j + v j) ys
  rw [h.add xs u v] at h1
  have h2 := h.add (xs ++ [u]) u v ys
  have h3 := h.add (xs ++ [v]) u v ys
  simp only [List.append_assoc, List.singleton_append] at h2 h3
  rw [h2, h3, h' xs u ys, h' xs v ys] at h1
  exact liq (r2 _ _) V0 (.neg V1) [(2,1,.add (.add N0 V0) (.add V1 N0),N0)] rfl h1
theorem zf1 {g} (h : RL g) (h' : RA g) (u ys) : ∀ (m xs : List Row), g (xs ++ u :: (m ++ u :: ys)) = 0 := by
  intro m_
  induction m_ with
  | nil =>
    intro xs
    exact h' xs u ys
  | cons x m ih_ =>
    intro xs
    rw [List.cons_append, row_swap h h' xs u x]
    have := ih_ (xs ++ [x])
    simp only [List.append_assoc, List.singleton_append] at this
    exact liq (r1 _) (.neg V0) N0 [(2,-1,V0,N0)] rfl this
theorem row_tr {g} (h : RL g) (h' : RA g) (xs u m v ys) : g (xs ++ u :: (m ++ v :: ys)) = - g (xs ++ v :: (m ++ u :: ys)) := by
  have h1 := zf1 h h' (fun j => u j + v j) ys m xs
  rw [h.add xs u v] at h1
  have h2 := h.add (xs ++ u :: m) u v ys
  have h3 := h.add (xs ++ v :: m) u v ys
  simp only [List.append_assoc, List.cons_append] at h2 h3
  rw [h2, h3, zf1 h h' u, zf1 h h' v] at h1
  exact liq (r2 _ _) V0 (.neg V1) [(2,1,.add (.add N0 V0) (.add V1 N0),N0)] rfl h1
theorem zhg {g} (h : RL g) (h' : RA g) {u : Row} {xs ys : List Row} (hu : u ∈ xs) : g (xs ++ u :: ys) = 0 := by
  obtain ⟨p, q, rfl⟩ := List.append_of_mem hu
  rw [List.append_assoc, List.cons_append]
  exact zf1 h h' u ys q p

theorem L_Ex {L : Row → Int} (hL : ∀ a u b v, L (fun j => a * u j + b * v j) = a * L u + b * L v) : ∀ (rows : List Row) (g : List Row → Int), L (fun j => Ex (ev j) g rows) = Ex L g rows := by
  intro rs_
  induction rs_ with
  | nil =>
    intro g
    have := hL 0 (fun _ => 0) 0 (fun _ => 0)
    simp only [Ex]
    simpa using this
  | cons r rs ih_ =>
    intro g
    have := hL (g rs) r (-1) (fun j => Ex (ev j) (fun t => g (r :: t)) rs)
    rw [ih_] at this
    have e : (fun j => Ex (ev j) g (r :: rs)) = fun j => g rs * r j + -1 * Ex (ev j) (fun t => g (r :: t)) rs := funext fun j => by
      simp only [Ex, ev]; grind
    rw [e, this]
    simp only [Ex]
    grind
theorem Ex_last {L : Row → Int} (x : Row) : ∀ (xs : List Row) (g : List Row → Int), (∀ r ∈ xs, L r = 0) → Ex L g (xs ++ [x]) = (-1) ^ xs.length * (L x * g xs) := by
  intro xs_
  induction xs_ with
  | nil =>
    intro g _
    simp [Ex]
  | cons r xs ih_ =>
    intro g h
    simp only [List.cons_append, Ex]
    rw [ih_ _ fun r' hr' => h r' (by simp [hr']), h r (by simp), List.length_cons, Int.pow_succ]
    grind
theorem negpow_sq (k : Nat) : ((-1 : Int) ^ k) * (-1) ^ k = 1 := by
  induction k with
  | zero => rfl
  | succ k ih => rw [Int.pow_succ]; grind

theorem Ex_zero {l : Row → Int} : ∀ (vs : List Row) (g : List Row → Int), (∀ v ∈ vs, l v = 0) → Ex l g vs = 0 := by
  intro vs_
  induction vs_ with
  | nil =>
    intro g _
    exact rfl
  | cons v vs ih_ =>
    intro g h
    simp only [Ex]
    rw [h v (by simp), ih_ _ fun v' hv' => h v' (by simp [hv'])]
    exact liq (r1 _) (.sub (.mulL 0 V0) N0) N0 [] rfl
theorem Ex_block {l : Row → Int} {vs : List Row} (hv : ∀ v ∈ vs, l v = 0) (K : Int) : ∀ (xs : List Row) (g f : List Row → Int), (∀ t, t.length + 1 = xs.length → g (t ++ vs) = f t * K) → Ex l g (xs ++ vs) = Ex l f xs * K := by
  intro xs_
  induction xs_ with
  | nil =>
    intro g f _
    simp [Ex, Ex_zero vs g hv]
  | cons x xs ih_ =>
    intro g f h
    simp only [List.cons_append, Ex]
    rw [h xs rfl, ih_ (fun t => g (x :: t)) (fun t => f (x :: t)) fun t ht => h (x :: t) (by simp [ht])]
    grind
theorem det_block (cs2 : List Nat) (vs : List Row) : ∀ (cs1 : List Nat) (xs : List Row), xs.length = cs1.length → (∀ v ∈ vs, ∀ c ∈ cs1, v c = 0) → det (cs1 ++ cs2) (xs ++ vs) = det cs1 xs * det cs2 vs := by
  intro cs1_
  induction cs1_ with
  | nil =>
    intro xs hl _
    have : xs = [] := List.length_eq_zero_iff.mp hl
    subst this; simp [det]
  | cons c cs1 ih_ =>
    intro xs hl h
    rw [List.cons_append, qo, qo]
    refine Ex_block (fun v hv => h v hv c (by simp)) _ xs _ _ fun t ht => ?_
    exact ih_ t (by simp at hl; exact eqN (liq (r3 _ _ _) V0 V1 [(2,1,V2,.add V1 N1),(2,1,.add V0 N1,V2)] rfl (eqI hl) (eqI ht))) fun v hv c' hc' => h v hv c' (by simp [hc'])
theorem Ex_agree {l : Row → Int} {u v : Row} (h : l u = l v) : ∀ (xs : List Row) (g : List Row → Int) (ys), (∀ a b, g (a ++ u :: b) = g (a ++ v :: b)) → Ex l g (xs ++ u :: ys) = Ex l g (xs ++ v :: ys) := by
  intro xs_
  induction xs_ with
  | nil =>
    intro g ys hg
    simp only [List.nil_append, Ex, h]
    rw [show (fun t => g (u :: t)) = fun t => g (v :: t) from funext fun t => hg [] t]
  | cons x xs ih_ =>
    intro g ys hg
    simp only [List.cons_append, Ex]
    rw [hg xs ys, ih_ (fun t => g (x :: t)) ys fun a b => hg (x :: a) b]
theorem zdK {u v : Row} : ∀ (cs : List Nat), (∀ c ∈ cs, u c = v c) → ∀ xs ys, det cs (xs ++ u :: ys) = det cs (xs ++ v :: ys) := by
  intro cs_
  induction cs_ with
  | nil =>
    intro _ xs ys
    cases xs <;> simp [det]
  | cons c cs ih_ =>
    intro h xs ys
    rw [qo, qo]
    exact Ex_agree (h c (by simp)) xs _ ys fun a b => ih_ (fun c' hc' => h c' (by simp [hc'])) a b
theorem ziy {u : Row} {cs : List Nat} (h : ∀ c ∈ cs, u c = 0) (xs ys) : det cs (xs ++ u :: ys) = 0 := by
  have h1 := zdK (u := u) (v := fun j => 0 * u j + 0 * u j) cs (fun c hc => by simp [h c hc]) xs ys
  rw [h1, zaW cs]; exact liq (r1 _) (.add (.mulL 0 V0) (.mulL 0 V0)) N0 [] rfl
theorem Ex_map (l : Row → Int) (φ : Row → Row) : ∀ (rows : List Row) (g : List Row → Int), Ex l g (rows.map φ) = Ex (fun r => l (φ r)) (fun t => g (t.map φ)) rows := by
  intro rs_
  induction rs_ with
  | nil =>
    intro g
    exact rfl
  | cons r rs ih_ =>
    intro g
    simp only [List.map_cons, Ex]
    rw [ih_]
theorem det_map (τ : Nat → Nat) : ∀ (cs : List Nat) (rows : List Row), det cs (rows.map fun r j => r (τ j)) = det (cs.map τ) rows
  | [], [] => rfl
  | [], _ :: _ => rfl
  | c :: cs, rows => by
    rw [List.map_cons, qo, qo, Ex_map, show (fun t : List Row => det cs (t.map fun r j => r (τ j))) = det (cs.map τ) from funext fun t => det_map τ cs t]
    rfl

theorem Ex_bound {l : Row → Int} {B G : Nat} : ∀ (rows : List Row) (g : List Row → Int), (∀ r ∈ rows, (l r).natAbs ≤ B) → (∀ t, (∀ x ∈ t, x ∈ rows) → t.length ≤ rows.length → (g t).natAbs ≤ G) → (Ex l g rows).natAbs ≤ rows.length * (B * G) := by
  intro rs_
  induction rs_ with
  | nil =>
    intro g _ _
    simp [Ex]
  | cons r rs ih_ =>
    intro g hb hg
    simp only [Ex]
    have h1 := ih_ (fun t => g (r :: t)) (fun x hx => hb x (by simp [hx])) fun t ht htl => hg (r :: t) (fun x hx => by
      rcases List.mem_cons.mp hx with rfl | hx
      · simp
      · simp [ht x hx]) (by simp; assumption)
    have h2 : (l r * g rs).natAbs ≤ B * G := by
      rw [Int.natAbs_mul]
      exact Nat.mul_le_mul (hb r (by simp)) (hg rs (fun x hx => by simp [hx]) (by simp))
    have h3 := Int.natAbs_sub_le (l r * g rs) (Ex l (fun t => g (r :: t)) rs)
    rw [List.length_cons, Nat.succ_mul]
    exact leN (lin (r5 _ _ _ _ _) V0 (.add V1 V2) [(0,1,V3,V1),(0,1,V4,V2),(0,1,V0,.add V4 V3)] rfl (leI h1) (leI h2) (leI h3))
theorem zbS {B N : Nat} : ∀ (cs : List Nat) (rows : List Row), (∀ r ∈ rows, ∀ c ∈ cs, (r c).natAbs ≤ B) → rows.length ≤ N → (det cs rows).natAbs ≤ (N * B) ^ cs.length
  | [], [], _, _ => by simp [det]
  | [], _ :: _, _, _ => by simp [det]
  | c :: cs, rows, h, hn => by
    rw [qo, List.length_cons, Nat.pow_succ]
    have := Ex_bound (l := ev c) (B := B) (G := (N * B) ^ cs.length) rows (det cs) (fun r hr => h r hr c (by simp)) fun t ht htl =>
      zbS cs t (fun r hr c' hc' => h r (ht r hr) c' (by simp [hc'])) (by exact Nat.le_trans ‹_› ‹_›)
    refine Nat.le_trans this ?_
    have h1 : rows.length * (B * (N * B) ^ cs.length) ≤ N * (B * (N * B) ^ cs.length) := Nat.mul_le_mul_right _ hn
    have h2 : N * (B * (N * B) ^ cs.length) = (N * B) ^ cs.length * (N * B) := by rw [← Nat.mul_assoc, Nat.mul_comm]
    exact leN (lin (r3 _ _ _) V0 V1 [(0,1,V0,V2),(2,1,V2,V1)] rfl (leI h1) (eqI h2))
end Mine
end
section
namespace Mine
noncomputable def Vk (k : Nat) (R : List Row) (x : Row) : Row := fun j => det (List.range k ++ [j]) (R.take k ++ [x])
noncomputable def pk (k : Nat) (R : List Row) : Int := det (List.range k) (R.take k)
theorem Vk_zero (R : List Row) (x : Row) (j : Nat) : Vk 0 R x j = x j := by simp [Vk, det, Ex, ev]
theorem pk_zero (R : List Row) : pk 0 R = 1 := by simp [pk, det]
theorem zhO {k : Nat} (R : List Row) (x : Row) {j : Nat} (hj : j < k) : Vk k R x j = 0 := by
  unfold Vk
  obtain ⟨p, q, hpq⟩ := List.append_of_mem (List.mem_range.mpr hj)
  rw [hpq, List.append_assoc, List.cons_append]
  exact det_eqcol j p q [] _
theorem zhP {k : Nat} {R : List Row} (hk : k ≤ R.length) {L : Row → Int} (hL : ∀ a u b v, L (fun j => a * u j + b * v j) = a * L u + b * L v) (h0 : ∀ r ∈ R.take k, L r = 0) (x : Row) : L (Vk k R x) = pk k R * L x := by
  have e : Vk k R x = fun j => (-1) ^ k * Ex (ev j) (det (List.range k)) (R.take k ++ [x]) + 0 * x j := funext fun j => by
    unfold Vk
    rw [det_last, List.length_range, qo]; exact liq (r2 _ _) V0 (.add V0 (.mulL 0 V1)) [] rfl
  rw [e, hL ((-1) ^ k) (fun j => Ex (ev j) (det (List.range k)) (R.take k ++ [x])), L_Ex hL, Ex_last x (R.take k) _ h0, List.length_take, Nat.min_eq_left hk]
  have := negpow_sq k
  unfold pk
  grind
theorem zbX {R : List Row} {k : Nat} (y : Row) (h : R[k]? = some y) : R.take (k + 1) = R.take k ++ [y] := by
  rw [List.take_add_one, h]; rfl
theorem pk_succ {R : List Row} {k : Nat} {y : Row} (h : R[k]? = some y) : pk (k + 1) R = Vk k R y k := by
  unfold pk Vk
  rw [zbX y h, List.range_succ]
theorem sylvester {R : List Row} {k : Nat} {y : Row} (h : R[k]? = some y) (x : Row) (j : Nat) (hp : pk k R ≠ 0) : Vk (k + 1) R x j * pk k R = Vk k R x j * Vk k R y k - Vk k R x k * Vk k R y j := by
  have hk : k ≤ R.length := by have := (List.getElem?_eq_some_iff.mp h).1; exact Nat.le_of_lt ‹_›
  have hR : (R.take k).length = k := by rw [List.length_take]; lia
  -- the same determinant twice
  have h1 : det (List.range k ++ [k, j]) (R.take k ++ [Vk k R y, Vk k R x]) = pk k R * (Vk k R y k * Vk k R x j - Vk k R x k * Vk k R y j) := by
    rw [det_block [k, j] [Vk k R y, Vk k R x] (List.range k) (R.take k) (by rw [hR, List.length_range])]
    · unfold pk
      congr 1
      simp [det, Ex, ev]
    · intro v hv c hc
      have hc' := List.mem_range.mp hc
      simp only [List.mem_cons, List.not_mem_nil, or_false] at hv
      rcases hv with rfl | rfl
      · exact zhO R y hc'
      · exact zhO R x hc'
  have lin : ∀ (pre post : List Row) (a : Int) (u : Row) (b : Int) (v : Row), det (List.range k ++ [k, j]) (pre ++ (fun j => a * u j + b * v j) :: post) = a * det (List.range k ++ [k, j]) (pre ++ u :: post) + b * det (List.range k ++ [k, j]) (pre ++ v :: post) :=
    fun pre post a u b v => zaW _ pre a u b v post
  have h2 : det (List.range k ++ [k, j]) (R.take k ++ [Vk k R y, Vk k R x]) = pk k R * det (List.range k ++ [k, j]) (R.take k ++ [Vk k R y, x]) := by
    have := zhP hk (L := fun v => det (List.range k ++ [k, j]) ((R.take k ++ [Vk k R y]) ++ v :: [])) (fun a u b v => lin _ _ a u b v) (fun r hr => zhg (zaW _) (zge _) (by simp [hr])) x
    simpa using this
  have h3 : det (List.range k ++ [k, j]) (R.take k ++ [Vk k R y, x]) = pk k R * det (List.range k ++ [k, j]) (R.take k ++ [y, x]) := by
    have := zhP hk (L := fun v => det (List.range k ++ [k, j]) (R.take k ++ v :: [x])) (fun a u b v => lin _ _ a u b v) (fun r hr => zhg (zaW _) (zge _) hr) y
    exact this
  have h4 : det (List.range k ++ [k, j]) (R.take k ++ [y, x]) = Vk (k + 1) R x j := by
    unfold Vk
    rw [zbX y h, List.range_succ]
    simp
  rw [h2, h3, h4] at h1
  have h5 : pk k R * (Vk (k + 1) R x j * pk k R) = pk k R * (Vk k R x j * Vk k R y k - Vk k R x k * Vk k R y j) := by
    grind
  exact Int.eq_of_mul_eq_mul_left hp h5

noncomputable def zY : List Nat → (Nat → Int) → Int
  | [], _ => 0
  | c :: cs, f => f c + zY cs f
noncomputable def yA (c : Nat) : Row := fun j => if j = c then 1 else 0
theorem det_sum {cs : List Nat} (xs ys : List Row) (r : Row) : ∀ (ds : List Nat), det cs (xs ++ (fun j => zY ds fun c => r c * yA c j) :: ys) = zY ds fun c => r c * det cs (xs ++ yA c :: ys) := by
  intro ds_
  induction ds_ with
  | nil =>
    have := ziy (u := fun j => zY [] fun c => r c * yA c j) (cs := cs) (fun c _ => rfl) xs ys
    simpa [zY] using this
  | cons c ds ih_ =>
    have := zaW cs xs (r c) (yA c) 1 (fun j => zY ds fun c => r c * yA c j) ys
    rw [ih_] at this
    simp only [zY]
    simpa using this
theorem zdC (r : Row) : ∀ (ds : List Nat) (j : Nat), ds.Nodup → j ∈ ds → (zY ds fun c => r c * yA c j) = r j := by
  intro ds_
  induction ds_ with
  | nil =>
    intro j _ h
    simp at h
  | cons c ds ih_ =>
    intro j nd h
    simp only [zY]
    have nd' := List.nodup_cons.mp nd
    have z : ∀ (ds : List Nat), j ∉ ds → (zY ds fun c => r c * yA c j) = 0 := by
      intro ds; induction ds with
      | nil => intro _; rfl
      | cons d ds ih =>
        intro hd
        simp only [List.mem_cons, not_or] at hd
        simp only [zY, yA, hd.1, if_false]
        rw [show (zY ds fun c => r c * if j = c then 1 else 0) = 0 from ih hd.2]; exact liq (r1 _) (.add (.mulR V0 0) N0) N0 [] rfl
    by_cases hj : j = c
    · subst hj
      rw [z ds nd'.1]; simp [yA]
    · have hm : j ∈ ds := by rcases List.mem_cons.mp h with h | h; exact absurd h hj; exact h
      rw [ih_ j nd'.2 hm]
      simp [yA, hj]
theorem det_row {cs : List Nat} (nd : cs.Nodup) (xs ys : List Row) (r : Row) : det cs (xs ++ r :: ys) = zY cs fun c => r c * det cs (xs ++ yA c :: ys) := by
  rw [← det_sum xs ys r cs]
  exact zdK cs (fun c hc => (zdC r cs c nd hc).symm) xs ys
theorem zc5 (f : Nat → Int) : ∀ (a b : List Nat), zY (a ++ b) f = zY a f + zY b f := by
  intro a_
  induction a_ with
  | nil =>
    intro b
    simp [zY]
  | cons c a ih_ =>
    intro b
    simp only [List.cons_append, zY, ih_ b]; exact liq (r3 _ _ _) (.add V0 (.add V1 V2)) (.add (.add V0 V1) V2) [] rfl
theorem wm {f : Nat → Int} : ∀ {l : List Nat}, (∀ c ∈ l, f c = 0) → zY l f = 0
  | [], _ => rfl
  | c :: l, h => by simp only [zY]; rw [h c (by simp), wm fun c' hc' => h c' (by simp [hc'])]; decide
theorem jw {f g : Nat → Int} : ∀ {l : List Nat}, (∀ c ∈ l, f c = g c) → zY l f = zY l g
  | [], _ => rfl
  | c :: l, h => by simp only [zY]; rw [h c (by simp), jw fun c' hc' => h c' (by simp [hc'])]
theorem zdV {k n : Nat} (h : k ≤ n) : ∃ q, List.range n = List.range k ++ q ∧ ∀ c ∈ q, k ≤ c ∧ c < n := by
  refine ⟨(List.range n).drop k, ?_, fun c hc => ?_⟩
  · have := List.take_append_drop k (List.range n)
    rw [List.take_range, Nat.min_eq_left h] at this
    exact this.symm
  · obtain ⟨i, hi, hic⟩ := List.getElem_of_mem hc
    simp at hic hi
    lia
theorem zbv (c : Nat) (cs : List Nat) (hc : c ∉ cs) (rows : List Row) : det (c :: cs) (yA c :: rows) = det cs rows := by
  rw [qo]
  simp only [Ex]
  have : (fun t => det cs (yA c :: t)) = fun t => 0 * det cs t := funext fun t => by
    have := ziy (u := yA c) (cs := cs) (fun d hd => by
      have : d ≠ c := by rintro rfl; exact hc hd
      simp [yA, this]) [] t
    rw [List.nil_append] at this
    rw [this]; exact liq (r1 _) N0 (.mulL 0 V0) [] rfl
  rw [this, Ex_mul]
  simp [ev, yA]
theorem cramer {n : Nat} {rows : List Row} {r : Row} (hr : r ∈ rows) : r n * det (List.range n) rows = zY (List.range n) fun i => r i * det ((List.range n).map fun j => if j = i then n else j) rows := by
  have hn : n ∉ List.range n := by simp
  have nd : (n :: List.range n).Nodup := List.nodup_cons.mpr ⟨hn, List.nodup_range⟩
  have h0 : det (n :: List.range n) (r :: rows) = 0 := by
    obtain ⟨p, q, rfl⟩ := List.append_of_mem hr
    exact zf1 (zaW _) (zge _) r q p []
  have h1 := det_row nd [] rows r
  simp only [List.nil_append] at h1
  rw [h0] at h1
  simp only [zY] at h1
  rw [zbv n _ hn] at h1
  have h2 : (zY (List.range n) fun c => r c * det (n :: List.range n) (yA c :: rows)) = zY (List.range n) fun i => - (r i * det ((List.range n).map fun j => if j = i then n else j) rows) := by
    refine jw fun i hi => ?_
    have hin := List.mem_range.mp hi
    obtain ⟨p, q, hpq⟩ := List.append_of_mem hi
    have ndr : (p ++ i :: q).Nodup := by rw [← hpq]; exact List.nodup_range
    have hip : i ∉ p ∧ i ∉ q := by
      rw [List.nodup_append] at ndr
      exact ⟨fun h => ndr.2.2 i h i (by simp) rfl, (List.nodup_cons.mp ndr.2.1).1⟩
    have e1 : det (n :: (p ++ i :: q)) (yA i :: rows) = - det (i :: (p ++ n :: q)) (yA i :: rows) := by
      have := det_tr n i q p [] (yA i :: rows)
      simpa using this
    have e2 : (p ++ i :: q).map (fun j => if j = i then n else j) = p ++ n :: q := by
      rw [List.map_append, List.map_cons]
      simp only [if_true]
      have f : ∀ l : List Nat, i ∉ l → l.map (fun j => if j = i then n else j) = l := by
        intro l; induction l with
        | nil => intro _; rfl
        | cons a l ih =>
          intro h
          simp only [List.mem_cons, not_or] at h
          rw [List.map_cons, ih h.2, if_neg (Ne.symm h.1)]
      rw [f p hip.1, f q hip.2]
    rw [hpq, e1, e2, zbv i]
    · grind
    · simp only [List.mem_append, List.mem_cons, not_or]
      exact ⟨hip.1, by exact (fun h_ => lif (r2 _ _) [(1,1,V0,V1),(2,-1,V0,V1)] rfl (ltI hin) (eqI h_)), hip.2⟩
  rw [h2] at h1
  have h3 : ∀ (f : Nat → Int) (l : List Nat), (zY l fun i => - f i) = - zY l f := by
    intro f l; induction l with
    | nil => rfl
    | cons a l ih => simp only [zY, ih]; exact liq (r2 _ _) (.add (.neg V0) (.neg V1)) (.neg (.add V0 V1)) [] rfl
  rw [h3 fun i => r i * det ((List.range n).map fun j => if j = i then n else j) rows] at h1
  exact liq (r2 _ _) V0 V1 [(2,-1,N0,.add V0 (.neg V1))] rfl h1
end Mine
end
section
namespace Mine
noncomputable abbrev Rd2 := List (Int × Int)
noncomputable def jp (rs : Rd2) : Rd2 := rs.flatMap fun p => [(p.1, p.2), (p.2, p.1)]
noncomputable def ja : Rd2 → (Int × Int → Int) → Int
  | [], _ => 0
  | a :: l, f => f a + ja l f
theorem zc7 (f) : ∀ (a b : Rd2), ja (a ++ b) f = ja a f + ja b f := by
  intro a_
  induction a_ with
  | nil =>
    intro b
    simp [ja]
  | cons x a ih_ =>
    intro b
    simp only [List.cons_append, ja, ih_ b]; exact liq (r3 _ _ _) (.add V0 (.add V1 V2)) (.add (.add V0 V1) V2) [] rfl
theorem zc6 (x y : Int) (f g : Int × Int → Int) : ∀ l : Rd2, (ja l fun a => x * f a + y * g a) = x * ja l f + y * ja l g := by
  intro l_
  induction l_ with
  | nil =>
    simp [ja]
  | cons a l ih_ =>
    simp only [ja, ih_]; grind
theorem jx {f g : Int × Int → Int} : ∀ {l : Rd2}, (∀ a ∈ l, f a = g a) → ja l f = ja l g
  | [], _ => rfl
  | a :: l, h => by simp only [ja]; rw [h a (by simp), jx fun b hb => h b (by simp [hb])]
theorem j2 {f g : Int × Int → Int} : ∀ {l : Rd2}, (∀ a ∈ l, f a ≤ g a) → ja l f ≤ ja l g
  | [], _ => by simp [ja]
  | a :: l, h => by
    simp only [ja]
    have h1 := h a (by simp)
    have h2 := j2 (l := l) fun b hb => h b (by simp [hb])
    exact lin (r4 _ _ _ _) (.add V0 V1) (.add V2 V3) [(0,1,V0,V2),(0,1,V1,V3)] rfl h1 h2
theorem zaL {f : Int × Int → Int} {l : Rd2} (h : ∀ a ∈ l, f a = 0) : ja l f = 0 := by
  rw [jx (g := fun _ => 0) h]
  induction l with
  | nil => rfl
  | cons a l ih => simp only [ja]; rw [ih fun b hb => h b (by simp [hb])]; decide
theorem zco {f : Int × Int → Int} : ∀ {l : Rd2}, (∀ a ∈ l, f a ≤ 0) → 0 ≤ ja l f → ∀ a ∈ l, f a = 0
  | [], _, _, a, h => by simp at h
  | b :: l, h, h0, a, ha => by
    simp only [ja] at h0
    have h1 := h b (by simp)
    have h2 := j2 (l := l) (f := f) (g := fun _ => 0) fun c hc => h c (by simp [hc])
    rw [zaL (l := l) (f := fun _ => 0) fun _ _ => rfl] at h2
    rcases List.mem_cons.mp ha with rfl | ha
    · exact Int.le_antisymm (h1) (lin (r2 _ _) N0 V0 [(0,1,V1,N0),(0,1,N0,.add V0 V1)] rfl h2 h0)
    · exact zco (fun c hc => h c (by simp [hc])) (by exact lin (r2 _ _) N0 V0 [(0,1,N0,.add V1 V0),(0,1,V1,N0)] rfl h0 h1) a ha
theorem zaS {rs : Rd2} {a : Int × Int} : a ∈ jp rs ↔ a ∈ rs ∨ (a.2, a.1) ∈ rs := by
  unfold jp
  simp only [List.mem_flatMap, List.mem_cons, List.not_mem_nil, or_false]
  constructor
  · rintro ⟨p, hp, rfl | rfl⟩
    · exact .inl hp
    · exact .inr hp
  · rintro (h | h)
    · exact ⟨a, h, .inl rfl⟩
    · exact ⟨_, h, .inr rfl⟩
noncomputable def tx (m : Int) (t : Nat → Int) (e : Int) : Int := if e < m then t e.toNat else 0
noncomputable def lap (m : Int) (rs : Rd2) (t : Nat → Int) (v : Nat) : Int := ja (jp rs) fun a => if a.1 = (v : Int) then t v - tx m t a.2 else 0
noncomputable def zV (rs : Rd2) (v : Nat) : Int := ja (jp rs) fun a => if a.1 = (v : Int) then 1 else 0
noncomputable def zbG (rs : Rd2) (v u : Nat) : Int := ja (jp rs) fun a => if a.1 = (v : Int) then (if u = v then 1 else 0) - (if a.2 = (u : Int) then 1 else 0) else 0
theorem wC (m rs) (x y : Int) (f g : Nat → Int) (v : Nat) : lap m rs (fun u => x * f u + y * g u) v = x * lap m rs f v + y * lap m rs g v := by
  unfold lap
  rw [← zc6]
  refine jx fun a _ => ?_
  unfold tx
  by_cases h : a.1 = (v : Int) <;> by_cases h2 : a.2 < m <;> simp [h, h2] <;> grind
theorem lap_congr {m rs} {f g : Nat → Int} {v : Nat} (hv : (v : Int) < m) (he : ∀ p ∈ rs, (0 ≤ p.1 ∧ p.1 ≤ m) ∧ (0 ≤ p.2 ∧ p.2 ≤ m) ∧ p.1 ≠ p.2) (h : ∀ u : Nat, (u : Int) < m → f u = g u) : lap m rs f v = lap m rs g v := by
  unfold lap
  refine jx fun a ha => ?_
  have hr : 0 ≤ a.2 := by
    rcases zaS.mp ha with h | h
    · exact (he _ h).2.1.1
    · exact (he _ h).1.1
  rw [h v hv]
  have : tx m f a.2 = tx m g a.2 := by
    unfold tx
    by_cases h2 : a.2 < m
    · rw [if_pos h2, if_pos h2]; exact h _ (by exact lit (r3 _ _ _) V0 V1 [(1,1,V2,V1),(2,1,V0,V2)] rfl h2 (tnn (hr)))
    · rw [if_neg h2, if_neg h2]
  rw [this]
theorem zc4 (x y : Int) (f g : Nat → Int) : ∀ l : List Nat, (zY l fun a => x * f a + y * g a) = x * zY l f + y * zY l g := by
  intro l_
  induction l_ with
  | nil =>
    simp [zY]
  | cons a l ih_ =>
    simp only [zY, ih_]; grind
theorem zeS {f g : Nat → Int} : ∀ {l : List Nat}, (∀ a ∈ l, f a ≤ g a) → zY l f ≤ zY l g
  | [], _ => by simp [zY]
  | a :: l, h => by
    simp only [zY]
    have h1 := h a (by simp)
    have h2 := zeS (l := l) fun b hb => h b (by simp [hb])
    exact lin (r4 _ _ _ _) (.add V0 V1) (.add V2 V3) [(0,1,V0,V2),(0,1,V1,V3)] rfl h1 h2
theorem zg9 {m : Int} {rs : Rd2} (he : ∀ p ∈ rs, (0 ≤ p.1 ∧ p.1 ≤ m) ∧ (0 ≤ p.2 ∧ p.2 ≤ m) ∧ p.1 ≠ p.2) (t : Nat → Int) {v : Nat} (hv : (v : Int) < m) : (zY (List.range m.toNat) fun u => zbG rs v u * t u) = lap m rs t v := by
  have he' : ∀ a ∈ jp rs, 0 ≤ a.2 ∧ a.2 ≤ m := fun a ha => by
    rcases zaS.mp ha with h | h
    · exact (he _ h).2.1
    · exact (he _ h).1
  unfold zbG lap
  generalize jp rs = l at he'
  induction l with
  | nil => simp only [ja]; exact wm fun c _ => by exact liq (r1 _) (.mulL 0 V0) N0 [] rfl
  | cons a l ih =>
    simp only [ja]
    rw [← ih fun b hb => he' b (by simp [hb])]
    have ha := he' a (by simp)
    have h1 := zc4 1 1 (fun u => (if a.1 = (v : Int) then (if u = v then 1 else 0) - (if a.2 = (u : Int) then 1 else 0) else 0) * t u) (fun u => (ja l fun a => if a.1 = (v : Int) then (if u = v then 1 else 0) - (if a.2 = (u : Int) then 1 else 0) else 0) * t u) (List.range m.toNat)
    rw [Int.one_mul, Int.one_mul] at h1
    have e1 : (zY (List.range m.toNat) fun u => ((if a.1 = (v : Int) then (if u = v then 1 else 0) - (if a.2 = (u : Int) then 1 else 0) else 0) + ja l fun a => if a.1 = (v : Int) then (if u = v then 1 else 0) - (if a.2 = (u : Int) then 1 else 0) else 0) * t u) =
        zY (List.range m.toNat) fun u => 1 * ((if a.1 = (v : Int) then (if u = v then 1 else 0) - (if a.2 = (u : Int) then 1 else 0) else 0) * t u) + 1 * ((ja l fun a => if a.1 = (v : Int) then (if u = v then 1 else 0) - (if a.2 = (u : Int) then 1 else 0) else 0) * t u) :=
      jw fun u _ => by rw [Int.add_mul]; exact liq (r2 _ _) (.add V0 V1) (.add (.mulL 1 V0) (.mulL 1 V1)) [] rfl
    rw [e1, h1]
    congr 1
    by_cases h : a.1 = (v : Int)
    · simp only [h, if_true]
      have h2 := zc4 1 (-1) (fun u => t u * yA u v) (fun u => if a.2 = (u : Int) then t u else 0) (List.range m.toNat)
      have e2 : (zY (List.range m.toNat) fun u => ((if u = v then 1 else 0) - (if a.2 = (u : Int) then 1 else 0)) * t u) = zY (List.range m.toNat) fun u => 1 * (t u * yA u v) + -1 * (if a.2 = (u : Int) then t u else 0) := by
        refine jw fun u _ => ?_
        unfold yA
        by_cases hu : u = v <;> by_cases hu2 : a.2 = (u : Int) <;> simp [hu, hu2, eq_comm] <;> (try (first | exact liq (r1 _) (.add V0 (.neg V0)) N0 [] rfl | lia)) <;> (try (subst hu; simp_all))
        all_goals (have hvu : ¬ v = u := fun e => hu e.symm); simp_all
      rw [e2, h2, zdC t _ v List.nodup_range (by simp; assumption)]
      have e3 : (zY (List.range m.toNat) fun u => if a.2 = (u : Int) then t u else 0) = tx m t a.2 := by
        unfold tx
        by_cases hm : a.2 < m
        · rw [if_pos hm]
          have := zdC t (List.range m.toNat) a.2.toNat List.nodup_range (by simp; lia)
          rw [← this]
          refine jw fun u _ => ?_
          unfold yA
          by_cases hu : a.2 = (u : Int)
          · have : a.2.toNat = u := by exact eqN (liq (r3 _ _ _) V0 V1 [(2,1,V2,V1),(2,1,V0,V2)] rfl hu (tnn (ha.1)))
            simp [hu]
          · have : ¬ a.2.toNat = u := by exact (fun h_ => lif (r3 _ _ _) [(2,-1,V0,V1),(2,1,V0,V2),(1,1,V2,V1)] rfl (eqI h_) (tnn (ha.1)) (w9 (lin (r3 _ _ _) V0 V1 [(2,1,V2,V1),(2,-1,V2,V0)] rfl (eqI h_) (tnn (ha.1))) hu))
            simp [hu, this]
        · rw [if_neg hm]
          refine wm fun u hu => ?_
          have := List.mem_range.mp hu
          have : ¬ a.2 = (u : Int) := by exact (fun h_ => lif (r3 _ _ _) [(4,1,V0,V1),(1,1,V2,V1),(2,1,V0,V2)] rfl hm (Int.lt_toNat.mp this) h_)
          simp [this]
      rw [e3]; exact liq (r2 _ _) (.add (.mulL 1 V0) (.mulL (-1) V1)) (.sub V0 V1) [] rfl
    · simp only [h, if_false]
      exact wm fun u _ => by exact liq (r1 _) (.mulL 0 V0) N0 [] rfl
end Mine
end
section
namespace Mine
theorem zcs (z : Nat → Int) : ∀ n : Nat, 0 < n → ∃ v, v < n ∧ ∀ u, u < n → z v ≤ z u
  | 0, h => by exact lif (r1 0) [(1,1,N0,N0)] rfl (ltI h)
  | 1, _ => ⟨0, by assumption, fun u hu => by
    have e : u = 0 := by exact eqN (Int.le_antisymm (lin (r1 _) V0 N0 [(1,1,V0,N1)] rfl (ltI hu)) ((nnI _)))
    subst e; exact Int.le_refl _⟩
  | n + 2, _ => by
    obtain ⟨v, hv, h⟩ := zcs z (n + 1) (by exact Nat.le_of_ble_eq_true rfl)
    by_cases hc : z (n + 1) ≤ z v
    · exact ⟨n + 1, by exact Nat.le_refl _, fun u hu => by
        by_cases e : u = n + 1
        · subst e; exact Int.le_refl _
        · have := h u (by exact ltN ((ww (lin (r2 (↑(u)) (↑(n))) V0 (.add V1 N1) [(1,1,V0,.add V1 (.num 2))] rfl (ltI hu)) e))); exact Int.le_trans ‹_› ‹_›⟩
    · exact ⟨v, by exact ltN (lit (r2 (↑(v)) (↑(n))) V0 (.add V1 (.num 2)) [(1,1,V0,.add V1 N1)] rfl (ltI hv)), fun u hu => by
        by_cases e : u = n + 1
        · subst e; exact lin (r2 _ _) V0 V1 [(3,1,V1,V0)] rfl hc
        · exact h u (by exact ltN ((ww (lin (r2 (↑(u)) (↑(n))) V0 (.add V1 N1) [(1,1,V0,.add V1 (.num 2))] rfl (ltI hu)) e)))⟩
section
variable {m : Int} {rs : Rd2}
theorem Net.arc (n : Net m rs) {a : Int × Int} (ha : a ∈ jp rs) : (0 ≤ a.1 ∧ a.1 ≤ m) ∧ (0 ≤ a.2 ∧ a.2 ≤ m) := by
  rcases zaS.mp ha with h | h
  · exact ⟨(n.ends _ h).1, (n.ends _ h).2.1⟩
  · exact ⟨(n.ends _ h).2.1, (n.ends _ h).1⟩
theorem Net.arc_ne (n : Net m rs) {a : Int × Int} (ha : a ∈ jp rs) : a.1 ≠ a.2 := by
  rcases zaS.mp ha with h | h
  · exact (n.ends _ h).2.2
  · exact fun e => (n.ends _ h).2.2 e.symm
theorem Net.nowhere (n : Net m rs) (p : Int → Prop) (hp : ¬ p m) (hc : ∀ a ∈ jp rs, a.1 < m → p a.1 → p a.2) : ∀ k, 0 ≤ k → k < m → ¬ p k := by
  have hc' : ∀ a ∈ jp rs, p a.1 → p a.2 := fun a ha h => by
    by_cases e : a.1 < m
    · exact hc a ha e h
    · have := (n.arc ha).1
      have : a.1 = m := by exact Int.le_antisymm (this.2) (lin (r2 _ _) V0 V1 [(4,1,V1,V0)] rfl e)
      rw [this] at h; exact absurd h hp
  intro k h0 hk
  have key : ∀ {a b}, yD rs a b → ¬ p a → ¬ p b := by
    intro a b h
    induction h with
    | refl => exact id
    | @fwd x y _ hm ih => exact fun ha hb => ih ha (hc' (y, x) (zaS.mpr (.inr hm)) hb)
    | @bwd x y _ hm ih => exact fun ha hb => ih ha (hc' (y, x) (zaS.mpr (.inl hm)) hb)
  exact key (n.conn k h0 hk) hp
theorem min2 (n : Net m rs) {z : Nat → Int} (h : ∀ v : Nat, (v : Int) < m → 0 ≤ z v ∨ 0 ≤ lap m rs z v) : ∀ v : Nat, (v : Int) < m → 0 ≤ z v := by
  intro v hv
  obtain ⟨w, hw, hmin⟩ := zcs z m.toNat (by exact ltN (lit (r3 _ _ _) N0 V0 [(1,1,V1,V2),(0,1,N0,V1),(2,-1,V0,V2)] rfl hv (nnI _) (tnn (lin (r2 _ _) N0 V0 [(1,1,V1,V0),(0,1,N0,V1)] rfl hv (nnI _)))))
  by_cases hneg : 0 ≤ z w
  · have := hmin v (by exact Mine.wG ‹_›); exact Int.le_trans ‹_› ‹_›
  · exfalso
    have hw' : (w : Int) < m := by exact (Int.lt_toNat.mp hw)
    refine n.nowhere (fun e => tx m z e = z w) ?_ ?_ w (by exact nnI _) hw' ?_
    · simp only [tx, Int.lt_irrefl, if_false]; exact (fun h_ => lif (r1 _) [(3,1,N0,V0),(2,1,N0,V0)] rfl hneg h_)
    · intro a ha ha1 hpa
      obtain ⟨⟨r1, _⟩, r2, r3⟩ := n.arc ha
      have hza : z a.1.toNat = z w := by simpa [tx, ha1] using hpa
      have hl := (h a.1.toNat (by lia)).resolve_left (by lia)
      unfold lap at hl
      have hle : ∀ b ∈ jp rs, (if b.1 = (a.1.toNat : Int) then z a.1.toNat - tx m z b.2 else 0) ≤ 0 := by
        intro b hb
        split
        · have hb2 := (n.arc hb).2
          rw [hza]
          unfold tx
          split
          · have := hmin b.2.toNat (by lia); lia
          · lia
        · decide
      have := zco hle hl a ha
      have e : a.1 = (a.1.toNat : Int) := by lia
      rw [if_pos e] at this
      lia
    · have : (w : Int).toNat = w := by rfl
      simp [tx, hw', this]
theorem y7 (n : Net m rs) {z : Nat → Int} (h : ∀ v : Nat, (v : Int) < m → 0 ≤ lap m rs z v) : ∀ v : Nat, (v : Int) < m → 0 ≤ z v := min2 n fun v hv => .inr (h v hv)
theorem zb4 (z : Nat → Int) (v : Nat) : lap m rs (fun u => - z u) v = - lap m rs z v := by
  have := wC m rs (-1) 0 z z v
  have e : (fun u => -1 * z u + 0 * z u) = fun u => - z u := funext fun u => by exact liq (r1 _) (.add (.mulL (-1) V0) (.mulL 0 V0)) (.neg V0) [] rfl
  rw [e] at this; exact liq (r2 _ _) V0 (.neg V1) [(2,1,V0,.add (.mulL (-1) V1) (.mulL 0 V1))] rfl this
theorem lap_inj (n : Net m rs) {z : Nat → Int} (h : ∀ v : Nat, (v : Int) < m → lap m rs z v = 0) : ∀ v : Nat, (v : Int) < m → z v = 0 := by
  intro v hv
  have h1 := y7 n (z := z) (fun v hv => by rw [h v hv]; decide) v hv
  have h2 := y7 n (z := fun u => - z u) (fun v hv => by rw [zb4, h v hv]; decide) v hv
  exact Int.le_antisymm (lin (r1 _) V0 N0 [(0,1,N0,.neg V0)] rfl h2) (h1)
noncomputable def ju (m : Int) (rs : Rd2) : List Row := (List.range m.toNat).map fun v => zbG rs v
noncomputable def D (m : Int) (rs : Rd2) : Int := det (List.range m.toNat) (ju m rs)
noncomputable def zgO (m : Int) (rs : Rd2) (b : Nat → Int) (v : Nat) : Row := fun u => if u = m.toNat then b v else zbG rs v u
noncomputable def zcH (m : Int) (rs : Rd2) (b : Nat → Int) (i : Nat) : Int := det ((List.range m.toNat).map fun j => if j = i then m.toNat else j) ((List.range m.toNat).map (zgO m rs b))
theorem wL {cs : List Nat} {ι : Type} {f g : ι → Row} : ∀ (l : List ι) (pre : List Row), (∀ i ∈ l, ∀ c ∈ cs, f i c = g i c) → det cs (pre ++ l.map f) = det cs (pre ++ l.map g)
  | [], pre, _ => rfl
  | i :: l, pre, h => by
    rw [List.map_cons, List.map_cons, zdK cs (fun c hc => h i (by simp) c hc) pre (l.map f)]
    have := wL (f := f) (g := g) l (pre ++ [g i]) fun j hj => h j (by simp [hj])
    simpa using this
theorem zfi (n : Net m rs) (b : Nat → Int) {v : Nat} (hv : (v : Int) < m) : lap m rs (zcH m rs b) v = D m rs * b v := by
  have h := cramer (n := m.toNat) (rows := (List.range m.toNat).map (zgO m rs b)) (r := zgO m rs b v) (List.mem_map.mpr ⟨v, by simp; assumption, rfl⟩)
  have e1 : zgO m rs b v m.toNat = b v := by simp [zgO]
  have e2 : det (List.range m.toNat) ((List.range m.toNat).map (zgO m rs b)) = D m rs := by
    have := wL (cs := List.range m.toNat) (f := zgO m rs b) (g := fun v => zbG rs v) (List.range m.toNat) [] fun i _ c hc => by
      have := List.mem_range.mp hc
      have : ¬ c = m.toNat := by exact (fun h_ => lif (r2 _ _) [(1,1,V0,V1),(2,-1,V0,V1)] rfl (ltI this) (eqI h_))
      simp [zgO, this]
    exact this
  rw [e1, e2] at h
  rw [← zg9 n.ends _ hv, Int.mul_comm, h]
  refine jw fun u hu => ?_
  have := List.mem_range.mp hu
  have : ¬ u = m.toNat := by exact (fun h_ => lif (r2 _ _) [(1,1,V0,V1),(2,-1,V0,V1)] rfl (ltI this) (eqI h_))
  simp [zgO, zcH, this]
end
section
variable {m : Int} {rs : Rd2}
noncomputable def Nn (m : Int) (t : Nat → Int) : Prop := ∀ v : Nat, (v : Int) < m → 0 ≤ t v
noncomputable def Stab (m : Int) (rs : Rd2) (h t : Nat → Int) : Prop := ∀ v : Nat, (v : Int) < m → h v - lap m rs t v < zV rs v
noncomputable def LowB (m : Int) (rs : Rd2) (h t : Nat → Int) : Prop := ∀ t', Nn m t' → Stab m rs h t' → ∀ v : Nat, (v : Int) < m → t v ≤ t' v
theorem yC (t : Nat → Int) (v : Nat) : lap m rs t v = zV rs v * t v - ja (jp rs) fun a => if a.1 = (v : Int) then tx m t a.2 else 0 := by
  unfold lap zV
  generalize jp rs = l
  induction l with
  | nil => simp [ja]
  | cons a l ih =>
    simp only [ja]
    rw [ih]
    by_cases h : a.1 = (v : Int) <;> simp [h] <;> grind
theorem zhu (v : Nat) : 0 ≤ zV rs v := by
  unfold zV
  have := j2 (l := jp rs) (f := fun _ => 0) (g := fun a => if a.1 = (v : Int) then 1 else 0) fun a _ => by split <;> decide
  rw [zaL fun _ _ => rfl] at this
  exact this
theorem zde (n : Net m rs) {v : Nat} (hv : (v : Int) < m) : 0 < zV rs v := by
  by_cases h : 0 < zV rs v
  · exact h
  · exfalso
    have h0 : zV rs v = 0 := by have := zhu (rs := rs) v; exact Int.le_antisymm (lin (r1 _) V0 N0 [(4,1,N0,V0)] rfl h) (this)
    refine n.nowhere (fun e => e = (v : Int)) (by exact Int.ne_of_gt ‹_›) (fun a ha _ ha1 => ?_) v (by exact nnI _) hv rfl
    unfold zV at h0
    have : ja (jp rs) (fun b => - (if b.1 = (v : Int) then 1 else 0)) = 0 := by
      have := zc6 (-1) 0 (fun b : Int × Int => if b.1 = (v : Int) then 1 else 0) (fun _ => 0) (jp rs)
      rw [h0, Int.mul_zero, Int.zero_mul, Int.add_zero] at this
      refine (jx fun b _ => ?_).trans this
      rw [Int.add_zero, Int.neg_mul, Int.one_mul]
    have := zco (l := jp rs) (f := fun b => - (if b.1 = (v : Int) then 1 else 0)) (fun b _ => by split <;> decide) (by exact lin (r1 _) N0 V0 [(2,-1,V0,N0)] rfl this) a ha
    simp [ha1] at this
theorem zhE (n : Net m rs) {t : Nat → Int} (ht : Nn m t) (v : Nat) : 0 ≤ ja (jp rs) fun a => if a.1 = (v : Int) then tx m t a.2 else 0 := by
  have := j2 (l := jp rs) (f := fun _ => 0) (g := fun a => if a.1 = (v : Int) then tx m t a.2 else 0) fun a ha => by
    have := (n.arc ha).2
    split
    · unfold tx; split
      · exact ht _ (by exact lit (r3 _ _ _) V0 V1 [(1,1,V2,V1),(2,1,V0,V2)] rfl ‹_› (tnn (this.1)))
      · decide
    · decide
  rw [zaL fun _ _ => rfl] at this
  exact this
theorem nb_mono (n : Net m rs) {t t' : Nat → Int} (ht : ∀ v : Nat, (v : Int) < m → t v ≤ t' v) (v : Nat) : (ja (jp rs) fun a => if a.1 = (v : Int) then tx m t a.2 else 0) ≤ ja (jp rs) fun a => if a.1 = (v : Int) then tx m t' a.2 else 0 := by
  refine j2 fun a ha => ?_
  have := (n.arc ha).2
  split
  · unfold tx; split
    · exact ht _ (by exact lit (r3 _ _ _) V0 V1 [(1,1,V2,V1),(2,1,V0,V2)] rfl ‹_› (tnn (this.1)))
    · decide
  · decide
theorem degN40 (n : Net m rs) (v : Nat) : zV rs v ≤ 40 := by
  have key : ∀ l : Rd2, (∀ p ∈ l, p.1 ≠ p.2) → zV l v ≤ l.length := by
    intro l
    induction l with
    | nil => intro _; simp [zV, jp, ja]
    | cons p l ih =>
      intro h
      have h1 := ih fun q hq => h q (by simp [hq])
      have h2 := h p (by simp)
      unfold zV jp at h1 ⊢
      simp only [List.flatMap_cons, List.cons_append, List.nil_append, ja, List.length_cons]
      generalize ja (l.flatMap fun p => [(p.1, p.2), (p.2, p.1)]) (fun a => if a.1 = (v : Int) then 1 else 0) = q at h1 ⊢
      split <;> split <;> (first | exact lif (r3 (p.1) (↑(v)) (p.2)) [(2,-1,V0,V1),(2,1,V2,V1),(1,1,V0,V2)] rfl ‹_› ‹_› (w9 (lin (r3 (p.1) (p.2) (↑(v))) V0 V1 [(2,1,V0,V2),(2,-1,V1,V2)] rfl ‹_› ‹_›) h2) | exact lin (r2 _ _) (.add N1 (.add N0 V0)) (.add V1 N1) [(0,1,V0,V1)] rfl h1 | exact lin (r2 _ _) (.add N0 (.add N1 V0)) (.add V1 N1) [(0,1,V0,V1)] rfl h1 | exact lin (r2 _ _) (.add N0 (.add N0 V0)) (.add V1 N1) [(0,1,V0,V1)] rfl h1)
  have := key rs fun p hp => (n.ends p hp).2.2
  have := n.len
  exact lin (r2 _ _) V0 (.num 40) [(0,1,V0,V1),(0,1,V1,.num 40)] rfl ‹_› (leI this)
theorem pk_step (n : Net m rs) {k : Nat} (hk : k < m.toNat) (hp : 0 < pk k (ju m rs)) : 0 < pk (k + 1) (ju m rs) ∧ pk (k + 1) (ju m rs) ≤ zV rs k * pk k (ju m rs) := by
  have hlen : (ju m rs).length = m.toNat := by simp [ju]
  have hget : ∀ v, v < m.toNat → (ju m rs)[v]? = some (zbG rs v) := fun v hv => by simp [ju, hv]
  generalize hR : ju m rs = R at *
  let x : Nat → Int := fun i => if i < k then - det ((List.range k).map fun j => if j = i then k else j) (R.take k) else if i = k then pk k R else 0
  have xk : x k = pk k R := by simp [x]
  have xhi : ∀ i, k < i → x i = 0 := fun i hi => by
    have h1 : ¬ i < k := by exact (fun h_ => lif (r2 _ _) [(1,1,V0,V1),(1,1,V1,V0)] rfl (ltI hi) (ltI h_))
    have h2 : ¬ i = k := by exact Nat.ne_of_gt ‹_›
    simp [x, h1, h2]
  let L : Row → Int := fun r => zY (List.range (k + 1)) fun c => r c * x c
  have hLlin : ∀ a u b v, L (fun j => a * u j + b * v j) = a * L u + b * L v := fun a u b v => by
    show zY _ _ = a * zY _ _ + b * zY _ _
    rw [← zc4]
    exact jw fun c _ => by grind
  have hL0 : ∀ r ∈ R.take k, L r = 0 := fun r hr => by
    have hc := cramer (n := k) (rows := R.take k) hr
    show zY (List.range (k + 1)) _ = 0
    rw [List.range_succ, zc5]
    simp only [zY]
    rw [xk]
    have e : (zY (List.range k) fun c => r c * x c) = - zY (List.range k) fun i => r i * det ((List.range k).map fun j => if j = i then k else j) (R.take k) := by
      have := zc4 (-1) 0 (fun i => r i * det ((List.range k).map fun j => if j = i then k else j) (R.take k)) (fun _ => 0) (List.range k)
      refine (jw fun c hc => ?_).trans (this.trans (by exact liq (r2 _ _) (.add (.mulL (-1) V0) (.mulL 0 V1)) (.neg V0) [] rfl))
      have hc := List.mem_range.mp hc
      simp only [x, hc, if_true]
      grind
    rw [e, ← hc]
    unfold pk
    exact liq (r1 _) (.add (.neg V0) (.add V0 N0)) N0 [] rfl
  have hlapL : ∀ v, v < m.toNat → lap m rs x v = L (zbG rs v) := fun v hv => by
    rw [← zg9 n.ends x (by exact (Int.lt_toNat.mp hv))]
    obtain ⟨q, hq, hqr⟩ := zdV (show k + 1 ≤ m.toNat by assumption)
    rw [hq, zc5, wm (l := q) fun c hc => by rw [xhi c (by have := hqr c hc; exact ltN (lit (r2 _ _) V0 V1 [(0,1,.add V0 N1,V1)] rfl (leI this.1)))]; exact liq (r1 _) (.mulR V0 0) N0 [] rfl]
    show _ = zY _ _
    exact liq (r1 _) (.add V0 N0) V0 [] rfl
  have hpk : pk (k + 1) R = lap m rs x k := by
    have h1 := zhP (R := R) (k := k) (by exact leN (lin (r3 _ _ _) V0 V1 [(1,1,V0,V2),(2,-1,V1,V2)] rfl (ltI hk) (eqI hlen))) hLlin hL0 (zbG rs k)
    have h2 : L (Vk k R (zbG rs k)) = pk (k + 1) R * pk k R := by
      show zY (List.range (k + 1)) _ = _
      rw [List.range_succ, zc5, wm (l := List.range k) fun c hc => by rw [zhO R _ (List.mem_range.mp hc)]; exact liq (r1 _) (.mulL 0 V0) N0 [] rfl]
      simp only [zY]
      rw [xk, ← pk_succ (hget k hk)]
      exact liq (r1 _) (.add N0 (.add V0 N0)) V0 [] rfl
    rw [hlapL k hk]
    rw [h1, Int.mul_comm] at h2
    exact (Int.eq_of_mul_eq_mul_right (by exact Int.ne_of_gt ‹_›) h2).symm
  have hlow : ∀ v, v < k → lap m rs x v = 0 := fun v hv => by
    rw [hlapL v (by exact ltN (lit (r3 _ _ _) V0 V1 [(1,1,V2,V1),(1,1,V0,V2)] rfl (ltI hk) (ltI hv)))]
    refine hL0 _ ?_
    exact List.mem_of_getElem? (i := v) (by rw [List.getElem?_take]; simp [hv, hget v (by exact ltN (lit (r3 _ _ _) V0 V1 [(1,1,V2,V1),(1,1,V0,V2)] rfl (ltI hk) (ltI hv)))])
  have hpos : 0 < pk (k + 1) R := by
    rw [hpk]
    by_cases hc : 0 < lap m rs x k
    · exact hc
    · exfalso
      have := min2 n (z := fun u => - x u) (fun v hv => by
        rcases Nat.lt_trichotomy v k with h | h | h
        · right; rw [zb4, hlow v h]; decide
        · right; subst h; rw [zb4]; exact lin (r1 _) N0 (.neg V0) [(4,1,N0,V0)] rfl hc
        · left; rw [xhi v h]; decide) k (by exact (Int.lt_toNat.mp hk))
      rw [xk] at this
      exact lif (r1 _) [(1,1,N0,V0),(0,1,N0,.neg V0)] rfl hp this
  refine ⟨hpos, ?_⟩
  have hnn : Nn m x := min2 n fun v hv => by
    rcases Nat.lt_trichotomy v k with h | h | h
    · right; rw [hlow v h]; decide
    · right; subst h; exact lin (r2 _ _) N0 V0 [(2,1,V1,V0),(1,1,N0,V1)] rfl hpk hpos
    · left; rw [xhi v h]; decide
  have := yC (m := m) (rs := rs) x k
  have := zhE n hnn k
  rw [hpk, ← xk]
  exact lin (r3 _ _ _) V0 V1 [(2,1,V0,.sub V1 V2),(0,1,N0,V2)] rfl ‹_› this
theorem pk_pos (n : Net m rs) : ∀ k, k ≤ m.toNat → 0 < pk k (ju m rs) ∧ pk k (ju m rs) ≤ 40 ^ k
  | 0, _ => by rw [pk_zero]; exact ⟨by decide, by decide⟩
  | k + 1, h => by
    obtain ⟨h1, h2⟩ := pk_pos n k (by exact Nat.le_of_lt ‹_›)
    obtain ⟨h3, h4⟩ := pk_step n (k := k) ‹_› h1
    refine ⟨h3, Int.le_trans h4 ?_⟩
    rw [Int.pow_succ, Int.mul_comm]
    exact Int.mul_le_mul h2 (degN40 n k) (zhu k) (by exact nnI _)
theorem D_pk : D m rs = pk m.toNat (ju m rs) := by
  unfold D pk
  rw [List.take_of_length_le (by simp [ju])]
theorem D_pos (n : Net m rs) : 0 < D m rs := by rw [D_pk]; exact (pk_pos n _ (Nat.le_refl _)).1
end
end Mine
end
section
namespace Mine
section
variable {m : Int} {rs : Rd2}
theorem le_sumAbs (h : Nat → Int) : ∀ (l : List Nat) (v : Nat), v ∈ l → h v ≤ zY l fun u => (h u).natAbs := by
  intro l_
  induction l_ with
  | nil =>
    intro v hv
    simp at hv
  | cons a l ih_ =>
    intro v hv
    simp only [zY]
    have nn : ∀ l : List Nat, 0 ≤ zY l fun u => (((h u).natAbs : Nat) : Int) := by
      intro l; induction l with
      | nil => simp [zY]
      | cons b l ih => simp only [zY]; exact lin (r2 _ _) N0 (.add V0 V1) [(0,1,N0,V1),(0,1,N0,V0)] rfl ih (nnI _)
    rcases List.mem_cons.mp hv with rfl | hv
    · have := nn l; lia
    · have := ih_ v hv; exact lin (r3 _ _ _) V0 (.add V1 V2) [(0,1,V0,V2),(0,1,N0,V1)] rfl this (nnI _)
theorem zd1 (n : Net m rs) (h : Nat → Int) : ∃ t', Nn m t' ∧ Stab m rs h t' := by
  have hD := D_pos n
  have hnn : Nn m (zcH m rs fun _ => 1) := y7 n fun v hv => by rw [zfi n _ hv]; exact lin (r1 _) N0 (.mulR V0 1) [(1,1,N0,V0)] rfl hD
  have nn : ∀ l : List Nat, 0 ≤ zY l fun u => (((h u).natAbs : Nat) : Int) := by
    intro l; induction l with
    | nil => exact Int.le_refl _
    | cons b l ih => simp only [zY]; exact lin (r2 _ _) N0 (.add V0 V1) [(0,1,N0,V1),(0,1,N0,V0)] rfl ih (nnI _)
  have hK0 := nn (List.range m.toNat)
  have hle : ∀ v : Nat, (v : Int) < m → h v ≤ zY (List.range m.toNat) fun u => (((h u).natAbs : Nat) : Int) := fun v hv => le_sumAbs h _ v (List.mem_range.mpr (by exact Mine.wG ‹_›))
  generalize (zY (List.range m.toNat) fun u => (((h u).natAbs : Nat) : Int)) = K at hK0 hle
  refine ⟨fun u => K * zcH m rs (fun _ => 1) u + 0 * 0, fun v hv => ?_, fun v hv => ?_⟩
  · have := Int.mul_nonneg hK0 (hnn v hv)
    show 0 ≤ K * zcH m rs (fun _ => 1) v + 0 * 0
    exact lin (r1 _) N0 (.add V0 (.mulL 0 N0)) [(0,1,N0,V0)] rfl this
  · rw [wC m rs K 0 (zcH m rs fun _ => 1) (fun _ => 0) v, zfi n _ hv]
    have h1 := hle v hv
    have h2 : K * 1 ≤ K * (D m rs * 1) := Int.mul_le_mul_of_nonneg_left (by exact lin (r1 _) N1 (.mulR V0 1) [(1,1,N0,V0)] rfl hD) hK0
    have := zde n hv
    exact lit (r5 _ _ _ _ _) (.sub V0 (.add V1 (.mulL 0 V2))) V3 [(0,1,V0,V4),(0,1,.mulR V4 1,V1),(1,1,N0,V3)] rfl h1 h2 this
noncomputable def t0 (m : Int) (rs : Rd2) (h : Nat → Int) (v : Nat) : Int := let c := 0 - (0 - zcH m rs (fun u => h u - zV rs u + 1) v).fdiv (D m rs); if c > 0 then c else 0
theorem t0_nn (h : Nat → Int) : Nn m (t0 m rs h) := fun v _ => by unfold t0; simp only; split <;> (first | exact Int.le_of_lt ‹_› | decide)
theorem t0_is (n : Net m rs) (h : Nat → Int) (u : Nat) : zcH m rs (fun u => h u - zV rs u + 1) u ≤ D m rs * t0 m rs h u ∧ (0 < t0 m rs h u → D m rs * t0 m rs h u < zcH m rs (fun u => h u - zV rs u + 1) u + D m rs) := by
  have hD := D_pos n
  unfold t0
  generalize zcH m rs (fun u => h u - zV rs u + 1) u = N
  generalize D m rs = A at hD
  have e := Int.mul_fdiv_add_fmod (0 - N) A
  have h1 := Int.fmod_nonneg_of_pos (0 - N) hD
  have h2 := Int.fmod_lt_of_pos (0 - N) hD
  generalize (0 - N).fdiv A = q at e
  have hm : A * (0 - q) = 0 - A * q := by rw [Int.mul_sub, Int.mul_zero]
  simp only
  split
  · exact ⟨by exact lin (r4 _ _ _ _) V0 V1 [(0,1,N0,V2),(2,1,.add V3 V2,.sub N0 V0),(2,-1,V1,.sub N0 V3)] rfl h1 e hm, fun _ => by exact lit (r5 _ _ _ _ _) V0 (.add V1 V2) [(1,1,V3,V2),(2,-1,.add V4 V3,.sub N0 V1),(2,1,V0,.sub N0 V4)] rfl h2 e hm⟩
  · have : 0 ≤ A * q := Int.mul_nonneg (by exact Int.le_of_lt ‹_›) (by exact lin (r1 _) N0 V0 [(4,1,N0,.sub N0 V0)] rfl ‹_›)
    exact ⟨by exact lin (r4 _ _ _ _) V0 (.mulR V1 0) [(0,1,N0,V2),(2,1,.add V3 V2,.sub N0 V0),(0,1,N0,V3)] rfl h1 e this, fun hx => by exact lif (r1 0) [(1,1,N0,N0)] rfl hx⟩
theorem t0_low (n : Net m rs) (h : Nat → Int) : LowB m rs h (t0 m rs h) := by
  intro t' ht' hst v hv
  have hD := D_pos n
  have hz := y7 n (z := fun u => D m rs * t' u + (-1) * zcH m rs (fun u => h u - zV rs u + 1) u) (fun v hv => by
    rw [wC m rs (D m rs) (-1) t' (zcH m rs fun u => h u - zV rs u + 1) v, zfi n _ hv]
    have h1 := hst v hv
    have h2 : D m rs * (h v - zV rs v + 1) ≤ D m rs * lap m rs t' v := Int.mul_le_mul_of_nonneg_left (by exact lin (r3 _ _ _) (.add (.sub V0 V1) N1) V2 [(1,1,.sub V0 V2,V1)] rfl h1) (by exact Int.le_of_lt ‹_›)
    exact lin (r2 _ _) N0 (.add V0 (.mulL (-1) V1)) [(0,1,V1,V0)] rfl h2) v hv
  have h0 := ht' v hv
  have h1 := (t0_is n h v).2
  by_cases hp : 0 < t0 m rs h v
  · have h2 := h1 hp
    have h3 : D m rs * t0 m rs h v < D m rs * (t' v + 1) := by rw [Int.mul_add, Int.mul_one]; exact lit (r4 _ _ _ _) V0 (.add V1 V2) [(0,1,N0,.add V1 (.mulL (-1) V3)),(1,1,V0,.add V3 V2)] rfl hz h2
    have := Int.lt_of_mul_lt_mul_left h3 (by exact Int.le_of_lt ‹_›)
    exact lin (r2 _ _) V0 V1 [(1,1,V0,.add V1 N1)] rfl this
  · exact lin (r2 _ _) V0 V1 [(0,1,N0,V1),(4,1,N0,V0)] rfl h0 hp
theorem t0_rest (n : Net m rs) {h : Nat → Int} (hh : Nn m h) : ∀ v : Nat, (v : Int) < m → 0 ≤ h v - lap m rs (t0 m rs h) v := by
  intro v hv
  have hD := D_pos n
  by_cases hp : 0 < t0 m rs h v
  · have h1 := wC m rs (D m rs) (-1) (t0 m rs h) (zcH m rs fun u => h u - zV rs u + 1) v
    rw [zfi n _ hv, yC] at h1
    have h3 := zhE n (t := fun u => D m rs * t0 m rs h u + (-1) * zcH m rs (fun u => h u - zV rs u + 1) u) (fun u _ => by have := (t0_is n h u).1; show 0 ≤ D m rs * t0 m rs h u + _; exact lin (r2 _ _) N0 (.add V0 (.mulL (-1) V1)) [(0,1,V1,V0)] rfl this) v
    have h4 := (t0_is n h v).2 hp
    have h5 := zde n hv
    have h6 : zV rs v * (D m rs * t0 m rs h v + (-1) * zcH m rs (fun u => h u - zV rs u + 1) v) ≤ zV rs v * (D m rs - 1) := Int.mul_le_mul_of_nonneg_left (by exact lin (r3 _ _ _) (.add V0 (.mulL (-1) V1)) (.sub V2 N1) [(1,1,V0,.add V1 V2)] rfl h4) (by exact Int.le_of_lt ‹_›)
    rw [Int.mul_sub, Int.mul_one, Int.mul_comm (zV rs v) (D m rs)] at h6
    have h8 : D m rs * lap m rs (t0 m rs h) v < D m rs * (h v + 1) := by
      have e : D m rs * (h v - zV rs v + 1) = D m rs * (h v + 1) - D m rs * zV rs v := by rw [← Int.mul_sub]; congr 1; exact liq (r2 _ _) (.add (.sub V0 V1) N1) (.sub (.add V0 N1) V1) [] rfl
      (first | lia | omega)
    have := Int.lt_of_mul_lt_mul_left h8 (by exact Int.le_of_lt ‹_›)
    (first | lia | omega)
  · have hz0 : t0 m rs h v = 0 := by have := t0_nn (rs := rs) h v hv; exact Int.le_antisymm (lin (r1 _) V0 N0 [(4,1,N0,V0)] rfl hp) (this)
    have h1 := yC (m := m) (rs := rs) (t0 m rs h) v
    have := zhE n (t0_nn (rs := rs) h) v
    rw [hz0, Int.mul_zero] at h1
    have := hh v hv
    exact lin (r3 _ _ _) N0 (.sub V0 V1) [(2,1,V1,.sub N0 V2),(0,1,N0,V2),(0,1,N0,V0)] rfl h1 ‹_› this
noncomputable def upd (f : Nat → Int) (k : Nat) (x : Int) : Nat → Int := fun j => if j = k then x else f j
theorem zc1 (f k x) : upd f k x k = x := by simp [upd]
theorem upd_ne (f) {k j : Nat} (x) (h : j ≠ k) : upd f k x j = f j := by simp [upd, h]
theorem zf6 (n : Net m rs) {v : Nat} (hv : (v : Int) < m) : lap m rs (yA v) v = zV rs v := by
  unfold lap zV
  refine jx fun a ha => ?_
  by_cases h : a.1 = (v : Int)
  · simp only [h, if_true]
    have h1 := n.arc_ne ha
    have h2 := (n.arc ha).2
    have : tx m (yA v) a.2 = 0 := by
      unfold tx yA
      split
      · have : ¬ a.2.toNat = v := by exact (fun h_ => lif (r4 _ _ _ _) [(2,-1,V0,V1),(2,1,V2,V1),(2,-1,V2,V3),(1,1,V0,V3)] rfl h (eqI h_) (tnn (h2.1)) (w9 (lin (r4 _ _ _ _) V0 V1 [(2,1,V0,V2),(2,-1,V3,V2),(2,1,V3,V1)] rfl h (eqI h_) (tnn (h2.1))) h1))
        simp [this]
      · rfl
    rw [this]; simp [yA]
  · simp [h]
theorem zeG (n : Net m rs) {v u : Nat} (hu : u ≠ v) : lap m rs (yA v) u ≤ 0 := by
  rw [yC]
  have h1 := zhE n (t := yA v) (fun w _ => by unfold yA; split <;> decide) u
  have : yA v u = 0 := by simp [yA, hu]
  rw [this]; exact lin (r2 _ _) (.sub (.mulR V0 0) V1) N0 [(0,1,N0,V1)] rfl h1
theorem zhn (t : Nat → Int) (v : Nat) (q : Int) (u : Nat) : lap m rs (upd t v (t v + q)) u = lap m rs t u + q * lap m rs (yA v) u := by
  have := wC m rs 1 q t (yA v) u
  have e : (fun w => 1 * t w + q * yA v w) = upd t v (t v + q) := funext fun w => by
    unfold upd yA; split
    · rename_i h; subst h; exact liq (r2 _ _) (.add (.mulL 1 V0) (.mulR V1 1)) (.add V0 V1) [] rfl
    · exact liq (r2 _ _) (.add (.mulL 1 V0) (.mulR V1 0)) V0 [] rfl
  rw [e] at this; exact liq (r3 _ _ _) V0 (.add V1 V2) [(2,1,V0,.add (.mulL 1 V1) V2)] rfl this
structure zhA (m : Int) (rs : Rd2) (h t : Nat → Int) : Prop where
  nn : Nn m t
  rest : ∀ v : Nat, (v : Int) < m → 0 ≤ h v - lap m rs t v
  low : LowB m rs h t
theorem zhA.step (n : Net m rs) {h t : Nat → Int} (f : zhA m rs h t) {v : Nat} (hv : (v : Int) < m) (hge : zV rs v ≤ h v - lap m rs t v) :
    zhA m rs h (upd t v (t v + (h v - lap m rs t v).fdiv (zV rs v))) ∧ 1 ≤ (h v - lap m rs t v).fdiv (zV rs v) := by
  have hd := zde n hv
  have e := Int.mul_fdiv_add_fmod (h v - lap m rs t v) (zV rs v)
  have r0 := Int.fmod_nonneg_of_pos (h v - lap m rs t v) hd
  have r1 := Int.fmod_lt_of_pos (h v - lap m rs t v) hd
  generalize hq : (h v - lap m rs t v).fdiv (zV rs v) = q at *
  have hq1 : 1 ≤ q := by
    have : zV rs v * 0 < zV rs v * q := by exact lit (r5 _ _ _ _ _) (.mulR V0 0) V1 [(0,1,V0,.sub V2 V3),(1,1,V4,V0),(2,-1,.add V1 V4,.sub V2 V3)] rfl hge r1 e
    have := Int.lt_of_mul_lt_mul_left this (by exact Int.le_of_lt ‹_›)
    assumption
  refine ⟨⟨fun u hu => ?_, fun u hu => ?_, fun t' ht' hst u hu => ?_⟩, hq1⟩
  · unfold upd; split
    · have := f.nn v hv; exact lin (r2 _ _) N0 (.add V0 V1) [(0,1,N1,V1),(0,1,N0,V0)] rfl hq1 this
    · exact f.nn u hu
  · rw [zhn]
    by_cases huv : u = v
    · subst huv
      rw [zf6 n hv]
      have : q * zV rs u = zV rs u * q := Int.mul_comm ..
      exact lin (r5 _ _ _ _ _) N0 (.sub V0 (.add V1 V2)) [(0,1,N0,V3),(2,1,.add V4 V3,.sub V0 V1),(2,1,V2,V4)] rfl r0 e this
    · have h1 := zeG n (v := v) huv
      have h2 := f.rest u hu
      have h3 : q * lap m rs (yA v) u ≤ q * 0 := Int.mul_le_mul_of_nonneg_left h1 (by exact Int.le_of_lt ‹_›)
      exact lin (r4 _ _ _ _) N0 (.sub V0 (.add V1 V2)) [(0,1,N0,.sub V0 V1),(0,1,V2,.mulR V3 0)] rfl h2 h3
  · unfold upd; split
    · rename_i huv; subst huv
      have h1 := hst u hu
      rw [yC] at h1
      have h2 := nb_mono n (f.low t' ht' hst) u
      have h3 := yC (m := m) (rs := rs) t u
      have h4 : zV rs u * q < zV rs u * (t' u - t u + 1) := by
        have : zV rs u * (t' u - t u + 1) = zV rs u * t' u - zV rs u * t u + zV rs u := by grind
        lia
      have := Int.lt_of_mul_lt_mul_left h4 (by exact Int.le_of_lt ‹_›)
      exact lin (r3 _ _ _) (.add V0 V1) V2 [(1,1,V1,.add (.sub V2 V0) N1)] rfl this
    · exact f.low t' ht' hst u hu
theorem zhA.start (n : Net m rs) {h : Nat → Int} (hh : Nn m h) : zhA m rs h (t0 m rs h) := ⟨t0_nn h, t0_rest n hh, t0_low n h⟩
structure zcy (m : Int) (rs : Rd2) (h t : Nat → Int) : Prop extends zhA m rs h t where
  stab : Stab m rs h t
theorem zcy.uniq {h t t' : Nat → Int} (a : zcy m rs h t) (b : zcy m rs h t') : ∀ v : Nat, (v : Int) < m → t v = t' v := fun v hv => by
  have h1 := a.low t' b.nn b.stab v hv
  have h2 := b.low t a.nn a.stab v hv
  exact Int.le_antisymm (h1) (h2)
end
end Mine
end
section
namespace Mine
section
variable {m : Int} {rs : Rd2}
noncomputable def par (rs : Rd2) (r : Nat → Int) (v : Nat) : Int := if (r v).fdiv (zV rs v) > 0 then (r v).fdiv (zV rs v) else 0
theorem lap_add (t q : Nat → Int) (v : Nat) : lap m rs (fun u => t u + q u) v = lap m rs t v + lap m rs q v := by
  have := wC m rs 1 1 t q v
  simp only [Int.one_mul] at this
  exact this
noncomputable def pos (x : Int) : Int := if x > 0 then x else 0
theorem lap_zero (v : Nat) : lap m rs (fun _ => 0) v = 0 := by
  have := wC m rs 0 0 (fun _ => 0) (fun _ => 0) v
  simpa using this
end
end Mine
end
section
namespace Mine
section
variable {m : Int} {rs : Rd2}
noncomputable def Amp (m : Int) (rs : Rd2) (g : Nat → Int) : Prop := ∀ z : Nat → Int, (∀ v : Nat, (v : Int) < m → z v = 0 ∨ z v = 1) → (∀ v : Nat, (v : Int) < m → z v = 1 → g v + lap m rs z v < zV rs v) → ∀ v : Nat, (v : Int) < m → z v = 0
structure Rec (m : Int) (rs : Rd2) (g : Nat → Int) : Prop where
  nn : Nn m g
  rest : ∀ v : Nat, (v : Int) < m → g v < zV rs v
  amp : Amp m rs g
theorem rec_max (n : Net m rs) {e w : Nat → Int} (A : Amp m rs e) (h : ∀ v : Nat, (v : Int) < m → 0 < w v → e v + lap m rs w v < zV rs v) : ∀ v : Nat, (v : Int) < m → w v ≤ 0 := by
  intro v hv
  obtain ⟨u, hu, hmax⟩ := zcs (fun v => - w v) m.toNat (by exact ltN (lit (r3 _ _ _) N0 V0 [(1,1,V1,V2),(0,1,N0,V1),(2,-1,V0,V2)] rfl hv (nnI _) (tnn (lin (r2 _ _) N0 V0 [(1,1,V1,V0),(0,1,N0,V1)] rfl hv (nnI _)))))
  by_cases hM : w u ≤ 0
  · have := hmax v (by exact Mine.wG ‹_›); exact lin (r2 _ _) V0 N0 [(0,1,V1,N0),(0,1,.neg V1,.neg V0)] rfl hM this
  · exfalso
    have := A (fun v => if w v = w u then 1 else 0) (fun v hv => by split <;> simp) (fun v hv hz => ?_) u (by exact (Int.lt_toNat.mp hu))
    · simp at this
    · have hvu : w v = w u := by
        by_cases h : w v = w u
        · exact h
        · simp [h] at hz
      refine Int.lt_of_le_of_lt ?_ (h v hv (by exact lit (r2 _ _) N0 V0 [(3,1,V1,N0),(2,-1,V0,V1)] rfl hM hvu))
      refine Int.add_le_add_left (j2 fun a ha => ?_) _
      by_cases ha1 : a.1 = (v : Int)
      · rw [if_pos ha1, if_pos ha1]
        show (if w v = w u then (1 : Int) else 0) - (if a.2 < m then (if w a.2.toNat = w u then (1 : Int) else 0) else 0) ≤ w v - (if a.2 < m then w a.2.toNat else 0)
        rw [if_pos hvu]
        have ha2 := (n.arc ha).2
        by_cases ha3 : a.2 < m
        · rw [if_pos ha3, if_pos ha3]
          have := hmax a.2.toNat (by lia)
          by_cases h : w a.2.toNat = w u
          · rw [if_pos h]; exact lin (r3 _ _ _) (.sub N1 N1) (.sub V0 V1) [(2,-1,V0,V2),(2,1,V1,V2)] rfl hvu h
          · rw [if_neg h]; exact lin (r3 _ _ _) (.sub N1 N0) (.sub V0 V1) [(2,-1,V0,V2),(1,1,V1,V2)] rfl hvu (w9 (lin (r2 _ _) V0 V1 [(0,1,.neg V1,.neg V0)] rfl this) h)
        · rw [if_neg ha3, if_neg ha3]; exact lin (r2 _ _) (.sub N1 N0) (.sub V0 N0) [(3,1,V1,N0),(2,-1,V0,V1)] rfl hM hvu
      · rw [if_neg ha1, if_neg ha1]; exact Int.le_refl _
theorem lap_ind (n : Net m rs) {z : Nat → Int} (hz : Nn m z) {v : Nat} (h0 : z v = 0) : lap m rs z v ≤ 0 := by
  rw [yC, h0]
  have := zhE n hz v
  exact lin (r2 _ _) (.sub (.mulR V0 0) V1) N0 [(0,1,N0,V1)] rfl this
theorem ind_nn {z : Nat → Int} (hz : ∀ v : Nat, (v : Int) < m → z v = 0 ∨ z v = 1) : Nn m z := fun v hv => by rcases hz v hv with h | h <;> (first | exact lin (r1 _) N0 V0 [(2,-1,V0,N0)] rfl h | exact lin (r1 _) N0 V0 [(2,-1,V0,N1)] rfl h)
theorem ze8 (t q : Nat → Int) (v : Nat) : lap m rs (fun u => t u - q u) v = lap m rs t v - lap m rs q v := by
  have := wC m rs 1 (-1) t q v
  have e : (fun u => 1 * t u + -1 * q u) = fun u => t u - q u := funext fun u => by exact liq (r2 _ _) (.add (.mulL 1 V0) (.mulL (-1) V1)) (.sub V0 V1) [] rfl
  rw [e] at this; exact liq (r3 _ _ _) V0 (.sub V1 V2) [(2,1,V0,.add (.mulL 1 V1) (.mulL (-1) V2))] rfl this
theorem least_rec (n : Net m rs) {h t : Nat → Int} (hL : zcy m rs h t) (hz : ∀ z : Nat → Int, (∀ v : Nat, (v : Int) < m → z v = 0 ∨ z v = 1) → (∀ v : Nat, (v : Int) < m → z v = 1 → h v - lap m rs t v + lap m rs z v < zV rs v) → ∀ v : Nat, (v : Int) < m → z v ≤ t v) :
    Rec m rs (fun v => h v - lap m rs t v) := by
  refine ⟨hL.rest, hL.stab, fun z h1 h2 v hv => ?_⟩
  have h3 := hz z h1 h2
  have := hL.low (fun u => t u - z u) (fun u hu => by have := h3 u hu; show 0 ≤ t u - z u; exact lin (r2 _ _) N0 (.sub V0 V1) [(0,1,V1,V0)] rfl this) (fun u hu => by
    rw [ze8]
    rcases h1 u hu with h | h
    · have := lap_ind n (ind_nn h1) h
      have := hL.stab u hu
      exact lit (r4 _ _ _ _) (.sub V0 (.sub V1 V2)) V3 [(0,1,V2,N0),(1,1,.sub V0 V1,V3)] rfl ‹_› this
    · have := h2 u hu h; exact lit (r4 _ _ _ _) (.sub V0 (.sub V1 V2)) V3 [(1,1,.add (.sub V0 V1) V2,V3)] rfl this) v hv
  rcases h1 v hv with h | h
  · exact h
  · exact lif (r2 _ _) [(0,1,V0,.sub V0 V1),(2,-1,V1,N1)] rfl this h
theorem more_rec (n : Net m rs) {e g t : Nat → Int} (A : Rec m rs e) (hg : Nn m g) (hL : zcy m rs (fun v => e v + g v) t) : Rec m rs (fun v => e v + g v - lap m rs t v) := by
  refine least_rec n hL fun z h1 h2 v hv => ?_
  have := rec_max n A.amp (w := fun u => z u - t u) (fun v hv h => by
    rw [ze8]
    have h3 := hL.nn v hv
    have h4 : z v = 1 := by rcases h1 v hv with h5 | h5 <;> (first | assumption | lia)
    have := h2 v hv h4
    have := hg v hv
    exact lit (r5 _ _ _ _ _) (.add V0 (.sub V1 V2)) V3 [(1,1,.add (.sub (.add V0 V4) V2) V1,V3),(0,1,N0,V4)] rfl ‹_› this) v hv
  exact lin (r2 _ _) V0 V1 [(0,1,.sub V0 V1,N0)] rfl this
theorem zg6 (n : Net m rs) {h : Nat → Int} (hh : Nn m h) : ∃ t, zcy m rs h t := by
  obtain ⟨t', ht', hst⟩ := zd1 n h
  have key : ∀ (N : Nat) (t : Nat → Int), zhA m rs h t → zY (List.range m.toNat) (fun v => t' v - t v) < N → ∃ t, zcy m rs h t := by
    intro N
    induction N with
    | zero =>
      intro t f hN
      have := zeS (l := List.range m.toNat) (f := fun _ => 0) (g := fun v => t' v - t v) fun v hv => by
        have := f.low t' ht' hst v (by have := List.mem_range.mp hv; exact (Int.lt_toNat.mp this)); exact lin (r2 _ _) N0 (.sub V0 V1) [(0,1,V1,V0)] rfl this
      rw [wm fun _ _ => rfl] at this
      exact lif (r1 _) [(1,1,V0,N0),(0,1,N0,V0)] rfl hN this
    | succ N ih =>
      intro t f hN
      by_cases hs : Stab m rs h t
      · exact ⟨t, ⟨f, hs⟩⟩
      · have : ∃ v : Nat, (v : Int) < m ∧ zV rs v ≤ h v - lap m rs t v := by
          apply Classical.byContradiction
          intro hno
          refine hs fun v hv => ?_
          apply Classical.byContradiction
          intro hc
          exact hno ⟨v, hv, by exact Int.not_lt.mp ‹_›⟩
        obtain ⟨v, hv, hge⟩ := this
        obtain ⟨f', hq⟩ := f.step n hv hge
        refine ih _ f' ?_
        generalize (h v - lap m rs t v).fdiv (zV rs v) = q at hq
        have : ∀ l : List Nat, v ∈ l → zY l (fun u => t' u - upd t v (t v + q) u) ≤ zY l (fun u => t' u - t u) - q := by
          intro l
          have mono : ∀ l : List Nat, zY l (fun u => t' u - upd t v (t v + q) u) ≤ zY l (fun u => t' u - t u) := fun l => zeS fun u _ => by
            by_cases hu : u = v
            · subst hu; rw [zc1]; exact lin (r3 _ _ _) (.sub V0 (.add V1 V2)) (.sub V0 V1) [(0,1,N1,V2)] rfl hq
            · rw [upd_ne t _ hu]; exact Int.le_refl _
          induction l with
          | nil => intro h; simp at h
          | cons a l ih' =>
            intro hm
            simp only [zY]
            by_cases ha : a = v
            · subst ha; rw [zc1]; have := mono l; exact lin (r5 _ _ _ _ _) (.add (.sub V0 (.add V1 V2)) V3) (.sub (.add (.sub V0 V1) V4) V2) [(0,1,V3,V4)] rfl this
            · rw [upd_ne t _ ha]
              have := ih' (by rcases List.mem_cons.mp hm with h | h; exact absurd h.symm ha; exact h)
              exact lin (r5 _ _ _ _ _) (.add (.sub V0 V1) V2) (.sub (.add (.sub V0 V1) V3) V4) [(0,1,V2,.sub V3 V4)] rfl this
        have := this (List.range m.toNat) (List.mem_range.mpr (by exact Mine.wG ‹_›))
        exact lit (r4 _ _ _ _) V0 V1 [(1,1,V2,.add V1 N1),(0,1,N1,V3),(0,1,V0,.sub V2 V3)] rfl hN hq this
  refine key (zY (List.range m.toNat) (fun v => t' v - 0)).toNat.succ (fun _ => 0) ⟨fun _ _ => Int.le_refl _, fun v hv => by rw [lap_zero]; have := hh v hv; exact lin (r1 _) N0 (.sub V0 N0) [(0,1,N0,V0)] rfl this, fun t'' h1 _ v hv => h1 v hv⟩ (by exact lit (r2 _ _) V0 (.add V1 N1) [(0,1,V0,V1)] rfl (Int.self_le_toNat _))
end
end Mine
end
section
namespace Mine
noncomputable def oth (e : Int × Int) (x : Int) : Int := if e.2 = x then e.1 else e.2
noncomputable def tch (S : Int → Bool) (x : Int) (e : Int × Int) : Bool := (decide (e.1 = x) || decide (e.2 = x)) && S (oth e x)
noncomputable def rt (rs : Rd2) (x : Int) (S : Int → Bool) : List Nat := (List.range rs.length).filter fun i => (rs[i]?).any (tch S x)
noncomputable def nb (rs : Rd2) (x : Int) (S : Int → Bool) : Int := ja (jp rs) fun a => if a.1 = x then (if S a.2 then 1 else 0) else 0
section
variable {m : Int} {rs : Rd2}
theorem zes {x : Int} {S : Int → Bool} {i : Nat} : i ∈ rt rs x S ↔ ∃ e, rs[i]? = some e ∧ (e.1 = x ∨ e.2 = x) ∧ S (oth e x) = true := by
  unfold rt
  rw [List.mem_filter, List.mem_range]
  constructor
  · rintro ⟨h1, h2⟩
    cases h : rs[i]? with
    | none => rw [h] at h2; simp at h2
    | some e =>
      rw [h] at h2
      simp only [Option.any_some, tch, Bool.and_eq_true, Bool.or_eq_true, decide_eq_true_eq] at h2
      exact ⟨e, rfl, h2⟩
  · rintro ⟨e, h1, h2⟩
    refine ⟨(List.getElem?_eq_some_iff.mp h1).1, ?_⟩
    rw [h1]
    simpa only [Option.any_some, tch, Bool.and_eq_true, Bool.or_eq_true, decide_eq_true_eq] using h2
theorem zim (x S) : (rt rs x S).Nodup := List.nodup_range.sublist List.filter_sublist
theorem rt_snoc (e : Int × Int) (x S) : rt (rs ++ [e]) x S = rt rs x S ++ if tch S x e then [rs.length] else [] := by
  unfold rt
  rw [List.length_append, List.length_singleton, List.range_succ, List.filter_append]
  have h1 : (List.range rs.length).filter (fun i => ((rs ++ [e])[i]?).any (tch S x)) = (List.range rs.length).filter fun i => (rs[i]?).any (tch S x) :=
    List.filter_congr fun i hi => by rw [List.getElem?_append_left (List.mem_range.mp hi)]
  rw [h1]
  congr 1
  rw [List.filter_cons, List.getElem?_append_right (Nat.le_refl _), Nat.sub_self]
  simp
theorem arcs_snoc (e : Int × Int) : jp (rs ++ [e]) = jp rs ++ [(e.1, e.2), (e.2, e.1)] := by simp [jp]
theorem zhD (x S) : ∀ rs : Rd2, (∀ p ∈ rs, p.1 ≠ p.2) → ((rt rs x S).length : Int) = nb rs x S := by
  intro rs
  generalize hn : rs.length = k
  induction k generalizing rs with
  | zero =>
    intro _
    have : rs = [] := List.eq_nil_of_length_eq_zero hn
    subst this; rfl
  | succ k ih =>
    intro h
    obtain ⟨l, e, rfl⟩ : ∃ l e, rs = l ++ [e] := ⟨rs.dropLast, rs.getLast (by intro h; simp [h] at hn), (List.dropLast_concat_getLast _).symm⟩
    have h1 := ih l (by simpa using hn) fun p hp => h p (by simp [hp])
    have hne := h e (by simp)
    rw [rt_snoc, List.length_append]
    unfold nb at h1 ⊢
    rw [arcs_snoc, zc7]
    simp only [ja]
    rw [Int.natCast_add, h1, Int.add_zero]
    congr 1
    unfold tch oth
    by_cases h1 : e.1 = x
    · have h2 : ¬ e.2 = x := fun h => hne (h1.trans h.symm)
      simp only [h1, h2, decide_true, Bool.true_or, Bool.true_and, if_true, if_false]
      cases S e.2 <;> simp
    · by_cases h2 : e.2 = x
      · simp only [h1, h2, decide_true, Bool.or_true, Bool.true_and, if_true, if_false]
        cases S e.1 <;> simp
      · simp [h1, h2]
theorem Net.ne (n : Net m rs) : ∀ p ∈ rs, p.1 ≠ p.2 := fun p hp => (n.ends p hp).2.2
theorem nb_mono' (n : Net m rs) {x : Int} {S S' : Int → Bool} (h : ∀ q, 0 ≤ q → q ≤ m → S q = true → S' q = true) : nb rs x S ≤ nb rs x S' := by
  refine j2 fun a ha => ?_
  have := (n.arc ha).2
  by_cases h1 : a.1 = x
  · rw [if_pos h1, if_pos h1]
    cases hs : S a.2 with
    | false => simp only [Bool.false_eq_true, if_false]; split <;> decide
    | true => rw [h _ this.1 this.2 hs]; exact Int.le_refl _
  · rw [if_neg h1, if_neg h1]; exact Int.le_refl _
theorem zfI (n : Net m rs) {x : Int} {S S' : Int → Bool} (h : ∀ q, 0 ≤ q → q ≤ m → S q = S' q) : nb rs x S = nb rs x S' :=
  jx fun a ha => by rw [h _ (n.arc ha).2.1 (n.arc ha).2.2]
theorem zfH (n : Net m rs) {x : Int} {S A B : Int → Bool} (h : ∀ q, 0 ≤ q → q ≤ m → S q = (A q || B q)) (hd : ∀ q, A q = true → B q = false) : nb rs x S = nb rs x A + nb rs x B := by
  have := zc6 1 1 (fun a : Int × Int => if a.1 = x then (if A a.2 then 1 else 0) else 0) (fun a : Int × Int => if a.1 = x then (if B a.2 then 1 else 0) else 0) (jp rs)
  rw [Int.one_mul, Int.one_mul] at this
  unfold nb
  rw [← this]
  refine jx fun a ha => ?_
  rw [h _ (n.arc ha).2.1 (n.arc ha).2.2]
  by_cases h1 : a.1 = x
  · simp only [h1, if_true]
    cases hA : A a.2 with
    | false => simp
    | true => rw [hd _ hA]; simp
  · simp [h1]
theorem nb_deg (n : Net m rs) (v : Nat) (S : Int → Bool) : 0 ≤ nb rs v S ∧ nb rs v S ≤ zV rs v := by
  constructor
  · have := j2 (l := jp rs) (f := fun _ => 0) (g := fun a => if a.1 = (v : Int) then (if S a.2 then 1 else 0) else 0) fun a _ => by split; (split <;> decide); decide
    rw [zaL fun _ _ => rfl] at this
    exact this
  · exact j2 fun a _ => by split; (split <;> decide); decide
theorem zda (n : Net m rs) {x : Int} {S S' : Int → Bool} (h : ∀ q, 0 ≤ q → q ≤ m → S q = S' q) : rt rs x S = rt rs x S' :=
  List.filter_congr fun i hi => by
    have hi := List.mem_range.mp hi
    rw [List.getElem?_eq_getElem hi]
    have he := n.ends _ (List.getElem_mem hi)
    generalize rs[i] = e at he ⊢
    simp only [Option.any_some, tch]
    rw [h (oth e x) (by unfold oth; split <;> (first | exact he.1.1 | exact he.2.1.1)) (by unfold oth; split <;> (first | exact he.1.2 | exact he.2.1.2))]
theorem oth_rng (n : Net m rs) {i : Nat} {e : Int × Int} (h : rs[i]? = some e) (x : Int) : 0 ≤ oth e x ∧ oth e x ≤ m := by
  have := n.ends e (List.mem_of_getElem? h)
  unfold oth; split <;> (first | exact ⟨this.1.1, this.1.2⟩ | exact ⟨this.2.1.1, this.2.1.2⟩)
noncomputable def lvl (lev : Int → Nat) (k : Nat) : Int → Bool := fun q => lev q + 1 == k
noncomputable def blw (lev : Int → Nat) (k : Nat) : Int → Bool := fun q => decide (lev q < k)
structure yX (m : Int) (rs : Rd2) (g : Nat → Int) (τ : Nat → Prop) (lev : Int → Nat) (par : Nat → Nat) : Prop where
  l0 : lev m = 0
  lp : ∀ p : Nat, (p : Int) < m → 0 < lev p
  mem : ∀ i, τ i ↔ ∃ p : Nat, (p : Int) < m ∧ par p = i
  val : ∀ p : Nat, (p : Int) < m → ∃ k : Nat, (rt rs p (lvl lev (lev p)))[k]? = some (par p) ∧ g p = zV rs p - nb rs p (blw lev (lev p)) + k
theorem yX.road {g τ lev par} (C : yX m rs g τ lev par) {p : Nat} (hp : (p : Int) < m) : ∃ e, rs[par p]? = some e ∧ (e.1 = p ∨ e.2 = p) ∧ lev (oth e p) + 1 = lev p := by
  obtain ⟨k, h, _⟩ := C.val p hp
  obtain ⟨e, h1, h2, h3⟩ := zes.mp (List.mem_of_getElem? h)
  exact ⟨e, h1, h2, by simpa [lvl] using h3⟩
noncomputable def Agr (m : Int) (lev lev' : Int → Nat) (k : Nat) : Prop := ∀ q, 0 ≤ q → q ≤ m → lev q ≤ k ∨ lev' q ≤ k → lev q = lev' q
theorem Agr.zero {g τ lev par g' τ' lev' par'} (C : yX m rs g τ lev par) (C' : yX m rs g' τ' lev' par') : Agr m lev lev' 0 := by
  have key : ∀ {g τ lev par}, yX m rs g τ lev par → ∀ q, 0 ≤ q → q ≤ m → lev q = 0 → q = m := fun {g τ lev par} C q h0 hm hl => by
    by_cases h : q < m
    · have := C.lp q.toNat (by exact lit (r3 _ _ _) V0 V1 [(1,1,V2,V1),(2,1,V0,V2)] rfl h (tnn (h0)))
      rw [tnn h0] at this; exact lif (r1 _) [(2,1,V0,N0),(1,1,N0,V0)] rfl (eqI hl) (ltI this)
    · exact Int.le_antisymm (hm) (lin (r2 _ _) V0 V1 [(4,1,V1,V0)] rfl h)
  intro q h0 hm h
  rcases h with h | h
  · rw [key C q h0 hm (by exact eqN (Int.le_antisymm ((leI h)) ((nnI _)))), C.l0, C'.l0]
  · rw [key C' q h0 hm (by exact eqN (Int.le_antisymm ((leI h)) ((nnI _)))), C.l0, C'.l0]
theorem Agr.step {lev lev' : Int → Nat} {k : Nat} (A : Agr m lev lev' k) (h1 : ∀ p : Nat, (p : Int) < m → lev p = k + 1 → lev' p = k + 1) (h2 : ∀ p : Nat, (p : Int) < m → lev' p = k + 1 → lev p = k + 1) (l0 : lev m = 0) (l0' : lev' m = 0) : Agr m lev lev' (k + 1) := by
  intro q h0 hm h
  by_cases hq : q < m
  · obtain ⟨p, rfl⟩ := Int.eq_ofNat_of_zero_le h0
    by_cases hk : lev p ≤ k ∨ lev' p ≤ k
    · exact A _ h0 hm hk
    · rcases h with h | h
      · have := h1 p hq (by lia); lia
      · have := h2 p hq (by lia); lia
  · have : q = m := by exact Int.le_antisymm (hm) (lin (r2 _ _) V0 V1 [(4,1,V1,V0)] rfl hq)
    subst this; rw [l0, l0']
theorem Agr.all {lev lev' : Int → Nat} (h : ∀ k, Agr m lev lev' k) : ∀ q, 0 ≤ q → q ≤ m → lev q = lev' q := fun q h0 hm => h (lev q) q h0 hm (.inl (Nat.le_refl _))
theorem zdB (n : Net m rs) {g τ lev par g' lev' par'} (C : yX m rs g τ lev par) (C' : yX m rs g' τ lev' par') {k : Nat} (A : Agr m lev lev' k) (p : Nat) (hp : (p : Int) < m) (hl : lev p = k + 1) : lev' p = k + 1 ∧ par' p = par p := by
  obtain ⟨e, he, hpe, hlo⟩ := C.road hp
  have ho := oth_rng n he p
  obtain ⟨p', hp', hpar⟩ := (C'.mem _).mp ((C.mem (par p)).mpr ⟨p, hp, rfl⟩)
  obtain ⟨e', he', hpe', hlo'⟩ := C'.road hp'
  rw [hpar, he] at he'
  cases he'
  have hne := (n.ends e (List.mem_of_getElem? he)).2.2
  have hoa := A (oth e p) ho.1 ho.2 (.inl (by exact leN (lin (r3 _ _ _) V0 V1 [(2,1,V2,.add V1 N1),(2,1,.add V0 N1,V2)] rfl (eqI hl) (eqI hlo))))
  by_cases hpp : p' = p
  · subst hpp; exact ⟨by exact eqN (liq (r5 (↑(lev' ↑p')) (↑(k)) (↑(lev' (oth e ↑p'))) (↑(lev ↑p')) (↑(lev (oth e ↑p')))) V0 (.add V1 N1) [(2,-1,.add V2 N1,V0),(2,1,V3,.add V1 N1),(2,1,.add V4 N1,V3),(2,-1,V4,V2)] rfl (eqI hlo') (eqI hl) (eqI hlo) (eqI hoa)), hpar⟩
  · exfalso
    have e1 : oth e p = (p' : Int) := by unfold oth; split <;> lia
    have e2 : oth e p' = (p : Int) := by unfold oth; split <;> lia
    rw [e1] at hlo hoa
    rw [e2] at hlo'
    have := A p (by exact nnI _) (by exact Int.le_of_lt ‹_›) (.inr (by exact leN (lin (r5 (↑(lev' ↑p)) (↑(k)) (↑(lev ↑p)) (↑(lev ↑p')) (↑(lev' ↑p'))) V0 V1 [(2,1,V2,.add V1 N1),(2,1,.add V3 N1,V2),(2,1,.add V0 N1,V4),(2,-1,V3,V4)] rfl (eqI hl) (eqI hlo) (eqI hlo') (eqI hoa))))
    exact lif (r4 (↑(lev ↑p')) (↑(lev ↑p)) (↑(lev' ↑p)) (↑(lev' ↑p'))) [(2,1,.add V0 N1,V1),(2,1,.add V2 N1,V3),(2,-1,V0,V3),(2,1,V1,V2)] rfl (eqI hlo) (eqI hlo') (eqI hoa) (eqI this)
theorem yX.heapEq (n : Net m rs) {g τ lev par g' lev' par'} (C : yX m rs g τ lev par) (C' : yX m rs g' τ lev' par') : ∀ p : Nat, (p : Int) < m → g p = g' p := by
  have hA : ∀ k, Agr m lev lev' k := fun k => by
    induction k with
    | zero => exact Agr.zero C C'
    | succ k ih => exact ih.step (fun p hp h => (zdB n C C' ih p hp h).1) (fun p hp h => (zdB n C' C (fun q a b c => (ih q a b c.symm).symm) p hp h).1) C.l0 C'.l0
  have hall := Agr.all hA
  intro p hp
  obtain ⟨k, h1, h2⟩ := C.val p hp
  obtain ⟨k', h1', h2'⟩ := C'.val p hp
  have hlp := hall p (by exact nnI _) (by exact Int.le_of_lt ‹_›)
  have hpar : par' p = par p := by
    have := C.lp p hp
    exact (zdB n C C' (hA (lev p - 1)) p hp (by lia)).2
  have e1 : rt rs p (lvl lev' (lev' p)) = rt rs p (lvl lev (lev p)) := zda n fun q h0 hm => by unfold lvl; rw [hall q h0 hm, hlp]
  have e2 : nb rs p (blw lev' (lev' p)) = nb rs p (blw lev (lev p)) := zfI n fun q h0 hm => by unfold blw; rw [hall q h0 hm, hlp]
  rw [e1, hpar] at h1'
  have hkk : k = k' := by
    have a1 := List.getElem?_eq_some_iff.mp h1
    have a2 := List.getElem?_eq_some_iff.mp h1'
    exact (List.getElem_inj (h₀ := a1.1) (h₁ := a2.1) (zim _ _)).mp (a1.2.trans a2.2.symm)
  rw [h2, h2', e2, hkk]
theorem lvl_len (n : Net m rs) {lev : Int → Nat} {p : Nat} {k : Nat} (hk : 0 < k) {j : Nat} (hj : j < (rt rs p (lvl lev k)).length) : (j : Int) < nb rs p (blw lev k) - nb rs p (blw lev (k - 1)) := by
  have h1 := zhD p (lvl lev k) rs n.ne
  have h2 := zfH n (x := p) (S := blw lev k) (A := blw lev (k - 1)) (B := lvl lev k) (fun q _ _ => by
    unfold blw lvl
    rw [Bool.eq_iff_iff]
    simp only [Bool.or_eq_true, decide_eq_true_eq, beq_iff_eq]
    lia) (fun q h => by
    unfold blw at h; unfold lvl
    simp only [decide_eq_true_eq] at h
    rw [beq_eq_false_iff_ne]
    lia)
  exact lit (r5 _ _ _ _ _) V0 (.sub V1 V2) [(1,1,V0,V3),(2,1,V3,V4),(2,-1,V1,.add V2 V4)] rfl (ltI hj) h1 h2
theorem zgy (n : Net m rs) {g τ lev par τ' lev' par'} (C : yX m rs g τ lev par) (C' : yX m rs g τ' lev' par') {k : Nat} (A : Agr m lev lev' k) (p : Nat) (hp : (p : Int) < m) (hl : lev p = k + 1) : lev' p = k + 1 := by
  apply Classical.byContradiction
  intro hne
  have hgt : k + 2 ≤ lev' p := by
    apply Classical.byContradiction
    intro h
    have := A p (by exact nnI _) (by exact Int.le_of_lt ‹_›) (.inr (by exact leN (lin (r2 (↑(lev' ↑p)) (↑(k))) V0 V1 [(1,1,V0,.add V1 N1)] rfl (ww (lin (r2 (↑(lev' ↑p)) (↑(k))) V0 (.add V1 N1) [(1,1,V0,.add V1 (.num 2))] rfl (noI h)) hne))))
    exact lif (r3 (↑(lev ↑p)) (↑(k)) (↑(lev' ↑p))) [(2,-1,V0,.add V1 N1),(2,1,V0,V2),(1,1,V2,.add V1 N1)] rfl (eqI hl) (eqI this) (ww (lin (r3 (↑(lev' ↑p)) (↑(k)) (↑(lev ↑p))) V0 (.add V1 N1) [(2,1,V2,.add V1 N1),(2,-1,V2,V0)] rfl (eqI hl) (eqI this)) hne)
  obtain ⟨j, _, h2⟩ := C.val p hp
  obtain ⟨j', h1', h2'⟩ := C'.val p hp
  have h3 := lvl_len n (p := p) (by exact ltN (lit (r2 (↑(lev' ↑p)) (↑(k))) N0 V0 [(0,1,.add V1 (.num 2),V0),(0,1,N0,V1)] rfl (leI hgt) (nnI _))) (List.getElem?_eq_some_iff.mp h1').1
  have h4 : nb rs p (blw lev (lev p)) ≤ nb rs p (blw lev' (lev' p - 1)) := nb_mono' n fun q h0 hm hq => by
    unfold blw at hq ⊢
    simp only [decide_eq_true_eq] at hq ⊢
    have := A q h0 hm (.inl (by exact leN (lin (r3 _ _ _) V0 V1 [(2,1,V2,.add V1 N1),(1,1,V0,V2)] rfl (eqI hl) (ltI hq))))
    lia
  exact lif (r7 _ _ _ _ _ _ _) [(2,-1,V0,.add (.sub V1 V2) V3),(2,1,V0,.add (.sub V1 V4) V5),(1,1,V5,.sub V4 V6),(0,1,V2,V6),(0,1,N0,V3)] rfl h2 h2' h3 h4 (nnI _)
theorem yX.treeEq (n : Net m rs) {g τ lev par τ' lev' par'} (C : yX m rs g τ lev par) (C' : yX m rs g τ' lev' par') : ∀ i, τ i ↔ τ' i := by
  have hA : ∀ k, Agr m lev lev' k := fun k => by
    induction k with
    | zero => exact Agr.zero C C'
    | succ k ih => exact ih.step (fun p hp h => zgy n C C' ih p hp h) (fun p hp h => zgy n C' C (fun q a b c => (ih q a b c.symm).symm) p hp h) C.l0 C'.l0
  have hall := Agr.all hA
  have hpar : ∀ p : Nat, (p : Int) < m → par p = par' p := fun p hp => by
    obtain ⟨k, h1, h2⟩ := C.val p hp
    obtain ⟨k', h1', h2'⟩ := C'.val p hp
    have hlp := hall p (by exact nnI _) (by exact Int.le_of_lt ‹_›)
    have e1 : rt rs p (lvl lev' (lev' p)) = rt rs p (lvl lev (lev p)) := zda n fun q h0 hm => by unfold lvl; rw [hall q h0 hm, hlp]
    have e2 : nb rs p (blw lev' (lev' p)) = nb rs p (blw lev (lev p)) := zfI n fun q h0 hm => by unfold blw; rw [hall q h0 hm, hlp]
    have : k = k' := by exact eqN (liq (r6 _ _ _ _ _ _) V0 V1 [(2,-1,V2,.add (.sub V3 V4) V0),(2,1,V2,.add (.sub V3 V5) V1),(2,-1,V5,V4)] rfl h2 h2' e2)
    rw [e1, ← this, h1] at h1'
    exact Option.some.inj h1'
  intro i
  rw [C.mem, C'.mem]
  constructor
  · rintro ⟨p, hp, rfl⟩; exact ⟨p, hp, (hpar p hp).symm⟩
  · rintro ⟨p, hp, rfl⟩; exact ⟨p, hp, hpar p hp⟩
theorem yX.again (n : Net m rs) {g τ lev par} (C : yX m rs g τ lev par) : Rec m rs g := by
  refine ⟨fun p hp => ?_, fun p hp => ?_, fun z h1 h2 => ?_⟩
  · obtain ⟨k, _, h⟩ := C.val p hp
    have := nb_deg n p (blw lev (lev p))
    exact lin (r4 _ _ _ _) N0 V0 [(2,-1,V0,.add (.sub V1 V2) V3),(0,1,V2,V1),(0,1,N0,V3)] rfl h this.2 (nnI _)
  · obtain ⟨k, hk, h⟩ := C.val p hp
    have h3 := lvl_len n (p := p) (C.lp p hp) (List.getElem?_eq_some_iff.mp hk).1
    have := nb_deg n p (blw lev (lev p - 1))
    exact lit (r5 _ _ _ _ _) V0 V1 [(2,1,V0,.add (.sub V1 V2) V3),(1,1,V3,.sub V2 V4),(0,1,N0,V4)] rfl h h3 this.1
  · have key : ∀ k (p : Nat), (p : Int) < m → lev p ≤ k → z p = 0 := by
      intro k
      induction k with
      | zero => intro p hp hl; have := C.lp p hp; exact (Nat.lt_irrefl _ (Nat.lt_of_lt_of_le ‹_› ‹_›)).elim
      | succ k ih =>
        intro p hp hl
        rcases h1 p hp with h | h
        · exact h
        · exfalso
          have h3 := h2 p hp h
          obtain ⟨j, _, h4⟩ := C.val p hp
          have h5 : nb rs p (blw lev (lev p)) ≤ lap m rs z p := by
            refine j2 fun a ha => ?_
            by_cases ha1 : a.1 = (p : Int)
            · rw [if_pos ha1, if_pos ha1, h]
              have ha2 := (n.arc ha).2
              unfold tx
              by_cases ha3 : a.2 < m
              · rw [if_pos ha3]
                have hz := h1 a.2.toNat (by exact lit (r3 _ _ _) V0 V1 [(1,1,V2,V1),(2,1,V0,V2)] rfl ha3 (tnn (ha2.1)))
                by_cases hb : lev a.2 < lev p
                · have := ih a.2.toNat (by exact lit (r3 _ _ _) V0 V1 [(1,1,V2,V1),(2,1,V0,V2)] rfl ha3 (tnn (ha2.1))) (by rw [tnn ha2.1]; exact leN (lin (r3 _ _ _) V0 V1 [(0,1,V2,.add V1 N1),(1,1,V0,V2)] rfl (leI hl) (ltI hb)))
                  rw [this]; split <;> decide
                · have : blw lev (lev p) a.2 = false := by unfold blw; simpa using hb
                  rw [this]; simp only [Bool.false_eq_true, if_false]; lia
              · rw [if_neg ha3]; split <;> decide
            · rw [if_neg ha1, if_neg ha1]; exact Int.le_refl _
          exact lif (r5 _ _ _ _ _) [(1,1,.add V0 V1,V2),(2,-1,V0,.add (.sub V2 V3) V4),(0,1,V3,V1),(0,1,N0,V4)] rfl h3 h4 h5 (nnI _)
    exact fun p hp => key _ p hp (Nat.le_refl _)
end
end Mine
end
section
namespace Mine
section
variable {m : Int} {rs : Rd2}
noncomputable def zaq (ks : List Int) : Int → Bool := fun q => decide (q ∈ ks)
structure Lay (m : Int) (rs : Rd2) (g : Nat → Int) (i : Nat) (O Y : List Int) (lev : Int → Nat) (par : Nat → Nat) : Prop where
  nd : (O ++ Y).Nodup
  o : ∀ q, q ∈ O ↔ 0 ≤ q ∧ q ≤ m ∧ lev q < i
  y : ∀ q, q ∈ Y ↔ 0 ≤ q ∧ q ≤ m ∧ lev q = i
  l0 : lev m = 0
  lp : ∀ p : Nat, (p : Int) < m → 0 < lev p ∧ lev p ≤ i + 1
  val : ∀ p : Nat, (p : Int) < m → lev p ≤ i → ∃ k : Nat, (rt rs p (lvl lev (lev p)))[k]? = some (par p) ∧ g p = zV rs p - nb rs p (blw lev (lev p)) + k
theorem Lay.start (g : Nat → Int) (hm : 0 ≤ m) : Lay m rs g 0 [] [m] (fun q => if q = m then 0 else 1) (fun _ => 0) where
  nd := by simp
  o := fun q => by simp
  y := fun q => by
    rw [List.mem_singleton]
    constructor
    · rintro rfl; exact ⟨hm, Int.le_refl _, if_pos rfl⟩
    · rintro ⟨_, _, h⟩
      by_cases e : q = m
      · exact e
      · rw [if_neg e] at h; cases h
  l0 := if_pos rfl
  lp := fun p hp => by rw [if_neg (by exact (fun h_ => lif (r2 _ _) [(1,1,V0,V1),(2,-1,V0,V1)] rfl hp h_))]; exact ⟨by exact Nat.le_of_ble_eq_true rfl, by exact Nat.le_of_ble_eq_true rfl⟩
  val := fun p hp h => by rw [if_neg (by exact (fun h_ => lif (r2 _ _) [(1,1,V0,V1),(2,-1,V0,V1)] rfl hp h_))] at h; exact lif (r1 0) [(0,1,N1,N0)] rfl (leI h)
noncomputable def zb0 (i : Nat) (lev : Int → Nat) (c : Nat → Bool) : Int → Nat := fun q => if lev q ≤ i then lev q else if c q.toNat then i + 1 else i + 2
theorem Lay.step (n : Net m rs) {g g' : Nat → Int} {i : Nat} {O Y Y' : List Int} {lev : Int → Nat} {par nx : Nat → Nat} (L : Lay m rs g i O Y lev par) (c : Nat → Bool)
    (hY : ∀ q, q ∈ Y' ↔ ∃ p : Nat, (p : Int) < m ∧ q = p ∧ c p = true) (hYn : Y'.Nodup) (hc : ∀ p : Nat, (p : Int) < m → c p = true → (p : Int) ∉ O ∧ (p : Int) ∉ Y)
    (hg : ∀ p : Nat, (p : Int) < m → c p = false → g' p = g p)
    (hn : ∀ p : Nat, (p : Int) < m → c p = true → ∃ k : Nat, (rt rs p (zaq Y))[k]? = some (nx p) ∧ g' p = zV rs p - (nb rs p (zaq O) + nb rs p (zaq Y)) + k) :
    Lay m rs g' (i + 1) (O ++ Y) Y' (zb0 i lev c) (fun p => if c p then nx p else par p) := by
  have hm := n.m0
  have lo : ∀ q, lev q ≤ i → zb0 i lev c q = lev q := fun q h => if_pos h
  have hi : ∀ q, ¬ lev q ≤ i → i < zb0 i lev c q := fun q h => by unfold zb0; rw [if_neg h]; split <;> (first | exact Nat.le_refl _ | exact Nat.le_succ _)
  have un : ∀ p : Nat, (p : Int) < m → c p = true → ¬ lev p ≤ i := fun p hp h hl => by
    obtain ⟨h1, h2⟩ := hc p hp h
    rw [L.o] at h1; rw [L.y] at h2
    lia
  have fr : ∀ p : Nat, (p : Int) < m → c p = true → zb0 i lev c p = i + 1 := fun p hp h => by
    unfold zb0; rw [if_neg (un p hp h), Int.toNat_natCast, h]; rfl
  have one : ∀ q, 0 ≤ q → q ≤ m → zb0 i lev c q = i + 1 → ∃ p : Nat, (p : Int) < m ∧ q = p ∧ c p = true := fun q h0 hq h => by
    obtain ⟨p, rfl⟩ := Int.eq_ofNat_of_zero_le h0
    unfold zb0 at h
    by_cases hl : lev p ≤ i
    · rw [if_pos hl] at h; exact lif (r2 (↑(lev ↑p)) (↑(i))) [(2,-1,V0,.add V1 N1),(0,1,V0,V1)] rfl (eqI h) (leI hl)
    · rw [if_neg hl, Int.toNat_natCast] at h
      cases hcp : c p with
      | false => rw [hcp] at h; simp at h
      | true =>
        refine ⟨p, ?_, rfl, hcp⟩
        by_cases e : (p : Int) = m
        · rw [e, L.l0] at hl; exact lif (r1 _) [(1,1,V0,N0),(0,1,N0,V0)] rfl (noI hl) (nnI _)
        · exact (w9 (hq) e)
  have hO : ∀ q, q ∈ O ++ Y ↔ 0 ≤ q ∧ q ≤ m ∧ zb0 i lev c q < i + 1 := fun q => by
    rw [List.mem_append, L.o, L.y]
    constructor
    · rintro (⟨a, b, h⟩ | ⟨a, b, h⟩) <;> exact ⟨a, b, by rw [lo q (by (first | exact Nat.le_of_lt ‹_› | exact Nat.le_of_eq ‹_›))]; (first | exact ltN (lit (r2 _ _) V0 (.add V1 N1) [(1,1,V0,V1)] rfl (ltI h)) | exact ltN (lit (r2 _ _) V0 (.add V1 N1) [(2,1,V0,V1)] rfl (eqI h)))⟩
    · rintro ⟨a, b, h⟩
      have hl : lev q ≤ i := Classical.byContradiction fun hl => by have := hi q hl; exact lif (r2 (↑(zb0 i lev c q)) (↑(i))) [(1,1,V0,.add V1 N1),(1,1,V1,V0)] rfl (ltI h) (ltI this)
      rw [lo q hl] at h
      by_cases e : lev q = i
      · exact .inr ⟨a, b, e⟩
      · exact .inl ⟨a, b, by exact ltN ((ww (lin (r2 _ _) V0 V1 [(1,1,V0,.add V1 N1)] rfl (ltI h)) e))⟩
  refine ⟨?_, hO, fun q => ?_, by rw [lo m (by rw [L.l0]; exact Nat.le_of_ble_eq_true rfl)]; exact L.l0, fun p hp => ?_, fun p hp h => ?_⟩
  · rw [List.nodup_append]
    refine ⟨L.nd, hYn, fun a ha b hb e => ?_⟩
    subst e
    obtain ⟨p, hp, rfl, hcp⟩ := (hY a).mp hb
    obtain ⟨h1, h2⟩ := hc p hp hcp
    rcases List.mem_append.mp ha with h | h
    · exact h1 h
    · exact h2 h
  · rw [hY]
    constructor
    · rintro ⟨p, hp, rfl, hcp⟩; exact ⟨by exact nnI _, by exact Int.le_of_lt ‹_›, fr p hp hcp⟩
    · rintro ⟨a, b, h⟩; exact one q a b h
  · have := L.lp p hp
    unfold zb0
    split
    · exact ⟨ltN ((ltI this.1)), leN (lin (r2 (↑(lev ↑p)) (↑(i))) V0 (.add (.add V1 N1) N1) [(0,1,V0,.add V1 N1)] rfl (leI this.2))⟩
    · split <;> (first | exact ⟨ltN (lit (r1 (↑(i))) N0 (.add V0 N1) [(0,1,N0,V0)] rfl (nnI _)), leN (lin (r1 (↑(i))) (.add V0 N1) (.add (.add V0 N1) N1) [] rfl)⟩ | exact ⟨ltN (lit (r1 (↑(i))) N0 (.add V0 (.num 2)) [(0,1,N0,V0)] rfl (nnI _)), leN (lin (r1 (↑(i))) (.add V0 (.num 2)) (.add (.add V0 N1) N1) [] rfl)⟩)
  · have agr : ∀ q, 0 ≤ q → q ≤ m → ∀ j, j ≤ i + 1 → (zb0 i lev c q < j ↔ lev q < j) := fun q _ _ j hj => by
      by_cases hl : lev q ≤ i
      · rw [lo q hl]
      · have := hi q hl; lia
    have agr2 : ∀ q, 0 ≤ q → q ≤ m → ∀ j, j ≤ i + 1 → (zb0 i lev c q + 1 = j ↔ lev q + 1 = j) := fun q _ _ j hj => by
      by_cases hl : lev q ≤ i
      · rw [lo q hl]
      · have := hi q hl; lia
    have eb : ∀ j, j ≤ i + 1 → nb rs p (blw (zb0 i lev c) j) = nb rs p (blw lev j) := fun j hj => zfI n fun q a b => by
      unfold blw; rw [Bool.eq_iff_iff]; simp only [decide_eq_true_eq]; exact agr q a b j hj
    have el : ∀ j, j ≤ i + 1 → rt rs p (lvl (zb0 i lev c) j) = rt rs p (lvl lev j) := fun j hj => zda n fun q a b => by
      unfold lvl; rw [Bool.eq_iff_iff]; simp only [beq_iff_eq]; exact agr2 q a b j hj
    rw [eb _ h, el _ h]
    by_cases hl : lev p ≤ i
    · have hcp : c p = false := by
        cases hh : c p with
        | false => rfl
        | true => exact absurd hl (un p hp hh)
      rw [lo p hl, hcp, hg p hp hcp]
      exact L.val p hp hl
    · have hn1 : zb0 i lev c p = i + 1 := by have := hi p hl; exact eqN (Int.le_antisymm ((leI h)) (lin (r2 _ _) (.add V0 N1) V1 [(1,1,V0,V1)] rfl (ltI this)))
      obtain ⟨p', hp', e, hcp⟩ := one p (by exact nnI _) (by exact Int.le_of_lt ‹_›) hn1
      have : p = p' := by exact eqN (e)
      subst this
      rw [hn1, hcp]
      obtain ⟨k, h1, h2⟩ := hn p hp hcp
      have e1 : rt rs p (lvl lev (i + 1)) = rt rs p (zaq Y) := zda n fun q a b => by
        unfold lvl zaq; rw [Bool.eq_iff_iff]; simp only [beq_iff_eq, decide_eq_true_eq]; rw [L.y]; exact ⟨fun h => ⟨a, b, Nat.succ.inj h⟩, fun h => congrArg Nat.succ h.2.2⟩
      have e2 : nb rs p (blw lev (i + 1)) = nb rs p (zaq O) + nb rs p (zaq Y) := zfH n (fun q a b => by
        unfold blw zaq; rw [Bool.eq_iff_iff]; simp only [decide_eq_true_eq, Bool.or_eq_true]; rw [L.o, L.y]; exact ⟨fun h => (Nat.lt_or_eq_of_le (Nat.le_of_lt_succ h)).imp (fun h => ⟨a, b, h⟩) (fun h => ⟨a, b, h⟩), fun h => h.elim (fun h => Nat.lt_succ_of_lt h.2.2) fun h => h.2.2 ▸ Nat.lt_succ_self _⟩) fun q hq => by
        unfold zaq at *
        simp only [decide_eq_true_eq] at hq
        have := (L.o q).mp hq
        exact decide_eq_false fun h => by have := (L.y q).mp h; lia
      rw [e1, e2]
      exact ⟨k, h1, h2⟩
theorem nb_app (n : Net m rs) {O Y : List Int} (hd : ∀ q, q ∈ O → q ∉ Y) (x : Int) : nb rs x (zaq (O ++ Y)) = nb rs x (zaq O) + nb rs x (zaq Y) :=
  zfH n (fun q _ _ => by unfold zaq; rw [Bool.eq_iff_iff]; simp only [decide_eq_true_eq, Bool.or_eq_true, List.mem_append]) fun q hq => by
    unfold zaq at *
    simp only [decide_eq_true_eq] at hq
    exact decide_eq_false (hd q hq)
theorem Lay.apart {g i O Y lev par} (L : Lay m rs g i O Y lev par) : ∀ q, q ∈ O → q ∉ Y := fun q h h' => by
  have := (L.o q).mp h; have := (L.y q).mp h'; lia
noncomputable def Unb (m : Int) (rs : Rd2) (g : Nat → Int) (O Y : List Int) : Prop := ∀ p : Nat, (p : Int) < m → (p : Int) ∉ O → (p : Int) ∉ Y → g p + nb rs p (zaq O) < zV rs p
theorem Unb.start {g : Nat → Int} (hr : ∀ v : Nat, (v : Int) < m → g v < zV rs v) : Unb m rs g [] [m] := fun p hp _ _ => by
  have : nb rs p (zaq []) = 0 := zaL fun a _ => by unfold zaq; split <;> simp
  rw [this]; have := hr p hp; exact lit (r2 _ _) (.add V0 N0) V1 [(1,1,V0,V1)] rfl this
theorem Unb.burns {g : Nat → Int} {O : List Int} (n : Net m rs) (R : Rec m rs g) (U : Unb m rs g O []) (hO : m ∈ O) : ∀ p : Nat, (p : Int) < m → (p : Int) ∈ O := by
  have h1 := R.amp (fun v => if zaq O v then 0 else 1) (fun v _ => by split; exact .inl rfl; exact .inr rfl) (fun v hv hz => by
    have hn : (v : Int) ∉ O := fun h => by
      have : zaq O v = true := decide_eq_true h
      simp [this] at hz
    refine Int.lt_of_le_of_lt (Int.add_le_add_left (j2 fun a ha => ?_) _) (U v hv hn List.not_mem_nil)
    by_cases ha1 : a.1 = (v : Int)
    · rw [if_pos ha1, if_pos ha1]
      have ha2 := (n.arc ha).2
      show (if zaq O v = true then (0 : Int) else 1) - (if a.2 < m then (if zaq O (a.2.toNat : Int) = true then (0 : Int) else 1) else 0) ≤ _
      rw [hz]
      by_cases ha3 : a.2 < m
      · rw [if_pos ha3, tnn ha2.1]
        cases zaq O a.2 <;> decide
      · have : a.2 = m := Int.le_antisymm ha2.2 (Int.not_lt.mp ha3)
        rw [if_neg ha3, this, show zaq O m = true from decide_eq_true hO]; decide
    · rw [if_neg ha1, if_neg ha1]; exact Int.le_refl _)
  intro p hp
  have := h1 p hp
  by_cases hb : (p : Int) ∈ O
  · exact hb
  · have e : zaq O p = false := decide_eq_false hb
    rw [e] at this
    exact absurd this (by decide)
theorem Lay.corr {g i O lev par} (L : Lay m rs g i O [] lev par) (h : ∀ p : Nat, (p : Int) < m → (p : Int) ∈ O) {τ : Nat → Prop} (hτ : ∀ j, τ j ↔ ∃ p : Nat, (p : Int) < m ∧ par p = j) : yX m rs g τ lev par :=
  ⟨L.l0, fun p hp => (L.lp p hp).1, hτ, fun p hp => L.val p hp (Nat.le_of_lt ((L.o p).mp (h p hp)).2.2)⟩
theorem yX.inj (n : Net m rs) {g τ lev par} (C : yX m rs g τ lev par) {p p' : Nat} (hp : (p : Int) < m) (hp' : (p' : Int) < m) (h : par p = par p') : p = p' := by
  obtain ⟨e, he, hpe, hl⟩ := C.road hp
  obtain ⟨e', he', hpe', hl'⟩ := C.road hp'
  rw [h] at he
  rw [he] at he'
  cases he'
  have hne := (n.ends e (List.mem_of_getElem? he)).2.2
  apply Classical.byContradiction
  intro hpp
  have e1 : oth e p = (p' : Int) := by unfold oth; split <;> lia
  have e2 : oth e p' = (p : Int) := by unfold oth; split <;> lia
  rw [e1] at hl; rw [e2] at hl'
  exact lif (r2 (↑(lev ↑p')) (↑(lev ↑p))) [(2,1,.add V0 N1,V1),(2,1,.add V1 N1,V0)] rfl (eqI hl) (eqI hl')
end
end Mine
end
section
open PySem
namespace Mine
noncomputable def zd4 : List Str := ["many", "heap", "grains"]
noncomputable def wo (T : TC) (d : Nat) : SW := (zA (jg (orW (zbj (tst (zgx .list (loc 1)))) (jh .ne (j4 (loc 1)) (loc 0))) zhM qe)
    (jg (zbj (tst (allW (yM 2 (zbh (loc 1)) none (zM T d "is_within" (zh (loc 2) (zh (val (.int 0)) (zh (val (.int 1000000000)) zR)))))))) zhM qe))
noncomputable def yY (T : TC) (d : Nat) : SW := (jg (jh .lt (loc 5) (loc 0)) (zA (zax (qi (loc 2) (loc 5)) (loc 5) (jQ (qi (qi (loc 2) (loc 5)) (loc 5)) (val (.int 1))))
    (jg (jh .lt (loc 6) (loc 0)) (zax (qi (loc 2) (loc 5)) (loc 6) (zcB (qi (qi (loc 2) (loc 5)) (loc 6)) (val (.int 1)))) qe)) qe)
noncomputable def zbV (T : TC) (d : Nat) : SW := (yL (.tup [5, 6]) (zbh (q9 (zh (zgq (zh (loc 3) (zh (loc 4) zR))) (zh (zgq (zh (loc 4) (zh (loc 3) zR))) zR)))) (yY T d))
noncomputable def zfn : List Str := ["many", "roads", "rows", "one", "other", "place", "end"]
noncomputable def wV (T : TC) (d : Nat) : SW := (zA (z1 2 (yM 5 (jN (loc 0)) none (mulL (q9 (zh (val (.int 0)) zR)) (loc 0))))
    (zA (yL (.tup [3, 4]) (zbh (loc 1)) (zbV T d))
    (qR (loc 2))))
noncomputable def zgF : List Str := ["rows", "one", "other", "found"]
noncomputable def zaF (T : TC) (d : Nat) : SW := (zA (z1 3 (zbT (loc 0)))
    (zA (zax (loc 3) (loc 1) (qi (loc 0) (loc 2)))
    (zA (zax (loc 3) (loc 2) (qi (loc 0) (loc 1)))
    (qR (loc 3)))))
noncomputable def zas (T : TC) (d : Nat) : SW := (jg (jh .ne (qi (qi (loc 0) (loc 2)) (loc 1)) (val (.int 0))) (qR (loc 2)) qe)
noncomputable def zcj : List Str := ["rows", "at", "place"]
noncomputable def yg (T : TC) (d : Nat) : SW := (zA (yL (.nm 2) (zgl (loc 1) (j4 (loc 0))) (zas T d))
    (qR (val .none)))
noncomputable def zat (T : TC) (d : Nat) : SW := (zA (z1 8 (zcB (zcC (qi (qi (loc 0) (loc 5)) (loc 7)) (qi (qi (loc 0) (loc 3)) (loc 3))) (zcC (qi (qi (loc 0) (loc 5)) (loc 3)) (qi (qi (loc 0) (loc 3)) (loc 7)))))
    (zax (qi (loc 0) (loc 5)) (loc 7) (zcb (loc 8) (loc 2))))
noncomputable def jk (T : TC) (d : Nat) : SW := (yL (.nm 7) (zgl (jQ (loc 3) (val (.int 1))) (j4 (loc 0))) (zat T d))
noncomputable def yS (T : TC) (d : Nat) : SW := (zA (z1 4 (zM T d "first_other" (zh (loc 0) (zh (loc 3) zR))))
    (zA (jg (isNone false (loc 4)) (qR (val (.int 0))) qe)
    (zA (jg (jh .ne (loc 4) (loc 3)) (zA (z1 0 (zM T d "swapped" (zh (loc 0) (zh (loc 3) (zh (loc 4) zR)))))
    (z1 1 (zcB (val (.int 0)) (loc 1)))) qe)
    (zA (yL (.nm 5) (zgl (jQ (loc 3) (val (.int 1))) (j4 (loc 0))) (jk T d))
    (z1 2 (qi (qi (loc 0) (loc 3)) (loc 3)))))))
noncomputable def zck : List Str := ["rows", "sign", "ahead", "at", "place", "lower", "row", "col", "both"]
noncomputable def yZ (T : TC) (d : Nat) : SW := (zA (z1 0 (yM 6 (zbh (loc 0)) none (zbT (loc 6))))
    (zA (z1 1 (val (.int 1)))
    (zA (z1 2 (val (.int 1)))
    (zA (yL (.nm 3) (jN (j4 (loc 0))) (yS T d))
    (qR (zcC (loc 1) (loc 2)))))))
noncomputable def zdO (T : TC) (d : Nat) : SW := (zax (qi (loc 4) (loc 5)) (loc 3) (qi (loc 1) (loc 5)))
noncomputable def zdN (T : TC) (d : Nat) : SW := (zA (z1 4 (yM 6 (zbh (loc 0)) none (zbT (loc 6))))
    (zA (yL (.nm 5) (jN (j4 (loc 0))) (zdO T d))
    (zam (appW (loc 2) (zM T d "determinant" (zh (loc 4) zR))))))
noncomputable def c_solved : List Str := ["rows", "right", "found", "col", "changed", "place", "row"]
noncomputable def zaO (T : TC) (d : Nat) : SW := (zA (z1 2 (q9 zR))
    (zA (yL (.nm 3) (jN (j4 (loc 0))) (zdN T d))
    (qR (loc 2))))
noncomputable def zeQ (T : TC) (d : Nat) : SW := (zax (loc 3) (loc 5) (zcB (qi (loc 3) (loc 5)) (zcC (qi (qi (loc 0) (loc 4)) (loc 5)) (qi (loc 2) (loc 4)))))
noncomputable def zeP (T : TC) (d : Nat) : SW := (yL (.nm 5) (jN (j4 (loc 1))) (zeQ T d))
noncomputable def c_after : List Str := ["table", "heap", "times", "found", "place", "end"]
noncomputable def zdh (T : TC) (d : Nat) : SW := (zA (z1 3 (zbT (loc 1)))
    (zA (yL (.nm 4) (jN (j4 (loc 1))) (zeP T d))
    (qR (loc 3))))
noncomputable def zcf : List Str := ["table", "heap", "whole", "over", "place", "number"]
noncomputable def ye (T : TC) (d : Nat) : SW := (zA (z1 2 (zM T d "determinant" (zh (loc 0) zR)))
    (zA (z1 3 (yM 4 (jN (j4 (loc 1))) none (jQ (zcB (qi (loc 1) (loc 4)) (qi (qi (loc 0) (loc 4)) (loc 4))) (val (.int 1)))))
    (qR (yM 5 (zbh (zM T d "solved" (zh (loc 0) (zh (loc 3) zR)))) none (max2W (val (.int 0)) (zcB (val (.int 0)) (zcb (zcB (val (.int 0)) (loc 5)) (loc 2))))))))
noncomputable def zdS (T : TC) (d : Nat) : SW := (jg (jh .ge (qi (loc 5) (loc 7)) (qi (qi (loc 3) (loc 7)) (loc 7))) (zA (z1 8 (mulL (q9 (zh (val (.int 0)) zR)) (loc 0)))
    (zA (zax (loc 8) (loc 7) (zcb (qi (loc 5) (loc 7)) (qi (qi (loc 3) (loc 7)) (loc 7))))
    (zA (z1 5 (zM T d "after" (zh (loc 3) (zh (loc 5) (zh (loc 8) zR)))))
    (zA (zax (loc 4) (loc 7) (jQ (qi (loc 4) (loc 7)) (qi (loc 8) (loc 7))))
    (z1 6 (val (.bool true))))))) qe)
noncomputable def zdR (T : TC) (d : Nat) : SW := (zA (z1 6 (val (.bool false)))
    (yL (.nm 7) (jN (loc 0)) (zdS T d)))
noncomputable def c_fallen : List Str := ["many", "roads", "heap", "table", "times", "rest", "moves", "place", "turns"]
noncomputable def zc0 (T : TC) (d : Nat) : SW := (zA (z1 3 (zM T d "table_of" (zh (loc 0) (zh (loc 1) zR))))
    (zA (z1 4 (zM T d "least_times" (zh (loc 3) (zh (loc 2) zR))))
    (zA (z1 5 (zM T d "after" (zh (loc 3) (zh (loc 2) (zh (loc 4) zR)))))
    (zA (z1 6 (val (.bool true)))
    (zA (zep (tst (loc 6)) (zdR T d))
    (qR (zgq (zh (loc 5) (zh (loc 4) zR)))))))))
noncomputable def c_rests : List Str := ["many", "roads", "heap", "counts", "place"]
noncomputable def zdg (T : TC) (d : Nat) : SW := (zA (z1 3 (zM T d "counts_at" (zh (loc 0) (zh (loc 1) zR))))
    (qR (allW (yM 4 (jN (loc 0)) none (jh .lt (qi (loc 2) (loc 4)) (qi (loc 3) (loc 4)))))))
noncomputable def zcg : List Str := ["_law_found", "_law_many", "_law_one"]
noncomputable def yf (T : TC) (d : Nat) : SW := (qR (zag (zgx .list (loc 0)) (zag (jh .eq (j4 (loc 0)) (loc 1)) (eqW false (yM 2 (zbh (loc 0)) (some (zbj (tst (zM T d "_law_whole" (zh (loc 2) zR))))) (loc 2)) (q9 zR)))))
end Mine
end
section
open PySem
namespace Mine
end Mine
end
section
open PySem
namespace Mine
noncomputable def zd2 : List Str := ["road", "place"]
noncomputable def jY (T : TC) (d : Nat) : SW := (qR (iteW (jh .eq (qi (loc 0) (val (.int 1))) (loc 1)) (qi (loc 0) (val (.int 0))) (qi (loc 0) (val (.int 1)))))
noncomputable def za8 (T : TC) (d : Nat) : SW := (jg (inL false (loc 0) (loc 3)) (zA (z1 4 (zM T d "other_end" (zh (loc 3) (zh (loc 0) zR))))
    (zax (loc 2) (loc 4) (jQ (qi (loc 2) (loc 4)) (val (.int 1))))) qe)
noncomputable def zcK : List Str := ["many", "roads", "found", "road", "place"]
noncomputable def yE (T : TC) (d : Nat) : SW := (zA (z1 2 (mulL (q9 (zh (val (.int 0)) zR)) (loc 0)))
    (zA (yL (.nm 3) (zbh (loc 1)) (za8 T d))
    (qR (loc 2))))
noncomputable def zfs : List Str := ["many", "roads", "heap", "pits", "more", "place"]
noncomputable def zbd (T : TC) (d : Nat) : SW := (zA (jg (zbj (tst (zM T d "rests" (zh (loc 0) (zh (loc 1) (zh (loc 2) zR)))))) (qR (val (.bool false))) qe)
    (zA (z1 3 (zM T d "pit_counts" (zh (loc 0) (zh (loc 1) zR))))
    (zA (z1 4 (yM 5 (jN (loc 0)) none (jQ (qi (loc 2) (loc 5)) (qi (loc 3) (loc 5)))))
    (qR (eqW false (qi (zM T d "fallen" (zh (loc 0) (zh (loc 1) (zh (loc 4) zR)))) (val (.int 0))) (loc 2))))))
end Mine
end
section
open PySem
namespace Mine
end Mine
end
section
open PySem
namespace Mine
noncomputable def wK (T : TC) (d : Nat) : SW := (zA (z1 7 (yM 8 (zbh (loc 1)) (some (zag (inL false (loc 6) (loc 8)) (orW (inD false (qi (loc 8) (val (.int 0))) (loc 4)) (inD false (qi (loc 8) (val (.int 1))) (loc 4))))) (loc 8)))
    (jg (zag (inD true (loc 6) (loc 4)) (jh .ge (jQ (qi (loc 2) (loc 6)) (j4 (loc 7))) (qi (loc 3) (loc 6)))) (zax (loc 4) (loc 6) (val (.bool true))) qe))
noncomputable def zbs (T : TC) (d : Nat) : SW := (yL (.nm 6) (jN (loc 0)) (wK T d))
noncomputable def zaj (T : TC) (d : Nat) : SW := (zA (z1 3 (zM T d "_law_degrees" (zh (loc 0) (zh (loc 1) zR))))
    (zA (jg (eqW true (yM 6 (jN (loc 0)) (some (zbj (zeu .le .lt (val (.int 0)) (qi (loc 2) (loc 6)) (qi (loc 3) (loc 6))))) (loc 6)) (q9 zR)) (qR (val (.bool false))) qe)
    (zA (z1 4 (zcS (loc 0) (val (.bool true))))
    (zA (yL (.nm 5) (jN (loc 0)) (zbs T d))
    (qR (jh .eq (j4 (loc 4)) (jQ (loc 0) (val (.int 1)))))))))
end Mine
end
section
open PySem
namespace Mine
end Mine
end
section
open PySem
namespace Mine
noncomputable def zcL : List Str := ["many", "roads", "heap"]
noncomputable def yF (T : TC) (d : Nat) : SW := (jg (zbj (tst (zM T d "is_again" (zh (loc 0) (zh (loc 1) (zh (loc 2) zR)))))) (zer 6) qe)
end Mine
end
section
open PySem
namespace Mine
noncomputable def zd3 : List Str := ["many", "roads", "tree", "number"]
noncomputable def wn (T : TC) (d : Nat) : SW := (zA (jg (orW (zbj (tst (zgx .list (loc 2)))) (jh .ne (j4 (loc 2)) (loc 0))) (zer 4) qe)
    (zA (jg (orW (zbj (tst (allW (yM 3 (zbh (loc 2)) none (zM T d "is_within" (zh (loc 3) (zh (val (.int 0)) (zh (zcB (j4 (loc 1)) (val (.int 1))) zR)))))))) (jh .ne (zhk (loc 2)) (loc 0))) (zer 4) qe)
    (jg (jh .ne (j4 (zM T d "come_to" (zh (loc 0) (zh (yM 3 (zbh (loc 2)) none (qi (loc 1) (loc 3))) zR)))) (jQ (loc 0) (val (.int 1)))) (zer 4) qe)))
noncomputable def zfo : List Str := ["roads", "place", "ends", "number", "road"]
noncomputable def za7 (T : TC) (d : Nat) : SW := (qR (compEW [3, 4] (loc 0) (some (zag (inL false (loc 1) (loc 4)) (inD false (zM T d "other_end" (zh (loc 4) (zh (loc 1) zR))) (loc 2)))) (loc 3)))
noncomputable def zfq : List Str := ["many", "roads", "place", "older", "layer", "burnt"]
noncomputable def zba (T : TC) (d : Nat) : SW := (zA (z1 5 (jQ (j4 (zM T d "roads_to" (zh (loc 1) (zh (loc 2) (zh (loc 3) zR))))) (j4 (zM T d "roads_to" (zh (loc 1) (zh (loc 2) (zh (loc 4) zR)))))))
    (qR (zcB (qi (zM T d "counts_at" (zh (loc 0) (zh (loc 1) zR))) (loc 2)) (loc 5))))
noncomputable def zgI : List Str := ["older", "layer", "found"]
noncomputable def zaH (T : TC) (d : Nat) : SW := (zA (z1 2 (dictCW (loc 0)))
    (zA (zam (updW (loc 2) (loc 1)))
    (qR (loc 2))))
noncomputable def za0 (T : TC) (d : Nat) : SW := (zA (z1 9 (zM T d "least_of" (zh (loc 0) (zh (loc 1) (zh (loc 8) (zh (loc 4) (zh (loc 5) zR)))))))
    (jg (zag (inD true (loc 8) (loc 6)) (jh .ge (qi (loc 2) (loc 8)) (loc 9))) (zA (zam (appW (loc 3) (qi (zM T d "roads_to" (zh (loc 1) (zh (loc 8) (zh (loc 5) zR)))) (zcB (qi (loc 2) (loc 8)) (loc 9)))))
    (zax (loc 7) (loc 8) (val (.bool true)))) qe))
noncomputable def zaZ (T : TC) (d : Nat) : SW := (zA (z1 6 (zM T d "keys_of" (zh (loc 4) (zh (loc 5) zR))))
    (zA (z1 7 zcT)
    (zA (yL (.nm 8) (jN (loc 0)) (za0 T d))
    (zA (z1 4 (loc 6))
    (z1 5 (loc 7))))))
noncomputable def zdM (T : TC) (d : Nat) : SW := (zA (z1 4 zcT)
    (zA (z1 5 (zcS (loc 0) (val (.bool true))))
    (zA (zep (jh .gt (j4 (loc 5)) (val (.int 0))) (zaZ T d))
    (qR (sortW (loc 3))))))
noncomputable def zgE : List Str := ["many", "roads", "heap", "tree", "older", "layer", "burnt", "fresh", "place", "least"]
noncomputable def zbO (T : TC) (d : Nat) : SW := (zA (zam (zM T d "need_net" (zh (loc 0) (zh (loc 1) zR))))
    (zA (zam (zM T d "need_heap" (zh (loc 0) (zh (loc 2) zR))))
    (zA (zam (zM T d "need_again" (zh (loc 0) (zh (loc 1) (zh (loc 2) zR)))))
    (zA (z1 3 (q9 zR))
    (zdM T d)))))
noncomputable def za3 (T : TC) (d : Nat) : SW := (zA (z1 9 (zM T d "roads_to" (zh (loc 1) (zh (loc 8) (zh (loc 5) zR)))))
    (zA (z1 10 (yM 11 (zbh (loc 9)) (some (inL false (loc 11) (loc 2))) (loc 11)))
    (jg (zag (inD true (loc 8) (loc 6)) (jh .gt (j4 (loc 10)) (val (.int 0)))) (zA (zax (loc 3) (loc 8) (jQ (zM T d "least_of" (zh (loc 0) (zh (loc 1) (zh (loc 8) (zh (loc 4) (zh (loc 5) zR)))))) (idxW (loc 9) (qi (loc 10) (val (.int 0))))))
    (zax (loc 7) (loc 8) (val (.bool true)))) qe)))
noncomputable def za2 (T : TC) (d : Nat) : SW := (zA (z1 6 (zM T d "keys_of" (zh (loc 4) (zh (loc 5) zR))))
    (zA (z1 7 zcT)
    (zA (yL (.nm 8) (jN (loc 0)) (za3 T d))
    (zA (z1 4 (loc 6))
    (z1 5 (loc 7))))))
noncomputable def zdQ (T : TC) (d : Nat) : SW := (zA (z1 4 zcT)
    (zA (z1 5 (zcS (loc 0) (val (.bool true))))
    (zA (zep (jh .gt (j4 (loc 5)) (val (.int 0))) (za2 T d))
    (qR (loc 3)))))
noncomputable def zgK : List Str := ["many", "roads", "tree", "heap", "older", "layer", "burnt", "fresh", "place", "there", "own", "number"]
noncomputable def zaJ (T : TC) (d : Nat) : SW := (zA (zam (zM T d "need_net" (zh (loc 0) (zh (loc 1) zR))))
    (zA (zam (zM T d "need_tree" (zh (loc 0) (zh (loc 1) (zh (loc 2) zR)))))
    (zA (z1 3 (mulL (q9 (zh (val (.int 0)) zR)) (loc 0)))
    (zdQ T d))))
end Mine
end
section
open PySem
namespace Mine
noncomputable def za1 (T : TC) (d : Nat) : SW := (zA (asgTW [6, 7] (qi (loc 1) (loc 5)))
    (jg (orW (inD false (loc 6) (loc 3)) (inD false (loc 7) (loc 3))) (zA (zax (loc 3) (loc 6) (val (.bool true)))
    (zax (loc 3) (loc 7) (val (.bool true)))) qe))
noncomputable def zcA (T : TC) (d : Nat) : SW := (yL (.nm 5) (zbh (loc 2)) (za1 T d))
noncomputable def zgH : List Str := ["_law_many", "_law_roads", "_law_tree_here", "_law_met_here", "_law_turn", "_law_number", "_law_one", "_law_other"]
noncomputable def zaG (T : TC) (d : Nat) : SW := (zA (z1 3 (zcS (loc 0) (val (.bool true))))
    (zA (yL (.nm 4) (jN (loc 0)) (zcA T d))
    (qR (loc 3))))
noncomputable def zbc (T : TC) (d : Nat) : SW := (jg (jh .eq (subD (loc 4) (loc 5)) (loc 12)) (zax (loc 4) (loc 5) (subD (loc 4) (loc 11))) qe)
noncomputable def wu (T : TC) (d : Nat) : SW := (zA (z1 9 (popW (loc 7) (yJ (jQ (loc 3) (zcC (loc 8) (yJ (zcb (loc 3) (val (.int 50))) (val (.int 7))))) (j4 (loc 7)))))
    (zA (asgTW [10, 11] (qi (loc 2) (loc 9)))
    (jg (jh .ne (subD (loc 4) (loc 10)) (subD (loc 4) (loc 11))) (zA (zam (appW (loc 6) (loc 9)))
    (zA (z1 12 (subD (loc 4) (loc 10)))
    (yL (.nm 5) (jN (jQ (loc 1) (val (.int 1)))) (zbc T d)))) qe)))
noncomputable def zbb (T : TC) (d : Nat) : SW := (zax (loc 4) (loc 5) (loc 5))
noncomputable def zcN : List Str := ["_law_script", "_law_many", "_law_roads", "_law_first", "_law_part", "_law_k", "_law_tree_here", "_law_order", "_law_turn", "_law_number", "_law_one", "_law_other", "_law_old"]
noncomputable def yH (T : TC) (d : Nat) : SW := (zA (z1 3 (zM T d "_law_cell_at" (zh (loc 0) (zh (val (.int 20)) zR))))
    (zA (z1 4 zcT)
    (zA (yL (.nm 5) (jN (jQ (loc 1) (val (.int 1)))) (zbb T d))
    (zA (z1 6 (q9 zR))
    (zA (z1 7 (zdG (j4 (loc 2))))
    (zA (yL (.nm 8) (jN (j4 (loc 2))) (wu T d))
    (qR (loc 6))))))))
noncomputable def yN (T : TC) (d : Nat) : SW := (qR (tupleW (loc 2)))
noncomputable def yO (T : TC) (d : Nat) : SW := (zA (jg (jh .eq (loc 3) (val (.int 4))) (zA (z1 7 (qi (q9 (zh (negI (val (.int 1))) (zh (j4 (loc 1)) (zh (val (.bool true)) (zh (val .none) (zh (val (.str "0")) (zh (zgq (zh (val (.int 0)) zR)) zR))))))) (yJ (zcb (loc 4) (val (.int 11))) (val (.int 6)))))
    (qR (zgg (zgg (zd9 (loc 2) (loc 5)) (q9 (zh (loc 7) zR))) (zfd (loc 2) (jQ (loc 5) (val (.int 1))))))) qe)
    (yN T d))
noncomputable def yP (T : TC) (d : Nat) : SW := (zA (jg (zag (jh .eq (loc 3) (val (.int 3))) (eqW true (loc 2) (q9 zR))) (qR (zgg (zgg (zd9 (loc 2) (loc 5)) (q9 (zh (yJ (zcb (loc 4) (val (.int 11))) (j4 (loc 1))) zR))) (zfd (loc 2) (jQ (loc 5) (val (.int 1)))))) qe)
    (yO T d))
noncomputable def yQ (T : TC) (d : Nat) : SW := (zA (jg (jh .eq (loc 3) (val (.int 2))) (qR (zgg (loc 2) (q9 (zh (yJ (zcb (loc 4) (val (.int 11))) (max2W (val (.int 1)) (j4 (loc 1)))) zR)))) qe)
    (yP T d))
noncomputable def yR (T : TC) (d : Nat) : SW := (zA (jg (zag (jh .eq (loc 3) (val (.int 1))) (eqW true (loc 2) (q9 zR))) (qR (zgg (zd9 (loc 2) (loc 5)) (zfd (loc 2) (jQ (loc 5) (val (.int 1)))))) qe)
    (yQ T d))
noncomputable def zby : List Str := ["_law_script", "_law_roads", "_law_tree_here", "_law_way", "_law_cell", "_law_at", "_law_again_here", "_law_odd"]
noncomputable def jV (T : TC) (d : Nat) : SW := (zA (z1 3 (qi (q9 (zh (val (.int 0)) (zh (val (.int 1)) (zh (val (.int 2)) (zh (val (.int 3)) (zh (val (.int 3)) (zh (val (.int 3)) (zh (val (.int 4)) (zh (val (.int 5)) zR))))))))) (yJ (zcb (zM T d "_law_cell_at" (zh (loc 0) (zh (val (.int 21)) zR))) (val (.int 12))) (val (.int 8)))))
    (zA (z1 4 (zM T d "_law_cell_at" (zh (loc 0) (zh (val (.int 22)) zR))))
    (zA (z1 5 (yJ (loc 4) (max2W (val (.int 1)) (j4 (loc 2)))))
    (zA (jg (zag (jh .eq (loc 3) (val (.int 0))) (eqW true (loc 2) (q9 zR))) (zA (z1 6 (qi (loc 2) (yJ (zcb (loc 4) (val (.int 11))) (j4 (loc 2)))))
    (qR (zgg (zgg (zd9 (loc 2) (loc 5)) (q9 (zh (loc 6) zR))) (zfd (loc 2) (jQ (loc 5) (val (.int 1))))))) qe)
    (yR T d)))))
noncomputable def zbW (T : TC) (d : Nat) : SW := (zA (jg (orW (zbj (tst (zM T d "_law_whole" (zh (qi (loc 2) (loc 3)) zR)))) (zbj (zeu .le .lt (val (.int 0)) (qi (loc 2) (loc 3)) (j4 (loc 1))))) (qR (val (.bool false))) qe)
    (jg (inL false (qi (loc 2) (loc 3)) (zd9 (loc 2) (loc 3))) (qR (val (.bool false))) qe))
noncomputable def zfr : List Str := ["_law_many", "_law_roads", "_law_tree_here", "_law_k"]
noncomputable def wW (T : TC) (d : Nat) : SW := (zA (jg (orW (zbj (tst (zgx .list (loc 2)))) (jh .ne (j4 (loc 2)) (loc 0))) (qR (val (.bool false))) qe)
    (zA (yL (.nm 3) (jN (loc 0)) (zbW T d))
    (qR (jh .eq (j4 (zM T d "_law_met" (zh (loc 0) (zh (loc 1) (zh (loc 2) zR))))) (jQ (loc 0) (val (.int 1)))))))
noncomputable def jM (T : TC) (d : Nat) : SW := (qR (zag (isiX [0, 1, 2, 4, 6] 4 (loc 3)) (isiV [0, 1, 2, 4, 6] (loc 3))))
noncomputable def wz : List Str := ["_law_many", "_law_roads", "_law_tree_here", "e"]
noncomputable def jv (T : TC) (d : Nat) : SW := (zA (tryW [0, 1, 2, 4, 6] (zM T d "heap_of" (zh (loc 0) (zh (loc 1) (zh (loc 2) zR)))) 3 (jM T d))
    (qR (val (.bool false))))
noncomputable def zgp (T : TC) (d : Nat) : SW := (qR (zag (eqW false (loc 1) (loc 3)) (eqW false (loc 2) (loc 7))))
noncomputable def zdy (T : TC) (d : Nat) : SW := (zA (z1 5 (zbT (loc 4)))
    (zA (zam (appW (loc 4) (val (.int 7))))
    (zA (jg (eqW true (zM T d "heap_of" (zh (loc 6) (zh (loc 2) (zh (loc 1) zR)))) (loc 5)) (qR (val (.bool false))) qe)
    (zgp T d))))
noncomputable def zdz (T : TC) (d : Nat) : SW := (zA (jg (eqW true (zM T d "tree_of" (zh (loc 6) (zh (loc 2) (zh (zbT (loc 4)) zR)))) (sortW (loc 3))) (qR (val (.bool false))) qe)
    (zA (jg (eqW true (zM T d "heap_of" (zh (loc 6) (zh (loc 2) (zh (revW (loc 3)) zR)))) (loc 4)) (qR (val (.bool false))) qe)
    (zdy T d)))
noncomputable def zdA (T : TC) (d : Nat) : SW := (zA (z1 4 (zM T d "heap_of" (zh (loc 6) (zh (loc 2) (zh (loc 1) zR)))))
    (zA (jg (orW (zbj (tst (zM T d "_law_is_heap" (zh (loc 4) (zh (loc 6) zR))))) (zbj (tst (zM T d "_law_again" (zh (loc 6) (zh (loc 7) (zh (loc 4) zR))))))) (qR (val (.bool false))) qe)
    (zdz T d)))
noncomputable def zbQ (T : TC) (d : Nat) : SW := (zA (jg (zbj (tst (zM T d "_law_good" (zh (loc 6) (zh (loc 7) (zh (loc 1) zR)))))) (qR (zag (zM T d "_law_refused" (zh (loc 6) (zh (loc 2) (zh (loc 1) zR)))) (eqW false (loc 2) (loc 7)))) qe)
    (zA (z1 3 (zbT (loc 1)))
    (zdA T d)))
noncomputable def c_law11 : List Str := ["_law_script", "_law_tree_here", "_law_handed", "_law_kept", "_law_found", "_law_held", "_law_many", "_law_roads"]
noncomputable def zeO (T : TC) (d : Nat) : SW := (zA (asgTW [6, 7] (zM T d "_law_net" (zh (loc 0) (zh (val (.int 3)) zR))))
    (zA (z1 1 (zM T d "_law_tree" (zh (loc 0) (zh (loc 6) (zh (loc 7) zR)))))
    (zA (jg (jh .eq (yJ (zcb (zM T d "_law_cell_at" (zh (loc 0) (zh (val (.int 21)) zR))) (val (.int 6))) (val (.int 2))) (val (.int 1))) (z1 1 (zM T d "_law_spoilt" (zh (loc 0) (zh (loc 7) (zh (loc 1) zR))))) qe)
    (zA (z1 2 (zbT (loc 7)))
    (zbQ T d)))))
end Mine
end
section
open PySem
namespace Mine
noncomputable def lst (n : Nat) (f : Nat → Int) : List Int := (List.range n).map f
theorem jb (n f) : (lst n f).length = n := by simp [lst]
theorem zaa {n : Nat} (f) {i : Nat} (h : i < n) : (lst n f)[i]? = some (f i) := by simp [lst, h]
theorem zb1 {n f g} (h : ∀ i, i < n → f i = g i) : lst n f = lst n g := by
  unfold lst
  exact List.map_congr_left fun i hi => h i (List.mem_range.mp hi)
theorem lst_set {n : Nat} (f) {i : Nat} (h : i < n) (x : Int) : (lst n f).set i x = lst n (upd f i x) := by
  apply List.ext_getElem?
  intro j
  by_cases hj : j < n
  · rw [zaa _ hj, List.getElem?_set]
    by_cases e : i = j
    · subst e; simp [jb, hj, upd]
    · rw [if_neg e, zaa _ hj]; simp [upd, Ne.symm e]
  · rw [List.getElem?_eq_none (by simp [jb]; exact Nat.not_lt.mp ‹_›), List.getElem?_eq_none (by simp [jb]; exact Nat.not_lt.mp ‹_›)]
theorem lst_inj {n f g} (h : lst n f = lst n g) : ∀ i, i < n → f i = g i := fun i hi => by
  have := congrArg (·[i]?) h
  simp only [zaa _ hi] at this
  exact Option.some.inj this
theorem zhi (n : Nat) (x : Int) : List.replicate n x = lst n fun _ => x := by
  apply List.ext_getElem?
  intro j
  by_cases hj : j < n
  · rw [zaa _ hj]; simp [hj]
  · rw [List.getElem?_eq_none (by simp; exact Nat.not_lt.mp ‹_›), List.getElem?_eq_none (by simp [jb]; exact Nat.not_lt.mp ‹_›)]
theorem zdc (n f) : lst (n + 1) f = lst n f ++ [f n] := by simp [lst, List.range_succ]
noncomputable def L (σ : zb) (a : Addr) (n : Nat) (f : Nat → Int) : Prop := q0 σ a (lst n f)
theorem L.ext {σ σ' a n f} (h : L σ a n f) (e : Ext σ σ') : L σ' a n f := e _ _ h
theorem L.cong {σ a n f g} (h : L σ a n f) (e : ∀ i, i < n → f i = g i) : L σ a n g := by unfold L; rw [← zb1 e]; exact h
theorem L.seq {σ a n f k} (h : L σ a n f) : yj σ a k = k (zs (lst n f)) := zcv h
theorem L.item {n : Nat} {f : Nat → Int} {i : Nat} {k : V → Prop} (hi : i < n) : jJ (zs (lst n f)) i k = k (.int (f i)) := yc (zaN (zaa f hi))
theorem L.at {σ a n f} (h : L σ a n f) {i : Int} {k : V → Prop} (h0 : 0 ≤ i) (hi : i < n) (hk : k (.int (f i.toNat))) : 0 ≤ i ∧ yj σ a fun xs => jJ xs i.toNat k := by
  refine ⟨h0, ?_⟩
  rw [h.seq, L.item (by exact ltN (lit (r3 _ _ _) V0 V1 [(1,1,V2,V1),(2,1,V0,V2)] rfl hi (tnn (h0))))]; exact hk
theorem L.set {σ a n f} (h : L σ a n f) {i x : Int} {k : zb → Prop} (h0 : 0 ≤ i) (hi : i < n) (hk : ∀ σ', σ' = put σ a (.list (zs (lst n (upd f i.toNat x)))) → k σ') : zem σ a i (.int x) k := by
  rw [zad h, zQ, jb]
  refine ⟨h0, by assumption, hk _ ?_⟩
  rw [zs_set, lst_set f (by exact ltN (lit (r3 _ _ _) V0 V1 [(1,1,V2,V1),(2,1,V0,V2)] rfl hi (tnn (h0))))]
theorem zfO {m : Int} {rs : Rd2} (hm : 0 ≤ m) (hp : ∀ p ∈ rs, 0 ≤ p.1 ∧ 0 ≤ p.2) : degs m rs = lst m.toNat (zV rs) := by
  have bl : ∀ (f : Nat → Int) (e : Int), 0 ≤ e → zaD m (lst m.toNat f) e = lst m.toNat fun v => f v + if e = (v : Int) then 1 else 0 := by
    intro f e he
    unfold zaD
    by_cases h : e < m
    · rw [if_pos h, lst_set f (by exact ltN (lit (r4 _ _ _ _) V0 V1 [(1,1,V2,V3),(2,1,V0,V2),(2,-1,V1,V3)] rfl h (tnn (he)) (tnn (hm))))]
      have : (lst m.toNat f).getD e.toNat 0 = f e.toNat := by rw [List.getD_eq_getElem?_getD, zaa f (by exact ltN (lit (r4 _ _ _ _) V0 V1 [(1,1,V2,V3),(2,1,V0,V2),(2,-1,V1,V3)] rfl h (tnn (he)) (tnn (hm))))]; rfl
      rw [this]
      refine zb1 fun v hv => ?_
      unfold upd
      by_cases hev : e = (v : Int)
      · have : v = e.toNat := by exact eqN (liq (r3 _ _ _) V0 V1 [(2,-1,V2,V0),(2,-1,V1,V2)] rfl hev (tnn (lin (r2 _ _) N0 V0 [(2,-1,V0,V1),(0,1,N0,V1)] rfl hev (nnI _))))
        simp [hev]
      · have : ¬ v = e.toNat := by exact (fun h_ => lif (r3 _ _ _) [(2,1,V0,V1),(2,1,V1,V2),(1,1,V2,V0)] rfl (eqI h_) (tnn (he)) (w9 (lin (r3 _ _ _) V0 V1 [(2,-1,V1,V2),(2,-1,V2,V0)] rfl (eqI h_) (tnn (he))) hev))
        simp [hev, this]
    · rw [if_neg h]
      refine zb1 fun v hv => ?_
      have : ¬ e = (v : Int) := by exact (fun h_ => lif (r3 _ _ _) [(4,1,V0,V1),(1,1,V2,V1),(2,1,V0,V2)] rfl h (Int.lt_toNat.mp hv) h_)
      simp [this]
  have key : ∀ (rs : Rd2) (f : Nat → Int), (∀ p ∈ rs, 0 ≤ p.1 ∧ 0 ≤ p.2) → zbM m (lst m.toNat f) rs = lst m.toNat fun v => f v + zV rs v := by
    intro rs
    induction rs with
    | nil => intro f _; simp [zbM, zV, jp, ja]
    | cons p rs ih =>
      intro f h
      have hp := h p (by simp)
      show zbM m (zaD m (zaD m (lst m.toNat f) p.1) p.2) rs = _
      rw [bl f p.1 hp.1, bl _ p.2 hp.2, ih _ fun q hq => h q (by simp [hq])]
      refine zb1 fun v _ => ?_
      have : zV (p :: rs) v = (if p.1 = (v : Int) then 1 else 0) + (if p.2 = (v : Int) then 1 else 0) + zV rs v := by
        unfold zV jp
        rw [List.flatMap_cons, zc7]
        simp only [ja]; exact liq (r3 _ _ _) (.add (.add V0 (.add V1 N0)) V2) (.add (.add V0 V1) V2) [] rfl
      rw [this]; exact liq (r4 _ _ _ _) (.add (.add (.add V0 V1) V2) V3) (.add V0 (.add (.add V1 V2) V3)) [] rfl
  unfold degs
  rw [zhi, key rs _ hp]
  exact zb1 fun v _ => by exact liq (r1 _) (.add N0 V0) V0 [] rfl

structure Tab (σ : zb) (a : Addr) (n : Nat) (as : List Addr) (f : Nat → Nat → Int) : Prop where
  head : σ a = some (.list (as.map V.ref))
  len : as.length = n
  row : ∀ i b, as[i]? = some b → L σ b n (f i)
theorem Tab.ext {σ σ' a n as f} (h : Tab σ a n as f) (e : Ext σ σ') : Tab σ' a n as f := ⟨e _ _ h.head, h.len, fun i b hb => (h.row i b hb).ext e⟩
theorem Tab.at {σ a n as f} (h : Tab σ a n as f) {i : Int} {k : V → Prop} (h0 : 0 ≤ i) (hi : i < n) (hk : ∀ b, as[i.toNat]? = some b → L σ b n (f i.toNat) → k (.ref b)) : 0 ≤ i ∧ yj σ a fun xs => jJ xs i.toNat k := by
  refine ⟨h0, ?_⟩
  refine ji h.head ?_
  have hl : i.toNat < as.length := by have := h.len; exact ltN (lit (r4 _ _ _ _) V0 V1 [(1,1,V2,V3),(2,-1,V1,V3),(2,1,V0,V2)] rfl hi (eqI this) (tnn (h0)))
  refine zaV (v := .ref as[i.toNat]) (by simp [hl]) ?_
  exact hk _ (by simp [hl]) (h.row _ _ (by simp [hl]))
noncomputable def upd2 (f : Nat → Nat → Int) (i j : Nat) (x : Int) : Nat → Nat → Int := fun u => if u = i then upd (f i) j x else f u
theorem Tab.put {σ a n as f} (h : Tab σ a n as f) (nd : as.Nodup) {i j : Nat} {b : Addr} (hb : as[i]? = some b) (hj : j < n) (x : Int) : Tab (put σ b (.list (zs (lst n (upd (f i) j x))))) a n as (upd2 f i j x) := by
  have hne : a ≠ b := by
    rintro rfl
    have h1 := h.head
    have h2 := h.row i a hb
    unfold L q0 at h2
    rw [h1] at h2
    have h3 : as.map V.ref = zs (lst n (f i)) := by injection h2 with h2; injection h2
    have h4 := congrArg (·[i]?) h3
    have hi : i < n := by have := (List.getElem?_eq_some_iff.mp hb).1; have := h.len; exact ltN (lit (r3 _ _ _) V0 V1 [(1,1,V0,V2),(2,1,V2,V1)] rfl (ltI ‹_›) (eqI this))
    simp only [List.getElem?_map, hb, Option.map_some] at h4
    rw [zaN (zaa (f i) hi)] at h4
    cases h4
  refine ⟨by rw [zS _ hne]; exact h.head, h.len, fun u c hc => ?_⟩
  unfold upd2
  by_cases hu : u = i
  · subst hu
    rw [hb] at hc; cases hc
    rw [if_pos rfl]
    exact zy _ _ _
  · rw [if_neg hu]
    have hcb : c ≠ b := by
      rintro rfl
      have h1 := (List.getElem?_eq_some_iff.mp hb)
      have h2 := (List.getElem?_eq_some_iff.mp hc)
      obtain ⟨l1, e1⟩ := h1
      obtain ⟨l2, e2⟩ := h2
      exact hu ((List.getElem_inj (h₀ := l2) (h₁ := l1) nd).mp (e2.trans e1.symm))
    show q0 _ _ _
    unfold q0
    rw [zS _ hcb]
    exact h.row u c hc
end Mine
end
section
open PySem
namespace Mine
noncomputable def tabA (l : Rd2) (v u : Nat) : Int := ja l fun a => if a.1 = (v : Int) then (if u = v then 1 else 0) - (if a.2 = (u : Int) then 1 else 0) else 0
theorem tabA_snoc (l : Rd2) (a : Int × Int) (v u : Nat) : tabA (l ++ [a]) v u = tabA l v u + if a.1 = (v : Int) then (if u = v then 1 else 0) - (if a.2 = (u : Int) then 1 else 0) else 0 := by
  unfold tabA; rw [zc7]; simp [ja]
theorem Tab.cong {σ a n as f g} (h : Tab σ a n as f) (e : ∀ i j, i < n → j < n → f i j = g i j) : Tab σ a n as g :=
  ⟨h.head, h.len, fun i b hb => (h.row i b hb).cong fun j hj => e i j (by have := (List.getElem?_eq_some_iff.mp hb).1; have := h.len; exact ltN (lit (r3 _ _ _) V0 V1 [(1,1,V0,V2),(2,1,V2,V1)] rfl (ltI ‹_›) (eqI this))) hj⟩
theorem arcs_take {rs : Rd2} {i : Nat} {p : Int × Int} (h : rs[i]? = some p) : jp (rs.take (i + 1)) = jp (rs.take i) ++ [(p.1, p.2), (p.2, p.1)] := by
  unfold jp; rw [List.take_add_one, h]; simp
theorem wX (f i j x u v) : upd2 f i j x u v = if u = i then (if v = j then x else f i v) else f u v := by
  unfold upd2; split <;> simp [upd]
theorem arc_one (f : Nat → Nat → Int) {p e : Nat} (i j : Nat) (hej : e ≠ j) : upd2 f p p (f p p + 1) i j = f i j + if p = i then (if j = i then 1 else 0) - (if e = j then 1 else 0) else 0 := by
  by_cases h : p = i
  · subst h
    rw [wX, if_pos rfl, if_pos rfl, if_neg hej, Int.sub_zero]
    by_cases h2 : j = p
    · subst h2; rw [if_pos rfl, if_pos rfl]
    · rw [if_neg h2, if_neg h2, Int.add_zero]
  · rw [wX, if_neg (Ne.symm h), if_neg h, Int.add_zero]
theorem arc_both (f : Nat → Nat → Int) {p e : Nat} (hne : p ≠ e) (i j : Nat) : upd2 (upd2 f p p (f p p + 1)) p e (upd2 f p p (f p p + 1) p e - 1) i j = f i j + if p = i then (if j = i then 1 else 0) - (if e = j then 1 else 0) else 0 := by
  by_cases h2 : e = j
  · subst h2
    by_cases h : p = i
    · subst h
      rw [wX, if_pos rfl, if_pos rfl, wX, if_pos rfl, if_neg (Ne.symm hne), if_pos rfl, if_neg (Ne.symm hne), if_pos rfl]; rfl
    · rw [wX, if_neg (Ne.symm h), wX, if_neg (Ne.symm h), if_neg h, Int.add_zero]
  · rw [wX, ← arc_one f i j h2]
    by_cases h : i = p
    · subst h; rw [if_pos rfl, if_neg (Ne.symm h2)]
    · rw [if_neg h]
section
variable {T : TC} {d : Nat} {σ : zb} {Q : V → zb → Prop} {P : Nat → zb → Prop}
theorem zeros {m : Int} {ρ : zP} {a : EW} (hm : 0 ≤ m) (hm' : m ≤ 10) (ha : ∀ (σ : zb) (Q : V → zb → Prop) (P : Nat → zb → Prop), a ρ σ Q P = Q (.int m) σ) (hq : ∀ c σ', σ c = none → Ext σ σ' → L σ' c m.toNat (fun _ => 0) → Q (.ref c) σ') : mulL (q9 (zh (val (.int 0)) zR)) a ρ σ Q P := by
  simp only [ql, zv, qV, zak, ze4, wx, yo, powI_, negI_, qy, zbF, wv, zan, zdp, iteW_, z4, zK, jC, zc3, qG, qu, zcV, zhJ, zbn, zhF, zgn, zet, zcO, zen, ziw, zab, zgd, eqB_w, zce, zeo, anyW_, z5, jT, yk, jS, zcP, qx, zE, yn, qa, zcW, wk, qv, zhL, w7, j5, zdf, qB, yd, qY, jy, zf, zg, zp, zq, yU, yT, zd, ze, zm, qd, qg, qc, List.length_cons, List.length_nil, Cmp.run, zdu, zdd, zcR, zhH]
  refine ⟨by first | exact Nat.le_of_ble_eq_true rfl | simp [lim], zi fun c σ₁ hc e1 hv => ?_⟩
  rw [ha]
  refine zH hv ?_
  refine ⟨by exact lit (r1 _) V0 (.num 4611686018427387904) [(0,1,V0,.num 10)] rfl hm', by exact lin (r1 _) (.neg (.num 4611686018427387904)) V0 [(0,1,N0,V0)] rfl hm, by simp [lim]; exact lin (r1 _) V0 (.num 1000000) [(0,1,V0,.num 10)] rfl hm', zi fun c' σ₂ hc' e2 hv2 => ?_⟩
  refine hq c' σ₂ (e1.none hc') (e1.trans e2) ?_
  unfold L q0
  rw [hv2, ← zhi]
  congr 2
  unfold zs
  generalize m.toNat = k
  induction k with
  | zero => rfl
  | succ k ih => rw [List.replicate_succ, List.replicate_succ, List.flatten_cons, ih]; rfl
theorem y8 {ρ : zP} {i : Nat} {v : V} (h : jW ρ i = some v) (σ : zb) (Q : V → zb → Prop) (P : Nat → zb → Prop) : loc i ρ σ Q P = Q v σ := by rw [zv, h]
theorem table_b1 {m : Int} {rs : Rd2} {σ₀ : zb} {a : Addr} {as : List Addr} {f : Nat → Nat → Int} {p e : Int} {o1 o3 o4 : Option V} {K : Out → zP → zb → Prop} (hm : 0 ≤ m) (e0 : Ext σ₀ σ) (ht : Tab σ a m.toNat as f) (nd : as.Nodup) (hf : ∀ b ∈ as, σ₀ b = none)
    (hp : 0 ≤ p) (he : 0 ≤ e) (hpe : p ≠ e)
    (hk : ∀ σ', Ext σ₀ σ' → (∀ c, c ∉ as → σ' c = σ c) → Tab σ' a m.toNat as (fun v u => f v u + if p = (v : Int) then (if u = v then 1 else 0) - (if e = (u : Int) then 1 else 0) else 0) → K .next [some (.int m), o1, some (.ref a), o3, o4, some (.int p), some (.int e)] σ') :
    yY T d [some (.int m), o1, some (.ref a), o3, o4, some (.int p), some (.int e)] σ K P := by
  unfold yY
  obtain ⟨p, rfl⟩ := Int.eq_ofNat_of_zero_le hp
  obtain ⟨e, rfl⟩ := Int.eq_ofNat_of_zero_le he
  simp only [ql, zv, qV, zak, ze4, wx, yo, powI_, negI_, qy, zbF, wv, zan, zdp, iteW_, z4, zK, jC, zc3, qG, qu, zcV, zhJ, zbn, zhF, zgn, zet, zcO, zen, ziw, zab, zgd, eqB_w, zce, zeo, anyW_, z5, jT, yk, jS, zcP, qx, zE, yn, qa, zcW, wk, qv, zhL, w7, j5, zdf, qB, yd, qY, jy, zf, zg, zp, zq, yU, yT, zd, ze, zm, qd, qg, qc, List.length_cons, List.length_nil, Cmp.run, zdu, zdd, zcR, zhH]
  by_cases hpm : p < m
  · refine qK (decide_eq_true hpm) ?_
    refine ht.at hp (by exact Mine.lt_toNat ‹_›) fun b hb hbl => ?_
    refine hbl.at hp (by exact Mine.lt_toNat ‹_›) ?_
    refine ht.at hp (by exact Mine.lt_toNat ‹_›) fun b' hb' _ => ?_
    first | (rw [Int.toNat_natCast, hb] at hb'; cases hb') | (rw [hb] at hb'; cases hb')
    simp only [ze]
    have hbm := List.mem_of_getElem? hb
    refine hbl.set hp (by exact Mine.lt_toNat ‹_›) fun σ₁ hσ₁ => ?_
    rw [Int.toNat_natCast] at hb hσ₁
    have ht1 := ht.put nd hb (j := p) (by exact Mine.wG ‹_›) (f p p + 1)
    rw [← hσ₁] at ht1
    have e1 : Ext σ₀ σ₁ := by rw [hσ₁]; exact e0.put (hf b hbm) _
    have o1' : ∀ c, c ∉ as → σ₁ c = σ c := fun c hc => by rw [hσ₁, zS _ (by rintro rfl; exact hc hbm)]
    by_cases hem : e < m
    · refine qK (decide_eq_true hem) ?_
      refine ht1.at hp (by exact Mine.lt_toNat ‹_›) fun b' hb' hbl' => ?_
      first | (rw [Int.toNat_natCast, hb] at hb'; cases hb') | (rw [hb] at hb'; cases hb')
      refine hbl'.at he (by exact Mine.lt_toNat ‹_›) ?_
      refine ht1.at hp (by exact Mine.lt_toNat ‹_›) fun b' hb' hbl'' => ?_
      first | (rw [Int.toNat_natCast, hb] at hb'; cases hb') | (rw [hb] at hb'; cases hb')
      refine hbl'.set he (by exact Mine.lt_toNat ‹_›) fun σ₂ hσ₂ => ?_
      simp only [Int.toNat_natCast] at hσ₂
      have ht2 := ht1.put nd hb (j := e) (by exact Mine.wG ‹_›) (upd2 f p p (f p p + 1) p e - 1)
      rw [← hσ₂] at ht2
      refine hk σ₂ (by rw [hσ₂]; exact e1.put (hf b hbm) _) (fun c hc => by rw [hσ₂, zS _ (by rintro rfl; exact hc hbm)]; exact o1' c hc) (ht2.cong fun i j hi hj => ?_)
      simp only [Int.natCast_inj]
      exact arc_both f (by exact (fun h_ => lif (r2 _ _) [(2,-1,V0,V1),(1,1,V0,V1)] rfl (eqI h_) (w9 (lin (r2 _ _) V0 V1 [(2,1,V0,V1)] rfl (eqI h_)) hpe))) i j
    · refine je (decide_eq_false hem) ?_
      refine hk σ₁ e1 o1' (ht1.cong fun i j hi hj => ?_)
      simp only [Int.natCast_inj]
      exact arc_one f i j (by exact (fun h_ => lif (r3 _ _ _) [(4,1,V0,V1),(1,1,V2,V1),(2,1,V0,V2)] rfl hem (Int.lt_toNat.mp hj) (eqI h_)))
  · refine je (decide_eq_false hpm) ?_
    refine hk σ e0 (fun _ _ => rfl) (ht.cong fun i j hi hj => ?_)
    have hpi : ¬ p = (i : Int) := by exact (fun h_ => lif (r3 _ _ _) [(4,1,V0,V1),(1,1,V2,V1),(2,1,V0,V2)] rfl hpm (Int.lt_toNat.mp hi) h_)
    simp [hpi]
end
end Mine
end
section
open PySem
namespace Mine
section
variable {T : TC} {d : Nat} {σ : zb} {Q : V → zb → Prop} {P : Nat → zb → Prop}
theorem zfR (h : FnW T "table_of" 2 5 (wV T)) {m : Int} {r : Addr} {rs : Rd2} (n : Net m rs) (hr : z2 σ r rs)
    (hq : ∀ a as σ', Ext σ σ' → Tab σ' a m.toNat as (zbG rs) → as.Nodup → (∀ b ∈ as, σ b = none) → σ a = none → Q (.ref a) σ') : zC T (d + 1) "table_of" [.int m, .ref r] σ Q P := by
  have hm := n.m0; have hm' := n.m10
  refine h d _ _ _ _ rfl ?_
  obtain ⟨vs, hr1, hr2⟩ := hr
  unfold wV
  simp only [zE, qa, jT, jS, zv, qd, qg, qc, zf, zg, zd]
  refine ⟨by first | exact qL ‹_› ‹_› | (unfold jc; omega), by first | exact zdn ‹_› | (rw [qf]; unfold lim; omega), ?_⟩
  refine qE (fun i acc σ' => ∃ as : List Addr, acc = as.map V.ref ∧ as.length = i ∧ as.Nodup ∧ (∀ b ∈ as, σ b = none ∧ L σ' b m.toNat fun _ => 0) ∧ Ext σ σ') ⟨[], rfl, rfl, by simp, by simp, .refl⟩ ?_ ?_
  · intro i v acc σ' K' hv hI6a hK
    obtain ⟨as, rfl, hcj⟩ := hI6a
    have hl := hcj.1; have nd := hcj.2.1; have hb := hcj.2.2.1; have e := hcj.2.2.2; clear hcj
    refine ⟨trivial, ?_⟩
    refine zeros hm hm' (y8 (v := .int m) rfl) fun c σ₁ hc e1 hcv => ?_
    refine hK _ _ ⟨as ++ [c], by simp, by simp [hl], ?_, fun b hb' => ?_, e.trans e1⟩
    · rw [List.nodup_append]
      refine ⟨nd, by simp, fun x hx y hy => ?_⟩
      simp only [List.mem_singleton] at hy; subst hy
      rintro rfl
      have := (hb x hx).2
      unfold L q0 at this
      rw [hc] at this; cases this
    · rcases List.mem_append.mp hb' with h | h
      · exact ⟨(hb b h).1, (hb b h).2.ext e1⟩
      · simp only [List.mem_singleton] at h; subst h
        exact ⟨e.none hc, hcv⟩
  · rintro acc σ' ⟨as, rfl, hcj⟩
    have hl := hcj.1; have nd := hcj.2.1; have hb := hcj.2.2.1; have e := hcj.2.2.2; clear hcj
    rw [qf] at hl
    refine ⟨trivial, zi fun a σ₁ ha e1 hav => ?_⟩
    have ht : Tab σ₁ a m.toNat as fun _ _ => 0 := ⟨hav, by assumption, fun i b hib => (hb b (List.mem_of_getElem? hib)).2.ext e1⟩
    have hf : ∀ b ∈ as, σ b = none := fun b hb' => (hb b hb').1
    have ha0 := e.none ha
    have haas : a ∉ as := fun hm => by have := (hb a hm).2; unfold L q0 at this; rw [ha] at this; cases this
    simp only [zq, zp, j5, yk, zv, zf, zg, ze]
    have e01 := e.trans e1
    refine qh (e01 _ _ hr1) ?_
    refine zU (fun i ρ σ' => X4 fun o3 o4 o5 o6 => ρ = [some (.int m), some (.ref r), some (.ref a), o3, o4, o5, o6] ∧ Ext σ σ' ∧ Tab σ' a m.toNat as (tabA (jp (rs.take i)))) ?_ ?_ ?_
    · exact ⟨_, _, _, _, rfl, e01, ht.cong fun i j _ _ => rfl⟩
    · intro i v ρ σ₂ K' hv hI6c hK
      obtain ⟨o3, o4, o5, o6, rfl, hcj⟩ := hI6c
      have e2 := hcj.1; have ht2 := hcj.2; clear hcj
      obtain ⟨t, p, q, rfl, hrs, htt⟩ := hr2.get hv
      have hends := n.ends _ (List.mem_of_getElem? hrs)
      refine ⟨.inl (e2 _ _ hr1), ?_⟩
      simp only [yd, ze]
      refine zaE (e2 _ _ htt) ?_
      refine ⟨rfl, ?_⟩
      unfold zbV
      simp only [yU, yT, zq, zp, j5, yk, jC, zK, z4, zc3, zv, zf, zg, List.length_cons, List.length_nil]
      refine ⟨by first | exact Nat.le_of_ble_eq_true rfl | simp [lim], zi fun t1 σ₃ h3 e3 hv3 => ⟨by first | exact Nat.le_of_ble_eq_true rfl | simp [lim], zi fun t2 σ₄ h4 e4 hv4 => ⟨by first | exact Nat.le_of_ble_eq_true rfl | simp [lim], zi fun l σ₅ h5 e5 hv5 => ?_⟩⟩⟩
      simp only [ze]
      refine qh hv5 ?_
      have e35 := (e3.trans e4).trans e5
      have fresh : ∀ {x o}, σ₅ x = some o → σ₂ x = none → x ∉ as ∧ x ≠ a := by
        intro x o hx hn
        refine ⟨fun hm => ?_, fun hxa => ?_⟩
        · obtain ⟨j, hj, hje⟩ := List.getElem_of_mem hm
          have := ht2.row j x (by rw [← hje]; simp [hj])
          unfold L q0 at this; rw [hn] at this; cases this
        · rw [hxa, ht2.head] at hn; cases hn
      have f1 := fresh (e5 _ _ (e4 _ _ hv3)) h3
      have f2 := fresh (e5 _ _ hv4) (e3.none h4)
      have fl := fresh hv5 ((e3.trans e4).none h5)
      refine zU (fun j ρ σ₆ => X2 fun o5 o6 => ρ = [some (.int m), some (.ref r), some (.ref a), some (.int p), some (.int q), o5, o6] ∧ Ext σ σ₆ ∧ σ₆ l = some (.list [.ref t1, .ref t2]) ∧ σ₆ t1 = some (.tup [.int p, .int q]) ∧ σ₆ t2 = some (.tup [.int q, .int p]) ∧ Tab σ₆ a m.toNat as (tabA (jp (rs.take i) ++ [(p, q), (q, p)].take j))) ?_ ?_ ?_
      · exact ⟨_, _, rfl, e2.trans e35, hv5, e5 _ _ (e4 _ _ hv3), e5 _ _ hv4, by simpa using ht2.ext e35⟩
      · intro j v ρ σ₆ K'' hv' hI6d hK'
        obtain ⟨o5, o6, rfl, hcj⟩ := hI6d
        have e6 := hcj.1; have hl6 := hcj.2.1; have ht1 := hcj.2.2.1; have ht2' := hcj.2.2.2.1; have htab := hcj.2.2.2.2; clear hcj
        refine ⟨.inl hl6, ?_⟩
        have go : ∀ (tt : Addr) (x y : Int), σ₆ tt = some (.tup [.int x, .int y]) → [(p, q), (q, p)][j]? = some (x, y) → 0 ≤ x → 0 ≤ y → x ≠ y →
            zfv (.tup [5, 6]) (.ref tt) [some (.int m), some (.ref r), some (.ref a), some (.int p), some (.int q), o5, o6] σ₆ fun ρ' => yY T d ρ' σ₆ K'' noP := by
          intro tt x y htt hxy hx hy hne
          refine zaE htt ?_
          refine ⟨rfl, ?_⟩
          refine table_b1 (rs := rs) hm e6 htab nd hf hx hy hne fun σ₇ e7 hsame ht7 => ?_
          refine hK' .next _ _ ⟨_, _, rfl, e7, by rw [hsame l fl.1]; exact hl6, by rw [hsame t1 f1.1]; exact ht1, by rw [hsame t2 f2.1]; exact ht2', ht7.cong fun u w hu hw => ?_⟩
          rw [List.take_add_one, hxy]
          simp only [Option.toList_some, ← List.append_assoc]
          rw [tabA_snoc]
        rcases two_get hv' with ⟨rfl, rfl⟩ | ⟨rfl, rfl⟩
        · exact go t1 p q ht1 rfl hends.1.1 hends.2.1.1 hends.2.2
        · exact go t2 q p ht2' rfl hends.2.1.1 hends.1.1 (Ne.symm hends.2.2)
      · rintro ρ σ₆ ⟨o5, o6, rfl, hcj⟩
        have e6 := hcj.1; have hl6 := hcj.2.1; have ht1 := hcj.2.2.1; have ht2' := hcj.2.2.2.1; have htab := hcj.2.2.2.2; clear hcj
        refine ⟨.inl hl6, hK .next _ _ ⟨_, _, _, _, rfl, e6, ?_⟩⟩
        rw [arcs_take hrs]
        simpa using htab
    · rintro ρ σ₂ ⟨o3, o4, o5, o6, rfl, hcj⟩
      have e2 := hcj.1; have ht2 := hcj.2; clear hcj
      refine ⟨.inl (e2 _ _ hr1), ?_⟩
      rw [hr2.length, List.take_length] at ht2
      exact hq a as σ₂ e2 ht2 nd hf ha0
noncomputable def aftF (n : Nat) (f : Nat → Nat → Int) (h t : Nat → Int) (e : Nat) : Int := h e - zY (List.range n) fun p => f p e * t p
theorem zfA (h : FnW T "after" 3 3 (zdh T)) {n : Nat} {a hp tm : Addr} {as : List Addr} {f : Nat → Nat → Int} {g t : Nat → Int} (hn : n ≤ 10) (ht : Tab σ a n as f) (hh : L σ hp n g) (htm : L σ tm n t) (hb : ∀ i j, i < n → j < n → (f i j).natAbs ≤ 1000)
    (hq : ∀ c σ', Ext σ σ' → σ c = none → L σ' c n (aftF n f g t) → Q (.ref c) σ') : zC T (d + 1) "after" [.ref a, .ref hp, .ref tm] σ Q P := by
  refine h d _ _ _ _ rfl ?_
  unfold zdh
  simp only [zE, qa, zcV, zv, qd, qg, qc, zf, zg, ze]
  refine ji hh ?_
  refine zi fun c σ₁ hc e1 hcv => ?_
  simp only [zq, zp, j5, jS, qu, zv, zf, zg, ze]
  refine zW (e1 _ _ hh) ?_
  simp only [zd, zQ, jb]
  refine ⟨by first | exact qL ‹_› ‹_› | (unfold jc; exact ⟨lin (r1 _) (.neg (.num 4611686018427387904)) V0 [(0,1,N0,V0)] rfl (nnI _), lit (r1 _) V0 (.num 4611686018427387904) [(0,1,V0,.num 10)] rfl (leI hn)⟩), ?_⟩
  refine zU (fun i ρ σ' => X2 fun o4 o5 => ρ = [some (.ref a), some (.ref hp), some (.ref tm), some (.ref c), o4, o5] ∧ Ext σ σ' ∧ L σ' c n fun e => g e - zY (List.range i) fun p => f p e * t p) ?_ ?_ ?_
  · exact ⟨_, _, rfl, e1, (show L σ₁ c n g from hcv).cong fun i _ => by simp [zY]⟩
  · intro i v ρ σ' K' hv hI6a hK
    obtain ⟨o4, o5, rfl, hcj⟩ := hI6a
    have e := hcj.1; have hcl := hcj.2; clear hcj
    obtain ⟨hi, rfl⟩ := qQ hv
    refine ⟨trivial, ?_⟩
    unfold zeP
    simp only [qB, zq, zp, j5, jS, qu, zv, zf, zg, ze]
    refine zW (e _ _ hh) ?_
    simp only [zd, zQ, jb, Int.zero_add]
    refine ⟨by first | exact qL ‹_› ‹_› | (unfold jc; exact ⟨lin (r1 _) (.neg (.num 4611686018427387904)) V0 [(0,1,N0,V0)] rfl (nnI _), lit (r1 _) V0 (.num 4611686018427387904) [(0,1,V0,.num 10)] rfl (leI hn)⟩), ?_⟩
    refine zU (fun j ρ σ'' => ∃ o5, ρ = [some (.ref a), some (.ref hp), some (.ref tm), some (.ref c), some (.int (i : Int)), o5] ∧ Ext σ σ'' ∧ L σ'' c n fun e => g e - (zY (List.range i) fun p => f p e * t p) - if e < j then f i e * t i else 0) ?_ ?_ ?_
    · exact ⟨_, rfl, e, hcl.cong fun u _ => by simp⟩
    · intro j v ρ σ'' K'' hv' hI6b hK'
      obtain ⟨o5, rfl, hcj⟩ := hI6b
      have e' := hcj.1; have hcl' := hcj.2; clear hcj
      obtain ⟨hj, rfl⟩ := qQ hv'
      refine ⟨trivial, ?_⟩
      unfold zeQ
      simp only [ql, zv, qV, zak, ze4, wx, yo, powI_, negI_, qy, zbF, wv, zan, zdp, iteW_, z4, zK, jC, zc3, qG, qu, zcV, zhJ, zbn, zhF, zgn, zet, zcO, zen, ziw, zab, zgd, eqB_w, zce, zeo, anyW_, z5, jT, yk, jS, zcP, qx, zE, yn, qa, zcW, wk, qv, zhL, w7, j5, zdf, qB, yd, qY, jy, zf, zg, zp, zq, yU, yT, zd, ze, zm, qd, qg, qc, List.length_cons, List.length_nil, Cmp.run, zdu, zdd, zcR, zhH]
      simp only [Int.zero_add]
      refine hcl'.at (by exact nnI _) (by exact Int.ofNat_lt.mpr ‹_›) ?_
      refine (ht.ext e').at (by exact nnI _) (by exact Int.ofNat_lt.mpr ‹_›) fun b hb' hbl => ?_
      refine hbl.at (by exact nnI _) (by exact Int.ofNat_lt.mpr ‹_›) ?_
      refine (htm.ext e').at (by exact nnI _) (by exact Int.ofNat_lt.mpr ‹_›) ?_
      simp only [zd, Int.toNat_natCast]
      have hbb := hb i j ‹_› ‹_›
      refine ⟨zdq (by lia) (by lia), ?_⟩
      refine hcl'.set (by exact nnI _) (by exact Int.ofNat_lt.mpr ‹_›) fun σ₃ hσ₃ => ?_
      refine hK' .next _ _ ⟨_, rfl, by rw [hσ₃]; exact e'.put hc _, ?_⟩
      have : L σ₃ c n (upd (fun e => g e - (zY (List.range i) fun p => f p e * t p) - if e < j then f i e * t i else 0) j (g j - (zY (List.range i) fun p => f p j * t p) - (if j < j then f i j * t i else 0) - f i j * t i)) := by
        rw [hσ₃]; exact zy _ _ _
      refine this.cong fun u hu => ?_
      unfold upd
      by_cases huj : u = j
      · subst huj; simp
      · by_cases hlt : u < j
        · have : u < j + 1 := by exact ltN (lit (r2 _ _) V0 (.add V1 N1) [(1,1,V0,V1)] rfl (ltI hlt))
          simp [huj, hlt, this]
        · have : ¬ u < j + 1 := by exact (fun h_ => lif (r2 _ _) [(0,1,V0,V1),(1,1,V1,V0)] rfl (nuI hlt) (ww (lin (r2 _ _) V0 V1 [(1,1,V0,.add V1 N1)] rfl (ltI h_)) huj))
          simp [huj, hlt, this]
    · rintro ρ σ'' ⟨o5, rfl, hcj⟩
      have e' := hcj.1; have hcl' := hcj.2; clear hcj
      rw [qf] at hcl'
      refine ⟨trivial, hK .next _ _ ⟨_, _, rfl, e', hcl'.cong fun u hu => ?_⟩⟩
      rw [List.range_succ, zc5]
      have : u < (n : Int).toNat := by assumption
      simp [zY, this]; lia
  · rintro ρ σ' ⟨o4, o5, rfl, hcj⟩
    have e := hcj.1; have hcl := hcj.2; clear hcj
    refine ⟨trivial, ?_⟩
    rw [qf] at hcl
    exact hq c σ' e hc (hcl.cong fun u _ => by unfold aftF; rw [Int.toNat_natCast])
end
end Mine
end
section
open PySem
namespace Mine
theorem bits_le {x : Int} {k : Nat} (h : x.natAbs < 2 ^ k) : Builtin.Int.intBits x ≤ k := by
  unfold Builtin.Int.intBits
  split
  · exact Nat.le_of_ble_eq_true rfl
  · rename_i hx
    have hx' : x.natAbs ≠ 0 := by simpa using hx
    have := (Nat.log2_lt hx').mpr h
    assumption
theorem zgu {a b : Int} (ha : a.natAbs < 2 ^ 700) (hb : b.natAbs < 2 ^ 700) : IntMulOk a b :=
  .of_bits (Nat.le_trans (bits_le ha) (by decide)) (Nat.le_trans (bits_le hb) (by decide))
theorem zir {x y : Int} (h : y.natAbs < 2 ^ 700) : Builtin.divisionGoesByPylong x y = false := by
  refine PyProof.noPylong_of_log2 ?_
  by_cases hy : y.natAbs = 0
  · rw [hy]; decide
  · have := (Nat.log2_lt hy).mpr h
    exact ltN (lit (r1 _) V0 (.num 9000) [(1,1,V0,.num 700)] rfl (ltI this))
theorem Vk_bound {n k : Nat} {R : List Row} {B : Nat} (hn : n ≤ 10) (hk : k < n) (hB : (10 * B) ^ 10 < 2 ^ 700) (hB1 : 1 ≤ B) {x : Row} {j : Nat} (hj : j < n) (hR : ∀ r ∈ R, ∀ c, c < n → (r c).natAbs ≤ B) (hx : ∀ c, c < n → (x c).natAbs ≤ B) : (Vk k R x j).natAbs < 2 ^ 700 := by
  unfold Vk
  have h1 := zbS (B := B) (N := 10) (List.range k ++ [j]) (R.take k ++ [x]) (fun r hr c hc => ?_) (by simp; lia)
  · refine Nat.lt_of_le_of_lt (Nat.le_trans h1 (Nat.pow_le_pow_right (by exact ltN (lit (r1 _) N0 (.mulL 10 V0) [(0,10,N1,V0)] rfl (leI hB1))) ?_)) hB
    simp; exact leN (lin (r2 _ _) V0 (.num 9) [(0,1,V1,.num 10),(1,1,V0,V1)] rfl (leI hn) (ltI hk))
  · have hc' : c < n := by
      rcases List.mem_append.mp hc with h | h
      · have := List.mem_range.mp h; exact ltN (lit (r3 _ _ _) V0 V1 [(1,1,V2,V1),(1,1,V0,V2)] rfl (ltI hk) (ltI this))
      · simp at h; exact ltN (lit (r3 _ _ _) V0 V1 [(1,1,V2,V1),(2,1,V0,V2)] rfl (ltI hj) (eqI h))
    rcases List.mem_append.mp hr with h | h
    · exact hR r (List.mem_of_mem_take h) c hc'
    · simp at h; subst h; exact hx c hc'
theorem pk_bound {n k : Nat} {R : List Row} {B : Nat} (hn : n ≤ 10) (hk : k ≤ n) (hB : (10 * B) ^ 10 < 2 ^ 700) (hB1 : 1 ≤ B) (hR : ∀ r ∈ R, ∀ c, c < n → (r c).natAbs ≤ B) : (pk k R).natAbs < 2 ^ 700 := by
  unfold pk
  have h1 := zbS (B := B) (N := 10) (List.range k) (R.take k) (fun r hr c hc => hR r (List.mem_of_mem_take hr) c (by have := List.mem_range.mp hc; exact Nat.lt_of_lt_of_le ‹_› ‹_›)) (by simp; lia)
  refine Nat.lt_of_le_of_lt (Nat.le_trans h1 (Nat.pow_le_pow_right (by exact ltN (lit (r1 _) N0 (.mulL 10 V0) [(0,10,N1,V0)] rfl (leI hB1))) ?_)) hB
  simp; exact Nat.le_trans ‹_› ‹_›
theorem det_thin (cs2 : List Nat) (vs : List Row) : ∀ (cs1 : List Nat) (xs : List Row), xs.length < cs1.length → (∀ v ∈ vs, ∀ c ∈ cs1, v c = 0) → det (cs1 ++ cs2) (xs ++ vs) = 0 := by
  intro cs1_
  induction cs1_ with
  | nil =>
    intro xs hl _
    simp at hl
  | cons c cs1 ih_ =>
    intro xs hl h
    rw [List.cons_append, qo]
    have := Ex_block (l := ev c) (fun v hv => h v hv c (by simp)) 0 xs (det (cs1 ++ cs2)) (fun _ => 0) fun t ht => by
      rw [ih_ t (by simp at hl; exact ltN (lit (r3 _ _ _) V0 V1 [(1,1,V2,.add V1 N1),(2,1,.add V0 N1,V2)] rfl (ltI hl) (eqI ht))) fun v hv c' hc' => h v hv c' (by simp [hc'])]; decide
    rw [this]; exact liq (r1 _) (.mulR V0 0) N0 [] rfl
theorem Vk_all {k : Nat} {R : List Row} (hk : k ≤ R.length) (cs : List Nat) : ∀ (rest pre : List Row), det cs (R.take k ++ pre ++ rest.map (Vk k R)) = pk k R ^ rest.length * det cs (R.take k ++ pre ++ rest) := by
  intro rest_
  induction rest_ with
  | nil =>
    intro pre
    simp
  | cons x rest ih_ =>
    intro pre
    have h1 := zhP hk (L := fun v => det cs ((R.take k ++ pre) ++ v :: rest.map (Vk k R))) (fun a u b v => zaW _ _ a u b v _) (fun r hr => zhg (zaW _) (zge _) (by simp [hr])) x
    have h2 := ih_ (pre ++ [x])
    simp only [List.map_cons, List.length_cons]
    rw [h1]
    simp only [List.append_assoc, List.singleton_append] at h2 ⊢
    rw [h2, Int.pow_succ]
    grind
theorem zh7 {R : List Row} {k : Nat} (hk : k < R.length) (hp : pk k R ≠ 0) (h0 : ∀ r ∈ R.drop k, Vk k R r k = 0) : det (List.range R.length) R = 0 := by
  obtain ⟨q, hq, _⟩ := zdV (show k + 1 ≤ R.length by assumption)
  have h1 := Vk_all (show k ≤ R.length by exact Nat.le_of_lt ‹_›) (List.range R.length) (R.drop k) []
  simp only [List.append_nil, List.take_append_drop] at h1
  have h2 : det (List.range R.length) (R.take k ++ (R.drop k).map (Vk k R)) = 0 := by
    rw [hq]
    refine det_thin q _ (List.range (k + 1)) (R.take k) (by simp; lia) fun v hv c hc => ?_
    obtain ⟨r, hr, rfl⟩ := List.mem_map.mp hv
    have := List.mem_range.mp hc
    by_cases hck : c = k
    · subst hck; exact h0 r hr
    · exact zhO R r (by exact ltN ((ww (lin (r2 _ _) V0 V1 [(1,1,V0,.add V1 N1)] rfl (ltI this)) hck)))
  rw [h2] at h1
  have h3 : pk k R ^ (R.drop k).length ≠ 0 := Int.pow_ne_zero hp
  rcases Int.mul_eq_zero.mp h1.symm with h | h
  · exact absurd h h3
  · exact h
noncomputable def swp (R : List Row) (i j : Nat) : List Row := (R.set i (R.getD j fun _ => 0)).set j (R.getD i fun _ => 0)
theorem swp_len (R i j) : (swp R i j).length = R.length := by simp [swp]
theorem split1 : ∀ {R : List Row} {i : Nat} {u : Row}, R[i]? = some u → ∃ p z, R = p ++ u :: z ∧ p.length = i
  | [], _, _, h => nomatch h
  | a :: R, 0, u, h => ⟨[], R, by cases h; rfl, rfl⟩
  | a :: R, i + 1, u, h => by
    obtain ⟨p, z, e, l⟩ := split1 (R := R) (i := i) h
    exact ⟨a :: p, z, by rw [e]; rfl, by rw [List.length_cons, l]⟩
theorem set_mid (z : List Row) (u w : Row) : ∀ p : List Row, (p ++ u :: z).set p.length w = p ++ w :: z := by
  intro p_
  induction p_ with
  | nil =>
    exact rfl
  | cons a p ih_ =>
    rw [List.cons_append, List.length_cons, List.set_cons_succ, ih_]; rfl
theorem swp_det {R : List Row} {i j : Nat} (hij : i < j) (hj : j < R.length) (cs : List Nat) : det cs (swp R i j) = - det cs R ∧ (swp R i j).take i = R.take i ∧ (∀ r, r ∈ swp R i j ↔ r ∈ R) := by
  obtain ⟨u, hu⟩ : ∃ u, R[i]? = some u := ⟨_, List.getElem?_eq_getElem (Nat.lt_trans hij hj)⟩
  obtain ⟨v, hv⟩ : ∃ v, R[j]? = some v := ⟨_, List.getElem?_eq_getElem hj⟩
  obtain ⟨p', z, e, l⟩ := split1 hv
  have hu' : p'[i]? = some u := by rw [e, List.getElem?_append_left (by exact ltN (lit (r3 _ _ _) V0 V1 [(1,1,V0,V2),(2,-1,V1,V2)] rfl (ltI hij) (eqI l)))] at hu; exact hu
  obtain ⟨p, q, e2, l2⟩ := split1 hu'
  subst e2
  subst l l2
  have g1 : R.getD (p ++ u :: q).length (fun _ => 0) = v := by rw [List.getD_eq_getElem?_getD, hv]; rfl
  have g2 : R.getD p.length (fun _ => 0) = u := by rw [List.getD_eq_getElem?_getD, hu]; rfl
  have e1 : swp R p.length (p ++ u :: q).length = p ++ v :: (q ++ u :: z) := by
    unfold swp
    rw [g1, g2, e, List.append_assoc, List.cons_append, set_mid, ← List.cons_append, ← List.append_assoc]
    have hl : (p ++ u :: q).length = (p ++ v :: q).length := by rw [List.length_append, List.length_append]; rfl
    rw [hl, set_mid, List.append_assoc]; rfl
  have e0 : R = p ++ u :: (q ++ v :: z) := by rw [e, List.append_assoc]; rfl
  refine ⟨?_, ?_, fun r => ?_⟩
  · rw [e1, row_tr (zaW cs) (zge cs) p v q u z, ← e0]
  · rw [e1, e0, List.take_left, List.take_left]
  · rw [e1, e0]
    simp only [List.mem_append, List.mem_cons]
    constructor
    · rintro (h | h | h | h | h)
      · exact .inl h
      · exact .inr (.inr (.inr (.inl h)))
      · exact .inr (.inr (.inl h))
      · exact .inr (.inl h)
      · exact .inr (.inr (.inr (.inr h)))
    · rintro (h | h | h | h | h)
      · exact .inl h
      · exact .inr (.inr (.inr (.inl h)))
      · exact .inr (.inr (.inl h))
      · exact .inr (.inl h)
      · exact .inr (.inr (.inr (.inr h)))
end Mine
end
section
open PySem
namespace Mine
theorem zgz {as : List Addr} {i : Nat} (h : i < as.length) : as[i]? = some (as.getD i 0) := by
  rw [List.getD_eq_getElem?_getD, List.getElem?_eq_getElem h]; rfl
noncomputable def sw (i j u : Nat) : Nat := if u = i then j else if u = j then i else u
theorem sw_sw {i j : Nat} (u : Nat) : sw i j (sw i j u) = u := by
  unfold sw
  by_cases h1 : u = i
  · subst h1; by_cases h2 : j = u <;> simp [h2]
  · by_cases h2 : u = j
    · subst h2; simp [h1]
    · simp [h1, h2]
theorem swap_get {as : List Addr} {i j : Nat} {ai aj : Addr} (hi : i < as.length) (hj : j < as.length) (hij : i ≠ j) (ei : as[i]? = some ai) (ej : as[j]? = some aj) (u : Nat) : ((as.set i aj).set j ai)[u]? = as[sw i j u]? := by
  unfold sw
  rw [List.getElem?_set, List.getElem?_set]
  by_cases hui : u = i
  · subst hui
    rw [if_neg (Ne.symm hij), if_pos rfl, if_pos hi, if_pos rfl, ej]
  · by_cases huj : u = j
    · subst huj
      rw [if_pos rfl, if_pos (by rw [List.length_set]; exact hj), if_neg (Ne.symm hij), if_pos rfl, ei]
    · rw [if_neg (Ne.symm huj), if_neg (Ne.symm hui), if_neg hui, if_neg huj]
theorem swap_nodup {as bs : List Addr} {i j : Nat} (h : ∀ u, bs[u]? = as[sw i j u]?) (hl : bs.length = as.length) (nd : as.Nodup) : bs.Nodup := by
  rw [List.nodup_iff_pairwise_ne, List.pairwise_iff_getElem]
  intro u v hu hv huv he
  have h1 := h u
  have h2 := h v
  rw [List.getElem?_eq_getElem hu] at h1
  rw [List.getElem?_eq_getElem hv] at h2
  rw [he, h2] at h1
  obtain ⟨l1, _⟩ := List.getElem?_eq_some_iff.mp ((h u).symm.trans (List.getElem?_eq_getElem hu))
  obtain ⟨l2, _⟩ := List.getElem?_eq_some_iff.mp ((h v).symm.trans (List.getElem?_eq_getElem hv))
  rw [List.getElem?_eq_getElem l1, List.getElem?_eq_getElem l2] at h1
  have e := (List.getElem_inj nd).mp (Option.some.inj h1)
  have := congrArg (sw i j) e
  rw [sw_sw, sw_sw] at this
  exact lif (r2 _ _) [(1,1,V0,V1),(2,1,V1,V0)] rfl (ltI huv) (eqI this)
section
variable {T : TC} {d : Nat} {σ : zb} {Q : V → zb → Prop} {P : Nat → zb → Prop}
theorem zdw (h : FnW T "first_other" 2 1 (yg T)) {n k : Nat} {a : Addr} {as : List Addr} {f : Nat → Nat → Int} (hn : n ≤ 10) (hk : k < n) (ht : Tab σ a n as f)
    (h0 : (∀ i, k ≤ i → i < n → f i k = 0) → Q .none σ) (h1 : ∀ i : Nat, k ≤ i → i < n → f i k ≠ 0 → Q (.int i) σ) : zC T (d + 1) "first_other" [.ref a, .int k] σ Q P := by
  refine h d _ _ _ _ rfl ?_
  unfold yg
  simp only [zE, j5, zcP, qu, zv, qd, qg, qc, zf, zg, ze]
  refine zW ht.head ?_
  simp only [zd, List.length_map, ht.len]
  refine ⟨by first | exact qL ‹_› ‹_› | (unfold jc; exact ⟨lin (r1 _) (.neg (.num 4611686018427387904)) V0 [(0,1,N0,V0)] rfl (nnI _), lit (r2 _ _) V0 (.num 4611686018427387904) [(0,1,V1,.num 10),(1,1,V0,V1)] rfl (leI hn) (ltI hk)⟩), by first | exact qL ‹_› ‹_› | (unfold jc; exact ⟨lin (r1 _) (.neg (.num 4611686018427387904)) V0 [(0,1,N0,V0)] rfl (nnI _), lit (r1 _) V0 (.num 4611686018427387904) [(0,1,V0,.num 10)] rfl (leI hn)⟩), ?_⟩
  refine zU (fun i ρ σ' => ∃ o2, A3 (ρ = [some (.ref a), some (.int k), o2]) (σ' = σ) (∀ j, k ≤ j → j < k + i → f j k = 0)) ⟨_, rfl, rfl, fun j h1 h2 => by exact (Nat.lt_irrefl _ (Nat.lt_of_lt_of_le ‹_› ‹_›)).elim⟩ ?_ ?_
  · intro i v ρ σ' K' hv hI6a hK
    obtain ⟨o2, rfl, rfl, hz⟩ := hI6a
    obtain ⟨hi, rfl⟩ := qQ hv
    refine ⟨trivial, ?_⟩
    unfold zas
    simp only [ql, zv, qV, zak, ze4, wx, yo, powI_, negI_, qy, zbF, wv, zan, zdp, iteW_, z4, zK, jC, zc3, qG, qu, zcV, zhJ, zbn, zhF, zgn, zet, zcO, zen, ziw, zab, zgd, eqB_w, zce, zeo, anyW_, z5, jT, yk, jS, zcP, qx, zE, yn, qa, zcW, wk, qv, zhL, w7, j5, zdf, qB, yd, qY, jy, zf, zg, zp, zq, yU, yT, zd, ze, zm, qd, qg, qc, List.length_cons, List.length_nil, Cmp.run, zdu, zdd, zcR, zhH]
    refine ht.at (by exact nnI _) (by exact lit (r3 _ _ _) (.add V0 V1) V2 [(1,1,V1,.sub V2 V0)] rfl (Int.lt_toNat.mp hi)) fun b hb hbl => ?_
    refine hbl.at (by exact nnI _) (by exact Int.ofNat_lt.mpr ‹_›) ?_
    have e : ((k : Int) + (i : Int)).toNat = k + i := by rfl
    rw [e]
    by_cases hne : f (k + i) k = 0
    · refine je (not_dt hne) ?_
      refine hK .next _ _ ⟨_, rfl, rfl, fun j h1 h2 => ?_⟩
      by_cases hj : j = k + i
      · subst hj; exact hne
      · exact hz j h1 (by exact ltN ((ww (lin (r3 (↑(j)) (↑(k)) (↑(i))) V0 (.add V1 V2) [(1,1,V0,.add V1 (.add V2 N1))] rfl (ltI h2)) hj)))
    · have hb : (f (k + i) k != 0) = true := by simpa using hne
      refine qK hb ?_
      refine hK (.ret _) _ _ ?_
      have := h1 (k + i) (by exact leN (lin (r2 _ _) V0 (.add V0 V1) [(0,1,N0,V1)] rfl (nnI _))) (by exact ltN (lit (r3 _ _ _) (.add V0 V1) V2 [(1,1,V1,.sub V2 V0)] rfl (Int.lt_toNat.mp hi))) hne
      simpa using this
  · rintro ρ σ' ⟨o2, rfl, rfl, hz⟩
    refine ⟨trivial, ?_⟩
    rw [qf] at hz
    exact h0 fun i h1 h2 => hz i h1 (by exact ltN (lit (r4 _ _ _ _) V0 (.add V1 V2) [(1,1,V0,V3),(2,-1,V2,.sub V3 V1)] rfl (ltI h2) (tnn (lin (r2 _ _) N0 (.sub V0 V1) [(1,1,V1,V0)] rfl (ltI hk)))))
theorem zgS (h : FnW T "swapped" 3 1 (zaF T)) {n i j : Nat} {a : Addr} {as : List Addr} {f : Nat → Nat → Int} (hi : i < n) (hj : j < n) (hij : i ≠ j) (ht : Tab σ a n as f) (nd : as.Nodup)
    (hq : ∀ c as' σ', Ext σ σ' → Tab σ' c n as' (fun u => f (if u = i then j else if u = j then i else u)) → as'.Nodup → (∀ b, b ∈ as' → b ∈ as) → σ c = none → Q (.ref c) σ') : zC T (d + 1) "swapped" [.ref a, .int i, .int j] σ Q P := by
  refine h d _ _ _ _ rfl ?_
  unfold zaF
  simp only [zE, qa, zcV, zv, qd, qg, qc, zf, zg, ze]
  refine ji ht.head ?_
  refine zi fun c σ₁ hc e1 hcv => ?_
  have ht1 := ht.ext e1
  have hl := ht.len
  have ei : as[i]? = some (as.getD i 0) := zgz (hl ▸ hi)
  have ej : as[j]? = some (as.getD j 0) := zgz (hl ▸ hj)
  generalize as.getD i 0 = ai at ei
  generalize as.getD j 0 = aj at ej
  have hI : (i : Int) < (n : Int) := Int.ofNat_lt.mpr hi
  have hJ : (j : Int) < (n : Int) := Int.ofNat_lt.mpr hj
  have hLi : (i : Int) < ((as.map V.ref).length : Int) := by rw [List.length_map, hl]; exact hI
  simp only [zq, zp, w7, qG, zv, zf, zg, ze, zd]
  refine ht1.at (Int.natCast_nonneg j) hJ fun b hb hbl => ?_
  rw [Int.toNat_natCast, ej] at hb; cases hb
  refine Eq.mpr (zad hcv) ?_
  refine ⟨Int.natCast_nonneg i, hLi, ?_⟩
  have hac : a ≠ c := qT ht.head hc
  have hne : ∀ b ∈ as, b ≠ c := fun b hb => by
    obtain ⟨k, hk⟩ := List.getElem?_of_mem hb
    exact qT (ht.row k b hk) hc
  have ht2 : ∀ o, Tab (put σ₁ c o) a n as f := fun o => ⟨by rw [zS _ hac]; exact ht1.head, hl, fun u b hb => by
    show q0 _ _ _
    unfold q0
    rw [zS _ (hne b (List.mem_of_getElem? hb))]; exact ht1.row u b hb⟩
  refine (ht2 _).at (Int.natCast_nonneg i) hI fun b hb hbl => ?_
  rw [Int.toNat_natCast, ei] at hb; cases hb
  refine Eq.mpr (zad (zy _ _ _)) ?_
  refine ⟨Int.natCast_nonneg j, by rw [List.length_set, List.length_map, hl]; exact hJ, ?_⟩
  simp only [yn, zv, zf, zg, Int.toNat_natCast]
  rw [← List.map_set, ← List.map_set]
  have hget := swap_get (as := as) (hl ▸ hi) (hl ▸ hj) hij ei ej
  refine hq c _ _ (((Ext.refl.trans e1).put hc _).put hc _) ⟨zy _ _ _, by rw [List.length_set, List.length_set, hl], fun u b hb => ?_⟩ (swap_nodup hget (by rw [List.length_set, List.length_set]) nd) (fun b hb => ?_) hc
  · rw [hget u] at hb
    show q0 _ _ _
    unfold q0
    have hbm := List.mem_of_getElem? hb
    rw [zS _ (hne b hbm), zS _ (hne b hbm)]
    exact ht1.row _ b hb
  · obtain ⟨u, hu⟩ := List.getElem?_of_mem hb
    rw [hget u] at hu
    exact List.mem_of_getElem? hu
end
end Mine
end
section
open PySem
namespace Mine
noncomputable def el (A : Nat → Nat → Int) (k : Nat) (p : Int) (u v : Nat) : Int := (A u v * A k k - A u k * A k v).fdiv p
section
variable {T : TC} {d : Nat} {σ₀ σ : zb} {K : Out → zP → zb → Prop} {P : Nat → zb → Prop}
theorem det_b2 {a : Addr} {as : List Addr} {A : Nat → Nat → Int} {n k l : Nat} {s p : Int} {o4 o6 o7 o8 : Option V} (e0 : Ext σ₀ σ) (ht : Tab σ a n as A) (nd : as.Nodup) (hf : ∀ b ∈ as, σ₀ b = none) (hkl : k < l) (hl : l < n) (hn : n ≤ 10) (hp : p ≠ 0) (hpb : p.natAbs < 2 ^ 700)
    (hA : ∀ u v, u = k ∨ u = l → v < n → k ≤ v → (A u v).natAbs < 2 ^ 700)
    (hk : ∀ σ' o7 o8, Ext σ₀ σ' → Tab σ' a n as (fun u v => if u = l ∧ k < v then el A k p u v else A u v) → K .next [some (.ref a), some (.int s), some (.int p), some (.int k), o4, some (.int l), o6, o7, o8] σ') :
    jk T d [some (.ref a), some (.int s), some (.int p), some (.int k), o4, some (.int l), o6, o7, o8] σ K P := by
  unfold jk
  simp only [j5, zcP, qV, qu, zv, ql, zf, zg, zd, ze]
  refine zW ht.head ?_
  simp only [zd, List.length_map, ht.len]
  refine ⟨by first | exact qL ‹_› ‹_› | (unfold jc; exact ⟨lin (r1 _) (.neg (.num 4611686018427387904)) (.add V0 N1) [(0,1,N0,V0)] rfl (nnI _), lit (r3 _ _ _) (.add V0 N1) (.num 4611686018427387904) [(1,1,V0,V1),(1,1,V1,V2),(0,1,V2,.num 10)] rfl (ltI hkl) (ltI hl) (leI hn)⟩), by first | exact qL ‹_› ‹_› | (unfold jc; exact ⟨lin (r1 _) (.neg (.num 4611686018427387904)) V0 [(0,1,N0,V0)] rfl (nnI _), lit (r1 _) V0 (.num 4611686018427387904) [(0,1,V0,.num 10)] rfl (leI hn)⟩), ?_⟩
  refine zU (fun j ρ σ' => X2 fun o7 o8 => ρ = [some (.ref a), some (.int s), some (.int p), some (.int k), o4, some (.int l), o6, o7, o8] ∧ Ext σ₀ σ' ∧ Tab σ' a n as fun u v => if u = l ∧ k < v ∧ v < k + 1 + j then el A k p u v else A u v) ?_ ?_ ?_
  · refine ⟨_, _, rfl, e0, ht.cong fun u v _ _ => ?_⟩
    have : ¬ (u = l ∧ k < v ∧ v < k + 1 + 0) := fun h => absurd h.2.1 (Nat.not_lt.mpr (Nat.le_of_lt_succ h.2.2))
    rw [if_neg this]
  · intro j v ρ σ' K' hv hI6a hK
    obtain ⟨o7, o8, rfl, hcj⟩ := hI6a
    have e := hcj.1; have ht' := hcj.2; clear hcj
    obtain ⟨hj, rfl⟩ := qQ hv
    have ec : ((k : Int) + 1 + (j : Int)) = ((k + 1 + j : Nat) : Int) := by rfl
    refine ⟨trivial, ?_⟩
    rw [ec]
    have hc : k + 1 + j < n := by exact ltN (lit (r3 _ _ _) (.add (.add V0 N1) V1) V2 [(1,1,V1,.sub V2 (.add V0 N1))] rfl (Int.lt_toNat.mp hj))
    generalize hcc : k + 1 + j = c at hc ht'
    unfold zat
    simp only [qB, zE, qa, zak, ze4, qG, zv, zf, zg, zp, zq, zd, ze]
    have rd : ∀ (u v : Nat) (k' : V → Prop), ¬ (u = l ∧ k < v ∧ v < c) → u < n → v < n → k' (.int (A u v)) → (0 ≤ (u : Int) ∧ yj σ' a fun xs => jJ xs (u : Int).toNat fun w => w.asRef fun q => 0 ≤ (v : Int) ∧ yj σ' q fun ys => jJ ys (v : Int).toNat k') := by
      intro u v k' hno hu hv' hk'
      refine ht'.at (by exact nnI _) (by exact Int.ofNat_lt.mpr ‹_›) fun b hb hbl => ?_
      refine hbl.at (by exact nnI _) (by exact Int.ofNat_lt.mpr ‹_›) ?_
      rw [Int.toNat_natCast, Int.toNat_natCast, if_neg hno]
      exact hk'
    have n1 : ¬ (l = l ∧ k < c ∧ c < c) := fun h => Nat.lt_irrefl _ h.2.2
    have n2 : ¬ (k = l ∧ k < k ∧ k < c) := fun h => Nat.lt_irrefl _ h.2.1
    have n3 : ¬ (l = l ∧ k < k ∧ k < c) := fun h => Nat.lt_irrefl _ h.2.1
    have n4 : ¬ (k = l ∧ k < c ∧ c < c) := fun h => Nat.lt_irrefl _ h.2.2
    refine rd l c _ n1 hl hc ?_
    refine rd k k _ n2 (by exact ltN (lit (r3 _ _ _) V0 V1 [(1,1,V0,V2),(1,1,V2,V1)] rfl (ltI hkl) (ltI hl))) (by exact ltN (lit (r3 _ _ _) V0 V1 [(1,1,V0,V2),(1,1,V2,V1)] rfl (ltI hkl) (ltI hl))) ?_
    refine ⟨zgu (hA l c (.inr rfl) hc (by exact leN (lin (r3 (↑(k)) (↑(c)) (↑(j))) V0 V1 [(2,1,.add (.add V0 N1) V2,V1),(0,1,N0,V2)] rfl (eqI hcc) (nnI _)))) (hA k k (.inl rfl) (by exact ltN (lit (r3 _ _ _) V0 V1 [(1,1,V0,V2),(1,1,V2,V1)] rfl (ltI hkl) (ltI hl))) (by exact leN (lin (r1 _) V0 V0 [] rfl))), ?_⟩
    refine rd l k _ n3 hl (by exact ltN (lit (r3 _ _ _) V0 V1 [(1,1,V0,V2),(1,1,V2,V1)] rfl (ltI hkl) (ltI hl))) ?_
    refine rd k c _ n4 (by exact ltN (lit (r3 _ _ _) V0 V1 [(1,1,V0,V2),(1,1,V2,V1)] rfl (ltI hkl) (ltI hl))) hc ?_
    refine ⟨zgu (hA l k (.inr rfl) (by exact ltN (lit (r3 _ _ _) V0 V1 [(1,1,V0,V2),(1,1,V2,V1)] rfl (ltI hkl) (ltI hl))) (by exact leN (lin (r1 _) V0 V0 [] rfl))) (hA k c (.inl rfl) hc (by exact leN (lin (r3 (↑(k)) (↑(c)) (↑(j))) V0 V1 [(2,1,.add (.add V0 N1) V2,V1),(0,1,N0,V2)] rfl (eqI hcc) (nnI _)))), ?_⟩
    simp only [w7, wx, qG, zv, zf, zg, zd, ze]
    refine ⟨⟨hp, zir hpb⟩, ?_⟩
    refine ht'.at (by exact nnI _) (by exact Int.ofNat_lt.mpr ‹_›) fun b hb hbl => ?_
    rw [Int.toNat_natCast] at hb hbl
    have hbm := List.mem_of_getElem? hb
    refine hbl.set (by exact nnI _) (by exact Int.ofNat_lt.mpr ‹_›) fun σ₃ hσ₃ => ?_
    rw [Int.toNat_natCast] at hσ₃
    have ht3 := ht'.put nd hb (j := c) hc (el A k p l c)
    refine hK .next _ _ ⟨_, _, rfl, by rw [hσ₃]; exact e.put (hf b hbm) _, ?_⟩
    have hσ₃' : σ₃ = put σ' b (.list (zs (lst n (upd (fun v => if l = l ∧ k < v ∧ v < c then el A k p l v else A l v) c (el A k p l c))))) := hσ₃
    rw [← hσ₃'] at ht3
    refine ht3.cong fun u v hu hv' => ?_
    rw [wX]
    by_cases hul : u = l
    · subst hul
      by_cases hvc : v = c
      · subst hvc
        have : (u = u ∧ k < v ∧ v < k + 1 + (j + 1)) := by exact ⟨eqN (liq (r1 (↑(u))) V0 V0 [] rfl), ⟨ltN (lit (r3 (↑(k)) (↑(v)) (↑(j))) V0 V1 [(2,1,.add (.add V0 N1) V2,V1),(0,1,N0,V2)] rfl (eqI hcc) (nnI _)), ltN (lit (r3 (↑(v)) (↑(k)) (↑(j))) V0 (.add (.add V1 N1) (.add V2 N1)) [(2,-1,.add (.add V1 N1) V2,V0)] rfl (eqI hcc))⟩⟩
        rw [if_pos rfl, if_pos rfl, if_pos this]
      · rw [if_pos rfl, if_neg hvc]
        have : (k < v ∧ v < c) ↔ (k < v ∧ v < k + 1 + (j + 1)) := by lia
        simp only [true_and, this]
    · have : ¬ (u = l ∧ k < v ∧ v < k + 1 + (j + 1)) := fun h => hul h.1
      have h' : ¬ (u = l ∧ k < v ∧ v < c) := fun h => hul h.1
      rw [if_neg hul, if_neg this, if_neg h']
  · rintro ρ σ' ⟨o7, o8, rfl, hcj⟩
    have e := hcj.1; have ht' := hcj.2; clear hcj
    refine ⟨trivial, hk σ' o7 o8 e (ht'.cong fun u v hu hv => ?_)⟩
    rw [qf]
    have : (u = l ∧ k < v ∧ v < k + 1 + ((n : Int) - ((k : Int) + 1)).toNat) ↔ (u = l ∧ k < v) := ⟨fun h => ⟨h.1, h.2.1⟩, fun h => ⟨h.1, h.2, by exact ltN (lit (r4 _ _ _ _) V0 (.add (.add V1 N1) V2) [(1,1,V0,V3),(2,-1,V2,.sub V3 (.add V1 N1))] rfl (ltI hv) (tnn (lin (r3 _ _ _) N0 (.sub V0 (.add V1 N1)) [(1,1,V2,V0),(1,1,V1,V2)] rfl (ltI hv) (ltI h.2))))⟩⟩
    simp only [this]
theorem det_rows {a : Addr} {as : List Addr} {A : Nat → Nat → Int} {n k : Nat} {s p : Int} {o4 o5 o6 o7 o8 : Option V} (e0 : Ext σ₀ σ) (ht : Tab σ a n as A) (nd : as.Nodup) (hf : ∀ b ∈ as, σ₀ b = none) (hkn : k < n) (hn : n ≤ 10) (hp : p ≠ 0) (hpb : p.natAbs < 2 ^ 700)
    (hA : ∀ u v, u < n → v < n → k ≤ u → k ≤ v → (A u v).natAbs < 2 ^ 700)
    (hk : ∀ σ' o5 o7 o8, Ext σ₀ σ' → Tab σ' a n as (fun u v => if k < u ∧ k < v then el A k p u v else A u v) → K .next [some (.ref a), some (.int s), some (.int p), some (.int k), o4, o5, o6, o7, o8] σ') :
    (yL (.nm 5) (zgl (jQ (loc 3) (val (.int 1))) (j4 (loc 0))) (jk T d)) [some (.ref a), some (.int s), some (.int p), some (.int k), o4, o5, o6, o7, o8] σ K P := by
  simp only [j5, zcP, qV, qu, zv, ql, zf, zg, zd, ze]
  refine zW ht.head ?_
  simp only [zd, List.length_map, ht.len]
  refine ⟨by first | exact qL ‹_› ‹_› | (unfold jc; exact ⟨lin (r1 _) (.neg (.num 4611686018427387904)) (.add V0 N1) [(0,1,N0,V0)] rfl (nnI _), lit (r2 _ _) (.add V0 N1) (.num 4611686018427387904) [(1,1,V0,V1),(0,1,V1,.num 10)] rfl (ltI hkn) (leI hn)⟩), by first | exact qL ‹_› ‹_› | (unfold jc; exact ⟨lin (r1 _) (.neg (.num 4611686018427387904)) V0 [(0,1,N0,V0)] rfl (nnI _), lit (r1 _) V0 (.num 4611686018427387904) [(0,1,V0,.num 10)] rfl (leI hn)⟩), ?_⟩
  refine zU (fun i ρ σ' => X3 fun o5 o7 o8 => ρ = [some (.ref a), some (.int s), some (.int p), some (.int k), o4, o5, o6, o7, o8] ∧ Ext σ₀ σ' ∧ Tab σ' a n as fun u v => if k < u ∧ u < k + 1 + i ∧ k < v then el A k p u v else A u v) ?_ ?_ ?_
  · refine ⟨_, _, _, rfl, e0, ht.cong fun u v _ _ => ?_⟩
    have : ¬ (k < u ∧ u < k + 1 + 0 ∧ k < v) := fun h => absurd h.1 (Nat.not_lt.mpr (Nat.le_of_lt_succ h.2.1))
    rw [if_neg this]
  · intro i v ρ σ' K' hv hI6a hK
    obtain ⟨o5, o7, o8, rfl, hcj⟩ := hI6a
    have e := hcj.1; have ht' := hcj.2; clear hcj
    obtain ⟨hi, rfl⟩ := qQ hv
    have ec : ((k : Int) + 1 + (i : Int)) = ((k + 1 + i : Nat) : Int) := by rfl
    refine ⟨trivial, ?_⟩
    rw [ec]
    have low : ∀ u v, u = k ∨ u = k + 1 + i → ¬ (k < u ∧ u < k + 1 + i ∧ k < v) := fun u v h x => h.elim (fun e => Nat.lt_irrefl _ (e ▸ x.1)) fun e => Nat.lt_irrefl _ (e ▸ x.2.1)
    refine det_b2 e ht' nd hf (by exact ltN (lit (r2 _ _) V0 (.add (.add V0 N1) V1) [(0,1,N0,V1)] rfl (nnI _))) (by exact ltN (lit (r3 _ _ _) (.add (.add V0 N1) V1) V2 [(1,1,V1,.sub V2 (.add V0 N1))] rfl (Int.lt_toNat.mp hi))) hn hp hpb (fun u v hu hv hkv => ?_) fun σ₂ o7 o8 e2 ht2 => ?_
    · simp only [low u v hu, if_false]
      exact hA u v (by lia) hv (by lia) hkv
    · refine hK .next _ _ ⟨_, _, _, rfl, e2, ht2.cong fun u v hu hv => ?_⟩
      have hel : el (fun u v => if k < u ∧ u < k + 1 + i ∧ k < v then el A k p u v else A u v) k p (k + 1 + i) v = el A k p (k + 1 + i) v := by
        unfold el
        simp only [low (k + 1 + i) v (.inr rfl), low (k + 1 + i) k (.inr rfl), low k k (.inl rfl), low k v (.inl rfl), if_false]
      by_cases hu' : u = k + 1 + i
      · subst hu'
        by_cases hv' : k < v
        · have h1 : (k + 1 + i = k + 1 + i ∧ k < v) := ⟨rfl, hv'⟩
          have h2 : (k < k + 1 + i ∧ k + 1 + i < k + 1 + (i + 1) ∧ k < v) := ⟨Nat.lt_of_lt_of_le (Nat.lt_succ_self k) (Nat.le_add_right _ _), Nat.lt_succ_self _, hv'⟩
          rw [if_pos h1, if_pos h2, hel]
        · have h1 : ¬ (k + 1 + i = k + 1 + i ∧ k < v) := fun h => hv' h.2
          have h2 : ¬ (k < k + 1 + i ∧ k + 1 + i < k + 1 + (i + 1) ∧ k < v) := fun h => hv' h.2.2
          have h3 : ¬ (k < k + 1 + i ∧ k + 1 + i < k + 1 + i ∧ k < v) := fun h => hv' h.2.2
          rw [if_neg h1, if_neg h2, if_neg h3]
      · have h1 : ¬ (u = k + 1 + i ∧ k < v) := fun h => hu' h.1
        have h2 : (k < u ∧ u < k + 1 + i ∧ k < v) ↔ (k < u ∧ u < k + 1 + (i + 1) ∧ k < v) := ⟨fun h => ⟨h.1, Nat.lt_succ_of_lt h.2.1, h.2.2⟩, fun h => ⟨h.1, Nat.lt_of_le_of_ne (Nat.le_of_lt_succ h.2.1) hu', h.2.2⟩⟩
        rw [if_neg h1]
        simp only [h2]
  · rintro ρ σ' ⟨o5, o7, o8, rfl, hcj⟩
    have e := hcj.1; have ht' := hcj.2; clear hcj
    refine ⟨trivial, hk σ' o5 o7 o8 e (ht'.cong fun u v hu hv => ?_)⟩
    rw [qf]
    have : (k < u ∧ u < k + 1 + ((n : Int) - ((k : Int) + 1)).toNat ∧ k < v) ↔ (k < u ∧ k < v) := ⟨fun h => ⟨h.1, h.2.2⟩, fun h => ⟨h.1, by exact ltN (lit (r4 _ _ _ _) V0 (.add (.add V1 N1) V2) [(1,1,V0,V3),(2,-1,V2,.sub V3 (.add V1 N1))] rfl (ltI hu) (tnn (lin (r2 _ _) N0 (.sub V0 (.add V1 N1)) [(1,1,V1,V0)] rfl (ltI hkn)))), h.2⟩⟩
    simp only [this]
end
end Mine
end
section
open PySem
namespace Mine
structure zgk (T : TC) : Prop where
  first : FnW T "first_other" 2 1 (yg T)
  swapped : FnW T "swapped" 3 1 (zaF T)
  det : FnW T "determinant" 1 8 (yZ T)
noncomputable def zcp (R : List Row) (i : Nat) : Row := R.getD i fun _ => 0
noncomputable def wM (n : Nat) (f : Nat → Nat → Int) : List Row := (List.range n).map f
theorem zfG {R : List Row} {i : Nat} (h : i < R.length) : R[i]? = some (zcp R i) := by simp [zcp, List.getD, h]
theorem rowAt_mem {R : List Row} {i : Nat} (h : i < R.length) : zcp R i ∈ R := List.mem_of_getElem? (zfG h)
theorem rowAt_swp {R : List Row} {i j u : Nat} (hi : i < R.length) (hj : j < R.length) (hu : u < R.length) (hij : i ≠ j) : zcp (swp R i j) u = zcp R (if u = i then j else if u = j then i else u) := by
  unfold zcp swp
  by_cases hui : u = i
  · subst hui; simp [hij, Ne.symm hij, hi, hj]
  · by_cases huj : u = j
    · subst huj; simp [hui, hij, hi, hj]
    · simp [hui, huj, Ne.symm hui, Ne.symm huj]
section
variable {T : TC} {d : Nat} {σ : zb} {Q : V → zb → Prop} {P : Nat → zb → Prop}
structure DInv (σ σ' : zb) (n k : Nat) (R0 : List Row) (a : Addr) (as : List Addr) (A : Nat → Nat → Int) (R : List Row) (s p : Int) : Prop where
  e : Ext σ σ'
  ht : Tab σ' a n as A
  nd : as.Nodup
  hf : ∀ b ∈ as, σ b = none
  len : R.length = n
  mem : ∀ r, r ∈ R ↔ r ∈ R0
  ent : ∀ i j, k ≤ i → i < n → k ≤ j → j < n → A i j = Vk k R (zcp R i) j
  hp : p = pk k R
  p0 : p ≠ 0
  hs : s = 1 ∨ s = -1
  hd : s * det (List.range n) R = det (List.range n) R0
theorem ziz {n : Nat} {a : Addr} {as : List Addr} {f : Nat → Nat → Int} {ρ : zP} {j : Nat} {src : EW} (hn : n ≤ 10) (ht : Tab σ a n as f) (hsrc : ∀ (σ : zb) (Q : V → zb → Prop) (P : Nat → zb → Prop), src ρ σ Q P = Q (.ref a) σ) (hj : ∀ v, jW (ym ρ j v) j = some v)
    (hq : ∀ c as' σ', Ext σ σ' → Tab σ' c n as' f → as'.Nodup → (∀ b ∈ as', σ b = none) → σ c = none → Q (.ref c) σ') : yM j (zbh src) none (zbT (loc j)) ρ σ Q P := by
  simp only [jT, yk]
  rw [hsrc]
  simp only [ze]
  refine qh ht.head ?_
  have hl := ht.len
  refine ⟨by simp [lim]; exact leN (lin (r2 _ _) V0 (.num 1000000) [(0,1,V1,.num 10),(2,1,V0,V1)] rfl (leI hn) (eqI hl)), ?_⟩
  refine qE (fun i acc σ' => ∃ as' : List Addr, acc = as'.map V.ref ∧ as'.length = i ∧ as'.Nodup ∧ (∀ b ∈ as', σ b = none) ∧ (∀ k b, as'[k]? = some b → L σ' b n (f k)) ∧ Ext σ σ') ⟨[], rfl, rfl, by simp, by simp, by simp, .refl⟩ ?_ ?_
  · intro i v acc σ' K' hv hI6a hK
    obtain ⟨as', rfl, hcj⟩ := hI6a
    have hl' := hcj.1; have nd := hcj.2.1; have hf := hcj.2.2.1; have hr := hcj.2.2.2.1; have e := hcj.2.2.2.2; clear hcj
    refine ⟨.inl (e _ _ ht.head), ?_⟩
    rw [List.getElem?_map] at hv
    cases hb : as[i]? with
    | none => rw [hb] at hv; cases hv
    | some b =>
      rw [hb] at hv; cases hv
      simp only [qY, if_true, zcV]
      rw [y8 (hj _)]
      simp only [ze]
      have hbl := (ht.row i b hb).ext e
      refine Eq.mpr (hbl.seq) ?_
      refine zi fun c σ₁ hc e1 hcv => ?_
      refine hK _ _ ⟨as' ++ [c], by simp, by simp [hl'], ?_, fun b' hb' => ?_, fun k b' hb' => ?_, e.trans e1⟩
      · rw [List.nodup_append]
        refine ⟨nd, by simp, fun x hx y hy => ?_⟩
        simp only [List.mem_singleton] at hy; subst hy
        rintro rfl
        obtain ⟨k, hk, hkx⟩ := List.getElem_of_mem hx
        have := hr k x (by rw [← hkx]; simp [hk])
        unfold L q0 at this; rw [hc] at this; cases this
      · rcases List.mem_append.mp hb' with h | h
        · exact hf b' h
        · simp only [List.mem_singleton] at h; subst h; exact e.none hc
      · by_cases hk : k < as'.length
        · rw [List.getElem?_append_left hk] at hb'
          exact (hr k b' hb').ext e1
        · rw [List.getElem?_append_right (by exact leN ((nuI hk)))] at hb'
          have hk0 : k - as'.length = 0 := by
            cases hz : k - as'.length with
            | zero => rfl
            | succ q => rw [hz] at hb'; simp at hb'
          rw [hk0] at hb'
          simp at hb'; subst hb'
          have : k = i := by lia
          subst this
          exact hcv
  · rintro acc σ' ⟨as', rfl, hcj⟩
    have hl' := hcj.1; have nd := hcj.2.1; have hf := hcj.2.2.1; have hr := hcj.2.2.2.1; have e := hcj.2.2.2.2; clear hcj
    refine ⟨.inl (e _ _ ht.head), zi fun c σ₁ hc e1 hcv => ?_⟩
    exact hq c as' σ₁ (e.trans e1) ⟨hcv, by rw [hl', List.length_map, hl], fun k b hb => (hr k b hb).ext e1⟩ nd hf (e.none hc)
theorem zii {R : List Row} {i j : Nat} (h : (swp R i j).take i = R.take i) (x : Row) (c : Nat) : Vk i (swp R i j) x c = Vk i R x c ∧ pk i (swp R i j) = pk i R := by
  unfold Vk pk; rw [h]; exact ⟨rfl, rfl⟩
theorem det_b3 (F : zgk T) {n k : Nat} {R0 R : List Row} {a : Addr} {as : List Addr} {A : Nat → Nat → Int} {s p : Int} {o4 o5 o6 o7 o8 : Option V} {σ' : zb} {K : Out → zP → zb → Prop} {B : Nat} (hn : n ≤ 10) (hk : k < n) (hB : (10 * B) ^ 10 < 2 ^ 700) (hB1 : 1 ≤ B) (h0 : R0.length = n) (hR0 : ∀ r ∈ R0, ∀ c, c < n → (r c).natAbs ≤ B)
    (I : DInv σ σ' n k R0 a as A R s p)
    (hret : det (List.range n) R0 = 0 → ∀ ρ σ'', Ext σ σ'' → K (.ret (.int 0)) ρ σ'')
    (hnext : ∀ a as A R s p o4 o5 o7 o8 σ'', DInv σ σ'' n (k + 1) R0 a as A R s p → K .next [some (.ref a), some (.int s), some (.int p), some (.int k), o4, o5, o6, o7, o8] σ'') :
    yS T (d + 1) [some (.ref a), some (.int s), some (.int p), some (.int k), o4, o5, o6, o7, o8] σ' K P := by
  obtain ⟨e, ht, nd, hf, hlen, hmem, hent, hp, hp0, hs, hd⟩ := I
  unfold yS
  simp only [zE, qa, z5, zK, z4, zv, zf, zg]
  refine zdw F.first hn hk ht (fun hz => ?_) fun pl h1 h2 hne => ?_
  · -- no pivot
    have hz' : ∀ r ∈ R.drop k, Vk k R r k = 0 := fun r hr => by
      obtain ⟨i, hi, hir⟩ := List.getElem_of_mem hr
      simp only [List.getElem_drop] at hir
      simp only [List.length_drop] at hi
      have := hent (k + i) k (by exact leN (lin (r2 _ _) V0 (.add V0 V1) [(0,1,N0,V1)] rfl (nnI _))) (by lia) (by exact leN (lin (r1 _) V0 V0 [] rfl)) hk
      rw [hz (k + i) (by exact leN (lin (r2 _ _) V0 (.add V0 V1) [(0,1,N0,V1)] rfl (nnI _))) (by lia)] at this
      have e2 : zcp R (k + i) = r := by
        have := zfG (R := R) (i := k + i) (by lia)
        rw [List.getElem?_eq_getElem (by lia)] at this
        rw [← hir]; exact (Option.some.inj this).symm
      rw [e2] at this; exact this.symm
    have hdet := zh7 (k := k) (by exact ltN (lit (r3 _ _ _) V0 V1 [(1,1,V0,V2),(2,-1,V1,V2)] rfl (ltI hk) (eqI hlen))) (by rw [← hp]; exact hp0) hz'
    rw [hlen] at hdet
    exact hret (by rw [← hd, hdet, Int.mul_zero]) _ _ e
  · simp only [zp, zq, qv, zdu, zv, zf, zg, V.isNone, Bool.false_eq_true, if_false, zm, qx]
    -- what follows once the pivot stands
    have fin : ∀ (a : Addr) (as : List Addr) (A : Nat → Nat → Int) (R : List Row) (s : Int) (σ₁ : zb), DInv σ σ₁ n k R0 a as A R s p → A k k ≠ 0 →
        (yL (.nm 5) (zgl (jQ (loc 3) (val (.int 1))) (j4 (loc 0))) (jk T (d + 1)))
          [some (.ref a), some (.int s), some (.int p), some (.int k), some (.int pl), o5, o6, o7, o8] σ₁
          (fun o ρ₁ σ₁ => match o with | .next => (qi (qi (loc 0) (loc 3)) (loc 3)) ρ₁ σ₁ (fun v σ₂ => K .next (ym ρ₁ 2 v) σ₂) P | .ret v => K (.ret v) ρ₁ σ₁) P := by
      intro a as A R s σ₁ I hkk
      obtain ⟨e, ht, nd, hf, hlen, hmem, hent, hp, hp0, hs, hd⟩ := I
      have hRb : ∀ r ∈ R, ∀ c, c < n → (r c).natAbs ≤ B := fun r hr => hR0 r ((hmem r).mp hr)
      refine det_rows e ht nd hf hk hn hp0 (by rw [hp]; exact pk_bound hn (by exact leN (lin (r2 _ _) V0 V1 [(1,1,V0,V1)] rfl (ltI hk))) hB hB1 hRb) (fun u v hu hv hku hkv => ?_) fun σ₂ o5 o7 o8 e2 ht2 => ?_
      · rw [hent u v hku hu hkv hv]
        exact Vk_bound hn hk hB hB1 hv hRb (hRb _ (rowAt_mem (by exact ltN (lit (r3 _ _ _) V0 V1 [(2,-1,V1,V2),(1,1,V0,V2)] rfl (eqI hlen) (ltI hu)))))
      · simp only [qG, zv, zf, zg, ze, zd]
        refine ht2.at (by exact nnI _) (by exact Int.ofNat_lt.mpr ‹_›) fun b hb hbl => ?_
        refine hbl.at (by exact nnI _) (by exact Int.ofNat_lt.mpr ‹_›) ?_
        have hno : ¬ (k < k ∧ k < k) := fun h => Nat.lt_irrefl _ h.1
        simp only [Int.toNat_natCast, Nat.lt_irrefl, false_and, if_false, zp, zq]
        have hyk : R[k]? = some (zcp R k) := zfG (by exact ltN (lit (r3 _ _ _) V0 V1 [(1,1,V0,V2),(2,-1,V1,V2)] rfl (ltI hk) (eqI hlen)))
        refine hnext a as _ R s (A k k) _ _ _ _ σ₂ ⟨e2, ht2, nd, hf, hlen, hmem, fun i j hi hi' hj hj' => ?_, ?_, hkk, hs, hd⟩
        · have hc : k < i ∧ k < j := by exact ⟨ltN (lit (r2 _ _) V0 V1 [(0,1,.add V0 N1,V1)] rfl (leI hi)), ltN (lit (r2 _ _) V0 V1 [(0,1,.add V0 N1,V1)] rfl (leI hj))⟩
          rw [if_pos hc]
          unfold el
          rw [hent i j (by exact leN (lin (r2 _ _) V0 V1 [(0,1,.add V0 N1,V1)] rfl (leI hi))) hi' (by exact leN (lin (r2 _ _) V0 V1 [(0,1,.add V0 N1,V1)] rfl (leI hj))) hj', hent k k (by exact leN (lin (r1 _) V0 V0 [] rfl)) hk (by exact leN (lin (r1 _) V0 V0 [] rfl)) hk, hent i k (by exact leN (lin (r2 _ _) V0 V1 [(0,1,.add V0 N1,V1)] rfl (leI hi))) hi' (by exact leN (lin (r1 _) V0 V0 [] rfl)) hk, hent k j (by exact leN (lin (r1 _) V0 V0 [] rfl)) hk (by exact leN (lin (r2 _ _) V0 V1 [(0,1,.add V0 N1,V1)] rfl (leI hj))) hj']
          have := sylvester hyk (zcp R i) j (by rw [← hp]; exact hp0)
          rw [← this, hp, Int.mul_fdiv_cancel _ (by rw [← hp]; exact hp0)]
        · rw [hent k k (by exact leN (lin (r1 _) V0 V0 [] rfl)) hk (by exact leN (lin (r1 _) V0 V0 [] rfl)) hk, pk_succ hyk]
    by_cases hpk : pl = k
    · subst hpk
      simp only [qy, zv, zf, zg, zd, zm, Cmp.run, bne_self_eq_false, Bool.false_eq_true, if_false]
      exact fin a as A R s σ' ⟨e, ht, nd, hf, hlen, hmem, hent, hp, hp0, hs, hd⟩ hne
    · have hb : ((pl : Int) != (k : Int)) = true := by simp; exact (fun h_ => lif (r2 _ _) [(2,-1,V0,V1),(1,1,V0,V1)] rfl h_ (ww (lin (r2 _ _) V0 V1 [(2,1,V0,V1)] rfl h_) hpk))
      refine qK hb ?_
      refine zgS F.swapped hk h2 (Ne.symm hpk) ht nd fun c as' σ₁ e1 ht1 nd1 hsub hc => ?_
      simp only [zp, zq, qa, zak, ql, zv, zf, zg, zd]
      have hkp : k < pl := by exact ltN ((ww ((leI h1)) (Ne.symm hpk)))
      obtain ⟨w1, w2, w3⟩ := swp_det (R := R) hkp (by exact ltN (lit (r3 _ _ _) V0 V1 [(2,-1,V1,V2),(1,1,V0,V2)] rfl (eqI hlen) (ltI h2))) (List.range n)
      refine fin c as' _ (swp R k pl) (0 - s) σ₁ ⟨e.trans e1, ht1, nd1, fun b hb => hf b (hsub b hb), by rw [swp_len, hlen], fun r => (w3 r).trans (hmem r), fun i j hi hi' hj hj' => ?_, ?_, hp0, by lia, by rw [w1, ← hd]; grind⟩ ?_
      · rw [(zii w2 _ _).1, rowAt_swp (by exact ltN (lit (r3 _ _ _) V0 V1 [(1,1,V0,V2),(2,-1,V1,V2)] rfl (ltI hk) (eqI hlen))) (by exact ltN (lit (r3 _ _ _) V0 V1 [(2,-1,V1,V2),(1,1,V0,V2)] rfl (eqI hlen) (ltI h2))) (by exact ltN (lit (r3 _ _ _) V0 V1 [(2,-1,V1,V2),(1,1,V0,V2)] rfl (eqI hlen) (ltI hi'))) (by exact (fun h_ => lif (r2 _ _) [(1,1,V0,V1),(2,-1,V0,V1)] rfl (ltI hkp) (eqI h_)))]
        refine hent _ j ?_ ?_ hj hj'
        · split <;> (try split) <;> (first | assumption | exact Nat.le_refl _)
        · split <;> (try split) <;> assumption
      · rw [(zii w2 (fun _ => 0) 0).2]; exact hp
      · simpa using hne
theorem zaC (F : zgk T) {n : Nat} {a : Addr} {as : List Addr} {f : Nat → Nat → Int} {B : Nat} (hn : n ≤ 10) (ht : Tab σ a n as f) (hB : (10 * B) ^ 10 < 2 ^ 700) (hB1 : 1 ≤ B) (hb : ∀ i j, i < n → j < n → (f i j).natAbs ≤ B)
    (hq : ∀ σ', Ext σ σ' → Q (.int (det (List.range n) (wM n f))) σ') : zC T (d + 2) "determinant" [.ref a] σ Q P := by
  have hR0 : ∀ r ∈ wM n f, ∀ c, c < n → (r c).natAbs ≤ B := fun r hr c hc => by
    obtain ⟨i, hi, rfl⟩ := List.mem_map.mp hr
    exact hb i c (List.mem_range.mp hi) hc
  have hRl : (wM n f).length = n := by simp [wM]
  refine F.det (d + 1) _ _ _ _ rfl ?_
  unfold yZ
  simp only [zE, qa, qd, qg, qc]
  refine ziz hn ht (y8 rfl) (fun v => rfl) fun c as' σ₁ e1 ht1 nd1 hf1 hc => ?_
  simp only [zp, zq, ql, j5, jS, qu, zv, zf, zg, ze]
  refine zW ht1.head ?_
  simp only [zd, List.length_map, ht1.len]
  refine ⟨by first | exact qL ‹_› ‹_› | (unfold jc; exact ⟨lin (r1 _) (.neg (.num 4611686018427387904)) V0 [(0,1,N0,V0)] rfl (nnI _), lit (r1 _) V0 (.num 4611686018427387904) [(0,1,V0,.num 10)] rfl (leI hn)⟩), ?_⟩
  refine zU (fun k ρ σ' => X12 fun a as A R s p o3 o4 o5 o6 o7 o8 => ρ = [some (.ref a), some (.int s), some (.int p), o3, o4, o5, o6, o7, o8] ∧ DInv σ σ' n k (wM n f) a as A R s p) ?_ ?_ ?_
  · refine ⟨c, as', f, wM n f, 1, 1, _, _, _, _, _, _, rfl, e1, ht1, nd1, hf1, hRl, fun r => Iff.rfl, fun i j _ hi _ hj => ?_, by rw [pk_zero], by decide, .inl rfl, by exact liq (r1 _) (.mulL 1 V0) V0 [] rfl⟩
    rw [Vk_zero]
    simp [zcp, wM, hi]
  · intro k v ρ σ' K' hv hI6a hK
    obtain ⟨a, as, A, R, s, p, o3, o4, o5, o6, o7, o8, rfl, I⟩ := hI6a
    obtain ⟨hk, rfl⟩ := qQ hv
    refine ⟨trivial, ?_⟩
    simp only [qB, zp, zq, Int.zero_add]
    refine det_b3 F hn ‹_› hB hB1 hRl hR0 I (fun h1 ρ' σ'' e2 => ?_) fun a as A R s p o4 o5 o7 o8 σ'' I' => ?_
    · refine hK (.ret _) _ _ ?_
      have := hq σ'' e2
      rw [h1] at this
      exact this
    · exact hK .next _ _ ⟨a, as, A, R, s, p, _, _, _, _, _, _, rfl, I'⟩
  · rintro ρ σ' ⟨a, as, A, R, s, p, o3, o4, o5, o6, o7, o8, rfl, I⟩
    rw [qf, Int.toNat_natCast] at I
    obtain ⟨e, ht, nd, hf, hlen, hmem, hent, hp, hp0, hs, hd⟩ := I
    refine ⟨trivial, ?_⟩
    simp only [yn, ze4, zv, zf, zg, zd]
    refine ⟨zdq (by lia) (by lia), ?_⟩
    have e2 : s * p = det (List.range n) (wM n f) := by
      rw [← hd, hp]
      unfold pk
      rw [List.take_of_length_le (by exact leN (lin (r2 _ _) V0 V1 [(2,1,V0,V1)] rfl (eqI hlen)))]
    rw [e2]
    exact hq σ' e
end
end Mine
end
section
open PySem
namespace Mine
theorem ziv (a b : Prop) [Decidable a] [Decidable b] : (if a then (0 : Int) - (if b then 1 else 0) else 0) = if b then 0 - (if a then 1 else 0) else 0 := by
  by_cases h : a <;> by_cases h' : b <;> simp only [h, h', if_true, if_false] <;> rfl
theorem tabN_symm (rs : Rd2) (v u : Nat) : zbG rs v u = zbG rs u v := by
  unfold zbG
  induction rs with
  | nil => rfl
  | cons p rs ih =>
    have e : jp (p :: rs) = (p.1, p.2) :: (p.2, p.1) :: jp rs := by simp [jp]
    rw [e]
    simp only [ja]
    rw [ih]
    by_cases h : u = v
    · subst h; rfl
    · have h' : ¬ v = u := fun e => h e.symm
      simp only [h, h', if_false]
      rw [ziv (p.1 = (v : Int)), ziv (p.2 = (v : Int)), ← Int.add_assoc, ← Int.add_assoc, Int.add_comm (if p.2 = (u : Int) then _ else _)]
theorem zbR {m : Int} {rs : Rd2} (n : Net m rs) (v : Nat) : zbG rs v v = zV rs v := by
  unfold zbG zV
  refine jx fun a ha => ?_
  have := n.arc_ne ha
  by_cases h : a.1 = (v : Int)
  · have h2 : ¬ a.2 = (v : Int) := by exact (fun h_ => lif (r3 _ _ _) [(2,-1,V0,V1),(2,1,V2,V1),(1,1,V0,V2)] rfl h h_ (w9 (lin (r3 _ _ _) V0 V1 [(2,1,V0,V2),(2,-1,V1,V2)] rfl h h_) this))
    simp [h, h2]
  · simp [h]
theorem zil {f : Int × Int → Int} : ∀ {l : Rd2}, (∀ a ∈ l, (f a).natAbs ≤ 1) → (ja l f).natAbs ≤ l.length
  | [], _ => by simp [ja]
  | a :: l, h => by
    simp only [ja, List.length_cons]
    have h1 := h a (by simp)
    have h2 := zil (l := l) fun b hb => h b (by simp [hb])
    have h3 := Int.natAbs_add_le (f a) (ja l f)
    exact leN (lin (r4 _ _ _ _) V0 (.add V1 N1) [(0,1,V2,N1),(0,1,V3,V1),(0,1,V0,.add V2 V3)] rfl (leI h1) (leI h2) (leI h3))
theorem arcs_len (rs : Rd2) : (jp rs).length = 2 * rs.length := by
  induction rs with
  | nil => rfl
  | cons p rs ih =>
    have e : jp (p :: rs) = (p.1, p.2) :: (p.2, p.1) :: jp rs := by simp [jp]
    rw [e]; simp only [List.length_cons, ih]; rfl
theorem zaQ {m : Int} {rs : Rd2} (n : Net m rs) (v u : Nat) : (zbG rs v u).natAbs ≤ 80 := by
  have h1 := n.len
  have h2 := arcs_len rs
  refine Nat.le_trans (zil fun a ha => ?_) (by exact leN (lin (r2 _ _) V0 (.num 80) [(0,2,V1,.num 40),(2,1,V0,.mulL 2 V1)] rfl (leI h1) (eqI h2)) : (jp rs).length ≤ 80)
  by_cases h : a.1 = (v : Int) <;> by_cases h' : u = v <;> by_cases h'' : a.2 = (u : Int) <;> simp [h, h', h''] <;> (try split) <;> exact Nat.le_of_ble_eq_true rfl
theorem zhv {m : Int} {rs : Rd2} (n : Net m rs) (v : Nat) : zV rs v ≤ 80 := by
  have h1 := zaQ n v v
  rw [zbR n] at h1
  lia
theorem aft_lap {m : Int} {rs : Rd2} (n : Net m rs) (h t : Nat → Int) {v : Nat} (hv : (v : Int) < m) : aftF m.toNat (zbG rs) h t v = h v - lap m rs t v := by
  unfold aftF
  rw [← zg9 n.ends t hv]
  congr 1
  exact jw fun u _ => by rw [tabN_symm]
noncomputable def colF (f : Nat → Nat → Int) (b : Nat → Int) (i : Nat) : Nat → Nat → Int := fun v u => if u = i then b v else f v u
theorem cram_col {m : Int} {rs : Rd2} (hm : 0 ≤ m) (b : Nat → Int) {i : Nat} (hi : i < m.toNat) : det (List.range m.toNat) (wM m.toNat (colF (zbG rs) b i)) = zcH m rs b i := by
  unfold zcH wM
  rw [← det_map]
  rw [List.map_map]
  have := wL (cs := List.range m.toNat) (f := colF (zbG rs) b i) (g := (fun (r : Row) (j : Nat) => r (if j = i then m.toNat else j)) ∘ zgO m rs b) (List.range m.toNat) [] fun v _ c hc => by
    have hc' := List.mem_range.mp hc
    unfold colF
    simp only [Function.comp]
    by_cases h : c = i
    · simp [h, zgO]
    · have : ¬ c = m.toNat := by exact (fun h_ => lif (r2 _ _) [(1,1,V0,V1),(2,-1,V0,V1)] rfl (ltI hc') (eqI h_))
      simp [h, zgO, this]
  simpa using this
section
variable {T : TC} {d : Nat} {σ : zb} {Q : V → zb → Prop} {P : Nat → zb → Prop}
theorem zhV (F : zgk T) (h : FnW T "solved" 2 5 (zaO T)) {n : Nat} {a r : Addr} {as : List Addr} {f : Nat → Nat → Int} {b : Nat → Int} {B : Nat} (hn : n ≤ 10) (ht : Tab σ a n as f) (hr : L σ r n b) (hB : (10 * B) ^ 10 < 2 ^ 700) (hB1 : 1 ≤ B)
    (hb : ∀ i j, i < n → j < n → (f i j).natAbs ≤ B) (hbb : ∀ i, i < n → (b i).natAbs ≤ B)
    (hq : ∀ c σ', Ext σ σ' → σ c = none → L σ' c n (fun i => det (List.range n) (wM n (colF f b i))) → Q (.ref c) σ') : zC T (d + 3) "solved" [.ref a, .ref r] σ Q P := by
  refine h (d + 2) _ _ _ _ rfl ?_
  unfold zaO
  simp only [zE, qa, jC, z4, qd, qg, qc, List.length_nil]
  refine ⟨by first | exact Nat.le_of_ble_eq_true rfl | simp [lim], zi fun g σ₁ hg e1 hgv => ?_⟩
  simp only [zp, zq, j5, jS, qu, zv, zf, zg, ze]
  refine zW (e1 _ _ ht.head) ?_
  simp only [zd, List.length_map, ht.len]
  refine ⟨by first | exact qL ‹_› ‹_› | (unfold jc; exact ⟨lin (r1 _) (.neg (.num 4611686018427387904)) V0 [(0,1,N0,V0)] rfl (nnI _), lit (r1 _) V0 (.num 4611686018427387904) [(0,1,V0,.num 10)] rfl (leI hn)⟩), ?_⟩
  refine zU (fun i ρ σ' => X4 fun o3 o4 o5 o6 => ρ = [some (.ref a), some (.ref r), some (.ref g), o3, o4, o5, o6] ∧ Ext σ σ' ∧ q0 σ' g (lst i fun i => det (List.range n) (wM n (colF f b i)))) ⟨_, _, _, _, rfl, e1, hgv⟩ ?_ ?_
  · intro i v ρ σ' K' hv hI6a hK
    obtain ⟨o3, o4, o5, o6, rfl, hcj⟩ := hI6a
    have e := hcj.1; have hgl := hcj.2; clear hcj
    obtain ⟨hi, rfl⟩ := qQ hv
    have hi' : i < n := by assumption
    refine ⟨trivial, ?_⟩
    unfold zdN
    simp only [qB, zp, zq, zE, qa, Int.zero_add]
    refine ziz hn (ht.ext e) (y8 rfl) (fun v => rfl) fun c as' σ₂ e2 ht2 nd2 hf2 hc => ?_
    simp only [zp, zq, j5, jS, qu, zv, zf, zg, ze]
    refine zW (e2 _ _ (e _ _ ht.head)) ?_
    simp only [zd, List.length_map, ht.len]
    refine ⟨by first | exact qL ‹_› ‹_› | (unfold jc; exact ⟨lin (r1 _) (.neg (.num 4611686018427387904)) V0 [(0,1,N0,V0)] rfl (nnI _), lit (r1 _) V0 (.num 4611686018427387904) [(0,1,V0,.num 10)] rfl (leI hn)⟩), ?_⟩
    have e02 := e.trans e2
    refine zU (fun j ρ σ'' => X2 fun o5 o6 => ρ = [some (.ref a), some (.ref r), some (.ref g), some (.int i), some (.ref c), o5, o6] ∧ Ext σ' σ'' ∧ Tab σ'' c n as' fun u v => if u < j then colF f b i u v else f u v) ⟨_, _, rfl, e2, ht2.cong fun u v _ _ => by simp⟩ ?_ ?_
    · intro j v ρ σ'' K'' hv' hI6b hK'
      obtain ⟨o5, o6, rfl, hcj⟩ := hI6b
      have e' := hcj.1; have ht' := hcj.2; clear hcj
      obtain ⟨hj, rfl⟩ := qQ hv'
      have hj' : j < n := by assumption
      refine ⟨trivial, ?_⟩
      unfold zdO
      simp only [qB, zp, zq, w7, qG, zv, zf, zg, ze, zd, Int.zero_add]
      refine ((hr.ext e).ext e').at (by exact nnI _) (by exact Int.ofNat_lt.mpr ‹_›) ?_
      refine ht'.at (by exact nnI _) (by exact Int.ofNat_lt.mpr ‹_›) fun bb hb' hbl => ?_
      rw [Int.toNat_natCast] at hb' hbl
      refine hbl.set (by exact nnI _) (by exact Int.ofNat_lt.mpr ‹_›) fun σ₃ hσ₃ => ?_
      rw [Int.toNat_natCast, Int.toNat_natCast] at hσ₃
      have ht3 := ht'.put nd2 hb' (j := i) hi' (b j)
      rw [← hσ₃] at ht3
      refine hK' .next _ _ ⟨_, _, rfl, by rw [hσ₃]; exact e'.put (hf2 bb (List.mem_of_getElem? hb')) _, ht3.cong fun u w hu hw => ?_⟩
      rw [wX]
      unfold colF
      by_cases huj : u = j
      · subst huj
        have : u < u + 1 := by exact Nat.le_refl _
        simp [this]
      · by_cases hlt : u < j
        · have : u < j + 1 := by exact ltN (lit (r2 _ _) V0 (.add V1 N1) [(1,1,V0,V1)] rfl (ltI hlt))
          simp [huj, hlt, this]
        · have : ¬ u < j + 1 := by exact (fun h_ => lif (r2 _ _) [(0,1,V0,V1),(1,1,V1,V0)] rfl (nuI hlt) (ww (lin (r2 _ _) V0 V1 [(1,1,V0,.add V1 N1)] rfl (ltI h_)) huj))
          simp [huj, hlt, this]
    · rintro ρ σ'' ⟨o5, o6, rfl, hcj⟩
      have e' := hcj.1; have ht' := hcj.2; clear hcj
      refine ⟨trivial, ?_⟩
      rw [qf] at ht'
      have ht'' : Tab σ'' c n as' (colF f b i) := ht'.cong fun u v hu hv => by
        have : u < (n : Int).toNat := by assumption
        rw [if_pos this]
      have hg1 := hgl.ext e'
      refine ⟨zH hg1 trivial, ?_⟩
      refine zaC F hn ht'' hB hB1 (fun u v hu hv => ?_) fun σ₄ e4 => ?_
      · unfold colF; split
        · exact hbb u hu
        · exact hb u v hu hv
      · refine zH (hg1.ext e4) ?_
        refine ⟨by rw [zQ, jb]; unfold lim; exact ltN (lit (r2 _ _) V0 (.num 1000000) [(0,1,V1,.num 10),(1,1,V0,V1)] rfl (leI hn) (ltI hi')), hK .next _ _ ⟨_, _, _, _, rfl, ((e.trans e').trans e4).put hg _, ?_⟩⟩
        unfold q0
        rw [zy, zdc, ← zfQ]; rfl
  · rintro ρ σ' ⟨o3, o4, o5, o6, rfl, hcj⟩
    have e := hcj.1; have hgl := hcj.2; clear hcj
    refine ⟨trivial, ?_⟩
    rw [qf, Int.toNat_natCast] at hgl
    exact hq g σ' e hg hgl
noncomputable def Big : Nat := 36028797018963968
theorem big_ok : (10 * Big) ^ 10 < 2 ^ 700 := by decide +kernel
theorem big_1 : 1 ≤ Big := by decide +kernel
theorem big_80 : 80 ≤ Big := by decide +kernel
structure zcZ (m : Int) (h : Nat → Int) : Prop where
  lo : ∀ v : Nat, (v : Int) < m → 0 ≤ h v
  hi : ∀ v : Nat, (v : Int) < m → h v ≤ 1000000000
structure HeapB (m : Int) (h : Nat → Int) : Prop where
  lo : ∀ v : Nat, (v : Int) < m → 0 ≤ h v
  hi : ∀ v : Nat, (v : Int) < m → h v ≤ 36000000000000000
theorem zcZ.b {m : Int} {h : Nat → Int} (x : zcZ m h) : HeapB m h := ⟨x.lo, fun v hv => Int.le_trans (x.hi v hv) (by decide)⟩
theorem zdr (F : zgk T) (hs : FnW T "solved" 2 5 (zaO T)) (h : FnW T "least_times" 2 4 (ye T)) {m : Int} {rs : Rd2} {a hp : Addr} {as : List Addr} {g : Nat → Int} (n : Net m rs) (ht : Tab σ a m.toNat as (zbG rs)) (hh : L σ hp m.toNat g) (hg : HeapB m g)
    (hq : ∀ c σ', Ext σ σ' → σ c = none → D m rs ≠ 0 → L σ' c m.toNat (t0 m rs g) → Q (.ref c) σ') : zC T (d + 4) "least_times" [.ref a, .ref hp] σ Q P := by
  have hm := n.m0; have hm' := n.m10
  refine h (d + 3) _ _ _ _ rfl ?_
  unfold ye
  simp only [zE, qa, z5, zK, z4, zv, qd, qg, qc, zf, zg]
  refine zaC (d := d + 1) F (B := Big) (by exact leN (lin (r2 _ _) V0 (.num 10) [(0,1,V1,.num 10),(2,1,V0,V1)] rfl hm' (tnn (hm)))) ht big_ok big_1 (fun i j _ _ => Nat.le_trans (zaQ n i j) big_80) fun σ₁ e1 => ?_
  have hD : D m rs ≠ 0 := Int.ne_of_gt (D_pos n)
  have hDb : (D m rs).natAbs < 2 ^ 700 := by
    have := zbS (B := Big) (N := 10) (List.range m.toNat) (ju m rs) (fun r hr c hc => by
      obtain ⟨v, hv, rfl⟩ := List.mem_map.mp hr
      exact Nat.le_trans (zaQ n v c) (by decide)) (by simp [ju]; assumption)
    refine Nat.lt_of_le_of_lt (Nat.le_trans this (Nat.pow_le_pow_right (by decide) ?_)) big_ok
    simp; assumption
  simp only [zp, zq, jT, jS, qu, zv, zf, zg, ze]
  refine zW (e1 _ _ hh) ?_
  simp only [zd, zQ, jb]
  refine ⟨by first | exact qL ‹_› ‹_› | (unfold jc; exact ⟨lin (r1 _) (.neg (.num 4611686018427387904)) V0 [(0,1,N0,V0)] rfl (nnI _), lit (r2 _ _) V0 (.num 4611686018427387904) [(0,1,V1,.num 10),(2,1,V0,V1)] rfl hm' (tnn (hm))⟩), by first | exact zdn ‹_› | (rw [qf]; unfold lim; exact leN (lin (r3 _ _ _) V0 (.num 1000000) [(0,1,V1,.num 10),(2,1,V2,V1),(2,1,V0,V2)] rfl hm' (tnn (hm)) (tnn ((nnI _))))), ?_⟩
  refine qE (fun i acc σ' => acc = zs (lst i fun v => g v - zV rs v + 1) ∧ σ' = σ₁) ⟨rfl, rfl⟩ ?_ ?_
  · rintro i v acc σ' K' hv ⟨rfl, rfl⟩ hK
    obtain ⟨hi, rfl⟩ := qQ hv
    refine ⟨trivial, ?_⟩
    simp only [qY, if_true, zp, zq, qV, zak, qG, zv, ql, zf, zg, ze, zd, Int.zero_add]
    refine (hh.ext e1).at (by exact nnI _) (by exact Int.ofNat_lt.mpr ‹_›) ?_
    refine (ht.ext e1).at (by exact nnI _) (by exact Int.ofNat_lt.mpr ‹_›) fun b hb hbl => ?_
    refine hbl.at (by exact nnI _) (by exact Int.ofNat_lt.mpr ‹_›) ?_
    refine hK _ _ ⟨?_, rfl⟩
    rw [zdc, ← zfQ, zbR n]; rfl
  · rintro acc σ' ⟨rfl, rfl⟩
    refine ⟨trivial, zi fun ov σ₂ hov e2 hovv => ?_⟩
    rw [qf, Int.toNat_natCast] at hovv
    have hovl : L σ₂ ov m.toNat fun v => g v - zV rs v + 1 := hovv
    simp only [zp, zq, yn, jT, yk, z5, zK, z4, zv, zf, zg]
    have e12 := e1.trans e2
    refine zhV (d := d) F hs (B := Big) (by exact leN (lin (r2 _ _) V0 (.num 10) [(0,1,V1,.num 10),(2,1,V0,V1)] rfl hm' (tnn (hm)))) (ht.ext e12) hovl big_ok big_1 (fun i j _ _ => Nat.le_trans (zaQ n i j) big_80) (fun i hi => ?_) fun sv σ₃ e3 hsv hsvl => ?_
    · have h1 := hg.lo i (by exact Mine.qM ‹_› ‹_›)
      have h2 := hg.hi i (by exact Mine.qM ‹_› ‹_›)
      have h3 := zhv n i
      have h4 := zhu (rs := rs) i
      unfold Big
      lia
    · simp only [ze]
      refine qh hsvl ?_
      refine ⟨by rw [zQ, jb]; unfold lim; exact leN (lin (r2 _ _) V0 (.num 1000000) [(0,1,V1,.num 10),(2,1,V0,V1)] rfl hm' (tnn (hm))), ?_⟩
      refine qE (fun i acc σ' => acc = zs (lst i (t0 m rs g)) ∧ σ' = σ₃) ⟨rfl, rfl⟩ ?_ ?_
      · rintro i v acc σ' K' hv ⟨rfl, rfl⟩ hK
        obtain ⟨x, hx, rfl⟩ := zs_inv hv
        have hi : i < m.toNat := by
          have := (List.getElem?_eq_some_iff.mp hx).1
          rwa [jb] at this
        rw [zaa _ hi] at hx
        have hx' : x = zcH m rs (fun v => g v - zV rs v + 1) i := by rw [← cram_col hm _ hi]; exact (Option.some.inj hx).symm
        subst hx'
        refine ⟨.inl hsvl, ?_⟩
        simp only [qY, if_true, zp, zq, zcR, zak, wx, zv, ql, zf, zg, zd]
        refine ⟨⟨hD, zir hDb⟩, hK _ _ ⟨?_, rfl⟩⟩
        rw [zdc, ← zfQ]
        rfl
      · rintro acc σ' ⟨rfl, rfl⟩
        refine ⟨.inl hsvl, zi fun c σ₄ hc e4 hcv => ?_⟩
        rw [zQ, jb] at hcv
        exact hq c σ₄ (e12.trans (e3.trans e4)) ((e12.trans e3).none hc) hD hcv
end
end Mine
end
section
open PySem
namespace Mine
structure HeapFns (T : TC) : Prop where
  D : zgk T
  solved : FnW T "solved" 2 5 (zaO T)
  least : FnW T "least_times" 2 4 (ye T)
  table : FnW T "table_of" 2 5 (wV T)
  after : FnW T "after" 3 3 (zdh T)
  fallen : FnW T "fallen" 3 6 (zc0 T)
noncomputable def sumV : List V → Int
  | [] => 0
  | .int i :: r => i + sumV r
  | _ :: r => sumV r
theorem sumV_zs : ∀ l : List Int, sumV (zs l) = l.foldr (· + ·) 0
  | [] => rfl
  | x :: l => by show x + sumV (zs l) = _; rw [sumV_zs l]; rfl
theorem zij (n : Nat) (f : Nat → Int) : sumV (zs (lst n f)) = zY (List.range n) f := by
  rw [sumV_zs]
  unfold lst
  generalize List.range n = l
  induction l with
  | nil => rfl
  | cons a l ih => simp only [List.map_cons, List.foldr_cons, zY, ih]
theorem zik (f : Nat → Int) (v : Nat) (x : Int) : ∀ l : List Nat, l.Nodup → zY l (upd f v x) = zY l f + if v ∈ l then x - f v else 0
  | [], _ => by simp [zY]
  | a :: l, nd => by
    have nd' := List.nodup_cons.mp nd
    simp only [zY]
    rw [zik f v x l nd'.2]
    by_cases h : a = v
    · subst h
      simp [upd, nd'.1]; exact liq (r3 _ _ _) (.add V0 V1) (.add (.add V2 V1) (.sub V0 V2)) [] rfl
    · have h' : ¬ v = a := fun e => h e.symm
      simp only [upd, h, if_false, List.mem_cons, h', false_or]; exact liq (r3 _ _ _) (.add V0 (.add V1 V2)) (.add (.add V0 V1) V2) [] rfl
section
variable {T : TC} {d : Nat} {σ : zb} {Q : V → zb → Prop} {P : Nat → zb → Prop}
theorem zid (H : HeapFns T) {m : Int} {rs : Rd2} {r hp : Addr} {g : Nat → Int} (n : Net m rs) (hr : z2 σ r rs) (hh : L σ hp m.toNat g) (hg : HeapB m g)
    (hq : ∀ tp re tm t σ', Ext σ σ' → σ' tp = some (.tup [.ref re, .ref tm]) → L σ' re m.toNat (fun v => g v - lap m rs t v) → L σ' tm m.toNat t → zcy m rs g t → re ≠ tm → σ re = none → σ tm = none → Q (.ref tp) σ') : zC T (d + 5) "fallen" [.int m, .ref r, .ref hp] σ Q P := by
  have hm := n.m0; have hm' := n.m10
  refine H.fallen (d + 4) _ _ _ _ rfl ?_
  unfold zc0
  refine zfR (d := d + 3) H.table n hr fun ta as σ₁ e1 ht nd hf hta => ?_
  refine zdr (d := d) H.D H.solved H.least n ht (hh.ext e1) hg fun tm σ₂ e2 htm hD html => ?_
  refine zfA (d := d + 3) H.after (by exact leN (lin (r2 _ _) V0 (.num 10) [(0,1,V1,.num 10),(2,1,V0,V1)] rfl hm' (tnn (hm)))) (ht.ext e2) ((hh.ext e1).ext e2) html (fun i j _ _ => Nat.le_trans (zaQ n i j) (by decide)) fun re σ₃ e3 hre hrel => ?_
  have e12 := e1.trans e2
  have e13 := e12.trans e3
  have htm0 : σ tm = none := e1.none htm
  obtain ⟨t', ht'n, ht's⟩ := zd1 n g
  have frame : ∀ {σ' : zb} {b : Addr}, Ext σ₁ σ' → b ∈ as → b ≠ tm := fun {σ' b} he hb => by
    obtain ⟨k, hk, hkb⟩ := List.getElem_of_mem hb
    exact qT (ht.row k b (by rw [← hkb]; simp [hk])) htm
  refine zeN (fun ρ σ' => X5 fun bb re t o7 o8 => ρ = [some (.int m), some (.ref r), some (.ref hp), some (.ref ta), some (.ref tm), some (.ref re), some (.bool bb), o7, o8] ∧ Ext σ₁ σ' ∧ L σ' tm m.toNat t ∧ L σ' re m.toNat (fun v => g v - lap m rs t v) ∧ re ≠ tm ∧ σ re = none ∧ zhA m rs g t ∧ (bb = false → Stab m rs g t))
    (fun ρ σ' => 2 * (match σ' tm with | some (.list xs) => (zY (List.range m.toNat) t' - sumV xs).toNat | _ => 0) + (match jW ρ 6 with | some (.bool true) => 1 | _ => 0)) ?_ ?_
  · exact ⟨true, re, t0 m rs g, _, _, rfl, e2.trans e3, html.ext e3, hrel.cong fun v hv => aft_lap n _ _ (by exact Mine.qM ‹_› ‹_›), Ne.symm (qT html hre), e12.none hre, zhA.start n hg.lo, by simp⟩
  · intro ρ σ' N K' hI4a hN hK
    obtain ⟨bb, re, t, o7, o8, rfl, hcj⟩ := hI4a
    have e := hcj.1; have html' := hcj.2.1; have hrel' := hcj.2.2.1; have hne := hcj.2.2.2.1; have hre0 := hcj.2.2.2.2.1; have hfall := hcj.2.2.2.2.2.1; have hst := hcj.2.2.2.2.2.2; clear hcj
    have htms := html'
    unfold L q0 at htms
    simp only [htms, zij, zg, zf] at hN
    cases bb with
    | false =>
      refine ⟨by first | exact Nat.le_of_ble_eq_true rfl | simp [lim], zi fun tp σ₅ htp e5 hv5 => ?_⟩
      exact hq tp re tm t σ₅ ((e1.trans e).trans e5) hv5 (hrel'.ext e5) (html'.ext e5) ⟨hfall, hst rfl⟩ hne hre0 htm0
    | true =>
      unfold zdR
      refine ⟨by first | exact qL ‹_› ‹_› | (unfold jc; omega), ?_⟩
      refine zU (fun i ρ σ'' => X5 fun b re t₁ o7 o8 => ρ = [some (.int m), some (.ref r), some (.ref hp), some (.ref ta), some (.ref tm), some (.ref re), some (.bool b), o7, o8] ∧ Ext σ₁ σ'' ∧ L σ'' tm m.toNat t₁ ∧ L σ'' re m.toNat (fun v => g v - lap m rs t₁ v) ∧ re ≠ tm ∧ σ re = none ∧ zhA m rs g t₁ ∧ (b = false → t₁ = t ∧ ∀ v : Nat, v < i → (v : Int) < m → g v - lap m rs t v < zV rs v) ∧ (b = true → zY (List.range m.toNat) t < zY (List.range m.toNat) t₁)) ?_ ?_ ?_
      · exact ⟨false, re, t, _, _, rfl, e, html', hrel', hne, hre0, hfall, fun _ => ⟨rfl, fun v hv => by exact lif (r1 _) [(1,1,V0,N0),(0,1,N0,V0)] rfl (ltI hv) (nnI _)⟩, by simp⟩
      · intro i v ρ σ'' K'' hv hI6b hK''
        obtain ⟨b, re, t₁, o7, o8, rfl, hcj⟩ := hI6b
        have e' := hcj.1; have htl := hcj.2.1; have hrl := hcj.2.2.1; have hne' := hcj.2.2.2.1; have hre0' := hcj.2.2.2.2.1; have hf1 := hcj.2.2.2.2.2.1; have hb0 := hcj.2.2.2.2.2.2.1; have hb1 := hcj.2.2.2.2.2.2.2; clear hcj
        obtain ⟨hi, rfl⟩ := qQ hv
        have hi' : (i : Int) < m := by exact Mine.qM ‹_› ‹_›
        have ht1 := ht.ext e'
        refine ⟨trivial, ?_⟩
        unfold zdS
        simp only [qB, zp, zq, qv, qy, qG, zv, zf, zg, ze, zd, Int.zero_add]
        refine hrl.at (by exact nnI _) (by exact Mine.lt_toNat ‹_›) ?_
        refine ht1.at (by exact nnI _) (by exact Mine.lt_toNat ‹_›) fun bb hbb hbl => ?_
        refine hbl.at (by exact nnI _) (by exact Mine.lt_toNat ‹_›) ?_
        rw [zbR n]
        by_cases hge : g i - lap m rs t₁ i ≥ zV rs i
        · refine qK (decide_eq_true hge) ?_
          have hdp := zde n hi'
          have hdl := zhv n i
          have hstep := zhA.step n hf1 hi' hge
          refine zeros hm hm' (y8 rfl) fun tu σ₄ htu e4 htul => ?_
          simp only [zp, zq, w7, wx, qG, zv, zf, zg, ze, zd]
          refine (hrl.ext e4).at (by exact nnI _) (by exact Mine.lt_toNat ‹_›) ?_
          refine (ht1.ext e4).at (by exact nnI _) (by exact Mine.lt_toNat ‹_›) fun bb hbb hbl => ?_
          refine hbl.at (by exact nnI _) (by exact Mine.lt_toNat ‹_›) ?_
          simp only [zd, Int.toNat_natCast]
          rw [zbR n]
          have hd9 : (zV rs i).natAbs < 1073741824 := by lia
          refine ⟨⟨by exact Mine.jB ‹_›, zew hd9⟩, ?_⟩
          generalize hqq : (g i - lap m rs t₁ i).fdiv (zV rs i) = q at hstep
          have hlt : (i : Int) < (m.toNat : Int) := by exact Int.ofNat_lt.mpr ‹_›
          simp only [zE, qa, zv, zf, zg, ze, zd]
          refine htul.set (by exact nnI _) hlt fun σ₅ hσ₅ => ?_
          rw [Int.toNat_natCast] at hσ₅
          have htu5 : L σ₅ tu m.toNat (upd (fun _ => 0) i q) := by rw [hσ₅]; exact zy _ _ _
          have e5 : Ext σ'' σ₅ := by rw [hσ₅]; exact e4.put htu _
          refine zfA (d := d + 3) H.after (by exact leN (lin (r2 _ _) V0 (.num 10) [(0,1,V1,.num 10),(2,1,V0,V1)] rfl hm' (tnn (hm)))) (ht1.ext e5) (hrl.ext e5) htu5 (fun i j _ _ => Nat.le_trans (zaQ n i j) (by decide)) fun re' σ₆ e6 hre6 hrel6 => ?_
          simp only [zp, zq, w7, qV, qG, zv, zf, zg, ze, zd]
          have e56 := e5.trans e6
          refine (htl.ext e56).at (by exact nnI _) ‹_› ?_
          refine (htu5.ext e6).at (by exact nnI _) ‹_› ?_
          simp only [zd, Int.toNat_natCast]
          rw [zc1]
          refine (htl.ext e56).set (by exact nnI _) ‹_› fun σ₇ hσ₇ => ?_
          rw [Int.toNat_natCast] at hσ₇
          have hre'tm : re' ≠ tm := Ne.symm (qT (htl.ext e5) hre6)
          have hsum : zY (List.range m.toNat) (upd t₁ i (t₁ i + q)) = zY (List.range m.toNat) t₁ + q := by
            rw [zik _ _ _ _ List.nodup_range, if_pos (by simp; assumption)]; exact liq (r3 _ _ _) (.add V0 (.sub (.add V1 V2) V1)) (.add V0 V2) [] rfl
          refine hK'' .next _ _ ⟨true, re', upd t₁ i (t₁ i + q), _, _, rfl, ?_, ?_, ?_, hre'tm, ?_, hstep.1, by simp, fun _ => ?_⟩
          · rw [hσ₇]; exact (e'.trans e56).put htm _
          · rw [hσ₇]; exact zy _ _ _
          · have : L σ₇ re' m.toNat (aftF m.toNat (zbG rs) (fun v => g v - lap m rs t₁ v) (upd (fun _ => 0) i q)) := by
              rw [hσ₇]; unfold L q0; rw [zS _ hre'tm]; exact hrel6
            refine this.cong fun v hv => ?_
            rw [aft_lap n _ _ (by exact Mine.qM ‹_› ‹_›), zhn]
            have e0 := zhn (m := m) (rs := rs) (fun _ => 0) i q v
            have z0 : lap m rs (fun _ => 0) v = 0 := by
              have := wC m rs 0 0 (fun _ => 0) (fun _ => 0) v
              simpa using this
            have e00 : upd (fun _ => (0 : Int)) i (0 + q) = upd (fun _ => 0) i q := by rw [Int.zero_add]
            rw [e00, z0] at e0
            rw [e0]; exact liq (r3 _ _ _) (.sub (.sub V0 V1) (.add N0 V2)) (.sub V0 (.add V1 V2)) [] rfl
          · exact (e1.trans (e'.trans e5)).none hre6
          · have h1 := hstep.2
            rw [hsum]
            cases b with
            | false => rw [(hb0 rfl).1]; exact lit (r2 _ _) V0 (.add V0 V1) [(0,1,N1,V1)] rfl hstep.2
            | true => have := hb1 rfl; exact lit (r3 _ _ _) V0 (.add V1 V2) [(0,1,N1,V2),(1,1,V0,V1)] rfl hstep.2 this
        · refine je (decide_eq_false hge) ?_
          refine hK'' .next _ _ ⟨b, re, t₁, _, _, rfl, e', htl, hrl, hne', hre0', hf1, fun hb => ⟨(hb0 hb).1, fun v hv hvm => ?_⟩, hb1⟩
          by_cases hvi : v = i
          · subst hvi
            rw [← (hb0 hb).1]; exact Int.not_le.mp ‹_›
          · exact (hb0 hb).2 v (by exact ltN ((ww (lin (r2 _ _) V0 V1 [(1,1,V0,.add V1 N1)] rfl (ltI hv)) hvi))) hvm
      · rintro ρ σ'' ⟨b, re, t₁, o7, o8, rfl, hcj⟩
        have e' := hcj.1; have htl := hcj.2.1; have hrl := hcj.2.2.1; have hne' := hcj.2.2.2.1; have hre0' := hcj.2.2.2.2.1; have hf1 := hcj.2.2.2.2.2.1; have hb0 := hcj.2.2.2.2.2.2.1; have hb1 := hcj.2.2.2.2.2.2.2; clear hcj
        refine ⟨trivial, ?_⟩
        refine hK .next _ _ ⟨⟨b, re, t₁, _, _, rfl, e', htl, hrl, hne', hre0', hf1, fun hb v hv => ?_⟩, ?_⟩
        · have := hb0 hb
          rw [this.1]
          exact this.2 v (by rw [qf]; exact Mine.wG ‹_›) hv
        · have htls := htl
          unfold L q0 at htls
          simp only [htls, zij, zg, zf]
          have hle : zY (List.range m.toNat) t₁ ≤ zY (List.range m.toNat) t' := zeS fun v hv => hf1.low t' ht'n ht's v (by first | exact mem_lt ‹_› hv | (have := List.mem_range.mp hv; omega))
          cases b with
          | false =>
            rw [← hN, (hb0 rfl).1]
            show 2 * (zY (List.range m.toNat) t' - zY (List.range m.toNat) t).toNat + 0 < 2 * (zY (List.range m.toNat) t' - zY (List.range m.toNat) t).toNat + 1
            exact Nat.le_refl _
          | true =>
            have := hb1 rfl
            rw [← hN]
            show 2 * (zY (List.range m.toNat) t' - zY (List.range m.toNat) t₁).toNat + 1 < 2 * (zY (List.range m.toNat) t' - zY (List.range m.toNat) t).toNat + 1
            exact ltN (lit (r5 _ _ _ _ _) (.add (.mulL 2 V0) N1) (.add (.mulL 2 V1) N1) [(1,2,V2,V3),(2,2,V0,.sub V4 V3),(2,-2,V1,.sub V4 V2)] rfl this (tnn (lin (r2 _ _) N0 (.sub V0 V1) [(0,1,V1,V0)] rfl hle)) (tnn (lin (r3 _ _ _) N0 (.sub V0 V1) [(0,1,V2,V0),(1,1,V1,V2)] rfl hle this)))
theorem zeD (hw : FnW T "is_within" 3 0 (qI T)) (h : FnW T "need_heap" 2 1 (wo T)) {m : Int} {hp : Addr} {g : Nat → Int} (hm : 0 ≤ m) (hm' : m ≤ 10) (hh : L σ hp m.toNat g) (hg : zcZ m g) (hq : ∀ σ', Ext σ σ' → Q .none σ') : zC T (d + 2) "need_heap" [.int m, .ref hp] σ Q P := by
  refine h (d + 1) _ _ _ _ rfl ?_
  unfold wo
  have hhs := hh
  unfold L q0 at hhs
  simp only [zE, qv, zdp, wv, zbF, zbn, zv, qd, qg, qc, zf, zg, isi, hhs, zm, Bool.not_true, Bool.false_eq_true, if_false, qy, qu, ze]
  refine zW hh ?_
  have e : ((m.toNat : Int) != m) = false := by simp; lia
  simp only [zQ, jb, zd, Cmp.run, e, zm, Bool.false_eq_true, if_false, qx, zeo, jT, yk, zv, zf, zg, ze]
  refine qh hh ?_
  refine ⟨by rw [zQ, jb]; unfold lim; exact leN (lin (r2 _ _) V0 (.num 1000000) [(0,1,V1,.num 10),(2,1,V0,V1)] rfl hm' (tnn (hm))), ?_⟩
  refine qE (fun i acc σ' => acc = List.replicate i (.bool true) ∧ σ' = σ) ⟨rfl, rfl⟩ ?_ ?_
  · intro i v acc σ' K' hv hI6a hK
    obtain ⟨rfl, rfl⟩ := hI6a
    obtain ⟨x, hx, rfl⟩ := zs_inv hv
    have hi : i < m.toNat := by
      have := (List.getElem?_eq_some_iff.mp hx).1
      rwa [jb] at this
    rw [zaa _ hi] at hx
    cases hx
    refine ⟨.inl hh, ?_⟩
    refine jK (d := d) hw (hK _ _ ⟨?_, rfl⟩)
    have h1 := hg.lo i (by exact Mine.qM ‹_› ‹_›)
    have h2 := hg.hi i (by exact Mine.qM ‹_› ‹_›)
    simp only [h1, h2, and_self, decide_true]
    rw [List.replicate_succ']
  · rintro acc σ' ⟨rfl, rfl⟩
    refine ⟨.inl hh, zi fun c σ₁ hc e1 hcv => ?_⟩
    refine zH hcv ?_
    refine ⟨List.replicate (zs (lst m.toNat g)).length true, by simp, ?_⟩
    have : ∀ k, (List.replicate k true).all id = true := fun k => by simp
    simp only [this, zm, Bool.not_true, Bool.false_eq_true, if_false, qx]
    exact hq σ₁ e1
end
end Mine
end
section
open PySem
namespace Mine
noncomputable def rb (m : Int) (rs : Rd2) (h : Nat → Int) : Bool := (List.range m.toNat).all fun v => decide (h v < zV rs v)
theorem rb_iff {m : Int} {rs : Rd2} {h : Nat → Int} : rb m rs h = true ↔ ∀ v : Nat, (v : Int) < m → h v < zV rs v := by
  unfold rb
  simp only [List.all_eq_true, List.mem_range, decide_eq_true_eq]
  exact ⟨fun H v hv => H v (by exact Mine.wG ‹_›), fun H v hv => H v (by exact (Int.lt_toNat.mp hv))⟩
theorem bools_lst (n : Nat) (f : Nat → Bool) (k : List Bool → Prop) (h : k ((List.range n).map f)) : bools ((List.range n).map fun v => V.bool (f v)) k := ⟨_, by simp, h⟩
noncomputable def pick (n : Nat) (f : Nat → Bool) : List Int := ((List.range n).filter f).map fun i : Nat => (i : Int)
theorem zgt (n f) : pick (n + 1) f = pick n f ++ if f n then [(n : Int)] else [] := by
  unfold pick
  rw [List.range_succ, List.filter_append]
  cases h : f n <;> simp [h]
theorem zin {n f} : pick n f = [] ↔ ∀ i, i < n → f i = false := by
  unfold pick
  simp only [List.map_eq_nil_iff, List.filter_eq_nil_iff, List.mem_range]
  exact ⟨fun h i hi => by simpa using h i hi, fun h i hi => by simp [h i hi]⟩
section
variable {T : TC} {d : Nat} {σ : zb} {Q : V → zb → Prop} {P : Nat → zb → Prop}
theorem rests_spec (hcn : FnW T "counts_at" 2 3 (jZ T)) (h : FnW T "rests" 3 2 (zdg T)) {m : Int} {rs : Rd2} {r hp : Addr} {g : Nat → Int} (n : Net m rs) (hr : z2 σ r rs) (hh : L σ hp m.toNat g) (hq : ∀ σ', Ext σ σ' → Q (.bool (rb m rs g)) σ') : zC T (d + 2) "rests" [.int m, .ref r, .ref hp] σ Q P := by
  have hm := n.m0; have hm' := n.m10
  have nn : ∀ p ∈ rs, 0 ≤ p.1 ∧ 0 ≤ p.2 := fun p hp => ⟨(n.ends p hp).1.1, (n.ends p hp).2.1.1⟩
  refine h (d + 1) _ _ _ _ rfl ?_
  unfold zdg
  simp only [zE, qa, z5, zK, z4, zv, qd, qg, qc, zf, zg]
  refine zbw (d := d) hcn hm hm' hr nn fun c σ₁ e1 hc hcv => ?_
  rw [zfO hm nn] at hcv
  have hcl : L σ₁ c m.toNat (zV rs) := hcv
  simp only [zp, zq, yn, zeo, jT, jS, zv, zf, zg, zd]
  refine ⟨by first | exact qL ‹_› ‹_› | (unfold jc; omega), by first | exact zdn ‹_› | (rw [qf]; unfold lim; omega), ?_⟩
  refine qE (fun i acc σ' => acc = ((List.range i).map fun v => V.bool (decide (g v < zV rs v))) ∧ σ' = σ₁) ⟨rfl, rfl⟩ ?_ ?_
  · intro i v acc σ' K' hv hI6a hK
    obtain ⟨rfl, rfl⟩ := hI6a
    obtain ⟨hi, rfl⟩ := qQ hv
    refine ⟨trivial, ?_⟩
    simp only [qY, if_true, zp, zq, qy, qG, zv, zf, zg, ze, zd, Int.zero_add]
    refine (hh.ext e1).at (by exact nnI _) (by exact Int.ofNat_lt.mpr ‹_›) ?_
    refine hcl.at (by exact nnI _) (by exact Int.ofNat_lt.mpr ‹_›) ?_
    exact hK _ _ ⟨by rw [List.range_succ, List.map_append]; rfl, rfl⟩
  · intro acc σ' hI2b
    obtain ⟨rfl, rfl⟩ := hI2b
    refine ⟨trivial, zi fun l σ₂ hl e2 hlv => ?_⟩
    refine zH hlv ?_
    rw [qf]
    refine bools_lst _ _ _ ?_
    have := hq σ₂ (e1.trans e2)
    unfold rb at this
    rw [List.all_map]
    exact this
theorem zds (hw : FnW T "_law_whole" 1 0 (qH T)) (h : FnW T "_law_is_heap" 2 1 (yf T)) {m : Int} {a : Addr} {g : Nat → Int} (hm : 0 ≤ m) (hm' : m ≤ 10) (hh : L σ a m.toNat g) (hq : ∀ σ', Ext σ σ' → Q (.bool true) σ') : zC T (d + 2) "_law_is_heap" [.ref a, .int m] σ Q P := by
  refine h (d + 1) _ _ _ _ rfl ?_
  unfold yf
  have hhs := hh
  unfold L q0 at hhs
  simp only [yn, zan, zbn, zv, qd, qg, qc, zf, zg, isi, hhs, zm, if_true, qy, qu, ze]
  refine zW hh ?_
  have e : ((m.toNat : Int) == m) = true := by simp; lia
  simp only [zQ, jb, zd, Cmp.run, e, zm, if_true, zgd, jT, yk, zv, zf, zg, ze]
  refine qh hh ?_
  refine ⟨by rw [zQ, jb]; unfold lim; exact leN (lin (r2 _ _) V0 (.num 1000000) [(0,1,V1,.num 10),(2,1,V0,V1)] rfl hm' (tnn (hm))), ?_⟩
  refine qE (fun i acc σ' => acc = [] ∧ σ' = σ) ⟨rfl, rfl⟩ ?_ ?_
  · rintro i v acc σ' K' hv ⟨rfl, rfl⟩ hK
    obtain ⟨x, hx, rfl⟩ := zs_inv hv
    refine ⟨.inl hh, ?_⟩
    simp only [jy, wv, zbF, z5, zK, z4, zv, zq, zp, zf, zg]
    refine zb3 (d := d) hw ?_
    exact hK _ _ ⟨rfl, rfl⟩
  · rintro acc σ' ⟨rfl, rfl⟩
    refine ⟨.inl hh, zi fun l σ₁ hl e1 hlv => ?_⟩
    refine ⟨by first | exact Nat.le_of_ble_eq_true rfl | simp [lim], zi fun k σ₂ hk e2 hkv => ?_⟩
    refine Eqv.zs_t (ns := []) (ms := []) (e2 _ _ hlv) hkv rfl ?_
    exact hq σ₂ (e1.trans e2)
end
section
variable {T : TC} {d : Nat} {σ : zb} {Q : V → zb → Prop} {P : Nat → zb → Prop}
end
end Mine
end
section
open PySem
namespace Mine
section
variable {T : TC} {d : Nat} {σ : zb} {Q : V → zb → Prop} {P : Nat → zb → Prop}
end
end Mine
end
section
open PySem
namespace Mine
end Mine
end
section
open PySem
namespace Mine
section
variable {T : TC} {d : Nat} {σ : zb} {Q : V → zb → Prop} {P : Nat → zb → Prop}
theorem comp_range {m : Int} {ρ : zP} {a e : EW} {j : Nat} (hm : 0 ≤ m) (hm' : m ≤ 10) (ha : ∀ (σ : zb) (Q : V → zb → Prop) (P : Nat → zb → Prop), a ρ σ Q P = Q (.int m) σ) (f : Nat → Int)
    (step : ∀ (i : Nat) σ' (K : V → zb → Prop), (i : Int) < m → Ext σ σ' → (∀ σ'', Ext σ' σ'' → K (.int (f i)) σ'') → e (ym ρ j (.int i)) σ' K noP)
    (hq : ∀ c σ', σ c = none → Ext σ σ' → L σ' c m.toNat f → Q (.ref c) σ') : yM j (jN a) none e ρ σ Q P := by
  rw [jT, jS, ha]
  refine ⟨by first | exact qL ‹_› ‹_› | (unfold jc; omega), by first | exact zdn ‹_› | (rw [qf]; unfold lim; omega), ?_⟩
  refine qE (fun i acc σ' => acc = zs (lst i f) ∧ Ext σ σ') ⟨rfl, Ext.refl⟩ ?_ ?_
  · intro i v acc σ' K' hv hI6a hK
    obtain ⟨rfl, e'⟩ := hI6a
    obtain ⟨hi, rfl⟩ := qQ hv
    refine ⟨trivial, ?_⟩
    simp only [qY, if_true, Int.zero_add]
    refine step i σ' _ (by exact Mine.qM ‹_› ‹_›) e' fun σ'' e'' => hK _ _ ⟨?_, e'.trans e''⟩
    rw [zdc, ← zfQ]; rfl
  · intro acc σ' hI2b
    obtain ⟨rfl, e'⟩ := hI2b
    refine ⟨trivial, zi fun c σ'' hc e'' hcv => ?_⟩
    rw [qf] at hcv
    exact hq c σ'' (e'.none hc) (e'.trans e'') hcv
theorem comp_pick {m : Int} {ρ : zP} {a c e : EW} {j : Nat} (hm : 0 ≤ m) (hm' : m ≤ 10) (ha : ∀ (σ : zb) (Q : V → zb → Prop) (P : Nat → zb → Prop), a ρ σ Q P = Q (.int m) σ) (f : Nat → Bool)
    (test : ∀ (i : Nat) σ' (K : V → zb → Prop), (i : Int) < m → Ext σ σ' → (∀ σ'', Ext σ' σ'' → K (.bool (f i)) σ'') → c (ym ρ j (.int i)) σ' K noP)
    (he : ∀ (i : Nat) σ' (K : V → zb → Prop), K (.int i) σ' → e (ym ρ j (.int i)) σ' K noP)
    (hq : ∀ c σ', σ c = none → Ext σ σ' → q0 σ' c (pick m.toNat f) → Q (.ref c) σ') : yM j (jN a) (some c) e ρ σ Q P := by
  rw [jT, jS, ha]
  refine ⟨by first | exact qL ‹_› ‹_› | (unfold jc; omega), by first | exact zdn ‹_› | (rw [qf]; unfold lim; omega), ?_⟩
  refine qE (fun i acc σ' => acc = zs (pick i f) ∧ Ext σ σ') ⟨rfl, Ext.refl⟩ ?_ ?_
  · intro i v acc σ' K' hv hI6a hK
    obtain ⟨rfl, e'⟩ := hI6a
    obtain ⟨hi, rfl⟩ := qQ hv
    refine ⟨trivial, ?_⟩
    simp only [jy, Int.zero_add]
    refine test i σ' _ (by exact Mine.qM ‹_› ‹_›) e' fun σ'' e'' => ?_
    simp only [zm]
    split
    · rename_i hc'
      refine he i _ _ (hK _ _ ⟨?_, e'.trans e''⟩)
      rw [zgt, hc', if_pos rfl, ← zfQ]; rfl
    · rename_i hc'
      refine hK _ _ ⟨?_, e'.trans e''⟩
      rw [zgt, if_neg hc', List.append_nil]
  · intro acc σ' hI2b
    obtain ⟨rfl, e'⟩ := hI2b
    refine ⟨trivial, zi fun c σ'' hc e'' hcv => ?_⟩
    rw [qf] at hcv
    exact hq c σ'' (e'.none hc) (e'.trans e'') hcv
end
theorem it0 {a b : V} {k : V → Prop} : jJ [a, b] (Int.toNat 0) k = k a := yc rfl
theorem it1 {a b : V} {k : V → Prop} : jJ [a, b] (Int.toNat 1) k = k b := yc rfl
theorem reps {σ : zb} {Q : V → zb → Prop} {P : Nat → zb → Prop} {x m : Int} {ρ : zP} {a : EW} (hm : 0 ≤ m) (hm' : m ≤ 10) (ha : ∀ (σ : zb) (Q : V → zb → Prop) (P : Nat → zb → Prop), a ρ σ Q P = Q (.int m) σ) (hq : ∀ c σ', σ c = none → Ext σ σ' → L σ' c m.toNat (fun _ => x) → Q (.ref c) σ') : mulL (q9 (zh (val (.int x)) zR)) a ρ σ Q P := by
  refine ⟨by first | exact Nat.le_of_ble_eq_true rfl | simp [lim], zi fun c σ₁ hc e1 hv => ?_⟩
  rw [ha]
  refine zH hv ?_
  refine ⟨by exact lit (r1 _) V0 (.num 4611686018427387904) [(0,1,V0,.num 10)] rfl hm', by exact lin (r1 _) (.neg (.num 4611686018427387904)) V0 [(0,1,N0,V0)] rfl hm, by simp [lim]; exact lin (r1 _) V0 (.num 1000000) [(0,1,V0,.num 10)] rfl hm', zi fun c' σ₂ hc' e2 hv2 => ?_⟩
  refine hq c' σ₂ (e1.none hc') (e1.trans e2) ?_
  unfold L q0
  rw [hv2, ← zhi]
  congr 2
  unfold zs
  generalize m.toNat = k
  induction k with
  | zero => rfl
  | succ k ih => rw [List.replicate_succ, List.replicate_succ, List.flatten_cons, ih]; rfl
end Mine
end
section
open PySem
namespace Mine
section
variable {T : TC} {d : Nat} {σ : zb} {Q : V → zb → Prop} {P : Nat → zb → Prop}
theorem nb_le {m : Int} {rs : Rd2} {t : Nat → Int} {C : Int} (hC : 0 ≤ C) (n : Net m rs) (ht : ∀ v : Nat, (v : Int) < m → t v ≤ C) (v : Nat) : (ja (jp rs) fun a => if a.1 = (v : Int) then tx m t a.2 else 0) ≤ C * zV rs v := by
  have h1 : (ja (jp rs) fun a => if a.1 = (v : Int) then tx m t a.2 else 0) ≤ ja (jp rs) fun a => C * (if a.1 = (v : Int) then 1 else 0) + 0 * 0 := j2 fun a ha => by
    have := (n.arc ha).2
    by_cases h : a.1 = (v : Int)
    · simp only [h, if_true]
      unfold tx
      split
      · have := ht a.2.toNat (by exact lit (r3 _ _ _) V0 V1 [(1,1,V2,V1),(2,1,V0,V2)] rfl ‹_› (tnn (this.1))); exact lin (r2 _ _) V0 (.add (.mulR V1 1) (.mulL 0 N0)) [(0,1,V0,V1)] rfl this
      · exact lin (r1 _) N0 (.add (.mulR V0 1) (.mulL 0 N0)) [(0,1,N0,V0)] rfl hC
    · simp [h]
  rw [zc6 C 0 (fun a => if a.1 = (v : Int) then 1 else 0) (fun _ => 0)] at h1
  unfold zV
  exact lin (r3 _ _ _) V0 V1 [(0,1,V0,.add V1 (.mulL 0 V2))] rfl h1
end
end Mine
end
section
open PySem
namespace Mine
theorem zdH {m : Int} (rs : Rd2) (a b : Int) (v : Nat) : lap m (rs ++ [(a, b)]) (fun _ => 1) v = lap m rs (fun _ => 1) v + ((if a = (v : Int) then 1 - (if b < m then 1 else 0) else 0) + if b = (v : Int) then 1 - (if a < m then 1 else 0) else 0) := by
  unfold lap
  have e : jp (rs ++ [(a, b)]) = jp rs ++ [(a, b), (b, a)] := by simp [jp]
  rw [e, zc7]
  simp [ja, tx]
section
variable {T : TC} {d : Nat} {σ : zb} {Q : V → zb → Prop} {P : Nat → zb → Prop}
theorem zbt (h : FnW T "other_end" 2 0 (jY T)) {t : Addr} {a b m : Int} (ht : σ t = some (.tup [.int a, .int b])) (hq : Q (.int (if b = m then a else b)) σ) : zC T (d + 1) "other_end" [.ref t, .int m] σ Q P := by
  refine h d _ _ _ _ rfl ?_
  unfold jY
  simp only [yn, iteW_, qy, qG, ql, zv, qd, qg, qc, zf, zg, ze, zd]
  refine ⟨by exact nnI _, ?_⟩
  refine jR ht ?_
  rw [it1]
  simp only [zd, zm, Cmp.run]
  by_cases hb : b = m
  · simp only [hb, beq_self_eq_true, if_true] at hq ⊢
    refine ⟨by exact nnI _, ?_⟩
    refine jR ht ?_
    rw [it0]
    exact hq
  · have : (b == m) = false := by simp [hb]
    simp only [this, hb, Bool.false_eq_true, if_false] at hq ⊢
    refine ⟨by exact nnI _, ?_⟩
    refine jR ht ?_
    rw [it1]
    exact hq
theorem zeh (ho : FnW T "other_end" 2 0 (jY T)) (h : FnW T "pit_counts" 2 3 (yE T)) {m : Int} {rs : Rd2} {r : Addr} (n : Net m rs) (hr : z2 σ r rs)
    (hq : ∀ c σ', Ext σ σ' → σ c = none → L σ' c m.toNat (lap m rs fun _ => 1) → Q (.ref c) σ') : zC T (d + 2) "pit_counts" [.int m, .ref r] σ Q P := by
  have hm := n.m0; have hm' := n.m10
  refine h (d + 1) _ _ _ _ rfl ?_
  obtain ⟨vs, hr1, hr2⟩ := hr
  unfold yE
  refine zeros hm hm' (y8 rfl) fun c σ₁ hc e1 hcl => ?_
  simp only [qd, qg, qc, zp, zq]
  rw [zE]
  simp only [j5, yk, zv, zf, zg, ze]
  refine qh (e1 _ _ hr1) ?_
  refine zU (fun i ρ σ' => X2 fun o3 o4 => ρ = [some (.int m), some (.ref r), some (.ref c), o3, o4] ∧ Ext σ σ' ∧ L σ' c m.toNat (lap m (rs.take i) fun _ => 1)) ?_ ?_ ?_
  · exact ⟨_, _, rfl, e1, hcl.cong fun v _ => by simp [lap, jp, ja]⟩
  · intro i v ρ σ' K' hv hI6a hK
    obtain ⟨o3, o4, rfl, hcj⟩ := hI6a
    have e := hcj.1; have hi := hcj.2; clear hcj
    obtain ⟨t, a, b, rfl, hrs, ht⟩ := hr2.get hv
    have hab := n.ends _ (List.mem_of_getElem? hrs)
    have htk : rs.take (i + 1) = rs.take i ++ [(a, b)] := by rw [List.take_add_one, hrs]; rfl
    refine ⟨.inl (e _ _ hr1), ?_⟩
    unfold za8
    simp only [qB, zq, zp, qv, inL_, zv, zf, zg]
    refine InV.tup (ns := [a, b]) (e _ _ ht) ?_
    have ha : ∃ x : Nat, a = (x : Int) := ⟨a.toNat, by exact liq (r2 _ _) V0 V1 [(2,-1,V1,V0)] rfl (tnn (hab.1.1))⟩
    have hb : ∃ y : Nat, b = (y : Int) := ⟨b.toNat, by exact liq (r2 _ _) V0 V1 [(2,-1,V1,V0)] rfl (tnn (hab.2.1.1))⟩
    obtain ⟨x, rfl⟩ := ha
    obtain ⟨y, rfl⟩ := hb
    by_cases hin : m ∈ [(x : Int), (y : Int)]
    · refine qK (decide_eq_true hin) ?_
      refine zbt (d := d) ho (e _ _ ht) ?_
      simp only [zq, zp, w7, qV, qG, ql, zv, zf, zg, ze, zd]
      have key : ∀ z : Nat, (z : Int) < m → (∀ v, v < m.toNat → lap m (rs.take (i + 1)) (fun _ => 1) v = upd (lap m (rs.take i) fun _ => 1) z (lap m (rs.take i) (fun _ => 1) z + 1) v) →
          0 ≤ (z : Int) ∧ yj σ' c fun xs => jJ xs (z : Int).toNat fun v => v.asInt fun x => zem σ' c (z : Int) (.int (x + 1)) fun σ'' => K' .next [some (.int m), some (.ref r), some (.ref c), some (.ref t), some (.int z)] σ'' := by
        intro z hz hupd
        refine hi.at (by exact nnI _) (by exact Mine.lt_toNat ‹_›) ?_
        refine hi.set (by exact nnI _) (by exact Mine.lt_toNat ‹_›) fun σ₂ hσ₂ => ?_
        rw [Int.toNat_natCast] at hσ₂
        refine hK .next _ _ ⟨_, _, rfl, by rw [hσ₂]; exact e.put hc _, ?_⟩
        have : L σ₂ c m.toNat (upd (lap m (rs.take i) fun _ => 1) z (lap m (rs.take i) (fun _ => 1) z + 1)) := by rw [hσ₂]; exact zy _ _ _
        exact this.cong fun v hv => (hupd v hv).symm
      by_cases hy : (y : Int) = m
      · simp only [hy, if_true]
        refine key x (by exact lit (r3 _ _ _) V0 V1 [(0,1,V2,V1),(1,1,V0,V2)] rfl hab.2.1.2 (w9 (lin (r3 _ _ _) V0 V1 [(0,1,V0,V2),(2,-1,V1,V2)] rfl hab.1.2 hy) hab.2.2)) fun v hv => ?_
        rw [htk, zdH]
        unfold upd
        by_cases hvx : v = x
        · subst hvx
          have hvm := qM hm hv
          have : ¬ (y : Int) = (v : Int) := fun e => Int.lt_irrefl m (by rw [← e, hy] at hvm; exact hvm)
          have h2 : ¬ (y : Int) < m := by rw [hy]; exact Int.lt_irrefl m
          rw [if_pos rfl, if_neg h2, if_neg this, if_pos rfl]; rfl
        · have hvm := qM hm hv
          have h1 : ¬ (x : Int) = (v : Int) := fun e => hvx (Int.ofNat.inj e).symm
          have h2 : ¬ (y : Int) = (v : Int) := fun e => Int.lt_irrefl m (by rw [← e, hy] at hvm; exact hvm)
          rw [if_neg h1, if_neg h2, if_neg hvx, Int.add_zero, Int.add_zero]
      · have hx : (x : Int) = m := by simp at hin; lia
        simp only [hy, if_false]
        refine key y (by exact (w9 (hab.2.1.2) hy)) fun v hv => ?_
        rw [htk, zdH]
        unfold upd
        by_cases hvx : v = y
        · subst hvx
          have hvm := qM hm hv
          have : ¬ (x : Int) = (v : Int) := fun e => Int.lt_irrefl m (by rw [← e, hx] at hvm; exact hvm)
          have h2 : ¬ (x : Int) < m := by rw [hx]; exact Int.lt_irrefl m
          rw [if_neg this, if_pos rfl, if_neg h2, if_pos rfl]; rfl
        · have hvm := qM hm hv
          have h1 : ¬ (y : Int) = (v : Int) := fun e => hvx (Int.ofNat.inj e).symm
          have h2 : ¬ (x : Int) = (v : Int) := fun e => Int.lt_irrefl m (by rw [← e, hx] at hvm; exact hvm)
          rw [if_neg h1, if_neg h2, if_neg hvx, Int.add_zero, Int.add_zero]
    · refine je (decide_eq_false hin) ?_
      refine hK .next _ _ ⟨_, _, rfl, e, hi.cong fun v hv => ?_⟩
      rw [htk, zdH]
      simp only [List.mem_cons, List.not_mem_nil, or_false, not_or] at hin
      have h1 : (x : Int) < m := by exact (w9 (hab.1.2) (Ne.symm hin.1))
      have h2 : (y : Int) < m := by exact (w9 (hab.2.1.2) (Ne.symm hin.2))
      simp [h1, h2]
  · rintro ρ σ' ⟨o3, o4, rfl, hcj⟩
    have e := hcj.1; have hi := hcj.2; clear hcj
    refine ⟨.inl (e _ _ hr1), ?_⟩
    refine hq c σ' e hc ?_
    rw [hr2.length, List.take_length] at hi
    exact hi
end
noncomputable def Again (m : Int) (rs : Rd2) (g : Nat → Int) : Prop := (∀ v : Nat, (v : Int) < m → g v < zV rs v) ∧ ∀ t, zcy m rs (fun v => g v + lap m rs (fun _ => 1) v) t → ∀ v : Nat, (v : Int) < m → t v = 1
theorem zcq {m : Int} {rs : Rd2} (n : Net m rs) {v : Nat} (hv : (v : Int) < m) : 0 ≤ lap m rs (fun _ => 1) v ∧ lap m rs (fun _ => 1) v ≤ zV rs v := by
  have h1 := yC (m := m) (rs := rs) (fun _ => 1) v
  have h2 := zhE n (t := fun _ => 1) (fun _ _ => (by decide : (0 : Int) ≤ 1)) v
  have h3 := nb_le (C := 1) (t := fun _ => 1) (by decide) n (fun _ _ => Int.le_refl _) v
  exact ⟨lin (r3 _ _ _) N0 V0 [(2,-1,V0,.sub (.mulR V1 1) V2),(0,1,V2,.mulL 1 V1)] rfl h1 h3, lin (r3 _ _ _) V0 V1 [(2,1,V0,.sub (.mulR V1 1) V2),(0,1,N0,V2)] rfl h1 h2⟩
theorem again_of {m : Int} {rs : Rd2} {g t : Nat → Int} (n : Net m rs) (hL : zcy m rs (fun v => g v + lap m rs (fun _ => 1) v) t) (hr : ∀ v : Nat, (v : Int) < m → g v < zV rs v) : (lst m.toNat (fun v => g v + lap m rs (fun _ => 1) v - lap m rs t v) = lst m.toNat g) ↔ Again m rs g := by
  constructor
  · intro h
    refine ⟨hr, fun t' hL' v hv => ?_⟩
    have h1 : ∀ v : Nat, (v : Int) < m → lap m rs (fun u => 1 * t u + (-1) * 1) v = 0 := fun v hv => by
      rw [wC m rs 1 (-1) t (fun _ => 1) v]
      have := lst_inj h v (by exact Mine.wG ‹_›)
      exact liq (r3 _ _ _) (.add (.mulL 1 V0) (.mulL (-1) V1)) N0 [(2,-1,.sub (.add V2 V1) V0,V2)] rfl this
    have h2 := lap_inj n h1 v hv
    have h3 := hL'.uniq hL v hv
    try simp only at h2
    exact liq (r2 _ _) V0 N1 [(2,1,.add (.mulL 1 V1) (.mulL (-1) N1),N0),(2,1,V0,V1)] rfl h2 h3
  · rintro ⟨_, h⟩
    refine zb1 fun v hv => ?_
    have := lap_congr (m := m) (rs := rs) (f := t) (g := fun _ => 1) (v := v) (by exact (Int.lt_toNat.mp hv)) n.ends fun u hu => h t hL u hu
    exact liq (r3 _ _ _) (.sub (.add V0 V1) V2) V0 [(2,-1,V2,V1)] rfl this
structure IsFns (T : TC) : Prop where
  H : HeapFns T
  counts : FnW T "counts_at" 2 3 (jZ T)
  rests : FnW T "rests" 3 2 (zdg T)
  other : FnW T "other_end" 2 0 (jY T)
  pit : FnW T "pit_counts" 2 3 (yE T)
  is : FnW T "is_again" 3 3 (zbd T)
section
variable {T : TC} {d : Nat} {σ : zb} {Q : V → zb → Prop} {P : Nat → zb → Prop}
theorem zf8 (F : IsFns T) {m : Int} {rs : Rd2} {r hp : Addr} {g : Nat → Int} (n : Net m rs) (hr : z2 σ r rs) (hh : L σ hp m.toNat g) (hg : Nn m g)
    (hq : ∀ b σ', Ext σ σ' → (b = true ↔ Again m rs g) → Q (.bool b) σ') : zC T (d + 6) "is_again" [.int m, .ref r, .ref hp] σ Q P := by
  have hm := n.m0; have hm' := n.m10
  refine F.is (d + 5) _ _ _ _ rfl ?_
  unfold zbd
  simp only [qv, wv, zbF, z5, zK, z4, zv, qd, qg, qc, zf, zg]
  refine rests_spec (d := d + 3) F.counts F.rests n hr hh fun σ₁ e1 => ?_
  cases hrb : rb m rs g with
  | false =>
    refine hq false σ₁ e1 ⟨fun h => (by cases h), fun h => ?_⟩
    have := rb_iff.mpr h.1
    rw [hrb] at this; cases this
  | true =>
    have hrest := rb_iff.mp hrb
    refine zeh (d := d + 3) F.other F.pit n (hr.ext e1) fun c σ₂ e2 hc hcl => ?_
    have e12 := e1.trans e2
    refine comp_range hm hm' (y8 rfl) (fun v => g v + lap m rs (fun _ => 1) v) (fun i σ'' K'' hi e'' hk' => ?_) fun mo σ₃ hmo e3 hmol => ?_
    · simp only [zp, zq, qV, qG, zv, zf, zg, ze, zd]
      refine ((hh.ext e12).ext e'').at (by exact nnI _) (by exact Mine.lt_toNat ‹_›) ?_
      refine (hcl.ext e'').at (by exact nnI _) (by exact Mine.lt_toNat ‹_›) ?_
      exact hk' σ'' Ext.refl
    · simp only [zp, zq, yn, zgd, qG, z5, zK, z4, ql, zv, zf, zg]
      have hI : zcZ m (fun v => g v + lap m rs (fun _ => 1) v) := ⟨fun v hv => by have := hg v hv; have := zcq n hv; show 0 ≤ g v + _; exact lin (r2 _ _) N0 (.add V0 V1) [(0,1,N0,V0),(0,1,N0,V1)] rfl ‹_› this.1, fun v hv => by
        have := hrest v hv; have := zcq n hv; have := zhv n v
        show g v + _ ≤ _; lia⟩
      refine zid (d := d) F.H n ((hr.ext e12).ext e3) hmol hI.b fun tp re tm t σ₄ e4 htp hre htm hL hne _ _ => ?_
      refine ⟨by exact nnI _, ?_⟩
      refine jR htp ?_
      rw [it0]
      refine Eqv.zs hre (((hh.ext e12).ext e3).ext e4) ?_
      simp only [Bool.false_eq_true, if_false]
      refine hq _ σ₄ ((e12.trans e3).trans e4) ?_
      rw [decide_eq_true_eq]
      exact again_of n hL hrest
end
end Mine
end
section
open PySem
namespace Mine
theorem zhh {ρ σ K P} (x : Nat) : zer x ρ σ K P = P x σ := rfl
section
variable {T : TC} {d : Nat} {σ : zb} {Q : V → zb → Prop} {P : Nat → zb → Prop}
end
end Mine
end
section
open PySem
namespace Mine
noncomputable def zcr (ks : List Int) (k : Int) (p : Int × Int) : Bool := decide (k ∈ [p.1, p.2]) && (decide (p.1 ∈ ks) || decide (p.2 ∈ ks))
noncomputable def qS (ks : List Int) : Int → Bool := fun q => decide (q ∈ ks)
theorem fire_nb {ks : List Int} {k : Int} (hk : k ∉ ks) {rs : Rd2} : (∀ p ∈ rs, p.1 ≠ p.2) → ((rs.filter (zcr ks k)).length : Int) = nb rs k (qS ks) := by
  induction rs with
  | nil => exact fun _ => rfl
  | cons p rs ih =>
    intro h
    have h1 := ih fun q hq => h q (List.mem_cons_of_mem _ hq)
    have hne := h p (List.mem_cons_self ..)
    have e : nb (p :: rs) k (qS ks) = (if p.1 = k then (if qS ks p.2 then 1 else 0) else 0) + ((if p.2 = k then (if qS ks p.1 then 1 else 0) else 0) + nb rs k (qS ks)) := rfl
    rw [e, ← h1, List.filter_cons]
    unfold zcr qS
    by_cases h2 : p.1 = k
    · have h3 : ¬ p.2 = k := fun h => hne (h2.trans h.symm)
      subst h2
      simp only [List.mem_cons, true_or, decide_true, Bool.true_and, hk, decide_false, Bool.false_or, h3, if_true, if_false]
      by_cases h4 : p.2 ∈ ks <;> simp [h4] <;> exact liq (r1 _) (.add V0 N1) (.add N1 V0) [] rfl
    · by_cases h3 : p.2 = k
      · subst h3
        have h2' : ¬ p.2 = p.1 := fun h => h2 h.symm
        simp only [List.mem_cons, List.not_mem_nil, or_false, or_true, decide_true, Bool.true_and, hk, decide_false, Bool.or_false, h2, if_true, if_false]
        by_cases h4 : p.1 ∈ ks <;> simp [h4] <;> exact liq (r1 _) (.add V0 N1) (.add N1 V0) [] rfl
      · have h2' : ¬ k = p.1 := fun h => h2 h.symm
        have h3' : ¬ k = p.2 := fun h => h3 h.symm
        simp [h2, h3, h2', h3']
section
variable {m : Int} {rs : Rd2}
structure Bn (m : Int) (rs : Rd2) (g : Nat → Int) (ks : List Int) : Prop where
  nd : ks.Nodup
  pit : m ∈ ks
  rng : ∀ k ∈ ks, 0 ≤ k ∧ k ≤ m
  sound : ∀ z : Nat → Int, (∀ v : Nat, (v : Int) < m → z v = 0 ∨ z v = 1) → (∀ v : Nat, (v : Int) < m → z v = 1 → g v + lap m rs z v < zV rs v) → ∀ k : Nat, (k : Int) < m → (k : Int) ∈ ks → z k = 0
noncomputable def zhC (m : Int) (rs : Rd2) (g : Nat → Int) (ks : List Int) : Prop := ∀ k : Nat, (k : Int) < m → (k : Int) ∉ ks → g k + nb rs k (qS ks) < zV rs k
theorem Bn.start (g : Nat → Int) (hm : 0 ≤ m) : Bn m rs g [m] := ⟨List.nodup_cons.mpr ⟨List.not_mem_nil, List.nodup_nil⟩, List.mem_singleton.mpr rfl, fun k hk => by rw [List.mem_singleton.mp hk]; exact ⟨hm, Int.le_refl _⟩, fun z _ _ k hk h => by have := List.mem_singleton.mp h; exact lif (r2 _ _) [(1,1,V0,V1),(2,-1,V0,V1)] rfl hk this⟩
theorem Bn.step (n : Net m rs) {g : Nat → Int} {ks : List Int} (B : Bn m rs g ks) {k : Nat} (hk : (k : Int) < m) (hn : (k : Int) ∉ ks) (hge : zV rs k ≤ g k + nb rs k (qS ks)) : Bn m rs g (ks ++ [(k : Int)]) := by
  refine ⟨List.nodup_append.mpr ⟨B.nd, List.nodup_cons.mpr ⟨List.not_mem_nil, List.nodup_nil⟩, fun a ha b hb h => hn (by rw [← List.mem_singleton.mp hb, ← h]; exact ha)⟩, List.mem_append_left _ B.pit, fun x hx => ?_, fun z h1 h2 v hv hm => ?_⟩
  · rcases List.mem_append.mp hx with h | h
    · exact B.rng x h
    · rw [List.mem_singleton.mp h]; exact ⟨nnI _, Int.le_of_lt hk⟩
  · rcases List.mem_append.mp hm with h | h
    · exact B.sound z h1 h2 v hv h
    · have hvk : v = k := Int.ofNat.inj (List.mem_singleton.mp h)
      subst hvk
      rcases h1 v hv with h | h
      · exact h
      · exfalso
        have h3 := h2 v hv h
        have h4 : nb rs v (qS ks) ≤ lap m rs z v := j2 fun a ha => by
          by_cases ha1 : a.1 = (v : Int)
          · rw [if_pos ha1, if_pos ha1, h]
            have ha2 := (n.arc ha).2
            unfold tx qS
            by_cases ha3 : a.2 < m
            · rw [if_pos ha3]
              obtain ⟨u, hu⟩ := Int.eq_ofNat_of_zero_le ha2.1
              rw [hu] at ha3 ⊢
              rw [Int.toNat_natCast]
              by_cases hb : (u : Int) ∈ ks
              · rw [B.sound z h1 h2 u ha3 hb]; split <;> decide
              · simp only [hb, decide_false, Bool.false_eq_true, if_false]
                rcases h1 u ha3 with h | h <;> (first | exact lin (r1 _) N0 (.sub N1 V0) [(2,1,V0,N0)] rfl h | exact lin (r1 _) N0 (.sub N1 V0) [(2,1,V0,N1)] rfl h)
            · rw [if_neg ha3]; split <;> decide
          · rw [if_neg ha1, if_neg ha1]; exact Int.le_refl _
        exact lif (r4 _ _ _ _) [(0,1,V0,.add V1 V2),(1,1,.add V1 V3,V0),(0,1,V2,V3)] rfl hge h3 h4
theorem Bn.all {g : Nat → Int} {ks : List Int} (hm : 0 ≤ m) (B : Bn m rs g ks) (hl : (ks.length : Int) = m + 1) : ∀ k : Nat, (k : Int) < m → (k : Int) ∈ ks := fun k hk => by
  apply Classical.byContradiction
  intro hn
  have := wB m.toNat ((k : Int) :: ks) (List.nodup_cons.mpr ⟨hn, B.nd⟩) fun x hx => by
    rw [tnn hm]
    rcases List.mem_cons.mp hx with h | h
    · rw [h]; exact ⟨nnI _, Int.le_of_lt hk⟩
    · exact B.rng x h
  rw [List.length_cons] at this
  exact lif (r3 (↑(ks.length)) _ (↑(m.toNat))) [(2,-1,V0,.add V1 N1),(0,1,.add V0 N1,.add V2 N1),(2,1,V2,V1)] rfl hl (leI this) (tnn (hm))
theorem Bn.fin (n : Net m rs) {g : Nat → Int} {ks : List Int} (B : Bn m rs g ks) (h0 : Nn m g) (hr : ∀ v : Nat, (v : Int) < m → g v < zV rs v) (hc : m + 1 ≤ (ks.length : Int) ∨ zhC m rs g ks) : (ks.length : Int) = m + 1 ↔ Rec m rs g := by
  have hm := n.m0
  have hle : (ks.length : Int) ≤ m + 1 := by
    have := wB m.toNat ks B.nd fun x hx => by rw [tnn hm]; exact B.rng x hx
    exact lin (r3 (↑(ks.length)) _ (↑(m.toNat))) V0 (.add V1 N1) [(0,1,V0,.add V2 N1),(2,1,V2,V1)] rfl (leI this) (tnn (hm))
  constructor
  · intro hl
    exact ⟨h0, hr, fun z h1 h2 v hv => B.sound z h1 h2 v hv (B.all hm hl v hv)⟩
  · intro R
    rcases hc with hc | hc
    · exact Int.le_antisymm (hle) (hc)
    · have h1 := R.amp (fun v => if qS ks v then 0 else 1) (fun v _ => by split; exact .inl rfl; exact .inr rfl) (fun v hv hz => by
        have hn : (v : Int) ∉ ks := fun h => by
          have : qS ks v = true := decide_eq_true h
          simp [this] at hz
        refine Int.lt_of_le_of_lt (Int.add_le_add_left (j2 fun a ha => ?_) _) (hc v hv hn)
        by_cases ha1 : a.1 = (v : Int)
        · rw [if_pos ha1, if_pos ha1]
          have ha2 := (n.arc ha).2
          show (if qS ks v = true then (0 : Int) else 1) - (if a.2 < m then (if qS ks (a.2.toNat : Int) = true then (0 : Int) else 1) else 0) ≤ _
          rw [hz]
          by_cases ha3 : a.2 < m
          · rw [if_pos ha3, tnn ha2.1]
            cases qS ks a.2 <;> decide
          · have : a.2 = m := Int.le_antisymm ha2.2 (Int.not_lt.mp ha3)
            rw [if_neg ha3, this, show qS ks m = true from decide_eq_true B.pit]; decide
        · rw [if_neg ha1, if_neg ha1]; exact Int.le_refl _)
      have := zbL m.toNat ks fun k h0 hk => by
        rw [tnn hm] at hk
        by_cases hkm : k < m
        · obtain ⟨u, rfl⟩ := Int.eq_ofNat_of_zero_le h0
          have := h1 u hkm
          by_cases hb : (u : Int) ∈ ks
          · exact hb
          · have e : qS ks u = false := decide_eq_false hb
            rw [e] at this
            exact absurd this (by decide)
        · have : k = m := by exact Int.le_antisymm (hk) (lin (r2 _ _) V0 V1 [(4,1,V1,V0)] rfl hkm)
          rw [this]; exact B.pit
      exact Int.le_antisymm (hle) (lin (r3 _ (↑(ks.length)) (↑(m.toNat))) (.add V0 N1) V1 [(0,1,.add V2 N1,V1),(2,-1,V2,V0)] rfl (leI this) (tnn (hm)))
end
end Mine
end
section
open PySem
namespace Mine
section
variable {T : TC} {d : Nat} {σ : zb} {Q : V → zb → Prop} {P : Nat → zb → Prop}
theorem zaM {m : Int} {ρ : zP} {a : EW} {b : SW} {j : Nat} {K : Out → zP → zb → Prop} (hm : 0 ≤ m) (hm' : m ≤ 10) (ha : ∀ (σ : zb) (Q : V → zb → Prop) (P : Nat → zb → Prop), a ρ σ Q P = Q (.int m) σ) (I : Nat → zP → zb → Prop) (h0 : I 0 ρ σ)
    (step : ∀ (i : Nat) ρ σ' (K' : Out → zP → zb → Prop), (i : Int) < m → I i ρ σ' → (∀ ρ' σ'', I (i + 1) ρ' σ'' → K' .next ρ' σ'') → b (ym ρ j (.int i)) σ' K' noP)
    (fin : ∀ ρ σ', I m.toNat ρ σ' → K .next ρ σ') : yL (.nm j) (jN a) b ρ σ K P := by
  rw [j5, jS, ha]
  refine ⟨qL hm hm', ?_⟩
  refine zU I h0 (fun i v ρ σ' K' hv hi hK => ?_) fun ρ σ' h => ⟨trivial, fin ρ σ' (by rw [qf] at h; exact h)⟩
  obtain ⟨hl, rfl⟩ := qQ hv
  rw [Int.zero_add]
  exact ⟨trivial, step i ρ σ' K' (qM hm hl) hi fun ρ' σ'' h => hK .next ρ' σ'' h⟩
noncomputable def burnt (rs : Rd2) (g : Nat → Int) (ks : List Int) (k : Nat) : List Int := if (k : Int) ∉ ks ∧ zV rs k ≤ g k + nb rs k (qS ks) then ks ++ [(k : Int)] else ks
theorem again_b1 {m : Int} {rs : Rd2} {g : Nat → Int} {ks : List Int} {k : Nat} {σ₀ : zb} {r hp mo bu : Addr} {o5 o7 : Option V} {K : Out → zP → zb → Prop} (n : Net m rs) (e0 : Ext σ₀ σ) (hr : z2 σ₀ r rs) (hh : L σ₀ hp m.toNat g) (hmo : L σ₀ mo m.toNat (zV rs)) (hb0 : σ₀ bu = none) (hbu : σ bu = some (.dict (dk ks))) (hk : (k : Int) < m) (hks : ks.length ≤ 20)
    (hK : ∀ o7 σ', Ext σ₀ σ' → σ' bu = some (.dict (dk (burnt rs g ks k))) → K .next [some (.int m), some (.ref r), some (.ref hp), some (.ref mo), some (.ref bu), o5, some (.int k), o7, none] σ') :
    wK T d [some (.int m), some (.ref r), some (.ref hp), some (.ref mo), some (.ref bu), o5, some (.int k), o7, none] σ K P := by
  have hm := n.m0; have hm' := n.m10
  obtain ⟨vs, hr1, hr2⟩ := hr
  have hlen := n.len
  unfold wK
  rw [zE]
  simp only [qa, jT, yk, zv, zf, zg, ze]
  refine qh (e0 _ _ hr1) ?_
  refine ⟨by rw [hr2.length]; unfold lim; exact leN (lin (r1 _) V0 (.num 1000000) [(0,1,V0,.num 40)] rfl (leI hlen)), ?_⟩
  refine qE (fun i acc σ' => σ' = σ ∧ acc.length = ((rs.take i).filter (zcr ks k)).length) ⟨rfl, rfl⟩ ?_ ?_
  · rintro i v acc σ' K' hv ⟨rfl, hacc⟩ hK'
    obtain ⟨t, a, b, rfl, hrs, ht⟩ := hr2.get hv
    refine ⟨.inl (e0 _ _ hr1), ?_⟩
    have ht' := e0 _ _ ht
    simp only [jy, zan, inL_, zv, zp, zq, zf, zg]
    refine InV.tup (ns := [a, b]) ht' ?_
    have hnext : (rs.take (i + 1)).filter (zcr ks k) = (rs.take i).filter (zcr ks k) ++ if zcr ks k (a, b) then [(a, b)] else [] := by
      rw [List.take_add_one, hrs, List.filter_append]
      cases h : zcr ks k (a, b) <;> simp [h]
    have fin : ∀ t' : Bool, zcr ks k (a, b) = t' → (if t' = true then K' (acc ++ [.ref t]) σ' else K' acc σ') := by
      intro t' ht
      cases t' with
      | true => exact hK' _ _ ⟨rfl, by rw [hnext, ht, List.length_append, List.length_append, hacc]; rfl⟩
      | false => exact hK' _ _ ⟨rfl, by rw [hnext, ht, if_neg Bool.false_ne_true, List.append_nil, hacc]⟩
    by_cases h1 : (k : Int) ∈ [a, b]
    · simp only [h1, decide_true, if_true, zdp, ziw, qG, zv, ql, zf, zg, ze, zd]
      refine ⟨by decide, ?_⟩
      refine jR ht' ?_
      refine qC hbu ?_
      rw [wE]
      by_cases h2 : a ∈ ks
      · refine qK (decide_eq_true h2) ?_
        exact fin true (by unfold zcr; simp only [h1, h2, decide_true, Bool.true_or, Bool.and_self])
      · refine je (decide_eq_false h2) ?_
        refine ⟨by decide, ?_⟩
        refine jR ht' ?_
        show jU _ _ _
        refine qC hbu ?_
        rw [wE]
        exact fin (decide (b ∈ ks)) (by unfold zcr; simp only [h1, h2, decide_true, decide_false, Bool.false_or, Bool.true_and])
    · refine je (decide_eq_false h1) ?_
      exact fin false (by unfold zcr; simp only [h1, decide_false, Bool.false_and])
  · rintro acc σ' ⟨rfl, hacc⟩
    refine ⟨.inl (e0 _ _ hr1), zi fun fi σ₁ hfi e1 hfiv => ?_⟩
    rw [hr2.length, List.take_length] at hacc
    have e01 := e0.trans e1
    simp only [zp, zq, qv, zan, ziw, zv, zf, zg, zd, ze]
    refine qC (e1 _ _ hbu) ?_
    rw [wE]
    by_cases h1 : (k : Int) ∈ ks
    · have hb : burnt rs g ks k = ks := if_neg fun h => h.1 h1
      rw [hb] at hK
      refine je (not_dt h1) ?_
      exact hK _ _ e01 (e1 _ _ hbu)
    · have hf : (acc.length : Int) = nb rs k (qS ks) := by rw [hacc]; exact fire_nb h1 n.ne
      simp only [h1, decide_false, Bool.not_false, if_true, qy, qV, qG, qu, zv, zf, zg, zd, ze]
      refine (hh.ext e01).at (by exact nnI _) (by exact Mine.lt_toNat ‹_›) ?_
      refine zW hfiv ?_
      refine (hmo.ext e01).at (by exact nnI _) (by exact Mine.lt_toNat ‹_›) ?_
      simp only [zd, Int.toNat_natCast, Cmp.run, zm, hf, ge_iff_le]
      by_cases h2 : zV rs k ≤ g k + nb rs k (qS ks)
      · have hb : burnt rs g ks k = ks ++ [(k : Int)] := if_pos ⟨h1, h2⟩
        rw [hb] at hK
        refine qK (decide_eq_true h2) ?_
        refine Eq.mpr (qZ (e1 _ _ hbu)) ?_
        rw [wD, yy]
        refine ⟨by unfold lim; exact ltN (lit (r1 _) V0 (.num 1000000) [(0,1,V0,.num 20)] rfl (leI hks)), hK _ _ (e01.put hb0 _) ?_⟩
        rw [zy]
        unfold wF
        rw [if_neg h1]
      · have hb : burnt rs g ks k = ks := if_neg fun h => h2 h.2
        rw [hb] at hK
        refine je (decide_eq_false h2) ?_
        exact hK _ _ e01 (e1 _ _ hbu)
structure LawAFns (T : TC) : Prop where
  degs : FnW T "_law_degrees" 2 4 (jA T)
  again : FnW T "_law_again" 3 6 (zaj T)
theorem zeF (F : LawAFns T) {m : Int} {rs : Rd2} {r hp : Addr} {g : Nat → Int} (n : Net m rs) (hr : z2 σ r rs) (hh : L σ hp m.toNat g)
    (hq : ∀ b σ', Ext σ σ' → (b = true ↔ Rec m rs g) → Q (.bool b) σ') : zC T (d + 2) "_law_again" [.int m, .ref r, .ref hp] σ Q P := by
  have hm := n.m0; have hm' := n.m10
  have nn : ∀ p ∈ rs, 0 ≤ p.1 ∧ 0 ≤ p.2 := fun p hp => ⟨(n.ends p hp).1.1, (n.ends p hp).2.1.1⟩
  refine F.again (d + 1) _ _ _ _ rfl ?_
  unfold zaj
  simp only [qa, z5, zK, z4, zv, qd, qg, qc, zf, zg]
  refine zdt (d := d) F.degs hm hm' hr nn fun mo σ₁ e1 hmo0 hmo => ?_
  rw [zfO hm nn] at hmo
  have hmol : L σ₁ mo m.toNat (zV rs) := hmo
  simp only [zp, zq]
  rw [zE, qv, zgd]
  refine comp_pick hm hm' (y8 rfl) (fun v => !(decide (0 ≤ g v) && decide (g v < zV rs v))) (fun i σ'' K'' hi e'' hk' => ?_) (fun i σ'' K'' hk' => ?_) fun l σ₂ hl e2 hlv => ?_
  · simp only [zp, zq, wv, zce, ql, qG, zv, zf, zg, ze, zd]
    refine ((hh.ext e1).ext e'').at (by exact nnI _) (by exact Mine.lt_toNat ‹_›) ?_
    simp only [zd, Cmp.run, Int.toNat_natCast]
    by_cases h0 : 0 ≤ g i
    · simp only [h0, decide_true, if_true, Bool.true_and] at hk' ⊢
      refine (hmol.ext e'').at (by exact nnI _) (by exact Mine.lt_toNat ‹_›) ?_
      exact hk' σ'' Ext.refl
    · simp only [h0, decide_false, Bool.false_eq_true, if_false, zm, Bool.false_and] at hk' ⊢
      exact hk' σ'' Ext.refl
  · exact hk'
  refine ⟨by first | exact Nat.le_of_ble_eq_true rfl | simp [lim], zi fun k0 σ₃ hk0 e3 hkv => ?_⟩
  refine Eqv.zs (ms := []) (hlv.ext e3) hkv ?_
  have e13 := e1.trans (e2.trans e3)
  by_cases hpk : pick m.toNat (fun v => !(decide (0 ≤ g v) && decide (g v < zV rs v))) = []
  · have hpn := zin.mp hpk
    have hrest : ∀ v : Nat, (v : Int) < m → 0 ≤ g v ∧ g v < zV rs v := fun v hv => by
      have := hpn v (wG hv)
      simpa using this
    simp only [hpk, decide_true, if_true, Bool.not_true, zm, Bool.false_eq_true, if_false, qx]
    rw [zE]
    simp only [qa, zab, ql, zv, zf, zg, zd]
    refine zi fun bu σ₄ hbu e4 hbuv => ?_
    have R3 := hr.ext e13
    have H3 := hh.ext e13
    have M3 := hmol.ext (e2.trans e3)
    refine zaM hm hm' (y8 rfl) (fun i ρ σ' => X4 fun ks o5 o6 o7 => A5 (ρ = [some (.int m), some (.ref r), some (.ref hp), some (.ref mo), some (.ref bu), o5, o6, o7, none]) (Ext σ₃ σ') (σ' bu = some (.dict (dk ks))) (Bn m rs g ks) ((i + 1 ≤ ks.length ∨ zhC m rs g ks))) ⟨[m], _, _, _, rfl, e4, hbuv, Bn.start g hm, .inl (Nat.le_refl _)⟩ ?_ ?_
    · intro i ρ σ' K' hi hI5a hK
      obtain ⟨ks, o5, o6, o7, rfl, e5, hks, B, hc⟩ := hI5a
      unfold zbs
      refine zaM hm hm' (y8 rfl) (fun j ρ σ' => X3 fun ks' o6 o7 => A5 (ρ = [some (.int m), some (.ref r), some (.ref hp), some (.ref mo), some (.ref bu), some (.int i), o6, o7, none]) (Ext σ₃ σ') (σ' bu = some (.dict (dk ks'))) (Bn m rs g ks') (((ks' = ks ∧ ∀ k : Nat, k < j → (k : Int) ∉ ks → g k + nb rs k (qS ks) < zV rs k) ∨ (ks.length < ks'.length ∧ ¬ zhC m rs g ks)))) ⟨ks, _, _, rfl, e5, hks, B, .inl ⟨rfl, fun k hk => absurd hk (Nat.not_lt_zero k)⟩⟩ ?_ ?_
      · intro j ρ σ'' K'' hj hI5b hK'
        obtain ⟨ks', o6', o7', rfl, e6, hks', B', hc'⟩ := hI5b
        have hlen : ks'.length ≤ 20 := by
          have := wB m.toNat ks' B'.nd fun x hx => by rw [tnn hm]; exact B'.rng x hx
          exact leN (lin (r3 (↑(ks'.length)) _ (↑(m.toNat))) V0 (.num 20) [(0,1,V1,.num 10),(0,1,V0,.add V2 N1),(2,1,V2,V1)] rfl hm' (leI this) (tnn (hm)))
        refine again_b1 n e6 R3 H3 M3 hbu hks' hj hlen fun o7 σ₇ e7 hb7 => hK' _ _ ⟨_, _, _, rfl, e7, hb7, ?_, ?_⟩
        · unfold burnt
          by_cases hcb : (j : Int) ∉ ks' ∧ zV rs j ≤ g j + nb rs j (qS ks')
          · rw [if_pos hcb]; exact B'.step n hj hcb.1 hcb.2
          · rw [if_neg hcb]; exact B'
        · unfold burnt
          by_cases hcb : (j : Int) ∉ ks' ∧ zV rs j ≤ g j + nb rs j (qS ks')
          · rw [if_pos hcb]
            refine .inr ⟨?_, ?_⟩
            · rw [List.length_append]
              rcases hc' with ⟨rfl, _⟩ | ⟨h, _⟩
              · exact Nat.lt_succ_self _
              · exact Nat.lt_succ_of_lt h
            · rcases hc' with ⟨rfl, _⟩ | ⟨_, h⟩
              · exact fun hcl => by have := hcl j hj hcb.1; exact lif (r3 _ _ _) [(0,1,V0,.add V1 V2),(1,1,.add V1 V2,V0)] rfl hcb.2 this
              · exact h
          · rw [if_neg hcb]
            rcases hc' with ⟨rfl, h⟩ | h
            · refine .inl ⟨rfl, fun k hk hn => ?_⟩
              by_cases hkj : k = j
              · subst hkj
                exact Int.not_le.mp fun h => hcb ⟨hn, h⟩
              · exact h k (by exact ltN ((ww (lin (r2 _ _) V0 V1 [(1,1,V0,.add V1 N1)] rfl (ltI hk)) hkj))) hn
            · exact .inr h
      · rintro ρ σ'' ⟨ks', o6', o7', rfl, e6, hks', B', hc'⟩
        refine hK _ _ ⟨ks', _, _, _, rfl, e6, hks', B', ?_⟩
        rcases hc' with ⟨rfl, h⟩ | ⟨h1, h2⟩
        · exact .inr fun k hk hn => h k (wG hk) hn
        · refine .inl ?_
          rcases hc with h | h
          · exact Nat.lt_of_le_of_lt ‹_› ‹_›
          · exact absurd h h2
    · rintro ρ σ' ⟨ks, o5, o6, o7, rfl, e5, hks, B, hc⟩
      simp only [yn, qy, qu, qV, ql, zv, zf, zg, ze, zd]
      refine zaX hks ?_
      rw [yy]
      simp only [zd, Cmp.run]
      refine hq _ σ' (e13.trans e5) ?_
      rw [beq_iff_eq]
      refine B.fin n (fun v hv => (hrest v hv).1) (fun v hv => (hrest v hv).2) ?_
      rcases hc with h | h
      · exact .inl (by exact lin (r3 _ (↑(ks.length)) (↑(m.toNat))) (.add V0 N1) V1 [(0,1,.add V2 N1,V1),(2,-1,V2,V0)] rfl (leI h) (tnn (hm)))
      · exact .inr h
  · refine qK (not_df hpk) ?_
    refine hq false σ₃ e13 ⟨fun h => (by cases h), fun h => absurd (zin.mpr fun v hv => ?_) hpk⟩
    have h1 := h.nn v (qM hm hv)
    have h2 := h.rest v (qM hm hv)
    simp [h1, h2]
end
end Mine
end
section
open PySem
namespace Mine
section
variable {T : TC} {d : Nat} {σ : zb} {Q : V → zb → Prop} {P : Nat → zb → Prop}
end
end Mine
end
section
open PySem
namespace Mine
theorem Rec.heap {m : Int} {rs : Rd2} (n : Net m rs) {g : Nat → Int} (A : Rec m rs g) : zcZ m g := ⟨A.nn, fun v hv => by have := A.rest v hv; have := degN40 n v; exact lin (r2 _ _) V0 (.num 1000000000) [(1,1,V0,V1),(0,1,V1,.num 40)] rfl ‹_› this⟩
section
variable {T : TC} {d : Nat} {σ : zb} {Q : V → zb → Prop} {P : Nat → zb → Prop}
end
end Mine
end
section
open PySem
namespace Mine
section
variable {m : Int} {rs : Rd2}
noncomputable def Sim (m : Int) (rs : Rd2) (g g' : Nat → Int) : Prop := ∃ x : Nat → Int, ∀ v : Nat, (v : Int) < m → g v = g' v + lap m rs x v
theorem Sim.symm {a b : Nat → Int} : Sim m rs a b → Sim m rs b a := fun ⟨x, h⟩ => ⟨fun u => - x u, fun v hv => by rw [zb4]; have := h v hv; exact liq (r3 _ _ _) V0 (.add V1 (.neg V2)) [(2,-1,V1,.add V0 V2)] rfl this⟩
theorem Sim.trans {a b c : Nat → Int} : Sim m rs a b → Sim m rs b c → Sim m rs a c := fun ⟨x, h⟩ ⟨y, h'⟩ => ⟨fun u => x u + y u, fun v hv => by rw [lap_add]; have := h v hv; have := h' v hv; exact liq (r5 _ _ _ _ _) V0 (.add V1 (.add V2 V3)) [(2,1,V0,.add V4 V2),(2,1,V4,.add V1 V3)] rfl ‹_› this⟩
theorem Sim.add {a b a' b' : Nat → Int} : Sim m rs a a' → Sim m rs b b' → Sim m rs (fun v => a v + b v) (fun v => a' v + b' v) := fun ⟨x, h⟩ ⟨y, h'⟩ => ⟨fun u => x u + y u, fun v hv => by rw [lap_add]; have := h v hv; have := h' v hv; show a v + b v = a' v + b' v + _; exact liq (r6 _ _ _ _ _ _) (.add V0 V1) (.add (.add V2 V3) (.add V4 V5)) [(2,1,V0,.add V2 V4),(2,1,V1,.add V3 V5)] rfl ‹_› this⟩
theorem Sim.neg {a a' : Nat → Int} : Sim m rs a a' → Sim m rs (fun v => 0 - a v) (fun v => 0 - a' v) := fun ⟨x, h⟩ => ⟨fun u => - x u, fun v hv => by rw [zb4]; have := h v hv; show 0 - a v = 0 - a' v + _; exact liq (r3 _ _ _) (.sub N0 V0) (.add (.sub N0 V1) (.neg V2)) [(2,-1,V0,.add V1 V2)] rfl this⟩
theorem Sim.lap (x : Nat → Int) (g : Nat → Int) : Sim m rs (fun v => g v - lap m rs x v) g := ⟨fun u => - x u, fun v _ => by rw [zb4]; rfl⟩
theorem Rec.congr (n : Net m rs) {e e' : Nat → Int} (A : Rec m rs e) (h : ∀ v : Nat, (v : Int) < m → e' v = e v) : Rec m rs e' :=
  ⟨fun v hv => by rw [h v hv]; exact A.nn v hv, fun v hv => by rw [h v hv]; exact A.rest v hv, fun z h1 h2 => A.amp z h1 fun v hv hz => by rw [← h v hv]; exact h2 v hv hz⟩
noncomputable def zfC (m : Int) (rs : Rd2) (h e : Nat → Int) : Prop := ∃ t, zcy m rs h t ∧ ∀ v : Nat, (v : Int) < m → e v = h v - lap m rs t v
theorem zfC.more (n : Net m rs) {a b e : Nat → Int} (A : Rec m rs a) (hb : Nn m b) : zfC m rs (fun v => a v + b v) e → Rec m rs e := fun ⟨t, L, he⟩ => (more_rec n A hb L).congr n he
theorem zfC.heap (n : Net m rs) {h e : Nat → Int} : zfC m rs h e → zcZ m e := fun ⟨t, L, he⟩ => ⟨fun v hv => by rw [he v hv]; exact L.rest v hv, fun v hv => by rw [he v hv]; have := L.stab v hv; have := degN40 n v; exact lin (r3 _ _ _) (.sub V0 V1) (.num 1000000000) [(1,1,.sub V0 V1,V2),(0,1,V2,.num 40)] rfl ‹_› this⟩
end
section
variable {T : TC} {d : Nat} {σ : zb} {Q : V → zb → Prop} {P : Nat → zb → Prop}
theorem at_of {σ : zb} {a : Addr} {xs : List V} {j : Int} {v : V} {k : V → Prop} (h : σ a = some (.list xs)) (h0 : 0 ≤ j) (hx : xs[j.toNat]? = some v) (hk : k v) : 0 ≤ j ∧ yj σ a fun xs => jJ xs j.toNat k := ⟨h0, by rw [zcv h, yc hx]; exact hk⟩
end
end Mine
end
section
open PySem
namespace Mine
theorem Eqv.same {σ : zb} {a b : Addr} {n : Nat} {f g : Nat → Int} {k : Bool → Prop} (ha : L σ a n f) (hb : L σ b n g) (h : ∀ i, i < n → f i = g i) (hk : k true) : Eqv σ (.ref a) (.ref b) k := by
  refine Eqv.zs (ha.cong h) hb ?_
  rw [decide_eq_true rfl]; exact hk
section
variable {T : TC} {d : Nat} {σ : zb} {Q : V → zb → Prop} {P : Nat → zb → Prop}
end
end Mine
end
section
open PySem
namespace Mine
section
variable {m : Int} {rs : Rd2}
theorem again_rec (n : Net m rs) {g : Nat → Int} (hg : Nn m g) : Again m rs g ↔ Rec m rs g := by
  constructor
  · rintro ⟨hr, h⟩
    refine ⟨hg, hr, fun z h1 h2 v hv => ?_⟩
    obtain ⟨t, hL⟩ := zg6 n (h := fun v => g v + lap m rs (fun _ => 1) v) fun v hv => Int.add_nonneg (hg v hv) (zcq n hv).1
    have := hL.low (fun u => 1 - z u) (fun u hu => by show 0 ≤ 1 - z u; rcases h1 u hu with h | h <;> (first | exact lin (r1 _) N0 (.sub N1 V0) [(2,1,V0,N0)] rfl h | exact lin (r1 _) N0 (.sub N1 V0) [(2,1,V0,N1)] rfl h)) (fun u hu => by
      rw [ze8]
      show g u + lap m rs (fun _ => 1) u - _ < _
      rcases h1 u hu with h0 | h0
      · have := lap_ind n (ind_nn h1) h0
        have := hr u hu
        exact lit (r4 _ _ _ _) (.sub (.add V0 V1) (.sub V1 V2)) V3 [(0,1,V2,N0),(1,1,V0,V3)] rfl ‹_› this
      · have := h2 u hu h0; exact lit (r4 _ _ _ _) (.sub (.add V0 V1) (.sub V1 V2)) V3 [(1,1,.add V0 V2,V3)] rfl this) v hv
    have := h t hL v hv
    rcases h1 v hv with h | h <;> (first | assumption | exact lif (r2 _ _) [(0,1,V0,.sub N1 V1),(2,-1,V0,N1),(2,-1,V1,N1)] rfl ‹_› this h)
  · intro R
    refine ⟨R.rest, fun t hL v hv => ?_⟩
    have h1 := rec_max n R.amp (w := fun u => 1 - t u) (fun u hu _ => by rw [ze8]; have : g u + lap m rs (fun _ => 1) u - _ < _ := hL.stab u hu; exact lit (r4 _ _ _ _) (.add V0 (.sub V1 V2)) V3 [(1,1,.sub (.add V0 V1) V2,V3)] rfl this) v hv
    have h2 := hL.low (fun _ => 1) (fun _ _ => Int.le_of_lt Int.one_pos) (fun u hu => by have := R.rest u hu; show g u + lap m rs (fun _ => 1) u - _ < _; exact lit (r3 _ _ _) (.sub (.add V0 V1) V1) V2 [(1,1,V0,V2)] rfl this) v hv
    exact Int.le_antisymm (h2) (lin (r1 _) N1 V0 [(0,1,.sub N1 V0,N0)] rfl h1)
end
section
variable {T : TC} {d : Nat} {σ : zb} {Q : V → zb → Prop} {P : Nat → zb → Prop}
theorem zei (I : IsFns T) (need : FnW T "need_again" 3 0 (yF T)) {m : Int} {rs : Rd2} {r hp : Addr} {g : Nat → Int} (n : Net m rs) (hr : z2 σ r rs) (hh : L σ hp m.toNat g) (hg : Nn m g)
    (hq : ∀ σ', Ext σ σ' → Rec m rs g → Q .none σ') (hf : ∀ σ', Ext σ σ' → ¬ Rec m rs g → P 6 σ') : zC T (d + 7) "need_again" [.int m, .ref r, .ref hp] σ Q P := by
  refine need (d + 6) _ _ _ _ rfl ?_
  unfold yF
  refine zf8 (d := d) I n hr hh hg fun b σ₁ e1 hb => ?_
  rw [again_rec n hg] at hb
  cases b with
  | true =>
    exact hq σ₁ e1 (hb.mp rfl)
  | false =>
    exact hf σ₁ e1 fun h => by cases hb.mpr h
end
end Mine
end
section
open PySem
namespace Mine
section
variable {T : TC} {d : Nat} {σ : zb} {Q : V → zb → Prop} {P : Nat → zb → Prop}
end
end Mine
end
section
open PySem
namespace Mine
section
variable {ρ : zP} {σ : zb} {Q : V → zb → Prop} {P : Nat → zb → Prop}
theorem zdx : zcT ρ σ Q P = yI (.dict []) σ Q := rfl
theorem dictCW_ (a : EW) : dictCW a ρ σ Q P = a ρ σ (fun v σ₁ => v.asRef fun p => jU σ₁ p fun kvs => yI (.dict kvs) σ₁ Q) P := rfl
theorem updW_ (a b : EW) : updW a b ρ σ Q P = a ρ σ (fun va σ₁ => va.asRef fun p => jU σ₁ p (fun _ => True) ∧ b ρ σ₁ (fun vb σ₂ => vb.asRef fun q => p ≠ q ∧ jU σ₂ p fun kvs => jU σ₂ q fun more => kvs.length + more.length ≤ lim ∧ Q .none (put σ₂ p (.dict (zbo kvs more)))) P) P := rfl
theorem lenSetW_ (a : EW) : zhk a ρ σ Q P = a ρ σ (fun v σ₁ => v.asRef fun p => zae σ₁ p fun xs => ∃ ns, xs = zs ns ∧ ns.length + 1 < 4096 ∧ Q (.int (zcU ns)) σ₁) P := rfl
theorem idxW_ (a b : EW) : idxW a b ρ σ Q P = a ρ σ (fun va σ₁ => va.asRef fun p => qz σ₁ p (fun _ => True) ∧ b ρ σ₁ (fun vb σ₂ => vb.asInt fun k => qz σ₂ p fun xs => ∃ ns j, xs = zs ns ∧ ns[j]? = some k ∧ (∀ m : Nat, m < j → ns[m]? ≠ some k) ∧ Q (.int (j : Nat)) σ₂) P) P := rfl
theorem compLg_inv {α : Type} {chk : zb → Prop} {bd : α → zP} {c : Option EW} {e : EW} {xs : List α} {acc : List V} (I : Nat → List V → zb → Prop) (h0 : I 0 acc σ)
    (step : ∀ i v acc σ (K' : List V → zb → Prop), xs[i]? = some v → I i acc σ → (∀ acc' σ', I (i + 1) acc' σ' → K' acc' σ') → chk σ ∧ zfj c (bd v) σ fun b σ₁ => if b then e (bd v) σ₁ (fun u σ₂ => K' (acc ++ [u]) σ₂) noP else K' acc σ₁)
    (fin : ∀ acc σ, I xs.length acc σ → chk σ ∧ yI (.list acc) σ Q) : zar chk bd c e xs acc σ Q := by
  have key : ∀ (n i : Nat) (acc : List V) (σ : zb), i + n = xs.length → I i acc σ → zar chk bd c e (xs.drop i) acc σ Q := by
    intro n
    induction n with
    | zero =>
      intro i acc σ hi hI
      have hi' : i = xs.length := by assumption
      subst hi'
      rw [List.drop_length]
      exact fin acc σ hI
    | succ n ih =>
      intro i acc σ hi hI
      have hlt : i < xs.length := by exact ltN (lit (r3 (↑(i)) (↑(xs.length)) (↑(n))) V0 V1 [(2,1,.add V0 (.add V2 N1),V1),(0,1,N0,V2)] rfl (eqI hi) (nnI _))
      rw [List.drop_eq_getElem_cons hlt]
      have := step i xs[i] acc σ (fun acc' σ' => zar chk bd c e (xs.drop (i + 1)) acc' σ' Q) (List.getElem?_eq_getElem hlt) hI fun acc' σ' h => ih (i + 1) acc' σ' (by exact eqN (liq (r3 (↑(i)) (↑(n)) (↑(xs.length))) (.add (.add V0 N1) V1) V2 [(2,1,.add V0 (.add V1 N1),V2)] rfl (eqI hi))) h
      exact this
  exact key xs.length 0 acc σ (Nat.zero_add _) h0
end
noncomputable def qW (l : List Nat) : List Int := l.map fun i : Nat => (i : Int)
theorem qn (l : List Nat) : (qW l).length = l.length := List.length_map ..
theorem rt_take {rs : Rd2} {x : Int} {S : Int → Bool} {i : Nat} {e : Int × Int} (h : rs[i]? = some e) : rt (rs.take (i + 1)) x S = rt (rs.take i) x S ++ if tch S x e then [i] else [] := by
  have hl : (rs.take i).length = i := by rw [List.length_take]; have := (List.getElem?_eq_some_iff.mp h).1; lia
  rw [List.take_add_one, h]
  have := rt_snoc (rs := rs.take i) e x S
  rw [hl] at this
  exact this
section
variable {T : TC} {d : Nat} {σ : zb} {Q : V → zb → Prop} {P : Nat → zb → Prop}
structure RtFns (T : TC) : Prop where
  other : FnW T "other_end" 2 0 (jY T)
  rt : FnW T "roads_to" 3 2 (za7 T)
theorem y0 (F : RtFns T) {rs : Rd2} {r e : Addr} {x : Int} {ks : List Int} (hr : z2 σ r rs) (he : σ e = some (.dict (dk ks)))
    (hq : ∀ l σ', σ l = none → Ext σ σ' → σ' l = some (.list (zs (qW (rt rs x (qS ks))))) → Q (.ref l) σ') : zC T (d + 2) "roads_to" [.ref r, .int x, .ref e] σ Q P := by
  obtain ⟨vs, hr1, hr2⟩ := hr
  refine F.rt (d + 1) _ _ _ _ rfl ?_
  unfold za7
  refine jt hr1 ?_
  unfold enumL
  refine compLg_inv (fun i acc σ' => σ' = σ ∧ acc = zs (qW (rt (rs.take i) x (qS ks)))) ⟨rfl, rfl⟩ ?_ ?_
  · intro i a acc σ' K' hv hI6a hK'
    obtain ⟨rfl, rfl⟩ := hI6a
    obtain ⟨hv1, hv2⟩ := zhr 0 vs i a hv
    rw [Nat.zero_add] at hv2
    obtain ⟨t, u, w, hu, hrs, ht⟩ := hr2.get hv1
    refine ⟨.inl hr1, ?_⟩
    rw [hu, hv2]
    simp only [zdi, List.foldl, zaP, zbm, jy, zan, inL_, zv, zp, zq, zf, zg]
    refine InV.tup (ns := [u, w]) ht ?_
    have hnext := rt_take (x := x) (S := qS ks) hrs
    have fin : ∀ t' : Bool, tch (qS ks) x (u, w) = t' → (if t' = true then K' (zs (qW (rt (rs.take i) x (qS ks))) ++ [.int i]) σ' else K' (zs (qW (rt (rs.take i) x (qS ks)))) σ') := by
      intro t' ht
      rw [ht] at hnext
      cases t' with
      | true => exact hK' _ _ ⟨rfl, by rw [hnext]; simp [zs, qW]⟩
      | false => exact hK' _ _ ⟨rfl, by rw [hnext]; simp⟩
    by_cases h1 : x ∈ [u, w]
    · refine qK (decide_eq_true h1) ?_
      refine zbt (d := d) F.other ht ?_
      refine qC he ?_
      rw [wE]
      refine fin _ ?_
      unfold tch oth qS
      have : (decide (u = x) || decide (w = x)) = true := by
        simp only [List.mem_cons, List.not_mem_nil, or_false] at h1
        rcases h1 with h | h <;> simp [h]
      simp [this]
    · refine je (decide_eq_false h1) ?_
      refine fin false ?_
      unfold tch
      simp only [List.mem_cons, List.not_mem_nil, or_false, not_or] at h1
      have h2 : ¬ u = x := fun h => h1.1 h.symm
      have h3 : ¬ w = x := fun h => h1.2 h.symm
      simp [h2, h3]
  · intro acc σ' hI2b
    obtain ⟨rfl, rfl⟩ := hI2b
    refine ⟨.inl hr1, zi fun l σ₁ hl e1 hlv => hq l σ₁ hl e1 ?_⟩
    rw [hlv, zff, hr2.length, List.take_length]
structure LoFns (T : TC) : Prop extends RtFns T where
  counts : FnW T "counts_at" 2 3 (jZ T)
  least : FnW T "least_of" 5 1 (zba T)
end
end Mine
end
section
open PySem
namespace Mine
section
variable {T : TC} {d : Nat} {σ : zb} {Q : V → zb → Prop} {P : Nat → zb → Prop}
theorem zb2 (F : LoFns T) {m : Int} {rs : Rd2} {r o y : Addr} {p : Nat} {O Y : List Int} (n : Net m rs) (hp : (p : Int) < m) (hr : z2 σ r rs) (ho : σ o = some (.dict (dk O))) (hy : σ y = some (.dict (dk Y)))
    (hq : ∀ σ', Ext σ σ' → Q (.int (zV rs p - (nb rs p (qS O) + nb rs p (qS Y)))) σ') : zC T (d + 3) "least_of" [.int m, .ref r, .int p, .ref o, .ref y] σ Q P := by
  have hm := n.m0; have hm' := n.m10
  have nn : ∀ p ∈ rs, 0 ≤ p.1 ∧ 0 ≤ p.2 := fun p hp => ⟨(n.ends p hp).1.1, (n.ends p hp).2.1.1⟩
  refine F.least (d + 2) _ _ _ _ rfl ?_
  unfold zba
  rw [zE]
  simp only [qa, qV, qu, z5, zK, z4, zv, qd, qg, qc, zf, zg]
  refine y0 (d := d) F.toRtFns hr ho fun l σ₁ hl e1 hlv => ?_
  simp only [ze]
  refine zW hlv ?_
  refine y0 (d := d) F.toRtFns (hr.ext e1) (e1 _ _ hy) fun l' σ₂ hl' e2 hlv' => ?_
  simp only [ze]
  refine zW hlv' ?_
  simp only [zd, zp, zq, yn, zak, qG, z5, zK, z4, zv, zf, zg]
  refine zbw (d := d + 1) F.counts hm hm' ((hr.ext e1).ext e2) nn fun c σ₃ e3 _ hc => ?_
  rw [zfO hm nn] at hc
  refine L.at (σ := σ₃) (f := zV rs) (n := m.toNat) hc (by exact nnI _) (by exact Mine.lt_toNat ‹_›) ?_
  simp only [zd, Int.toNat_natCast]
  rw [zQ, qn, zQ, qn, zhD _ _ _ n.ne, zhD _ _ _ n.ne]
  exact hq _ (e1.trans (e2.trans e3))
theorem zgA : ∀ (Y O : List Int), (O ++ Y).Nodup → zbo (dk O) (dk Y) = dk (O ++ Y)
  | [], O, _ => by simp [zbo, dk]
  | y :: Y, O, h => by
    have hy : y ∉ O := fun hO => by
      rw [List.nodup_append] at h
      exact h.2.2 y hO y (List.mem_cons_self ..) rfl
    have h1 : zcu (dk O) y (.bool true) = dk (O ++ [y]) := by rw [wD]; unfold wF; rw [if_neg hy]
    have h2 := zgA Y (O ++ [y]) (by simpa using h)
    show zbo (zcu (dk O) y (.bool true)) (dk Y) = _
    rw [h1, h2]; simp
theorem zcD (F : FnW T "keys_of" 2 1 (zaH T)) {o y : Addr} {O Y : List Int} (ho : σ o = some (.dict (dk O))) (hy : σ y = some (.dict (dk Y))) (hn : (O ++ Y).Nodup) (hl : (O ++ Y).length ≤ 20)
    (hq : ∀ b σ', σ b = none → Ext σ σ' → σ' b = some (.dict (dk (O ++ Y))) → Q (.ref b) σ') : zC T (d + 1) "keys_of" [.ref o, .ref y] σ Q P := by
  refine F d _ _ _ _ rfl ?_
  unfold zaH
  simp only [qa, dictCW_, zv, qd, qg, qc, zf, zg, ze]
  refine qC ho ?_
  refine zi fun b σ₁ hb e1 hbv => ?_
  simp only [zp, zq]
  rw [zE]
  simp only [wk, updW_, zv, zf, zg, ze]
  rw [zgP hbv]
  refine ⟨trivial, fun e => ?_, ?_⟩
  · subst e; rw [hb] at hy; cases hy
  · refine qC hbv (qC (e1 _ _ hy) ?_)
    rw [zgA _ _ hn, yy, yy]
    rw [List.length_append] at hl
    refine ⟨by unfold lim; exact leN (lin (r2 (↑(O.length)) (↑(Y.length))) (.add V0 V1) (.num 1000000) [(0,1,.add V0 V1,.num 20)] rfl (leI hl)), ?_⟩
    exact hq b _ hb (e1.put hb _) (zy ..)
end
end Mine
end
section
open PySem
namespace Mine
theorem zgo {c : EW} {b : SW} {ρ σ K} (I : Nat → zP → zb → Prop) (n : Nat) (h0 : I n ρ σ)
    (step : ∀ n ρ σ (K' : Out → zP → zb → Prop), I n ρ σ → (∀ ρ' σ' n', n' < n → I n' ρ' σ' → K' .next ρ' σ') →
      c ρ σ (fun v σ₁ => v.asBool fun t => if t then b ρ σ₁ (fun o ρ' σ' => match o with | .next => K' .next ρ' σ' | .ret u => K (.ret u) ρ' σ') noP else K .next ρ σ₁) noP) : ∃ n, zbk c b n ρ σ K := by
  refine ⟨n + 1, ?_⟩
  have key : ∀ (N n : Nat) (ρ : zP) (σ : zb), I n ρ σ → n < N → zbk c b N ρ σ K := by
    intro N
    induction N with
    | zero => intro n ρ σ _ h; exact lif (r1 _) [(1,1,V0,N0),(0,1,N0,V0)] rfl (ltI h) (nnI _)
    | succ N ih =>
      intro n ρ σ hI hm
      exact step n ρ σ (fun o ρ' σ' => match o with | .next => zbk c b N ρ' σ' K | .ret u => K (.ret u) ρ' σ') hI fun ρ' σ' n' hn' h => ih n' ρ' σ' h (by exact ltN (lit (r3 _ _ _) V0 V1 [(1,1,V2,.add V1 N1),(1,1,V0,V2)] rfl (ltI hm) (ltI hn')))
  exact key _ n ρ σ h0 (Nat.lt_succ_self _)
noncomputable def zhm (rs : Rd2) (O Y : List Int) (p : Nat) : Int := zV rs p - (nb rs p (qS O) + nb rs p (qS Y))
noncomputable def brn (rs : Rd2) (g : Nat → Int) (O Y : List Int) (p : Nat) : Bool := !decide ((p : Int) ∈ O ++ Y) && decide (zhm rs O Y p ≤ g p)
noncomputable def nxt (rs : Rd2) (g : Nat → Int) (O Y : List Int) (p : Nat) : Nat := ((rt rs p (qS Y))[(g p - zhm rs O Y p).toNat]?).getD 0
theorem nxt_get {m : Int} {rs : Rd2} {g : Nat → Int} {O Y : List Int} {p : Nat} (n : Net m rs) (U : Unb m rs g O Y) (hp : (p : Int) < m) (hb : brn rs g O Y p = true) :
    ∃ k : Nat, (k : Int) = g p - zhm rs O Y p ∧ (rt rs p (qS Y))[k]? = some (nxt rs g O Y p) := by
  unfold brn at hb
  simp only [Bool.and_eq_true, Bool.not_eq_true', decide_eq_false_iff_not, decide_eq_true_eq, List.mem_append, not_or] at hb
  have h1 := U p hp hb.1.1 hb.1.2
  have h2 := zhD p (qS Y) rs n.ne
  have h3 : zaq O = qS O := rfl
  rw [h3] at h1
  have hlt : (g p - zhm rs O Y p).toNat < (rt rs p (qS Y)).length := by unfold zhm; unfold zhm at hb; exact ltN (lit (r6 _ _ _ _ _ _) V0 V1 [(1,1,.add V2 V3,V4),(2,-1,V1,V5),(2,1,V0,.sub V2 (.sub V4 (.add V3 V5)))] rfl h1 h2 (tnn (lin (r4 _ _ _ _) N0 (.sub V0 (.sub V1 (.add V2 V3))) [(0,1,.sub V1 (.add V2 V3),V0)] rfl hb.2)))
  refine ⟨(g p - zhm rs O Y p).toNat, by exact (tnn (lin (r2 _ _) N0 (.sub V0 V1) [(0,1,V1,V0)] rfl hb.2)), ?_⟩
  unfold nxt
  rw [List.getElem?_eq_getElem hlt]; rfl
section
variable {T : TC} {d : Nat} {σ : zb} {Q : V → zb → Prop} {P : Nat → zb → Prop}
structure zhQ (T : TC) : Prop extends LoFns T where
  keys : FnW T "keys_of" 2 1 (zaH T)
structure zgi (σ₀ σ : zb) (o y b : Addr) (Od Ly : List Int) : Prop where
  ext : Ext σ₀ σ
  o : σ o = some (.dict (dk Od))
  y : σ y = some (.dict (dk Ly))
  b : σ b = some (.dict (dk (Od ++ Ly)))
theorem zgi.up {σ₀ σ σ' o y b Od Ly} (t : zgi σ₀ σ o y b Od Ly) (e : Ext σ σ') : zgi σ₀ σ' o y b Od Ly := ⟨t.ext.trans e, e _ _ t.o, e _ _ t.y, e _ _ t.b⟩
theorem zgi.put {σ₀ σ o y b Od Ly} (t : zgi σ₀ σ o y b Od Ly) {a : Addr} (h0 : σ₀ a = none) (h1 : a ≠ o) (h2 : a ≠ y) (h3 : a ≠ b) (x : O) : zgi σ₀ (put σ a x) o y b Od Ly :=
  ⟨t.ext.put h0 x, by rw [zS _ h1.symm]; exact t.o, by rw [zS _ h2.symm]; exact t.y, by rw [zS _ h3.symm]; exact t.b⟩
theorem zay {σ : zb} {a b : Addr} {xs : List V} {kvs : List (Int × V)} (h : σ a = some (.list xs)) (h' : σ b = some (.dict kvs)) : a ≠ b := by rintro rfl; rw [h] at h'; cases h'
theorem tree_b1 (F : zhQ T) {m : Int} {rs : Rd2} {g : Nat → Int} {σ₀ : zb} {r hp t o y b f : Addr} {Od Ly : List Int} {tr fs : List Nat} {p : Nat} {o9 : Option V} {K : Out → zP → zb → Prop}
    (n : Net m rs) (U : Unb m rs g Od Ly) (hr : z2 σ₀ r rs) (hh : L σ₀ hp m.toNat g) (ht0 : σ₀ t = none) (hf0 : σ₀ f = none) (tu : zgi σ₀ σ o y b Od Ly) (ht : σ t = some (.list (zs (qW tr)))) (hf : σ f = some (.dict (dk (qW fs)))) (h1 : f ≠ o) (h2 : f ≠ y) (h3 : f ≠ b) (hp' : (p : Int) < m) (hps : p ∉ fs) (htl : tr.length ≤ 20) (hfl : fs.length ≤ 20)
    (hK : ∀ o9 σ', zgi σ₀ σ' o y b Od Ly → σ' t = some (.list (zs (qW (tr ++ if brn rs g Od Ly p then [nxt rs g Od Ly p] else [])))) → σ' f = some (.dict (dk (qW (fs ++ if brn rs g Od Ly p then [p] else [])))) → K .next [some (.int m), some (.ref r), some (.ref hp), some (.ref t), some (.ref o), some (.ref y), some (.ref b), some (.ref f), some (.int p), o9] σ') :
    za0 T (d + 3) [some (.int m), some (.ref r), some (.ref hp), some (.ref t), some (.ref o), some (.ref y), some (.ref b), some (.ref f), some (.int p), o9] σ K P := by
  have hm := n.m0; have hm' := n.m10
  unfold za0
  refine zb2 (d := d) F.toLoFns n hp' (hr.ext tu.ext) tu.o tu.y fun σ₁ e1 => ?_
  have tu1 := tu.up e1
  simp only [zp, zq, qv, zan, ziw, zv, zf, zg, zd, ze]
  refine qC tu1.b ?_
  rw [wE]
  by_cases hin : (p : Int) ∈ Od ++ Ly
  · have hb : brn rs g Od Ly p = false := by unfold brn; simp [hin]
    rw [hb] at hK
    simp only [hin, decide_true, Bool.not_true, Bool.false_eq_true, if_false, zm, qx, List.append_nil] at hK ⊢
    exact hK _ _ tu1 (e1 _ _ ht) (e1 _ _ hf)
  · simp only [hin, decide_false, Bool.not_false, if_true, qy, qG, zv, zf, zg, zd, ze]
    refine (hh.ext tu1.ext).at (by exact nnI _) (by exact Mine.lt_toNat ‹_›) ?_
    simp only [zd, Int.toNat_natCast, Cmp.run, zm, ge_iff_le]
    by_cases hge : zhm rs Od Ly p ≤ g p
    · have hb : brn rs g Od Ly p = true := by unfold brn; simp [hin, hge]
      rw [hb] at hK
      have hge' : zV rs p - (nb rs p (qS Od) + nb rs p (qS Ly)) ≤ g p := hge
      obtain ⟨k, hk1, hk2⟩ := nxt_get n U hp' hb
      refine qK (decide_eq_true hge') ?_
      rw [zE]
      simp only [wk, zen, qG, zak, z5, zK, z4, zv, zf, zg, ze]
      refine ⟨zH (e1 _ _ ht) trivial, ?_⟩
      refine y0 (d := d + 1) F.toRtFns (hr.ext tu1.ext) tu1.y fun l σ₂ hl e2 hlv => ?_
      have tu2 := tu1.up e2
      simp only [ze, zd]
      refine (hh.ext tu2.ext).at (by exact nnI _) (by exact Mine.lt_toNat ‹_›) ?_
      simp only [zd, Int.toNat_natCast]
      have hsub : g p - (zV rs p - (nb rs p (qS Od) + nb rs p (qS Ly))) = (k : Int) := hk1.symm
      rw [hsub]
      refine ⟨nnI _, ?_⟩
      refine ji hlv ?_
      rw [Int.toNat_natCast, yc (zaN (n := ((nxt rs g Od Ly p : Nat) : Int)) (by unfold qW; rw [List.getElem?_map, hk2]; rfl))]
      refine zH (e2 _ _ (e1 _ _ ht)) ?_
      rw [zQ, qn]
      refine ⟨by unfold lim; exact ltN (lit (r1 _) V0 (.num 1000000) [(0,1,V0,.num 20)] rfl (leI htl)), ?_⟩
      have ht2 := e2 _ _ (e1 _ _ ht)
      have hf2 := e2 _ _ (e1 _ _ hf)
      have tu3 := tu2.put ht0 (zay ht2 tu2.o) (zay ht2 tu2.y) (zay ht2 tu2.b) (.list (zs (qW tr) ++ [.int (nxt rs g Od Ly p)]))
      have hft : f ≠ t := (zay ht2 hf2).symm
      refine Eq.mpr (qZ (kvs := dk (qW fs)) (by rw [zS _ hft]; exact hf2)) ?_
      rw [yy, qn, wD]
      refine ⟨by unfold lim; exact ltN (lit (r1 _) V0 (.num 1000000) [(0,1,V0,.num 20)] rfl (leI hfl)), hK _ _ (tu3.put hf0 h1 h2 h3 _) ?_ ?_⟩
      · rw [zS _ hft.symm, zy]
        simp [zs, qW]
      · rw [zy]
        unfold wF
        have : (p : Int) ∉ qW fs := fun h => by
          obtain ⟨q, hq, e⟩ := List.mem_map.mp h
          exact hps (by have : q = p := Int.ofNat.inj e; rw [← this]; exact hq)
        rw [if_neg this]
        simp [qW]
    · have hb : brn rs g Od Ly p = false := by unfold brn; simp [hge]
      rw [hb] at hK
      have hge' : ¬ zV rs p - (nb rs p (qS Od) + nb rs p (qS Ly)) ≤ g p := hge
      simp only [hge', decide_false, Bool.false_eq_true, if_false, qx, List.append_nil] at hK ⊢
      exact hK _ _ tu1 (e1 _ _ ht) (e1 _ _ hf)
end
end Mine
end
section
open PySem
namespace Mine
noncomputable def zft (m : Int) (rs : Rd2) (g : Nat → Int) (Od Ly : List Int) : List Nat := (List.range m.toNat).filter (brn rs g Od Ly)
section
variable {m : Int} {rs : Rd2} {g : Nat → Int}
theorem yb {l : List Nat} {p : Nat} : (p : Int) ∈ qW l ↔ p ∈ l := by
  unfold qW
  rw [List.mem_map]
  constructor
  · rintro ⟨q, hq, e⟩; have : q = p := Int.ofNat.inj e; rw [← this]; exact hq
  · intro h; exact ⟨p, h, rfl⟩
theorem zbe {l : List Nat} (h : l.Nodup) : (qW l).Nodup := by
  unfold qW
  rw [List.nodup_iff_pairwise_ne, List.pairwise_map]
  exact h.imp fun hab e => hab (Int.ofNat.inj e)
theorem Lay.burn (n : Net m rs) {i : Nat} {Od Ly : List Int} {lev : Int → Nat} {par : Nat → Nat} (Y : Lay m rs g i Od Ly lev par) (U : Unb m rs g Od Ly) :
    Lay m rs g (i + 1) (Od ++ Ly) (qW (zft m rs g Od Ly)) (zb0 i lev (brn rs g Od Ly)) (fun p => if brn rs g Od Ly p then nxt rs g Od Ly p else par p) ∧ Unb m rs g (Od ++ Ly) (qW (zft m rs g Od Ly)) := by
  have hm := n.m0
  have hmem : ∀ p : Nat, p ∈ zft m rs g Od Ly ↔ (p : Int) < m ∧ brn rs g Od Ly p = true := fun p => by
    unfold zft; rw [List.mem_filter, List.mem_range]
    constructor
    · rintro ⟨a, b⟩; exact ⟨by exact Mine.qM ‹_› ‹_›, b⟩
    · rintro ⟨a, b⟩; exact ⟨by exact Mine.wG ‹_›, b⟩
  refine ⟨Y.step n (brn rs g Od Ly) (fun q => ?_) (zbe ?_) (fun p hp hb => ?_) (fun _ _ _ => rfl) (fun p hp hb => ?_), fun p hp h1 h2 => ?_⟩
  · constructor
    · intro h
      obtain ⟨p, hp, rfl⟩ := List.mem_map.mp h
      obtain ⟨a, b⟩ := (hmem p).mp hp
      exact ⟨p, a, rfl, b⟩
    · rintro ⟨p, a, rfl, b⟩
      exact yb.mpr ((hmem p).mpr ⟨a, b⟩)
  · exact List.nodup_range.sublist List.filter_sublist
  · unfold brn at hb
    simp only [Bool.and_eq_true, Bool.not_eq_true', decide_eq_false_iff_not, List.mem_append, not_or] at hb
    exact hb.1
  · obtain ⟨k, h1, h2⟩ := nxt_get n U hp hb
    refine ⟨k, h2, ?_⟩
    unfold zhm at h1
    show g p = zV rs p - (nb rs p (qS Od) + nb rs p (qS Ly)) + k
    exact liq (r5 _ _ _ _ _) V0 (.add (.sub V1 (.add V2 V3)) V4) [(2,-1,V4,.sub V0 (.sub V1 (.add V2 V3)))] rfl h1
  · have hb : brn rs g Od Ly p = false := by
      cases h : brn rs g Od Ly p with
      | false => rfl
      | true => exact absurd (yb.mpr ((hmem p).mpr ⟨hp, h⟩)) h2
    unfold brn at hb
    simp only [h1, decide_false, Bool.not_false, Bool.true_and, decide_eq_false_iff_not] at hb
    unfold zhm at hb
    have h3 := nb_app n Y.apart (p : Int)
    have e1 : zaq Od = qS Od := rfl
    have e2 : zaq Ly = qS Ly := rfl
    rw [e1, e2] at h3
    exact lit (r5 _ _ _ _ _) (.add V0 V1) V2 [(3,1,.sub V2 (.add V3 V4),V0),(2,1,V1,.add V3 V4)] rfl hb h3
theorem Lay.ge {i : Nat} {Od Ly : List Int} {lev : Int → Nat} {par : Nat → Nat} (n : Net m rs) (Y : Lay m rs g i Od Ly lev par) : (Od ++ Ly).length ≤ m.toNat + 1 := by
  have hm := n.m0
  refine wB m.toNat _ Y.nd fun x hx => ?_
  rw [tnn hm]
  rcases List.mem_append.mp hx with h | h
  · have := (Y.o x).mp h; exact ⟨this.1, this.2.1⟩
  · have := (Y.y x).mp h; exact ⟨this.1, this.2.1⟩
end
section
variable {T : TC} {d : Nat} {σ : zb} {Q : V → zb → Prop} {P : Nat → zb → Prop}
theorem tree_b2 (F : zhQ T) {m : Int} {rs : Rd2} {g : Nat → Int} {σ₀ : zb} {r hp t o y : Addr} {Od Ly : List Int} {tr : List Nat} {i : Nat} {lev : Int → Nat} {par : Nat → Nat} {o6 o7 o8 o9 : Option V} {K : Out → zP → zb → Prop}
    (n : Net m rs) (Y : Lay m rs g i Od Ly lev par) (U : Unb m rs g Od Ly) (hr : z2 σ₀ r rs) (hh : L σ₀ hp m.toNat g) (ht0 : σ₀ t = none) (e0 : Ext σ₀ σ) (ho : σ o = some (.dict (dk Od))) (hy : σ y = some (.dict (dk Ly))) (ht : σ t = some (.list (zs (qW tr)))) (htl : tr.length ≤ 10)
    (hK : ∀ b f o8 o9 σ', Ext σ₀ σ' → σ' b = some (.dict (dk (Od ++ Ly))) → σ' f = some (.dict (dk (qW (zft m rs g Od Ly)))) → σ' t = some (.list (zs (qW (tr ++ (zft m rs g Od Ly).map (nxt rs g Od Ly))))) → K .next [some (.int m), some (.ref r), some (.ref hp), some (.ref t), some (.ref b), some (.ref f), some (.ref b), some (.ref f), o8, o9] σ') :
    zaZ T (d + 3) [some (.int m), some (.ref r), some (.ref hp), some (.ref t), some (.ref o), some (.ref y), o6, o7, o8, o9] σ K P := by
  have hm := n.m0; have hm' := n.m10
  have hlen := Y.ge n
  unfold zaZ
  refine zcD (d := d + 2) F.keys ho hy Y.nd (by exact leN (lin (r3 (↑((Od ++ Ly).length)) _ (↑(m.toNat))) V0 (.num 20) [(0,1,V1,.num 10),(0,1,V0,.add V2 N1),(2,1,V2,V1)] rfl hm' (leI hlen) (tnn (hm)))) fun b σ₁ hb e1 hbv => ?_
  simp only [zp, zq]
  rw [zE]
  simp only [qa, zdx]
  refine zi fun f σ₂ hf e2 hfv => ?_
  have e02 := e0.trans (e1.trans e2)
  have hf0 : σ₀ f = none := (e0.trans e1).none hf
  have h1 : f ≠ o := (qT (e1 _ _ ho) hf).symm
  have h2 : f ≠ y := (qT (e1 _ _ hy) hf).symm
  have h3 : f ≠ b := (qT hbv hf).symm
  refine zaM hm hm' (y8 rfl) (fun j ρ σ' => X2 fun o8 o9 => A4 (ρ = [some (.int m), some (.ref r), some (.ref hp), some (.ref t), some (.ref o), some (.ref y), some (.ref b), some (.ref f), o8, o9]) (zgi σ₀ σ' o y b Od Ly) (σ' t = some (.list (zs (qW (tr ++ ((List.range j).filter (brn rs g Od Ly)).map (nxt rs g Od Ly)))))) (σ' f = some (.dict (dk (qW ((List.range j).filter (brn rs g Od Ly)))))))
    ⟨_, _, rfl, ⟨e02, e2 _ _ (e1 _ _ ho), e2 _ _ (e1 _ _ hy), e2 _ _ hbv⟩, by rw [e2 _ _ (e1 _ _ ht)]; simp, hfv⟩ ?_ ?_
  · intro j ρ σ' K' hj hI5a hK'
    obtain ⟨o8', o9', rfl, tu, ht', hf'⟩ := hI5a
    have hfl : ((List.range j).filter (brn rs g Od Ly)).length ≤ j := by
      have := List.length_filter_le (brn rs g Od Ly) (List.range j)
      rw [List.length_range] at this; exact this
    refine tree_b1 (d := d) F n U hr hh ht0 hf0 tu ht' hf' h1 h2 h3 hj (fun h => by have := List.mem_range.mp (List.mem_filter.mp h).1; exact Nat.lt_irrefl _ ‹_›) (by rw [List.length_append, List.length_map]; exact leN (lin (r4 _ _ _ _) (.add V0 V1) (.num 20) [(0,1,V0,.num 10),(0,1,V2,.num 10),(1,1,V3,V2),(0,1,V1,V3)] rfl (leI htl) hm' hj (leI hfl))) (by exact leN (lin (r3 _ _ _) V0 (.num 20) [(0,1,V1,.num 10),(1,1,V2,V1),(0,1,V0,V2)] rfl hm' hj (leI hfl))) fun o9'' σ'' tu'' ht'' hf'' => hK' _ _ ⟨_, _, rfl, tu'', ?_, ?_⟩
    · rw [ht'', List.range_succ, List.filter_append, List.map_append, List.append_assoc]
      cases hb : brn rs g Od Ly j <;> simp [hb]
    · rw [hf'', List.range_succ, List.filter_append]
      cases hb : brn rs g Od Ly j <;> simp [hb]
  · rintro ρ σ' ⟨o8', o9', rfl, tu, ht', hf'⟩
    exact hK _ _ _ _ _ tu.ext tu.b hf' ht'
end
end Mine
end
section
open PySem
namespace Mine
structure IsTr (m : Int) (rs : Rd2) (g : Nat → Int) (t : List Int) : Prop where
  len : (t.length : Int) = m
  up : t.Pairwise (· < ·)
  rng : ∀ x ∈ t, 0 ≤ x ∧ x < rs.length
  corr : ∃ lev par, yX m rs g (fun j => (j : Int) ∈ t) lev par
theorem zgs {l : List Int} (h : l.Pairwise (· ≤ ·)) (hn : l.Nodup) : l.Pairwise (· < ·) := by
  have := List.Pairwise.and h hn
  exact this.imp fun {x y} h => by have := h.1; have := h.2; exact (w9 (h.1) h.2)
theorem zeU : ∀ {l l' : List Int}, l.Pairwise (· < ·) → l'.Pairwise (· < ·) → (∀ x, x ∈ l ↔ x ∈ l') → l = l'
  | [], [], _, _, _ => rfl
  | [], b :: r, _, _, h => absurd ((h b).mpr (List.mem_cons_self ..)) List.not_mem_nil
  | a :: r, [], _, _, h => absurd ((h a).mp (List.mem_cons_self ..)) List.not_mem_nil
  | a :: r, b :: s, h1, h2, h => by
    rw [List.pairwise_cons] at h1 h2
    have hab : a = b := by
      rcases List.mem_cons.mp ((h a).mp (List.mem_cons_self ..)) with e | e
      · exact e
      · rcases List.mem_cons.mp ((h b).mpr (List.mem_cons_self ..)) with e' | e'
        · exact e'.symm
        · have := h1.1 b e'; have := h2.1 a e; exact lif (r2 _ _) [(1,1,V0,V1),(1,1,V1,V0)] rfl ‹_› this
    subst hab
    have : r = s := zeU h1.2 h2.2 fun x => by
      have hx := h x
      simp only [List.mem_cons] at hx
      constructor
      · intro hr
        have := h1.1 x hr
        rcases hx.mp (.inr hr) with e | e
        · exact lif (r2 _ _) [(1,1,V0,V1),(2,1,V1,V0)] rfl this e
        · exact e
      · intro hs
        have := h2.1 x hs
        rcases hx.mpr (.inr hs) with e | e
        · exact lif (r2 _ _) [(1,1,V0,V1),(2,1,V1,V0)] rfl this e
        · exact e
    rw [this]
section
variable {m : Int} {rs : Rd2} {g : Nat → Int}
theorem IsTr.same (n : Net m rs) {t t' : List Int} (h : IsTr m rs g t) (h' : IsTr m rs g t') : t = t' := by
  obtain ⟨lev, par, C⟩ := h.corr
  obtain ⟨lev', par', C'⟩ := h'.corr
  have := C.treeEq n C'
  refine zeU h.up h'.up fun x => ?_
  constructor
  · intro hx
    obtain ⟨j, rfl⟩ := Int.eq_ofNat_of_zero_le (h.rng x hx).1
    exact (this j).mp hx
  · intro hx
    obtain ⟨j, rfl⟩ := Int.eq_ofNat_of_zero_le (h'.rng x hx).1
    exact (this j).mpr hx
theorem Lay.ends (n : Net m rs) (R : Rec m rs g) {i : Nat} {Od : List Int} {lev : Int → Nat} {par : Nat → Nat} {ps : List Nat} {t : List Int} (Y : Lay m rs g i Od [] lev par) (U : Unb m rs g Od []) (hps : Od = m :: qW ps) (hp : t.Perm (qW (ps.map par))) (hs : t.Pairwise (· ≤ ·)) : IsTr m rs g t := by
  have hm := n.m0
  have hO : m ∈ Od := by rw [hps]; exact List.mem_cons_self ..
  have hall := U.burns n R hO
  have hin : ∀ p : Nat, (p : Int) < m → p ∈ ps := fun p hp => by
    have := hall p hp
    rw [hps] at this
    rcases List.mem_cons.mp this with e | e
    · exact lif (r2 _ _) [(1,1,V0,V1),(2,-1,V0,V1)] rfl hp e
    · exact yb.mp e
  have hnd : Od.Nodup := by have := Y.nd; rwa [List.append_nil] at this
  have hlt : ∀ p ∈ ps, (p : Int) < m := fun p hp => by
    have h1 : (p : Int) ∈ Od := by rw [hps]; exact List.mem_cons_of_mem _ (yb.mpr hp)
    have h2 := (Y.o p).mp h1
    have h3 : (p : Int) ≠ m := fun e => by
      rw [hps, List.nodup_cons] at hnd
      exact hnd.1 (by rw [← e]; exact yb.mpr hp)
    exact (w9 (h2.2.1) h3)
  have C : yX m rs g (fun j => ∃ p : Nat, (p : Int) < m ∧ par p = j) lev par := Y.corr hall fun j => Iff.rfl
  have hpn : ps.Nodup := by
    rw [hps, List.nodup_cons] at hnd
    have h := hnd.2
    unfold qW at h
    rw [List.nodup_iff_pairwise_ne, List.pairwise_map] at h
    exact h.imp fun hab e => hab (by rw [e])
  have htn : (qW (ps.map par)).Nodup := by
    refine zbe ?_
    rw [List.nodup_iff_pairwise_ne, List.pairwise_map]
    exact hpn.imp_of_mem fun {a b} ha hb hab e => hab (C.inj n (hlt a ha) (hlt b hb) e)
  have hlen : (ps.length : Int) = m := by
    have h1 : Od.length ≤ m.toNat + 1 := by have := Y.ge n; rwa [List.append_nil] at this
    have h2 := zbL m.toNat Od fun k h0 hk => by
      by_cases e : k = m
      · rw [e]; exact hO
      · obtain ⟨p, rfl⟩ := Int.eq_ofNat_of_zero_le h0
        exact hall p (by exact (w9 (lin (r3 _ _ _) V0 V1 [(0,1,V0,V2),(2,1,V2,V1)] rfl hk (tnn (hm))) e))
    rw [hps, List.length_cons, qn] at h1 h2
    exact Int.le_antisymm (lin (r3 (↑(ps.length)) _ (↑(m.toNat))) V0 V1 [(0,1,.add V0 N1,.add V2 N1),(2,1,V2,V1)] rfl (leI h1) (tnn (hm))) (lin (r3 _ (↑(ps.length)) (↑(m.toNat))) V0 V1 [(0,1,.add V2 N1,.add V1 N1),(2,-1,V2,V0)] rfl (leI h2) (tnn (hm)))
  have hmem : ∀ j : Nat, (j : Int) ∈ t ↔ ∃ p : Nat, (p : Int) < m ∧ par p = j := fun j => by
    rw [hp.mem_iff, yb, List.mem_map]
    constructor
    · rintro ⟨p, h, e⟩; exact ⟨p, hlt p h, e⟩
    · rintro ⟨p, h, e⟩; exact ⟨p, hin p h, e⟩
  refine ⟨by rw [hp.length_eq, qn, List.length_map]; exact hlen, zgs hs (hp.symm.nodup htn), fun x hx => ?_, lev, par, Y.corr hall hmem⟩
  have hx' := hp.mem_iff.mp hx
  obtain ⟨j, hj, rfl⟩ := List.mem_map.mp hx'
  obtain ⟨p, hpp, e⟩ := List.mem_map.mp hj
  obtain ⟨ed, he, _⟩ := C.road (hlt p hpp)
  rw [e] at he
  have := (List.getElem?_eq_some_iff.mp he).1
  exact ⟨nnI _, Int.ofNat_lt.mpr this⟩
end
section
variable {T : TC} {d : Nat} {σ : zb} {Q : V → zb → Prop} {P : Nat → zb → Prop}
structure TreeFns (T : TC) : Prop where
  N : NetFns T
  need : FnW T "need_heap" 2 1 (wo T)
  I : IsFns T
  again : FnW T "need_again" 3 0 (yF T)
  R : zhQ T
  tree : FnW T "tree_of" 3 7 (zbO T)
theorem zgR (F : TreeFns T) {m : Int} {rs : Rd2} {r hp : Addr} {g : Nat → Int} (n : Net m rs) (hr : z2 σ r rs) (hh : L σ hp m.toNat g) (hg : zcZ m g)
    (hq : ∀ c t σ', σ c = none → Ext σ σ' → Rec m rs g → IsTr m rs g t → q0 σ' c t → Q (.ref c) σ') (he : ∀ σ', Ext σ σ' → ¬ Rec m rs g → P 6 σ') : zC T (d + 8) "tree_of" [.int m, .ref r, .ref hp] σ Q P := by
  have hm := n.m0; have hm' := n.m10
  refine F.tree (d + 7) _ _ _ _ rfl ?_
  unfold zbO
  rw [zE]
  simp only [wk, z5, zK, z4, zv, qd, qg, qc, zf, zg]
  refine zap (d := d + 4) F.N n hr fun σ₁ e1 => ?_
  rw [zE]
  simp only [wk, z5, zK, z4, zv, zf, zg]
  refine zeD (d := d + 5) F.N.within F.need hm hm' (hh.ext e1) hg fun σ₂ e2 => ?_
  rw [zE]
  simp only [wk, z5, zK, z4, zv, zf, zg]
  have e12 := e1.trans e2
  refine zei (d := d) F.I F.again n (hr.ext e12) (hh.ext e12) hg.lo (fun σ₃ e3 R => ?_) fun σ₃ e3 h => he σ₃ (e12.trans e3) h
  rw [zE]
  simp only [qa, jC, z4, List.length_nil]
  refine ⟨by unfold lim; exact Nat.le_of_ble_eq_true rfl, zi fun t σ₄ ht e4 htv => ?_⟩
  have e03 := e12.trans e3
  have e04 := e03.trans e4
  unfold zdM
  rw [zE]
  simp only [qa, zdx]
  refine zi fun o σ₅ ho e5 hov => ?_
  simp only [zp, zq]
  rw [zE]
  simp only [qa, zab, ql, zv, zf, zg, zd]
  refine zi fun y σ₆ hy e6 hyv => ?_
  have e46 := e5.trans e6
  have hr3 := hr.ext e03
  have hh3 := hh.ext e03
  refine zgo (fun k ρ σ' => X12 fun i Od Ly lev par ps o y o6 o7 o8 o9 => A9 (ρ = [some (.int m), some (.ref r), some (.ref hp), some (.ref t), some (.ref o), some (.ref y), o6, o7, o8, o9]) (Ext σ₃ σ') (σ' o = some (.dict (dk Od))) (σ' y = some (.dict (dk Ly))) (σ' t = some (.list (zs (qW (List.map par ps))))) (Lay m rs g i Od Ly lev par) (Unb m rs g Od Ly) (Od ++ Ly = m :: qW ps) (k = 2 * (m.toNat + 1 - (Od ++ Ly).length) + if Ly = [] then 0 else 1)) _
    ⟨0, [], [m], _, _, [], o, y, _, _, _, _, rfl, e4.trans e46, e6 _ _ hov, hyv, e46 _ _ htv, Lay.start g hm, Unb.start R.rest, rfl, rfl⟩ ?_
  intro k ρ σ' K' hI4a hK'
  obtain ⟨i, Od, Ly, lev, par, ps, o', y', o6, o7, o8, o9, rfl, e', ho', hy', ht', Y, U, hps, rfl⟩ := hI4a
  have hge := Y.ge n
  simp only [qy, qu, ql, zv, zf, zg, ze, zd]
  refine zaX hy' ?_
  rw [yy]
  by_cases hl : Ly = []
  · subst hl
    refine jt ht' ?_
    rw [List.append_nil] at hps hge
    refine ⟨_, rfl, ?_, fun ns hp hs => zi fun c σ₇ hc e7 hcv => ?_⟩
    · rw [hps, List.length_cons, qn] at hge
      rw [qn, List.length_map]; exact ltN (lit (r3 (↑(ps.length)) _ (↑(m.toNat))) V0 (.num 64) [(0,1,V1,.num 10),(0,1,.add V0 N1,.add V2 N1),(2,1,V2,V1)] rfl hm' (leI hge) (tnn (hm)))
    · exact hq c ns σ₇ ((e03.trans e').none hc) (e03.trans (e'.trans e7)) R (Y.ends n R U hps hp hs) hcv
  · have hpos : (0 : Int) < (Ly.length : Int) := by
      have : Ly.length ≠ 0 := fun h => hl (List.eq_nil_of_length_eq_zero h)
      exact (ww ((nnI _)) (Ne.symm this))
    refine qK (decide_eq_true hpos) ?_
    have hpl : ps.length ≤ 10 := by rw [hps, List.length_cons, qn] at hge; exact leN (lin (r3 (↑(ps.length)) _ (↑(m.toNat))) V0 (.num 10) [(0,1,V1,.num 10),(0,1,.add V0 N1,.add V2 N1),(2,1,V2,V1)] rfl hm' (leI hge) (tnn (hm)))
    refine tree_b2 (d := d + 4) F.R n Y U hr3 hh3 ht e' ho' hy' ht' (by rw [List.length_map]; exact hpl) fun b f o8' o9' σ'' e'' hb hf ht'' => ?_
    obtain ⟨Y', U'⟩ := Y.burn n U
    have hge' := Y'.ge n
    refine hK' _ _ (2 * (m.toNat + 1 - ((Od ++ Ly) ++ qW (zft m rs g Od Ly)).length) + if qW (zft m rs g Od Ly) = [] then 0 else 1) ?_ ⟨i + 1, Od ++ Ly, qW (zft m rs g Od Ly), _, _, ps ++ zft m rs g Od Ly, b, f, _, _, _, _, rfl, e'', hb, hf, ?_, Y', U', ?_, rfl⟩
    · rw [if_neg hl, List.length_append, qn]
      rw [List.length_append, qn] at hge'
      by_cases hz : qW (zft m rs g Od Ly) = []
      · rw [if_pos hz]; lia
      · rw [if_neg hz]
        have : (zft m rs g Od Ly).length ≠ 0 := fun h => hz (List.eq_nil_of_length_eq_zero (by rw [qn]; exact h))
        lia
    · rw [ht'', List.map_append]
      have h1 : ps.map (fun p => if brn rs g Od Ly p = true then nxt rs g Od Ly p else par p) = ps.map par := List.map_congr_left fun p hp => by
        have : (p : Int) ∈ Od ++ Ly := by rw [hps]; exact List.mem_cons_of_mem _ (yb.mpr hp)
        have : brn rs g Od Ly p = false := by unfold brn; simp only [this, decide_true, Bool.not_true, Bool.false_and]
        rw [this]; rfl
      have h2 : (zft m rs g Od Ly).map (fun p => if brn rs g Od Ly p = true then nxt rs g Od Ly p else par p) = (zft m rs g Od Ly).map (nxt rs g Od Ly) := List.map_congr_left fun p hp => by
        have := (List.mem_filter.mp hp).2
        rw [this]; rfl
      rw [h1, h2]
    · rw [hps]; simp [qW]
end
end Mine
end
section
open PySem
namespace Mine
open PyProof.Rows in
theorem zdL : ∀ (l acc : List Int), acc.Nodup → ((l.foldl step_dedup acc).length ≤ acc.length + l.length ∧ ((l.foldl step_dedup acc).length = acc.length + l.length ↔ (acc ++ l).Nodup))
  | [], acc, h => by simp [h]
  | x :: l, acc, h => by
    have e : step_dedup acc x = if x ∈ acc then acc else acc ++ [x] := by
      unfold step_dedup
      by_cases hx : x ∈ acc
      · simp [hx]
      · simp [hx]
    rw [List.foldl_cons, e]
    by_cases hx : x ∈ acc
    · rw [if_pos hx]
      obtain ⟨h1, h2⟩ := zdL l acc h
      refine ⟨by rw [List.length_cons]; exact leN (lin (r3 (↑((List.foldl step_dedup acc l).length)) (↑(acc.length)) (↑(l.length))) V0 (.add V1 (.add V2 N1)) [(0,1,V0,.add V1 V2)] rfl (leI h1)), ⟨fun h3 => ?_, fun h3 => ?_⟩⟩
      · rw [List.length_cons] at h3; exact lif (r3 (↑((List.foldl step_dedup acc l).length)) (↑(acc.length)) (↑(l.length))) [(0,1,V0,.add V1 V2),(2,-1,V0,.add V1 (.add V2 N1))] rfl (leI h1) (eqI h3)
      · rw [List.nodup_append] at h3
        exact absurd rfl (h3.2.2 x hx x (List.mem_cons_self ..))
    · rw [if_neg hx]
      have hn : (acc ++ [x]).Nodup := by
        rw [List.nodup_append]
        refine ⟨h, by simp, fun a ha b hb e => ?_⟩
        rw [List.mem_singleton.mp hb] at e
        exact hx (e ▸ ha)
      obtain ⟨h1, h2⟩ := zdL l (acc ++ [x]) hn
      rw [List.length_append, List.length_singleton] at h1 h2
      refine ⟨by rw [List.length_cons]; exact leN (lin (r3 (↑((List.foldl step_dedup (acc ++ [x]) l).length)) (↑(acc.length)) (↑(l.length))) V0 (.add V1 (.add V2 N1)) [(0,1,V0,.add (.add V1 N1) V2)] rfl (leI h1)), ?_⟩
      rw [List.length_cons, show acc.length + (l.length + 1) = acc.length + 1 + l.length by exact eqN (liq (r2 (↑(acc.length)) (↑(l.length))) (.add V0 (.add V1 N1)) (.add (.add V0 N1) V1) [] rfl), h2, List.append_assoc]
      rfl
theorem getD_map (ns : List Int) : (List.range ns.length).map (fun i => ns.getD i 0) = ns := by
  apply List.ext_getElem
  · simp
  · intro i h1 h2
    simp only [List.length_map, List.length_range] at h1
    simp [List.getD_eq_getElem?_getD, h1]
theorem zcG (ns : List Int) : zcU ns = ns.length ↔ ns.Nodup := by
  unfold zcU PyProof.Rows.firstMet
  rw [getD_map]
  have := (zdL ns [] List.nodup_nil).2
  simpa using this
noncomputable def tro (rs : Rd2) (t : List Int) : Rd2 := t.map fun x => rs.getD x.toNat (0, 0)
structure wl (m : Int) (rs : Rd2) (t : List Int) : Prop where
  len : (t.length : Int) = m
  rng : ∀ x ∈ t, 0 ≤ x ∧ x < rs.length
  nd : t.Nodup
  conn : ∀ q, 0 ≤ q → q < m → yD (tro rs t) m q
theorem tro_mem {rs : Rd2} {t : List Int} {p : Int × Int} (h : ∀ x ∈ t, 0 ≤ x ∧ x < rs.length) (hp : p ∈ tro rs t) : p ∈ rs := by
  obtain ⟨x, hx, e⟩ := List.mem_map.mp hp
  have := h x hx
  have hl : x.toNat < rs.length := by exact ltN (lit (r3 _ _ _) V0 V1 [(1,1,V2,V1),(2,1,V0,V2)] rfl this.2 (tnn (this.1)))
  rw [List.getD_eq_getElem?_getD, List.getElem?_eq_getElem hl] at e
  rw [← e]; exact List.getElem_mem hl
end Mine
end
section
open PySem
namespace Mine
theorem Prs.snoc {σ : zb} : ∀ {vs : List V} {rs : Rd2}, Prs σ vs rs → ∀ {a : Addr} {x y : Int}, σ a = some (.tup [.int x, .int y]) → Prs σ (vs ++ [.ref a]) (rs ++ [(x, y)]) := by
  intro vs rs h a x y ha
  induction h with
  | nil => exact .cons ha .nil
  | cons h1 _ ih => exact .cons h1 ih
section
variable {T : TC} {d : Nat} {σ : zb} {Q : V → zb → Prop} {P : Nat → zb → Prop}
structure NtFns (T : TC) : Prop where
  N : NetFns T
  need : FnW T "need_tree" 3 1 (wn T)
theorem zeC (F : NtFns T) {m : Int} {rs : Rd2} {r tp : Addr} {t : List Int} (n : Net m rs) (hr : z2 σ r rs) (ht : q0 σ tp t) (htl : t.length ≤ 100)
    (hq : ∀ σ', Ext σ σ' → wl m rs t → Q .none σ') (he : ∀ σ', Ext σ σ' → ¬ wl m rs t → P 4 σ') : zC T (d + 2) "need_tree" [.int m, .ref r, .ref tp] σ Q P := by
  have hm := n.m0; have hm' := n.m10
  obtain ⟨vs, hr1, hr2⟩ := id hr
  unfold q0 at ht
  refine F.need (d + 1) _ _ _ _ rfl ?_
  unfold wn
  rw [zE]
  simp only [qv, zdp, wv, zbF, zbn, zv, qd, qg, qc, zf, zg, isi, ht, zm, Bool.not_true, Bool.false_eq_true, if_false, qy, qu, ze]
  refine zW ht ?_
  rw [zQ]
  simp only [zd, Cmp.run, zm]
  by_cases hl : (t.length : Int) = m
  · have hl' : ((t.length : Int) != m) = false := by simp [hl]
    simp only [hl', Bool.false_eq_true, if_false, qx]
    rw [zE]
    simp only [qv, zdp, wv, zbF, zeo, jT, yk, zv, zf, zg, ze]
    refine qh ht ?_
    refine ⟨by rw [zQ]; unfold lim; exact leN (lin (r2 _ _) V0 (.num 1000000) [(0,1,V1,.num 10),(2,1,V0,V1)] rfl hm' hl), ?_⟩
    refine qE (fun i acc σ' => σ' = σ ∧ acc = ((t.take i).map fun x => V.bool (decide (0 ≤ x ∧ x ≤ (rs.length : Int) - 1)))) ⟨rfl, rfl⟩ ?_ ?_
    · rintro i v acc σ' K' hv ⟨rfl, rfl⟩ hK'
      refine ⟨.inl ht, ?_⟩
      obtain ⟨x, hx, rfl⟩ : ∃ x, t[i]? = some x ∧ v = .int x := by
        unfold zs at hv
        rw [List.getElem?_map] at hv
        cases hti : t[i]? with
        | none => rw [hti] at hv; cases hv
        | some x => rw [hti] at hv; exact ⟨x, rfl, (Option.some.inj hv).symm⟩
      simp only [qY, if_true, zq, zp, z5, zK, z4, zak, qu, ql, zv, zf, zg, ze]
      refine zW hr1 ?_
      refine jK (d := d) F.N.within (hK' _ _ ⟨rfl, ?_⟩)
      rw [List.take_add_one, hx, hr2.length]
      simp
    · rintro acc σ' ⟨rfl, rfl⟩
      refine ⟨.inl ht, zi fun c σ₁ hc e1 hcv => ?_⟩
      refine zH hcv ?_
      have ht1 := e1 _ _ ht
      refine ⟨t.map fun x => decide (0 ≤ x ∧ x ≤ (rs.length : Int) - 1), by rw [zQ, List.take_length, List.map_map]; rfl, ?_⟩
      by_cases hrng : ∀ x ∈ t, 0 ≤ x ∧ x < (rs.length : Int)
      · have hall : (t.map fun x => decide (0 ≤ x ∧ x ≤ (rs.length : Int) - 1)).all id = true := by
          rw [List.all_eq_true]
          intro b hb
          obtain ⟨x, hx, rfl⟩ := List.mem_map.mp hb
          have := hrng x hx
          exact decide_eq_true (by exact ⟨this.1, lin (r2 _ _) V0 (.sub V1 N1) [(1,1,V0,V1)] rfl this.2⟩)
        simp only [hall, zm, Bool.not_true, Bool.false_eq_true, if_false, qy, lenSetW_, zv, zf, zg, ze]
        refine jt ht1 ?_
        refine ⟨t, rfl, by omega, ?_⟩
        simp only [zd, Cmp.run, zm]
        by_cases hnd : t.Nodup
        · have hdc : ((zcU t : Int) != m) = false := by rw [(zcG t).mpr hnd]; simp [hl]
          simp only [hdc, Bool.false_eq_true, if_false, qx]
          simp only [qv, qy, qu, z5, zK, z4, jT, yk, zv, zf, zg, ze]
          refine qh ht1 ?_
          refine ⟨by rw [zQ]; unfold lim; exact leN (lin (r2 _ _) V0 (.num 1000000) [(0,1,V1,.num 10),(2,1,V0,V1)] rfl hm' hl), ?_⟩
          refine qE (fun i acc σ' => σ' = σ₁ ∧ Prs σ₁ acc (tro rs (t.take i))) ⟨rfl, .nil⟩ ?_ ?_
          · rintro i v acc σ' K' hv ⟨rfl, hacc⟩ hK'
            refine ⟨.inl ht1, ?_⟩
            obtain ⟨x, hx, rfl⟩ : ∃ x, t[i]? = some x ∧ v = .int x := by
              unfold zs at hv
              rw [List.getElem?_map] at hv
              cases hti : t[i]? with
              | none => rw [hti] at hv; cases hv
              | some x => rw [hti] at hv; exact ⟨x, rfl, (Option.some.inj hv).symm⟩
            have hxr := hrng x (List.mem_of_getElem? hx)
            refine ⟨hxr.1, ?_⟩
            refine ji (e1 _ _ hr1) ?_
            have hlv : x.toNat < vs.length := by rw [hr2.length]; exact ltN (lit (r3 _ _ _) V0 V1 [(1,1,V2,V1),(2,1,V0,V2)] rfl hxr.2 (tnn (hxr.1)))
            have hvg : vs[x.toNat]? = some vs[x.toNat] := List.getElem?_eq_getElem hlv
            refine zaV hvg ?_
            obtain ⟨a, u, w, hau, hrs, hta⟩ := hr2.get hvg
            rw [hau]
            refine hK' _ _ ⟨rfl, ?_⟩
            have : tro rs (t.take (i + 1)) = tro rs (t.take i) ++ [(u, w)] := by
              unfold tro
              rw [List.take_add_one, hx, List.map_append]
              simp [List.getD_eq_getElem?_getD, hrs]
            rw [this]
            exact hacc.snoc (e1 _ _ hta)
          · rintro acc σ' ⟨rfl, hacc⟩
            refine ⟨.inl ht1, zi fun c2 σ₂ hc2 e2 hcv2 => ?_⟩
            rw [zQ, List.take_length] at hacc
            have hR : z2 σ₂ c2 (tro rs t) := ⟨acc, hcv2, hacc.ext e2⟩
            refine zcJ (d := d) F.N.come hm hm' hR (fun p hp => by have := n.ends p (tro_mem hrng hp); exact ⟨this.1, this.2.1⟩) fun f σ₃ ks e3 hf hfd hco hcl => ?_
            simp only [ze, qV, ql, zv, zf, zg, zd]
            refine zaX hfd ?_
            rw [yy]
            have e03 := e1.trans (e2.trans e3)
            have hiff : (ks.length : Int) = m + 1 ↔ wl m rs t := by
              constructor
              · intro hk
                refine ⟨hl, hrng, hnd, fun q h0 hqm => hco.reach q ?_⟩
                apply Classical.byContradiction
                intro hn
                have := wB m.toNat (q :: ks) (List.nodup_cons.mpr ⟨hn, hco.nd⟩) fun x hx => by
                  rw [tnn hm]
                  rcases List.mem_cons.mp hx with h | h
                  · rw [h]; exact ⟨h0, Int.le_of_lt hqm⟩
                  · exact hco.rng x h
                rw [List.length_cons] at this
                exact lif (r3 (↑(ks.length)) _ (↑(m.toNat))) [(2,-1,V0,.add V1 N1),(0,1,.add V0 N1,.add V2 N1),(2,1,V2,V1)] rfl hk (leI this) (tnn (hm))
              · intro hok
                have h1 := hco.le
                have h2 := zbL m.toNat ks fun k h0 hk => by
                  by_cases e : k = m
                  · rw [e]; exact hco.pit
                  · exact hcl.all hco.pit (hok.conn k h0 (by exact (w9 (lin (r3 _ _ _) V0 V1 [(0,1,V0,V2),(2,1,V2,V1)] rfl hk (tnn (hm))) e)))
                exact Int.le_antisymm (h1) (lin (r3 _ (↑(ks.length)) (↑(m.toNat))) (.add V0 N1) V1 [(0,1,.add V2 N1,V1),(2,-1,V2,V0)] rfl (leI h2) (tnn (hm)))
            by_cases hk : (ks.length : Int) = m + 1
            · have : ((ks.length : Int) != m + 1) = false := by simp [hk]
              refine je this ?_
              exact hq _ e03 (hiff.mp hk)
            · have : ((ks.length : Int) != m + 1) = true := by simp [hk]
              refine qK this ?_
              exact he _ e03 fun h => hk (hiff.mpr h)
        · have hdc : ((zcU t : Int) != m) = true := by
            have : zcU t ≠ t.length := fun h => hnd ((zcG t).mp h)
            rw [bne_iff_ne]; exact (fun h_ => lif (r3 _ _ _) [(2,1,V0,V1),(2,-1,V2,V1),(1,1,V2,V0)] rfl hl h_ (ww (lin (r3 _ _ _) V0 V1 [(2,-1,V1,V2),(2,1,V0,V2)] rfl hl h_) this))
          refine qK hdc ?_
          exact he _ e1 fun h => hnd h.nd
      · have hall : (t.map fun x => decide (0 ≤ x ∧ x ≤ (rs.length : Int) - 1)).all id = false := by
          cases hh : (t.map fun x => decide (0 ≤ x ∧ x ≤ (rs.length : Int) - 1)).all id with
          | false => rfl
          | true =>
            rw [List.all_eq_true] at hh
            exact absurd (fun x hx => by have := of_decide_eq_true (hh _ (List.mem_map.mpr ⟨x, hx, rfl⟩)); exact ⟨this.1, lit (r2 _ _) V0 V1 [(0,1,V0,.sub V1 N1)] rfl this.2⟩) hrng
        simp only [hall, zm, Bool.not_false, if_true, zhh]
        exact he _ e1 fun h => hrng h.rng
  · have hl' : ((t.length : Int) != m) = true := by simp [hl]
    refine qK hl' ?_
    exact he _ Ext.refl fun h => hl h.len
end
end Mine
end
section
open PySem
namespace Mine
theorem InV.ints {σ : zb} {t : Addr} {ns : List Int} {x : Int} {k : Bool → Prop} (ht : σ t = some (.list (zs ns))) (hk : k (decide (x ∈ ns))) : InV σ (.int x) (.ref t) k := by
  refine ⟨.int x, ns.map .int, .int x, .inl (.list ht (zdb σ ns)), ?_, by rfl, by simp [PyData.depth], ?_⟩
  · clear ht hk; induction ns with
    | nil => rfl
    | cons a r ih => simp [PyData.canLayAll0, PyData.canLay0, ih]
  · have : ((ns.map PyData.int).any fun y => PyData.eqv y (.int x)) = decide (x ∈ ns) := by
      rw [Bool.eq_iff_iff, List.any_map, List.any_eq_true, decide_eq_true_eq]
      constructor
      · intro hI0a
        obtain ⟨y, hy, h⟩ := hI0a
        simp only [Function.comp, PyData.eqv] at h
        have : y = x := by simpa using h
        exact this ▸ hy
      · intro h; exact ⟨x, h, by simp [PyData.eqv]⟩
    rw [this]; exact hk
noncomputable def ziq (rs : Rd2) (t : List Int) (Ly : List Int) (p : Nat) : List Nat := (rt rs p (qS Ly)).filter fun j : Nat => decide ((j : Int) ∈ t)
noncomputable def brh (rs : Rd2) (t : List Int) (Od Ly : List Int) (p : Nat) : Bool := !decide ((p : Int) ∈ Od ++ Ly) && decide (0 < (ziq rs t Ly p).length)
noncomputable def nxh (rs : Rd2) (t : List Int) (Ly : List Int) (p : Nat) : Nat := (ziq rs t Ly p)[0]?.getD 0
noncomputable def ixh (rs : Rd2) (t : List Int) (Ly : List Int) (p : Nat) : Nat := (rt rs p (qS Ly)).idxOf (nxh rs t Ly p)
noncomputable def vlh (rs : Rd2) (t : List Int) (Od Ly : List Int) (p : Nat) : Int := zhm rs Od Ly p + ixh rs t Ly p
theorem ze3 {rs : Rd2} {t : List Int} {Od Ly : List Int} {p : Nat} (hb : brh rs t Od Ly p = true) : (ziq rs t Ly p)[0]? = some (nxh rs t Ly p) ∧ (rt rs p (qS Ly))[ixh rs t Ly p]? = some (nxh rs t Ly p) ∧ ((nxh rs t Ly p : Nat) : Int) ∈ t ∧ (p : Int) ∉ Od ∧ (p : Int) ∉ Ly := by
  unfold brh at hb
  simp only [Bool.and_eq_true, Bool.not_eq_true', decide_eq_false_iff_not, decide_eq_true_eq, List.mem_append, not_or] at hb
  have h1 : (ziq rs t Ly p)[0]? = some (nxh rs t Ly p) := by unfold nxh; rw [List.getElem?_eq_getElem hb.2]; rfl
  have h2 := List.mem_filter.mp (List.mem_of_getElem? h1)
  have h3 := List.idxOf_lt_length_of_mem h2.1
  refine ⟨h1, ?_, of_decide_eq_true h2.2, hb.1⟩
  unfold ixh
  rw [List.getElem?_eq_getElem h3, List.getElem_idxOf h3]
section
variable {T : TC} {d : Nat} {σ : zb} {Q : V → zb → Prop} {P : Nat → zb → Prop}
theorem heap_b1 (F : zhQ T) {m : Int} {rs : Rd2} {g : Nat → Int} {t : List Int} {σ₀ : zb} {r tp h o y b f : Addr} {Od Ly : List Int} {fs : List Nat} {p : Nat} {o9 o10 : Option V} {K : Out → zP → zb → Prop}
    (n : Net m rs) (hr : z2 σ₀ r rs) (ht : q0 σ₀ tp t) (hh0 : σ₀ h = none) (hf0 : σ₀ f = none) (tu : zgi σ₀ σ o y b Od Ly) (hh : L σ h m.toNat g) (hf : σ f = some (.dict (dk (qW fs)))) (h1 : f ≠ o) (h2 : f ≠ y) (h3 : f ≠ b) (hp' : (p : Int) < m) (hps : p ∉ fs) (hfl : fs.length ≤ 20)
    (hK : ∀ o9 o10 σ', zgi σ₀ σ' o y b Od Ly → L σ' h m.toNat (if brh rs t Od Ly p then upd g p (vlh rs t Od Ly p) else g) → σ' f = some (.dict (dk (qW (fs ++ if brh rs t Od Ly p then [p] else [])))) → K .next [some (.int m), some (.ref r), some (.ref tp), some (.ref h), some (.ref o), some (.ref y), some (.ref b), some (.ref f), some (.int p), o9, o10, none] σ') :
    za3 T (d + 3) [some (.int m), some (.ref r), some (.ref tp), some (.ref h), some (.ref o), some (.ref y), some (.ref b), some (.ref f), some (.int p), o9, o10, none] σ K P := by
  have hm := n.m0; have hm' := n.m10
  have hrl := n.len
  unfold za3
  refine y0 (d := d + 1) F.toRtFns (hr.ext tu.ext) tu.y fun l σ₁ hl e1 hlv => ?_
  have tu1 := tu.up e1
  simp only [zp, zq]
  rw [zE]
  simp only [qa, jT, yk, zv, zf, zg, ze]
  refine qh hlv ?_
  have hrtl : (rt rs p (qS Ly)).length ≤ rs.length := by
    unfold rt
    have := List.length_filter_le (fun i => (rs[i]?).any (tch (qS Ly) p)) (List.range rs.length)
    rwa [List.length_range] at this
  refine ⟨by rw [zQ, qn]; unfold lim; exact leN (lin (r2 _ _) V0 (.num 1000000) [(0,1,V1,.num 40),(0,1,V0,V1)] rfl (leI hrl) (leI hrtl)), ?_⟩
  refine qE (fun i acc σ' => σ' = σ₁ ∧ acc = zs (qW (((rt rs p (qS Ly)).take i).filter fun j : Nat => decide ((j : Int) ∈ t)))) ⟨rfl, rfl⟩ ?_ ?_
  · intro i v acc σ' K' hv hI6a hK'
    obtain ⟨rfl, rfl⟩ := hI6a
    refine ⟨.inl hlv, ?_⟩
    obtain ⟨j, hj, rfl⟩ : ∃ j : Nat, (rt rs p (qS Ly))[i]? = some j ∧ v = .int j := by
      unfold zs qW at hv
      rw [List.map_map, List.getElem?_map] at hv
      cases hti : (rt rs p (qS Ly))[i]? with
      | none => rw [hti] at hv; cases hv
      | some x => rw [hti] at hv; exact ⟨x, rfl, (Option.some.inj hv).symm⟩
    simp only [jy, inL_, zv, zp, zq, zf, zg]
    refine InV.ints (ns := t) (tu1.ext _ _ ht) ?_
    have hnext : ((rt rs p (qS Ly)).take (i + 1)).filter (fun j : Nat => decide ((j : Int) ∈ t)) = ((rt rs p (qS Ly)).take i).filter (fun j : Nat => decide ((j : Int) ∈ t)) ++ if (j : Int) ∈ t then [j] else [] := by
      rw [List.take_add_one, hj, List.filter_append]
      by_cases hjt : (j : Int) ∈ t <;> simp [hjt]
    by_cases hjt : (j : Int) ∈ t
    · refine qK (decide_eq_true hjt) ?_
      refine hK' _ _ ⟨rfl, ?_⟩
      rw [hnext, if_pos hjt]; simp [zs, qW]
    · refine je (decide_eq_false hjt) ?_
      refine hK' _ _ ⟨rfl, ?_⟩
      rw [hnext, if_neg hjt, List.append_nil]
  · rintro acc σ' ⟨rfl, rfl⟩
    rw [zQ, qn, List.take_length]
    refine ⟨.inl hlv, zi fun w σ₂ hw e2 hwv => ?_⟩
    have tu2 := tu1.up e2
    have hwv' : σ₂ w = some (.list (zs (qW (ziq rs t Ly p)))) := hwv
    simp only [zp, zq, qv, zan, ziw, zv, zf, zg, zd, ze]
    refine qC tu2.b ?_
    rw [wE]
    simp only [if_true, zm]
    have hh2 := (hh.ext e1).ext e2
    have hf2 := e2 _ _ (e1 _ _ hf)
    by_cases hin : (p : Int) ∈ Od ++ Ly
    · have hb : brh rs t Od Ly p = false := by unfold brh; simp [hin]
      rw [hb] at hK
      simp only [hin, decide_true, Bool.not_true, Bool.false_eq_true, if_false, zm, qx, List.append_nil] at hK ⊢
      exact hK _ _ _ tu2 hh2 hf2
    · simp only [hin, decide_false, Bool.not_false, if_true, qy, qu, ql, zv, zf, zg, zd, ze]
      refine zW hwv' ?_
      rw [zQ, qn]
      simp only [zd, Cmp.run, zm]
      by_cases hpos : 0 < (ziq rs t Ly p).length
      · have hb : brh rs t Od Ly p = true := by unfold brh; simp [hin, hpos]
        rw [hb] at hK
        obtain ⟨g1, g2, _⟩ := ze3 hb
        have hpos' : (0 : Int) < ((ziq rs t Ly p).length : Int) := by exact Int.ofNat_lt.mpr ‹_›
        refine qK (decide_eq_true hpos') ?_
        rw [zE]
        simp only [w7, qV, z5, zK, z4, zv, zf, zg]
        refine zb2 (d := d) F.toLoFns n hp' (hr.ext tu2.ext) tu2.o tu2.y fun σ₃ e3 => ?_
        have tu3 := tu2.up e3
        simp only [idxW_, qG, ql, zv, zf, zg, ze, zd]
        have hl3 := e3 _ _ (e2 _ _ hlv)
        rw [zbU hl3]
        refine ⟨trivial, by decide, ?_⟩
        refine ji (e3 _ _ hwv') ?_
        rw [show (0 : Int).toNat = 0 from rfl, yc (zaN (n := ((nxh rs t Ly p : Nat) : Int)) (by unfold qW; rw [List.getElem?_map, g1]; rfl))]
        refine zH hl3 ?_
        refine ⟨_, ixh rs t Ly p, rfl, by unfold qW; rw [List.getElem?_map, g2]; rfl, fun m' hm' hmm => ?_, ?_⟩
        · unfold qW at hmm
          rw [List.getElem?_map] at hmm
          cases hq' : (rt rs p (qS Ly))[m']? with
          | none => rw [hq'] at hmm; cases hmm
          | some z =>
            rw [hq'] at hmm
            have hz : z = nxh rs t Ly p := Int.ofNat.inj (Option.some.inj hmm)
            subst hz
            have a1 := List.getElem?_eq_some_iff.mp hq'
            have a2 := List.getElem?_eq_some_iff.mp g2
            have := (List.getElem_inj (h₀ := a1.1) (h₁ := a2.1) (zim _ _)).mp (a1.2.trans a2.2.symm)
            exact lif (r2 _ _) [(1,1,V0,V1),(2,-1,V0,V1)] rfl (ltI hm') (eqI this)
        · have hh3 := hh2.ext e3
          have hf3 := e3 _ _ hf2
          refine hh3.set (by exact nnI _) (by exact Mine.lt_toNat ‹_›) fun σ₄ hσ4 => ?_
          have hhl : σ₃ h = some (.list (zs (lst m.toNat g))) := hh3
          have tu4 : zgi σ₀ σ₄ o y b Od Ly := by rw [hσ4]; exact tu3.put hh0 (zay hhl tu3.o) (zay hhl tu3.y) (zay hhl tu3.b) _
          have hfh : f ≠ h := (zay hhl hf3).symm
          have hf4 : σ₄ f = some (.dict (dk (qW fs))) := by rw [hσ4, zS _ hfh]; exact hf3
          refine Eq.mpr (qZ hf4) ?_
          rw [yy, qn, wD]
          refine ⟨by unfold lim; exact ltN (lit (r1 _) V0 (.num 1000000) [(0,1,V0,.num 20)] rfl (leI hfl)), hK _ _ _ (tu4.put hf0 h1 h2 h3 _) ?_ ?_⟩
          · show put σ₄ f _ h = _
            rw [zS _ hfh.symm, hσ4, zy]
            rw [Int.toNat_natCast]; rfl
          · rw [zy]
            unfold wF
            have : (p : Int) ∉ qW fs := fun h => hps (yb.mp h)
            rw [if_neg this]
            simp [qW]
      · have hb : brh rs t Od Ly p = false := by unfold brh; simp [hpos]
        rw [hb] at hK
        have hpos' : ¬ (0 : Int) < ((ziq rs t Ly p).length : Int) := by exact (fun h_ => lif (r1 _) [(0,1,V0,N0),(1,1,N0,V0)] rfl (nuI hpos) h_)
        simp only [gt_iff_lt, hpos', decide_false, Bool.false_eq_true, if_false, qx, List.append_nil] at hK ⊢
        exact hK _ _ _ tu2 hh2 hf2
end
end Mine
end
section
open PySem
namespace Mine
noncomputable def brhs (m : Int) (rs : Rd2) (t : List Int) (Od Ly : List Int) : List Nat := (List.range m.toNat).filter (brh rs t Od Ly)
noncomputable def nwh (rs : Rd2) (t : List Int) (Od Ly : List Int) (g : Nat → Int) : Nat → Int := fun p => if brh rs t Od Ly p then vlh rs t Od Ly p else g p
noncomputable def Unj (m : Int) (rs : Rd2) (t : List Int) (Od Ly : List Int) : Prop := ∀ p : Nat, (p : Int) < m → (p : Int) ∉ Od → (p : Int) ∉ Ly → ∀ j ∈ rt rs p (qS Od), (j : Int) ∉ t
section
variable {m : Int} {rs : Rd2} {g : Nat → Int} {t : List Int}
theorem Lay.join (n : Net m rs) {i : Nat} {Od Ly : List Int} {lev : Int → Nat} {par : Nat → Nat} (Y : Lay m rs g i Od Ly lev par) (U : Unj m rs t Od Ly) (hpar : ∀ p : Nat, (p : Int) < m → lev p ≤ i → ((par p : Nat) : Int) ∈ t) :
    Lay m rs (nwh rs t Od Ly g) (i + 1) (Od ++ Ly) (qW (brhs m rs t Od Ly)) (zb0 i lev (brh rs t Od Ly)) (fun p => if brh rs t Od Ly p then nxh rs t Ly p else par p) ∧ Unj m rs t (Od ++ Ly) (qW (brhs m rs t Od Ly)) ∧
    (∀ p : Nat, (p : Int) < m → zb0 i lev (brh rs t Od Ly) p ≤ i + 1 → (((if brh rs t Od Ly p then nxh rs t Ly p else par p) : Nat) : Int) ∈ t) := by
  have hm := n.m0
  have hmem : ∀ p : Nat, p ∈ brhs m rs t Od Ly ↔ (p : Int) < m ∧ brh rs t Od Ly p = true := fun p => by
    unfold brhs; rw [List.mem_filter, List.mem_range]
    constructor
    · rintro ⟨a, b⟩; exact ⟨by exact Mine.qM ‹_› ‹_›, b⟩
    · rintro ⟨a, b⟩; exact ⟨by exact Mine.wG ‹_›, b⟩
  refine ⟨Y.step n (brh rs t Od Ly) (fun q => ?_) (zbe ?_) (fun p hp hb => ?_) (fun p _ hb => ?_) (fun p hp hb => ?_), fun p hp h1 h2 j hj => ?_, fun p hp hl => ?_⟩
  · constructor
    · intro h
      obtain ⟨p, hp, rfl⟩ := List.mem_map.mp h
      obtain ⟨a, b⟩ := (hmem p).mp hp
      exact ⟨p, a, rfl, b⟩
    · rintro ⟨p, a, rfl, b⟩
      exact yb.mpr ((hmem p).mpr ⟨a, b⟩)
  · exact List.nodup_range.sublist List.filter_sublist
  · exact (ze3 hb).2.2.2
  · unfold nwh; rw [hb]; rfl
  · refine ⟨ixh rs t Ly p, (ze3 hb).2.1, ?_⟩
    unfold nwh; rw [hb]; rfl
  · have hb : brh rs t Od Ly p = false := by
      cases h : brh rs t Od Ly p with
      | false => rfl
      | true => exact absurd (yb.mpr ((hmem p).mpr ⟨hp, h⟩)) h2
    unfold brh at hb
    simp only [h1, decide_false, Bool.not_false, Bool.true_and, decide_eq_false_iff_not] at hb
    have hnil : ziq rs t Ly p = [] := List.eq_nil_of_length_eq_zero (by exact eqN (Int.le_antisymm ((nuI hb)) ((nnI _))))
    obtain ⟨e, he, hpe, hs⟩ := zes.mp hj
    unfold qS at hs
    simp only [decide_eq_true_eq, List.mem_append] at hs
    rw [List.mem_append, not_or] at h1
    rcases hs with hs | hs
    · exact U p hp h1.1 h1.2 j (zes.mpr ⟨e, he, hpe, decide_eq_true hs⟩)
    · intro hjt
      have : j ∈ ziq rs t Ly p := List.mem_filter.mpr ⟨zes.mpr ⟨e, he, hpe, decide_eq_true hs⟩, decide_eq_true hjt⟩
      rw [hnil] at this; cases this
  · cases hb : brh rs t Od Ly p with
    | true => exact (ze3 hb).2.2.1
    | false =>
      refine hpar p hp ?_
      unfold zb0 at hl
      by_cases h : lev p ≤ i
      · exact h
      · rw [if_neg h, Int.toNat_natCast, hb] at hl
        simp at hl
theorem Lay.endh (n : Net m rs) (ok : wl m rs t) {i : Nat} {Od : List Int} {lev : Int → Nat} {par : Nat → Nat} (Y : Lay m rs g i Od [] lev par) (U : Unj m rs t Od []) (hO : m ∈ Od) (hpar : ∀ p : Nat, (p : Int) < m → lev p ≤ i → ((par p : Nat) : Int) ∈ t) : ∃ lev par, yX m rs g (fun j => (j : Int) ∈ t) lev par := by
  have hm := n.m0
  have hcl : ∀ a b, yD (tro rs t) a b → a ∈ Od → b ∈ Od := by
    have key : ∀ u w : Int, (u, w) ∈ tro rs t → (u ∈ Od ↔ w ∈ Od) := fun u w huw => by
      obtain ⟨x, hx, e⟩ := List.mem_map.mp huw
      have hxr := ok.rng x hx
      obtain ⟨j, rfl⟩ := Int.eq_ofNat_of_zero_le hxr.1
      have hj : j < rs.length := by exact ltN (hxr.2)
      have he : rs[j]? = some (u, w) := by
        rw [Int.toNat_natCast, List.getD_eq_getElem?_getD, List.getElem?_eq_getElem hj] at e
        rw [List.getElem?_eq_getElem hj]; exact congrArg some e
      have hen := n.ends (u, w) (List.mem_of_getElem? he)
      have side : ∀ a b : Int, oth (u, w) a = b → (u = a ∨ w = a) → 0 ≤ a → a ≤ m → b ∈ Od → a ∈ Od := fun a b ho hab h0 hm' hb => by
        apply Classical.byContradiction
        intro hna
        obtain ⟨p, rfl⟩ := Int.eq_ofNat_of_zero_le h0
        have hp : (p : Int) < m := by
          have : (p : Int) ≠ m := fun e => hna (e ▸ hO)
          exact (w9 (hm') this)
        exact U p hp hna List.not_mem_nil j (zes.mpr ⟨(u, w), he, hab, decide_eq_true (ho ▸ hb)⟩) hx
      have hne : u ≠ w := hen.2.2
      constructor
      · intro h
        exact side w u (by unfold oth; rw [if_pos rfl]) (.inr rfl) hen.2.1.1 hen.2.1.2 h
      · intro h
        exact side u w (by unfold oth; rw [if_neg (fun e => hne e.symm)]) (.inl rfl) hen.1.1 hen.1.2 h
    intro a b hr ha
    induction hr with
    | refl => exact ha
    | fwd _ hm ih => exact (key _ _ hm).mp ih
    | bwd _ hm ih => exact (key _ _ hm).mpr ih
  have hall : ∀ p : Nat, (p : Int) < m → (p : Int) ∈ Od := fun p hp => hcl m p (ok.conn p (nnI _) hp) hO
  have C : yX m rs g (fun j => ∃ p : Nat, (p : Int) < m ∧ par p = j) lev par := Y.corr hall fun j => Iff.rfl
  have hin : ∀ p : Nat, (p : Int) < m → ((par p : Nat) : Int) ∈ t := fun p hp => hpar p hp (Nat.le_of_lt ((Y.o p).mp (hall p hp)).2.2)
  refine ⟨lev, par, Y.corr hall fun j => ⟨fun hj => ?_, fun ⟨p, hp, e⟩ => e ▸ hin p hp⟩⟩
  apply Classical.byContradiction
  intro hno
  have hnd : (qW ((List.range m.toNat).map par)).Nodup := by
    refine zbe ?_
    rw [List.nodup_iff_pairwise_ne, List.pairwise_map]
    refine (List.nodup_range (n := m.toNat)).imp_of_mem fun {a b} ha hb hab e => hab (C.inj n ?_ ?_ e)
    · have := List.mem_range.mp ha; exact Mine.qM ‹_› ‹_›
    · have := List.mem_range.mp hb; exact Mine.qM ‹_› ‹_›
  have := zdE ((j : Int) :: qW ((List.range m.toNat).map par)) t (List.nodup_cons.mpr ⟨fun h => ?_, hnd⟩) fun x hx => ?_
  · rw [List.length_cons, qn, List.length_map, List.length_range] at this
    have := ok.len
    exact lif (r3 _ _ _) [(0,1,.add V0 N1,V1),(2,1,V1,V2),(2,-1,V0,V2)] rfl (leI ‹_›) this (tnn (hm))
  · obtain ⟨p, hp, e⟩ := List.mem_map.mp (yb.mp h)
    exact hno ⟨p, by have := List.mem_range.mp hp; exact Mine.qM ‹_› ‹_›, e⟩
  · rcases List.mem_cons.mp hx with h | h
    · rw [h]; exact hj
    · obtain ⟨k, hk, rfl⟩ := List.mem_map.mp h
      obtain ⟨p, hp, rfl⟩ := List.mem_map.mp hk
      exact hin p (by have := List.mem_range.mp hp; exact Mine.qM ‹_› ‹_›)
end
end Mine
end
section
open PySem
namespace Mine
section
variable {T : TC} {d : Nat} {σ : zb} {Q : V → zb → Prop} {P : Nat → zb → Prop}
theorem heap_b2 (F : zhQ T) {m : Int} {rs : Rd2} {g : Nat → Int} {t : List Int} {σ₀ : zb} {r tp h o y : Addr} {Od Ly : List Int} {i : Nat} {lev : Int → Nat} {par : Nat → Nat} {o6 o7 o8 o9 o10 : Option V} {K : Out → zP → zb → Prop}
    (n : Net m rs) (Y : Lay m rs g i Od Ly lev par) (hr : z2 σ₀ r rs) (ht : q0 σ₀ tp t) (hh0 : σ₀ h = none) (e0 : Ext σ₀ σ) (ho : σ o = some (.dict (dk Od))) (hy : σ y = some (.dict (dk Ly))) (hh : L σ h m.toNat g)
    (hK : ∀ b f o8 o9 o10 σ', Ext σ₀ σ' → σ' b = some (.dict (dk (Od ++ Ly))) → σ' f = some (.dict (dk (qW (brhs m rs t Od Ly)))) → L σ' h m.toNat (nwh rs t Od Ly g) → K .next [some (.int m), some (.ref r), some (.ref tp), some (.ref h), some (.ref b), some (.ref f), some (.ref b), some (.ref f), o8, o9, o10, none] σ') :
    za2 T (d + 3) [some (.int m), some (.ref r), some (.ref tp), some (.ref h), some (.ref o), some (.ref y), o6, o7, o8, o9, o10, none] σ K P := by
  have hm := n.m0; have hm' := n.m10
  have hlen := Y.ge n
  unfold za2
  refine zcD (d := d + 2) F.keys ho hy Y.nd (by exact leN (lin (r3 (↑((Od ++ Ly).length)) _ (↑(m.toNat))) V0 (.num 20) [(0,1,V1,.num 10),(0,1,V0,.add V2 N1),(2,1,V2,V1)] rfl hm' (leI hlen) (tnn (hm)))) fun b σ₁ hb e1 hbv => ?_
  simp only [zp, zq]
  rw [zE]
  simp only [qa, zdx]
  refine zi fun f σ₂ hf e2 hfv => ?_
  have e02 := e0.trans (e1.trans e2)
  have hf0 : σ₀ f = none := (e0.trans e1).none hf
  have h1 : f ≠ o := (qT (e1 _ _ ho) hf).symm
  have h2 : f ≠ y := (qT (e1 _ _ hy) hf).symm
  have h3 : f ≠ b := (qT hbv hf).symm
  refine zaM hm hm' (y8 rfl) (fun j ρ σ' => X3 fun o8 o9 o10 => A4 (ρ = [some (.int m), some (.ref r), some (.ref tp), some (.ref h), some (.ref o), some (.ref y), some (.ref b), some (.ref f), o8, o9, o10, none]) (zgi σ₀ σ' o y b Od Ly) (L σ' h m.toNat (fun q => if q < j then nwh rs t Od Ly g q else g q)) (σ' f = some (.dict (dk (qW ((List.range j).filter (brh rs t Od Ly)))))))
    ⟨_, _, _, rfl, ⟨e02, e2 _ _ (e1 _ _ ho), e2 _ _ (e1 _ _ hy), e2 _ _ hbv⟩, ((hh.ext e1).ext e2).cong fun q _ => by rw [if_neg (Nat.not_lt_zero q)], hfv⟩ ?_ ?_
  · intro j ρ σ' K' hj hI5a hK'
    obtain ⟨o8', o9', o10', rfl, tu, hh', hf'⟩ := hI5a
    have hfl : ((List.range j).filter (brh rs t Od Ly)).length ≤ j := by
      have := List.length_filter_le (brh rs t Od Ly) (List.range j)
      rw [List.length_range] at this; exact this
    refine heap_b1 (d := d) F n hr ht hh0 hf0 tu hh' hf' h1 h2 h3 hj (fun h => by have := List.mem_range.mp (List.mem_filter.mp h).1; exact Nat.lt_irrefl _ ‹_›) (by exact leN (lin (r3 _ _ _) V0 (.num 20) [(0,1,V1,.num 10),(1,1,V2,V1),(0,1,V0,V2)] rfl hm' hj (leI hfl))) fun o9'' o10'' σ'' tu'' hh'' hf'' => hK' _ _ ⟨_, _, _, rfl, tu'', ?_, ?_⟩
    · refine hh''.cong fun q hq => ?_
      by_cases hqj : q = j
      · subst hqj
        rw [if_pos (Nat.lt_succ_self q)]
        unfold nwh
        cases hb : brh rs t Od Ly q with
        | true => simp only [if_true]; rw [zc1]
        | false => simp
      · have e : (q < j + 1) = (q < j) := by apply propext; lia
        simp only [e]
        cases hb : brh rs t Od Ly j with
        | true => simp only [if_true]; rw [upd_ne _ _ hqj]
        | false => simp
    · rw [hf'', List.range_succ, List.filter_append]
      cases hb : brh rs t Od Ly j <;> simp [hb]
  · rintro ρ σ' ⟨o8', o9', o10', rfl, tu, hh', hf'⟩
    exact hK _ _ _ _ _ _ tu.ext tu.b hf' (hh'.cong fun q hq => by rw [if_pos hq])
structure HoFns (T : TC) : Prop where
  N : NtFns T
  R : zhQ T
  heap : FnW T "heap_of" 3 9 (zaJ T)
theorem wH (F : HoFns T) {m : Int} {rs : Rd2} {r tp : Addr} {t : List Int} (n : Net m rs) (hr : z2 σ r rs) (ht : q0 σ tp t) (htl : t.length ≤ 100)
    (hq : ∀ c g σ', σ c = none → Ext σ σ' → wl m rs t → (∃ lev par, yX m rs g (fun j => (j : Int) ∈ t) lev par) → L σ' c m.toNat g → Q (.ref c) σ') (he : ∀ σ', Ext σ σ' → ¬ wl m rs t → P 4 σ') : zC T (d + 5) "heap_of" [.int m, .ref r, .ref tp] σ Q P := by
  have hm := n.m0; have hm' := n.m10
  refine F.heap (d + 4) _ _ _ _ rfl ?_
  unfold zaJ
  rw [zE]
  simp only [wk, z5, zK, z4, zv, qd, qg, qc, zf, zg]
  refine zap (d := d + 1) F.N.N n hr fun σ₁ e1 => ?_
  refine zeC (d := d + 2) F.N n (hr.ext e1) (ht.ext e1) htl (fun σ₂ e2 ok => ?_) fun σ₂ e2 h => he σ₂ (e1.trans e2) h
  refine reps hm hm' (y8 rfl) fun h σ₃ hh e3 hhl => ?_
  simp only [zp, zq]
  have e02 := e1.trans e2
  unfold zdQ
  rw [zE]
  simp only [qa, zdx]
  refine zi fun o σ₄ ho e4 hov => ?_
  simp only [zp, zq]
  rw [zE]
  simp only [qa, zab, ql, zv, zf, zg, zd]
  refine zi fun y σ₅ hy e5 hyv => ?_
  have e35 := e4.trans e5
  have hr2 := hr.ext e02
  have ht2 := ht.ext e02
  refine zgo (fun k ρ σ' => X13 fun i Od Ly lev par g o y o6 o7 o8 o9 o10 => A10 (ρ = [some (.int m), some (.ref r), some (.ref tp), some (.ref h), some (.ref o), some (.ref y), o6, o7, o8, o9, o10, none]) (Ext σ₂ σ') (σ' o = some (.dict (dk Od))) (σ' y = some (.dict (dk Ly))) (L σ' h m.toNat g) (Lay m rs g i Od Ly lev par) (Unj m rs t Od Ly) ((∀ p : Nat, (p : Int) < m → lev p ≤ i → ((par p : Nat) : Int) ∈ t)) (m ∈ Od ++ Ly) (k = 2 * (m.toNat + 1 - (Od ++ Ly).length) + if Ly = [] then 0 else 1)) _
    ⟨0, [], [m], _, _, _, o, y, _, _, _, _, _, rfl, e3.trans e35, e5 _ _ hov, hyv, hhl.ext e35, Lay.start _ hm, fun p hp _ _ j hj => ?_, fun p hp hl => ?_, List.mem_singleton.mpr rfl, rfl⟩ ?_
  · obtain ⟨e, _, _, hs⟩ := zes.mp hj
    exact absurd (of_decide_eq_true hs) List.not_mem_nil
  · rw [if_neg (by exact (fun h_ => lif (r2 _ _) [(1,1,V0,V1),(2,-1,V0,V1)] rfl hp h_))] at hl; exact lif (r1 0) [(0,1,N1,N0)] rfl (leI hl)
  intro k ρ σ' K' hI4a hK'
  obtain ⟨i, Od, Ly, lev, par, g, o', y', o6, o7, o8, o9, o10, rfl, e', ho', hy', hh', Y, U, hpar, hmO, rfl⟩ := hI4a
  have hge := Y.ge n
  simp only [qy, qu, ql, zv, zf, zg, ze, zd]
  refine zaX hy' ?_
  rw [yy]
  by_cases hl : Ly = []
  · subst hl
    rw [List.append_nil] at hmO
    exact hq h g σ' (e02.none hh) (e02.trans e') ok (Y.endh n ok U hmO hpar) hh'
  · have hpos : (0 : Int) < (Ly.length : Int) := by
      have : Ly.length ≠ 0 := fun h => hl (List.eq_nil_of_length_eq_zero h)
      exact (ww ((nnI _)) (Ne.symm this))
    refine qK (decide_eq_true hpos) ?_
    refine heap_b2 (d := d + 1) F.R n Y hr2 ht2 hh e' ho' hy' hh' fun b f o8' o9' o10' σ'' e'' hb hf hh'' => ?_
    obtain ⟨Y', U', hpar'⟩ := Y.join n U hpar
    have hge' := Y'.ge n
    refine hK' _ _ (2 * (m.toNat + 1 - ((Od ++ Ly) ++ qW (brhs m rs t Od Ly)).length) + if qW (brhs m rs t Od Ly) = [] then 0 else 1) ?_ ⟨i + 1, Od ++ Ly, qW (brhs m rs t Od Ly), _, _, _, b, f, _, _, _, _, _, rfl, e'', hb, hf, hh'', Y', U', hpar', List.mem_append_left _ hmO, rfl⟩
    rw [if_neg hl, List.length_append, qn]
    rw [List.length_append, qn] at hge'
    by_cases hz : qW (brhs m rs t Od Ly) = []
    · rw [if_pos hz]; lia
    · rw [if_neg hz]
      have : (brhs m rs t Od Ly).length ≠ 0 := fun h => hz (List.eq_nil_of_length_eq_zero (by rw [qn]; exact h))
      lia
end
end Mine
end
section
open PySem
namespace Mine
structure Mt (m : Int) (R : Rd2) (ks : List Int) : Prop where
  nd : ks.Nodup
  pit : m ∈ ks
  rng : ∀ k ∈ ks, 0 ≤ k ∧ k ≤ m
  reach : ∀ k ∈ ks, yD R m k
noncomputable def mtS (ks : List Int) (e : Int × Int) : List Int := if e.1 ∈ ks ∨ e.2 ∈ ks then wF (wF ks e.1) e.2 else ks
theorem addk_sub {ks : List Int} {k x : Int} (h : x ∈ ks) : x ∈ wF ks k := (jr ks k x).mpr (.inl h)
theorem zaY {ks : List Int} {k : Int} : ks.length ≤ (wF ks k).length ∧ (k ∉ ks → ks.length < (wF ks k).length) := by
  unfold wF
  split
  · rename_i h; exact ⟨Nat.le_refl _, fun h' => absurd h h'⟩
  · rw [List.length_append, List.length_singleton]; exact ⟨by exact Nat.le_succ _, fun _ => by exact Nat.le_refl _⟩
theorem mtS_len (ks : List Int) (e : Int × Int) : ks.length ≤ (mtS ks e).length := by
  unfold mtS; split
  · exact Nat.le_trans zaY.1 zaY.1
  · exact Nat.le_refl _
theorem mtS_grow {ks : List Int} {e : Int × Int} (h : ¬ (e.1 ∈ ks ↔ e.2 ∈ ks)) : ks.length < (mtS ks e).length := by
  unfold mtS
  by_cases h1 : e.1 ∈ ks
  · have h2 : e.2 ∉ ks := fun h2 => h ⟨fun _ => h2, fun _ => h1⟩
    rw [if_pos (.inl h1)]
    refine Nat.lt_of_le_of_lt zaY.1 (zaY.2 ?_)
    rw [jr]
    rintro (h3 | h3)
    · exact h2 h3
    · exact h2 (h3 ▸ h1)
  · have h2 : e.2 ∈ ks := Classical.byContradiction fun h2 => h ⟨fun x => absurd x h1, fun x => absurd x h2⟩
    rw [if_pos (.inr h2)]
    exact Nat.lt_of_lt_of_le (zaY.2 h1) zaY.1
theorem zit {ks : List Int} {e : Int × Int} (h : e.1 ∈ ks ↔ e.2 ∈ ks) : mtS ks e = ks := by
  unfold mtS
  by_cases h1 : e.1 ∈ ks
  · have h2 := h.mp h1
    rw [if_pos (.inl h1)]
    unfold wF
    rw [if_pos h1, if_pos h2]
  · have h2 : e.2 ∉ ks := fun x => h1 (h.mpr x)
    rw [if_neg (by rintro (h | h); exact h1 h; exact h2 h)]
theorem Mt.step {m : Int} {R : Rd2} {ks : List Int} {e : Int × Int} (M : Mt m R ks) (he : e ∈ R) (hr : (0 ≤ e.1 ∧ e.1 ≤ m) ∧ (0 ≤ e.2 ∧ e.2 ≤ m)) : Mt m R (mtS ks e) := by
  unfold mtS
  split
  · rename_i h
    refine ⟨zbg (zbg M.nd _) _, addk_sub (addk_sub M.pit), fun k hk => ?_, fun k hk => ?_⟩
    · rcases (jr _ _ _).mp hk with hk | rfl
      · rcases (jr _ _ _).mp hk with hk | rfl
        · exact M.rng k hk
        · exact hr.1
      · exact hr.2
    · rcases (jr _ _ _).mp hk with hk | rfl
      · rcases (jr _ _ _).mp hk with hk | rfl
        · exact M.reach k hk
        · rcases h with h | h
          · exact M.reach _ h
          · exact (M.reach _ h).bwd he
      · rcases h with h | h
        · exact (M.reach _ h).fwd he
        · exact M.reach _ h
  · exact M
noncomputable def mtL (ks : List Int) (es : Rd2) : List Int := es.foldl mtS ks
theorem mtL_len (es : Rd2) : ∀ ks, ks.length ≤ (mtL ks es).length := by
  induction es with
  | nil => intro ks; exact Nat.le_refl _
  | cons e es ih => intro ks; exact Nat.le_trans (mtS_len ks e) (ih _)
theorem mtL_turn (es : Rd2) : ∀ ks, (mtL ks es = ks ∧ zcn es ks) ∨ ks.length < (mtL ks es).length := by
  induction es with
  | nil => intro ks; exact .inl ⟨rfl, fun p hp => by cases hp⟩
  | cons e es ih =>
    intro ks
    by_cases h : e.1 ∈ ks ↔ e.2 ∈ ks
    · have hs := zit h
      rcases ih ks with ⟨h1, h2⟩ | h1
      · refine .inl ⟨by show mtL (mtS ks e) es = ks; rw [hs, h1], fun p hp => ?_⟩
        rcases List.mem_cons.mp hp with rfl | hp
        · exact h
        · exact h2 p hp
      · refine .inr ?_
        show ks.length < (mtL (mtS ks e) es).length
        rw [hs]; exact h1
    · exact .inr (Nat.lt_of_lt_of_le (mtS_grow h) (mtL_len es _))
end Mine
end
section
open PySem
namespace Mine
theorem zs_at {t : List Int} {i : Nat} {v : V} (hv : (zs t)[i]? = some v) : ∃ x, t[i]? = some x ∧ v = .int x := by
  unfold zs at hv
  rw [List.getElem?_map] at hv
  cases hti : t[i]? with
  | none => rw [hti] at hv; cases hv
  | some x => rw [hti] at hv; exact ⟨x, rfl, (Option.some.inj hv).symm⟩
theorem tro_take {rs : Rd2} {t : List Int} {i : Nat} {x : Int} {e : Int × Int} (hx : t[i]? = some x) (he : rs[x.toNat]? = some e) : tro rs (t.take (i + 1)) = tro rs (t.take i) ++ [e] := by
  unfold tro
  rw [List.take_add_one, hx, List.map_append]
  simp [List.getD_eq_getElem?_getD, he]
theorem mtL_snoc (ks : List Int) (es : Rd2) (e : Int × Int) : mtL ks (es ++ [e]) = mtS (mtL ks es) e := by unfold mtL; rw [List.foldl_append]; rfl
theorem Mt.turn {m : Int} {R : Rd2} (hr : ∀ e ∈ R, (0 ≤ e.1 ∧ e.1 ≤ m) ∧ (0 ≤ e.2 ∧ e.2 ≤ m)) : ∀ (es : Rd2), (∀ e ∈ es, e ∈ R) → ∀ {ks : List Int}, Mt m R ks → Mt m R (mtL ks es)
  | [], _, _, M => M
  | e :: es, h, _, M => Mt.turn hr es (fun x hx => h x (List.mem_cons_of_mem _ hx)) (M.step (h e (List.mem_cons_self ..)) (hr e (h e (List.mem_cons_self ..))))
theorem Mt.le {m : Int} {R : Rd2} {ks : List Int} (M : Mt m R ks) : (ks.length : Int) ≤ m + 1 := by
  have h0 := M.rng m M.pit
  have := wB m.toNat ks M.nd fun k hk => by have := M.rng k hk; exact ⟨this.1, lin (r3 _ _ _) V0 V1 [(0,1,V0,V2),(2,-1,V1,V2)] rfl this.2 (tnn (h0.1))⟩
  exact lin (r3 (↑(ks.length)) _ (↑(m.toNat))) V0 (.add V1 N1) [(0,1,V0,.add V2 N1),(2,1,V2,V1)] rfl (leI this) (tnn (h0.1))
section
variable {T : TC} {d : Nat} {σ : zb} {Q : V → zb → Prop} {P : Nat → zb → Prop}
end
end Mine
end
section
open PySem
namespace Mine
theorem yX.congr {m : Int} {rs : Rd2} {g g' : Nat → Int} {τ lev par} (C : yX m rs g τ lev par) (h : ∀ p : Nat, (p : Int) < m → g p = g' p) : yX m rs g' τ lev par :=
  ⟨C.l0, C.lp, C.mem, fun p hp => let ⟨k, h1, h2⟩ := C.val p hp; ⟨k, h1, (h p hp).symm.trans h2⟩⟩
theorem IsTr.congr {m : Int} {rs : Rd2} {g g' : Nat → Int} {t : List Int} (h : IsTr m rs g t) (e : ∀ p : Nat, (p : Int) < m → g p = g' p) : IsTr m rs g' t :=
  ⟨h.len, h.up, h.rng, let ⟨lev, par, C⟩ := h.corr; ⟨lev, par, C.congr e⟩⟩
section
variable {T : TC} {d : Nat} {σ : zb} {Q : V → zb → Prop} {P : Nat → zb → Prop}
end
end Mine
end
section
open PySem
namespace Mine
section
variable {ρ : zP} {σ : zb} {Q : V → zb → Prop} {P : Nat → zb → Prop}
theorem subD_ (a i : EW) : subD a i ρ σ Q P = a ρ σ (fun va σ₁ => i ρ σ₁ (fun vi σ₂ => va.asRef fun p => vi.asInt fun k => jU σ₂ p fun kvs => ∃ v, zht kvs k = some v ∧ Q v σ₂) P) P := rfl
theorem listRange_ (a : EW) : zdG a ρ σ Q P = a ρ σ (fun v σ₁ => v.asInt fun n => jc n ∧ n ≤ 1000 ∧ yI (.list (rng 0 n.toNat)) σ₁ Q) P := rfl
theorem popW_ (a b : EW) : popW a b ρ σ Q P = a ρ σ (fun va σ₁ => va.asRef fun p => qz σ₁ p (fun _ => True) ∧ b ρ σ₁ (fun vb σ₂ => vb.asInt fun k => qz σ₂ p fun xs => 0 ≤ k ∧ ∃ v, xs[k.toNat]? = some v ∧ Q v (put σ₂ p (.list (xs.eraseIdx k.toNat)))) P) P := rfl
theorem revW_ (a : EW) : revW a ρ σ Q P = a ρ σ (fun v σ₁ => v.asRef fun p => zae σ₁ p fun xs => yI (.list xs.reverse) σ₁ Q) P := rfl
end
noncomputable def zhy (σ : zb) (v : V) : Prop := (∃ b, v = .bool b) ∨ v = .none ∨ (∃ x, v = .str x) ∨ ∃ a xs, v = .ref a ∧ σ a = some (.tup xs)
theorem zhy.ext {σ σ' : zb} {v : V} (h : zhy σ v) (e : Ext σ σ') : zhy σ' v := by
  rcases h with h | h | h | ⟨a, xs, rfl, ha⟩
  · exact .inl h
  · exact .inr (.inl h)
  · exact .inr (.inr (.inl h))
  · exact .inr (.inr (.inr ⟨a, xs, rfl, e _ _ ha⟩))
theorem zhy.not {σ : zb} {x : Int} (h : zhy σ (.int x)) : False := by
  rcases h with ⟨b, h⟩ | h | ⟨y, h⟩ | ⟨a, xs, h, _⟩ <;> cases h
noncomputable def Item (σ : zb) (v : V) : Prop := (∃ x, v = .int x) ∨ zhy σ v
theorem Item.ext {σ σ' : zb} {v : V} (h : Item σ v) (e : Ext σ σ') : Item σ' v := h.imp id fun h => h.ext e
noncomputable def wi (n : Int) : V → Bool | .int x => decide (0 ≤ x ∧ x ≤ n) | _ => false
theorem wi_odd {σ : zb} {v : V} {n : Int} (h : zhy σ v) : wi n v = false := by
  rcases h with ⟨b, rfl⟩ | rfl | ⟨y, rfl⟩ | ⟨a, xs, rfl, _⟩ <;> rfl
noncomputable def BadT (σ : zb) (tp : Addr) : Prop := (∃ xs, σ tp = some (.tup xs)) ∨ ∃ vs, σ tp = some (.list vs) ∧ vs.length ≤ 100 ∧ (∀ v ∈ vs, Item σ v) ∧ ∃ v ∈ vs, zhy σ v
theorem BadT.ext {σ σ' : zb} {tp : Addr} (h : BadT σ tp) (e : Ext σ σ') : BadT σ' tp := by
  rcases h with ⟨xs, h⟩ | ⟨vs, h, hl, hi, v, hv, ho⟩
  · exact .inl ⟨xs, e _ _ h⟩
  · exact .inr ⟨vs, e _ _ h, hl, fun v hv => (hi v hv).ext e, v, hv, ho.ext e⟩
theorem zdX {σ : zb} : ∀ {vs : List V}, (∀ v ∈ vs, Item σ v) → (∃ t, vs = zs t) ∨ ∃ v ∈ vs, zhy σ v
  | [], _ => .inl ⟨[], rfl⟩
  | v :: vs, h => by
    rcases h v (List.mem_cons_self ..) with ⟨x, rfl⟩ | ho
    · rcases zdX (vs := vs) fun u hu => h u (List.mem_cons_of_mem _ hu) with ⟨t, rfl⟩ | ⟨u, hu, ho⟩
      · exact .inl ⟨x :: t, rfl⟩
      · exact .inr ⟨u, List.mem_cons_of_mem _ hu, ho⟩
    · exact .inr ⟨v, List.mem_cons_self .., ho⟩
section
variable {T : TC} {d : Nat} {σ : zb} {Q : V → zb → Prop} {P : Nat → zb → Prop}
theorem zf7 (h : FnW T "is_within" 3 0 (qI T)) {v : V} {lo hi : Int} (hv : zhy σ v) (hq : Q (.bool false) σ) : zC T (d + 1) "is_within" [v, .int lo, .int hi] σ Q P := by
  refine h d _ _ _ _ rfl ?_
  rcases hv with ⟨b, rfl⟩ | rfl | ⟨x, rfl⟩ | ⟨a, xs, rfl, ha⟩
  · simpa [qI, isi] using hq
  · simpa [qI, isi] using hq
  · simpa [qI, isi] using hq
  · simpa [qI, isi, ha] using hq
theorem zf4 (h : FnW T "_law_whole" 1 0 (qH T)) {v : V} (hv : zhy σ v) (hq : Q (.bool false) σ) : zC T (d + 1) "_law_whole" [v] σ Q P := by
  refine h d _ _ _ _ rfl ?_
  rcases hv with ⟨b, rfl⟩ | rfl | ⟨x, rfl⟩ | ⟨a, xs, rfl, ha⟩
  · simpa [qH, isi] using hq
  · simpa [qH, isi] using hq
  · simpa [qH, isi] using hq
  · simpa [qH, isi, ha] using hq
theorem zf2 (F : NtFns T) {m : Int} {rs : Rd2} {r tp : Addr} (hr : z2 σ r rs) (h : BadT σ tp) (he : ∀ σ', Ext σ σ' → P 4 σ') : zC T (d + 2) "need_tree" [.int m, .ref r, .ref tp] σ Q P := by
  obtain ⟨rv, hr1, hr2⟩ := id hr
  refine F.need (d + 1) _ _ _ _ rfl ?_
  unfold wn
  rw [zE]
  rcases h with ⟨xs, ht⟩ | ⟨vs, ht, hl, hi, w, hw, hodd⟩
  · simp only [qv, zdp, wv, zbF, zbn, zv, qd, qg, qc, zf, zg, isi, ht, zm, Bool.not_false, if_true, zhh]
    exact he _ Ext.refl
  · simp only [qv, zdp, wv, zbF, zbn, zv, qd, qg, qc, zf, zg, isi, ht, zm, Bool.not_true, Bool.false_eq_true, if_false, qy, qu, ze]
    refine zW ht ?_
    simp only [zd, Cmp.run, zm]
    by_cases hlm : (vs.length : Int) = m
    · have hl' : ((vs.length : Int) != m) = false := by simp [hlm]
      simp only [hl', Bool.false_eq_true, if_false, qx]
      rw [zE]
      simp only [qv, zdp, wv, zbF, zeo, jT, yk, zv, zf, zg, ze]
      refine qh ht ?_
      refine ⟨by unfold lim; exact leN (lin (r1 _) V0 (.num 1000000) [(0,1,V0,.num 100)] rfl (leI hl)), ?_⟩
      refine qE (fun i acc σ' => σ' = σ ∧ acc = (vs.take i).map fun v => V.bool (wi ((rs.length : Int) - 1) v)) ⟨rfl, rfl⟩ ?_ ?_
      · intro i v acc σ' K' hv hI6a hK'
        obtain ⟨rfl, rfl⟩ := hI6a
        refine ⟨.inl ht, ?_⟩
        simp only [qY, if_true, zq, zp, z5, zK, z4, zak, qu, ql, zv, zf, zg, ze]
        refine zW hr1 ?_
        rcases hi v (List.mem_of_getElem? hv) with ⟨x, rfl⟩ | ho
        · refine jK (d := d) F.N.within (hK' _ _ ⟨rfl, ?_⟩)
          rw [List.take_add_one, hv, hr2.length]
          simp [wi]
        · refine zf7 (d := d) F.N.within ho (hK' _ _ ⟨rfl, ?_⟩)
          rw [List.take_add_one, hv]
          simp [wi_odd ho]
      · rintro acc σ' ⟨rfl, rfl⟩
        refine ⟨.inl ht, zi fun c σ₁ hc e1 hcv => ?_⟩
        refine zH hcv ?_
        refine ⟨vs.map (wi ((rs.length : Int) - 1)), by rw [List.take_length, List.map_map]; rfl, ?_⟩
        have hall : (vs.map (wi ((rs.length : Int) - 1))).all id = false := by
          cases hh : (vs.map (wi ((rs.length : Int) - 1))).all id with
          | false => rfl
          | true =>
            rw [List.all_eq_true] at hh
            have := hh _ (List.mem_map.mpr ⟨w, hw, rfl⟩)
            rw [wi_odd hodd] at this; cases this
        simp only [hall, zm, Bool.not_false, if_true, zhh]
        exact he _ e1
    · have hl' : ((vs.length : Int) != m) = true := by simp [hlm]
      refine qK hl' ?_
      exact he _ Ext.refl
theorem zh9 (F : HoFns T) {m : Int} {rs : Rd2} {r tp : Addr} (n : Net m rs) (hr : z2 σ r rs) (h : BadT σ tp) (he : ∀ σ', Ext σ σ' → P 4 σ') : zC T (d + 5) "heap_of" [.int m, .ref r, .ref tp] σ Q P := by
  refine F.heap (d + 4) _ _ _ _ rfl ?_
  unfold zaJ
  refine zap (d := d + 1) F.N.N n hr fun σ₁ e1 => ?_
  exact zf2 (d := d + 2) F.N (hr.ext e1) (h.ext e1) fun σ₂ e2 => he σ₂ (e1.trans e2)
theorem zdU {m : Int} {r tp c : Addr} {K : Out → zP → zb → Prop} (hc : σ c = none) (hk : ∀ ρ σ', Ext σ σ' → K (.ret (.bool true)) ρ σ') : jM T d [some (.int m), some (.ref r), some (.ref tp), some (.ref c)] (put σ c (.exc 4)) K P := by
  unfold jM
  refine ⟨4, by decide, zy _ _ _, ?_⟩
  exact ⟨4, by decide, zy _ _ _, hk _ _ (Ext.refl.new hc _)⟩
theorem zeB (F : HoFns T) (h' : FnW T "_law_refused" 3 1 (jv T)) {m : Int} {rs : Rd2} {r tp : Addr} (n : Net m rs) (hr : z2 σ r rs) (h : BadT σ tp ∨ ∃ t, q0 σ tp t ∧ t.length ≤ 100 ∧ ¬ wl m rs t)
    (hq : ∀ σ', Ext σ σ' → Q (.bool true) σ') : zC T (d + 6) "_law_refused" [.int m, .ref r, .ref tp] σ Q P := by
  refine h' (d + 5) _ _ _ _ rfl ?_
  unfold jv
  rcases h with h | ⟨t, ht, htl, hn⟩
  · exact zh9 (d := d) F n hr h fun σ₁ e1 => ⟨by decide, fun c hc => zdU hc fun ρ σ' e => hq _ (e1.trans e)⟩
  · exact wH (d := d) F n hr ht htl (fun c g σ' _ _ ok _ _ => absurd ok hn) fun σ₁ e1 _ => ⟨by decide, fun c hc => zdU hc fun ρ σ' e => hq _ (e1.trans e)⟩
end
end Mine
end
section
open PySem
namespace Mine
section
variable {T : TC} {d : Nat} {σ : zb} {Q : V → zb → Prop} {P : Nat → zb → Prop}
theorem met_b1 {m : Int} {rs : Rd2} {σ₀ : zb} {r tp me : Addr} {ks : List Int} {x : Int} {e : Int × Int} {o4 o6 o7 : Option V} {K : Out → zP → zb → Prop} (hr : z2 σ₀ r rs) (e0 : Ext σ₀ σ) (hme0 : σ₀ me = none) (hme : σ me = some (.dict (dk ks))) (hx0 : 0 ≤ x) (he : rs[x.toNat]? = some e) (hks : ks.length ≤ 50)
    (hK : ∀ o6 o7 σ', Ext σ₀ σ' → σ' me = some (.dict (dk (mtS ks e))) → K .next [some (.int m), some (.ref r), some (.ref tp), some (.ref me), o4, some (.int x), o6, o7] σ') :
    za1 T d [some (.int m), some (.ref r), some (.ref tp), some (.ref me), o4, some (.int x), o6, o7] σ K P := by
  obtain ⟨vs, hr1, hr2⟩ := hr
  unfold za1
  rw [zE]
  simp only [zcW, qG, zv, zf, zg, ze, zd]
  refine ⟨hx0, ?_⟩
  refine ji (e0 _ _ hr1) ?_
  have hlv : x.toNat < vs.length := by rw [hr2.length]; exact (List.getElem?_eq_some_iff.mp he).1
  have hvg : vs[x.toNat]? = some vs[x.toNat] := List.getElem?_eq_getElem hlv
  refine zaV hvg ?_
  obtain ⟨a, u, w, hau, hrs, hta⟩ := hr2.get hvg
  rw [he] at hrs
  cases hrs
  rw [hau]
  refine zaE (e0 _ _ hta) ?_
  refine ⟨rfl, ?_⟩
  simp only [yU, yT, zp, zq, qv, zdp, ziw, zv, zf, zg, zd, ze]
  refine qC hme ?_
  rw [wE]
  have yes : (u ∈ ks ∨ w ∈ ks) → (zA (zax (loc 3) (loc 6) (val (.bool true))) (zax (loc 3) (loc 7) (val (.bool true)))) [some (.int m), some (.ref r), some (.ref tp), some (.ref me), o4, some (.int x), some (.int u), some (.int w)] σ K P := fun h => by
    rw [zE]
    simp only [w7, ql, zv, zf, zg, ze, zd]
    refine Eq.mpr (qZ hme) ?_
    rw [wD, yy]
    refine ⟨by unfold lim; exact ltN (lit (r1 _) V0 (.num 1000000) [(0,1,V0,.num 50)] rfl (leI hks)), ?_⟩
    refine Eq.mpr (qZ (zy _ _ _)) ?_
    rw [wD, yy]
    refine ⟨?_, hK _ _ _ ((e0.put hme0 _).put hme0 _) ?_⟩
    · have : (wF ks u).length ≤ ks.length + 1 := by unfold wF; split <;> simp
      unfold lim; exact ltN (lit (r2 _ _) V0 (.num 1000000) [(0,1,V1,.num 50),(0,1,V0,.add V1 N1)] rfl (leI hks) (leI this))
    · rw [zy]
      unfold mtS
      rw [if_pos h]
  by_cases h1 : u ∈ ks
  · refine qK (decide_eq_true h1) ?_
    exact yes (.inl h1)
  · refine je (decide_eq_false h1) ?_
    refine qC hme ?_
    rw [wE]
    by_cases h2 : w ∈ ks
    · refine qK (decide_eq_true h2) ?_
      exact yes (.inr h2)
    · refine je (decide_eq_false h2) ?_
      refine hK _ _ _ e0 ?_
      unfold mtS
      rw [if_neg (by rintro (h | h); exact h1 h; exact h2 h)]
      exact hme
theorem ze5 {ks : List Int} : ∀ es : Rd2, zcn es ks → mtL ks es = ks
  | [], _ => rfl
  | e :: es, h => by
    show mtL (mtS ks e) es = ks
    rw [zit (h e (List.mem_cons_self ..))]
    exact ze5 es fun p hp => h p (List.mem_cons_of_mem _ hp)
theorem met_spec (h : FnW T "_law_met" 3 5 (zaG T)) {m : Int} {rs : Rd2} {r tp : Addr} {t : List Int} (n : Net m rs) (hr : z2 σ r rs) (ht : q0 σ tp t) (hrng : ∀ x ∈ t, 0 ≤ x ∧ x < rs.length)
    (hq : ∀ c ks σ', Ext σ σ' → σ' c = some (.dict (dk ks)) → ((ks.length : Int) = m + 1 ↔ ∀ q, 0 ≤ q → q < m → yD (tro rs t) m q) → Q (.ref c) σ') : zC T (d + 1) "_law_met" [.int m, .ref r, .ref tp] σ Q P := by
  have hm := n.m0; have hm' := n.m10
  have htz : σ tp = some (.list (zs t)) := ht
  refine h d _ _ _ _ rfl ?_
  unfold zaG
  rw [zE]
  simp only [qa, zab, ql, zv, qd, qg, qc, zf, zg, zd]
  refine zi fun me σ₁ hme e1 hmev => ?_
  have hends : ∀ e ∈ tro rs t, (0 ≤ e.1 ∧ e.1 ≤ m) ∧ (0 ≤ e.2 ∧ e.2 ≤ m) := fun e he => by have := n.ends e (tro_mem hrng he); exact ⟨this.1, this.2.1⟩
  refine zaM hm hm' (y8 rfl) (fun i ρ σ'' => X5 fun ks o4 o5 o6 o7 => A5 (ρ = [some (.int m), some (.ref r), some (.ref tp), some (.ref me), o4, o5, o6, o7]) (Ext σ σ'') (σ'' me = some (.dict (dk ks))) (Mt m (tro rs t) ks) ((i + 1 ≤ ks.length ∨ zcn (tro rs t) ks))) ⟨[m], _, _, _, _, rfl, e1, hmev, ⟨by simp, List.mem_singleton.mpr rfl, fun k hk => by rw [List.mem_singleton.mp hk]; exact ⟨hm, Int.le_refl _⟩, fun k hk => by rw [List.mem_singleton.mp hk]; exact .refl⟩, .inl (Nat.le_refl _)⟩ ?_ ?_
  · intro i ρ σ'' K' hi hI5a hK'
    obtain ⟨ks, o4, o5, o6, o7, rfl, e2, hks, M, hc⟩ := hI5a
    unfold zcA
    simp only [zp, zq, j5, yk, zv, zf, zg, ze]
    refine qh (e2 _ _ htz) ?_
    refine zU (fun j ρ σ₃ => X3 fun o5 o6 o7 => A3 (ρ = [some (.int m), some (.ref r), some (.ref tp), some (.ref me), some (.int i), o5, o6, o7]) (Ext σ σ₃) (σ₃ me = some (.dict (dk (mtL ks (tro rs (t.take j))))))) ⟨_, _, _, rfl, e2, hks⟩ ?_ ?_
    · intro j v ρ σ₃ K'' hv hI6b hK''
      obtain ⟨o6', o7', o8', rfl, e3, hme3⟩ := hI6b
      obtain ⟨x, hx, rfl⟩ := zs_at hv
      have hxr := hrng x (List.mem_of_getElem? hx)
      have hxl : x.toNat < rs.length := by exact ltN (lit (r3 _ _ _) V0 V1 [(1,1,V2,V1),(2,1,V0,V2)] rfl hxr.2 (tnn (hxr.1)))
      have hxe : rs[x.toNat]? = some rs[x.toNat] := List.getElem?_eq_getElem hxl
      refine ⟨.inl (e3 _ _ htz), ?_⟩
      have Mj : Mt m (tro rs t) (mtL ks (tro rs (t.take j))) := M.turn hends _ fun e he => by
        obtain ⟨y, hy, e'⟩ := List.mem_map.mp he
        exact List.mem_map.mpr ⟨y, List.mem_of_mem_take hy, e'⟩
      have hle := Mj.le
      simp only [qB, zp, zq]
      refine met_b1 hr e3 hme hme3 hxr.1 hxe (by exact leN (lin (r2 _ _) V0 (.num 50) [(0,1,V1,.num 10),(0,1,V0,.add V1 N1)] rfl hm' hle)) fun o7 o8 σ₄ e4 hme4 => hK'' .next _ _ ⟨_, _, _, rfl, e4, ?_⟩
      rw [tro_take hx hxe, mtL_snoc]; exact hme4
    · rintro ρ σ₃ ⟨o6', o7', o8', rfl, e3, hme3⟩
      refine ⟨.inl (e3 _ _ htz), hK' _ _ ⟨_, _, _, _, _, rfl, e3, hme3, ?_, ?_⟩⟩
      · rw [zQ, List.take_length]; exact M.turn hends _ fun e he => he
      · rw [zQ, List.take_length]
        rcases mtL_turn (tro rs t) ks with ⟨h1, h2⟩ | h1
        · rw [h1]; exact .inr h2
        · rcases hc with h3 | h3
          · exact .inl (by exact Nat.lt_of_le_of_lt ‹_› ‹_›)
          · rw [ze5 _ h3]; exact .inr h3
  · rintro ρ σ'' ⟨ks, o4, o5, o6, o7, rfl, e2, hks, M, hc⟩
    refine hq _ ks _ e2 hks ⟨fun hk q h0 hqm => M.reach q ?_, fun hok => ?_⟩
    · apply Classical.byContradiction
      intro hn
      have := wB m.toNat (q :: ks) (List.nodup_cons.mpr ⟨hn, M.nd⟩) fun x hx => by
        rw [tnn hm]
        rcases List.mem_cons.mp hx with h | h
        · rw [h]; exact ⟨h0, Int.le_of_lt hqm⟩
        · exact M.rng x h
      rw [List.length_cons] at this
      exact lif (r3 (↑(ks.length)) _ (↑(m.toNat))) [(2,-1,V0,.add V1 N1),(0,1,.add V0 N1,.add V2 N1),(2,1,V2,V1)] rfl hk (leI this) (tnn (hm))
    · have hle := M.le
      have hge : m + 1 ≤ (ks.length : Int) := by
        rcases hc with h1 | h1
        · exact lin (r3 _ (↑(ks.length)) (↑(m.toNat))) (.add V0 N1) V1 [(0,1,.add V2 N1,V1),(2,-1,V2,V0)] rfl (leI h1) (tnn (hm))
        · have := zbL m.toNat ks fun k h0 hk => by
            by_cases e : k = m
            · rw [e]; exact M.pit
            · exact h1.all M.pit (hok k h0 (by exact (w9 (lin (r3 _ _ _) V0 V1 [(0,1,V0,V2),(2,1,V2,V1)] rfl hk (tnn (hm))) e)))
          exact lin (r3 _ (↑(ks.length)) (↑(m.toNat))) (.add V0 N1) V1 [(0,1,.add V2 N1,V1),(2,-1,V2,V0)] rfl (leI this) (tnn (hm))
      exact Int.le_antisymm (hle) (hge)
structure GdFns (T : TC) : Prop where
  whole : FnW T "_law_whole" 1 0 (qH T)
  met : FnW T "_law_met" 3 5 (zaG T)
  good : FnW T "_law_good" 3 1 (wW T)
theorem good_tup (F : GdFns T) {m : Int} {r tp : Addr} {xs : List V} (ht : σ tp = some (.tup xs)) (hq : Q (.bool false) σ) : zC T (d + 2) "_law_good" [.int m, .ref r, .ref tp] σ Q P := by
  refine F.good (d + 1) _ _ _ _ rfl ?_
  unfold wW
  rw [zE]
  simp only [qv, zdp, wv, zbF, zbn, zv, qd, qg, qc, zf, zg, isi, ht, zm, Bool.not_false, if_true, yn, ql]
  exact hq
theorem zs_snoc (t : List Int) (x : Int) : zs (t ++ [x]) = zs t ++ [.int x] := by unfold zs; rw [List.map_append]; rfl
theorem zs_inj {t t' : List Int} (h : zs t = zs t') : t = t' := by
  unfold zs at h
  exact List.map_inj_right (fun _ _ h => by cases h; rfl) |>.mp h
theorem good_spec (F : GdFns T) {m : Int} {rs : Rd2} {r tp : Addr} {vs : List V} (n : Net m rs) (hr : z2 σ r rs) (ht : σ tp = some (.list vs)) (hi : ∀ v ∈ vs, Item σ v)
    (hq : ∀ b σ', Ext σ σ' → (b = true ↔ ∃ t, vs = zs t ∧ wl m rs t) → Q (.bool b) σ') : zC T (d + 2) "_law_good" [.int m, .ref r, .ref tp] σ Q P := by
  have hm := n.m0; have hm' := n.m10
  obtain ⟨rv, hr1, hr2⟩ := id hr
  refine F.good (d + 1) _ _ _ _ rfl ?_
  unfold wW
  rw [zE]
  simp only [qv, zdp, wv, zbF, zbn, zv, qd, qg, qc, zf, zg, isi, ht, zm, Bool.not_true, Bool.false_eq_true, if_false, qy, qu, ze]
  refine zW ht ?_
  simp only [zd, Cmp.run, zm]
  have no : ∀ σ', Ext σ σ' → (∀ t, vs = zs t → wl m rs t → False) → Q (.bool false) σ' := fun σ' e hn => hq false σ' e ⟨fun h => by (cases h), fun ⟨t, h1, h2⟩ => (hn t h1 h2).elim⟩
  by_cases hlm : (vs.length : Int) = m
  · have hl' : ((vs.length : Int) != m) = false := by simp [hlm]
    simp only [hl', Bool.false_eq_true, if_false, qx]
    rw [zE, j5, jS]
    refine ⟨qL hm hm', ?_⟩
    refine zU (fun i ρ σ' => X2 fun o3 t => A5 (ρ = [some (.int m), some (.ref r), some (.ref tp), o3]) (Ext σ σ') (vs.take i = zs t) ((∀ x ∈ t, 0 ≤ x ∧ x < rs.length)) (t.Nodup)) ⟨_, [], rfl, Ext.refl, rfl, fun x hx => by (cases hx), List.nodup_nil⟩ ?_ ?_
    · intro i v ρ σ' K' hv hI6a hK'
      obtain ⟨o3, t, rfl, e', htk, hrng, hnd⟩ := hI6a
      obtain ⟨hil, rfl⟩ := qQ hv
      rw [Int.zero_add]
      refine ⟨trivial, ?_⟩
      have hvl : i < vs.length := by exact ltN (lit (r3 _ _ _) V0 V1 [(2,-1,V1,V2),(1,1,V0,V2)] rfl hlm (Int.lt_toNat.mp hil))
      have hvi : vs[i]? = some vs[i] := List.getElem?_eq_getElem hvl
      have hit := hi vs[i] (List.getElem_mem hvl)
      generalize vs[i] = w at hvi hit
      have tsub : ∀ {σ'' : zb} {k : V → Prop}, Ext σ σ'' → k w → (0 ≤ (i : Int) ∧ yj σ'' tp fun xs => jJ xs (i : Int).toNat k) := fun {σ'' k} e hk => at_of (e _ _ ht) (nnI _) (by rw [Int.toNat_natCast]; exact hvi) hk
      have full : ∀ t', vs = zs t' → ∃ x, w = .int x ∧ t'[i]? = some x := fun t' h => by
        rw [h] at hvi
        obtain ⟨x, h1, h2⟩ := zs_at hvi
        exact ⟨x, h2, h1⟩
      unfold zbW
      simp only [qB, zp, zq]
      rw [zE]
      simp only [qv, zdp, wv, zbF, z5, zK, z4, qG, zv, zf, zg, ze, zd]
      refine tsub e' ?_
      rcases hit with ⟨x, rfl⟩ | ho
      · refine zb3 (d := d) F.whole ?_
        simp only [zm, Bool.not_true, Bool.false_eq_true, if_false, wv, zce, ql, qG, qu, zv, zf, zg, ze, zd]
        refine tsub e' ?_
        simp only [zd, Cmp.run]
        by_cases hx0 : 0 ≤ x
        · refine qK (decide_eq_true hx0) ?_
          refine zW (e' _ _ hr1) ?_
          rw [hr2.length]
          by_cases hx1 : x < rs.length
          · simp only [zd, hx1, decide_true, zm, Bool.not_true, Bool.false_eq_true, if_false, qx]
            simp only [qv, inL_, qG, zcO, zv, zf, zg, ze, zd]
            refine tsub e' ?_
            refine ⟨nnI _, ?_⟩
            refine jt (e' _ _ ht) ?_
            rw [Int.toNat_natCast, htk]
            refine zi fun c σ₁ hc e1 hcv => InV.ints hcv ?_
            by_cases hin : x ∈ t
            · refine qK (decide_eq_true hin) ?_
              refine hK' (.ret _) _ _ (no _ (e'.trans e1) fun t' h1 ok => ?_)
              obtain ⟨y, hy, hty⟩ := full t' h1
              cases hy
              have htt : t'.take i = t := zs_inj (by rw [← htk, h1]; unfold zs; rw [List.map_take])
              have := ok.nd
              rw [← List.take_append_drop i t', List.nodup_append] at this
              refine this.2.2 x (by rw [htt]; exact hin) x ?_ rfl
              exact List.mem_of_getElem? (i := 0) (by rw [List.getElem?_drop]; exact hty)
            · refine je (decide_eq_false hin) ?_
              refine hK' .next _ _ ⟨_, t ++ [x], rfl, e'.trans e1, ?_, fun y hy => ?_, ?_⟩
              · rw [List.take_add_one, hvi, htk, zs_snoc]; rfl
              · rcases List.mem_append.mp hy with hy | hy
                · exact hrng y hy
                · rw [List.mem_singleton.mp hy]; exact ⟨hx0, hx1⟩
              · rw [List.nodup_append]
                refine ⟨hnd, by simp, fun a ha b hb e => ?_⟩
                rw [List.mem_singleton.mp hb] at e
                exact hin (e ▸ ha)
          · refine qK (not_df hx1) ?_
            refine hK' (.ret _) _ _ (no _ e' fun t' h1 ok => ?_)
            obtain ⟨y, hy, hty⟩ := full t' h1
            cases hy
            exact hx1 (ok.rng x (List.mem_of_getElem? hty)).2
        · refine je (decide_eq_false hx0) ?_
          refine hK' (.ret _) _ _ (no _ e' fun t' h1 ok => ?_)
          obtain ⟨y, hy, hty⟩ := full t' h1
          cases hy
          exact hx0 (ok.rng x (List.mem_of_getElem? hty)).1
      · refine zf4 (d := d) F.whole (ho.ext e') ?_
        refine hK' (.ret _) _ _ (no _ e' fun t' h1 ok => ?_)
        obtain ⟨y, hy, _⟩ := full t' h1
        subst hy
        exact ho.not
    · rintro ρ σ' ⟨o3, t, rfl, e', htk, hrng, hnd⟩
      refine ⟨trivial, ?_⟩
      rw [qf, List.take_of_length_le (by exact leN (lin (r3 _ _ _) V0 V1 [(2,1,V0,V2),(2,-1,V1,V2)] rfl hlm (tnn (hm))))] at htk
      subst htk
      rw [zQ] at hlm
      simp only [yn, qy, qu, z5, zK, z4, zv, zf, zg]
      refine met_spec (d := d) F.met n (hr.ext e') (show q0 σ' tp t from e' _ _ ht) hrng fun c ks σ₂ e2 hc hk => ?_
      simp only [ze, qV, ql, zv, zf, zg, zd]
      refine zaX hc ?_
      rw [yy]
      simp only [zd, Cmp.run]
      refine hq _ _ (e'.trans e2) ?_
      rw [beq_iff_eq, hk]
      constructor
      · intro h; exact ⟨t, rfl, hlm, hrng, hnd, h⟩
      · rintro ⟨t', h1, ok⟩
        rw [zs_inj h1]; exact ok.conn
  · have hl' : ((vs.length : Int) != m) = true := by simp [hlm]
    refine qK hl' ?_
    refine no _ Ext.refl fun t h1 ok => hlm ?_
    rw [h1, zQ]; exact ok.len
end
end Mine
end
section
open PySem
namespace Mine
theorem zix (kvs : List (Int × V)) (k k' : Int) (v : V) : zht (zcu kvs k v) k' = if k = k' then some v else zht kvs k' := by
  unfold zcu
  by_cases h : kvs.any (fun kv => decide (kv.1 = k)) = true
  · rw [if_pos h]
    unfold zht
    induction kvs with
    | nil => cases h
    | cons a r ih =>
      rw [List.map_cons, List.find?_cons, List.find?_cons]
      by_cases ha : a.1 = k
      · rw [if_pos ha]
        by_cases hk : k = k'
        · subst hk
          simp [ha]
        · rw [if_neg hk]
          have : a.1 ≠ k' := fun e => hk (ha.symm.trans e)
          simp only [this, decide_false]
          by_cases hr : r.any (fun kv => decide (kv.1 = k)) = true
          · rw [ih hr, if_neg hk]
          · have hm : r.map (fun kv => if kv.1 = k then (kv.1, v) else kv) = r := by
              have : ∀ (l : List (Int × V)), (∀ kv ∈ l, kv.1 ≠ k) → l.map (fun kv => if kv.1 = k then (kv.1, v) else kv) = l := by
                intro l hl
                induction l with
                | nil => rfl
                | cons b l ih' => rw [List.map_cons, if_neg (hl b (List.mem_cons_self ..)), ih' fun kv h => hl kv (List.mem_cons_of_mem _ h)]
              exact this r fun kv hkv e => hr (List.any_eq_true.mpr ⟨kv, hkv, decide_eq_true e⟩)
            rw [hm]
      · rw [if_neg ha]
        have hr : r.any (fun kv => decide (kv.1 = k)) = true := by simpa [ha] using h
        by_cases hak : a.1 = k'
        · have : k ≠ k' := fun e => ha (hak.trans e.symm)
          rw [if_neg this]; simp [hak]
        · simp only [hak, decide_false]
          exact ih hr
  · rw [if_neg h]
    unfold zht
    rw [List.find?_append]
    by_cases hk : k = k'
    · subst hk
      rw [if_pos rfl]
      have : kvs.find? (fun kv => decide (kv.1 = k)) = none := List.find?_eq_none.mpr fun kv hkv e => h (List.any_eq_true.mpr ⟨kv, hkv, e⟩)
      rw [this]; simp
    · rw [if_neg hk]
      cases kvs.find? (fun kv => decide (kv.1 = k')) <;> simp [hk]
theorem dput_same {kvs : List (Int × V)} {k : Int} {v x : V} (h : zht kvs k = some x) : (zcu kvs k v).length = kvs.length := by
  unfold zcu
  rw [if_pos, List.length_map]
  unfold zht at h
  cases hf : kvs.find? (fun kv => decide (kv.1 = k)) with
  | none => rw [hf] at h; cases h
  | some y => exact List.any_eq_true.mpr ⟨y, List.mem_of_find?_eq_some hf, by have := List.find?_some (p := fun (kv : Int × V) => decide (kv.1 = k)) hf; exact this⟩
theorem zgv {α β : Type} (f : α → β) : ∀ (l : List α) (i : Nat), (l.map f).eraseIdx i = (l.eraseIdx i).map f
  | [], i => by simp
  | _ :: _, 0 => by simp
  | a :: l, i + 1 => by simp [zgv f l i]
structure Part (n : Int) (kvs : List (Int × V)) : Prop where
  len : (kvs.length : Int) ≤ n
  has : ∀ k, 0 ≤ k → k < n → ∃ x : Int, zht kvs k = some (.int x)
theorem Part.put {n : Int} {kvs : List (Int × V)} (h : Part n kvs) {k x : Int} (h0 : 0 ≤ k) (hk : k < n) : Part n (zcu kvs k (.int x)) := by
  obtain ⟨y, hy⟩ := h.has k h0 hk
  refine ⟨by rw [dput_same hy]; exact h.len, fun k' h1 h2 => ?_⟩
  rw [zix]
  by_cases e : k = k'
  · exact ⟨x, if_pos e⟩
  · rw [if_neg e]; exact h.has k' h1 h2
theorem Part.new {n : Int} {kvs : List (Int × V)} (h : Part n kvs) {x : Int} : Part (n + 1) (zcu kvs n (.int x)) := by
  refine ⟨?_, fun k' h1 h2 => ?_⟩
  · have := zfM kvs n (.int x)
    have := h.len
    exact lin (r3 _ _ _) V0 (.add V1 N1) [(0,1,V0,.add V2 N1),(0,1,V2,V1)] rfl (leI ‹_›) this
  · rw [zix]
    by_cases e : n = k'
    · exact ⟨x, if_pos e⟩
    · rw [if_neg e]; exact h.has k' h1 (by exact (w9 (lin (r2 _ _) V0 V1 [(1,1,V0,.add V1 N1)] rfl h2) (Ne.symm e)))
section
variable {T : TC} {d : Nat} {σ : zb} {Q : V → zb → Prop} {P : Nat → zb → Prop}
theorem zhp {m : Int} {ρ : zP} {a : EW} {b : SW} {j : Nat} {K : Out → zP → zb → Prop} (hm : 0 ≤ m) (hm' : m ≤ 1000) (ha : ∀ (Q : V → zb → Prop) (P : Nat → zb → Prop), Q (.int m) σ → a ρ σ Q P) (I : Nat → zP → zb → Prop) (h0 : I 0 ρ σ)
    (step : ∀ (i : Nat) ρ σ' (K' : Out → zP → zb → Prop), (i : Int) < m → I i ρ σ' → (∀ ρ' σ'', I (i + 1) ρ' σ'' → K' .next ρ' σ'') → b (ym ρ j (.int i)) σ' K' noP)
    (fin : ∀ ρ σ', I m.toNat ρ σ' → K .next ρ σ') : yL (.nm j) (jN a) b ρ σ K P := by
  rw [j5, jS]
  refine ha _ _ ?_
  refine ⟨by unfold jc; exact ⟨lin (r1 _) (.neg (.num 4611686018427387904)) V0 [(0,1,N0,V0)] rfl hm, lit (r1 _) V0 (.num 4611686018427387904) [(0,1,V0,.num 1000)] rfl hm'⟩, ?_⟩
  refine zU I h0 (fun i v ρ σ' K' hv hi hK => ?_) fun ρ σ' h => ⟨trivial, fin ρ σ' (by rw [qf] at h; exact h)⟩
  obtain ⟨hl, rfl⟩ := qQ hv
  rw [Int.zero_add]
  exact ⟨trivial, step i ρ σ' K' (qM hm hl) hi fun ρ' σ'' h => hK .next ρ' σ'' h⟩
structure TrSt (σ₀ σ : zb) (m : Int) (rs : Rd2) (i : Nat) (pa tr od : Addr) : Prop where
  ext : Ext σ₀ σ
  pa0 : σ₀ pa = none
  tr0 : σ₀ tr = none
  od0 : σ₀ od = none
  pt : pa ≠ tr
  po : pa ≠ od
  to : tr ≠ od
  part : ∃ kvs, σ pa = some (.dict kvs) ∧ Part (m + 1) kvs
  tree : ∃ t, q0 σ tr t ∧ t.length ≤ i
  ord : ∃ os, q0 σ od os ∧ os.length + i = rs.length ∧ ∀ x ∈ os, 0 ≤ x ∧ x < rs.length
theorem zh8 {m : Int} {rs : Rd2} {σ₀ : zb} {s r pa tr od : Addr} {first : Int} {i : Nat} {o5 o9 o10 o11 o12 : Option V} {K : Out → zP → zb → Prop} (n : Net m rs) (hr : z2 σ₀ r rs) (S : TrSt σ₀ σ m rs i pa tr od) (hi : (i : Int) < rs.length)
    (hK : ∀ o5 o9 o10 o11 o12 σ', TrSt σ₀ σ' m rs (i + 1) pa tr od → K .next [some (.ref s), some (.int m), some (.ref r), some (.int first), some (.ref pa), o5, some (.ref tr), some (.ref od), some (.int i), o9, o10, o11, o12] σ') :
    wu T d [some (.ref s), some (.int m), some (.ref r), some (.int first), some (.ref pa), o5, some (.ref tr), some (.ref od), some (.int i), o9, o10, o11, o12] σ K P := by
  have hm := n.m0; have hm' := n.m10; have hl40 := n.len
  obtain ⟨os, hos, hol, hor⟩ := S.ord
  obtain ⟨t, htr, htl⟩ := S.tree
  obtain ⟨kvs, hpa, hP⟩ := S.part
  obtain ⟨vs, hr1, hr2⟩ := hr
  have hos' : σ od = some (.list (zs os)) := hos
  unfold wu
  rw [zE]
  simp only [qa, popW_, yo, qV, ze4, wx, qu, ql, zv, zf, zg, ze, zd]
  refine ⟨zH hos' trivial, ?_⟩
  refine ⟨⟨by decide, zew (by decide)⟩, ?_⟩
  refine ⟨by decide, ?_⟩
  refine ⟨zdq (by exact nnI _) (by exact lit (r2 _ _) V0 (.num 18446744073709551616) [(1,1,V0,V1),(0,1,V1,.num 40)] rfl hi (leI hl40)), ?_⟩
  refine zW hos' ?_
  rw [zQ]
  refine ⟨by exact (fun h_ => lif (r3 (↑(i)) (↑(List.length rs)) (↑(os.length))) [(1,1,V0,V1),(2,-1,.add V2 V0,V1),(2,1,V2,N0)] rfl hi (eqI hol) h_), ?_⟩
  have hmod := qU (a := first + (i : Int) * (first.fdiv 50).fmod 7) (b := (os.length : Int)) (by exact lit (r3 _ _ _) N0 V0 [(1,1,V1,V2),(2,-1,.add V0 V1,V2)] rfl hi (eqI hol))
  generalize (first + (i : Int) * (first.fdiv 50).fmod 7).fmod (os.length : Int) = j at hmod
  refine zH hos' ?_
  have hjl : j.toNat < os.length := by exact ltN (lit (r3 _ _ _) V0 V1 [(1,1,V2,V1),(2,1,V0,V2)] rfl hmod.2 (tnn (hmod.1)))
  have hjg : os[j.toNat]? = some os[j.toNat] := List.getElem?_eq_getElem hjl
  have hx := hor _ (List.getElem_mem hjl)
  generalize os[j.toNat] = x at hjg hx
  refine ⟨hmod.1, _, zaN hjg, ?_⟩
  simp only [zp, zq]
  have he1 : Ext σ₀ (put σ od (.list ((zs os).eraseIdx j.toNat))) := S.ext.put S.od0 _
  have hod1 : put σ od (.list ((zs os).eraseIdx j.toNat)) od = some (.list (zs (os.eraseIdx j.toNat))) := by
    rw [zy]; unfold zs; rw [zgv]
  have hol1 : (os.eraseIdx j.toNat).length + (i + 1) = rs.length := by rw [List.length_eraseIdx_of_lt hjl]; lia
  have hor1 : ∀ x ∈ os.eraseIdx j.toNat, 0 ≤ x ∧ x < rs.length := fun x hx => hor x (List.mem_of_mem_eraseIdx hx)
  have htr1 : put σ od (.list ((zs os).eraseIdx j.toNat)) tr = some (.list (zs t)) := by rw [zS _ S.to]; exact htr
  have hpa1 : put σ od (.list ((zs os).eraseIdx j.toNat)) pa = some (.dict kvs) := by rw [zS _ S.po]; exact hpa
  generalize put σ od (.list ((zs os).eraseIdx j.toNat)) = σ₁ at he1 hod1 htr1 hpa1
  rw [zE]
  simp only [zcW, qG, zv, zf, zg, ze, zd]
  refine ⟨hx.1, ?_⟩
  refine ji (he1 _ _ hr1) ?_
  have hlv : x.toNat < vs.length := by rw [hr2.length]; exact ltN (lit (r3 _ _ _) V0 V1 [(1,1,V2,V1),(2,1,V0,V2)] rfl hx.2 (tnn (hx.1)))
  have hvg : vs[x.toNat]? = some vs[x.toNat] := List.getElem?_eq_getElem hlv
  refine zaV hvg ?_
  obtain ⟨a, u, w, hau, hrs, hta⟩ := hr2.get hvg
  rw [hau]
  simp only [yd, ze]
  refine zaE (he1 _ _ hta) ?_
  refine ⟨rfl, ?_⟩
  have hend := n.ends (u, w) (List.mem_of_getElem? hrs)
  obtain ⟨pu, hpu⟩ := hP.has u hend.1.1 (by have := hend.1.2; simp only at this; exact lit (r2 _ _) V0 (.add V1 N1) [(0,1,V0,V1)] rfl hend.1.2)
  obtain ⟨pw, hpw⟩ := hP.has w hend.2.1.1 (by have := hend.2.1.2; simp only at this; exact lit (r2 _ _) V0 (.add V1 N1) [(0,1,V0,V1)] rfl hend.2.1.2)
  simp only [yU, yT, zp, zq, qv, qy, subD_, zv, zf, zg, zd, ze]
  refine qC hpa1 ?_
  refine ⟨_, hpu, ?_⟩
  refine qC hpa1 ?_
  refine ⟨_, hpw, ?_⟩
  by_cases hne : pu = pw
  · have : (pu != pw) = false := by simp [hne]
    refine je this ?_
    exact hK _ _ _ _ _ _ ⟨he1, S.pa0, S.tr0, S.od0, S.pt, S.po, S.to, ⟨kvs, hpa1, hP⟩, ⟨t, htr1, by exact leN (lin (r2 _ _) V0 (.add V1 N1) [(0,1,V0,V1)] rfl (leI htl))⟩, ⟨_, hod1, hol1, hor1⟩⟩
  · have : (pu != pw) = true := by simp [hne]
    refine qK this ?_
    rw [zE]
    simp only [wk, zen, zv, zf, zg, ze]
    refine ⟨zH htr1 trivial, ?_⟩
    refine zH htr1 ?_
    rw [zQ]
    refine ⟨by unfold lim; exact ltN (lit (r3 _ _ _) V0 (.num 1000000) [(1,1,V1,V2),(0,1,V2,.num 40),(0,1,V0,V1)] rfl hi (leI hl40) (leI htl)), ?_⟩
    have he2 : Ext σ₀ (put σ₁ tr (.list (zs t ++ [.int x]))) := he1.put S.tr0 _
    have htr2 : put σ₁ tr (.list (zs t ++ [.int x])) tr = some (.list (zs (t ++ [x]))) := by rw [zy, zs_snoc]
    have hod2 : put σ₁ tr (.list (zs t ++ [.int x])) od = some (.list (zs (os.eraseIdx j.toNat))) := by rw [zS _ S.to.symm]; exact hod1
    have hpa2 : put σ₁ tr (.list (zs t ++ [.int x])) pa = some (.dict kvs) := by rw [zS _ S.pt]; exact hpa1
    generalize put σ₁ tr (.list (zs t ++ [.int x])) = σ₂ at he2 htr2 hod2 hpa2
    rw [zE]
    simp only [qa, subD_, zv, zf, zg, ze, zd]
    refine qC hpa2 ?_
    refine ⟨_, hpu, ?_⟩
    simp only [zp, zq]
    refine zhp (m := m + 1) (by exact lin (r1 _) N0 (.add V0 N1) [(0,1,N0,V0)] rfl hm) (by exact lin (r1 _) (.add V0 N1) (.num 1000) [(0,1,V0,.num 10)] rfl hm') (fun Q P h => by simp only [qV, ql, zv, zf, zg, zd]; exact h) (fun k ρ σ' => X2 fun o5 kvs => A6 (ρ = [some (.ref s), some (.int m), some (.ref r), some (.int first), some (.ref pa), o5, some (.ref tr), some (.ref od), some (.int i), some (.int x), some (.int u), some (.int w), some (.int pu)]) (Ext σ₀ σ') (σ' pa = some (.dict kvs)) (Part (m + 1) kvs) (σ' tr = some (.list (zs (t ++ [x])))) (σ' od = some (.list (zs (os.eraseIdx j.toNat))))) ⟨_, kvs, rfl, he2, hpa2, hP, htr2, hod2⟩ ?_ ?_
    · intro k ρ σ' K' hk hI5a hK'
      obtain ⟨o5', kvs', rfl, e', hpa', hP', htr', hod'⟩ := hI5a
      obtain ⟨pk, hpk⟩ := hP'.has k (nnI _) hk
      obtain ⟨pw', hpw'⟩ := hP'.has w hend.2.1.1 (by have := hend.2.1.2; simp only at this; exact lit (r2 _ _) V0 (.add V1 N1) [(0,1,V0,V1)] rfl hend.2.1.2)
      unfold zbc
      simp only [zp, zq, qv, qy, subD_, zv, zf, zg, zd, ze]
      refine qC hpa' ?_
      refine ⟨_, hpk, ?_⟩
      simp only [zd, Cmp.run, zm]
      by_cases hold : pk = pu
      · have : (pk == pu) = true := by simp [hold]
        simp only [this, if_true, w7, subD_, zv, zf, zg, zd, ze]
        refine qC hpa' ?_
        refine ⟨_, hpw', ?_⟩
        refine Eq.mpr (qZ hpa') ?_
        have := hP'.len
        refine ⟨by unfold lim; exact ltN (lit (r2 _ _) V0 (.num 1000000) [(0,1,V1,.num 10),(0,1,V0,.add V1 N1)] rfl hm' this), hK' _ _ ⟨_, _, rfl, e'.put S.pa0 _, zy _ _ _, hP'.put (nnI _) hk, ?_, ?_⟩⟩
        · rw [zS _ S.pt.symm]; exact htr'
        · rw [zS _ S.po.symm]; exact hod'
      · have : (pk == pu) = false := by simp [hold]
        refine je this ?_
        exact hK' _ _ ⟨_, kvs', rfl, e', hpa', hP', htr', hod'⟩
    · rintro ρ σ' ⟨o5', kvs', rfl, e', hpa', hP', htr', hod'⟩
      exact hK _ _ _ _ _ _ ⟨e', S.pa0, S.tr0, S.od0, S.pt, S.po, S.to, ⟨kvs', hpa', hP'⟩, ⟨_, htr', by rw [List.length_append, List.length_singleton]; exact leN (lin (r2 _ _) (.add V0 N1) (.add V1 N1) [(0,1,V0,V1)] rfl (leI htl))⟩, ⟨_, hod', hol1, hor1⟩⟩
theorem zf5 (hc : FnW T "_law_cell_at" 2 1 (jd T)) (h : FnW T "_law_tree" 3 10 (yH T)) {m : Int} {rs : Rd2} {ns : List Int} {s r : Addr} (n : Net m rs) (hs : yK σ s ns) (hr : z2 σ r rs)
    (hq : ∀ c t σ', Ext σ σ' → σ c = none → q0 σ' c t → t.length ≤ rs.length → Q (.ref c) σ') : zC T (d + 2) "_law_tree" [.ref s, .int m, .ref r] σ Q P := by
  have hm := n.m0; have hm' := n.m10; have hl40 := n.len
  refine h (d + 1) _ _ _ _ rfl ?_
  unfold yH
  rw [zE]
  simp only [qa, z5, zK, z4, ql, zv, qd, qg, qc, zf, zg]
  refine qm (d := d) hc hs (by decide) (by decide) fun σ₁ e1 => ?_
  generalize js ns 20 = first
  rw [zE]
  simp only [qa, zdx]
  refine zi fun pa σ₂ hpa e2 hpav => ?_
  simp only [zp, zq]
  have hpa0 : σ pa = none := e1.none hpa
  refine zhp (m := m + 1) (by exact lin (r1 _) N0 (.add V0 N1) [(0,1,N0,V0)] rfl hm) (by exact lin (r1 _) (.add V0 N1) (.num 1000) [(0,1,V0,.num 10)] rfl hm') (fun Q P h => by simp only [qV, ql, zv, zf, zg, zd]; exact h) (fun k ρ σ' => X2 fun o5 kvs => A4 (ρ = [some (.ref s), some (.int m), some (.ref r), some (.int first), some (.ref pa), o5, none, none, none, none, none, none, none]) (Ext σ σ') (σ' pa = some (.dict kvs)) (Part k kvs)) ⟨_, [], rfl, e1.trans e2, hpav, Int.le_refl _, fun k h0 hk => by exact lif (r1 _) [(0,1,N0,V0),(1,1,V0,N0)] rfl h0 hk⟩ ?_ ?_
  · intro k ρ σ' K' hk hI5a hK'
    obtain ⟨o5, kvs, rfl, e', hpa', hP⟩ := hI5a
    unfold zbb
    refine Eq.mpr (qZ hpa') ?_
    have := hP.len
    refine ⟨by unfold lim; exact ltN (lit (r3 _ _ _) V0 (.num 1000000) [(0,1,V1,.num 10),(1,1,V2,.add V1 N1),(0,1,V0,V2)] rfl hm' hk this), hK' _ _ ⟨_, _, rfl, e'.put hpa0 _, zy _ _ _, ?_⟩⟩
    exact hP.new
  · rintro ρ σ' ⟨o5, kvs, rfl, e', hpa', hP⟩
    rw [tnn (by exact lin (r1 _) N0 (.add V0 N1) [(0,1,N0,V0)] rfl hm)] at hP
    obtain ⟨vs, hr1, hr2⟩ := hr.ext e'
    rw [zE]
    simp only [qa, jC, z4, List.length_nil]
    refine ⟨by unfold lim; exact Nat.le_of_ble_eq_true rfl, zi fun tr σ₃ htr e3 htrv => ?_⟩
    simp only [zp, zq]
    rw [zE]
    simp only [qa, listRange_, qu, zv, zf, zg, ze]
    refine zW (e3 _ _ hr1) ?_
    rw [hr2.length]
    refine ⟨by unfold jc; exact ⟨lin (r1 _) (.neg (.num 4611686018427387904)) V0 [(0,1,N0,V0)] rfl (nnI _), lit (r1 _) V0 (.num 4611686018427387904) [(0,1,V0,.num 40)] rfl (leI hl40)⟩, by exact lin (r1 _) V0 (.num 1000) [(0,1,V0,.num 40)] rfl (leI hl40), zi fun od σ₄ hod e4 hodv => ?_⟩
    simp only [zp, zq]
    have e04 := e'.trans (e3.trans e4)
    have hrz : rng 0 rs.length = zs ((List.range rs.length).map fun (i : Nat) => (i : Int)) := by
      unfold rng zs; rw [List.map_map]
      exact List.map_congr_left fun i _ => by simp
    refine zhp (m := (rs.length : Int)) (by exact nnI _) (by exact lin (r1 _) V0 (.num 1000) [(0,1,V0,.num 40)] rfl (leI hl40)) (fun Q P h => by simp only [qu, zv, zf, zg, ze]; rw [zcw (e4 _ _ (e3 _ _ hr1)), hr2.length]; exact h) (fun i ρ σ'' => X6 fun o5 o8 o9 o10 o11 o12 => ρ = [some (.ref s), some (.int m), some (.ref r), some (.int first), some (.ref pa), o5, some (.ref tr), some (.ref od), o8, o9, o10, o11, o12] ∧ TrSt σ σ'' m rs i pa tr od)
      ⟨_, _, _, _, _, _, rfl, ⟨e04, hpa0, e'.none htr, (e'.trans e3).none hod, qT hpa' htr, qT (e3 _ _ hpa') hod, qT htrv hod, ⟨kvs, e4 _ _ (e3 _ _ hpa'), hP⟩, ⟨[], e4 _ _ htrv, Nat.le_refl _⟩, ⟨(List.range rs.length).map fun (i : Nat) => (i : Int), by show σ₄ od = _; rw [← hrz]; exact hodv, by simp, fun x hx => ?_⟩⟩⟩ ?_ ?_
    · obtain ⟨i, hi, rfl⟩ := List.mem_map.mp hx
      have := List.mem_range.mp hi
      exact ⟨(nnI _), (ltI this)⟩
    · intro i ρ σ'' K' hi hI5c hK'
      obtain ⟨o5', o8, o9, o10, o11, o12, rfl, S⟩ := hI5c
      exact zh8 n hr S hi fun o5 o9 o10 o11 o12 σ₅ S' => hK' _ _ ⟨_, _, _, _, _, _, rfl, S'⟩
    · rintro ρ σ'' ⟨o5', o8, o9, o10, o11, o12, rfl, S⟩
      simp only [yn, zv, zf, zg]
      obtain ⟨t, ht, htl⟩ := S.tree
      exact hq _ t _ S.ext S.tr0 ht ‹_›
end
end Mine
end
section
open PySem
namespace Mine
noncomputable def zbq (σ : zb) (tp : Addr) : Prop := (∃ xs, σ tp = some (.tup xs)) ∨ ∃ vs, σ tp = some (.list vs) ∧ vs.length ≤ 100 ∧ ∀ v ∈ vs, Item σ v
theorem zbq.ext {σ σ' : zb} {tp : Addr} (h : zbq σ tp) (e : Ext σ σ') : zbq σ' tp := by
  rcases h with ⟨xs, h⟩ | ⟨vs, h, hl, hi⟩
  · exact .inl ⟨xs, e _ _ h⟩
  · exact .inr ⟨vs, e _ _ h, hl, fun v hv => (hi v hv).ext e⟩
theorem zb8 {σ : zb} {t : List Int} : ∀ v ∈ zs t, Item σ v := fun v hv => by
  obtain ⟨x, _, rfl⟩ := List.mem_map.mp hv
  exact .inl ⟨x, rfl⟩
section
variable {T : TC} {d : Nat} {σ : zb} {Q : V → zb → Prop} {P : Nat → zb → Prop}
theorem zfD {ρ : zP} {t : List Int} {tp : Addr} {at_ : Int} {a : EW} {v : V} (ht : q0 σ tp t) (htl : t.length ≤ 40) (h0 : 0 ≤ at_) (h2 : jW ρ 2 = some (.ref tp)) (h5 : jW ρ 5 = some (.int at_))
    (ha : ∀ σ', Ext σ σ' → ∀ (Q : V → zb → Prop) P, (∀ σ'', Ext σ' σ'' → Item σ'' v → Q v σ'') → a ρ σ' Q P) (hq : ∀ c σ', Ext σ σ' → zbq σ' c → Q (.ref c) σ') :
    zgg (zgg (zd9 (loc 2) (loc 5)) (q9 (zh a zR))) (zfd (loc 2) (jQ (loc 5) (val (.int 1)))) ρ σ Q P := by
  have htz : σ tp = some (.list (zs t)) := ht
  simp only [zgn, zcO, zv, h2, h5, ze, zd]
  refine ⟨h0, ?_⟩
  refine jt htz ?_
  refine zi fun a1 σ₁ ha1 e1 ha1v => ?_
  simp only [jC, zK, z4]
  refine ha σ₁ e1 _ _ fun σ₂ e2 hit => ?_
  simp only [List.length_cons, List.length_nil]
  refine ⟨by unfold lim; exact Nat.le_of_ble_eq_true rfl, zi fun a2 σ₃ ha2 e3 ha2v => ?_⟩
  refine zH (e3 _ _ (e2 _ _ ha1v)) (zH ha2v ?_)
  have hl1 : ((zs t).take at_.toNat).length ≤ 40 := by rw [List.length_take, zQ]; lia
  refine ⟨by rw [List.length_cons, List.length_nil]; unfold lim; omega, zi fun a3 σ₄ ha3 e4 ha3v => ?_⟩
  simp only [zet, qV, ql, zv, h2, h5, ze, zd]
  have e04 := e1.trans (e2.trans (e3.trans e4))
  refine ⟨by exact lin (r1 _) N0 (.add V0 N1) [(0,1,N0,V0)] rfl h0, ?_⟩
  refine jt (e04 _ _ htz) ?_
  refine zi fun a4 σ₅ ha4 e5 ha4v => ?_
  refine zH (e5 _ _ ha3v) (zH ha4v ?_)
  have hl2 : ((zs t).drop (at_ + 1).toNat).length ≤ 40 := by rw [List.length_drop, zQ]; lia
  refine ⟨by rw [List.length_append, List.length_cons, List.length_nil]; unfold lim; exact leN (lin (r2 _ _) (.add (.add V0 (.add N0 N1)) V1) (.num 1000000) [(0,1,V0,.num 40),(0,1,V1,.num 40)] rfl (leI hl1) (leI hl2)), zi fun a5 σ₆ ha5 e6 ha5v => ?_⟩
  refine hq _ _ (e04.trans (e5.trans e6)) (.inr ⟨_, ha5v, ?_, fun u hu => ?_⟩)
  · rw [List.length_append, List.length_append, List.length_cons, List.length_nil]; exact leN (lin (r2 _ _) (.add (.add V0 (.add N0 N1)) V1) (.num 100) [(0,1,V0,.num 40),(0,1,V1,.num 40)] rfl (leI hl1) (leI hl2))
  · rcases List.mem_append.mp hu with hu | hu
    · rcases List.mem_append.mp hu with hu | hu
      · exact zb8 u (List.mem_of_mem_take hu)
      · rw [List.mem_singleton.mp hu]; exact hit.ext (e3.trans (e4.trans (e5.trans e6)))
    · exact zb8 u (List.mem_of_mem_drop hu)
theorem zhw {ρ : zP} {k way : Int} {tp : Addr} {t : List Int} {b1 b2 : SW} {K : Out → zP → zb → Prop} (h3 : jW ρ 3 = some (.int way)) (h2 : jW ρ 2 = some (.ref tp)) (ht : q0 σ tp t) (yes : t ≠ [] → ∀ σ', Ext σ σ' → b1 ρ σ' K P) (no : ∀ σ', Ext σ σ' → b2 ρ σ' K P) :
    jg (zag (jh .eq (loc 3) (val (.int k))) (eqW true (loc 2) (q9 zR))) b1 b2 ρ σ K P := by
  simp only [qv, zan, qy, ql, zv, h3, h2, zd, Cmp.run, zm]
  cases hw : way == k with
  | false =>
    exact no _ Ext.refl
  | true =>
    simp only [if_true, zgd, zv, h2, jC, z4, List.length_nil]
    refine ⟨by unfold lim; exact Nat.le_of_ble_eq_true rfl, zi fun c σ₁ _ e hcv => ?_⟩
    refine Eqv.zs (ns := t) (ms := []) (ht.ext e) hcv ?_
    by_cases hn : t = []
    · refine je (not_dt hn) ?_
      exact no _ e
    · refine qK (not_df hn) ?_
      exact yes hn _ e
structure Sp (σ : zb) (r tp : Addr) (rs : Rd2) (t : List Int) (at_ : Int) : Prop where
  roads : z2 σ r rs
  tree : q0 σ tp t
  few : t.length ≤ 40
  some_ : t ≠ [] → 0 < rs.length
  at0 : 0 ≤ at_
theorem Sp.ext {σ σ' : zb} {r tp : Addr} {rs : Rd2} {t : List Int} {at_ : Int} (S : Sp σ r tp rs t at_) (e : Ext σ σ') : Sp σ' r tp rs t at_ := ⟨S.roads.ext e, S.tree.ext e, S.few, S.some_, S.at0⟩
theorem Sp.lenR {σ : zb} {r tp : Addr} {rs : Rd2} {t : List Int} {at_ : Int} (S : Sp σ r tp rs t at_) {k : Nat → Prop} : zaf σ r k = k rs.length := by
  obtain ⟨vs, h1, h2⟩ := S.roads
  rw [zcw h1, h2.length]
section
variable {s r tp : Addr} {rs : Rd2} {t : List Int} {way cell at_ : Int} {K : Out → zP → zb → Prop}
noncomputable def spE (s r tp : Addr) (way cell at_ : Int) : zP := [some (.ref s), some (.ref r), some (.ref tp), some (.int way), some (.int cell), some (.int at_), none, none]
theorem spoilt_5 (S : Sp σ r tp rs t at_) (hK : ∀ c ρ σ', Ext σ σ' → zbq σ' c → K (.ret (.ref c)) ρ σ') : yN T d (spE s r tp way cell at_) σ K P := by
  unfold yN spE
  have ht : σ tp = some (.list (zs t)) := S.tree
  refine jt ht ?_
  exact zi fun c σ' _ e hc => hK c _ _ e (.inl ⟨_, hc⟩)
theorem spoilt_4 (S : Sp σ r tp rs t at_) (hK : ∀ c ρ σ', Ext σ σ' → zbq σ' c → K (.ret (.ref c)) ρ σ') : yO T d (spE s r tp way cell at_) σ K P := by
  unfold yO
  rw [zE, qv]
  simp only [spE, qy, ql, zv, zf, zg, zd, Cmp.run, zm]
  cases hw : way == 4 with
  | false =>
    simp only [Bool.false_eq_true, if_false, qx]
    exact spoilt_5 S hK
  | true =>
    simp only [if_true]
    rw [zE]
    simp only [qa, qG, jC, zK, z4, negI_, qu, ql, zc3, zv, zf, zg, zd, ze]
    refine Eq.mpr (S.lenR) ?_
    simp only [List.length_cons, List.length_nil]
    refine ⟨by unfold lim; exact Nat.le_of_ble_eq_true rfl, zi fun q σ₁ _ e1 hqv => ?_⟩
    refine ⟨by unfold lim; exact Nat.le_of_ble_eq_true rfl, zi fun l6 σ₂ _ e2 hl6 => ?_⟩
    simp only [yo, wx, ql, zv, zf, zg, zd]
    refine ⟨⟨by decide, zew (by decide)⟩, ?_⟩
    refine ⟨by decide, ?_⟩
    have hw := qU (a := cell.fdiv 11) (b := 6) (by decide)
    generalize (cell.fdiv 11).fmod 6 = wy at hw
    have hv : ∃ v : V, [V.int (-1), .int rs.length, .bool true, .none, .str "0", .ref q][wy.toNat]? = some v ∧ ∀ σ', Ext σ₂ σ' → Item σ' v := by
      have : wy = 0 ∨ wy = 1 ∨ wy = 2 ∨ wy = 3 ∨ wy = 4 ∨ wy = 5 := by lia
      rcases this with rfl | rfl | rfl | rfl | rfl | rfl
      · exact ⟨_, rfl, fun σ' _ => .inl ⟨_, rfl⟩⟩
      · exact ⟨_, rfl, fun σ' _ => .inl ⟨_, rfl⟩⟩
      · exact ⟨_, rfl, fun σ' _ => .inr (.inl ⟨_, rfl⟩)⟩
      · exact ⟨_, rfl, fun σ' _ => .inr (.inr (.inl rfl))⟩
      · exact ⟨_, rfl, fun σ' _ => .inr (.inr (.inr (.inl ⟨_, rfl⟩)))⟩
      · exact ⟨_, rfl, fun σ' e => .inr (.inr (.inr (.inr ⟨q, _, rfl, e _ _ (e2 _ _ hqv)⟩)))⟩
    obtain ⟨v, hv, hit⟩ := hv
    refine at_of hl6 hw.1 hv ?_
    refine zfD (v := v) (S.ext (e1.trans e2)).tree S.few S.at0 rfl rfl (fun σ' e Q P h => ?_) fun c σ' e hA => hK c _ _ ((e1.trans e2).trans e) hA
    exact h _ Ext.refl (hit _ e)
theorem spoilt_3 (S : Sp σ r tp rs t at_) (hK : ∀ c ρ σ', Ext σ σ' → zbq σ' c → K (.ret (.ref c)) ρ σ') : yP T d (spE s r tp way cell at_) σ K P := by
  unfold yP
  refine zhw (way := way) rfl rfl S.tree (fun hn σ₁ e1 => ?_) fun σ₁ e1 => ?_
  · refine zfD (v := .int ((cell.fdiv 11).fmod rs.length)) (S.ext e1).tree S.few S.at0 rfl rfl (fun σ' e Q P h => ?_) fun c σ' e hA => hK c _ _ (e1.trans e) hA
    simp only [spE, yo, wx, qu, ql, zv, zf, zg, zd, ze]
    refine ⟨⟨by decide, zew (by decide)⟩, ?_⟩
    refine Eq.mpr ((S.ext (e1.trans e)).lenR) ?_
    have := S.some_ hn
    exact ⟨by exact (fun h_ => lif (r1 _) [(1,1,N0,V0),(2,1,V0,N0)] rfl (ltI this) h_), h _ Ext.refl (.inl ⟨_, rfl⟩)⟩
  · exact spoilt_4 (S.ext e1) fun c ρ σ' e hA => hK c ρ σ' (e1.trans e) hA
theorem spoilt_2 (S : Sp σ r tp rs t at_) (hK : ∀ c ρ σ', Ext σ σ' → zbq σ' c → K (.ret (.ref c)) ρ σ') : yQ T d (spE s r tp way cell at_) σ K P := by
  unfold yQ
  rw [zE, qv]
  simp only [spE, qy, ql, zv, zf, zg, zd, Cmp.run, zm]
  cases hw : way == 2 with
  | false =>
    exact spoilt_3 S hK
  | true =>
    have ht : σ tp = some (.list (zs t)) := S.tree
    have hf := S.few
    simp only [if_true, yn, zgn, jC, zK, z4, yo, wx, zcR, qu, ql, zv, zf, zg, zd, ze]
    refine ⟨⟨by decide, zew (by decide)⟩, ?_⟩
    refine Eq.mpr (S.lenR) ?_
    simp only [zd, List.length_cons, List.length_nil]
    have hmx : (0 : Int) < (if (rs.length : Int) > 1 then (rs.length : Int) else 1) := by split <;> (first | exact Int.le_of_lt ‹_› | decide)
    refine ⟨by exact Int.ne_of_gt ‹_›, ?_⟩
    generalize (cell.fdiv 11).fmod (if (rs.length : Int) > 1 then (rs.length : Int) else 1) = x
    refine ⟨by unfold lim; exact Nat.le_of_ble_eq_true rfl, zi fun q σ₁ _ e1 hqv => ?_⟩
    refine zH (e1 _ _ ht) (zH hqv ?_)
    refine ⟨by rw [zQ, List.length_cons, List.length_nil]; unfold lim; omega, zi fun c σ₂ _ e2 hcv => hK _ _ _ (e1.trans e2) (.inr ⟨_, hcv, by rw [List.length_append, zQ, List.length_cons, List.length_nil]; exact leN (lin (r1 _) (.add V0 (.add N0 N1)) (.num 100) [(0,1,V0,.num 40)] rfl (leI hf)), fun u hu => ?_⟩)⟩
    rcases List.mem_append.mp hu with hu | hu
    · exact zb8 u hu
    · rw [List.mem_singleton.mp hu]; exact .inl ⟨_, rfl⟩
theorem spoilt_1 (S : Sp σ r tp rs t at_) (hK : ∀ c ρ σ', Ext σ σ' → zbq σ' c → K (.ret (.ref c)) ρ σ') : yR T d (spE s r tp way cell at_) σ K P := by
  unfold yR
  have hf := S.few; have h0 := S.at0
  refine zhw (way := way) rfl rfl S.tree (fun hn σ₁ e1 => ?_) fun σ₁ e1 => ?_
  · have ht : σ₁ tp = some (.list (zs t)) := (S.ext e1).tree
    simp only [spE, yn, zgn, zcO, zet, qV, ql, zv, zf, zg, zd, ze]
    refine ⟨h0, ?_⟩
    refine jt ht ?_
    refine zi fun a1 σ₂ _ e2 ha1 => ?_
    refine ⟨by exact lin (r1 _) N0 (.add V0 N1) [(0,1,N0,V0)] rfl h0, ?_⟩
    refine jt (e2 _ _ ht) ?_
    refine zi fun a2 σ₃ _ e3 ha2 => ?_
    refine zH (e3 _ _ ha1) (zH ha2 ?_)
    have hl1 : ((zs t).take at_.toNat).length ≤ 40 := by rw [List.length_take, zQ]; lia
    have hl2 : ((zs t).drop (at_ + 1).toNat).length ≤ 40 := by rw [List.length_drop, zQ]; lia
    refine ⟨by unfold lim; exact leN (lin (r2 _ _) (.add V0 V1) (.num 1000000) [(0,1,V0,.num 40),(0,1,V1,.num 40)] rfl (leI hl1) (leI hl2)), zi fun c σ₄ _ e4 hcv => hK _ _ _ (e1.trans (e2.trans (e3.trans e4))) (.inr ⟨_, hcv, by rw [List.length_append]; exact leN (lin (r2 _ _) (.add V0 V1) (.num 100) [(0,1,V0,.num 40),(0,1,V1,.num 40)] rfl (leI hl1) (leI hl2)), fun u hu => ?_⟩)⟩
    rcases List.mem_append.mp hu with hu | hu
    · exact zb8 u (List.mem_of_mem_take hu)
    · exact zb8 u (List.mem_of_mem_drop hu)
  · exact spoilt_2 (S.ext e1) fun c ρ σ' e hA => hK c ρ σ' (e1.trans e) hA
end
theorem zhU (hc : FnW T "_law_cell_at" 2 1 (jd T)) (h : FnW T "_law_spoilt" 3 5 (jV T)) {rs : Rd2} {ns t : List Int} {s r tp : Addr} (hs : yK σ s ns) (hr : z2 σ r rs) (ht : q0 σ tp t) (htl : t.length ≤ 40)
    (hrl : t ≠ [] → 0 < rs.length) (hq : ∀ c σ', Ext σ σ' → zbq σ' c → Q (.ref c) σ') : zC T (d + 2) "_law_spoilt" [.ref s, .ref r, .ref tp] σ Q P := by
  refine h (d + 1) _ _ _ _ rfl ?_
  unfold jV
  rw [zE]
  simp only [qa, qG, jC, zK, z4, ql, qd, qg, qc, List.length_cons, List.length_nil]
  refine ⟨by unfold lim; exact Nat.le_of_ble_eq_true rfl, zi fun w8 σ₁ _ e1 hw8 => ?_⟩
  refine qm (d := d) hc (hs.ext e1) (by decide) (by decide) fun σ₂ e2 => ?_
  simp only [zd]
  refine ⟨⟨by decide, zew (by decide)⟩, ?_⟩
  refine ⟨by decide, ?_⟩
  have hw := qU (a := (js ns 21).fdiv 12) (b := 8) (by decide)
  generalize ((js ns 21).fdiv 12).fmod 8 = wy at hw
  have hway : ∃ way : Int, [V.int 0, .int 1, .int 2, .int 3, .int 3, .int 3, .int 4, .int 5][wy.toNat]? = some (.int way) := by
    have : wy = 0 ∨ wy = 1 ∨ wy = 2 ∨ wy = 3 ∨ wy = 4 ∨ wy = 5 ∨ wy = 6 ∨ wy = 7 := by lia
    rcases this with rfl | rfl | rfl | rfl | rfl | rfl | rfl | rfl <;> exact ⟨_, rfl⟩
  obtain ⟨way, hway⟩ := hway
  refine at_of (e2 _ _ hw8) hw.1 hway ?_
  have e02 := e1.trans e2
  refine qm (d := d) hc (hs.ext e02) (by decide) (by decide) fun σ₃ e3 => ?_
  generalize js ns 22 = cell
  simp only [zp, zq]
  have e03 := e02.trans e3
  have ht3 : σ₃ tp = some (.list (zs t)) := e03 _ _ ht
  rw [zE]
  simp only [qa, yo, zcR, qu, ql, zv, zf, zg, ze, zd]
  refine zW ht3 ?_
  rw [zQ]
  have hmx : (0 : Int) < (if (t.length : Int) > 1 then (t.length : Int) else 1) := by split <;> (first | exact Int.le_of_lt ‹_› | decide)
  refine ⟨by exact Int.ne_of_gt ‹_›, ?_⟩
  have hat := (qU (a := cell) hmx).1
  generalize cell.fmod (if (t.length : Int) > 1 then (t.length : Int) else 1) = at_ at hat
  simp only [zp, zq]
  have S : Sp σ₃ r tp rs t at_ := ⟨hr.ext e03, ht3, htl, hrl, hat⟩
  rw [zE]
  refine zhw (way := way) rfl rfl S.tree (fun hn σ₄ e4 => ?_) fun σ₄ e4 => ?_
  · have ht4 : σ₄ tp = some (.list (zs t)) := (S.ext e4).tree
    have hlp : 0 < t.length := List.length_pos_iff.mpr hn
    rw [zE]
    simp only [qa, qG, yo, wx, qu, ql, zv, zf, zg, ze, zd]
    refine ⟨⟨by decide, zew (by decide)⟩, ?_⟩
    refine zW ht4 ?_
    rw [zQ]
    refine ⟨by exact (fun h_ => lif (r1 _) [(1,1,N0,V0),(2,1,V0,N0)] rfl (ltI hlp) h_), ?_⟩
    have hi := qU (a := cell.fdiv 11) (b := (t.length : Int)) (by exact Int.ofNat_lt.mpr ‹_›)
    generalize (cell.fdiv 11).fmod (t.length : Int) = i at hi
    have hil : i.toNat < t.length := by exact ltN (lit (r3 _ _ _) V0 V1 [(1,1,V2,V1),(2,1,V0,V2)] rfl hi.2 (tnn (hi.1)))
    refine at_of ht4 hi.1 (zaN (List.getElem?_eq_getElem hil)) ?_
    refine zfD (v := .int t[i.toNat]) (S.ext e4).tree S.few S.at0 rfl rfl (fun σ' e Q P h => ?_) fun c σ' e hA => hq c _ (e03.trans (e4.trans e)) hA
    exact h _ Ext.refl (.inl ⟨_, rfl⟩)
  · exact spoilt_1 (S.ext e4) fun c ρ σ' e hA => hq c σ' (e03.trans (e4.trans e)) hA
end
end Mine
end
section
open PySem
namespace Mine
theorem yX.tau {m : Int} {rs : Rd2} {g : Nat → Int} {t t' : List Int} (h : ∃ lev par, yX m rs g (fun j => (j : Int) ∈ t) lev par) (e : ∀ x, x ∈ t ↔ x ∈ t') : ∃ lev par, yX m rs g (fun j => (j : Int) ∈ t') lev par := by
  have : (fun j : Nat => (j : Int) ∈ t) = fun j : Nat => (j : Int) ∈ t' := funext fun j => propext (e j)
  rw [← this]; exact h
theorem wl.rev {m : Int} {rs : Rd2} {t : List Int} (h : wl m rs t) : wl m rs t.reverse :=
  ⟨by rw [List.length_reverse]; exact h.len, fun x hx => h.rng x (List.mem_reverse.mp hx), List.pairwise_reverse.mpr (h.nd.imp fun h => Ne.symm h), fun q h0 hq => (h.conn q h0 hq).mono fun p hp => by
    obtain ⟨x, hx, e⟩ := List.mem_map.mp hp
    exact List.mem_map.mpr ⟨x, List.mem_reverse.mpr hx, e⟩⟩
section
variable {T : TC} {d : Nat} {σ : zb} {Q : V → zb → Prop} {P : Nat → zb → Prop}
structure F11 (T : TC) : Prop where
  L : zcY T
  E : TreeFns T
  O : HoFns T
  G : GdFns T
  A : LawAFns T
  heap : FnW T "_law_is_heap" 2 1 (yf T)
  tree : FnW T "_law_tree" 3 10 (yH T)
  sp : FnW T "_law_spoilt" 3 5 (jV T)
  ref : FnW T "_law_refused" 3 1 (jv T)
structure S11 (σ : zb) (m : Int) (rs : Rd2) (t : List Int) (tp hd ke c : Addr) : Prop where
  net : Net m rs
  ok : wl m rs t
  tp : q0 σ tp t
  hd : z2 σ hd rs
  ke : q0 σ ke t
  c : z2 σ c rs
theorem S11.ext {σ σ' m rs t tp hd ke c} (S : S11 σ m rs t tp hd ke c) (e : Ext σ σ') : S11 σ' m rs t tp hd ke c :=
  ⟨S.net, S.ok, S.tp.ext e, S.hd.ext e, S.ke.ext e, S.c.ext e⟩
section
variable {m : Int} {rs : Rd2} {t : List Int} {s tp hd ke c f : Addr} {g : Nat → Int} {K : Out → zP → zb → Prop}
theorem law11_4 (F : F11 T) {σ₀ : zb} (S : S11 σ₀ m rs t tp hd ke c) (e0 : Ext σ₀ σ) (hf0 : σ₀ f = none) (hf : L σ f m.toNat g) (hC : ∃ lev par, yX m rs g (fun j => (j : Int) ∈ t) lev par)
    (hk : ∀ ρ σ', K (.ret (.bool true)) ρ σ') : zdy T (d + 9) [some (.ref s), some (.ref tp), some (.ref hd), some (.ref ke), some (.ref f), none, some (.int m), some (.ref c)] σ K P := by
  have net := S.net
  have hm := net.m0; have hm' := net.m10
  have hl := S.ok.len
  obtain ⟨lev, par, C⟩ := hC
  have hf' : σ f = some (.list (zs (lst m.toNat g))) := hf
  unfold zdy
  refine Eq.mpr (hf.seq) ?_
  refine zi fun he σ₁ hhe e1 hhev => ?_
  simp only [zp, zq]
  rw [zE]
  simp only [wk, zen, ql, zv, zg, zf, ze]
  refine ⟨zH (e1 _ _ hf') trivial, ?_⟩
  refine zH (e1 _ _ hf') ?_
  rw [zQ, jb]
  refine ⟨by unfold lim; exact ltN (lit (r2 _ _) V0 (.num 1000000) [(0,1,V1,.num 10),(2,1,V0,V1)] rfl hm' (tnn (hm))), ?_⟩
  have hne : he ≠ f := (qT hf' hhe).symm
  have hhe2 : L (put σ₁ f (.list (zs (lst m.toNat g) ++ [.int 7]))) he m.toNat g := by
    show put σ₁ f _ he = _
    rw [zS _ hne]; exact hhev
  have S2 := S.ext ((e0.trans e1).put hf0 (.list (zs (lst m.toNat g) ++ [.int 7])))
  generalize put σ₁ f (.list (zs (lst m.toNat g) ++ [.int 7])) = σ₂ at hhe2 S2
  rw [zE]
  simp only [qv, zgd, z5, zK, z4, zv, zg, zf]
  refine wH (d := d + 4) F.O net S2.hd S2.tp (by exact leN (lin (r2 _ _) V0 (.num 100) [(0,1,V1,.num 10),(2,1,V0,V1)] rfl hm' hl)) (fun p1 g1 σ₃ _ e3 _ hc1 hp1 => ?_) fun σ₃ _ h => absurd S.ok h
  obtain ⟨lev', par', C'⟩ := hc1
  have S3 := S2.ext e3
  refine Eqv.same hp1 (hhe2.ext e3) (fun i hi => C'.heapEq net C i (qM hm hi)) ?_
  simp only [if_true, Bool.not_true, zm, Bool.false_eq_true, if_false, qx]
  unfold zgp
  simp only [yn, zan, zgd, zv, zg, zf]
  refine Eqv.zs_t S3.tp S3.ke rfl ?_
  try simp only [decide_true, Bool.false_eq_true, if_false, zm, if_true, zgd, zv, zg, zf]
  refine Eqv.roads_t S3.hd S3.c rfl ?_
  exact hk _ _
theorem law11_3 (F : F11 T) {σ₀ : zb} (S : S11 σ₀ m rs t tp hd ke c) (e0 : Ext σ₀ σ) (hf0 : σ₀ f = none) (hf : L σ f m.toNat g) (hC : ∃ lev par, yX m rs g (fun j => (j : Int) ∈ t) lev par)
    (hk : ∀ ρ σ', K (.ret (.bool true)) ρ σ') : zdz T (d + 9) [some (.ref s), some (.ref tp), some (.ref hd), some (.ref ke), some (.ref f), none, some (.int m), some (.ref c)] σ K P := by
  have net := S.net
  have hm := net.m0; have hm' := net.m10
  have hl := S.ok.len
  obtain ⟨lev, par, C⟩ := id hC
  have R := C.again net
  unfold zdz
  refine Eq.mpr (hf.seq) ?_
  refine zi fun f1 σ₁ _ e1 hf1v => ?_
  have S1 := S.ext (e0.trans e1)
  refine zgR (d := d + 1) F.E net S1.hd (show L σ₁ f1 m.toNat g from hf1v) (R.heap net) (fun a t' σ₂ _ e2 _ ht' ha => ?_) fun σ₂ _ h => absurd R h
  have S2 := S1.ext e2
  have hke2 : σ₂ ke = some (.list (zs t)) := S2.ke
  refine jt hke2 ?_
  refine ⟨t, rfl, by exact ltN (lit (r2 _ _) V0 (.num 64) [(0,1,V1,.num 10),(2,1,V0,V1)] rfl hm' hl), fun ns' hp hs => zi fun so σ₃ _ e3 hsov => ?_⟩
  have hIs : IsTr m rs g ns' := ⟨by rw [hp.length_eq]; exact hl, zgs hs (hp.nodup_iff.mpr S.ok.nd), fun x hx => S.ok.rng x (hp.mem_iff.mp hx), yX.tau hC fun x => hp.mem_iff.symm⟩
  have hsame := ht'.same net hIs
  refine Eqv.zs_t (ha.ext e3) (show q0 σ₃ so ns' from hsov) hsame ?_
  try simp only [hsame, decide_true, if_true, Bool.not_true, zm, Bool.false_eq_true, if_false, qx]
  have S3 := S2.ext e3
  rw [zE]
  simp only [qv, zgd, z5, zK, z4, revW_, zv, zf, zg, ze]
  have hke3 : σ₃ ke = some (.list (zs t)) := S3.ke
  refine jt hke3 ?_
  refine zi fun rv σ₄ _ e4 hrv => ?_
  have S4 := S3.ext e4
  have hrv' : q0 σ₄ rv t.reverse := by
    show σ₄ rv = some (.list (zs t.reverse))
    rw [hrv]; unfold zs; rw [List.map_reverse]
  refine wH (d := d + 4) F.O net S4.hd hrv' (by rw [List.length_reverse]; exact leN (lin (r2 _ _) V0 (.num 100) [(0,1,V1,.num 10),(2,1,V0,V1)] rfl hm' hl)) (fun p1 g1 σ₅ _ e5 _ hc1 hp1 => ?_) fun σ₅ _ h => absurd S.ok.rev h
  obtain ⟨lev', par', C'⟩ := yX.tau hc1 fun x => List.mem_reverse
  have e15 := e1.trans (e2.trans (e3.trans (e4.trans e5)))
  refine Eqv.same hp1 (hf.ext e15) (fun i hi => C'.heapEq net C i (qM hm hi)) ?_
  exact law11_4 F S (e0.trans e15) hf0 (hf.ext e15) hC hk
theorem law11_2 (F : F11 T) (S : S11 σ m rs t tp hd ke c)
    (hk : ∀ ρ σ', K (.ret (.bool true)) ρ σ') : zdA T (d + 9) [some (.ref s), some (.ref tp), some (.ref hd), some (.ref ke), none, none, some (.int m), some (.ref c)] σ K P := by
  have net := S.net
  have hm := net.m0; have hm' := net.m10
  have hl := S.ok.len
  unfold zdA
  refine wH (d := d + 4) F.O net S.hd S.tp (by exact leN (lin (r2 _ _) V0 (.num 100) [(0,1,V1,.num 10),(2,1,V0,V1)] rfl hm' hl)) (fun f g σ₁ hf0 e1 _ hC hf => ?_) fun σ₃ _ h => absurd S.ok h
  obtain ⟨lev, par, C⟩ := id hC
  have R := C.again net
  refine zds (d := d + 7) F.G.whole F.heap hm hm' hf fun σ₂ e2 => ?_
  have e12 := e1.trans e2
  refine zeF (d := d + 7) F.A net (S.c.ext e12) (hf.ext e2) fun b σ₃ e3 hb => ?_
  have hbt : b = true := hb.mpr R
  subst hbt
  exact law11_3 F S (e12.trans e3) hf0 (hf.ext (e2.trans e3)) hC hk
theorem law11_1 (F : F11 T) {o5 : Option V} (net : Net m rs) (hA : zbq σ tp) (hhd : z2 σ hd rs) (hc : z2 σ c rs)
    (hk : ∀ ρ σ', K (.ret (.bool true)) ρ σ') : zbQ T (d + 9) [some (.ref s), some (.ref tp), some (.ref hd), none, none, none, some (.int m), some (.ref c)] σ K P := by
  unfold zbQ
  have ref : ∀ σ', Ext σ σ' → (BadT σ' tp ∨ ∃ t, q0 σ' tp t ∧ t.length ≤ 100 ∧ ¬ wl m rs t) → qR (zag (zM T (d + 9) "_law_refused" (zh (loc 6) (zh (loc 2) (zh (loc 1) zR)))) (eqW false (loc 2) (loc 7))) [some (.ref s), some (.ref tp), some (.ref hd), none, none, none, some (.int m), some (.ref c)] σ' K P := fun σ' e h => by
    refine zeB (d := d + 3) F.O F.ref net (hhd.ext e) h fun σ₂ e2 => ?_
    simp only [zm, if_true, zgd, zv, zf, zg]
    refine Eqv.roads_t (hhd.ext (e.trans e2)) (hc.ext (e.trans e2)) rfl ?_
    exact hk _ _
  rcases hA with ⟨xs, ht⟩ | ⟨vs, ht, hl, hi⟩
  · refine good_tup (d := d + 7) F.G ht ?_
    exact ref σ Ext.refl (.inl (.inl ⟨xs, ht⟩))
  · refine good_spec (d := d + 7) F.G net hc ht hi fun b σ₁ e1 hb => ?_
    cases b with
    | false =>
      refine ref σ₁ e1 ?_
      rcases zdX hi with ⟨t, rfl⟩ | ⟨v, hv, ho⟩
      · rw [zQ] at hl
        exact .inr ⟨t, e1 _ _ ht, hl, fun ok => by cases hb.mpr ⟨t, rfl, ok⟩⟩
      · exact .inl (.inr ⟨vs, e1 _ _ ht, hl, fun u hu => (hi u hu).ext e1, v, hv, ho.ext e1⟩)
    | true =>
      obtain ⟨t, rfl, ok⟩ := hb.mp rfl
      refine ji (e1 _ _ ht) ?_
      refine zi fun ke σ₂ _ e2 hkev => ?_
      have e12 := e1.trans e2
      exact law11_2 F ⟨net, ok, e12 _ _ ht, hhd.ext e12, hkev, hc.ext e12⟩ hk
end
theorem law11_spec (F : F11 T) (hl : FnW T "law" 1 7 (zeO T)) {s : Addr} {ns : List Int} (hs : yK σ s ns) (hq : ∀ σ', Q (.bool true) σ') : zC T (d + 10) "law" [.ref s] σ Q P := by
  refine hl (d + 9) _ _ _ _ rfl ?_
  unfold zeO
  rw [zE]
  simp only [qd, qg, qc, zcW, yd, List.length_cons, List.length_nil, z5, zK, z4, ql, zv, zf]
  refine net_spec (d := d + 7) F.L hs (by exact nnI _) (by exact nnI _) fun t c σ₁ m rs e1 ht hc net hmB hcn => ?_
  have hm := net.m0; have hm' := net.m10
  refine zaE ht ?_
  refine ⟨rfl, ?_⟩
  simp only [yU, zq, zp, yT]
  refine zf5 (d := d + 7) F.L.cell F.tree net (hs.ext e1) hc fun tp tr σ₂ e2 _ htp htl => ?_
  simp only [zq, zp]
  have fin : ∀ (tp : Addr) (σ' : zb), Ext σ₂ σ' → zbq σ' tp → (zA (z1 2 (zbT (loc 7))) (zbQ T (d + 9)) : SW) [some (.ref s), some (.ref tp), none, none, none, none, some (.int m), some (.ref c)] σ' (fun o _ σ' => Q (match o with | .ret v => v | .next => .none) σ') P := by
    intro tp σ' e' hA
    obtain ⟨vs, hv1, hv2⟩ := hc.ext (e2.trans e')
    refine ji hv1 ?_
    refine zi fun hd σ₅ _ e5 hhdv => ?_
    exact law11_1 F (o5 := none) net (hA.ext e5) ⟨vs, hhdv, hv2.ext e5⟩ ((hc.ext (e2.trans e')).ext e5) fun ρ σ' => hq σ'
  have h40 := net.len
  rw [zE]
  simp only [qv, qy, yo, wx, z5, zK, z4, ql, zv, zg, zf]
  refine qm (d := d + 8) F.L.cell ((hs.ext e1).ext e2) (by exact nnI _) (by exact nnI _) fun σ₃ e3 => ?_
  simp only [zd]
  refine ⟨⟨by decide, zew (by decide)⟩, ?_⟩
  refine ⟨by decide, ?_⟩
  simp only [zd, Cmp.run, zm]
  generalize ((js ns 21).fdiv 6).fmod 2 = way
  have htr : zbq σ₃ tp := .inr ⟨zs tr, e3 _ _ htp, by rw [zQ]; exact leN (lin (r2 _ _) V0 (.num 100) [(0,1,V0,V1),(0,1,V1,.num 40)] rfl (leI htl) (leI h40)), zb8⟩
  cases way == 1 with
  | false =>
    exact fin tp σ₃ e3 htr
  | true =>
    refine zhU (d := d + 7) F.L.cell F.sp (((hs.ext e1).ext e2).ext e3) ((hc.ext e2).ext e3) (htp.ext e3) (by exact Nat.le_trans ‹_› ‹_›) (fun hn => by have := List.length_pos_iff.mpr hn; exact Nat.lt_of_lt_of_le ‹_› ‹_›) fun c' σ₄ e4 hA => ?_
    exact fin c' σ₄ (e3.trans e4) hA
end
end Mine
end
section
open PySem
namespace Mine
open PySem.W PySem.Calls PyProof.Rows
theorem viss_ints {vs : List Value} {ns : List Int} (h : IntsAre vs ns) : jL (zs ns) vs := by
  induction h with
  | nil => exact .nil
  | cons n t _ ih => exact .cons (.int n t) ih
noncomputable def σ0 (scr : Addr) (ns : List Int) : zb := fun a => if a = scr then some (.ro (zs ns)) else none
theorem σ0_script (scr : Addr) (ns : List Int) (h : ns.length ≤ 63) : yK (σ0 scr ns) scr ns := ⟨by simp [σ0], h⟩
section
variable {view prog : Program} {loose : List Str} {mean : ExcName → Option Value} {mg mb : Str → Option Value} {w : World} {s₁ : Shared} {scr : Addr}
theorem glOf (Tp : Top view loose mean mg mb s₁.heap) : ∃ o, s₁.heap.get? mainGlobals = some o := let ⟨o, _, _, ho, _⟩ := Tp.g; ⟨o, ho⟩
noncomputable def zgr (prog : Program) (w : World) (scr : Addr) (Tp : Top view loose mean mg mb s₁.heap) : TC := ⟨prog, w, s₁, s₁.heap, scr, mg, mb, glOf Tp, [], true⟩
theorem ok_of (Tp : Top view loose mean mg mb s₁.heap) (hi : importsNone view = true) : (zgr prog w scr Tp).Ok := ⟨Tp.g, Tp.b, Tp.nolimit, Tp.builtins, let ⟨_, ⟨o, _, _, ho, _⟩, _⟩ := (Tp.seer hi).mods; ⟨o, ho⟩⟩
theorem TC.Ok.at {T : TC} (ok : T.Ok) (fr : List Env) : (T.at fr).Ok := ⟨ok.g, ok.b, ok.nolimit, ok.builtins, ok.sysm⟩
theorem Blt.at {T : TC} (B : Blt T) (fr : List Env) : Blt (T.at fr) := ⟨B.none⟩
theorem st_of (Tp : Top view loose mean mg mb s₁.heap) {vs : List Value} {ns : List Int} (hL : s₁.heap.IsList scr vs.toArray) (hI : IntsAre vs ns) (hl : ns.length ≤ 63) : St (zgr prog w scr Tp) (σ0 scr ns) s₁ := by
  have only : ∀ a, (σ0 scr ns a).isSome → a = scr := fun a h => by
    unfold σ0 at h; split at h
    · assumption
    · cases h
  refine ⟨⟨s₁.heap, s₁.toks, rfl⟩, fun b o h => h, fun a so h => ?_, fun a h hn => absurd (only a h) hn, fun a h hn => absurd (only a h) hn, ⟨zs ns, by simp [σ0, zgr]⟩, fun env he => by cases he⟩
  have := only a (by rw [h]; rfl)
  subst this
  simp only [σ0, if_true] at h
  cases h
  obtain ⟨o, ho, hc, n, hd⟩ := hL
  exact ⟨o, ho, by rw [zQ]; unfold lim; exact leN (lin (r1 _) V0 (.num 1000000) [(0,1,V0,.num 63)] rfl (leI hl)), hc, _, n, hd, by simpa using viss_ints hI⟩
noncomputable def bltNames : List Str := ["len", "isinstance", "list", "int", "bool", "tuple", "range", "all", "any", "sum", "max", "min", "sorted", "set", "dict", "enumerate", "reversed", "ValueError"]
noncomputable def bltOKb (view : Program) (loose : List Str) : Bool := bltNames.all fun x =>
  !startupNames.contains x && !loose.contains x && !((recsOf view).map (·.name)).contains x && !((litsOf view).map (·.1)).contains x && !((clssOf view loose).map (·.name)).contains x
theorem blt_of (Tp : Top view loose mean mg mb s₁.heap) (h : bltOKb view loose = true) : Blt (zgr prog w scr Tp) := by
  refine ⟨fun x hx => ?_⟩
  have := List.all_eq_true.mp h x hx
  simp only [Bool.and_eq_true, Bool.not_eq_true'] at this
  obtain ⟨⟨⟨⟨h1, h2⟩, h3⟩, h4⟩, h5⟩ := this
  have no : ∀ {l : List Str}, l.contains x = false → x ∉ l := fun hc hm => by rw [List.contains_iff_mem.mpr hm] at hc; cases hc
  exact Tp.free x (no h1) (no h2) (no h3) (no h4) (no h5)
theorem zho (Tp : Top view loose mean mg mb s₁.heap) {x : Str} {i : Int} (h : valOf view x = some (.int i)) : ∃ t, (zgr prog w scr Tp).mg x = some (.int i t) := by
  obtain ⟨v, hv, hr⟩ := Tp.const x _ h
  have := hr s₁.heap
  cases this with
  | int _ t => exact ⟨t, hv⟩
theorem zN (Tp : Top view loose mean mg mb s₁.heap) {f : Str} {st : Stmt} (j : Nat) (h : ((recsOf view)[j]?).map (fun d => (d.name, d.params, d.body, d.scope)) = some (f, zx st, zu st, zn st)) :
    jX (zgr prog w scr Tp) f (zx st) (zu st) (zn st) := by
  cases e : (recsOf view)[j]? with
  | none => rw [e] at h; cases h
  | some d =>
    rw [e] at h
    simp only [Option.map_some, Option.some.injEq, Prod.mk.injEq] at h
    obtain ⟨h1, h2, h3, h4⟩ := h
    obtain ⟨a, o, pm, code, doc, q1, q2, q3, q4⟩ := Tp.fn d (List.mem_of_getElem? e)
    refine ⟨a, o, _, by rw [← h1]; exact q1, q2, q3, h2, by rw [← h3]; rfl, h4, rfl, rfl, rfl, rfl, rfl, q4⟩
theorem qb {T : TC} (ok : T.Ok) {f : Str} {st : Stmt} {ctx : List Str} {n k : Nat} {w : Nat → SW} (fa : jX T f (zx st) (zu st) (zn st)) (fo : fnOKb (zx st) (zn st) ctx n = true) (hk : ctx.length - n = k)
    (hb : ∀ fd us, fd.params = zx st → fd.defaults = .none → fd.kwdefaults = .none → us.length = n → bindArgs fd ⟨us, []⟩ = pure (((zx st).args.map (·.arg)).zip us))
    (hs : ∀ d fr, jm (T.at fr) d (zn st) ctx (zu st) (w d)) : FnW T f n k w := fun d vs σ Q P hn hw => fnIntro ok fa (fnOK_of fo) hb (fun fr => (hs d fr).own) hn (by rw [hk]; exact hw)
theorem fnW_try {T : TC} (ok : T.Ok) {f : Str} {st : Stmt} {ctx : List Str} {n k : Nat} {w : Nat → SW} (fa : jX T f (zx st) (zu st) (zn st)) (fo : fnOKb (zx st) (zn st) ctx n = true) (hk : ctx.length - n = k)
    (hb : ∀ fd us, fd.params = zx st → fd.defaults = .none → fd.kwdefaults = .none → us.length = n → bindArgs fd ⟨us, []⟩ = pure (((zx st).args.map (·.arg)).zip us))
    (hs : ∀ d fr, SimF (T.at fr) d (zn st) ctx (zu st) (w d)) : FnW T f n k w := fun d vs σ Q P hn hw => fnIntro ok fa (fnOK_of fo) hb (fun fr => hs d fr) hn (by rw [hk]; exact hw)
theorem zfu {fd : FuncData} {params : Arguments} {us : List Value} {r : Sem (List (Str × Value))} (h1 : fd.params = params) (h2 : fd.defaults = .none) (h3 : fd.kwdefaults = .none)
    (h : ∀ fd : FuncData, bindArgs { fd with params := params, defaults := .none, kwdefaults := .none } ⟨us, []⟩ = r) : bindArgs fd ⟨us, []⟩ = r := by
  have := h fd
  cases fd
  simp only at h1 h2 h3
  subst h1 h2 h3
  exact this
theorem zhl {us : List Value} {n : Nat} (h : us.length = n + 1) : ∃ a r, us = a :: r ∧ r.length = n := by
  cases us with
  | nil => cases h
  | cons a r => exact ⟨a, r, rfl, Nat.succ.inj h⟩
theorem bind1 {fd : FuncData} {params : Arguments} {us : List Value} {names : List Str} (h1 : fd.params = params) (h2 : fd.defaults = .none) (h3 : fd.kwdefaults = .none) (hn : us.length = 1)
    (h : ∀ (fd : FuncData) a0, bindArgs { fd with params := params, defaults := .none, kwdefaults := .none } ⟨[a0], []⟩ = pure (names.zip [a0])) : bindArgs fd ⟨us, []⟩ = pure (names.zip us) := by
  obtain ⟨a0, u0, rfl, k0⟩ := zhl hn
  obtain rfl := List.eq_nil_of_length_eq_zero k0
  exact zfu h1 h2 h3 fun fd => h fd a0
theorem zac {fd : FuncData} {params : Arguments} {us : List Value} {names : List Str} (h1 : fd.params = params) (h2 : fd.defaults = .none) (h3 : fd.kwdefaults = .none) (hn : us.length = 2)
    (h : ∀ (fd : FuncData) a0 a1, bindArgs { fd with params := params, defaults := .none, kwdefaults := .none } ⟨[a0, a1], []⟩ = pure (names.zip [a0, a1])) : bindArgs fd ⟨us, []⟩ = pure (names.zip us) := by
  obtain ⟨a0, u0, rfl, k0⟩ := zhl hn
  obtain ⟨a1, u1, rfl, k1⟩ := zhl k0
  obtain rfl := List.eq_nil_of_length_eq_zero k1
  exact zfu h1 h2 h3 fun fd => h fd a0 a1
theorem wI {fd : FuncData} {params : Arguments} {us : List Value} {names : List Str} (h1 : fd.params = params) (h2 : fd.defaults = .none) (h3 : fd.kwdefaults = .none) (hn : us.length = 3)
    (h : ∀ (fd : FuncData) a0 a1 a2, bindArgs { fd with params := params, defaults := .none, kwdefaults := .none } ⟨[a0, a1, a2], []⟩ = pure (names.zip [a0, a1, a2])) : bindArgs fd ⟨us, []⟩ = pure (names.zip us) := by
  obtain ⟨a0, u0, rfl, k0⟩ := zhl hn
  obtain ⟨a1, u1, rfl, k1⟩ := zhl k0
  obtain ⟨a2, u2, rfl, k2⟩ := zhl k1
  obtain rfl := List.eq_nil_of_length_eq_zero k2
  exact zfu h1 h2 h3 fun fd => h fd a0 a1 a2
theorem bind5 {fd : FuncData} {params : Arguments} {us : List Value} {names : List Str} (h1 : fd.params = params) (h2 : fd.defaults = .none) (h3 : fd.kwdefaults = .none) (hn : us.length = 5)
    (h : ∀ (fd : FuncData) a0 a1 a2 a3 a4, bindArgs { fd with params := params, defaults := .none, kwdefaults := .none } ⟨[a0, a1, a2, a3, a4], []⟩ = pure (names.zip [a0, a1, a2, a3, a4])) : bindArgs fd ⟨us, []⟩ = pure (names.zip us) := by
  obtain ⟨a0, u0, rfl, k0⟩ := zhl hn
  obtain ⟨a1, u1, rfl, k1⟩ := zhl k0
  obtain ⟨a2, u2, rfl, k2⟩ := zhl k1
  obtain ⟨a3, u3, rfl, k3⟩ := zhl k2
  obtain ⟨a4, u4, rfl, k4⟩ := zhl k3
  obtain rfl := List.eq_nil_of_length_eq_zero k4
  exact zfu h1 h2 h3 fun fd => h fd a0 a1 a2 a3 a4
theorem ends_of (Tp : Top view loose mean mg mb s₁.heap) {vs : List Value} {ns : List Int} {fa : Addr} {d : Nat} (hL : s₁.heap.IsList scr vs.toArray) (hI : IntsAre vs ns) (hl : ns.length ≤ 63) (hmg : mg "law" = some (.ref fa)) (hd : d ≤ 600)
    (hc : zC (zgr prog w scr Tp) d "law" [.ref scr] (σ0 scr ns) (fun v _ => v = .bool true) (fun _ _ => False)) {Q : Value → Shared → Prop} {E : Value → Shared → Prop}
    (hq : ∀ s', (∀ b o, s₁.heap.get? b = some o → s'.heap.get? b = some o) → s'.os = s₁.os → s'.gens = s₁.gens → Q (.bool true) s') :
    wpAny (model prog w) callerA (call (.ref fa) [.ref scr]) Q E s₁ := by
  obtain ⟨fa', o, fd, h1, h2, h3, h⟩ := hc
  have e : fa' = fa := by
    have : (zgr prog w scr Tp).mg "law" = some (.ref fa) := hmg
    rw [h1] at this; cases this; rfl
  subst e
  have st := st_of (prog := prog) (w := w) Tp hL hI hl
  have ro : zah ((zgr prog w scr Tp).at []) callerA d := ⟨fun _ => rfl, rfl, by show 1 + claimMargin + d < recursionLimit; have : claimMargin = 300 := rfl; have : recursionLimit = 1000 := rfl; (first | lia | omega), by show 4 + 4 * d + 100 < cLine; have : cLine > 3000 := (by decide +kernel); (first | lia | omega)⟩
  refine wpAny_mono (h [] callerA s₁ [.ref scr] ro st (.cons (.ref scr) .nil)) (fun v s' hp => ?_) fun e s' hp => ?_
  · obtain ⟨v', σ', hv, st', p, rfl⟩ := hp
    cases hv
    obtain ⟨h', tk, rfl⟩ := st'.rest
    refine hq _ (fun b o hb => p.keepX ?_ (by simp) (fun h => by cases h) hb) rfl rfl
    unfold Free σ0
    by_cases hbs : b = scr
    · exact .inr hbs
    · exact .inl (by simp [hbs])
  · obtain ⟨_, _, _, _, _, f⟩ := hp; exact f.elim
end
noncomputable def handBody : List Stmt → List Stmt
  | (.Try _ (.ExceptHandler _ _ b _ :: _) _ _ _) :: _ => b
  | _ => []
noncomputable def zcd (x : Nat) : List Str := if x = 0 then [] else ["YardError"]
noncomputable def zhK (h : Heap) (name : Str) : Bool := match h.clsAt mainGlobals name with
  | some (_, _, cd) => ze9.all fun n => (h.nsMap cd.ns n).isNone
  | none => false
noncomputable def xsOk (xs : List Nat) (h : Heap) : Bool := h.isNs mainGlobals && xs.contains 0 && xs.all fun x => h.ownExcOk (qq x) (zcd x) bmV "ValueError.__new__" && zhK h (qq x) && xs.all fun y => decide (h.nsMap mainGlobals (qq x) = h.nsMap mainGlobals (qq y)) == (x == y)
theorem own_of {h : Heap} {x : Nat} (a : h.ownExcOk (qq x) (zcd x) bmV "ValueError.__new__" = true) (b : zhK h (qq x) = true) :
    ∃ (C : Addr) (p : CP), h.nsMap mainGlobals (qq x) = some (.ref C) ∧
      p.bm = ((zcd x).map fun n => (h.nsMap mainGlobals n).getD .none) ++ bmV ∧ h.get? C = some (p.obj C "ValueError.__new__") ∧ h.Ns p.N (h.nsMap p.N) ∧ ∀ n ∈ ze9, h.nsMap p.N n = none := by
  obtain ⟨C, N, nm, q, bs, hdct, sn, sub, ab, col, dd, k0, k1, k2, k3, k5, hb, hC, hN, _⟩ := Heap.ownExc_of_ok a
  refine ⟨C, ⟨nm, q, N, bs, _, hdct, sn, sub, ab, col, dd, k0, k1, k2, k3, k5⟩, hb, rfl, hC, hN, fun n hn => ?_⟩
  unfold zhK at b
  cases hf : h.clsAt mainGlobals (qq x) with
  | none => rw [hf] at b; cases b
  | some z =>
    obtain ⟨C', o', cd'⟩ := z
    rw [hf] at b
    obtain ⟨hn', ho', hd'⟩ := Heap.clsAt_spec hf
    rw [hb] at hn'
    obtain rfl : C = C' := by injection hn' with q1; injection q1
    rw [hC] at ho'
    obtain rfl := Option.some.inj ho'
    obtain rfl : _ = cd' := by injection hd'
    exact Option.isNone_iff_eq_none.mp (List.all_eq_true.mp b n hn)
theorem xg_of {xs : List Nat} {h : Heap} (e : xsOk xs h = true) : XG (h.nsMap mainGlobals) h xs := by
  unfold xsOk at e
  rw [Bool.and_eq_true, Bool.and_eq_true] at e
  obtain ⟨⟨_, e0⟩, e⟩ := e
  have h0 : 0 ∈ xs := List.contains_iff_mem.mp e0
  have each : ∀ x ∈ xs, (h.ownExcOk (qq x) (zcd x) bmV "ValueError.__new__" = true ∧ zhK h (qq x) = true) ∧ ∀ y ∈ xs, (h.nsMap mainGlobals (qq x) = h.nsMap mainGlobals (qq y) ↔ x = y) := by
    intro x hx
    have := List.all_eq_true.mp e x hx
    rw [Bool.and_eq_true, Bool.and_eq_true] at this
    refine ⟨this.1, fun y hy => ?_⟩
    have := List.all_eq_true.mp this.2 y hy
    rw [beq_iff_eq] at this
    rw [← decide_eq_true_iff (p := h.nsMap mainGlobals (qq x) = h.nsMap mainGlobals (qq y)), this, beq_iff_eq]
  intro x hx
  obtain ⟨C, p, hb, hbm, hC, hN, hq⟩ := own_of (each x hx).1.1 (each x hx).1.2
  obtain ⟨C', p', hb', hbm', hC', hN', hq'⟩ := own_of (each 0 h0).1.1 (each 0 h0).1.2
  have hb0 : h.nsMap mainGlobals "YardError" = some (.ref C') := hb'
  have ref_eq : ∀ y ∈ xs, ∀ Cy, h.nsMap mainGlobals (qq y) = some (.ref Cy) → (Value.ref Cy == Value.ref C) = (x == y) ∧ (Value.ref Cy == Value.ref C') = (y == 0) := by
    intro y hy Cy hCy
    have a1 := (each x hx).2 y hy
    have a2 := (each y hy).2 0 h0
    rw [hb, hCy] at a1
    rw [hb', hCy] at a2
    constructor
    · rw [Bool.eq_iff_iff, beq_iff_eq, beq_iff_eq, ← a1]
      exact ⟨fun q => by rw [q], fun q => (Option.some.inj q).symm⟩
    · rw [Bool.eq_iff_iff, beq_iff_eq, beq_iff_eq, ← a2]
      exact ⟨fun q => by rw [q], fun q => Option.some.inj q⟩
  have bmN : ∀ Cy : Addr, bmV.contains (Value.ref Cy) = false := fun Cy => rfl
  refine ⟨C, hb, p, _, hC, hN, hq, ?_, fun y hy Cy hCy => ?_⟩ <;> rw [hbm]
  · by_cases hx0 : x = 0
    · subst hx0; exact .base
    · unfold zcd
      rw [if_neg hx0]
      show zcx h ((h.nsMap mainGlobals "YardError").getD .none :: bmV)
      rw [hb0]
      exact .own hC' hN' hq' .base
  · obtain ⟨r1, r2⟩ := ref_eq y hy Cy hCy
    by_cases hx0 : x = 0
    · subst hx0
      show (Value.ref C :: bmV).contains (Value.ref Cy) = _
      rw [List.contains_cons, bmN, r1, Bool.or_false, subX, Bool.eq_iff_iff, Bool.or_eq_true, beq_iff_eq, beq_iff_eq]
      exact ⟨.inl, fun q => q.elim id Eq.symm⟩
    · unfold zcd
      rw [if_neg hx0]
      show (Value.ref C :: (h.nsMap mainGlobals "YardError").getD .none :: bmV).contains (Value.ref Cy) = _
      rw [hb0]
      show (Value.ref C :: Value.ref C' :: bmV).contains (Value.ref Cy) = _
      rw [List.contains_cons, List.contains_cons, bmN, r1, r2, Bool.or_false, subX]
theorem XG.keeps {mg : Str → Option Value} {h h' : Heap} {xs : List Nat} (X : XG mg h xs) (hk : ∀ b o, h.get? b = some o → h'.get? b = some o) : XG mg h' xs := fun x hx => by
  obtain ⟨C, hm, p, mN, hC, hN, hq, hT, hs⟩ := X x hx
  exact ⟨C, hm, p, mN, hk _ _ hC, hN.keeps hk, hq, hT.keeps hk, hs⟩
noncomputable def xhook (xs : List Nat) : Hook := ⟨Bool, fun s => xsOk xs s.heap, fun _ => true, fun _ h => ∃ m, h.Ns mainGlobals m ∧ XG m h xs,
  fun _ s e => ⟨_, .of_isNs (by have e' : xsOk xs s.heap = true := e; unfold xsOk at e'; rw [Bool.and_eq_true, Bool.and_eq_true] at e'; exact e'.1.1), xg_of e⟩,
  fun _ h h' ⟨m, a, b⟩ hk => ⟨m, a.keeps hk, b.keeps hk⟩⟩
theorem xf_of {view prog : Program} {loose : List Str} {mean : ExcName → Option Value} {mg mb : Str → Option Value} {w : World} {s₁ : Shared} {scr : Addr} (Tp : Top view loose mean mg mb s₁.heap) {xs : List Nat} (Y : (xhook xs).says w s₁.heap) : XF (zgr prog w scr Tp) xs := by
  obtain ⟨m, hm, X⟩ := Y
  obtain rfl : m = mg := funext fun n => hm.agree Tp.g n
  exact X
end Mine
end
section
open PySem
set_option maxRecDepth 100000
set_option maxHeartbeats 2000000
namespace Mine
open PySem.Calls PyProof.Rows
noncomputable def zZ : List Str := "is_within" :: "is_road" :: "come_to" :: "need_net" :: "need_heap" :: "need_tree" :: "other_end" :: "counts_at" :: "pit_counts" :: "table_of" :: "swapped" :: "first_other" :: "determinant" :: "solved" :: "after" :: "least_times" :: "fallen" :: "rests" :: "is_again" :: "need_again" :: "roads_to" :: "least_of" :: "keys_of" :: "tree_of" :: "heap_of" :: "_law_cell_at" :: "_law_whole" :: "_law_mixed" :: "_law_turned" :: "_law_net" :: "_law_degrees" :: "_law_again" :: "_law_is_heap" :: "_law_met" :: "_law_tree" :: "_law_spoilt" :: "_law_good" :: "_law_refused" :: "law" :: []
noncomputable def qw : List (Str × Int) := [("MOST_PLACES", 10), ("MOST_ROADS", 40), ("MOST_GRAINS", 1000000000)]
noncomputable abbrev yw : Stmt := z7 PySem.Challenge.pw_uf020031_11 10
theorem zfZ {T : TC} {fr : List Env} {d : Nat} (ok : (T.at fr).Ok) (B : Blt (T.at fr)) (C : (T.at fr).calm = true) (F : ∀ f ∈ zZ, zI T f) (G : ∀ p ∈ qw, ∃ t, T.mg p.1 = some (.int p.2 t)) (X : XF (T.at fr) [0, 1, 2, 4, 6]) : jm (T.at fr) d (zn yw) zd7 (zu yw) (qI T d) :=
  (zj (zF (yB (jq (zaR ok B .int (za 0) (by decide +kernel) (by decide +kernel) rfl) (jq (simNot (zaR ok B .bool (za 0) (by decide +kernel) (by decide +kernel) rfl)) (zav (simChain .le .le rfl rfl (za 1) (za 0) (za 2))))))))
noncomputable abbrev wS : Stmt := z7 PySem.Challenge.pw_uf020031_11 11
theorem zh1 {T : TC} {fr : List Env} {d : Nat} (ok : (T.at fr).Ok) (B : Blt (T.at fr)) (C : (T.at fr).calm = true) (F : ∀ f ∈ zZ, zI T f) (G : ∀ p ∈ qw, ∃ t, T.mg p.1 = some (.int p.2 t)) (X : XF (T.at fr) [0, 1, 2, 4, 6]) : jm (T.at fr) d (zn wS) zgJ (zu wS) (zaI T d) :=
  (zk (zO (zG (qX (qA (zT (zaR ok B .tuple (za 1) (by decide +kernel) (by decide +kernel) rfl))) (qN (zz .ne rfl (z8 ok B (za 1) (by decide +kernel)) zl)))) (zj (zF z9)) zD)
    (zj (zF (yB (jq (zr ok (zc (zw (za 1) zl) (zc zl (zc (za 0) zo))) (by decide +kernel) (hf := F _ (by decide +kernel))) (jq (zr ok (zc (zw (za 1) zl) (zc zl (zc (za 0) zo))) (by decide +kernel) (hf := F _ (by decide +kernel))) (zav (wZ .ne rfl (zw (za 1) zl) (zw (za 1) zl)))))))))
noncomputable abbrev wU : Stmt := z7 PySem.Challenge.pw_uf020031_11 12
theorem zh3 {T : TC} {fr : List Env} {d : Nat} (ok : (T.at fr).Ok) (B : Blt (T.at fr)) (C : (T.at fr).calm = true) (F : ∀ f ∈ zZ, zI T f) (G : ∀ p ∈ qw, ∃ t, T.mg p.1 = some (.int p.2 t)) (X : XF (T.at fr) [0, 1, 2, 4, 6]) : jm (T.at fr) d (zn wU) zgL (zu wU) (zaK T d) :=
  (zk (zt 2 rfl (by decide +kernel) (zbI (za 0) z9))
    (zk (zt 3 rfl (by decide +kernel) z9)
    (zk (zc8 (zT (za 3)) (zk (zt 3 rfl (by decide +kernel) z9)
    (zj (qr (.tup (.cons rfl (by decide +kernel) (by intro h; cases h) (.cons rfl (by decide +kernel) (by intro h; cases h) .nil))) (qP (za 1)) (zj (zO (simB_eqB true rfl (simInD false rfl (za 4) (za 2)) (simInD false rfl (za 5) (za 2))) (zk (jn (za 2) (za 4) z9)
    (zk (jn (za 2) (za 5) z9)
    (zj (zt 3 rfl (by decide +kernel) z9)))) zD))))))
    (zj (zF (za 2))))))
noncomputable abbrev wf : Stmt := z7 PySem.Challenge.pw_uf020031_11 13
theorem zgV {T : TC} {fr : List Env} {d : Nat} (ok : (T.at fr).Ok) (B : Blt (T.at fr)) (C : (T.at fr).calm = true) (F : ∀ f ∈ zZ, zI T f) (G : ∀ p ∈ qw, ∃ t, T.mg p.1 = some (.int p.2 t)) (X : XF (T.at fr) [0, 1, 2, 4, 6]) : jm (T.at fr) d (zn wf) zfp (zu wf) (za9 T d) :=
  (zk (zO (zG (qX (qA (zT (zr ok (zc (za 0) (zc zl (zc (zhd ok (G ("MOST_PLACES", 10) (by decide +kernel)) (by decide +kernel) (by decide +kernel)) zo))) (by decide +kernel) (hf := F _ (by decide +kernel))))) (qX (qA (zT (zaR ok B .list (za 1) (by decide +kernel) (by decide +kernel) rfl))) (qN (zz .gt rfl (z8 ok B (za 1) (by decide +kernel)) (zhd ok (G ("MOST_ROADS", 40) (by decide +kernel)) (by decide +kernel) (by decide +kernel))))))) (zj zeW) zD)
    (zj (zO (zG (qX (qA (zT (zeY ok B (wY (qD (by decide +kernel)) (qP (za 1)) trivial (zr ok (zc (za 0) (zc (za 2) zo)) (by decide +kernel) (hf := F _ (by decide +kernel)))) (by decide +kernel)))) (qN (zz .ne rfl (z8 ok B (zr ok (zc (za 0) (zc (za 1) zo)) (by decide +kernel) (hf := F _ (by decide +kernel))) (by decide +kernel)) (zJ (za 0) zl))))) (zj zeW) zD)))
noncomputable abbrev yr : Stmt := z7 PySem.Challenge.pw_uf020031_11 14
theorem zfV {T : TC} {fr : List Env} {d : Nat} (ok : (T.at fr).Ok) (B : Blt (T.at fr)) (C : (T.at fr).calm = true) (F : ∀ f ∈ zZ, zI T f) (G : ∀ p ∈ qw, ∃ t, T.mg p.1 = some (.int p.2 t)) (X : XF (T.at fr) [0, 1, 2, 4, 6]) : jm (T.at fr) d (zn yr) zd4 (zu yr) (wo T d) :=
  (zk (zO (zG (qX (qA (zT (zaR ok B .list (za 1) (by decide +kernel) (by decide +kernel) rfl))) (qN (zz .ne rfl (z8 ok B (za 1) (by decide +kernel)) (za 0))))) (zj zeW) zD)
    (zj (zO (qA (zT (zeY ok B (wY (qD (by decide +kernel)) (qP (za 1)) trivial (zr ok (zc (za 2) (zc zl (zc (zhd ok (G ("MOST_GRAINS", 1000000000) (by decide +kernel)) (by decide +kernel) (by decide +kernel)) zo))) (by decide +kernel) (hf := F _ (by decide +kernel)))) (by decide +kernel)))) (zj zeW) zD)))
noncomputable abbrev yq : Stmt := z7 PySem.Challenge.pw_uf020031_11 15
theorem zfU {T : TC} {fr : List Env} {d : Nat} (ok : (T.at fr).Ok) (B : Blt (T.at fr)) (C : (T.at fr).calm = true) (F : ∀ f ∈ zZ, zI T f) (G : ∀ p ∈ qw, ∃ t, T.mg p.1 = some (.int p.2 t)) (X : XF (T.at fr) [0, 1, 2, 4, 6]) : jm (T.at fr) d (zn yq) zd3 (zu yq) (wn T d) :=
  (zk (zO (zG (qX (qA (zT (zaR ok B .list (za 2) (by decide +kernel) (by decide +kernel) rfl))) (qN (zz .ne rfl (z8 ok B (za 2) (by decide +kernel)) (za 0))))) (zj (zc9 ok X (x := 4) (by decide) rfl (by decide +kernel) (by decide +kernel))) zD)
    (zk (zO (zG (qX (qA (zT (zeY ok B (wY (qD (by decide +kernel)) (qP (za 2)) trivial (zr ok (zc (za 3) (zc zl (zc (j3 (z8 ok B (za 1) (by decide +kernel)) zl) zo))) (by decide +kernel) (hf := F _ (by decide +kernel)))) (by decide +kernel)))) (qN (zz .ne rfl (simLenSet ok B (za 2) (by decide +kernel) (by decide +kernel)) (za 0))))) (zj (zc9 ok X (x := 4) (by decide) rfl (by decide +kernel) (by decide +kernel))) zD)
    (zj (zO (zz .ne rfl (z8 ok B (zr ok (zc (za 0) (zc (wY (qD (by decide +kernel)) (qP (za 2)) trivial (zw (za 1) (za 3))) zo)) (by decide +kernel) (hf := F _ (by decide +kernel))) (by decide +kernel)) (zJ (za 0) zl)) (zj (zc9 ok X (x := 4) (by decide) rfl (by decide +kernel) (by decide +kernel))) zD))))
noncomputable abbrev yp : Stmt := z7 PySem.Challenge.pw_uf020031_11 17
theorem zfT {T : TC} {fr : List Env} {d : Nat} (ok : (T.at fr).Ok) (B : Blt (T.at fr)) (C : (T.at fr).calm = true) (F : ∀ f ∈ zZ, zI T f) (G : ∀ p ∈ qw, ∃ t, T.mg p.1 = some (.int p.2 t)) (X : XF (T.at fr) [0, 1, 2, 4, 6]) : jm (T.at fr) d (zn yp) zd2 (zu yp) (jY T d) :=
  (zj (zF (simIf (zz .eq rfl (zw (za 0) zl) (za 1)) (zw (za 0) zl) (zw (za 0) zl))))
noncomputable abbrev yx : Stmt := z7 PySem.Challenge.pw_uf020031_11 18
theorem zf0 {T : TC} {fr : List Env} {d : Nat} (ok : (T.at fr).Ok) (B : Blt (T.at fr)) (C : (T.at fr).calm = true) (F : ∀ f ∈ zZ, zI T f) (G : ∀ p ∈ qw, ∃ t, T.mg p.1 = some (.int p.2 t)) (X : XF (T.at fr) [0, 1, 2, 4, 6]) : jm (T.at fr) d (zn yx) zd8 (zu yx) (jZ T d) :=
  (zk (zt 2 rfl (by decide +kernel) (zbZ (qk (zc zl zo)) (za 0)))
    (zk (qr (.nm rfl (by decide +kernel) (by intro h; cases h)) (qP (za 1)) (zj (qr (.nm rfl (by decide +kernel) (by intro h; cases h)) (qP (za 3)) (zj (zO (zz .lt rfl (za 4) (za 0)) (zj (jn (za 2) (za 4) (zJ (zw (za 2) (za 4)) zl))) zD)))))
    (zj (zF (za 2)))))
noncomputable abbrev j6 : Stmt := z7 PySem.Challenge.pw_uf020031_11 19
theorem zex {T : TC} {fr : List Env} {d : Nat} (ok : (T.at fr).Ok) (B : Blt (T.at fr)) (C : (T.at fr).calm = true) (F : ∀ f ∈ zZ, zI T f) (G : ∀ p ∈ qw, ∃ t, T.mg p.1 = some (.int p.2 t)) (X : XF (T.at fr) [0, 1, 2, 4, 6]) : jm (T.at fr) d (zn j6) zcK (zu j6) (yE T d) :=
  (zk (zt 2 rfl (by decide +kernel) (zbZ (qk (zc zl zo)) (za 0)))
    (zk (qr (.nm rfl (by decide +kernel) (by intro h; cases h)) (qP (za 1)) (zj (zO (zbK false rfl (za 0) (za 3)) (zk (zt 4 rfl (by decide +kernel) (zr ok (zc (za 3) (zc (za 0) zo)) (by decide +kernel) (hf := F _ (by decide +kernel))))
    (zj (jn (za 2) (za 4) (zJ (zw (za 2) (za 4)) zl)))) zD)))
    (zj (zF (za 2)))))
noncomputable abbrev wb : Stmt := z7 PySem.Challenge.pw_uf020031_11 20
theorem zgT {T : TC} {fr : List Env} {d : Nat} (ok : (T.at fr).Ok) (B : Blt (T.at fr)) (C : (T.at fr).calm = true) (F : ∀ f ∈ zZ, zI T f) (G : ∀ p ∈ qw, ∃ t, T.mg p.1 = some (.int p.2 t)) (X : XF (T.at fr) [0, 1, 2, 4, 6]) : jm (T.at fr) d (zn wb) zfn (zu wb) (wV T d) :=
  (zk (yl (i := 2) rfl (by decide +kernel) (qD (by decide +kernel)) (qj ok B (za 0) (by decide +kernel)) trivial (zbZ (qk (zc zl zo)) (za 0)))
    (zk (qr (.tup (.cons rfl (by decide +kernel) (by intro h; cases h) (.cons rfl (by decide +kernel) (by intro h; cases h) .nil))) (qP (za 1)) (zj (qr (.tup (.cons rfl (by decide +kernel) (by intro h; cases h) (.cons rfl (by decide +kernel) (by intro h; cases h) .nil))) (qP (qk (zc (zbl (zc (za 3) (zc (za 4) zo))) (zc (zbl (zc (za 4) (zc (za 3) zo))) zo)))) (zj (zO (zz .lt rfl (za 5) (za 0)) (zk (jn (zw (za 2) (za 5)) (za 5) (zJ (zw (zw (za 2) (za 5)) (za 5)) zl))
    (zj (zO (zz .lt rfl (za 6) (za 0)) (zj (jn (zw (za 2) (za 5)) (za 6) (j3 (zw (zw (za 2) (za 5)) (za 6)) zl))) zD))) zD)))))
    (zj (zF (za 2)))))
noncomputable abbrev wO : Stmt := z7 PySem.Challenge.pw_uf020031_11 22
theorem zhX {T : TC} {fr : List Env} {d : Nat} (ok : (T.at fr).Ok) (B : Blt (T.at fr)) (C : (T.at fr).calm = true) (F : ∀ f ∈ zZ, zI T f) (G : ∀ p ∈ qw, ∃ t, T.mg p.1 = some (.int p.2 t)) (X : XF (T.at fr) [0, 1, 2, 4, 6]) : jm (T.at fr) d (zn wO) zgF (zu wO) (zaF T d) :=
  (zk (zt 3 rfl (by decide +kernel) (zau ok B (za 0) (by decide +kernel)))
    (zk (jn (za 3) (za 1) (zw (za 0) (za 2)))
    (zk (jn (za 3) (za 2) (zw (za 0) (za 1)))
    (zj (zF (za 3))))))
noncomputable abbrev jH : Stmt := z7 PySem.Challenge.pw_uf020031_11 23
theorem zee {T : TC} {fr : List Env} {d : Nat} (ok : (T.at fr).Ok) (B : Blt (T.at fr)) (C : (T.at fr).calm = true) (F : ∀ f ∈ zZ, zI T f) (G : ∀ p ∈ qw, ∃ t, T.mg p.1 = some (.int p.2 t)) (X : XF (T.at fr) [0, 1, 2, 4, 6]) : jm (T.at fr) d (zn jH) zcj (zu jH) (yg T d) :=
  (zk (qr (.nm rfl (by decide +kernel) (by intro h; cases h)) (zfF ok B (za 1) (z8 ok B (za 0) (by decide +kernel)) (by decide +kernel)) (zj (zO (zz .ne rfl (zw (zw (za 0) (za 2)) (za 1)) zl) (zj (zF (za 2))) zD)))
    (zj (zF zhb)))
noncomputable abbrev jI : Stmt := z7 PySem.Challenge.pw_uf020031_11 24
theorem zef {T : TC} {fr : List Env} {d : Nat} (ok : (T.at fr).Ok) (B : Blt (T.at fr)) (C : (T.at fr).calm = true) (F : ∀ f ∈ zZ, zI T f) (G : ∀ p ∈ qw, ∃ t, T.mg p.1 = some (.int p.2 t)) (X : XF (T.at fr) [0, 1, 2, 4, 6]) : jm (T.at fr) d (zn jI) zck (zu jI) (yZ T d) :=
  (zk (yl (i := 0) rfl (by decide +kernel) (qD (by decide +kernel)) (qP (za 0)) trivial (zau ok B (za 6) (by decide +kernel)))
    (zk (zt 1 rfl (by decide +kernel) zl)
    (zk (zt 2 rfl (by decide +kernel) zl)
    (zk (qr (.nm rfl (by decide +kernel) (by intro h; cases h)) (qj ok B (z8 ok B (za 0) (by decide +kernel)) (by decide +kernel)) (zk (zt 4 rfl (by decide +kernel) (zr ok (zc (za 0) (zc (za 3) zo)) (by decide +kernel) (hf := F _ (by decide +kernel))))
    (zk (zO (zh4 false rfl (za 4)) (zj (zF zl)) zD)
    (zk (zO (zz .ne rfl (za 4) (za 3)) (zk (zt 0 rfl (by decide +kernel) (zr ok (zc (za 0) (zc (za 3) (zc (za 4) zo))) (by decide +kernel) (hf := F _ (by decide +kernel))))
    (zj (zt 1 rfl (by decide +kernel) (j3 zl (za 1))))) zD)
    (zk (qr (.nm rfl (by decide +kernel) (by intro h; cases h)) (zfF ok B (zJ (za 3) zl) (z8 ok B (za 0) (by decide +kernel)) (by decide +kernel)) (zj (qr (.nm rfl (by decide +kernel) (by intro h; cases h)) (zfF ok B (zJ (za 3) zl) (z8 ok B (za 0) (by decide +kernel)) (by decide +kernel)) (zk (zt 8 rfl (by decide +kernel) (j3 (jO (zw (zw (za 0) (za 5)) (za 7)) (zw (zw (za 0) (za 3)) (za 3))) (jO (zw (zw (za 0) (za 5)) (za 3)) (zw (zw (za 0) (za 3)) (za 7)))))
    (zj (jn (zw (za 0) (za 5)) (za 7) (jl (za 8) (za 2))))))))
    (zj (zt 2 rfl (by decide +kernel) (zw (zw (za 0) (za 3)) (za 3)))))))))
    (zj (zF (jO (za 1) (za 2))))))))
noncomputable abbrev zaT : Stmt := z7 PySem.Challenge.pw_uf020031_11 25
theorem sim_solved {T : TC} {fr : List Env} {d : Nat} (ok : (T.at fr).Ok) (B : Blt (T.at fr)) (C : (T.at fr).calm = true) (F : ∀ f ∈ zZ, zI T f) (G : ∀ p ∈ qw, ∃ t, T.mg p.1 = some (.int p.2 t)) (X : XF (T.at fr) [0, 1, 2, 4, 6]) : jm (T.at fr) d (zn zaT) c_solved (zu zaT) (zaO T d) :=
  (zk (zt 2 rfl (by decide +kernel) (qk zo))
    (zk (qr (.nm rfl (by decide +kernel) (by intro h; cases h)) (qj ok B (z8 ok B (za 0) (by decide +kernel)) (by decide +kernel)) (zk (yl (i := 4) rfl (by decide +kernel) (qD (by decide +kernel)) (qP (za 0)) trivial (zau ok B (za 6) (by decide +kernel)))
    (zk (qr (.nm rfl (by decide +kernel) (by intro h; cases h)) (qj ok B (z8 ok B (za 0) (by decide +kernel)) (by decide +kernel)) (zj (jn (zw (za 4) (za 5)) (za 3) (zw (za 1) (za 5)))))
    (zj (yh (zcQ (za 2) (zr ok (zc (za 4) zo) (by decide +kernel) (hf := F _ (by decide +kernel)))))))))
    (zj (zF (za 2)))))
noncomputable abbrev zb7 : Stmt := z7 PySem.Challenge.pw_uf020031_11 27
theorem sim_after {T : TC} {fr : List Env} {d : Nat} (ok : (T.at fr).Ok) (B : Blt (T.at fr)) (C : (T.at fr).calm = true) (F : ∀ f ∈ zZ, zI T f) (G : ∀ p ∈ qw, ∃ t, T.mg p.1 = some (.int p.2 t)) (X : XF (T.at fr) [0, 1, 2, 4, 6]) : jm (T.at fr) d (zn zb7) c_after (zu zb7) (zdh T d) :=
  (zk (zt 3 rfl (by decide +kernel) (zau ok B (za 1) (by decide +kernel)))
    (zk (qr (.nm rfl (by decide +kernel) (by intro h; cases h)) (qj ok B (z8 ok B (za 1) (by decide +kernel)) (by decide +kernel)) (zj (qr (.nm rfl (by decide +kernel) (by intro h; cases h)) (qj ok B (z8 ok B (za 1) (by decide +kernel)) (by decide +kernel)) (zj (jn (za 3) (za 5) (j3 (zw (za 3) (za 5)) (jO (zw (zw (za 0) (za 4)) (za 5)) (zw (za 2) (za 4)))))))))
    (zj (zF (za 3)))))
noncomputable abbrev jD : Stmt := z7 PySem.Challenge.pw_uf020031_11 28
theorem zea {T : TC} {fr : List Env} {d : Nat} (ok : (T.at fr).Ok) (B : Blt (T.at fr)) (C : (T.at fr).calm = true) (F : ∀ f ∈ zZ, zI T f) (G : ∀ p ∈ qw, ∃ t, T.mg p.1 = some (.int p.2 t)) (X : XF (T.at fr) [0, 1, 2, 4, 6]) : jm (T.at fr) d (zn jD) zcf (zu jD) (ye T d) :=
  (zk (zt 2 rfl (by decide +kernel) (zr ok (zc (za 0) zo) (by decide +kernel) (hf := F _ (by decide +kernel))))
    (zk (yl (i := 3) rfl (by decide +kernel) (qD (by decide +kernel)) (qj ok B (z8 ok B (za 1) (by decide +kernel)) (by decide +kernel)) trivial (zJ (j3 (zw (za 1) (za 4)) (zw (zw (za 0) (za 4)) (za 4))) zl))
    (zj (zF (wY (qD (by decide +kernel)) (qP (zr ok (zc (za 0) (zc (za 3) zo)) (by decide +kernel) (hf := F _ (by decide +kernel)))) trivial (zhc ok B zl (j3 zl (jl (j3 zl (za 5)) (za 2))) (by decide +kernel)))))))
noncomputable abbrev zaU : Stmt := z7 PySem.Challenge.pw_uf020031_11 29
theorem sim_fallen {T : TC} {fr : List Env} {d : Nat} (ok : (T.at fr).Ok) (B : Blt (T.at fr)) (C : (T.at fr).calm = true) (F : ∀ f ∈ zZ, zI T f) (G : ∀ p ∈ qw, ∃ t, T.mg p.1 = some (.int p.2 t)) (X : XF (T.at fr) [0, 1, 2, 4, 6]) : jm (T.at fr) d (zn zaU) c_fallen (zu zaU) (zc0 T d) :=
  (zk (zt 3 rfl (by decide +kernel) (zr ok (zc (za 0) (zc (za 1) zo)) (by decide +kernel) (hf := F _ (by decide +kernel))))
    (zk (zt 4 rfl (by decide +kernel) (zr ok (zc (za 3) (zc (za 2) zo)) (by decide +kernel) (hf := F _ (by decide +kernel))))
    (zk (zt 5 rfl (by decide +kernel) (zr ok (zc (za 3) (zc (za 2) (zc (za 4) zo))) (by decide +kernel) (hf := F _ (by decide +kernel))))
    (zk (zt 6 rfl (by decide +kernel) z9)
    (zk (zc8 (zT (za 6)) (zk (zt 6 rfl (by decide +kernel) z9)
    (zj (qr (.nm rfl (by decide +kernel) (by intro h; cases h)) (qj ok B (za 0) (by decide +kernel)) (zj (zO (zz .ge rfl (zw (za 5) (za 7)) (zw (zw (za 3) (za 7)) (za 7))) (zk (zt 8 rfl (by decide +kernel) (zbZ (qk (zc zl zo)) (za 0)))
    (zk (jn (za 8) (za 7) (jl (zw (za 5) (za 7)) (zw (zw (za 3) (za 7)) (za 7))))
    (zk (zt 5 rfl (by decide +kernel) (zr ok (zc (za 3) (zc (za 5) (zc (za 8) zo))) (by decide +kernel) (hf := F _ (by decide +kernel))))
    (zk (jn (za 4) (za 7) (zJ (zw (za 4) (za 7)) (zw (za 8) (za 7))))
    (zj (zt 6 rfl (by decide +kernel) z9)))))) zD))))))
    (zj (zF (zbl (zc (za 5) (zc (za 4) zo))))))))))
noncomputable abbrev zb5 : Stmt := z7 PySem.Challenge.pw_uf020031_11 30
theorem sim_rests {T : TC} {fr : List Env} {d : Nat} (ok : (T.at fr).Ok) (B : Blt (T.at fr)) (C : (T.at fr).calm = true) (F : ∀ f ∈ zZ, zI T f) (G : ∀ p ∈ qw, ∃ t, T.mg p.1 = some (.int p.2 t)) (X : XF (T.at fr) [0, 1, 2, 4, 6]) : jm (T.at fr) d (zn zb5) c_rests (zu zb5) (zdg T d) :=
  (zk (zt 3 rfl (by decide +kernel) (zr ok (zc (za 0) (zc (za 1) zo)) (by decide +kernel) (hf := F _ (by decide +kernel))))
    (zj (zF (zeY ok B (wY (qD (by decide +kernel)) (qj ok B (za 0) (by decide +kernel)) trivial (wZ .lt rfl (zw (za 2) (za 4)) (zw (za 3) (za 4)))) (by decide +kernel)))))
noncomputable abbrev wj : Stmt := z7 PySem.Challenge.pw_uf020031_11 32
theorem zgY {T : TC} {fr : List Env} {d : Nat} (ok : (T.at fr).Ok) (B : Blt (T.at fr)) (C : (T.at fr).calm = true) (F : ∀ f ∈ zZ, zI T f) (G : ∀ p ∈ qw, ∃ t, T.mg p.1 = some (.int p.2 t)) (X : XF (T.at fr) [0, 1, 2, 4, 6]) : jm (T.at fr) d (zn wj) zfs (zu wj) (zbd T d) :=
  (zk (zO (qA (zT (zr ok (zc (za 0) (zc (za 1) (zc (za 2) zo))) (by decide +kernel) (hf := F _ (by decide +kernel))))) (zj (zF z9)) zD)
    (zk (zt 3 rfl (by decide +kernel) (zr ok (zc (za 0) (zc (za 1) zo)) (by decide +kernel) (hf := F _ (by decide +kernel))))
    (zk (yl (i := 4) rfl (by decide +kernel) (qD (by decide +kernel)) (qj ok B (za 0) (by decide +kernel)) trivial (zJ (zw (za 2) (za 5)) (zw (za 3) (za 5))))
    (zj (zF (simEq false rfl (zw (zr ok (zc (za 0) (zc (za 1) (zc (za 4) zo))) (by decide +kernel) (hf := F _ (by decide +kernel))) zl) (za 2)))))))
noncomputable abbrev j7 : Stmt := z7 PySem.Challenge.pw_uf020031_11 33
theorem zey {T : TC} {fr : List Env} {d : Nat} (ok : (T.at fr).Ok) (B : Blt (T.at fr)) (C : (T.at fr).calm = true) (F : ∀ f ∈ zZ, zI T f) (G : ∀ p ∈ qw, ∃ t, T.mg p.1 = some (.int p.2 t)) (X : XF (T.at fr) [0, 1, 2, 4, 6]) : jm (T.at fr) d (zn j7) zcL (zu j7) (yF T d) :=
  (zj (zO (qA (zT (zr ok (zc (za 0) (zc (za 1) (zc (za 2) zo))) (by decide +kernel) (hf := F _ (by decide +kernel))))) (zj (zc9 ok X (x := 6) (by decide) rfl (by decide +kernel) (by decide +kernel))) zD))
noncomputable abbrev wd : Stmt := z7 PySem.Challenge.pw_uf020031_11 35
theorem zgU {T : TC} {fr : List Env} {d : Nat} (ok : (T.at fr).Ok) (B : Blt (T.at fr)) (C : (T.at fr).calm = true) (F : ∀ f ∈ zZ, zI T f) (G : ∀ p ∈ qw, ∃ t, T.mg p.1 = some (.int p.2 t)) (X : XF (T.at fr) [0, 1, 2, 4, 6]) : jm (T.at fr) d (zn wd) zfo (zu wd) (za7 T d) :=
  (zj (zF (simCompE ok B (compE_of (by decide +kernel)) (za 0) (by decide +kernel) (zG (qO (zbK false rfl (za 1) (za 4)) (qJ (wA false rfl (zr ok (zc (za 4) (zc (za 1) zo)) (by decide +kernel) (hf := F _ (by decide +kernel))) (za 2))))) (za 3))))
noncomputable abbrev wg : Stmt := z7 PySem.Challenge.pw_uf020031_11 36
theorem zgW {T : TC} {fr : List Env} {d : Nat} (ok : (T.at fr).Ok) (B : Blt (T.at fr)) (C : (T.at fr).calm = true) (F : ∀ f ∈ zZ, zI T f) (G : ∀ p ∈ qw, ∃ t, T.mg p.1 = some (.int p.2 t)) (X : XF (T.at fr) [0, 1, 2, 4, 6]) : jm (T.at fr) d (zn wg) zfq (zu wg) (zba T d) :=
  (zk (zt 5 rfl (by decide +kernel) (zJ (z8 ok B (zr ok (zc (za 1) (zc (za 2) (zc (za 3) zo))) (by decide +kernel) (hf := F _ (by decide +kernel))) (by decide +kernel)) (z8 ok B (zr ok (zc (za 1) (zc (za 2) (zc (za 4) zo))) (by decide +kernel) (hf := F _ (by decide +kernel))) (by decide +kernel))))
    (zj (zF (j3 (zw (zr ok (zc (za 0) (zc (za 1) zo)) (by decide +kernel) (hf := F _ (by decide +kernel))) (za 2)) (za 5)))))
noncomputable abbrev wR : Stmt := z7 PySem.Challenge.pw_uf020031_11 37
theorem zh0 {T : TC} {fr : List Env} {d : Nat} (ok : (T.at fr).Ok) (B : Blt (T.at fr)) (C : (T.at fr).calm = true) (F : ∀ f ∈ zZ, zI T f) (G : ∀ p ∈ qw, ∃ t, T.mg p.1 = some (.int p.2 t)) (X : XF (T.at fr) [0, 1, 2, 4, 6]) : jm (T.at fr) d (zn wR) zgI (zu wR) (zaH T d) :=
  (zk (zt 2 rfl (by decide +kernel) (simDictC ok B (za 0) (by decide +kernel)))
    (zk (yh (simUpd (za 2) (za 1)))
    (zj (zF (za 2)))))
noncomputable abbrev wN : Stmt := z7 PySem.Challenge.pw_uf020031_11 38
theorem zhW {T : TC} {fr : List Env} {d : Nat} (ok : (T.at fr).Ok) (B : Blt (T.at fr)) (C : (T.at fr).calm = true) (F : ∀ f ∈ zZ, zI T f) (G : ∀ p ∈ qw, ∃ t, T.mg p.1 = some (.int p.2 t)) (X : XF (T.at fr) [0, 1, 2, 4, 6]) : jm (T.at fr) d (zn wN) zgE (zu wN) (zbO T d) :=
  (zk (yh (zr ok (zc (za 0) (zc (za 1) zo)) (by decide +kernel) (hf := F _ (by decide +kernel))))
    (zk (yh (zr ok (zc (za 0) (zc (za 2) zo)) (by decide +kernel) (hf := F _ (by decide +kernel))))
    (zk (yh (zr ok (zc (za 0) (zc (za 1) (zc (za 2) zo))) (by decide +kernel) (hf := F _ (by decide +kernel))))
    (zk (zt 3 rfl (by decide +kernel) (qk zo))
    (zk (zt 4 rfl (by decide +kernel) zbJ)
    (zk (zt 5 rfl (by decide +kernel) (zbI (za 0) z9))
    (zk (zc8 (zz .gt rfl (z8 ok B (za 5) (by decide +kernel)) zl) (zk (zt 6 rfl (by decide +kernel) (zr ok (zc (za 4) (zc (za 5) zo)) (by decide +kernel) (hf := F _ (by decide +kernel))))
    (zk (zt 7 rfl (by decide +kernel) zbJ)
    (zk (qr (.nm rfl (by decide +kernel) (by intro h; cases h)) (qj ok B (za 0) (by decide +kernel)) (zk (zt 9 rfl (by decide +kernel) (zr ok (zc (za 0) (zc (za 1) (zc (za 8) (zc (za 4) (zc (za 5) zo))))) (by decide +kernel) (hf := F _ (by decide +kernel))))
    (zj (zO (zG (qO (wA true rfl (za 8) (za 6)) (qJ (zz .ge rfl (zw (za 2) (za 8)) (za 9))))) (zk (yh (zcQ (za 3) (zw (zr ok (zc (za 1) (zc (za 8) (zc (za 5) zo))) (by decide +kernel) (hf := F _ (by decide +kernel))) (j3 (zw (za 2) (za 8)) (za 9)))))
    (zj (jn (za 7) (za 8) z9))) zD))))
    (zk (zt 4 rfl (by decide +kernel) (za 6))
    (zj (zt 5 rfl (by decide +kernel) (za 7))))))))
    (zj (zF (simSort ok B (za 3) (by decide +kernel)))))))))))
noncomputable abbrev wT : Stmt := z7 PySem.Challenge.pw_uf020031_11 39
theorem zh2 {T : TC} {fr : List Env} {d : Nat} (ok : (T.at fr).Ok) (B : Blt (T.at fr)) (C : (T.at fr).calm = true) (F : ∀ f ∈ zZ, zI T f) (G : ∀ p ∈ qw, ∃ t, T.mg p.1 = some (.int p.2 t)) (X : XF (T.at fr) [0, 1, 2, 4, 6]) : jm (T.at fr) d (zn wT) zgK (zu wT) (zaJ T d) :=
  (zk (yh (zr ok (zc (za 0) (zc (za 1) zo)) (by decide +kernel) (hf := F _ (by decide +kernel))))
    (zk (yh (zr ok (zc (za 0) (zc (za 1) (zc (za 2) zo))) (by decide +kernel) (hf := F _ (by decide +kernel))))
    (zk (zt 3 rfl (by decide +kernel) (zbZ (qk (zc zl zo)) (za 0)))
    (zk (zt 4 rfl (by decide +kernel) zbJ)
    (zk (zt 5 rfl (by decide +kernel) (zbI (za 0) z9))
    (zk (zc8 (zz .gt rfl (z8 ok B (za 5) (by decide +kernel)) zl) (zk (zt 6 rfl (by decide +kernel) (zr ok (zc (za 4) (zc (za 5) zo)) (by decide +kernel) (hf := F _ (by decide +kernel))))
    (zk (zt 7 rfl (by decide +kernel) zbJ)
    (zk (qr (.nm rfl (by decide +kernel) (by intro h; cases h)) (qj ok B (za 0) (by decide +kernel)) (zk (zt 9 rfl (by decide +kernel) (zr ok (zc (za 1) (zc (za 8) (zc (za 5) zo))) (by decide +kernel) (hf := F _ (by decide +kernel))))
    (zk (yl (i := 10) rfl (by decide +kernel) (qD (by decide +kernel)) (qP (za 9)) (zbK false rfl (za 11) (za 2)) (za 11))
    (zj (zO (zG (qO (wA true rfl (za 8) (za 6)) (qJ (zz .gt rfl (z8 ok B (za 10) (by decide +kernel)) zl)))) (zk (jn (za 3) (za 8) (zJ (zr ok (zc (za 0) (zc (za 1) (zc (za 8) (zc (za 4) (zc (za 5) zo))))) (by decide +kernel) (hf := F _ (by decide +kernel))) (simIdx (za 9) (zw (za 10) zl))))
    (zj (jn (za 7) (za 8) z9))) zD)))))
    (zk (zt 4 rfl (by decide +kernel) (za 6))
    (zj (zt 5 rfl (by decide +kernel) (za 7))))))))
    (zj (zF (za 3)))))))))
noncomputable abbrev jG : Stmt := z7 PySem.Challenge.pw_uf020031_11 41
theorem zed {T : TC} {fr : List Env} {d : Nat} (ok : (T.at fr).Ok) (B : Blt (T.at fr)) (C : (T.at fr).calm = true) (F : ∀ f ∈ zZ, zI T f) (G : ∀ p ∈ qw, ∃ t, T.mg p.1 = some (.int p.2 t)) (X : XF (T.at fr) [0, 1, 2, 4, 6]) : jm (T.at fr) d (zn jG) zci (zu jG) (jd T d) :=
  (zk (zO (zz .lt rfl (za 1) (z8 ok B (za 0) (by decide +kernel))) (zj (zF (zw (za 0) (za 1)))) zD)
    (zk (zO (zaw false rfl (za 0) (qk zo)) (zj (zF zl)) zD)
    (zk (zt 2 rfl (by decide +kernel) (zX (zJ (jO (zw (za 0) (zX (za 1) (z8 ok B (za 0) (by decide +kernel)))) zl) (jO (za 1) zl)) zl))
    (zj (zF (zX (zJ (jO (za 2) (za 2)) (jO zl (za 1))) zl))))))
noncomputable abbrev yt : Stmt := z7 PySem.Challenge.pw_uf020031_11 42
theorem zfW {T : TC} {fr : List Env} {d : Nat} (ok : (T.at fr).Ok) (B : Blt (T.at fr)) (C : (T.at fr).calm = true) (F : ∀ f ∈ zZ, zI T f) (G : ∀ p ∈ qw, ∃ t, T.mg p.1 = some (.int p.2 t)) (X : XF (T.at fr) [0, 1, 2, 4, 6]) : jm (T.at fr) d (zn yt) zd5 (zu yt) (qH T d) :=
  (zj (zF (yB (jq (zaR ok B .int (za 0) (by decide +kernel) (by decide +kernel) rfl) (zav (simNot (zaR ok B .bool (za 0) (by decide +kernel) (by decide +kernel) rfl)))))))
noncomputable abbrev yu : Stmt := z7 PySem.Challenge.pw_uf020031_11 43
theorem zfX {T : TC} {fr : List Env} {d : Nat} (ok : (T.at fr).Ok) (B : Blt (T.at fr)) (C : (T.at fr).calm = true) (F : ∀ f ∈ zZ, zI T f) (G : ∀ p ∈ qw, ∃ t, T.mg p.1 = some (.int p.2 t)) (X : XF (T.at fr) [0, 1, 2, 4, 6]) : jm (T.at fr) d (zn yu) zd6 (zu yu) (wp T d) :=
  (zk (zt 2 rfl (by decide +kernel) (zX (zJ (jO (za 0) zl) (jO (jO (zJ (za 1) zl) zl) (zJ (zX (za 0) zl) zl))) zl))
    (zj (zF (zX (zJ (jO (za 2) (za 2)) (jO zl (za 1))) zl))))
noncomputable abbrev j8 : Stmt := z7 PySem.Challenge.pw_uf020031_11 44
theorem zez {T : TC} {fr : List Env} {d : Nat} (ok : (T.at fr).Ok) (B : Blt (T.at fr)) (C : (T.at fr).calm = true) (F : ∀ f ∈ zZ, zI T f) (G : ∀ p ∈ qw, ∃ t, T.mg p.1 = some (.int p.2 t)) (X : XF (T.at fr) [0, 1, 2, 4, 6]) : jm (T.at fr) d (zn j8) zcM (zu j8) (yG T d) :=
  (zk (zO (zz .eq rfl (za 0) (za 1)) (zj (zF (za 1))) zD)
    (zk (zO (zz .eq rfl (zX (jl (za 2) zl) zl) zl) (zj (zF (j3 (j3 (za 1) zl) (zX (zJ (za 0) (za 2)) (za 1))))) zD)
    (zj (zF (zX (zJ (za 0) (za 2)) (za 1))))))
noncomputable abbrev wP : Stmt := z7 PySem.Challenge.pw_uf020031_11 45
theorem zhY {T : TC} {fr : List Env} {d : Nat} (ok : (T.at fr).Ok) (B : Blt (T.at fr)) (C : (T.at fr).calm = true) (F : ∀ f ∈ zZ, zI T f) (G : ∀ p ∈ qw, ∃ t, T.mg p.1 = some (.int p.2 t)) (X : XF (T.at fr) [0, 1, 2, 4, 6]) : jm (T.at fr) d (zn wP) zgG (zu wP) (zbP T d) :=
  (zk (zt 2 rfl (by decide +kernel) (zr ok (zc (za 0) (zc zl zo)) (by decide +kernel) (hf := F _ (by decide +kernel))))
    (zk (zt 3 rfl (by decide +kernel) (zX (za 2) zl))
    (zk (zt 4 rfl (by decide +kernel) (yB (jq (wZ .eq rfl (zX (jl (za 2) zl) zl) zl) (zav (wZ .gt rfl (za 1) zl)))))
    (zk (zO (zT (za 4)) (zj (zt 3 rfl (by decide +kernel) (zJ zl (zX (jl (za 2) zl) (zw (qk (zc zl (zc zl (zc zl (zc zl zo))))) (za 1)))))) zD)
    (zk (zt 5 rfl (by decide +kernel) (qk zo))
    (zk (qr (.nm rfl (by decide +kernel) (by intro h; cases h)) (qj ok B (za 3) (by decide +kernel)) (zk (zt 11 rfl (by decide +kernel) (zr ok (zc (za 0) (zc (zJ zl (za 6)) zo)) (by decide +kernel) (hf := F _ (by decide +kernel))))
    (zk (zt 12 rfl (by decide +kernel) (zX (za 11) (zJ (za 6) zl)))
    (zk (zO (zG (qO (zT (za 4)) (qO (zz .gt rfl (zX (za 11) zl) zl) (qJ (zz .eq rfl (zX (jl (za 2) zl) zl) zl))))) (zj (zt 12 rfl (by decide +kernel) (za 6))) zD)
    (zj (yh (zcQ (za 5) (zbl (zc (za 6) (zc (zw (qk (zc (za 3) (zc (j3 (za 12) zl) zo))) (simIntB ok B (wZ .gt rfl (za 12) zl) (by decide +kernel))) zo))))))))))
    (zk (zt 7 rfl (by decide +kernel) (zX (zr ok (zc (za 0) (zc zl zo)) (by decide +kernel) (hf := F _ (by decide +kernel))) zl))
    (zk (zO (zG (qO (zT (za 4)) (qJ (zz .lt rfl (za 1) zl)))) (zj (zt 7 rfl (by decide +kernel) (zX (za 7) zl))) zD)
    (zk (zO (zG (qO (zz .eq rfl (zX (jl (zr ok (zc (za 0) (zc zl zo)) (by decide +kernel) (hf := F _ (by decide +kernel))) zl) zl) zl) (qJ (zG (qX (zz .lt rfl (za 3) zl) (qN (zz .eq rfl (za 1) zl))))))) (zj (zt 7 rfl (by decide +kernel) (j3 zl (za 3)))) zD)
    (zk (qr (.nm rfl (by decide +kernel) (by intro h; cases h)) (qj ok B (jO (za 7) (simIntB ok B (wZ .gt rfl (za 3) zl) (by decide +kernel))) (by decide +kernel)) (zk (zt 11 rfl (by decide +kernel) (zr ok (zc (zr ok (zc (za 0) (zc (zJ zl (zX (za 6) zl)) zo)) (by decide +kernel) (hf := F _ (by decide +kernel))) (zc (za 6) zo)) (by decide +kernel) (hf := F _ (by decide +kernel))))
    (zk (zt 13 rfl (by decide +kernel) (zX (za 11) (zJ (za 3) zl)))
    (zj (yh (zcQ (za 5) (zbl (zc (za 13) (zc (zX (zJ (zJ (za 13) zl) (zX (jl (za 11) zl) (za 3))) (zJ (za 3) zl)) zo)))))))))
    (zk (zt 8 rfl (by decide +kernel) (zX (zr ok (zc (za 0) (zc zl zo)) (by decide +kernel) (hf := F _ (by decide +kernel))) zl))
    (zk (zt 9 rfl (by decide +kernel) (zX (zr ok (zc (za 0) (zc zl zo)) (by decide +kernel) (hf := F _ (by decide +kernel))) (zJ (z8 ok B (za 5) (by decide +kernel)) zl)))
    (zk (zt 10 rfl (by decide +kernel) (qk zo))
    (zk (qr (.tup (.cons rfl (by decide +kernel) (by intro h; cases h) (.cons rfl (by decide +kernel) (by intro h; cases h) .nil))) (qP (w6 (zdm (za 5) (za 9)) (zbY (za 5) (za 9)))) (zk (zt 15 rfl (by decide +kernel) (zbl (zc (zr ok (zc (za 13) (zc (za 3) (zc (za 8) zo))) (by decide +kernel) (hf := F _ (by decide +kernel))) (zc (zr ok (zc (za 14) (zc (za 3) (zc (za 8) zo))) (by decide +kernel) (hf := F _ (by decide +kernel))) zo))))
    (zk (zO (zz .eq rfl (zX (zJ (jl (zr ok (zc (za 0) (zc zl zo)) (by decide +kernel) (hf := F _ (by decide +kernel))) zl) (z8 ok B (za 10) (by decide +kernel))) zl) zl) (zj (zt 15 rfl (by decide +kernel) (zbl (zc (zw (za 15) zl) (zc (zw (za 15) zl) zo))))) zD)
    (zj (yh (zcQ (za 10) (za 15)))))))
    (zj (zF (zbl (zc (za 3) (zc (za 10) zo)))))))))))))))))))
noncomputable abbrev jF : Stmt := z7 PySem.Challenge.pw_uf020031_11 46
theorem zec {T : TC} {fr : List Env} {d : Nat} (ok : (T.at fr).Ok) (B : Blt (T.at fr)) (C : (T.at fr).calm = true) (F : ∀ f ∈ zZ, zI T f) (G : ∀ p ∈ qw, ∃ t, T.mg p.1 = some (.int p.2 t)) (X : XF (T.at fr) [0, 1, 2, 4, 6]) : jm (T.at fr) d (zn jF) zch (zu jF) (jA T d) :=
  (zk (zt 2 rfl (by decide +kernel) (zbZ (qk (zc zl zo)) (za 0)))
    (zk (qr (.tup (.cons rfl (by decide +kernel) (by intro h; cases h) (.cons rfl (by decide +kernel) (by intro h; cases h) .nil))) (qP (za 1)) (zj (qr (.nm rfl (by decide +kernel) (by intro h; cases h)) (qP (qk (zc (za 3) (zc (za 4) zo)))) (zj (zO (zz .lt rfl (za 5) (za 0)) (zj (jn (za 2) (za 5) (zJ (zw (za 2) (za 5)) zl))) zD)))))
    (zj (zF (za 2)))))
noncomputable def zbz : List Str := "_law_many" :: "_law_roads" :: "_law_heap" :: "_law_most" :: "_law_burnt" :: "_law_turn" :: "_law_k" :: "_law_fire" :: "_law_road" :: []
noncomputable abbrev yv : Stmt := z7 PySem.Challenge.pw_uf020031_11 47
theorem zfY {T : TC} {fr : List Env} {d : Nat} (ok : (T.at fr).Ok) (B : Blt (T.at fr)) (C : (T.at fr).calm = true) (F : ∀ f ∈ zZ, zI T f) (G : ∀ p ∈ qw, ∃ t, T.mg p.1 = some (.int p.2 t)) (X : XF (T.at fr) [0, 1, 2, 4, 6]) : jm (T.at fr) d (zn yv) zbz (zu yv) (zaj T d) :=
  (zk (zt 3 rfl (by decide +kernel) (zr ok (zc (za 0) (zc (za 1) zo)) (by decide +kernel) (hf := F _ (by decide +kernel))))
    (zk (zO (zaw true rfl (wY (qD (by decide +kernel)) (qj ok B (za 0) (by decide +kernel)) (qA (zeX .le .lt rfl rfl zl (zw (za 2) (za 6)) (zw (za 3) (za 6)))) (za 6)) (qk zo)) (zj (zF z9)) zD)
    (zk (zt 4 rfl (by decide +kernel) (zbI (za 0) z9))
    (zk (qr (.nm rfl (by decide +kernel) (by intro h; cases h)) (qj ok B (za 0) (by decide +kernel)) (zj (qr (.nm rfl (by decide +kernel) (by intro h; cases h)) (qj ok B (za 0) (by decide +kernel)) (zk (yl (i := 7) rfl (by decide +kernel) (qD (by decide +kernel)) (qP (za 1)) (zG (qO (zbK false rfl (za 6) (za 8)) (qJ (zG (qX (wA false rfl (zw (za 8) zl) (za 4)) (qN (wA false rfl (zw (za 8) zl) (za 4)))))))) (za 8))
    (zj (zO (zG (qO (wA true rfl (za 6) (za 4)) (qJ (zz .ge rfl (zJ (zw (za 2) (za 6)) (z8 ok B (za 7) (by decide +kernel))) (zw (za 3) (za 6)))))) (zj (jn (za 4) (za 6) z9)) zD))))))
    (zj (zF (wZ .eq rfl (z8 ok B (za 4) (by decide +kernel)) (zJ (za 0) zl))))))))
noncomputable abbrev jE : Stmt := z7 PySem.Challenge.pw_uf020031_11 48
theorem zeb {T : TC} {fr : List Env} {d : Nat} (ok : (T.at fr).Ok) (B : Blt (T.at fr)) (C : (T.at fr).calm = true) (F : ∀ f ∈ zZ, zI T f) (G : ∀ p ∈ qw, ∃ t, T.mg p.1 = some (.int p.2 t)) (X : XF (T.at fr) [0, 1, 2, 4, 6]) : jm (T.at fr) d (zn jE) zcg (zu jE) (yf T d) :=
  (zj (zF (yB (jq (zaR ok B .list (za 0) (by decide +kernel) (by decide +kernel) rfl) (jq (wZ .eq rfl (z8 ok B (za 0) (by decide +kernel)) (za 1)) (zav (simEq false rfl (wY (qD (by decide +kernel)) (qP (za 0)) (qA (zT (zr ok (zc (za 2) zo) (by decide +kernel) (hf := F _ (by decide +kernel))))) (za 2)) (qk zo))))))))
noncomputable abbrev wQ : Stmt := z7 PySem.Challenge.pw_uf020031_11 49
theorem zhZ {T : TC} {fr : List Env} {d : Nat} (ok : (T.at fr).Ok) (B : Blt (T.at fr)) (C : (T.at fr).calm = true) (F : ∀ f ∈ zZ, zI T f) (G : ∀ p ∈ qw, ∃ t, T.mg p.1 = some (.int p.2 t)) (X : XF (T.at fr) [0, 1, 2, 4, 6]) : jm (T.at fr) d (zn wQ) zgH (zu wQ) (zaG T d) :=
  (zk (zt 3 rfl (by decide +kernel) (zbI (za 0) z9))
    (zk (qr (.nm rfl (by decide +kernel) (by intro h; cases h)) (qj ok B (za 0) (by decide +kernel)) (zj (qr (.nm rfl (by decide +kernel) (by intro h; cases h)) (qP (za 2)) (zk (zhf (.cons rfl (by decide +kernel) (by intro h; cases h) (.cons rfl (by decide +kernel) (by intro h; cases h) .nil)) (zw (za 1) (za 5)))
    (zj (zO (zG (qX (wA false rfl (za 6) (za 3)) (qN (wA false rfl (za 7) (za 3))))) (zk (jn (za 3) (za 6) z9)
    (zj (jn (za 3) (za 7) z9))) zD))))))
    (zj (zF (za 3)))))
noncomputable abbrev j9 : Stmt := z7 PySem.Challenge.pw_uf020031_11 50
theorem zeA {T : TC} {fr : List Env} {d : Nat} (ok : (T.at fr).Ok) (B : Blt (T.at fr)) (C : (T.at fr).calm = true) (F : ∀ f ∈ zZ, zI T f) (G : ∀ p ∈ qw, ∃ t, T.mg p.1 = some (.int p.2 t)) (X : XF (T.at fr) [0, 1, 2, 4, 6]) : jm (T.at fr) d (zn j9) zcN (zu j9) (yH T d) :=
  (zk (zt 3 rfl (by decide +kernel) (zr ok (zc (za 0) (zc zl zo)) (by decide +kernel) (hf := F _ (by decide +kernel))))
    (zk (zt 4 rfl (by decide +kernel) zbJ)
    (zk (qr (.nm rfl (by decide +kernel) (by intro h; cases h)) (qj ok B (zJ (za 1) zl) (by decide +kernel)) (zj (jn (za 4) (za 5) (za 5))))
    (zk (zt 6 rfl (by decide +kernel) (qk zo))
    (zk (zt 7 rfl (by decide +kernel) (zgZ ok B (z8 ok B (za 2) (by decide +kernel)) (by decide +kernel) (by decide +kernel)))
    (zk (qr (.nm rfl (by decide +kernel) (by intro h; cases h)) (qj ok B (z8 ok B (za 2) (by decide +kernel)) (by decide +kernel)) (zk (zt 9 rfl (by decide +kernel) (simPop (za 7) (zX (zJ (za 3) (jO (za 8) (zX (jl (za 3) zl) zl))) (z8 ok B (za 7) (by decide +kernel)))))
    (zk (zhf (.cons rfl (by decide +kernel) (by intro h; cases h) (.cons rfl (by decide +kernel) (by intro h; cases h) .nil)) (zw (za 2) (za 9)))
    (zj (zO (zz .ne rfl (zdl (za 4) (za 10)) (zdl (za 4) (za 11))) (zk (yh (zcQ (za 6) (za 9)))
    (zk (zt 12 rfl (by decide +kernel) (zdl (za 4) (za 10)))
    (zj (qr (.nm rfl (by decide +kernel) (by intro h; cases h)) (qj ok B (zJ (za 1) zl) (by decide +kernel)) (zj (zO (zz .eq rfl (zdl (za 4) (za 5)) (za 12)) (zj (jn (za 4) (za 5) (zdl (za 4) (za 11)))) zD)))))) zD)))))
    (zj (zF (za 6)))))))))
noncomputable abbrev jo : Stmt := z7 PySem.Challenge.pw_uf020031_11 51
theorem zdk {T : TC} {fr : List Env} {d : Nat} (ok : (T.at fr).Ok) (B : Blt (T.at fr)) (C : (T.at fr).calm = true) (F : ∀ f ∈ zZ, zI T f) (G : ∀ p ∈ qw, ∃ t, T.mg p.1 = some (.int p.2 t)) (X : XF (T.at fr) [0, 1, 2, 4, 6]) : jm (T.at fr) d (zn jo) zby (zu jo) (jV T d) :=
  (zk (zt 3 rfl (by decide +kernel) (zw (qk (zc zl (zc zl (zc zl (zc zl (zc zl (zc zl (zc zl (zc zl zo))))))))) (zX (jl (zr ok (zc (za 0) (zc zl zo)) (by decide +kernel) (hf := F _ (by decide +kernel))) zl) zl)))
    (zk (zt 4 rfl (by decide +kernel) (zr ok (zc (za 0) (zc zl zo)) (by decide +kernel) (hf := F _ (by decide +kernel))))
    (zk (zt 5 rfl (by decide +kernel) (zX (za 4) (zhc ok B zl (z8 ok B (za 2) (by decide +kernel)) (by decide +kernel))))
    (zk (zO (zG (qO (zz .eq rfl (za 3) zl) (qJ (zaw true rfl (za 2) (qk zo))))) (zk (zt 6 rfl (by decide +kernel) (zw (za 2) (zX (jl (za 4) zl) (z8 ok B (za 2) (by decide +kernel)))))
    (zj (zF (w6 (w6 (zbY (za 2) (za 5)) (qk (zc (za 6) zo))) (zdm (za 2) (zJ (za 5) zl)))))) zD)
    (zk (zO (zG (qO (zz .eq rfl (za 3) zl) (qJ (zaw true rfl (za 2) (qk zo))))) (zj (zF (w6 (zbY (za 2) (za 5)) (zdm (za 2) (zJ (za 5) zl))))) zD)
    (zk (zO (zz .eq rfl (za 3) zl) (zj (zF (w6 (za 2) (qk (zc (zX (jl (za 4) zl) (zhc ok B zl (z8 ok B (za 1) (by decide +kernel)) (by decide +kernel))) zo))))) zD)
    (zk (zO (zG (qO (zz .eq rfl (za 3) zl) (qJ (zaw true rfl (za 2) (qk zo))))) (zj (zF (w6 (w6 (zbY (za 2) (za 5)) (qk (zc (zX (jl (za 4) zl) (z8 ok B (za 1) (by decide +kernel))) zo))) (zdm (za 2) (zJ (za 5) zl))))) zD)
    (zk (zO (zz .eq rfl (za 3) zl) (zk (zt 7 rfl (by decide +kernel) (zw (qk (zc (simNegI zl) (zc (z8 ok B (za 1) (by decide +kernel)) (zc z9 (zc zhb (zc simStr (zc (zbl (zc zl zo)) zo))))))) (zX (jl (za 4) zl) zl)))
    (zj (zF (w6 (w6 (zbY (za 2) (za 5)) (qk (zc (za 7) zo))) (zdm (za 2) (zJ (za 5) zl)))))) zD)
    (zj (zF (simTupleOf ok B (za 2) (by decide +kernel))))))))))))
noncomputable abbrev wh : Stmt := z7 PySem.Challenge.pw_uf020031_11 52
theorem zgX {T : TC} {fr : List Env} {d : Nat} (ok : (T.at fr).Ok) (B : Blt (T.at fr)) (C : (T.at fr).calm = true) (F : ∀ f ∈ zZ, zI T f) (G : ∀ p ∈ qw, ∃ t, T.mg p.1 = some (.int p.2 t)) (X : XF (T.at fr) [0, 1, 2, 4, 6]) : jm (T.at fr) d (zn wh) zfr (zu wh) (wW T d) :=
  (zk (zO (zG (qX (qA (zT (zaR ok B .list (za 2) (by decide +kernel) (by decide +kernel) rfl))) (qN (zz .ne rfl (z8 ok B (za 2) (by decide +kernel)) (za 0))))) (zj (zF z9)) zD)
    (zk (qr (.nm rfl (by decide +kernel) (by intro h; cases h)) (qj ok B (za 0) (by decide +kernel)) (zk (zO (zG (qX (qA (zT (zr ok (zc (zw (za 2) (za 3)) zo) (by decide +kernel) (hf := F _ (by decide +kernel))))) (qN (qA (zeX .le .lt rfl rfl zl (zw (za 2) (za 3)) (z8 ok B (za 1) (by decide +kernel))))))) (zj (zF z9)) zD)
    (zj (zO (zbK false rfl (zw (za 2) (za 3)) (zbY (za 2) (za 3))) (zj (zF z9)) zD))))
    (zj (zF (wZ .eq rfl (z8 ok B (zr ok (zc (za 0) (zc (za 1) (zc (za 2) zo))) (by decide +kernel) (hf := F _ (by decide +kernel))) (by decide +kernel)) (zJ (za 0) zl))))))
noncomputable abbrev qp : Stmt := z7 PySem.Challenge.pw_uf020031_11 53
theorem zbH {T : TC} {d : Nat} (ok : T.Ok) (B : Blt T) (F : ∀ f ∈ zZ, zI T f) (G : ∀ p ∈ qw, ∃ t, T.mg p.1 = some (.int p.2 t)) (X : XF T [0, 1, 2, 4, 6]) : jm T d (zn qp) wz (handBody (zu qp)) (jM T d) :=
  (zj (zF (yB (jq (simIsiX ok B X 4 (by decide) (za 3) rfl (by decide +kernel) (by decide +kernel) (by decide +kernel)) (zav (simIsiV ok B X (za 3) (by decide +kernel) (by decide +kernel)))))))
theorem zcz {T : TC} {fr : List Env} {d : Nat} (ok : (T.at fr).Ok) (B : Blt (T.at fr)) (C : (T.at fr).calm = true) (F : ∀ f ∈ zZ, zI T f) (G : ∀ p ∈ qw, ∃ t, T.mg p.1 = some (.int p.2 t)) (X : XF (T.at fr) [0, 1, 2, 4, 6]) : SimF (T.at fr) d (zn qp) wz (zu qp) (jv T d) :=
  (simTry ok X (by decide) 3 (zr ok (zc (za 0) (zc (za 1) (zc (za 2) zo))) (by decide +kernel) (hf := F _ (by decide +kernel))) (zbH ok.cold B.cold F G X)
    (zj (zF z9)) rfl (by decide +kernel) (by decide +kernel))
noncomputable abbrev zb6 : Stmt := z7 PySem.Challenge.pw_uf020031_11 54
theorem sim_law11 {T : TC} {fr : List Env} {d : Nat} (ok : (T.at fr).Ok) (B : Blt (T.at fr)) (C : (T.at fr).calm = true) (F : ∀ f ∈ zZ, zI T f) (G : ∀ p ∈ qw, ∃ t, T.mg p.1 = some (.int p.2 t)) (X : XF (T.at fr) [0, 1, 2, 4, 6]) : jm (T.at fr) d (zn zb6) c_law11 (zu zb6) (zeO T d) :=
  (zk (zhf (.cons rfl (by decide +kernel) (by intro h; cases h) (.cons rfl (by decide +kernel) (by intro h; cases h) .nil)) (zr ok (zc (za 0) (zc zl zo)) (by decide +kernel) (hf := F _ (by decide +kernel))))
    (zk (zt 1 rfl (by decide +kernel) (zr ok (zc (za 0) (zc (za 6) (zc (za 7) zo))) (by decide +kernel) (hf := F _ (by decide +kernel))))
    (zk (zO (zz .eq rfl (zX (jl (zr ok (zc (za 0) (zc zl zo)) (by decide +kernel) (hf := F _ (by decide +kernel))) zl) zl) zl) (zj (zt 1 rfl (by decide +kernel) (zr ok (zc (za 0) (zc (za 7) (zc (za 1) zo))) (by decide +kernel) (hf := F _ (by decide +kernel))))) zD)
    (zk (zt 2 rfl (by decide +kernel) (zau ok B (za 7) (by decide +kernel)))
    (zk (zO (qA (zT (zr ok (zc (za 6) (zc (za 7) (zc (za 1) zo))) (by decide +kernel) (hf := F _ (by decide +kernel))))) (zj (zF (yB (jq (zr ok (zc (za 6) (zc (za 2) (zc (za 1) zo))) (by decide +kernel) (hf := F _ (by decide +kernel))) (zav (simEq false rfl (za 2) (za 7))))))) zD)
    (zk (zt 3 rfl (by decide +kernel) (zau ok B (za 1) (by decide +kernel)))
    (zk (zt 4 rfl (by decide +kernel) (zr ok (zc (za 6) (zc (za 2) (zc (za 1) zo))) (by decide +kernel) (hf := F _ (by decide +kernel))))
    (zk (zO (zG (qX (qA (zT (zr ok (zc (za 4) (zc (za 6) zo)) (by decide +kernel) (hf := F _ (by decide +kernel))))) (qN (qA (zT (zr ok (zc (za 6) (zc (za 7) (zc (za 4) zo))) (by decide +kernel) (hf := F _ (by decide +kernel)))))))) (zj (zF z9)) zD)
    (zk (zO (zaw true rfl (zr ok (zc (za 6) (zc (za 2) (zc (zau ok B (za 4) (by decide +kernel)) zo))) (by decide +kernel) (hf := F _ (by decide +kernel))) (simSort ok B (za 3) (by decide +kernel))) (zj (zF z9)) zD)
    (zk (zO (zaw true rfl (zr ok (zc (za 6) (zc (za 2) (zc (simRev (za 3) (simNegI zl) (fun _ _ _ _ h => h)) zo))) (by decide +kernel) (hf := F _ (by decide +kernel))) (za 4)) (zj (zF z9)) zD)
    (zk (zt 5 rfl (by decide +kernel) (zau ok B (za 4) (by decide +kernel)))
    (zk (yh (zcQ (za 4) zl))
    (zk (zO (zaw true rfl (zr ok (zc (za 6) (zc (za 2) (zc (za 1) zo))) (by decide +kernel) (hf := F _ (by decide +kernel))) (za 5)) (zj (zF z9)) zD)
    (zj (zF (yB (jq (simEq false rfl (za 1) (za 3)) (zav (simEq false rfl (za 2) (za 7))))))))))))))))))))
structure Fns (T : TC) : Prop where
  a_is_within : jX T "is_within" (zx yw) (zu yw) (zn yw)
  a_is_road : jX T "is_road" (zx wS) (zu wS) (zn wS)
  a_come_to : jX T "come_to" (zx wU) (zu wU) (zn wU)
  a_need_net : jX T "need_net" (zx wf) (zu wf) (zn wf)
  a_need_heap : jX T "need_heap" (zx yr) (zu yr) (zn yr)
  a_need_tree : jX T "need_tree" (zx yq) (zu yq) (zn yq)
  a_other_end : jX T "other_end" (zx yp) (zu yp) (zn yp)
  a_counts_at : jX T "counts_at" (zx yx) (zu yx) (zn yx)
  a_pit_counts : jX T "pit_counts" (zx j6) (zu j6) (zn j6)
  a_table_of : jX T "table_of" (zx wb) (zu wb) (zn wb)
  a_swapped : jX T "swapped" (zx wO) (zu wO) (zn wO)
  a_first_other : jX T "first_other" (zx jH) (zu jH) (zn jH)
  a_determinant : jX T "determinant" (zx jI) (zu jI) (zn jI)
  a_solved : jX T "solved" (zx zaT) (zu zaT) (zn zaT)
  a_after : jX T "after" (zx zb7) (zu zb7) (zn zb7)
  a_least_times : jX T "least_times" (zx jD) (zu jD) (zn jD)
  a_fallen : jX T "fallen" (zx zaU) (zu zaU) (zn zaU)
  a_rests : jX T "rests" (zx zb5) (zu zb5) (zn zb5)
  a_is_again : jX T "is_again" (zx wj) (zu wj) (zn wj)
  a_need_again : jX T "need_again" (zx j7) (zu j7) (zn j7)
  a_roads_to : jX T "roads_to" (zx wd) (zu wd) (zn wd)
  a_least_of : jX T "least_of" (zx wg) (zu wg) (zn wg)
  a_keys_of : jX T "keys_of" (zx wR) (zu wR) (zn wR)
  a_tree_of : jX T "tree_of" (zx wN) (zu wN) (zn wN)
  a_heap_of : jX T "heap_of" (zx wT) (zu wT) (zn wT)
  a_law_cell_at : jX T "_law_cell_at" (zx jG) (zu jG) (zn jG)
  a_law_whole : jX T "_law_whole" (zx yt) (zu yt) (zn yt)
  a_law_mixed : jX T "_law_mixed" (zx yu) (zu yu) (zn yu)
  a_law_turned : jX T "_law_turned" (zx j8) (zu j8) (zn j8)
  a_law_net : jX T "_law_net" (zx wP) (zu wP) (zn wP)
  a_law_degrees : jX T "_law_degrees" (zx jF) (zu jF) (zn jF)
  a_law_again : jX T "_law_again" (zx yv) (zu yv) (zn yv)
  a_law_is_heap : jX T "_law_is_heap" (zx jE) (zu jE) (zn jE)
  a_law_met : jX T "_law_met" (zx wQ) (zu wQ) (zn wQ)
  a_law_tree11 : jX T "_law_tree" (zx j9) (zu j9) (zn j9)
  a_law_spoilt11 : jX T "_law_spoilt" (zx jo) (zu jo) (zn jo)
  a_law_good : jX T "_law_good" (zx wh) (zu wh) (zn wh)
  a_law_refused11 : jX T "_law_refused" (zx qp) (zu qp) (zn qp)
  a_law11 : jX T "law" (zx zb6) (zu zb6) (zn zb6)
  g : ∀ p ∈ qw, ∃ t, T.mg p.1 = some (.int p.2 t)
theorem Fns.known {T : TC} (h : Fns T) : ∀ f ∈ zZ, zI T f := by
  intro f hf
  simp only [zZ, List.mem_cons, List.not_mem_nil, or_false] at hf
  rcases hf with rfl | rfl | rfl | rfl | rfl | rfl | rfl | rfl | rfl | rfl | rfl | rfl | rfl | rfl | rfl | rfl | rfl | rfl | rfl | rfl | rfl | rfl | rfl | rfl | rfl | rfl | rfl | rfl | rfl | rfl | rfl | rfl | rfl | rfl | rfl | rfl | rfl | rfl | rfl
  · exact h.a_is_within.known
  · exact h.a_is_road.known
  · exact h.a_come_to.known
  · exact h.a_need_net.known
  · exact h.a_need_heap.known
  · exact h.a_need_tree.known
  · exact h.a_other_end.known
  · exact h.a_counts_at.known
  · exact h.a_pit_counts.known
  · exact h.a_table_of.known
  · exact h.a_swapped.known
  · exact h.a_first_other.known
  · exact h.a_determinant.known
  · exact h.a_solved.known
  · exact h.a_after.known
  · exact h.a_least_times.known
  · exact h.a_fallen.known
  · exact h.a_rests.known
  · exact h.a_is_again.known
  · exact h.a_need_again.known
  · exact h.a_roads_to.known
  · exact h.a_least_of.known
  · exact h.a_keys_of.known
  · exact h.a_tree_of.known
  · exact h.a_heap_of.known
  · exact h.a_law_cell_at.known
  · exact h.a_law_whole.known
  · exact h.a_law_mixed.known
  · exact h.a_law_turned.known
  · exact h.a_law_net.known
  · exact h.a_law_degrees.known
  · exact h.a_law_again.known
  · exact h.a_law_is_heap.known
  · exact h.a_law_met.known
  · exact h.a_law_tree11.known
  · exact h.a_law_spoilt11.known
  · exact h.a_law_good.known
  · exact h.a_law_refused11.known
  · exact h.a_law11.known
theorem zcF {T : TC} (ok : T.Ok) (B : Blt T) (C : T.calm = true) (X : XF T [0, 1, 2, 4, 6]) (h : Fns T) : FnW T "is_within" 3 0 (qI T) := qb ok h.a_is_within (ctx := zd7) (by decide +kernel) rfl (fun fd us h1 h2 h3 hn => wI h1 h2 h3 hn fun _ _ _ _ => rfl) fun d fr => zfZ (fr := fr) (ok.at fr) (B.at fr) C h.known h.g X
theorem zfb {T : TC} (ok : T.Ok) (B : Blt T) (C : T.calm = true) (X : XF T [0, 1, 2, 4, 6]) (h : Fns T) : FnW T "is_road" 2 0 (zaI T) := qb ok h.a_is_road (ctx := zgJ) (by decide +kernel) rfl (fun fd us h1 h2 h3 hn => zac h1 h2 h3 hn fun _ _ _ => rfl) fun d fr => zh1 (fr := fr) (ok.at fr) (B.at fr) C h.known h.g X
theorem zfc {T : TC} (ok : T.Ok) (B : Blt T) (C : T.calm = true) (X : XF T [0, 1, 2, 4, 6]) (h : Fns T) : FnW T "come_to" 2 4 (zaK T) := qb ok h.a_come_to (ctx := zgL) (by decide +kernel) rfl (fun fd us h1 h2 h3 hn => zac h1 h2 h3 hn fun _ _ _ => rfl) fun d fr => zh3 (fr := fr) (ok.at fr) (B.at fr) C h.known h.g X
theorem zdZ {T : TC} (ok : T.Ok) (B : Blt T) (C : T.calm = true) (X : XF T [0, 1, 2, 4, 6]) (h : Fns T) : FnW T "need_net" 2 1 (za9 T) := qb ok h.a_need_net (ctx := zfp) (by decide +kernel) rfl (fun fd us h1 h2 h3 hn => zac h1 h2 h3 hn fun _ _ _ => rfl) fun d fr => zgV (fr := fr) (ok.at fr) (B.at fr) C h.known h.g X
theorem zg2 {T : TC} (ok : T.Ok) (B : Blt T) (C : T.calm = true) (X : XF T [0, 1, 2, 4, 6]) (h : Fns T) : FnW T "need_heap" 2 1 (wo T) := qb ok h.a_need_heap (ctx := zd4) (by decide +kernel) rfl (fun fd us h1 h2 h3 hn => zac h1 h2 h3 hn fun _ _ _ => rfl) fun d fr => zfV (fr := fr) (ok.at fr) (B.at fr) C h.known h.g X
theorem zg1 {T : TC} (ok : T.Ok) (B : Blt T) (C : T.calm = true) (X : XF T [0, 1, 2, 4, 6]) (h : Fns T) : FnW T "need_tree" 3 1 (wn T) := qb ok h.a_need_tree (ctx := zd3) (by decide +kernel) rfl (fun fd us h1 h2 h3 hn => wI h1 h2 h3 hn fun _ _ _ _ => rfl) fun d fr => zfU (fr := fr) (ok.at fr) (B.at fr) C h.known h.g X
theorem za5 {T : TC} (ok : T.Ok) (B : Blt T) (C : T.calm = true) (X : XF T [0, 1, 2, 4, 6]) (h : Fns T) : FnW T "other_end" 2 0 (jY T) := qb ok h.a_other_end (ctx := zd2) (by decide +kernel) rfl (fun fd us h1 h2 h3 hn => zac h1 h2 h3 hn fun _ _ _ => rfl) fun d fr => zfT (fr := fr) (ok.at fr) (B.at fr) C h.known h.g X
theorem za6 {T : TC} (ok : T.Ok) (B : Blt T) (C : T.calm = true) (X : XF T [0, 1, 2, 4, 6]) (h : Fns T) : FnW T "counts_at" 2 3 (jZ T) := qb ok h.a_counts_at (ctx := zd8) (by decide +kernel) rfl (fun fd us h1 h2 h3 hn => zac h1 h2 h3 hn fun _ _ _ => rfl) fun d fr => zf0 (fr := fr) (ok.at fr) (B.at fr) C h.known h.g X
theorem zf9 {T : TC} (ok : T.Ok) (B : Blt T) (C : T.calm = true) (X : XF T [0, 1, 2, 4, 6]) (h : Fns T) : FnW T "pit_counts" 2 3 (yE T) := qb ok h.a_pit_counts (ctx := zcK) (by decide +kernel) rfl (fun fd us h1 h2 h3 hn => zac h1 h2 h3 hn fun _ _ _ => rfl) fun d fr => zex (fr := fr) (ok.at fr) (B.at fr) C h.known h.g X
theorem zia {T : TC} (ok : T.Ok) (B : Blt T) (C : T.calm = true) (X : XF T [0, 1, 2, 4, 6]) (h : Fns T) : FnW T "table_of" 2 5 (wV T) := qb ok h.a_table_of (ctx := zfn) (by decide +kernel) rfl (fun fd us h1 h2 h3 hn => zac h1 h2 h3 hn fun _ _ _ => rfl) fun d fr => zgT (fr := fr) (ok.at fr) (B.at fr) C h.known h.g X
theorem fw_swapped {T : TC} (ok : T.Ok) (B : Blt T) (C : T.calm = true) (X : XF T [0, 1, 2, 4, 6]) (h : Fns T) : FnW T "swapped" 3 1 (zaF T) := qb ok h.a_swapped (ctx := zgF) (by decide +kernel) rfl (fun fd us h1 h2 h3 hn => wI h1 h2 h3 hn fun _ _ _ _ => rfl) fun d fr => zhX (fr := fr) (ok.at fr) (B.at fr) C h.known h.g X
theorem zeK {T : TC} (ok : T.Ok) (B : Blt T) (C : T.calm = true) (X : XF T [0, 1, 2, 4, 6]) (h : Fns T) : FnW T "first_other" 2 1 (yg T) := qb ok h.a_first_other (ctx := zcj) (by decide +kernel) rfl (fun fd us h1 h2 h3 hn => zac h1 h2 h3 hn fun _ _ _ => rfl) fun d fr => zee (fr := fr) (ok.at fr) (B.at fr) C h.known h.g X
theorem zeL {T : TC} (ok : T.Ok) (B : Blt T) (C : T.calm = true) (X : XF T [0, 1, 2, 4, 6]) (h : Fns T) : FnW T "determinant" 1 8 (yZ T) := qb ok h.a_determinant (ctx := zck) (by decide +kernel) rfl (fun fd us h1 h2 h3 hn => bind1 h1 h2 h3 hn fun _ _ => rfl) fun d fr => zef (fr := fr) (ok.at fr) (B.at fr) C h.known h.g X
theorem fw_solved {T : TC} (ok : T.Ok) (B : Blt T) (C : T.calm = true) (X : XF T [0, 1, 2, 4, 6]) (h : Fns T) : FnW T "solved" 2 5 (zaO T) := qb ok h.a_solved (ctx := c_solved) (by decide +kernel) rfl (fun fd us h1 h2 h3 hn => zac h1 h2 h3 hn fun _ _ _ => rfl) fun d fr => sim_solved (fr := fr) (ok.at fr) (B.at fr) C h.known h.g X
theorem fw_after {T : TC} (ok : T.Ok) (B : Blt T) (C : T.calm = true) (X : XF T [0, 1, 2, 4, 6]) (h : Fns T) : FnW T "after" 3 3 (zdh T) := qb ok h.a_after (ctx := c_after) (by decide +kernel) rfl (fun fd us h1 h2 h3 hn => wI h1 h2 h3 hn fun _ _ _ _ => rfl) fun d fr => sim_after (fr := fr) (ok.at fr) (B.at fr) C h.known h.g X
theorem zeH {T : TC} (ok : T.Ok) (B : Blt T) (C : T.calm = true) (X : XF T [0, 1, 2, 4, 6]) (h : Fns T) : FnW T "least_times" 2 4 (ye T) := qb ok h.a_least_times (ctx := zcf) (by decide +kernel) rfl (fun fd us h1 h2 h3 hn => zac h1 h2 h3 hn fun _ _ _ => rfl) fun d fr => zea (fr := fr) (ok.at fr) (B.at fr) C h.known h.g X
theorem fw_fallen {T : TC} (ok : T.Ok) (B : Blt T) (C : T.calm = true) (X : XF T [0, 1, 2, 4, 6]) (h : Fns T) : FnW T "fallen" 3 6 (zc0 T) := qb ok h.a_fallen (ctx := c_fallen) (by decide +kernel) rfl (fun fd us h1 h2 h3 hn => wI h1 h2 h3 hn fun _ _ _ _ => rfl) fun d fr => sim_fallen (fr := fr) (ok.at fr) (B.at fr) C h.known h.g X
theorem fw_rests {T : TC} (ok : T.Ok) (B : Blt T) (C : T.calm = true) (X : XF T [0, 1, 2, 4, 6]) (h : Fns T) : FnW T "rests" 3 2 (zdg T) := qb ok h.a_rests (ctx := c_rests) (by decide +kernel) rfl (fun fd us h1 h2 h3 hn => wI h1 h2 h3 hn fun _ _ _ _ => rfl) fun d fr => sim_rests (fr := fr) (ok.at fr) (B.at fr) C h.known h.g X
theorem zic {T : TC} (ok : T.Ok) (B : Blt T) (C : T.calm = true) (X : XF T [0, 1, 2, 4, 6]) (h : Fns T) : FnW T "is_again" 3 3 (zbd T) := qb ok h.a_is_again (ctx := zfs) (by decide +kernel) rfl (fun fd us h1 h2 h3 hn => wI h1 h2 h3 hn fun _ _ _ _ => rfl) fun d fr => zgY (fr := fr) (ok.at fr) (B.at fr) C h.known h.g X
theorem zga {T : TC} (ok : T.Ok) (B : Blt T) (C : T.calm = true) (X : XF T [0, 1, 2, 4, 6]) (h : Fns T) : FnW T "need_again" 3 0 (yF T) := qb ok h.a_need_again (ctx := zcL) (by decide +kernel) rfl (fun fd us h1 h2 h3 hn => wI h1 h2 h3 hn fun _ _ _ _ => rfl) fun d fr => zey (fr := fr) (ok.at fr) (B.at fr) C h.known h.g X
theorem zdY {T : TC} (ok : T.Ok) (B : Blt T) (C : T.calm = true) (X : XF T [0, 1, 2, 4, 6]) (h : Fns T) : FnW T "roads_to" 3 2 (za7 T) := qb ok h.a_roads_to (ctx := zfo) (by decide +kernel) rfl (fun fd us h1 h2 h3 hn => wI h1 h2 h3 hn fun _ _ _ _ => rfl) fun d fr => zgU (fr := fr) (ok.at fr) (B.at fr) C h.known h.g X
theorem zd0 {T : TC} (ok : T.Ok) (B : Blt T) (C : T.calm = true) (X : XF T [0, 1, 2, 4, 6]) (h : Fns T) : FnW T "least_of" 5 1 (zba T) := qb ok h.a_least_of (ctx := zfq) (by decide +kernel) rfl (fun fd us h1 h2 h3 hn => bind5 h1 h2 h3 hn fun _ _ _ _ _ _ => rfl) fun d fr => zgW (fr := fr) (ok.at fr) (B.at fr) C h.known h.g X
theorem zfa {T : TC} (ok : T.Ok) (B : Blt T) (C : T.calm = true) (X : XF T [0, 1, 2, 4, 6]) (h : Fns T) : FnW T "keys_of" 2 1 (zaH T) := qb ok h.a_keys_of (ctx := zgI) (by decide +kernel) rfl (fun fd us h1 h2 h3 hn => zac h1 h2 h3 hn fun _ _ _ => rfl) fun d fr => zh0 (fr := fr) (ok.at fr) (B.at fr) C h.known h.g X
theorem fw_tree_of {T : TC} (ok : T.Ok) (B : Blt T) (C : T.calm = true) (X : XF T [0, 1, 2, 4, 6]) (h : Fns T) : FnW T "tree_of" 3 7 (zbO T) := qb ok h.a_tree_of (ctx := zgE) (by decide +kernel) rfl (fun fd us h1 h2 h3 hn => wI h1 h2 h3 hn fun _ _ _ _ => rfl) fun d fr => zhW (fr := fr) (ok.at fr) (B.at fr) C h.known h.g X
theorem fw_heap_of {T : TC} (ok : T.Ok) (B : Blt T) (C : T.calm = true) (X : XF T [0, 1, 2, 4, 6]) (h : Fns T) : FnW T "heap_of" 3 9 (zaJ T) := qb ok h.a_heap_of (ctx := zgK) (by decide +kernel) rfl (fun fd us h1 h2 h3 hn => wI h1 h2 h3 hn fun _ _ _ _ => rfl) fun d fr => zh2 (fr := fr) (ok.at fr) (B.at fr) C h.known h.g X
theorem zeJ {T : TC} (ok : T.Ok) (B : Blt T) (C : T.calm = true) (X : XF T [0, 1, 2, 4, 6]) (h : Fns T) : FnW T "_law_cell_at" 2 1 (jd T) := qb ok h.a_law_cell_at (ctx := zci) (by decide +kernel) rfl (fun fd us h1 h2 h3 hn => zac h1 h2 h3 hn fun _ _ _ => rfl) fun d fr => zed (fr := fr) (ok.at fr) (B.at fr) C h.known h.g X
theorem zg3 {T : TC} (ok : T.Ok) (B : Blt T) (C : T.calm = true) (X : XF T [0, 1, 2, 4, 6]) (h : Fns T) : FnW T "_law_whole" 1 0 (qH T) := qb ok h.a_law_whole (ctx := zd5) (by decide +kernel) rfl (fun fd us h1 h2 h3 hn => bind1 h1 h2 h3 hn fun _ _ => rfl) fun d fr => zfW (fr := fr) (ok.at fr) (B.at fr) C h.known h.g X
theorem zg4 {T : TC} (ok : T.Ok) (B : Blt T) (C : T.calm = true) (X : XF T [0, 1, 2, 4, 6]) (h : Fns T) : FnW T "_law_mixed" 2 1 (wp T) := qb ok h.a_law_mixed (ctx := zd6) (by decide +kernel) rfl (fun fd us h1 h2 h3 hn => zac h1 h2 h3 hn fun _ _ _ => rfl) fun d fr => zfX (fr := fr) (ok.at fr) (B.at fr) C h.known h.g X
theorem zgb {T : TC} (ok : T.Ok) (B : Blt T) (C : T.calm = true) (X : XF T [0, 1, 2, 4, 6]) (h : Fns T) : FnW T "_law_turned" 3 0 (yG T) := qb ok h.a_law_turned (ctx := zcM) (by decide +kernel) rfl (fun fd us h1 h2 h3 hn => wI h1 h2 h3 hn fun _ _ _ _ => rfl) fun d fr => zez (fr := fr) (ok.at fr) (B.at fr) C h.known h.g X
theorem fw_law_net {T : TC} (ok : T.Ok) (B : Blt T) (C : T.calm = true) (X : XF T [0, 1, 2, 4, 6]) (h : Fns T) : FnW T "_law_net" 2 14 (zbP T) := qb ok h.a_law_net (ctx := zgG) (by decide +kernel) rfl (fun fd us h1 h2 h3 hn => zac h1 h2 h3 hn fun _ _ _ => rfl) fun d fr => zhY (fr := fr) (ok.at fr) (B.at fr) C h.known h.g X
theorem zbu {T : TC} (ok : T.Ok) (B : Blt T) (C : T.calm = true) (X : XF T [0, 1, 2, 4, 6]) (h : Fns T) : FnW T "_law_degrees" 2 4 (jA T) := qb ok h.a_law_degrees (ctx := zch) (by decide +kernel) rfl (fun fd us h1 h2 h3 hn => zac h1 h2 h3 hn fun _ _ _ => rfl) fun d fr => zec (fr := fr) (ok.at fr) (B.at fr) C h.known h.g X
theorem zg5 {T : TC} (ok : T.Ok) (B : Blt T) (C : T.calm = true) (X : XF T [0, 1, 2, 4, 6]) (h : Fns T) : FnW T "_law_again" 3 6 (zaj T) := qb ok h.a_law_again (ctx := zbz) (by decide +kernel) rfl (fun fd us h1 h2 h3 hn => wI h1 h2 h3 hn fun _ _ _ _ => rfl) fun d fr => zfY (fr := fr) (ok.at fr) (B.at fr) C h.known h.g X
theorem zeI {T : TC} (ok : T.Ok) (B : Blt T) (C : T.calm = true) (X : XF T [0, 1, 2, 4, 6]) (h : Fns T) : FnW T "_law_is_heap" 2 1 (yf T) := qb ok h.a_law_is_heap (ctx := zcg) (by decide +kernel) rfl (fun fd us h1 h2 h3 hn => zac h1 h2 h3 hn fun _ _ _ => rfl) fun d fr => zeb (fr := fr) (ok.at fr) (B.at fr) C h.known h.g X
theorem fw_law_met {T : TC} (ok : T.Ok) (B : Blt T) (C : T.calm = true) (X : XF T [0, 1, 2, 4, 6]) (h : Fns T) : FnW T "_law_met" 3 5 (zaG T) := qb ok h.a_law_met (ctx := zgH) (by decide +kernel) rfl (fun fd us h1 h2 h3 hn => wI h1 h2 h3 hn fun _ _ _ _ => rfl) fun d fr => zhZ (fr := fr) (ok.at fr) (B.at fr) C h.known h.g X
theorem zgc {T : TC} (ok : T.Ok) (B : Blt T) (C : T.calm = true) (X : XF T [0, 1, 2, 4, 6]) (h : Fns T) : FnW T "_law_tree" 3 10 (yH T) := qb ok h.a_law_tree11 (ctx := zcN) (by decide +kernel) rfl (fun fd us h1 h2 h3 hn => wI h1 h2 h3 hn fun _ _ _ _ => rfl) fun d fr => zeA (fr := fr) (ok.at fr) (B.at fr) C h.known h.g X
theorem zel {T : TC} (ok : T.Ok) (B : Blt T) (C : T.calm = true) (X : XF T [0, 1, 2, 4, 6]) (h : Fns T) : FnW T "_law_spoilt" 3 5 (jV T) := qb ok h.a_law_spoilt11 (ctx := zby) (by decide +kernel) rfl (fun fd us h1 h2 h3 hn => wI h1 h2 h3 hn fun _ _ _ _ => rfl) fun d fr => zdk (fr := fr) (ok.at fr) (B.at fr) C h.known h.g X
theorem zib {T : TC} (ok : T.Ok) (B : Blt T) (C : T.calm = true) (X : XF T [0, 1, 2, 4, 6]) (h : Fns T) : FnW T "_law_good" 3 1 (wW T) := qb ok h.a_law_good (ctx := zfr) (by decide +kernel) rfl (fun fd us h1 h2 h3 hn => wI h1 h2 h3 hn fun _ _ _ _ => rfl) fun d fr => zgX (fr := fr) (ok.at fr) (B.at fr) C h.known h.g X
theorem zdv {T : TC} (ok : T.Ok) (B : Blt T) (C : T.calm = true) (X : XF T [0, 1, 2, 4, 6]) (h : Fns T) : FnW T "_law_refused" 3 1 (jv T) := fnW_try ok h.a_law_refused11 (ctx := wz) (by decide +kernel) rfl (fun fd us h1 h2 h3 hn => wI h1 h2 h3 hn fun _ _ _ _ => rfl) fun d fr => zcz (fr := fr) (ok.at fr) (B.at fr) C h.known h.g X
theorem fw_law11 {T : TC} (ok : T.Ok) (B : Blt T) (C : T.calm = true) (X : XF T [0, 1, 2, 4, 6]) (h : Fns T) : FnW T "law" 1 7 (zeO T) := qb ok h.a_law11 (ctx := c_law11) (by decide +kernel) rfl (fun fd us h1 h2 h3 hn => bind1 h1 h2 h3 hn fun _ _ => rfl) fun d fr => sim_law11 (fr := fr) (ok.at fr) (B.at fr) C h.known h.g X
end Mine
end
open PySem PySem.W PyProof.Rows
set_option maxRecDepth 100000
namespace Mine
theorem law_call {T : TC} {σ : zb} {s : Addr} {ns : List Int} (ok : T.Ok) (B : Blt T) (C : T.calm = true) (X : XF T [0, 1, 2, 4, 6]) (h : Fns T) (hs : yK σ s ns) : zC T 300 "law" [.ref s] σ (fun v _ => v = .bool true) (fun _ _ => False) :=
  law11_spec (d := 290) ⟨⟨(zeJ ok B C X h), (zg4 ok B C X h), (zgb ok B C X h), (fw_law_net ok B C X h), (zbu ok B C X h)⟩, ⟨⟨(zcF ok B C X h), (zfb ok B C X h), (zfc ok B C X h), (zdZ ok B C X h)⟩, (zg2 ok B C X h), ⟨⟨⟨(zeK ok B C X h), (fw_swapped ok B C X h), (zeL ok B C X h)⟩, (fw_solved ok B C X h), (zeH ok B C X h), (zia ok B C X h), (fw_after ok B C X h), (fw_fallen ok B C X h)⟩, (za6 ok B C X h), (fw_rests ok B C X h), (za5 ok B C X h), (zf9 ok B C X h), (zic ok B C X h)⟩, (zga ok B C X h), ⟨⟨⟨(za5 ok B C X h), (zdY ok B C X h)⟩, (za6 ok B C X h), (zd0 ok B C X h)⟩, (zfa ok B C X h)⟩, (fw_tree_of ok B C X h)⟩, ⟨⟨⟨(zcF ok B C X h), (zfb ok B C X h), (zfc ok B C X h), (zdZ ok B C X h)⟩, (zg1 ok B C X h)⟩, ⟨⟨⟨(za5 ok B C X h), (zdY ok B C X h)⟩, (za6 ok B C X h), (zd0 ok B C X h)⟩, (zfa ok B C X h)⟩, (fw_heap_of ok B C X h)⟩, ⟨(zg3 ok B C X h), (fw_law_met ok B C X h), (zib ok B C X h)⟩, ⟨(zbu ok B C X h), (zg5 ok B C X h)⟩, (zeI ok B C X h), (zgc ok B C X h), (zel ok B C X h), (zdv ok B C X h)⟩ (fw_law11 ok B C X h) hs fun _ => rfl
end Mine
set_option maxHeartbeats 8000000 in
theorem PySem.Challenge.cw_uf020031_11_holds : PySem.Challenge.rw_uf020031_11.Holds := by
  w_on
  o_law
  o_head (Mine.xhook [0, 1, 2, 4, 6])
  case hw => w_witness2
  intro w s₀ s₁ mg mb G Y fa o pm cd doc dV kV ho hd hcd hD hmg hg args vals as hpre hlay hrd hwl hlo
  clear hd hcd hD
  refine Ground.open G ?_
  intro T B D TE TW
  wrow_args hpre hlay hrd hwl hlo
  rename_i ns _ _ _ _ _ _ _ scr vs _ hL _ _ _ hI _ hlen _
  have hl : ns.length ≤ 63 := by
    simp only [Int.not_lt] at hlen
    omega
  have fns : Mine.Fns (Mine.zgr PySem.Challenge.rw_uf020031_11.row.prog w scr T) := ⟨Mine.zN (st := Mine.yw) T 0 (by kernel_rfl), Mine.zN (st := Mine.wS) T 1 (by kernel_rfl), Mine.zN (st := Mine.wU) T 2 (by kernel_rfl), Mine.zN (st := Mine.wf) T 3 (by kernel_rfl), Mine.zN (st := Mine.yr) T 4 (by kernel_rfl), Mine.zN (st := Mine.yq) T 5 (by kernel_rfl), Mine.zN (st := Mine.yp) T 6 (by kernel_rfl), Mine.zN (st := Mine.yx) T 7 (by kernel_rfl), Mine.zN (st := Mine.j6) T 8 (by kernel_rfl), Mine.zN (st := Mine.wb) T 9 (by kernel_rfl), Mine.zN (st := Mine.wO) T 10 (by kernel_rfl), Mine.zN (st := Mine.jH) T 11 (by kernel_rfl), Mine.zN (st := Mine.jI) T 12 (by kernel_rfl), Mine.zN (st := Mine.zaT) T 13 (by kernel_rfl), Mine.zN (st := Mine.zb7) T 14 (by kernel_rfl), Mine.zN (st := Mine.jD) T 15 (by kernel_rfl), Mine.zN (st := Mine.zaU) T 16 (by kernel_rfl), Mine.zN (st := Mine.zb5) T 17 (by kernel_rfl), Mine.zN (st := Mine.wj) T 18 (by kernel_rfl), Mine.zN (st := Mine.j7) T 19 (by kernel_rfl), Mine.zN (st := Mine.wd) T 20 (by kernel_rfl), Mine.zN (st := Mine.wg) T 21 (by kernel_rfl), Mine.zN (st := Mine.wR) T 22 (by kernel_rfl), Mine.zN (st := Mine.wN) T 23 (by kernel_rfl), Mine.zN (st := Mine.wT) T 24 (by kernel_rfl), Mine.zN (st := Mine.jG) T 25 (by kernel_rfl), Mine.zN (st := Mine.yt) T 26 (by kernel_rfl), Mine.zN (st := Mine.yu) T 27 (by kernel_rfl), Mine.zN (st := Mine.j8) T 28 (by kernel_rfl), Mine.zN (st := Mine.wP) T 29 (by kernel_rfl), Mine.zN (st := Mine.jF) T 30 (by kernel_rfl), Mine.zN (st := Mine.yv) T 31 (by kernel_rfl), Mine.zN (st := Mine.jE) T 32 (by kernel_rfl), Mine.zN (st := Mine.wQ) T 33 (by kernel_rfl), Mine.zN (st := Mine.j9) T 34 (by kernel_rfl), Mine.zN (st := Mine.jo) T 35 (by kernel_rfl), Mine.zN (st := Mine.wh) T 36 (by kernel_rfl), Mine.zN (st := Mine.qp) T 37 (by kernel_rfl), Mine.zN (st := Mine.zb6) T 38 (by kernel_rfl), by
    intro p hp
    simp only [Mine.qw, List.mem_cons, List.not_mem_nil, or_false] at hp
    rcases hp with rfl | rfl | rfl
    · exact Mine.zho T (by kernel_rfl)
    · exact Mine.zho T (by kernel_rfl)
    · exact Mine.zho T (by kernel_rfl)⟩
  have ok := Mine.ok_of (prog := PySem.Challenge.rw_uf020031_11.row.prog) (w := w) (scr := scr) T (by decide +kernel)
  have bl : Mine.Blt (Mine.zgr PySem.Challenge.rw_uf020031_11.row.prog w scr T) := Mine.blt_of T (by decide +kernel)
  refine Mine.ends_of T hL hI hl hmg (d := 300) (by omega) (Mine.law_call ok bl rfl (Mine.xf_of T Y) fns (Mine.σ0_script scr ns hl)) fun s' hk hos hgen => ?_
  exact GoodW.toG ⟨.inl ⟨_, .bool true, [], rfl, raisesW_false (by wrow_none_raised), .bool true, by wrow_post, unshared_nil⟩, hk, hos, hgen.trans hg⟩
