import PyProof.Rows.All
import Wide.All
import Open.Line
import Wide.FinOn
import PyProof.Cells
import PyProof.CompFree
import PyProof.Rows.Globals
import PyProof.Rows.TupSub
import PyProof.Rows.TupAssign
import PyProof.Rows.Own
import PyProof.DictStraight
import PyProof.RaisesMany
import PyProof.PureInt
import PyProof.AutoIntOps
import PyProof.Rules2
import PyProof.Rules3
import PyProof.Rows.Nodes
import PyProof.Rows.Chain
import PyProof.IsRules
import PyProof.NoPylong
import PyProof.Calls
import PyProof.ListCopy
import PyProof.Rows.Lst
import PyProof.Rows.Tup
import PyProof.Rows.StrTemp
import PyProof.IsiPairs
import PyProof.IsiHeapPairs
import PyProof.Conv_int_bool
import PyProof.Rows.Exc
import PyProof.DictTruth
import PyProof.ListOps
import PyProof.SliceList
import PyProof.SliceMore
import PyProof.SeqI
import PyProof.IsiNone
import PyProof.Rows.SeqMore
import PyProof.ForAppend
import PyProof.DictDisplay
import PyProof.DictRoads
import PyProof.ListMulRoad
import PyProof.Rows.ListMulArg
import PyProof.WalksMore
import PyProof.ConsumeWalk
import PyProof.ForAny
import PyProof.RangeFor
import PyProof.WalksPairs
import PyProof.TupleIter
import PyProof.Raises
import PyProof.ListIndex
import PyProof.CompMap
import PyProof.CompUse
import PyProof.RulesMatch
import PyProof.Rows.CellsNews
import PyProof.EqLayable
import PyProof.WalkInts
import PyProof.P3In
import PyProof.SeqI3
import PyProof.ExcClass3
import PyProof.ExcBaseAll.ValueError
import PyProof.RulesAs
import PyProof.IsiBase
import PyProof.ExcAttrAll.ValueError
import PyProof.IsInstance
import PyProof.CallTypeRange
import PyProof.FactsAll.range_2
import PyProof.RangeIter
import PyProof.EnumFor
import PyProof.EnumStmt
import PyProof.EnumMake
import KE.KDictOf
import PyProof.DictUpdate
import PyProof.Rows.SortWalk
import PyProof.Rows.SetFrom
import PyProof.MeetsSeq
import PyProof.Rows.SortRuns
import PyProof.MeetsSeq3
import PyProof.FactsAll.list_2
import PyProof.Ops
import PyProof.Rows.SortShell
import PyProof.FitsBits
import PyProof.ExcClsAt2
import PySem.Challenge.RW_uf020031_12
set_option Elab.async false
set_option linter.unusedVariables false
set_option linter.unusedSectionVars false
set_option linter.unusedSimpArgs false
noncomputable section
open List renaming range -> kaa, getElem?_eq_getElem -> kac, getElem?_eq_some_iff -> kae, mem_singleton -> kaf, length_cons -> kag, mem_cons -> kah, mem_of_getElem? -> kaj, mem_cons_of_mem -> kal, length_append -> kam, mem_range -> kan, mem_cons_self -> kaq, getD_eq_getElem?_getD -> kas, mem_map -> kat, mem_append -> kau, eq_nil_of_length_eq_zero -> kaA, length_nil -> kaB, length_map -> kaC, replicate -> kaD, cons_append -> kaG, getElem?_map -> kaJ, take_length -> kaL, not_mem_nil -> kaM, append_assoc -> kaN, map_cons -> kaO, nodup_cons -> kaQ, append_nil -> kaR, range_succ -> kaT, getElem_of_mem -> kaV, nodup_iff_pairwise_ne -> kaW, take_add_one -> kaY, all_eq_true -> kaZ, map_append -> ka0, length_take -> ka2, length_singleton -> ka3, filter_append -> ka4, getElem?_append_left -> ka6, mem_filter -> kbb, length_range -> kbc, map_congr_left -> kbd, nodup_range -> kbe, nil_append -> kbf, nodup_append -> kbg, getElem?_eq_none -> kbk, pairwise_map -> kbn, mem_append_left -> kbp, mem_of_mem_take -> kbw, getElem?_append_right -> kbx, length -> kby, take_append_drop -> kbA, map_map -> kbB, length_filter_le -> kbC, foldl_cons -> kbD, replicate_succ -> kbL, filter_sublist -> kbM, length_drop -> kbN, filter_cons -> kbO, singleton_append -> kbP, contains_iff_mem -> kbQ, drop_eq_getElem_cons -> kbT, lookup_cons -> kbU, any_eq_true -> kbV, take_of_length_le -> kbX, getElem?_of_mem -> kb2, length_set -> kcc, mem_flatMap -> kci, getElem_mem -> kcj, getElem_inj -> kck, reverse_reverse -> kcl, getElem?_range -> kcn, append_of_mem -> kcs, pairwise_iff_getElem -> kcu, nodup_nil -> kcv, reverse_cons -> kcy, getD -> kcz, foldl_append -> kcA, ext_getElem? -> kcB, mem_append_right -> kcI, length_take_le -> kcM, filterMap_cons -> kcN, drop_nil -> kcQ, contains_cons -> kcR, getElem?_set -> kcS, flatten_cons -> kcT, flatMap_cons -> kcU, any_map -> kcV, drop_length -> kcZ, dropLast_concat_getLast -> kc4, map_id -> kc5, forIn_cons -> kc6, filter_nil -> kc7, forIn_nil -> kdc, getElem?_take_of_lt -> kdd, range_succ_eq_map -> kdi, map_set -> kdj, map_nil -> kdk, replicate_succ' -> kdp, pairwise_append -> kdq, rec -> kdy, mem_filterMap -> kdz, getElem?_drop -> kdA, countP_filter -> kdB, countP_append -> kdC, take_sublist -> kdJ, mapM_toArray -> kdK, foldl -> kdL, filter_congr -> kdM, countP_congr -> kdN, countP_map -> kdU, take_left -> kdW, take_nil -> kd1, map -> kd2, any_cons -> kd3, Pairwise -> kd4
open PySem.Challenge renaming pw_uf020031_12 -> kab
open Bool renaming false_eq_true -> kad, and_eq_true -> kaH, eq_iff_iff -> kaS, and_eq_true_iff -> ka9, or_eq_true -> kbt, not_true -> kbv, true_and -> kbG, not_eq_true' -> kbK, not_false -> kb3, false_ne_true -> kct, false_and -> kcx, or_false -> kdg, false_or -> kdh, eq_false_iff -> kdP
open Int renaming toNat_natCast -> kai, le_antisymm -> kav, eq_ofNat_of_zero_le -> kay, ofNat_lt -> kaE, le_of_lt -> kaF, le_refl -> kaK, fmod_nonneg_of_pos -> ka1, zero_add -> kbi, lt_toNat -> kbj, fmod_eq_emod_of_nonneg -> kbo, fmod_lt_of_pos -> kbr, mul_le_mul_of_nonneg_left -> kbu, pow_succ -> kbI, add_zero -> kbJ, ne_of_gt -> kbR, le_trans -> kbS, natCast_nonneg -> kbZ, one_mul -> kb0, lt_irrefl -> kb1, mul_nonneg -> kb4, lt_of_mul_lt_mul_left -> kb5, not_lt -> kb9, mul_zero -> kca, mul_comm -> kcb, lt_of_le_of_lt -> kcd, mul_le_mul_of_nonneg_right -> kch, sub_nonneg_of_le -> kcm, add_le_add_left -> kcq, emod_lt_of_pos -> kcw, toNat -> kcE, emod_eq_of_lt -> kcF, pow_pos -> kcO, zero_mul -> kc0, sub_self -> kc1, add_mul -> kda, eq_of_mul_eq_mul_left -> kde, sub_zero -> kdr, pow_zero -> kds, ofNat_le -> kdt, mul_fdiv_add_fmod -> kdu, add_one_le_of_lt -> kdw, mul_sub -> kdD, mul_one -> kdE, mul_fdiv_cancel -> kdF, sub_pos_of_lt -> kdQ, not_le -> kdR, natCast_inj -> kdX, natCast_add -> kdY, emod_nonneg -> kdZ, natAbs_mul -> kd5, mul_le_mul -> kd6
open Nat renaming le_of_ble_eq_true -> kak, le_refl -> kao, le_trans -> kap, lt_of_le_of_lt -> kaI, lt_of_lt_of_le -> kaU, le_of_lt -> kaX, lt_irrefl -> kba, pow_le_pow_right -> kbh, zero_le -> kbl, lt_succ_self -> kbm, le_of_lt_succ -> kbz, ne_of_lt -> kbH, not_lt -> kbW, succ_le_succ -> kb7, zero_add -> kb8, le_succ -> kce, ne_of_gt -> kcg, not_lt_zero -> kcp, lt_trichotomy -> kcC, lt_succ_of_lt -> kcD, max_eq_right -> kcH, noConfusion -> kcK, eq_of_beq_eq_true -> kcL, lt_trans -> kcX, le_of_eq -> kcY, le_add_right -> kc3, min_eq_left -> kc9, mod_two_eq_zero_or_one -> kdb, sub_le -> kdf, succ_pos -> kdl, pow_succ -> kdm, mul_comm -> kdn, add_comm -> kdo, mul_le_mul_right -> kdv, lt_of_le_of_ne -> kdH, add_sub_cancel -> kdI, succ_ne_zero -> kdT, mul_le_mul -> kd0
open PySem renaming wpAny_bind -> kar, wpAny_mono -> kaz, wpAny_pure -> kaP, wpAny_truthy_bool -> ka5, mainGlobals -> ka8
open Classical renaming byContradiction -> kaw, propDecidable -> kb6, choose_spec -> kcG, choose -> kcP
open PySem.Heap renaming get?_push_of_some -> kax, get?_push_size -> ka7, lt_size -> kbq, get?_update_other -> kbs, SameBut -> kbE, get?_none_of_le -> kbF, size_push -> kcf, dictOf_iff -> kco, get?_update_self -> kcJ, size_update -> kc2, get?_update_ne -> kdx, get?_push_ne -> kdO
open Option renaming map_some -> kbY, any_some -> kcW, isSome -> kdS
open Array renaming getElem?_eq_some_iff -> kcr, perm_iff_toList_perm -> kc8, getElem_mem -> kdG, size_map -> kdV
section
namespace Mine
open Int.Internal.Linear (Expr Context Poly)
noncomputable abbrev Lc := Nat × Int × Expr × Expr
def Ld (x : Context) (c : Lc) (G : Prop) : Prop := Nat.rec (c.2.2.1.denote x <= c.2.2.2.denote x -> G) (fun n _ => Nat.rec (c.2.2.1.denote x < c.2.2.2.denote x -> G) (fun n _ => Nat.rec (c.2.2.1.denote x = c.2.2.2.denote x -> G) (fun n _ => Nat.rec (¬ c.2.2.1.denote x <= c.2.2.2.denote x -> G) (fun _ _ => ¬ c.2.2.1.denote x < c.2.2.2.denote x -> G) n) n) n) c.1
noncomputable def Lv (c : Lc) : Expr := .mulL c.2.1 (Nat.rec (.sub c.2.2.2 c.2.2.1) (fun n _ => Nat.rec (.sub (.sub c.2.2.2 c.2.2.1) (.num 1)) (fun n _ => Nat.rec (.sub c.2.2.2 c.2.2.1) (fun n _ => Nat.rec (.sub (.sub c.2.2.1 c.2.2.2) (.num 1)) (fun _ _ => .sub c.2.2.1 c.2.2.2) n) n) n) c.1)
def znv (x : Context) (G : Prop) (cs : List Lc) : Prop := kdy G (fun c _ r => Ld x c r) cs
noncomputable def zh1 (e : Expr) (cs : List Lc) : Expr := kdy e (fun c _ r => .sub r (Lv c)) cs
noncomputable def Lnn (k : Int) : Bool := Int.rec (fun _ => true) (fun _ => false) k
noncomputable def Lok (cs : List Lc) : Bool := kdy true (fun c _ r => ((c.1.beq 2).or (Lnn c.2.1)).and r) cs
noncomputable def zo9 (k : Int) (p : Poly) : Bool := Poly.rec (fun c => Lnn (k.add c)) (fun _ _ _ _ => false) p
theorem zo8 {k : Int} (h : Lnn k = true) : 0 <= k := by
 cases k with
 | ofNat k => exact kbZ k
 | negSucc k => cases h
theorem zq5 {x : Context} {c : Lc} {G : Prop} (hk : ((c.1.beq 2).or (Lnn c.2.1)) = true) (h : 0 <= (Lv c).denote x -> G) : Ld x c G := by
 obtain ⟨t, k, a, b⟩ := c
 have pos : t ≠ 2 -> 0 <= k := fun ht => by
  cases hb : t.beq 2 with
  | true => exact absurd (kcL hb) ht
  | false => dsimp only at hk; rw [hb] at hk; exact zo8 hk
 match t, pos, h with
 | 0, pos, h => exact fun e => h (kb4 (pos (by decide)) (kcm e))
 | 1, pos, h => exact fun e => h (kb4 (pos (by decide)) (kcm (kdw (kdQ e))))
 | 2, pos, h => exact fun e => h (by show 0 <= k * (b.denote x - a.denote x); rw [show a.denote x = b.denote x from e, kc1, kca]; exact kaK 0)
 | 3, pos, h => exact fun e => h (kb4 (pos (by decide)) (kcm (kdw (kdQ (kdR.mp e)))))
 | n + 4, pos, h => exact fun e => h (kb4 (pos (by omega)) (kcm (kb9.mp e)))
theorem zkl {x : Context} {G : Prop} {k : Int} {e : Expr} (cs : List Lc) (h : ((Lok cs).and (zo9 k (zh1 e cs).norm)) = true) (hG : 0 <= k + e.denote x -> G) : znv x G cs := by
 have h2 : 0 <= k + (zh1 e cs).denote x := by
  rw [<- Expr.denote_norm]
  cases hp : (zh1 e cs).norm with
  | num c => rw [hp] at h; exact zo8 (ka9.mp h).2
  | add a b c => rw [hp] at h; exact Bool.noConfusion (ka9.mp h).2
 have h1 := (ka9.mp h).1
 clear h
 revert h1 h2
 induction cs generalizing G with
 | nil => exact fun h2 _ => hG h2
 | cons c cs ih =>
  intro h2 h1
  have h1 := ka9.mp h1
  refine zq5 h1.1 fun h3 => ih hG (kbS h2 ?_) h1.2
  exact kcq (Int.sub_le_self _ h3) k
theorem lin (x : Context) (a b : Expr) (cs : List Lc) (h : ((Lok cs).and (zo9 0 (zh1 (.sub b a) cs).norm)) = true) : znv x (a.denote x <= b.denote x) cs :=
 zkl cs h fun h => Int.le_of_sub_nonneg (by rw [kbi] at h; exact h)
theorem lit (x : Context) (a b : Expr) (cs : List Lc) (h : ((Lok cs).and (zo9 (-1) (zh1 (.sub b a) cs).norm)) = true) : znv x (a.denote x < b.denote x) cs :=
 zkl cs h fun h => by have : 0 <= -1 + (b.denote x - a.denote x) := h; omega
theorem lif {G : Prop} (x : Context) (cs : List Lc) (h : ((Lok cs).and (zo9 (-1) (zh1 (.num 0) cs).norm)) = true) : znv x G cs :=
 zkl cs h fun h => absurd (show (0 : Int) <= -1 + 0 from h) (by decide)
noncomputable def Lqs (cs : List Lc) : Bool := kdy true (fun c _ r => (c.1.beq 2).and r) cs
noncomputable def Lz (p : Poly) : Bool := Poly.rec (fun c => Int.rec (fun n => n.beq 0) (fun _ => false) c) (fun _ _ _ _ => false) p
theorem zq4 {x : Context} {c : Lc} {G : Prop} (hk : c.1.beq 2 = true) (h : (Lv c).denote x = 0 -> G) : Ld x c G := by
 obtain ⟨t, k, a, b⟩ := c
 cases (kcL hk : t = 2)
 exact fun e => h (by show k * (b.denote x - a.denote x) = 0; rw [show a.denote x = b.denote x from e, kc1, kca])
theorem zpR {x : Context} {G : Prop} {e : Expr} (cs : List Lc) (h : ((Lqs cs).and (Lz (zh1 e cs).norm)) = true) (hG : e.denote x = 0 -> G) : znv x G cs := by
 have h2 : (zh1 e cs).denote x = 0 := by
  rw [<- Expr.denote_norm]
  cases hp : (zh1 e cs).norm with
  | num c =>
   rw [hp] at h
   cases c with
   | ofNat n => exact congrArg Int.ofNat (kcL (ka9.mp h).2)
   | negSucc n => exact Bool.noConfusion (ka9.mp h).2
  | add a b c => rw [hp] at h; exact Bool.noConfusion (ka9.mp h).2
 have h1 := (ka9.mp h).1
 clear h
 revert h1 h2
 induction cs generalizing G with
 | nil => exact fun h2 _ => hG h2
 | cons c cs ih =>
  intro h2 h1
  have h1 := ka9.mp h1
  refine zq4 h1.1 fun h3 => ih hG ?_ h1.2
  have : (zh1 e cs).denote x - (Lv c).denote x = 0 := h2
  rw [h3, kdr] at this; exact this
theorem liq (x : Context) (a b : Expr) (cs : List Lc) (h : ((Lqs cs).and (Lz (zh1 (.sub b a) cs).norm)) = true) : znv x (a.denote x = b.denote x) cs :=
 zpR cs h fun h => (Int.eq_of_sub_eq_zero h).symm
theorem leI {a b : Nat} (h : a <= b) : (a : Int) <= b := kdt.mpr h
theorem ltI {a b : Nat} (h : a < b) : (a : Int) < b := kaE.mpr h
theorem eqI {a b : Nat} (h : a = b) : (a : Int) = b := congrArg Nat.cast h
theorem noI {a b : Nat} (h : ¬ a <= b) : (b : Int) < a := kaE.mpr (Nat.not_le.mp h)
theorem nuI {a b : Nat} (h : ¬ a < b) : (b : Int) <= a := kdt.mpr (kbW.mp h)
theorem leN {a b : Nat} (h : (a : Int) <= b) : a <= b := kdt.mp h
theorem ltN {a b : Nat} (h : (a : Int) < b) : a < b := kaE.mp h
theorem eqN {a b : Nat} (h : (a : Int) = b) : a = b := Int.ofNat_inj.mp h
theorem wT {a b : Int} (h : a <= b) (h' : a ≠ b) : a < b := Int.lt_iff_le_and_ne.mpr ⟨h, h'⟩
theorem jW {a b : Nat} (h : (a : Int) <= b) (h' : a ≠ b) : (a : Int) < b := wT h fun e => h' (Int.ofNat_inj.mp e)
theorem nnI (a : Nat) : (0 : Int) <= a := kbZ a
noncomputable def r1 {a : Int} : Context := .leaf a
noncomputable def r2 {a b : Int} : Context := .branch 1 (.leaf a) (.leaf b)
noncomputable def r3 {a b c : Int} : Context := .branch 1 (.leaf a) (.branch 2 (.leaf b) (.leaf c))
noncomputable def r4 {a b c d : Int} : Context := .branch 2 (.branch 1 (.leaf a) (.leaf b)) (.branch 3 (.leaf c) (.leaf d))
noncomputable def r5 {a b c d e : Int} : Context := .branch 2 (.branch 1 (.leaf a) (.leaf b)) (.branch 3 (.leaf c) (.branch 4 (.leaf d) (.leaf e)))
noncomputable def r6 {a b c d e f : Int} : Context := .branch 3 (.branch 1 (.leaf a) (.branch 2 (.leaf b) (.leaf c))) (.branch 4 (.leaf d) (.branch 5 (.leaf e) (.leaf f)))
noncomputable def r7 {a b c d e f g : Int} : Context := .branch 6 (@r6 a b c d e f) (.leaf g)
noncomputable abbrev V0 : Expr := Expr.var 0
noncomputable abbrev V1 : Expr := Expr.var 1
noncomputable abbrev V2 : Expr := Expr.var 2
noncomputable abbrev V3 : Expr := Expr.var 3
noncomputable abbrev V4 : Expr := Expr.var 4
noncomputable abbrev V5 : Expr := Expr.var 5
noncomputable abbrev V6 : Expr := Expr.var 6
noncomputable abbrev V7 : Expr := Expr.var 7
noncomputable abbrev N0 : Expr := Expr.num 0
noncomputable abbrev N1 : Expr := Expr.num 1
theorem tnn {a : Int} (h : 0 <= a) : (a.toNat : Int) = a := Int.toNat_of_nonneg h
end Mine
end
section
open PySem
namespace Mine
inductive X2 {t0 t1 : Type} (p : t0 -> t1 -> Prop) : Prop | mk (x0 : t0) (x1 : t1) (h : p x0 x1) : X2 p
inductive X3 {t0 t1 t2 : Type} (p : t0 -> t1 -> t2 -> Prop) : Prop | mk (x0 : t0) (x1 : t1) (x2 : t2) (h : p x0 x1 x2) : X3 p
inductive X4 {t0 t1 t2 t3 : Type} (p : t0 -> t1 -> t2 -> t3 -> Prop) : Prop | mk (x0 : t0) (x1 : t1) (x2 : t2) (x3 : t3) (h : p x0 x1 x2 x3) : X4 p
inductive X5 {t0 t1 t2 t3 t4 : Type} (p : t0 -> t1 -> t2 -> t3 -> t4 -> Prop) : Prop | mk (x0 : t0) (x1 : t1) (x2 : t2) (x3 : t3) (x4 : t4) (h : p x0 x1 x2 x3 x4) : X5 p
inductive X6 {t0 t1 t2 t3 t4 t5 : Type} (p : t0 -> t1 -> t2 -> t3 -> t4 -> t5 -> Prop) : Prop | mk (x0 : t0) (x1 : t1) (x2 : t2) (x3 : t3) (x4 : t4) (x5 : t5) (h : p x0 x1 x2 x3 x4 x5) : X6 p
inductive X7 {t0 t1 t2 t3 t4 t5 t6 : Type} (p : t0 -> t1 -> t2 -> t3 -> t4 -> t5 -> t6 -> Prop) : Prop | mk (x0 : t0) (x1 : t1) (x2 : t2) (x3 : t3) (x4 : t4) (x5 : t5) (x6 : t6) (h : p x0 x1 x2 x3 x4 x5 x6) : X7 p
inductive X12 {t0 t1 t2 t3 t4 t5 t6 t7 t8 t9 t10 t11 : Type} (p : t0 -> t1 -> t2 -> t3 -> t4 -> t5 -> t6 -> t7 -> t8 -> t9 -> t10 -> t11 -> Prop) : Prop | mk (x0 : t0) (x1 : t1) (x2 : t2) (x3 : t3) (x4 : t4) (x5 : t5) (x6 : t6) (x7 : t7) (x8 : t8) (x9 : t9) (x10 : t10) (x11 : t11) (h : p x0 x1 x2 x3 x4 x5 x6 x7 x8 x9 x10 x11) : X12 p
inductive X13 {t0 t1 t2 t3 t4 t5 t6 t7 t8 t9 t10 t11 t12 : Type} (p : t0 -> t1 -> t2 -> t3 -> t4 -> t5 -> t6 -> t7 -> t8 -> t9 -> t10 -> t11 -> t12 -> Prop) : Prop | mk (x0 : t0) (x1 : t1) (x2 : t2) (x3 : t3) (x4 : t4) (x5 : t5) (x6 : t6) (x7 : t7) (x8 : t8) (x9 : t9) (x10 : t10) (x11 : t11) (x12 : t12) (h : p x0 x1 x2 x3 x4 x5 x6 x7 x8 x9 x10 x11 x12) : X13 p
inductive A3 (a0 a1 a2 : Prop) : Prop | mk (h0 : a0) (h1 : a1) (h2 : a2) : A3 a0 a1 a2
inductive A4 (a0 a1 a2 a3 : Prop) : Prop | mk (h0 : a0) (h1 : a1) (h2 : a2) (h3 : a3) : A4 a0 a1 a2 a3
inductive A5 (a0 a1 a2 a3 a4 : Prop) : Prop | mk (h0 : a0) (h1 : a1) (h2 : a2) (h3 : a3) (h4 : a4) : A5 a0 a1 a2 a3 a4
inductive A6 (a0 a1 a2 a3 a4 a5 : Prop) : Prop | mk (h0 : a0) (h1 : a1) (h2 : a2) (h3 : a3) (h4 : a4) (h5 : a5) : A6 a0 a1 a2 a3 a4 a5
inductive A8 (a0 a1 a2 a3 a4 a5 a6 a7 : Prop) : Prop | mk (h0 : a0) (h1 : a1) (h2 : a2) (h3 : a3) (h4 : a4) (h5 : a5) (h6 : a6) (h7 : a7) : A8 a0 a1 a2 a3 a4 a5 a6 a7
inductive A9 (a0 a1 a2 a3 a4 a5 a6 a7 a8 : Prop) : Prop | mk (h0 : a0) (h1 : a1) (h2 : a2) (h3 : a3) (h4 : a4) (h5 : a5) (h6 : a6) (h7 : a7) (h8 : a8) : A9 a0 a1 a2 a3 a4 a5 a6 a7 a8
inductive A10 (a0 a1 a2 a3 a4 a5 a6 a7 a8 a9 : Prop) : Prop | mk (h0 : a0) (h1 : a1) (h2 : a2) (h3 : a3) (h4 : a4) (h5 : a5) (h6 : a6) (h7 : a7) (h8 : a8) (h9 : a9) : A10 a0 a1 a2 a3 a4 a5 a6 a7 a8 a9
inductive E2 {α : Type} (p q : α -> Prop) : Prop | mk (x) (h1 : p x) (h2 : q x) : E2 p q
inductive E3 {α : Type} (p q r : α -> Prop) : Prop | mk (x) (h1 : p x) (h2 : q x) (h3 : r x) : E3 p q r
inductive E4 {α : Type} (p q r s : α -> Prop) : Prop | mk (x) (h1 : p x) (h2 : q x) (h3 : r x) (h4 : s x) : E4 p q r s

theorem qJ {α : Type} {x : Option α} {a : α} {p : Prop} (h : x = none) (h' : x = some a) : p := by cases h.symm.trans h'
theorem wm {α : Type} {x : Option α} (h : ∀ a, x = some a -> False) : x = none := by
 cases x with
 | none => rfl
 | some a => exact (h a rfl).elim
theorem zaO {α : Type} {x : Option α} {a : α} (h : x = some a) : x.isSome = true := h ▸ rfl
theorem zpl {α : Type} {x : Option α} {p : Prop} (h : x = none) (h' : x.isSome = true) : p := by rw [h] at h'; cases h'
theorem zfS {α : Type} {x : Option α} {a b : α} (h : x = some a) (h' : x = some b) : a = b := Option.some.inj (h.symm.trans h')

inductive V where
 | none
 | bool (b : Bool)
 | int (i : Int)
 | str (x : Str)
 | ref (a : Addr)

inductive O where
 | list (xs : List V)
 | tup (xs : List V)
 | dict (kvs : List (Int × V))
 | ro (xs : List V)
 | exc (x : Nat)

noncomputable abbrev zb := Addr -> Option O
noncomputable def put (J : zb) (a : Addr) (o : O) : zb := fun b => if b = a then some o else J b
theorem zz (J : zb) (a : Addr) (o : O) : put J a o a = some o := by simp [put]
theorem zY {J : zb} {a b : Addr} (o : O) (h : b ≠ a) : put J a o b = J b := by simp [put, h]
theorem zes {J : zb} {a b : Addr} {o : O} (h : b ≠ a) (e : (put J a o b).isSome = true) : (J b).isSome = true := (congrArg kdS (zY o h)).symm.trans e
theorem zka {J : zb} {a b : Addr} {o : O} (h : b ≠ a) (e : (J b).isSome = true) : (put J a o b).isSome = true := (congrArg kdS (zY o h)).trans e
inductive VIs : V -> Value -> Prop
 | none : VIs .none .none
 | bool (b) : VIs (.bool b) (.bool b)
 | int (i t) : VIs (.int i) (.int i t)
 | str (x t) : VIs (.str x) (.str x t)
 | ref (a) : VIs (.ref a) (.ref a)

inductive yn : List V -> List Value -> Prop
 | nil : yn [] []
 | cons {v vs u us} : VIs v u -> yn vs us -> yn (v :: vs) (u :: us)

theorem yn.length {vs us} (h : yn vs us) : us.length = vs.length := by
 induction h with
 | nil => rfl
 | cons _ _ ih => exact congrArg Nat.succ ih
theorem yn.get {vs us} (h : yn vs us) : ∀ {i : Nat} {v : V}, vs[i]? = some v -> ∃ u, us[i]? = some u /\ VIs v u := by
 induction h with
 | nil => exact fun e => qJ rfl e
 | @cons v vs u us h _ ih => exact fun {i w} => Nat.casesOn i (fun e => ⟨u, rfl, Option.some.inj e ▸ h⟩) fun i e => ih (i := i) e
theorem yn.append {vs us vs' us'} (h : yn vs us) (h' : yn vs' us') : yn (vs ++ vs') (us ++ us') := by
 induction h with
 | nil => exact h'
 | cons h _ ih => exact .cons h ih
theorem yn.set {vs us} (h : yn vs us) (i : Nat) {v : V} {u : Value} (h' : VIs v u) : yn (vs.set i v) (us.set i u) := by
 induction h generalizing i with
 | nil => exact .nil
 | cons h r ih => exact Nat.casesOn i (.cons h' r) fun i => .cons h (ih i)
theorem yn.take {vs us} (h : yn vs us) (i : Nat) : yn (vs.take i) (us.take i) := by
 induction h generalizing i with
 | nil => rw [kd1, kd1]; exact .nil
 | cons h r ih => exact Nat.casesOn i .nil fun i => .cons h (ih i)
theorem yn.drop {vs us} (h : yn vs us) (i : Nat) : yn (vs.drop i) (us.drop i) := by
 induction h generalizing i with
 | nil => rw [kcQ, kcQ]; exact .nil
 | cons h r ih => exact Nat.casesOn i (.cons h r) fun i => ih i

inductive KVs : List (Int × V) -> List (Int × Value) -> Prop
 | nil : KVs [] []
 | cons {k v u r s} : VIs v u -> KVs r s -> KVs ((k, v) :: r) ((k, u) :: s)

structure TC where
 prog : Program
 w : World
 s0 : Shared
 hb : Heap
 scr : Addr
 mg : Str -> Option Value
 mb : Str -> Option Value
 gl : ∃ o, hb.get? ka8 = some o
 fr : List Env
 calm : Bool
noncomputable def frs (T : TC) : List Addr := T.fr.filterMap (·.frame)
inductive IsD (h : Heap) (L : Addr) : Prop | mk (o es ep) (h1 : h.get? L = some o) (h2 : o.data = .dict es ep) : IsD h L
theorem IsD.keeps {h h' : Heap} {L : Addr} (x : IsD h L) (hk : ∀ b o, h.get? b = some o -> h'.get? b = some o) : IsD h' L := let ⟨o, es, ep, e, d⟩ := x; ⟨o, es, ep, hk _ _ e, d⟩
theorem IsD.imp' {h h' : Heap} {L : Addr} (x : IsD h L) (e : h'.get? L = h.get? L) : IsD h' L := let ⟨o, es, ep, e', d⟩ := x; ⟨o, es, ep, e.trans e', d⟩
theorem IsD.some {h : Heap} {L : Addr} (x : IsD h L) (e : h.get? L = none) : False := let ⟨o, es, ep, e', _⟩ := x; qJ e e'

structure TC.Ok (T : TC) : Prop where
 g : T.hb.Ns ka8 T.mg
 b : T.hb.Ns builtinsNs T.mb
 nolimit : T.hb.NoLimit
 builtins : ∀ x : Str, x ≠ "__name__" -> T.mb x = bootBuiltins x
 sysm : ∃ o, T.hb.get? sysModules = some o

noncomputable def qS (x : Nat) : Str := (["YardError", "NoNet", "NoHeap", "NoPlace", "NoTree", "TooLittle", "NotAgain"] : List Str).getD x ""
noncomputable def lim : Nat := 1000000
noncomputable def OIs (T : TC) : O -> Obj -> Prop
 | .list xs, o => xs.length <= lim /\ ∃ vs n, o = { cls := .type "list", dict := none, data := .seq vs n, slots := #[] } /\ yn xs vs.toList
 | .tup xs, o => xs.length <= lim /\ ∃ vs n, o = { cls := .type "tuple", dict := none, data := .seq vs n, slots := #[] } /\ yn xs vs.toList
 | .ro xs, o => xs.length <= lim /\ o.cls = .type "list" /\ ∃ vs n, o.data = .seq vs n /\ yn xs vs.toList
 | .dict kvs, o => kvs.length <= lim /\ ∃ us, o.IsDictOf (intKind T.prog T.w) us /\ KVs kvs us
 | .exc x, o => ∃ C, T.mg (qS x) = some (.ref C) /\ o.cls = .ref C

noncomputable abbrev TC.M (T : TC) : Model := model T.prog T.w

def zpb (T : TC) (J : zb) (b : Addr) : Prop := J b = none \/ b = T.scr

inductive zo6 (P : Obj -> Prop) (h : Heap) (a : Addr) : Prop | mk (o) (h1 : h.get? a = some o) (h2 : P o) : zo6 P h a
inductive zlX (hb : Heap) (J : zb) (h : Heap) (env : Env) : Prop | mk (h0 : env.scope.kind ≠ .module) (L) (h1 : env.frame = some L) (h2 : hb.get? L = none) (h3 : J L = none) (h4 : IsD h L) : zlX hb J h env
structure St (T : TC) (J : zb) (s : Shared) : Prop where
 rest : ∃ h tk, s = { T.s0 with heap := h, toks := tk }
 base : ∀ b o, T.hb.get? b = some o -> s.heap.get? b = some o
 objs : ∀ a so, J a = some so -> zo6 (OIs T so) s.heap a
 fresh : ∀ a, (J a).isSome -> a ≠ T.scr -> T.hb.get? a = none
 sysm : ∀ a, (J a).isSome -> a ≠ T.scr -> (a == sysModules) = false
 ro : ∃ xs, J T.scr = some (.ro xs)
 frames : ∀ env ∈ T.fr, zlX T.hb J s.heap env
theorem St.fr {T J s} (st : St T J s) {L : Addr} (h : L ∈ frs T) : T.hb.get? L = none /\ J L = none /\ IsD s.heap L := by
 obtain ⟨env, he, hf⟩ := kdz.mp h
 obtain ⟨_, L', e, h1, h2, h3⟩ := st.frames env he
 exact zfS e hf ▸ ⟨h1, h2, h3⟩
theorem St.notFr {T J s} (st : St T J s) {b : Addr} (h : s.heap.get? b = none) : b ∉ frs T := fun hb => (st.fr hb).2.2.some h
theorem St.notFrJ {T J s} (st : St T J s) {b : Addr} {so : O} (h : J b = some so) : b ∉ frs T := fun hb => qJ (st.fr hb).2.1 h
theorem zp2 {T : TC} {c L : Addr} (hc : c ∉ frs T) (hL : L ∈ frs T) : L ≠ c := fun q => hc (q ▸ hL)
theorem zlR {T : TC} {J : zb} {c : Addr} {so : O} (hc : c ∉ frs T) : ∀ L ∈ frs T, J L = none -> put J c so L = none := fun L hL h => (zY _ (zp2 hc hL)).trans h
theorem St.framesOf {T J s} (st : St T J s) {J' : zb} {h' : Heap} (hσ : ∀ L ∈ frs T, J L = none -> J' L = none) (hh : ∀ L ∈ frs T, IsD s.heap L -> IsD h' L) : ∀ env ∈ T.fr, zlX T.hb J' h' env := fun env he => by
 obtain ⟨hk, L, e, h1, h2, h3⟩ := st.frames env he
 have hL : L ∈ frs T := kdz.mpr ⟨env, he, e⟩
 exact ⟨hk, L, e, h1, hσ L hL h2, hh L hL h3⟩

def zfQ (F : List Addr) (x : Addr) (o o' : Obj) : Prop := x ∈ F /\ ∃ sl, o' = { o with slots := sl }
inductive znw (F : List Addr) (h : Heap) (b : Addr) (o : Obj) : Prop | mk (o') (h1 : h.get? b = some o') (h2 : o' = o \/ zfQ F b o o') : znw F h b o
structure zR (T : TC) (X : List Addr) (J : zb) (s : Shared) (J' : zb) (s' : Shared) : Prop where
 keep : ∀ b o, zpb T J b -> b ∉ X -> s.heap.get? b = some o -> znw (frs T) s'.heap b o
 live : ∀ b o, s.heap.get? b = some o -> ∃ o', s'.heap.get? b = some o'
 mono : ∀ a, (J a).isSome -> (J' a).isSome
 new : ∀ a, J a = none -> (J' a).isSome -> s.heap.get? a = none

theorem zR.keepX {T X J s J' s'} (a : zR T X J s J' s') {b : Addr} {o : Obj} (hf : zpb T J b) (hx : b ∉ X) (hn : b ∉ frs T) (e : s.heap.get? b = some o) : s'.heap.get? b = some o := by
 obtain ⟨o', h, r⟩ := a.keep b o hf hx e
 exact r.elim (fun r => r ▸ h) fun r => absurd r.1 hn
theorem zR.keepD {T X J s J' s'} (a : zR T X J s J' s') {b : Addr} {o : Obj} (hf : zpb T J b) (hx : b ∉ X) (e : s.heap.get? b = some o) : ∃ o', s'.heap.get? b = some o' /\ o'.data = o.data := by
 obtain ⟨o', h, r⟩ := a.keep b o hf hx e
 exact ⟨o', h, r.elim (congrArg _) fun ⟨_, sl, r⟩ => r ▸ rfl⟩
theorem zR.dead {T X J s J' s'} (a : zR T X J s J' s') {b : Addr} (h : s'.heap.get? b = none) : s.heap.get? b = none :=
 wm fun o e => let ⟨o', h'⟩ := a.live b o e; qJ h h'
theorem zR.refl {T X J s} : zR T X J s J s :=
 ⟨fun _ o _ _ e => ⟨o, e, .inl rfl⟩, fun _ o e => ⟨o, e⟩, fun _ h => h, fun a h h' => zpl h h'⟩
theorem znX {F : List Addr} {x : Addr} {o o1 o2 : Obj} (r1 : o1 = o \/ zfQ F x o o1) (r2 : o2 = o1 \/ zfQ F x o1 o2) : o2 = o \/ zfQ F x o o2 :=
 r2.elim (fun r2 => r2 ▸ r1) fun r2 => r1.elim (fun r1 => .inr (r1 ▸ r2)) fun ⟨m, sl, e⟩ => .inr ⟨m, let ⟨_, sl', e'⟩ := r2; ⟨sl', e'.trans (e ▸ rfl)⟩⟩
theorem zR.trans {T X J s J1 sB J2 sM} (a : zR T X J s J1 sB) (b : zR T X J1 sB J2 sM) : zR T X J s J2 sM := by
 refine ⟨fun x o hf hx e => ?_, fun x o e => let ⟨o1, e1⟩ := a.live x o e; b.live x o1 e1, fun x h => b.mono x (a.mono x h), fun x h h' => ?_⟩
 ·obtain ⟨o1, h1, r1⟩ := a.keep x o hf hx e
  obtain ⟨o2, h2, r2⟩ := b.keep x o1 (hf.elim (fun hf => .inl (wm fun o1 h1 => qJ (a.new x hf (zaO h1)) e)) .inr) hx h1
  exact ⟨o2, h2, znX r1 r2⟩
 ·exact wm fun o3 h3 => by
   cases h1 : J1 x with
   | some o1 => exact qJ (a.new x h (zaO h1)) h3
   | none => obtain ⟨o', h4⟩ := a.live x o3 h3; exact qJ (b.new x h1 h') h4
theorem zR.weaken {T X Y J s J' s'} (a : zR T X J s J' s') (h : ∀ x ∈ X, x ∈ Y) : zR T Y J s J' s' :=
 ⟨fun b o hf hb e => a.keep b o hf (fun hx => hb (h b hx)) e, a.live, a.mono, a.new⟩
theorem zR.any {T Y J s J' s'} (a : zR T [] J s J' s') : zR T Y J s J' s' := a.weaken (by simp)
theorem zR.free {T X J s J' s'} (a : zR T X J s J' s') {b : Addr} {o : Obj} (hb : J b = none) (e : s.heap.get? b = some o) : J' b = none :=
 wm fun o1 h1 => qJ (a.new b hb (zaO h1)) e

noncomputable abbrev zM := List (Option V)
noncomputable def jC : zM -> Nat -> Option V
 | [], _ => none
 | o :: _, 0 => o
 | _ :: r, i + 1 => jC r i
noncomputable def yz : zM -> Nat -> V -> zM
 | [], _, _ => []
 | _ :: r, 0, v => some v :: r
 | o :: r, i + 1, v => o :: yz r i v
theorem zdX (Z : zM) (i j : Nat) (v u : V) : jC (yz Z i v) j = some u -> (j = i /\ u = v) \/ (j ≠ i /\ jC Z j = some u) := by
 induction Z generalizing i j with
 | nil => exact fun h => qJ rfl h
 | cons o r ih =>
  cases i with
  | zero => exact Nat.casesOn j (fun h => .inl ⟨rfl, (Option.some.inj h).symm⟩) fun j h => .inr ⟨kdT j, h⟩
  | succ i => exact Nat.casesOn j (fun h => .inr ⟨kcK, h⟩) fun j h => (ih i j h).imp (fun h => ⟨congrArg Nat.succ h.1, h.2⟩) fun h => ⟨fun e => h.1 (Nat.succ.inj e), h.2⟩

noncomputable def own (env : Env) : List Addr := env.locals :: env.cells.map (·.2)

structure jg (sc : Scope) (env : Env) : Prop where
 scope : env.scope = sc
 kind : sc.kind = .function
 globals : env.globals = ka8
 builtins : env.builtins = builtinsNs

theorem jg.kindOf {sc env} (h : jg sc env) (x : Str) : env.kindOf x = sc.names.lookup x := by unfold Env.kindOf; rw [h.scope]

inductive zqM (env : Env) (ctx : List Str) (Z : zM) (h : Heap) : Prop | mk (m) (h1 : h.Ns env.locals m) (h2 : ∀ i x v, ctx[i]? = some x -> env.kindOf x = some .local -> jC Z i = some v -> ∃ u, m x = some u /\ VIs v u) : zqM env ctx Z h
inductive znx (env : Env) (Z : zM) (h : Heap) (i : Nat) (x : Str) : Prop | mk (c o) (h1 : env.cells.lookup x = some c) (h2 : h.IsCell c o) (h3 : ∀ v, jC Z i = some v -> ∃ u, o = some u /\ VIs v u) : znx env Z h i x
structure qB (T : TC) (env : Env) (ctx : List Str) (Z : zM) (J : zb) (h : Heap) : Prop where
 nd : ctx.Nodup
 ns : zqM env ctx Z h
 cell : ∀ i x, ctx[i]? = some x -> (env.kindOf x = some .cell \/ env.kindOf x = some .free) -> znx env Z h i x
 loneM : ∀ x y c, (x, c) ∈ env.cells -> (y, c) ∈ env.cells -> x = y
 apartM : ∀ x c, (x, c) ∈ env.cells -> c ≠ env.locals
 lfree : J env.locals = none
 cfreeM : ∀ x c, (x, c) ∈ env.cells -> J c = none /\ (∃ o, h.IsCell c o)
 lbase : T.hb.get? env.locals = none
 cbaseM : ∀ x c, (x, c) ∈ env.cells -> T.hb.get? c = none

theorem qB.lone {T env ctx Z J h} (F : qB T env ctx Z J h) (x y c) (hx : env.cells.lookup x = some c) (hy : env.cells.lookup y = some c) : x = y := F.loneM x y c (mem_of_lookup hx) (mem_of_lookup hy)
theorem qB.apart {T env ctx Z J h} (F : qB T env ctx Z J h) (x c) (hx : env.cells.lookup x = some c) : c ≠ env.locals := F.apartM x c (mem_of_lookup hx)
theorem qB.cfree {T env ctx Z J h} (F : qB T env ctx Z J h) (x c) (hx : env.cells.lookup x = some c) : J c = none /\ (∃ o, h.IsCell c o) := F.cfreeM x c (mem_of_lookup hx)
theorem qB.cbase {T env ctx Z J h} (F : qB T env ctx Z J h) (x c) (hx : env.cells.lookup x = some c) : T.hb.get? c = none := F.cbaseM x c (mem_of_lookup hx)

theorem zqe {h h' : Heap} {a : Addr} {m} (k : ∀ o, h.get? a = some o -> ∃ o', h'.get? a = some o' /\ o'.data = o.data) (n : h.Ns a m) : h'.Ns a m :=
 let ⟨o, es, ep, ho, hd, r⟩ := n; let ⟨o', e', d'⟩ := k o ho; ⟨o', es, ep, e', d'.trans hd, r⟩
theorem zqf {h : Heap} {a : Addr} {m} (n : h.Ns a m) : ∃ o, h.get? a = some o := let ⟨o, _, _, ho, _⟩ := n; ⟨o, ho⟩
theorem zkX {h h' : Heap} {a : Addr} {v} (k : ∀ o, h.get? a = some o -> ∃ o', h'.get? a = some o' /\ o'.data = o.data) (n : h.IsCell a v) : h'.IsCell a v :=
 let ⟨o, ho, hd⟩ := n; let ⟨o', e', d'⟩ := k o ho; ⟨o', e', d'.trans hd⟩
theorem zoz {h : Heap} {a : Addr} {v} (n : h.IsCell a v) : ∃ o, h.get? a = some o := let ⟨o, ho, _⟩ := n; ⟨o, ho⟩
theorem qB.step {T env ctx Z J J' s s'} (F : qB T env ctx Z J s.heap) (a : zR T [] J s J' s') : qB T env ctx Z J' s'.heap :=
 have kp : ∀ b, J b = none -> ∀ o, s.heap.get? b = some o -> ∃ o', s'.heap.get? b = some o' /\ o'.data = o.data := fun b hb o e => a.keepD (.inl hb) kaM e
 { F with
  ns := let ⟨m, h1, h2⟩ := F.ns; ⟨m, zqe (kp _ F.lfree) h1, h2⟩
  cell := fun i x hi hk => let ⟨c, o, h1, h2, h3⟩ := F.cell i x hi hk; ⟨c, o, h1, zkX (kp c (F.cfree x c h1).1) h2, h3⟩
  lfree := let ⟨m, h1, _⟩ := F.ns; (zqf h1).elim fun o ho => a.free F.lfree ho
  cfreeM := fun x c hx => ⟨(F.cfreeM x c hx).2.elim fun o h => (zoz h).elim fun _ e => a.free (F.cfreeM x c hx).1 e, (F.cfreeM x c hx).2.imp fun o h => zkX (kp c (F.cfreeM x c hx).1) h⟩ }

noncomputable abbrev EW := zM -> zb -> (V -> zb -> Prop) -> (Nat -> zb -> Prop) -> Prop
inductive Out where
 | next
 | ret (v : V)
noncomputable abbrev SW := zM -> zb -> (Out -> zM -> zb -> Prop) -> (Nat -> zb -> Prop) -> Prop

inductive zqO (T : TC) (a : Addr) (vs : Array Value) (s s' : Shared) (J' : zb) : Prop | mk (tb oT ts) (k1 : vs[1]? = some (.ref tb)) (k2 : tb ≠ a) (k3 : s.heap.get? tb = none /\ T.hb.get? tb = none /\ J' tb = none) (k4 : s'.heap.get? tb = some oT) (k5 : oT.data = .fields ts) (k6 : ts[3]? = some .none) : zqO T a vs s s' J'
inductive zj3 (T : TC) (x : Nat) (e : Value) (s s' : Shared) (J' : zb) : Prop
 | mk (a C : Addr) (oe : Obj) (vs) (h1 : e = .ref a) (h2 : T.mg (qS x) = some (.ref C)) (h3 : s.heap.get? a = none /\ T.hb.get? a = none /\ J' a = none) (h4 : s'.heap.get? a = some oe) (h5 : oe.cls = .ref C) (h6 : oe.data = .fields vs)
  (h7 : vs[1]? = some .none \/ zqO T a vs s s' J') : zj3 T x e s s' J'

inductive zhe (T : TC) (J : zb) (s : Shared) (Q : V -> zb -> Prop) (v : Value) (s' : Shared) : Prop
 | mk (v' J') (h1 : VIs v' v) (h2 : St T J' s') (h3 : zR T [] J s J' s') (h4 : Q v' J') : zhe T J s Q v s'
inductive jA (T : TC) (X : List Addr) (J : zb) (s : Shared) (P : Nat -> zb -> Prop) (e : Value) (s' : Shared) : Prop
 | mk (x J') (h1 : St T J' s') (h2 : zR T X J s J' s') (h3 : zj3 T x e s s' J') (h4 : P x J') : jA T X J s P e s'
inductive zkm : Out -> Flow -> Prop
 | next : zkm .next .next
 | ret {v u} : VIs v u -> zkm (.ret v) (.ret u)
inductive zaD (T : TC) (env : Env) (ctx : List Str) (J : zb) (s : Shared) (K : Out -> zM -> zb -> Prop) (f : Flow) (s' : Shared) : Prop
 | mk (o Z' J') (h1 : zkm o f) (h2 : St T J' s') (h3 : qB T env ctx Z' J' s'.heap) (h4 : zR T (own env) J s J' s') (h5 : K o Z' J') : zaD T env ctx J s K f s'

structure zaR (T : TC) (A : Around) (d : Nat) : Prop where
 handled : T.calm = true -> A.handled = none
 frames : A.frames = some T.fr
 depth : A.depth + d < recursionLimit
 units : A.units + 4 * d + 100 < cLine

def zC (T : TC) (d : Nat) (sc : Scope) (ctx : List Str) (pe : Expr) (w : EW) : Prop :=
 ∀ A env Z J s Q P, jg sc env -> zaR T A d -> St T J s -> qB T env ctx Z J s.heap -> w Z J Q P ->
  wpAny T.M A (eval pe env) (zhe T J s Q) (jA T [] J s P) s
def jn (T : TC) (d : Nat) (sc : Scope) (ctx : List Str) (ps : List Stmt) (w : SW) : Prop :=
 ∀ A env Z J s K P, jg sc env -> zaR T A d -> St T J s -> qB T env ctx Z J s.heap -> w Z J K P ->
  wpAny T.M A (execs ps env) (zaD T env ctx J s K) (jA T (own env) J s P) s

theorem zhe.step {T J s J1 sB Q v s'} (a : zR T [] J s J1 sB) (h : zhe T J1 sB Q v s') : zhe T J s Q v s' :=
 let ⟨v', J', h1, h2, h3, h4⟩ := h; ⟨v', J', h1, h2, a.trans h3, h4⟩
theorem zj3.back {T x e s sB s' J'} (hd : ∀ b, sB.heap.get? b = none -> s.heap.get? b = none) (h : zj3 T x e sB s' J') : zj3 T x e s s' J' :=
 let ⟨a, C, oe, vs, h1, h2, h3, h6, h7, h8, h9⟩ := h
 ⟨a, C, oe, vs, h1, h2, ⟨hd _ h3.1, h3.2⟩, h6, h7, h8, h9.imp_right fun ⟨tb, oT, ts, k1, k2, k3, k4, k5, k6⟩ => ⟨tb, oT, ts, k1, k2, ⟨hd _ k3.1, k3.2⟩, k4, k5, k6⟩⟩
theorem jA.step {T X J s J1 sB P v s'} (a : zR T X J s J1 sB) (h : jA T X J1 sB P v s') : jA T X J s P v s' :=
 let ⟨v', J', h2, h3, h4, h5⟩ := h; ⟨v', J', h2, a.trans h3, h4.back (fun _ => a.dead), h5⟩
theorem jA.any {T X J s P v s'} (h : jA T [] J s P v s') : jA T X J s P v s' :=
 let ⟨v', J', h2, h3, h4, h5⟩ := h; ⟨v', J', h2, h3.any, h4, h5⟩

theorem zC.run {T d sc ctx pe w} (h : zC T d sc ctx pe w) {A env Z J s Q P} (eo : jg sc env) (ro : zaR T A d) (st : St T J s) (fr : qB T env ctx Z J s.heap) (hw : w Z J Q P) {Q'}
  (k : ∀ v' v J' s', VIs v' v -> St T J' s' -> zR T [] J s J' s' -> qB T env ctx Z J' s'.heap -> Q v' J' -> Q' v s') :
  wpAny T.M A (eval pe env) Q' (jA T [] J s P) s :=
 kaz (h A env Z J s Q P eo ro st fr hw) (fun _ _ ⟨v', J', h1, h2, h3, h4⟩ => k v' _ J' _ h1 h2 h3 (fr.step h3) h4) fun _ _ x => x

theorem zC.then {T d sc ctx pe w} (h : zC T d sc ctx pe w) {A env Z JA sa J s Q P} (eo : jg sc env) (ro : zaR T A d) (a : zR T [] JA sa J s) (st : St T J s) (fr : qB T env ctx Z J s.heap) (hw : w Z J Q P) {Q'}
  (k : ∀ v' v J' s', VIs v' v -> St T J' s' -> zR T [] JA sa J' s' -> qB T env ctx Z J' s'.heap -> Q v' J' -> Q' v s') :
  wpAny T.M A (eval pe env) Q' (jA T [] JA sa P) s :=
 kaz (h.run eo ro st fr hw (Q' := Q') fun v' v J' s' h1 h2 h3 h4 h5 => k v' v J' s' h1 h2 (a.trans h3) h4 h5) (fun _ _ x => x) fun _ _ x => x.step a

theorem St.tok {T J s} (st : St T J s) (n : Nat) : St T J { s with toks := n } :=
 let ⟨h, _, e⟩ := st.rest; ⟨⟨h, n, by rw [e]⟩, st.base, st.objs, st.fresh, st.sysm, st.ro, st.frames⟩
theorem zR.tok {T X J sa JA s} (a : zR T X JA sa J s) (n : Nat) : zR T X JA sa J { s with toks := n } := ⟨a.keep, a.live, a.mono, a.new⟩

theorem St.push {T J s} (st : St T J s) (o : Obj) (tk : Nat) : St T J { s with heap := s.heap.push o, toks := tk } :=
 let ⟨h, _, e⟩ := st.rest
 ⟨⟨h.push o, tk, by rw [e]⟩, fun b ob hb => kax _ (st.base b ob hb),
  fun a so ha => let ⟨ob, h1, h2⟩ := st.objs a so ha; ⟨ob, kax _ h1, h2⟩, st.fresh, st.sysm, st.ro, st.framesOf (fun _ _ h => h) fun _ _ h => h.keeps fun _ _ e => kax _ e⟩
theorem zR.push {T X JA sa J s} (a : zR T X JA sa J s) (o : Obj) (tk : Nat) : zR T X JA sa J { s with heap := s.heap.push o, toks := tk } :=
 ⟨fun b ob hf hb e => let ⟨o', h, r⟩ := a.keep b ob hf hb e; ⟨o', kax _ h, r⟩, fun b ob e => let ⟨o', h⟩ := a.live b ob e; ⟨o', kax _ h⟩, a.mono, a.new⟩
theorem St.lt {T J s} (st : St T J s) {a so} (h : J a = some so) : a < s.heap.objs.size := let ⟨_, e, _⟩ := st.objs a so h; kbq e
theorem St.sizeFree {T J s} (st : St T J s) : J s.heap.objs.size = none :=
 wm fun so h => absurd (st.lt h) (kba _)
theorem St.big {T J s} (st : St T J s) : (s.heap.objs.size == sysModules) = false := by
 obtain ⟨o, ho⟩ := T.gl
 have h : ka8 < s.heap.objs.size := kbq (st.base _ _ ho)
 refine beq_eq_false_iff_ne.mpr fun e => ?_
 rw [e] at h
 exact absurd h (by decide)
theorem get?_size (h : Heap) : h.get? h.objs.size = none :=
 wm fun o e => absurd (kbq e) (kba _)
theorem St.roPut {T J s} (st : St T J s) (c : Addr) (so : O) (hc : J c = none) : ∃ xs, put J c so T.scr = some (.ro xs) := by
 exact st.ro.imp fun xs h => (zY _ fun e => qJ hc (e ▸ h)).trans h
theorem St.notScr {T J s} (st : St T J s) {a so} (h : J a = some so) (hs : ∀ xs, so ≠ .ro xs) : a ≠ T.scr := by
 rintro rfl
 obtain ⟨xs, e⟩ := st.ro
 exact hs xs (zfS h e)
theorem St.alloc {T J s} (st : St T J s) {o : Obj} {so : O} (ho : OIs T so o) (tk : Nat) (hf : o.isFreed = false) : St T (put J s.heap.objs.size so) { s with heap := s.heap.push o, toks := tk } := by
 have st' := st.push o tk
 refine ⟨st'.rest, st'.base, fun a so' ha => ?_, fun a ha hn => ?_, fun a ha hn => ?_, st.roPut _ _ st.sizeFree, st'.framesOf (zlR (st.notFr (get?_size _))) fun _ _ h => h⟩
 ·by_cases h : a = s.heap.objs.size
  ·subst h; exact ⟨o, ka7 _ hf, Option.some.inj ((zz _ _ _).symm.trans ha) ▸ ho⟩
  ·exact st'.objs a so' ((zY _ h).symm.trans ha)
 ·by_cases h : a = s.heap.objs.size
  ·subst h
   exact wm fun ob e => qJ (get?_size _) (st.base _ _ e)
  ·exact st.fresh a (zes h ha) hn
 ·by_cases h : a = s.heap.objs.size
  ·subst h; exact st.big
  ·exact st.sysm a (zes h ha) hn
theorem zR.alloc {T X JA sa J s} (a : zR T X JA sa J s) (st : St T J s) (o : Obj) (so : O) (tk : Nat) : zR T X JA sa (put J s.heap.objs.size so) { s with heap := s.heap.push o, toks := tk } := by
 have a' := a.push o tk
 refine ⟨a'.keep, a'.live, fun b hb => ?_, fun b hb hb' => ?_⟩
 ·by_cases h : b = s.heap.objs.size
  ·subst h; exact zaO (zz _ _ _)
  ·exact zka h (a.mono b hb)
 ·by_cases h : b = s.heap.objs.size
  ·subst h
   exact wm fun ob e => let ⟨o', h'⟩ := a.live _ _ e; qJ (get?_size _) h'
  ·exact a.new b hb (zes h hb')
theorem St.grow {T J s} (st : St T J s) {h' : Heap} (hk : ∀ b o, s.heap.get? b = some o -> h'.get? b = some o) (tk : Nat) : St T J { s with heap := h', toks := tk } :=
 let ⟨h, _, e⟩ := st.rest
 ⟨⟨h', tk, by rw [e]⟩, fun b ob hb => hk b ob (st.base b ob hb), fun a so ha => let ⟨ob, h1, h2⟩ := st.objs a so ha; ⟨ob, hk _ _ h1, h2⟩, st.fresh, st.sysm, st.ro, st.framesOf (fun _ _ h => h) fun _ _ h => h.keeps hk⟩
theorem zR.grow {T X JA sa J s} (a : zR T X JA sa J s) {h' : Heap} (hk : ∀ b o, s.heap.get? b = some o -> h'.get? b = some o) (tk : Nat) : zR T X JA sa J { s with heap := h', toks := tk } :=
 ⟨fun b ob hf hb e => let ⟨o', h, r⟩ := a.keep b ob hf hb e; ⟨o', hk _ _ h, r⟩, fun b ob e => let ⟨o', h⟩ := a.live b ob e; ⟨o', hk _ _ h⟩, a.mono, a.new⟩
theorem St.lay {T J s} (st : St T J s) {h' : Heap} (hk : ∀ b o, s.heap.get? b = some o -> h'.get? b = some o) {o : Obj} {so : O} (hn : h'.get? s.heap.objs.size = some o) (ho : OIs T so o) (tk : Nat) :
  St T (put J s.heap.objs.size so) { s with heap := h', toks := tk } := by
 have st' := st.grow hk tk
 refine ⟨st'.rest, st'.base, fun a so' ha => ?_, fun a ha hne => ?_, fun a ha hne => ?_, st.roPut _ _ st.sizeFree, st'.framesOf (zlR (st.notFr (get?_size _))) fun _ _ h => h⟩
 ·by_cases h : a = s.heap.objs.size
  ·subst h; exact ⟨o, hn, Option.some.inj ((zz _ _ _).symm.trans ha) ▸ ho⟩
  ·exact st'.objs a so' ((zY _ h).symm.trans ha)
 ·by_cases h : a = s.heap.objs.size
  ·subst h
   exact wm fun ob e => qJ (get?_size _) (st.base _ _ e)
  ·exact st.fresh a (zes h ha) hne
 ·by_cases h : a = s.heap.objs.size
  ·subst h; exact st.big
  ·exact st.sysm a (zes h ha) hne
theorem zR.lay {T X JA sa J s} (a : zR T X JA sa J s) {h' : Heap} (hk : ∀ b o, s.heap.get? b = some o -> h'.get? b = some o) (so : O) (tk : Nat) :
  zR T X JA sa (put J s.heap.objs.size so) { s with heap := h', toks := tk } := by
 have a' := a.grow hk tk
 refine ⟨a'.keep, a'.live, fun b hb => ?_, fun b hb hb' => ?_⟩
 ·by_cases h : b = s.heap.objs.size
  ·subst h; exact zaO (zz _ _ _)
  ·exact zka h (a.mono b hb)
 ·by_cases h : b = s.heap.objs.size
  ·subst h
   exact wm fun ob e => let ⟨o', h'⟩ := a.live _ _ e; qJ (get?_size _) h'
  ·exact a.new b hb (zes h hb')
theorem St.noneFree {T J s} (st : St T J s) {c : Addr} (h : s.heap.get? c = none) : J c = none :=
 wm fun so e => let ⟨o, h1, _⟩ := st.objs c so e; qJ h h1
theorem St.turn {T J s} (st : St T J s) {a : Addr} {so so' : O} (ha : J a = some so) (hn : a ≠ T.scr) {h' : Heap} (hs : kbE a s.heap h') {o' : Obj} (ho' : h'.get? a = some o') (hi : OIs T so' o') (tk : Nat) :
  St T (put J a so') { s with heap := h', toks := tk } := by
 obtain ⟨h, t, e⟩ := st.rest
 refine ⟨⟨h', tk, by rw [e]⟩, fun b o hb => ?_, fun b sb hb => ?_, fun b hb hne => ?_, fun b hb hne => ?_, st.ro.imp fun xs h => (zY _ (Ne.symm hn)).trans h, st.framesOf (zlR (st.notFrJ ha)) fun L hL h => h.imp' (hs.2 L (zp2 (st.notFrJ ha) hL))⟩
 ·have hne : b ≠ a := fun q => by subst q; exact qJ (st.fresh b (zaO ha) hn) hb
  exact (hs.2 b hne).trans (st.base b o hb)
 ·by_cases h : b = a
  ·subst h; exact ⟨o', ho', Option.some.inj ((zz _ _ _).symm.trans hb) ▸ hi⟩
  ·obtain ⟨o, h1, h2⟩ := st.objs b sb ((zY _ h).symm.trans hb); exact ⟨o, (hs.2 b h).trans h1, h2⟩
 ·by_cases h : b = a
  ·subst h; exact st.fresh b (zaO ha) hne
  ·exact st.fresh b (zes h hb) hne
 ·by_cases h : b = a
  ·subst h; exact st.sysm b (zaO ha) hne
  ·exact st.sysm b (zes h hb) hne
theorem zR.turn {T X JA sa J s} (a : zR T X JA sa J s) {b : Addr} {so so' : O} (hb : J b = some so) (hn : b ≠ T.scr) {h' : Heap} (hs : kbE b s.heap h') {o' : Obj} (ho' : h'.get? b = some o') (tk : Nat) :
  zR T X JA sa (put J b so') { s with heap := h', toks := tk } := by
 refine ⟨fun c o hf hc e => ?_, fun c o e => ?_, fun c hc => ?_, fun c hc hc' => ?_⟩
 ·obtain ⟨o1, h1, r1⟩ := a.keep c o hf hc e
  have hne : c ≠ b := by
   rintro rfl
   rcases hf with hf | hf
   ·exact qJ (a.new c hf (zaO hb)) e
   ·exact hn hf
  exact ⟨o1, (hs.2 c hne).trans h1, r1⟩
 ·obtain ⟨o1, h1⟩ := a.live c o e
  by_cases h : c = b
  ·subst h; exact ⟨o', ho'⟩
  ·exact ⟨o1, (hs.2 c h).trans h1⟩
 ·by_cases h : c = b
  ·subst h; exact zaO (zz _ _ _)
  ·exact zka h (a.mono c hc)
 ·by_cases h : c = b
  ·subst h; exact a.new c hc (zaO hb)
  ·exact a.new c hc (zes h hc')


def V.asInt (v : V) (k : Int -> Prop) : Prop := match v with | .int i => k i | _ => False
def V.asBool (v : V) (k : Bool -> Prop) : Prop := match v with | .bool b => k b | _ => False
def V.asRef (v : V) (k : Addr -> Prop) : Prop := match v with | .ref a => k a | _ => False
@[simp] theorem zd (i : Int) (k) : (V.int i).asInt k = k i := rfl
@[simp] theorem zm (b : Bool) (k) : (V.bool b).asBool k = k b := rfl
@[simp] theorem ze (a : Addr) (k) : (V.ref a).asRef k = k a := rfl
inductive GI (k : Int -> Prop) : V -> Value -> Prop | mk (i t) (h : k i) : GI k (.int i) (.int i t)
inductive GB (k : Bool -> Prop) : V -> Value -> Prop | mk (b) (h : k b) : GB k (.bool b) (.bool b)
inductive GR (k : Addr -> Prop) : V -> Value -> Prop | mk (a) (h : k a) : GR k (.ref a) (.ref a)
theorem V.asInt.get {v : V} {k : Int -> Prop} {u : Value} (h : v.asInt k) (hv : VIs v u) : GI k v u := by
 cases hv <;> first | exact ⟨_, _, h⟩ | exact h.elim
theorem V.asBool.get {v : V} {k : Bool -> Prop} {u : Value} (h : v.asBool k) (hv : VIs v u) : GB k v u := by
 cases hv <;> first | exact ⟨_, h⟩ | exact h.elim
theorem V.asRef.get {v : V} {k : Addr -> Prop} {u : Value} (h : v.asRef k) (hv : VIs v u) : GR k v u := by
 cases hv <;> first | exact ⟨_, h⟩ | exact h.elim

noncomputable def val (v : V) : EW := fun _ J Q _ => Q v J
noncomputable def loc (i : Nat) : EW := fun Z J Q _ => match jC Z i with | some v => Q v J | none => False

section
variable {T : TC} {d : Nat} {sc : Scope} {ctx : List Str}

theorem zkw {k pos} : zC T d sc ctx (.Constant .none k pos) (val .none) :=
 fun _ _ _ _ _ _ _ _ _ st _ hw => wpAny_Constant_none ⟨_, _, .none, st, .refl, hw⟩
theorem qp {b k pos} : zC T d sc ctx (.Constant (.bool b) k pos) (val (.bool b)) :=
 fun _ _ _ _ _ _ _ _ _ st _ hw => wpAny_Constant_bool ⟨_, _, .bool b, st, .refl, hw⟩
theorem zl {i k pos} : zC T d sc ctx (.Constant (.int i) k pos) (val (.int i)) :=
 fun _ _ _ _ _ _ _ _ _ st _ hw => wpAny_Constant_int ⟨_, _, .int i _, st.tok _, .tok .refl _, hw⟩
noncomputable def zgL : Option NameKind -> Bool
 | some .local | some .cell | some .free => true
 | _ => false
noncomputable def zo0 (sc : Scope) (ctx : List Str) (i : Nat) (x : Str) : Bool := (ctx[i]? == some x) && (zgL (sc.names.lookup x) && (!(x == ("__debug__" : Str)) && !(x == ("__classdict__" : Str))))
theorem za {x pos} (i : Nat) (h : zo0 sc ctx i x = true := by decide +kernel) :
  zC T d sc ctx (.Name x pos) (loc i) := by
 unfold zo0 at h
 rw [kaH, kaH, kaH, beq_iff_eq, kbK, kbK] at h
 obtain ⟨hx, hk, hd, hc⟩ := h
 intro A env Z J s Q P eo ro st fr hw
 unfold loc at hw
 cases hv : jC Z i with
 | none => rw [hv] at hw; exact hw.elim
 | some v =>
  rw [hv] at hw
  have hkf : env.scope.kind = .function := by rw [eo.scope]; exact eo.kind
  refine wpAny_Name ?_ hd
  rw [<- eo.kindOf] at hk
  cases hq : env.kindOf x with
  | none => rw [hq] at hk; cases hk
  | some kd =>
   rw [hq] at hk
   cases kd <;> first | (cases hk; done) | skip
   ·obtain ⟨m, hn, h2⟩ := fr.ns
    obtain ⟨u, h3, h4⟩ := h2 i x v hx hq hv
    exact wpAny_loadName_local hkf hq hn h3 ⟨_, _, h4, st, .refl, hw⟩
   ·obtain ⟨c, o, h1, h2, h3⟩ := fr.cell i x hx (.inl hq)
    obtain ⟨u, rfl, h4⟩ := h3 v hv
    exact wpAny_loadName_cell hkf hq h1 h2 ⟨_, _, h4, st, .refl, hw⟩
   ·obtain ⟨c, o, h1, h2, h3⟩ := fr.cell i x hx (.inr hq)
    obtain ⟨u, rfl, h4⟩ := h3 v hv
    exact wpAny_loadName_free hkf hq h1 h2 ⟨_, _, h4, st, .refl, hw⟩ hc

noncomputable def opI (f : Int -> Int -> Int) (ok : Int -> Int -> Prop) (a b : EW) : EW := fun Z J Q P =>
 a Z J (fun va J1 => b Z J1 (fun vb J2 => va.asInt fun x => vb.asInt fun y => ok x y /\ Q (.int (f x y)) J2) P) P
noncomputable def ym : EW -> EW -> EW := opI (· + ·) fun _ _ => True
noncomputable def zbR : EW -> EW -> EW := opI (· - ·) fun _ _ => True
noncomputable def zbU : EW -> EW -> EW := opI (· * ·) IntMulOk
noncomputable def zdF : EW -> EW -> EW := opI Int.fdiv fun x y => y ≠ 0 /\ Builtin.divisionGoesByPylong x y = false
noncomputable def wL : EW -> EW -> EW := opI Int.fmod fun _ y => y ≠ 0
def znG (a b : Int) : Prop := b > 0 /\ a > 1 /\ ¬Builtin.Int.intTooBig (((Builtin.Int.intBits a : Nat) : Int) * b) = true
noncomputable def zqR : EW -> EW -> EW := opI (fun x y => x ^ y.toNat) znG

theorem zcr {f ok op l r pos} {a b : EW} (hl : zC T d sc ctx l a) (hr : zC T d sc ctx r b)
  (h : ∀ A E s x y t u Q, ok x y -> (∀ t, Q (.int (f x y) t) { s with toks := s.toks + 1 }) -> wpAny T.M A (binaryOp op (.int x t) (.int y u)) Q E s) :
  zC T d sc ctx (.BinOp l op r pos) (opI f ok a b) := by
 intro A env Z J s Q P eo ro st fr hw
 refine wpAny_BinOp (hl.run eo ro st fr hw ?_)
 intro va ua J1 sB v1 st1 p1 fr1 hw1
 refine hr.then eo ro p1 st1 fr1 hw1 ?_
 intro vb ub J2 sM v2 st2 p2 fr2 hw2
 obtain ⟨x, t, hw3⟩ := hw2.get v1
 obtain ⟨y, u, hw4⟩ := hw3.get v2
 exact h A _ sM x y t u _ hw4.1 fun t => ⟨_, _, .int _ _, st2.tok _, p2.tok _, hw4.2⟩

theorem zT {l r pos} {a b : EW} (hl : zC T d sc ctx l a) (hr : zC T d sc ctx r b) : zC T d sc ctx (.BinOp l .Add r pos) (ym a b) :=
 zcr hl hr fun _ _ _ _ _ _ _ _ _ h => P.add_int (h _)
theorem jx {l r pos} {a b : EW} (hl : zC T d sc ctx l a) (hr : zC T d sc ctx r b) : zC T d sc ctx (.BinOp l .Sub r pos) (zbR a b) :=
 zcr hl hr fun _ _ _ _ _ _ _ _ _ h => P.sub_int (h _)
theorem qZ {l r pos} {a b : EW} (hl : zC T d sc ctx l a) (hr : zC T d sc ctx r b) : zC T d sc ctx (.BinOp l .Mult r pos) (zbU a b) :=
 zcr hl hr fun _ _ _ _ _ _ _ _ ok h => P.mul_int (h _) ok
theorem yw {l r pos} {a b : EW} (hl : zC T d sc ctx l a) (hr : zC T d sc ctx r b) : zC T d sc ctx (.BinOp l .FloorDiv r pos) (zdF a b) :=
 zcr hl hr fun _ _ _ _ _ _ _ _ ok h => AutoIntOps.floordiv_1 (by simpa using ok.1) (by simp [ok.2]) (h _)
theorem qg {l r pos} {a b : EW} (hl : zC T d sc ctx l a) (hr : zC T d sc ctx r b) : zC T d sc ctx (.BinOp l .Mod r pos) (wL a b) :=
 zcr hl hr fun _ _ _ _ _ _ _ _ ok h => AutoIntOps.mod_1 (by simpa using ok) (h _)
noncomputable def zn9 (a : EW) : EW := fun Z J Q P => a Z J (fun v J1 => v.asInt fun x => Q (.int (-x)) J1) P
theorem zkx {l pos} {a : EW} (hl : zC T d sc ctx l a) : zC T d sc ctx (.UnaryOp .USub l pos) (zn9 a) := by
 intro A env Z J s Q P eo ro st fr hw
 refine wpAny_UnaryOp (hl.run eo ro st fr hw ?_)
 intro va ua J1 sB v1 st1 p1 fr1 hw1
 obtain ⟨x, t, hw3⟩ := hw1.get v1
 exact PySem.P.neg_int ⟨_, _, .int _ _, st1.tok _, p1.tok _, hw3⟩

inductive Cmp where | lt | le | gt | ge | eq | ne
noncomputable def Cmp.op : Cmp -> CmpOp
 | .lt => .Lt | .le => .LtE | .gt => .Gt | .ge => .GtE | .eq => .Eq | .ne => .NotEq
noncomputable def Cmp.run : Cmp -> Int -> Int -> Bool
 | .lt, a, b => decide (a < b) | .le, a, b => decide (a <= b) | .gt, a, b => decide (a > b) | .ge, a, b => decide (a ≥ b) | .eq, a, b => a == b | .ne, a, b => a != b
theorem zcF (c : Cmp) {A E s x y t u} {Q : Value -> Shared -> Prop} (h : Q (.bool (c.run x y)) s) : wpAny T.M A (compareOp c.op (.int x t) (.int y u)) Q E s := by
 cases c
 ·exact P.lt_int h
 ·exact P.le_int h
 ·exact P.gt_int h
 ·exact P.ge_int h
 ·exact P.eq_int h
 ·exact P.ne_int h
theorem zf0 {op : CmpOp} (h : (op == .In || op == .NotIn) = false) (r : Expr) : behindInMarks op r = false := by
 cases r with
 | Set elts k p => show (k == 0 && (op == .In || op == .NotIn) && elts.all (constantsAlone 8)) = false; rw [h, Bool.and_false, kcx]
 | _ => rfl
theorem zdV (c : Cmp) (r : Expr) : behindInMarks c.op r = false := zf0 (by cases c <;> rfl) r

noncomputable def jv (c : Cmp) (a b : EW) : EW := fun Z J Q P =>
 a Z J (fun va J1 => b Z J1 (fun vb J2 => va.asInt fun x => vb.asInt fun y => Q (.bool (c.run x y)) J2) P) P
theorem zaw (c : Cmp) {l r pos op} {a b : EW} (ho : op = c.op) (hl : zC T d sc ctx l a) (hr : zC T d sc ctx r b) : zC T d sc ctx (.Compare l [op] [r] pos) (jv c a b) := by
 subst ho
 intro A env Z J s Q P eo ro st fr hw
 refine wpAny_Compare1 (hl.run eo ro st fr hw ?_) (zdV c r)
 intro va ua J1 sB v1 st1 p1 fr1 hw1
 refine hr.then eo ro p1 st1 fr1 hw1 ?_
 intro vb ub J2 sM v2 st2 p2 fr2 hw2
 obtain ⟨x, t, hw3⟩ := hw2.get v1
 obtain ⟨y, u, hw4⟩ := hw3.get v2
 exact zcF c ⟨_, _, .bool _, st2, p2, hw4⟩

def zj2 (T : TC) (J : zb) (s : Shared) (Q : V -> zb -> Prop) (b : Bool) (s' : Shared) : Prop :=
 ∃ J', St T J' s' /\ zR T [] J s J' s' /\ Q (.bool b) J'
def zcb (T : TC) (d : Nat) (sc : Scope) (ctx : List Str) (pe : Expr) (w : EW) : Prop :=
 ∀ A env Z J s Q P, jg sc env -> zaR T A d -> St T J s -> qB T env ctx Z J s.heap -> w Z J Q P ->
  wpAny T.M A (isTrue pe env (eval pe env)) (zj2 T J s Q) (jA T [] J s P) s
theorem zcb.then {pe w} (h : zcb T d sc ctx pe w) {A env Z JA sa J s Q P} (eo : jg sc env) (ro : zaR T A d) (a : zR T [] JA sa J s) (st : St T J s) (fr : qB T env ctx Z J s.heap) (hw : w Z J Q P) {Q'}
  (k : ∀ b J' s', St T J' s' -> zR T [] JA sa J' s' -> qB T env ctx Z J' s'.heap -> Q (.bool b) J' -> Q' b s') :
  wpAny T.M A (isTrue pe env (eval pe env)) Q' (jA T [] JA sa P) s :=
 kaz (h A env Z J s Q P eo ro st fr hw) (fun _ _ ⟨J', h2, h3, h4⟩ => k _ J' _ h2 (a.trans h3) (fr.step h3) h4) fun _ _ x => x.step a

noncomputable def tst (a : EW) : EW := fun Z J Q P => a Z J (fun v J1 => v.asBool fun b => Q (.bool b) J1) P
theorem qb {pe} {a : EW} (h : zC T d sc ctx pe a) (hp : ∀ env whole, isTrue pe env whole = (do let v <- whole; standAt pe.pos; holding [v] (truthy v)) := by intro _ _; rfl) : zcb T d sc ctx pe (tst a) := by
 intro A env Z J s Q P eo ro st fr hw
 refine wpAny_isTrue_value (h.run eo ro st fr hw ?_) (hp env _)
 intro va ua J1 sB v1 st1 p1 fr1 hw1
 obtain ⟨b, hw3⟩ := hw1.get v1
 exact ka5 ⟨_, st1, p1, hw3⟩
theorem zx (c : Cmp) {l r pos op} {a b : EW} (ho : op = c.op) (hl : zC T d sc ctx l a) (hr : zC T d sc ctx r b) : zcb T d sc ctx (.Compare l [op] [r] pos) (jv c a b) := by
 subst ho
 intro A env Z J s Q P eo ro st fr hw
 refine wpAny_isTrue_Compare1 (hl.run eo ro st fr hw ?_) (zdV c r)
 intro va ua J1 sB v1 st1 p1 fr1 hw1
 refine hr.then eo ro p1 st1 fr1 hw1 ?_
 intro vb ub J2 sM v2 st2 p2 fr2 hw2
 obtain ⟨x, t, hw3⟩ := hw2.get v1
 obtain ⟨y, u, hw4⟩ := hw3.get v2
 exact zcF c (ka5 ⟨_, st2, p2, hw4⟩)

noncomputable def zdB (a : EW) : EW := fun Z J Q P => a Z J (fun v J1 => v.asBool fun b => Q (.bool (!b)) J1) P
theorem jY {x pos} {a : EW} (h : zcb T d sc ctx x a) : zcb T d sc ctx (.UnaryOp .Not x pos) (zdB a) := by
 intro A env Z J s Q P eo ro st fr hw
 exact wpAny_isTrue_Not (h.then eo ro .refl st fr hw fun b J1 sB st1 p1 fr1 hw1 => ⟨J1, st1, p1, hw1⟩)
theorem zm5 {x pos} {a : EW} (h : zC T d sc ctx x a) : zC T d sc ctx (.UnaryOp .Not x pos) (zdB a) := by
 intro A env Z J s Q P eo ro st fr hw
 refine wpAny_UnaryOp (h.run eo ro st fr hw ?_)
 intro va ua J1 sB v1 st1 p1 fr1 hw1
 obtain ⟨b, hw3⟩ := hw1.get v1
 exact not_value (ka5 ⟨_, _, .bool _, st1, p1, hw3⟩)

noncomputable def zcI (a b : EW) : EW := fun Z J Q P => a Z J (fun v J1 => v.asBool fun t => if t then b Z J1 Q P else Q (.bool false) J1) P
noncomputable def orW (a b : EW) : EW := fun Z J Q P => a Z J (fun v J1 => v.asBool fun t => if t then Q (.bool true) J1 else b Z J1 Q P) P

def zdc (T : TC) (d : Nat) (sc : Scope) (ctx : List Str) (op : BoolOp) (ps : List Expr) (w : EW) : Prop :=
 ∀ A env Z J s Q P, jg sc env -> zaR T A d -> St T J s -> qB T env ctx Z J s.heap -> w Z J Q P ->
  wpAny T.M A (allTrue op ps env) (zj2 T J s Q) (jA T [] J s P) s
theorem zj2.step {J s J1 sB Q v s'} (a : zR T [] J s J1 sB) (h : zj2 T J1 sB Q v s') : zj2 T J s Q v s' :=
 let ⟨J', h2, h3, h4⟩ := h; ⟨J', h2, a.trans h3, h4⟩
theorem jk {x} {a : EW} (h : zcb T d sc ctx x a) : zdc T d sc ctx .And [x] a := by
 intro A env Z J s Q P eo ro st fr hw
 refine wpAny_allTrue_And_cons (h.then eo ro .refl st fr hw fun b J1 sB st1 p1 fr1 hw1 => ?_)
 cases b
 ·exact ⟨J1, st1, p1, hw1⟩
 ·exact wpAny_allTrue_And_nil ⟨J1, st1, p1, hw1⟩
theorem q0 {x} {a : EW} (h : zcb T d sc ctx x a) : zdc T d sc ctx .Or [x] a := by
 intro A env Z J s Q P eo ro st fr hw
 refine wpAny_allTrue_Or_cons (h.then eo ro .refl st fr hw fun b J1 sB st1 p1 fr1 hw1 => ?_)
 cases b
 ·exact wpAny_allTrue_Or_nil ⟨J1, st1, p1, hw1⟩
 ·exact ⟨J1, st1, p1, hw1⟩
theorem js {x y r} {a b : EW} (h : zcb T d sc ctx x a) (h' : zdc T d sc ctx .And (y :: r) b) : zdc T d sc ctx .And (x :: y :: r) (zcI a b) := by
 intro A env Z J s Q P eo ro st fr hw
 refine wpAny_allTrue_And_cons (h.then eo ro .refl st fr hw fun t J1 sB st1 p1 fr1 hw1 => ?_)
 cases t
 ·exact ⟨J1, st1, p1, hw1⟩
 ·exact kaz (h' A env Z J1 sB Q P eo ro st1 fr1 hw1) (fun _ _ x => x.step p1) fun _ _ x => x.step p1
theorem qU {x y r} {a b : EW} (h : zcb T d sc ctx x a) (h' : zdc T d sc ctx .Or (y :: r) b) : zdc T d sc ctx .Or (x :: y :: r) (orW a b) := by
 intro A env Z J s Q P eo ro st fr hw
 refine wpAny_allTrue_Or_cons (h.then eo ro .refl st fr hw fun t J1 sB st1 p1 fr1 hw1 => ?_)
 cases t
 ·exact kaz (h' A env Z J1 sB Q P eo ro st1 fr1 hw1) (fun _ _ x => x.step p1) fun _ _ x => x.step p1
 ·exact ⟨J1, st1, p1, hw1⟩
theorem zP {op ps pos} {a : EW} (h : zdc T d sc ctx op ps a) : zcb T d sc ctx (.BoolOp op ps pos) a :=
 fun A env Z J s Q P eo ro st fr hw => wpAny_isTrue_BoolOp (h A env Z J s Q P eo ro st fr hw)

def zlW (T : TC) (d : Nat) (sc : Scope) (ctx : List Str) (op : BoolOp) (ps : List Expr) (w : EW) : Prop :=
 ∀ A env Z J s Q P pos, jg sc env -> zaR T A d -> St T J s -> qB T env ctx Z J s.heap -> w Z J Q P ->
  wpAny T.M A (boolOp pos op (evalEach ps env)) (zhe T J s Q) (jA T [] J s P) s
theorem zfd {op x} {a : EW} (h : zC T d sc ctx x a) : zlW T d sc ctx op [x] a :=
 fun A env Z J s Q P pos eo ro st fr hw => h A env Z J s Q P eo ro st fr hw
theorem zad {x y r} {a b : EW} (h : zC T d sc ctx x a) (h' : zlW T d sc ctx .And (y :: r) b) : zlW T d sc ctx .And (x :: y :: r) (zcI a b) := by
 intro A env Z J s Q P pos eo ro st fr hw
 show wpAny T.M A (do
  let v <- eval x env
  standAt pos
  let t <- holding [v] (truthy v)
  match BoolOp.And, t with
  | .And, false | .Or, true => pure v
  | _, _ => boolOp pos .And (evalEach (y :: r) env)) _ _ s
 refine kar (h.run eo ro st fr hw fun v u J1 sB hv st1 p1 fr1 hw1 => ?_)
 obtain ⟨b, hw2⟩ := hw1.get hv
 refine kar (wpAny_standAt (kar (wpAny_holding (ka5 ?_))))
 cases b
 ·exact kaP ⟨_, _, .bool _, st1, p1, hw2⟩
 ·exact kaz (h' A env Z J1 sB Q P pos eo ro st1 fr1 hw2) (fun _ _ x => x.step p1) fun _ _ x => x.step p1
theorem zch {op ps pos} {a : EW} (h : zlW T d sc ctx op ps a) : zC T d sc ctx (.BoolOp op ps pos) a :=
 fun A env Z J s Q P eo ro st fr hw => h A env Z J s Q P pos eo ro st fr hw

noncomputable def zpZ (c a b : EW) : EW := fun Z J Q P => c Z J (fun v J1 => v.asBool fun t => if t then a Z J1 Q P else b Z J1 Q P) P
theorem zp8 {c l r pos} {wc a b : EW} (hc : zcb T d sc ctx c wc) (hl : zC T d sc ctx l a) (hr : zC T d sc ctx r b) : zC T d sc ctx (.IfExp c l r pos) (zpZ wc a b) := by
 intro A env Z J s Q P eo ro st fr hw
 refine wpAny_IfExp (hc.then eo ro .refl st fr hw fun t J1 sB st1 p1 fr1 hw1 => ?_)
 cases t
 ·exact kaz (hr A env Z J1 sB Q P eo ro st1 fr1 hw1) (fun _ _ x => x.step p1) fun _ _ x => x.step p1
 ·exact kaz (hl A env Z J1 sB Q P eo ro st1 fr1 hw1) (fun _ _ x => x.step p1) fun _ _ x => x.step p1
end
end Mine
end
section
open PySem
namespace Mine
open PySem.Calls PyProof.Rows

def qY (J : zb) (a : Addr) (k : List V -> Prop) : Prop := match J a with | some (.list xs) => k xs | _ => False
def zfM (J : zb) (a : Addr) (k : List V -> Prop) : Prop := match J a with | some (.tup xs) => k xs | _ => False
def yE (J : zb) (a : Addr) (k : List V -> Prop) : Prop := match J a with | some (.list xs) => k xs | some (.ro xs) => k xs | some (.tup xs) => k xs | _ => False
def yC (J : zb) (a : Addr) (k : List (Int × V) -> Prop) : Prop := match J a with | some (.dict xs) => k xs | _ => False
def wb (o : O) (J : zb) (Q : V -> zb -> Prop) : Prop := ∀ c, J c = none -> Q (.ref c) (put J c o)
theorem qY.get {J a k} (h : qY J a k) : E2 (fun xs => J a = some (.list xs)) k := by
 unfold qY at h; split at h
 ·exact ⟨_, ‹_›, h⟩
 ·exact h.elim
theorem zfM.get {J a k} (h : zfM J a k) : E2 (fun xs => J a = some (.tup xs)) k := by
 unfold zfM at h; split at h
 ·exact ⟨_, ‹_›, h⟩
 ·exact h.elim
theorem yE.get {J a k} (h : yE J a k) : E2 (fun xs => (J a = some (.list xs) \/ J a = some (.ro xs)) \/ J a = some (.tup xs)) k := by
 unfold yE at h; split at h
 ·exact ⟨_, .inl (.inl ‹_›), h⟩
 ·exact ⟨_, .inl (.inr ‹_›), h⟩
 ·exact ⟨_, .inr ‹_›, h⟩
 ·exact h.elim
theorem yC.get {J a k} (h : yC J a k) : E2 (fun xs => J a = some (.dict xs)) k := by
 unfold yC at h; split at h
 ·exact ⟨_, ‹_›, h⟩
 ·exact h.elim

theorem zag : lim <= sizeLine := by rw [sizeLine_eq]; unfold lim; exact kak rfl

section
variable {T : TC} {J : zb} {s : Shared}
theorem St.isL (st : St T J s) {a xs} (h : J a = some (.list xs)) : X2 fun us n => A4 (IsL s.heap a us n) (yn xs us.toList) (us.size = xs.length) (xs.length <= lim) := by
 obtain ⟨o, ho, hl, vs, n, rfl, hv⟩ := st.objs a _ h
 exact ⟨vs, n, ho, hv, by have := hv.length; simpa using this, hl⟩
theorem St.list (st : St T J s) {a xs} (h : J a = some (.list xs) \/ J a = some (.ro xs)) : E4 (fun us => s.heap.IsList a us) (fun us => yn xs us.toList) (fun us => us.size = xs.length) (fun _ => xs.length <= lim) := by
 rcases h with h | h
 ·obtain ⟨o, ho, hl, vs, n, rfl, hv⟩ := st.objs a _ h
  exact ⟨vs, ⟨_, ho, rfl, n, rfl⟩, hv, by have := hv.length; simpa using this, hl⟩
 ·obtain ⟨o, ho, hl, hc, vs, n, hd, hv⟩ := st.objs a _ h
  exact ⟨vs, ⟨_, ho, hc, n, hd⟩, hv, by have := hv.length; simpa using this, hl⟩
theorem St.tup (st : St T J s) {a xs} (h : J a = some (.tup xs)) : E4 (fun us => IsTup s.heap a us) (fun us => yn xs us.toList) (fun us => us.size = xs.length) (fun _ => xs.length <= lim) := by
 obtain ⟨o, ho, hl, vs, n, rfl, hv⟩ := st.objs a _ h
 exact ⟨vs, ⟨_, ho, rfl, n, rfl⟩, hv, by have := hv.length; simpa using this, hl⟩
theorem St.dict (st : St T J s) {a kvs} (h : J a = some (.dict kvs)) : E3 (fun us => s.heap.DictOf (intKind T.prog T.w) a us) (fun us => KVs kvs us) (fun _ => kvs.length <= lim) := by
 obtain ⟨o, ho, hl, us, hd, hv⟩ := st.objs a _ h
 exact ⟨us, kco.mpr ⟨o, ho, hd⟩, hv, hl⟩
theorem KVs.length {kvs us} (h : KVs kvs us) : us.length = kvs.length := by
 induction h with
 | nil => rfl
 | cons _ _ ih => exact congrArg Nat.succ ih
end

noncomputable abbrev EWs := zM -> zb -> (List V -> zb -> Prop) -> (Nat -> zb -> Prop) -> Prop
noncomputable def zF : EWs := fun _ J Q _ => Q [] J
noncomputable def zi (a : EW) (r : EWs) : EWs := fun Z J Q P => a Z J (fun v J1 => r Z J1 (fun vs J2 => Q (v :: vs) J2) P) P

structure zgN (T : TC) (d : Nat) (sc : Scope) (ctx : List Str) (pes : List Expr) (w : EWs) : Prop where
 plain : ∀ env pos, (backTo pos (starEach pes env)).any (·.1) = false
 run : ∀ A env Z JA sa J s Q P pos Q', jg sc env -> zaR T A d -> zR T [] JA sa J s -> St T J s -> qB T env ctx Z J s.heap -> w Z J Q P ->
  (∀ vs us J' s', yn vs us -> St T J' s' -> zR T [] JA sa J' s' -> qB T env ctx Z J' s'.heap -> Q vs J' -> Q' us s') ->
  wpAny T.M A (spliced (backTo pos (starEach pes env))) Q' (jA T [] JA sa P) s

section
variable {T : TC} {d : Nat} {sc : Scope} {ctx : List Str}
theorem zn : zgN T d sc ctx [] zF :=
 ⟨fun _ _ => rfl, fun A env Z JA sa J s Q P pos Q' eo ro p0 st fr hw k => spliced_nil (k [] [] J s .nil st p0 fr hw)⟩
theorem zc {e r} {a : EW} {ws : EWs} (h : zC T d sc ctx e a) (hr : zgN T d sc ctx r ws) (he : ∀ env, starEach (e :: r) env = (false, eval e env) :: starEach r env := by intro _; rfl) : zgN T d sc ctx (e :: r) (zi a ws) := by
 refine ⟨fun env pos => ?_, fun A env Z JA sa J s Q P pos Q' eo ro p0 st fr hw k => ?_⟩
 ·rw [he]; exact hr.plain env pos
 ·refine args_cons (h.then eo ro p0 st fr hw fun v u J1 sB hv st1 p1 fr1 hw1 => ?_) (he env)
  exact hr.run A env Z JA sa J1 sB _ P pos _ eo ro p1 st1 fr1 hw1 fun vs us J2 sM hvs st2 p2 fr2 hw2 => k (v :: vs) (u :: us) J2 sM (.cons hv hvs) st2 p2 fr2 hw2

noncomputable def qF (ws : EWs) : EW := fun Z J Q P => ws Z J (fun vs J1 => vs.length <= lim /\ wb (.list vs) J1 Q) P
noncomputable def zeI (ws : EWs) : EW := fun Z J Q P => ws Z J (fun vs J1 => vs.length <= lim /\ wb (.tup vs) J1 Q) P
theorem qa {es pos} {ws : EWs} (h : zgN T d sc ctx es ws) : zC T d sc ctx (.List es pos) (qF ws) := by
 intro A env Z J s Q P eo ro st fr hw
 refine wpAny_List (h.run A env Z J s J s _ P pos _ eo ro .refl st fr hw fun vs us J1 sB hv st1 p1 fr1 hw1 => ?_)
 refine ⟨by rw [hv.length]; exact kap hw1.1 zag, _, _, .ref _, ?_, ?_, hw1.2 sB.heap.objs.size st1.sizeFree⟩
 ·exact st1.alloc (so := .list vs) ⟨hw1.1, us.toArray, 0, rfl, by simpa using hv⟩ sB.toks rfl
 ·exact p1.alloc st1 _ _ sB.toks
theorem zac {es k pos} {ws : EWs} (h : zgN T d sc ctx es ws) : zC T d sc ctx (.Tuple es k pos) (zeI ws) := by
 intro A env Z J s Q P eo ro st fr hw
 refine wpAny_Tuple (h.run A env Z J s J s _ P pos _ eo ro .refl st fr hw fun vs us J1 sB hv st1 p1 fr1 hw1 => ?_)
 refine ⟨by rw [hv.length]; exact kap hw1.1 zag, _, _, .ref _, ?_, ?_, hw1.2 sB.heap.objs.size st1.sizeFree⟩
 ·exact st1.alloc (so := .tup vs) ⟨hw1.1, us.toArray, 0, rfl, by simpa using hv⟩ sB.toks rfl
 ·exact p1.alloc st1 _ _ sB.toks

def yR (xs : List V) (i : Nat) (k : V -> Prop) : Prop := match xs[i]? with | some v => k v | none => False
noncomputable def z8 (a i : EW) : EW := fun Z J Q P =>
 a Z J (fun va J1 => i Z J1 (fun vi J2 => va.asRef fun p => vi.asInt fun k => 0 <= k /\ yE J2 p fun xs => yR xs k.toNat fun v => Q v J2) P) P
theorem zu {e i pos} {a b : EW} (h : zC T d sc ctx e a) (h' : zC T d sc ctx i b)
  (hs : ∀ o k, subscripted i false o k = operate [o, k] (getItem o k) := by intro _ _; rfl) : zC T d sc ctx (.Subscript e i pos) (z8 a b) := by
 intro A env Z J s Q P eo ro st fr hw
 refine Subscript_ (h.run eo ro st fr hw fun va ua J1 sB v1 st1 p1 fr1 hw1 => ?_)
 refine h'.then eo ro p1 st1 fr1 hw1 fun vi ui J2 sM v2 st2 p2 fr2 hw2 => ?_
 obtain ⟨p, hw3⟩ := hw2.get v1
 obtain ⟨k, t, h0, hw4⟩ := hw3.get v2
 obtain ⟨xs, hx, hw5⟩ := hw4.get
 unfold yR at hw5
 cases hq : xs[k.toNat]? with
 | none => rw [hq] at hw5; exact hw5.elim
 | some v =>
  rw [hq] at hw5
  have hlt : k.toNat < xs.length := (kae.mp hq).1
  rcases hx with hx | hx
  ·obtain ⟨us, hl, hv, hz, hlim⟩ := st2.list hx
   obtain ⟨u, hu, hvu⟩ := hv.get hq
   have hfit : k < 2 ^ 63 := by unfold lim at hlim; omega
   exact tail_any hl.typeIs slot_list_getitem.lookup (wpAny_getItem_list hl h0 hfit (by simpa using hu) ⟨_, _, hvu, st2, p2, hw5⟩) (hs _ _)
  ·obtain ⟨us, hl, hv, hz, hlim⟩ := st2.tup hx
   obtain ⟨u, hu, hvu⟩ := hv.get hq
   have hfit : k < 2 ^ 63 := by unfold lim at hlim; omega
   refine tail_any hl.typeIs slot_tuple_getitem.lookup (getItem_tuple hl (by exact lin r1 (.neg (.num 9223372036854775808)) V0 [(0,1,N0,V0)] rfl h0) hfit (j := k.toNat) ?_ (by simpa using hu) ⟨_, _, hvu, st2, p2, hw5⟩) (hs _ _)
   have : k = (k.toNat : Int) := by exact liq r2 V0 V1 [(2,-1,V1,V0)] rfl (tnn (h0))
   unfold seqIndex?
   have hsz : us.size = xs.length := hz
   grind

structure Blt (T : TC) : Prop where
 none : ∀ x ∈ (["len", "isinstance", "list", "int", "bool", "tuple", "range", "all", "any", "sum", "max", "min", "sorted", "set", "dict", "enumerate", "reversed", "ValueError"] : List Str), T.mg x = none

theorem St.ns {J s} (st : St T J s) {a m} (h : T.hb.Ns a m) : s.heap.Ns a m := h.keeps st.base
theorem wS (ok : T.Ok) {env : Env} {x : Str} {pos : Pos} {v : Value} {A : Around} {J s E} {Q : Value -> Shared -> Prop} (eo : jg sc env) (st : St T J s) (hx : sc.names.lookup x = some .globalImplicit) (hm : T.mg x = none)
  (hv : bootBuiltins x = some v) (hn : x ≠ "__name__") (hd : (x == ("__debug__" : Str)) = false) (h : Q v s) : wpAny T.M A (eval (.Name x pos) env) Q E s := by
 refine Name_function_global (by rw [eo.scope]; exact eo.kind) (by rw [eo.kindOf]; exact hx) ?_ hd
 exact loadGlobal_builtin (mg := T.mg) (mb := T.mb) (by rw [eo.globals]; exact st.ns ok.g) hm (by rw [eo.builtins]; exact st.ns ok.b) ((ok.builtins x hn).trans hv) h

theorem zfe (ok : T.Ok) {x : Str} {id : String} {p pos e} {a : EW} {w : EW} (h : zC T d sc ctx e a) (hx : sc.names.lookup x = some .globalImplicit) (hm : T.mg x = none)
  (hv : bootBuiltins x = some (.builtin id)) (hn : x ≠ "__name__") (hd : (x == ("__debug__" : Str)) = false)
  (hw : ∀ Z J Q P, w Z J Q P -> ∃ Q1, a Z J Q1 P /\ ∀ A v u JA sa J1 sB E, zaR T A d -> VIs v u -> St T J1 sB -> zR T [] JA sa J1 sB -> Q1 v J1 -> wpAny T.M A (call (.builtin id) [u]) (zhe T JA sa Q) E sB)
  (he : ∀ env, starEach [e] env = [(false, eval e env)] := by intro _; rfl) : zC T d sc ctx (.Call (.Name x p) [e] [] pos) w := by
 intro A env Z J s Q P eo ro st fr hq
 obtain ⟨Q1, ha, hc⟩ := hw Z J Q P hq
 refine Call_ (wS ok eo st hx hm hv hn hd ?_)
 refine callWith_builtin1 (args_cons (h.then eo ro .refl st fr ha fun v u J1 sB hv st1 p1 fr1 hw1 => args_nil (hc A v u J s J1 sB _ ro hv st1 p1 hw1)) (he env)) (he env) rfl
theorem zhD (ok : T.Ok) {x : Str} {id : String} {p pos e} {a : EW} {w : EW} (h : zC T d sc ctx e a) (hx : sc.names.lookup x = some .globalImplicit) (hm : T.mg x = none)
  (hv : bootBuiltins x = some (.type id)) (hn : x ≠ "__name__") (hd : (x == ("__debug__" : Str)) = false)
  (hw : ∀ Z J Q P, w Z J Q P -> ∃ Q1, a Z J Q1 P /\ ∀ A v u JA sa J1 sB E, zaR T A d -> VIs v u -> St T J1 sB -> zR T [] JA sa J1 sB -> Q1 v J1 -> wpAny T.M A (call (.type id) [u]) (zhe T JA sa Q) E sB)
  (he : ∀ env, starEach [e] env = [(false, eval e env)] := by intro _; rfl) : zC T d sc ctx (.Call (.Name x p) [e] [] pos) w := by
 intro A env Z J s Q P eo ro st fr hq
 obtain ⟨Q1, ha, hc⟩ := hw Z J Q P hq
 refine Call_ (wS ok eo st hx hm hv hn hd ?_)
 refine callWith_type1 (args_cons (h.then eo ro .refl st fr ha fun v u J1 sB hv st1 p1 fr1 hw1 => args_nil (hc A v u J s J1 sB _ ro hv st1 p1 hw1)) (he env)) (he env) rfl

def zaC (J : zb) (p : Addr) (k : Nat -> Prop) : Prop := match J p with
 | some (.list xs) => k xs.length
 | some (.ro xs) => k xs.length
 | some (.tup xs) => k xs.length
 | some (.dict kvs) => k kvs.length
 | _ => False
noncomputable def j5 (a : EW) : EW := fun Z J Q P => a Z J (fun v J1 => v.asRef fun p => zaC J1 p fun n => Q (.int n) J1) P
theorem qd (ok : T.Ok) (B : Blt T) {p pos e} {a : EW} (h : zC T d sc ctx e a) (hx : sc.names.lookup ("len" : Str) = some .globalImplicit := by decide +kernel)
  (he : ∀ env, starEach [e] env = [(false, eval e env)] := by intro _; rfl) : zC T d sc ctx (.Call (.Name "len" p) [e] [] pos) (j5 a) := by
 refine zfe ok h hx (B.none _ (by decide)) (id := "len") (by decide +kernel) (by decide) (by decide) (fun Z J Q P hw => ⟨_, hw, fun A v u JA sa J1 sB E ro hv st1 p1 hw1 => ?_⟩) he
 obtain ⟨q, hw2⟩ := hw1.get hv
 unfold zaC at hw2
 split at hw2
 ·rename_i xs hx
  obtain ⟨us, hl, hv, hz, hlim⟩ := st1.list (.inl hx)
  exact len_list hl (by unfold lim at hlim; exact lit r2 V0 (.num 9223372036854775808) [(2,1,V0,V1),(0,1,V1,.num 1000000)] rfl (eqI hz) (leI hlim)) ⟨_, _, .int _ _, st1.tok _, p1.tok _, by rw [hz]; exact hw2⟩
 ·rename_i xs hx
  obtain ⟨us, hl, hv, hz, hlim⟩ := st1.list (.inr hx)
  exact len_list hl (by unfold lim at hlim; exact lit r2 V0 (.num 9223372036854775808) [(2,1,V0,V1),(0,1,V1,.num 1000000)] rfl (eqI hz) (leI hlim)) ⟨_, _, .int _ _, st1.tok _, p1.tok _, by rw [hz]; exact hw2⟩
 ·rename_i xs hx
  obtain ⟨us, hl, hv, hz, hlim⟩ := st1.tup hx
  exact len_tuple hl (by unfold lim at hlim; exact lit r2 V0 (.num 9223372036854775808) [(2,1,V0,V1),(0,1,V1,.num 1000000)] rfl (eqI hz) (leI hlim)) ⟨_, _, .int _ _, st1.tok _, p1.tok _, by rw [hz]; exact hw2⟩
 ·rename_i xs hx
  obtain ⟨us, hl, hv, hlim⟩ := st1.dict hx
  exact call_len_dict (st1.sysm _ (by simp [hx]) (st1.notScr hx (by intro xs e; cases e))) hl (by rw [hv.length]; unfold lim at hlim; exact lit r1 V0 (.num 9223372036854775808) [(0,1,V0,.num 1000000)] rfl (leI hlim)) ⟨_, _, .int _ _, st1.tok _, p1.tok _, by rw [hv.length]; exact hw2⟩
 ·exact hw2.elim

noncomputable def za1 (a : EW) : EW := fun Z J Q P => a Z J (fun v J1 => v.asRef fun p => yE J1 p fun xs => wb (.list xs) J1 Q) P
theorem wQ (ok : T.Ok) (B : Blt T) {p pos e} {a : EW} (h : zC T d sc ctx e a) (hx : sc.names.lookup ("list" : Str) = some .globalImplicit := by decide +kernel)
  (he : ∀ env, starEach [e] env = [(false, eval e env)] := by intro _; rfl) : zC T d sc ctx (.Call (.Name "list" p) [e] [] pos) (za1 a) := by
 refine zhD ok h hx (B.none _ (by decide)) (id := "list") (by decide +kernel) (by decide) (by decide) (fun Z J Q P hw => ⟨_, hw, fun A v u JA sa J1 sB E ro hv st1 p1 hw1 => ?_⟩) he
 obtain ⟨q, hw2⟩ := hw1.get hv
 obtain ⟨xs, hx, hw3⟩ := hw2.get
 have key : ∃ o vs n, ∃ TY : String, (TY = "list" \/ TY = "tuple") /\ sB.heap.get? q = some o /\ o.cls = .type TY /\ o.data = .seq vs n /\ yn xs vs.toList /\ xs.length <= lim := by
  rcases hx with (hx | hx) | hx
  ·obtain ⟨o, ho, hlim, vs, n, rfl, hv⟩ := st1.objs _ _ hx; exact ⟨_, vs, n, "list", .inl rfl, ho, rfl, rfl, hv, hlim⟩
  ·obtain ⟨o, ho, hlim, hc, vs, n, hd, hv⟩ := st1.objs _ _ hx; exact ⟨_, vs, n, "list", .inl rfl, ho, hc, hd, hv, hlim⟩
  ·obtain ⟨o, ho, hlim, vs, n, rfl, hv⟩ := st1.objs _ _ hx; exact ⟨_, vs, n, "tuple", .inr rfl, ho, rfl, rfl, hv, hlim⟩
 obtain ⟨o, vs, n, TY, hT, ho, hc, hd, hv, hlim⟩ := key
 refine call_list_seq q hT ho hc hd (fun h' c' hk hn => ?_) (by have := hv.length; simp at this; rw [this]; exact kap hlim zag)
 exact ⟨_, _, .ref _, st1.lay hk hn (so := .list xs) ⟨hlim, vs, c', rfl, hv⟩ sB.toks, p1.lay hk _ sB.toks, hw3 _ st1.sizeFree⟩

noncomputable def zol (a : EW) : EW := fun Z J Q P => a Z J (fun v J1 => v.asBool fun b => Q (.int (if b then 1 else 0)) J1) P
theorem zkz (ok : T.Ok) (B : Blt T) {p pos e} {a : EW} (h : zC T d sc ctx e a) (hx : sc.names.lookup ("int" : Str) = some .globalImplicit := by decide +kernel)
  (he : ∀ env, starEach [e] env = [(false, eval e env)] := by intro _; rfl) : zC T d sc ctx (.Call (.Name "int" p) [e] [] pos) (zol a) := by
 refine zhD ok h hx (B.none _ (by decide)) (id := "int") (by decide +kernel) (by decide) (by decide) (fun Z J Q P hw => ⟨_, hw, fun A v u JA sa J1 sB E ro hv st1 p1 hw1 => ?_⟩) he
 obtain ⟨b, hw2⟩ := hw1.get hv
 exact call_int_bool ⟨_, _, .int _ _, st1.tok _, p1.tok _, hw2⟩
end
end Mine
end
section
open PySem
namespace Mine
open PySem.Calls PyProof.Rows

section
variable {T : TC} {d : Nat} {sc : Scope} {ctx : List Str}

inductive Ty where | int | bool | list | tuple
noncomputable def Ty.str : Ty -> String | .int => "int" | .bool => "bool" | .list => "list" | .tuple => "tuple"
def isi (ty : Ty) (J : zb) (v : V) (k : Bool -> Prop) : Prop := match v with
 | .none => k false
 | .bool _ => k (match ty with | .int => true | .bool => true | _ => false)
 | .int _ => k (match ty with | .int => true | _ => false)
 | .str _ => k false
 | .ref a => match J a with
  | some (.list _) => k (match ty with | .list => true | _ => false)
  | some (.ro _) => k (match ty with | .list => true | _ => false)
  | some (.tup _) => k (match ty with | .tuple => true | _ => false)
  | some (.dict _) => k false
  | _ => False
noncomputable def zi9 (ty : Ty) (a : EW) : EW := fun Z J Q P => a Z J (fun v J1 => isi ty J1 v fun b => Q (.bool b) J1) P

theorem zmq {A E s J} (ty : Ty) {v u} {k : Bool -> Prop} {Q : Value -> Shared -> Prop} (st : St T J s) (hv : VIs v u) (h : isi ty J v k) (hq : ∀ b tk, k b -> Q (.bool b) { s with toks := tk }) :
  wpAny T.M A (call (.builtin "isinstance") [u, .type ty.str]) Q E s := by
 cases hv with
 | none => cases ty <;> first | exact IsiPair.NoneType_int (hq _ _ h) | exact IsiPair.NoneType_bool (hq _ _ h) | exact IsiPair.NoneType_list (hq _ _ h) | exact IsiPair.NoneType_tuple (hq _ _ h)
 | bool b => cases ty <;> first | exact IsiPair.bool_int (hq _ s.toks h) | exact IsiPair.bool_bool (hq _ s.toks h) | exact IsiPair.bool_list (hq _ _ h) | exact IsiPair.bool_tuple (hq _ _ h)
 | int i t => cases ty <;> first | exact IsiPair.int_int (hq _ s.toks h) | exact IsiPair.int_bool (hq _ _ h) | exact IsiPair.int_list (hq _ _ h) | exact IsiPair.int_tuple (hq _ _ h)
 | str x t => cases ty <;> first | exact IsiPair.str_int (hq _ _ h) | exact IsiPair.str_bool (hq _ _ h) | exact IsiPair.str_list (hq _ _ h) | exact IsiPair.str_tuple (hq _ _ h)
 | ref a =>
  unfold isi at h
  dsimp only at h
  split at h
  ·rename_i xs hx
   obtain ⟨us, ⟨o, ho, hc, _⟩, _⟩ := st.list (.inl hx)
   cases ty <;> first | exact IsiPair.list_int ho hc (hq _ _ h) | exact IsiPair.list_bool ho hc (hq _ _ h) | exact IsiPair.list_list ho hc (hq _ s.toks h) | exact IsiPair.list_tuple ho hc (hq _ _ h)
  ·rename_i xs hx
   obtain ⟨us, ⟨o, ho, hc, _⟩, _⟩ := st.list (.inr hx)
   cases ty <;> first | exact IsiPair.list_int ho hc (hq _ _ h) | exact IsiPair.list_bool ho hc (hq _ _ h) | exact IsiPair.list_list ho hc (hq _ s.toks h) | exact IsiPair.list_tuple ho hc (hq _ _ h)
  ·rename_i xs hx
   obtain ⟨us, ⟨o, ho, hc, _⟩, _⟩ := st.tup hx
   cases ty <;> first | exact IsiPair.tuple_int ho hc (hq _ _ h) | exact IsiPair.tuple_bool ho hc (hq _ _ h) | exact IsiPair.tuple_list ho hc (hq _ _ h) | exact IsiPair.tuple_tuple ho hc (hq _ s.toks h)
  ·rename_i xs hx
   obtain ⟨us, hd, _⟩ := st.dict hx
   obtain ⟨o, es, ep, ho, ⟨hc, _⟩, _⟩ := hd
   cases ty <;> first | exact IsiPair.dict_int ho hc (hq _ _ h) | exact IsiPair.dict_bool ho hc (hq _ _ h) | exact IsiPair.dict_list ho hc (hq _ _ h) | exact IsiPair.dict_tuple ho hc (hq _ _ h)
  ·exact h.elim

theorem zcs (ok : T.Ok) (B : Blt T) (ty : Ty) {p q pos e x} {a : EW} (h : zC T d sc ctx e a) (hi : sc.names.lookup ("isinstance" : Str) = some .globalImplicit) (hx : sc.names.lookup x = some .globalImplicit) (ht : x = Str.ofString ty.str)
  (he : ∀ env, starEach [e, .Name x q] env = [(false, eval e env), (false, eval (.Name x q) env)] := by intro _; rfl) :
  zC T d sc ctx (.Call (.Name "isinstance" p) [e, .Name x q] [] pos) (zi9 ty a) := by
 intro A env Z J s Q P eo ro st fr hw
 refine Call_ (wS ok eo st hi (B.none _ (by decide)) (v := .builtin "isinstance") (by decide +kernel) (by decide) (by decide) ?_)
 have he1 : starEach (e :: [.Name x q]) env = (false, eval e env) :: starEach [.Name x q] env := he env
 refine callWith_builtin1 (args_cons (h.then eo ro .refl st fr hw fun v u J1 sB hv st1 p1 fr1 hw1 => ?_) he1) he1 rfl
 have hm : T.mg x = none /\ bootBuiltins x = some (.type ty.str) /\ x ≠ "__name__" /\ (x == ("__debug__" : Str)) = false := by
  subst ht
  cases ty <;> exact ⟨B.none _ (by decide), by decide +kernel, by decide, by decide⟩
 refine args_cons (wS ok eo st1 hx hm.1 hm.2.1 hm.2.2.1 hm.2.2.2 (args_nil ?_))
 exact zmq ty st1 hv hw1 fun b tk hb => ⟨_, _, .bool b, st1.tok _, p1.tok _, hb⟩

noncomputable def mulL (a b : EW) : EW := fun Z J Q P =>
 a Z J (fun va J1 => b Z J1 (fun vb J2 => va.asRef fun p => vb.asInt fun k => qY J2 p fun xs => k < 2 ^ 62 /\ -(2 ^ 62) <= k /\ xs.length * k.toNat <= lim /\ wb (.list (kaD k.toNat xs).flatten) J2 Q) P) P
theorem yn.rep {xs us} (h : yn xs us) : ∀ n, yn (kaD n xs).flatten (kaD n us).flatten
 | 0 => by simp; exact .nil
 | n + 1 => by simp only [kbL, kcT]; exact h.append (h.rep n)
theorem zbD {l r pos} {a b : EW} (hl : zC T d sc ctx l a) (hr : zC T d sc ctx r b) : zC T d sc ctx (.BinOp l .Mult r pos) (mulL a b) := by
 intro A env Z J s Q P eo ro st fr hw
 refine wpAny_BinOp (hl.run eo ro st fr hw ?_)
 intro va ua J1 sB v1 st1 p1 fr1 hw1
 refine hr.then eo ro p1 st1 fr1 hw1 ?_
 intro vb ub J2 sM v2 st2 p2 fr2 hw2
 obtain ⟨p, hw3⟩ := hw2.get v1
 obtain ⟨k, t, hw4⟩ := hw3.get v2
 obtain ⟨xs, hx, h1, h2, h3, hw5⟩ := hw4.get
 obtain ⟨us, n, ho, hv, hz, hlim⟩ := st2.isL hx
 have hsz : us.size * k.toNat <= 2 ^ 24 := by rw [hz]; unfold lim at h3; exact leN (lin r1 V0 (.num 16777216) [(0,1,V0,.num 1000000)] rfl (leI h3))
 refine wpAny_binaryOp_repeat_ref (T := "list") (U := "int") (by decide) ⟨_, ho, rfl⟩ (fun s' => typeIs_int s' k t) noFill_list_mul F.fills_int_mul F.slot_int_rmul repeat_list F.slot_int_index.lookup
  (call_meets F.slot_int_rmul (typeIs_int sM k t) F.entry_int_rmul (F.args_int_rmul_2 _ _) (int___rmul___int_list k t p us n)
   ⟨ho, rfl, ⟨_, ho, rfl⟩, call_meets F.slot_list_mul ⟨_, ho, rfl⟩ F.entry_list_mul (F.args_list_mul_2 _ _)
    (AutoListH.list___mul___list_int_3 p us n k t (by simp [Builtin.List.listFitsIndex]; exact ⟨lin r1 (.neg (.num 9223372036854775808)) V0 [(0,1,.neg (.num 4611686018427387904),V0)] rfl h2, lit r1 V0 (.num 9223372036854775808) [(1,1,V0,.num 4611686018427387904)] rfl h1⟩) (by lia) (by simp [Builtin.List.listTooLong, sizeLine]; assumption))
    ⟨ho, ?_⟩⟩)
 rw [listMul_foldl_if]
 refine ⟨_, _, .ref _, st2.alloc (so := .list (kaD k.toNat xs).flatten) ⟨?_, _, 0, rfl, by simpa using hv.rep k.toNat⟩ sM.toks rfl, p2.alloc st2 _ _ sM.toks, hw5 _ st2.sizeFree⟩
 simpa [kdn] using h3

noncomputable def zhd (a b : EW) : EW := fun Z J Q P =>
 a Z J (fun va J1 => b Z J1 (fun vb J2 => va.asRef fun p => vb.asRef fun q => qY J2 p fun xs => qY J2 q fun ys => xs.length + ys.length <= lim /\ wb (.list (xs ++ ys)) J2 Q) P) P
theorem zax {l r pos} {a b : EW} (hl : zC T d sc ctx l a) (hr : zC T d sc ctx r b) : zC T d sc ctx (.BinOp l .Add r pos) (zhd a b) := by
 intro A env Z J s Q P eo ro st fr hw
 refine wpAny_BinOp (hl.run eo ro st fr hw ?_)
 intro va ua J1 sB v1 st1 p1 fr1 hw1
 refine hr.then eo ro p1 st1 fr1 hw1 ?_
 intro vb ub J2 sM v2 st2 p2 fr2 hw2
 obtain ⟨p, hw3⟩ := hw2.get v1
 obtain ⟨q, hw4⟩ := hw3.get v2
 obtain ⟨xs, hx, hw5⟩ := hw4.get
 obtain ⟨ys, hy, h1, hw6⟩ := hw5.get
 obtain ⟨us, n, ho, hv, hz, _⟩ := st2.isL hx
 obtain ⟨ws, n', ho', hv', hz', _⟩ := st2.isL hy
 refine PySem.P.add_list ho ho' ⟨_, _, .ref _, st2.alloc (so := .list (xs ++ ys)) ⟨?_, _, 0, rfl, by simpa using hv.append hv'⟩ sM.toks rfl, p2.alloc st2 _ _ sM.toks, hw6 _ st2.sizeFree⟩ ?_
 ·simpa using h1
 ·rw [hz, hz']; exact kap h1 zag

def wg (J : zb) (a : Addr) (k : List V -> Prop) : Prop := match J a with | some (.list xs) => k xs | some (.ro xs) => k xs | _ => False
theorem wg.get {J a k} (h : wg J a k) : E2 (fun xs => J a = some (.list xs) \/ J a = some (.ro xs)) k := by
 unfold wg at h; split at h
 ·exact ⟨_, .inl ‹_›, h⟩
 ·exact ⟨_, .inr ‹_›, h⟩
 ·exact h.elim
noncomputable def zfu (a b : EW) : EW := fun Z J Q P =>
 a Z J (fun va J1 => b Z J1 (fun vb J2 => va.asRef fun p => vb.asInt fun k => 0 <= k /\ wg J2 p fun xs => wb (.list (xs.drop k.toNat)) J2 Q) P) P
noncomputable def zh7 (a b : EW) : EW := fun Z J Q P =>
 a Z J (fun va J1 => b Z J1 (fun vb J2 => va.asRef fun p => vb.asInt fun k => 0 <= k /\ wg J2 p fun xs => wb (.list (xs.take k.toNat)) J2 Q) P) P

theorem zdT {JA sa J s Q} (st : St T J s) (p0 : zR T [] JA sa J s) {ob : Obj} {us : Array Value} {ys : List V} (hv : yn ys us.toList) (hl : ys.length <= lim) (hq : wb (.list ys) J Q) :
  zhe T JA sa Q (.ref (s.heap.objs.size + 1)) { s with heap := (s.heap.push ob).push { cls := .type "list", data := .seq us } } := by
 have st1 := st.push ob s.toks
 have hz : (s.heap.push ob).objs.size = s.heap.objs.size + 1 := kcf ..
 have st2 := st1.alloc (o := { cls := .type "list", data := .seq us }) (so := .list ys) ⟨hl, us, 0, rfl, hv⟩ s.toks rfl
 have p2 := (p0.push ob s.toks).alloc st1 { cls := .type "list", data := .seq us } (.list ys) s.toks
 simp only [hz] at st2 p2
 refine ⟨_, _, .ref _, st2, p2, hq _ ?_⟩
 have := st1.sizeFree
 simp only [hz] at this
 exact this
theorem zct {e i p pos} {a b : EW} (h : zC T d sc ctx e a) (h' : zC T d sc ctx i b) (ht : ∀ o r, letTemporaryGo e o r = pure () := by intro _ _; rfl) :
  zC T d sc ctx (.Subscript e (.Slice (some i) none none p) pos) (zfu a b) := by
 intro A env Z J s Q P eo ro st fr hw
 refine wpAny_Subscript_list_slice (h.run eo ro st fr hw fun va ua J1 sB v1 st1 p1 fr1 hw1 => ?_) ht
 refine wpAny_evalPart_some (h'.then eo ro p1 st1 fr1 hw1 fun vi ui J2 sM v2 st2 p2 fr2 hw2 => wpAny_evalPart_none ?_)
 obtain ⟨q, hw3⟩ := hw2.get v1
 obtain ⟨k, t, h0, hw4⟩ := hw3.get v2
 obtain ⟨xs, hx, hw5⟩ := hw4.get
 obtain ⟨us, hl, hv, hz, hlim⟩ := st2.list hx
 refine ⟨q, us, some k, none, rfl, hl, by rw [hz]; exact kap hlim zag, .int _ _, .none, ?_⟩
 obtain ⟨j, rfl⟩ := kay h0
 have e : slicePick us (some (j : Int)) none none = (us.toList.drop j).toArray := slicePick_from' us j
 rw [e]
 exact zdT st2 p2 (by simpa using hv.drop j) (by simp; exact leN (lin r3 V0 (.add V1 V2) [(0,1,V0,V1),(0,1,N0,V2)] rfl (leI hlim) h0)) hw5
theorem zfb {e i p pos} {a b : EW} (h : zC T d sc ctx e a) (h' : zC T d sc ctx i b) (ht : ∀ o r, letTemporaryGo e o r = pure () := by intro _ _; rfl) :
  zC T d sc ctx (.Subscript e (.Slice none (some i) none p) pos) (zh7 a b) := by
 intro A env Z J s Q P eo ro st fr hw
 refine wpAny_Subscript_list_slice (h.run eo ro st fr hw fun va ua J1 sB v1 st1 p1 fr1 hw1 => ?_) ht
 refine wpAny_evalPart_none (wpAny_evalPart_some (h'.then eo ro p1 st1 fr1 hw1 fun vi ui J2 sM v2 st2 p2 fr2 hw2 => ?_))
 obtain ⟨q, hw3⟩ := hw2.get v1
 obtain ⟨k, t, h0, hw4⟩ := hw3.get v2
 obtain ⟨xs, hx, hw5⟩ := hw4.get
 obtain ⟨us, hl, hv, hz, hlim⟩ := st2.list hx
 refine ⟨q, us, none, some k, rfl, hl, by rw [hz]; exact kap hlim zag, .none, .int _ _, ?_⟩
 obtain ⟨j, rfl⟩ := kay h0
 have e : slicePick us none (some (j : Int)) none = (us.toList.take j).toArray := slicePick_upto' us j
 rw [e]
 exact zdT st2 p2 (by simpa using hv.take j) (by simp; lia) hw5

noncomputable def zji (a b : EW) : EW := fun Z J Q P =>
 a Z J (fun va J1 => va.asRef fun p => qY J1 p (fun _ => True) /\ b Z J1 (fun vb J2 => qY J2 p fun xs => xs.length < lim /\ Q .none (put J2 p (.list (xs ++ [vb])))) P) P
theorem zc9 {o e apos pos} {a b : EW} (h : zC T d sc ctx o a) (h' : zC T d sc ctx e b)
  (hbase : ∀ env, attributeBase o "append" env (eval o env) = eval o env := by intro _; rfl)
  (hfew : ∀ env, ((backTo pos (starEach [e] env)).all (fun x => !x.1) && (backToKw pos (keywordEach [] env)).all (fun x => x.1.isSome)
   && decide (([e] : List Expr).length + ([] : List Keyword).length + (if ([] : List Keyword).isEmpty then 0 else 1) < 30)) = true := by intro _; rfl)
  (hline : (apos.endLine == pos.line) = true := by rfl)
  (htrees : ∀ env, backTo pos (starEach [e] env) = [(false, eval e env)] := by intro _; rfl) :
  zC T d sc ctx (.Call (.Attribute o "append" apos) [e] [] pos) (zji a b) := by
 intro A env Z J s Q P eo ro st fr hw
 refine wpAny_Call_append (hbase env) (hfew env) hline (htrees env) (h.run eo ro st fr hw fun va ua J1 sB v1 st1 p1 fr1 hw1 => ?_)
 obtain ⟨p, hw2, hw3⟩ := hw1.get v1
 obtain ⟨xs1, hxB, _⟩ := hw2.get
 obtain ⟨us1, nB, hoB, _⟩ := st1.isL hxB
 refine ⟨p, us1, rfl, ⟨_, nB, hoB, rfl, rfl, rfl⟩, h'.then eo ro p1 st1 fr1 hw3 fun vb ub J2 sM v2 st2 p2 fr2 hw4 => ?_⟩
 obtain ⟨xs, hx, h1, hw5⟩ := hw4.get
 obtain ⟨us, n, ho, hv, hz, _⟩ := st2.isL hx
 refine call_meets F.slot_list_append ⟨_, ho, rfl⟩ F.entry_list_append (F.args_list_append_2 _ _) (AutoListH.list_append_list_val_0 p us n ub (by rw [hz]; exact kap (kaX h1) zag)) ⟨ho, ?_⟩
 have hn := st2.notScr hx (by intro _ e; cases e)
 have ho' := IsL.update ho (fun x => x.push ub)
 refine ⟨_, _, .none, st2.turn hx hn (kbE.update ..) ho' (so' := .list (xs ++ [vb])) ⟨by simp; assumption, _, _, rfl, by simpa using hv.append (.cons v2 .nil)⟩ sM.toks, p2.turn hx hn (kbE.update ..) ho' sM.toks, hw5⟩

noncomputable def zhW (kvs : List (Int × V)) (k : Int) : Bool := kvs.any fun kv => decide (kv.1 = k)
noncomputable def zgt (kvs : List (Int × V)) (k : Int) (v : V) : List (Int × V) :=
 if kvs.any (fun kv => decide (kv.1 = k)) then kvs.map (fun kv => if kv.1 = k then (kv.1, v) else kv) else kvs ++ [(k, v)]
theorem KVs.has {kvs us} (h : KVs kvs us) (k : Int) : (valueAt us k).isSome = zhW kvs k := by
 induction h with
 | nil => rfl
 | @cons k' v u r s h _ this =>
  unfold valueAt zhW at *
  rw [List.find?_cons, kd3]
  by_cases e : k' = k
  ·rw [decide_eq_true e]; rfl
  ·rw [decide_eq_false e, kdh]; exact this
theorem KVs.any {kvs us} (h : KVs kvs us) (k : Int) : (us.any fun kv => decide (kv.1 = k)) = kvs.any fun kv => decide (kv.1 = k) := by
 induction h with
 | nil => rfl
 | cons _ _ ih => simp only [kd3, ih]
theorem KVs.append {kvs us kvs' us'} (h : KVs kvs us) (h' : KVs kvs' us') : KVs (kvs ++ kvs') (us ++ us') := by
 induction h with
 | nil => exact h'
 | cons h _ ih => exact .cons h ih
theorem KVs.map {kvs us} (h : KVs kvs us) (k : Int) {v u} (hv : VIs v u) : KVs (kvs.map fun kv => if kv.1 = k then (kv.1, v) else kv) (us.map fun kv => if kv.1 = k then (kv.1, u) else kv) := by
 induction h with
 | nil => exact .nil
 | cons h _ ih =>
  simp only [kaO]
  split
  ·exact .cons hv ih
  ·exact .cons h ih
theorem KVs.put {kvs us} (h : KVs kvs us) (k : Int) {v u} (hv : VIs v u) : KVs (zgt kvs k v) (stored us k u) := by
 unfold zgt stored
 rw [h.any]
 split
 ·exact h.map k hv
 ·exact h.append (.cons hv .nil)
theorem zjc (kvs : List (Int × V)) (k : Int) (v : V) : (zgt kvs k v).length <= kvs.length + 1 := by
 unfold zgt; split <;> simp

noncomputable def inD (neg : Bool) (a b : EW) : EW := fun Z J Q P =>
 a Z J (fun va J1 => b Z J1 (fun vb J2 => va.asInt fun k => vb.asRef fun p => yC J2 p fun kvs => Q (.bool (if neg then !zhW kvs k else zhW kvs k)) J2) P) P
noncomputable def znk (neg : Bool) : CmpOp := if neg then .NotIn else .In
theorem zkQ (neg : Bool) {A E s J k t p kvs} {Q : Value -> Shared -> Prop} (st : St T J s) (hx : J p = some (.dict kvs)) (h : ∀ tk, Q (.bool (if neg then !zhW kvs k else zhW kvs k)) { s with toks := tk }) :
  wpAny T.M A (compareOp (znk neg) (.int k t) (.ref p)) Q E s := by
 obtain ⟨us, hd, hv, _⟩ := st.dict hx
 have hs := st.sysm p (by simp [hx]) (st.notScr hx (by intro xs e; cases e))
 cases neg
 ·refine wpAny_in_of (intKind_is T.prog T.w k t) hs hd.mapOf ?_
  rw [hv.has]; exact h _
 ·refine wpAny_notIn_of (intKind_is T.prog T.w k t) hs hd.mapOf ?_
  rw [hv.has]; exact h _
theorem zh8 (neg : Bool) {l r pos op} {a b : EW} (ho : op = znk neg) (hl : zC T d sc ctx l a) (hr : zC T d sc ctx r b) (hm : behindInMarks op r = false := by rfl) : zC T d sc ctx (.Compare l [op] [r] pos) (inD neg a b) := by
 subst ho
 intro A env Z J s Q P eo ro st fr hw
 refine wpAny_Compare1 (hl.run eo ro st fr hw ?_) hm
 intro va ua J1 sB v1 st1 p1 fr1 hw1
 refine hr.then eo ro p1 st1 fr1 hw1 ?_
 intro vb ub J2 sM v2 st2 p2 fr2 hw2
 obtain ⟨k, t, hw3⟩ := hw2.get v1
 obtain ⟨p, hw4⟩ := hw3.get v2
 obtain ⟨kvs, hx, hw5⟩ := hw4.get
 exact zkQ neg st2 hx fun tk => ⟨_, _, .bool _, st2.tok _, p2.tok _, hw5⟩
theorem wR (neg : Bool) {l r pos op} {a b : EW} (ho : op = znk neg) (hl : zC T d sc ctx l a) (hr : zC T d sc ctx r b) (hm : behindInMarks op r = false := by rfl) : zcb T d sc ctx (.Compare l [op] [r] pos) (inD neg a b) := by
 subst ho
 intro A env Z J s Q P eo ro st fr hw
 refine wpAny_isTrue_Compare1 (hl.run eo ro st fr hw ?_) hm
 intro va ua J1 sB v1 st1 p1 fr1 hw1
 refine hr.then eo ro p1 st1 fr1 hw1 ?_
 intro vb ub J2 sM v2 st2 p2 fr2 hw2
 obtain ⟨k, t, hw3⟩ := hw2.get v1
 obtain ⟨p, hw4⟩ := hw3.get v2
 obtain ⟨kvs, hx, hw5⟩ := hw4.get
 exact zkQ neg st2 hx fun tk => ka5 ⟨_, st2.tok _, p2.tok _, hw5⟩

theorem St.adopt {J s} (st : St T J s) {D : Addr} (hF : D ∉ frs T) (hD : J D = none) (hb : T.hb.get? D = none) (hm : (D == sysModules) = false) {h' : Heap} (hs : kbE D s.heap h') {o : Obj} {so : O} (ho : h'.get? D = some o) (hi : OIs T so o) (tk : Nat) :
  St T (put J D so) { s with heap := h', toks := tk } := by
 obtain ⟨h, t, e⟩ := st.rest
 refine ⟨⟨h', tk, by rw [e]⟩, fun b o hb' => ?_, fun b sb hb' => ?_, fun b hb' hne => ?_, fun b hb' hne => ?_, st.roPut _ _ hD, st.framesOf (zlR hF) fun L hL ⟨o, es, ep, e, d⟩ => ⟨o, es, ep, (hs.2 L (zp2 hF hL)).trans e, d⟩⟩
 ·have hne : b ≠ D := fun q => by subst q; rw [hb] at hb'; cases hb'
  exact (hs.2 b hne).trans (st.base b o hb')
 ·by_cases h : b = D
  ·subst h; rw [zz] at hb'; cases hb'; exact ⟨o, ho, hi⟩
  ·rw [zY _ h] at hb'; obtain ⟨o, h1, h2⟩ := st.objs b sb hb'; exact ⟨o, (hs.2 b h).trans h1, h2⟩
 ·by_cases h : b = D
  ·subst h; exact hb
  ·rw [zY _ h] at hb'; exact st.fresh b hb' hne
 ·by_cases h : b = D
  ·subst h; exact hm
  ·rw [zY _ h] at hb'; exact st.sysm b hb' hne
theorem zR.adopt {X JA sa J s} (a : zR T X JA sa J s) {D : Addr} (hD : sa.heap.get? D = none) {h' : Heap} (hs : kbE D s.heap h') {o : Obj} (ho : h'.get? D = some o) (so : O) (tk : Nat) :
  zR T X JA sa (put J D so) { s with heap := h', toks := tk } := by
 refine ⟨fun c o hf hc e => ?_, fun c o e => ?_, fun c hc => ?_, fun c hc hc' => ?_⟩
 ·have hne : c ≠ D := by rintro rfl; rw [hD] at e; cases e
  obtain ⟨o', h', r⟩ := a.keep c o hf hc e
  exact ⟨o', (hs.2 c hne).trans h', r⟩
 ·obtain ⟨o1, h1⟩ := a.live c o e
  by_cases h : c = D
  ·subst h; exact ⟨_, ho⟩
  ·exact ⟨o1, (hs.2 c h).trans h1⟩
 ·by_cases h : c = D
  ·subst h; simp [zz]
  ·rw [zY _ h]; exact a.mono c hc
 ·by_cases h : c = D
  ·subst h; exact hD
  ·rw [zY _ h] at hc'; exact a.new c hc hc'
theorem St.hbSize {J s} (st : St T J s) : T.hb.get? s.heap.objs.size = none := by
 cases e : T.hb.get? s.heap.objs.size with
 | none => rfl
 | some ob => have := st.base _ _ e; rw [get?_size] at this; cases this

noncomputable def zcE (a b : EW) : EW := fun Z J Q P => a Z J (fun va J1 => b Z J1 (fun vb J2 => va.asInt fun k => wb (.dict [(k, vb)]) J2 Q) P) P
theorem zba {k v pos} {a b : EW} (hk : zC T d sc ctx k a) (hv : zC T d sc ctx v b) : zC T d sc ctx (.Dict [some k] [v] pos) (zcE a b) := by
 intro A env Z J s Q P eo ro st fr hw
 refine wpAny_Dict_pairs (knd := intKind T.prog T.w) (pairs := [(eval k env, do let x <- eval v env; standAt pos; pure x)]) rfl (by simp) (by simp) ?_
 have st0 := st.push { cls := .type "dict", data := .dict #[] } s.toks
 have p0 : zR T [] J s J { s with heap := s.heap.push { cls := .type "dict", data := .dict #[] }, toks := s.toks } := zR.refl.push _ _
 have fr0 := fr.step p0
 show wpAny T.M A (do
  let kv <- eval k env
  let vv <- holding [kv] (do let x <- eval v env; standAt pos; pure x)
  return (kv, vv) :: (<- holding [kv, vv] (evalPairs []))) _ _ _
 refine kar (kaz (hk.run eo ro st0 fr0 hw (Q' := fun ua sB => _) fun va ua J1 sB v1 st1 q1 fr1 hw1 => ?_) (fun _ _ x => x) fun _ _ x => x.step p0)
 refine kar (wpAny_holding (kar (kaz (hv.then eo ro q1 st1 fr1 hw1 (Q' := fun ub sM => _) fun vb ub J2 sM v2 st2 hp2 fr2 hw2 => ?_) (fun _ _ x => x) fun _ _ x => x.step p0)))
 have p2 := p0.trans hp2
 refine kar (wpAny_standAt (kaP (kar (wpAny_holding (evalPairs_nil (kaP ?_))))))
 obtain ⟨n, t, hw3⟩ := hw2.get v1
 have p2' : zR T [] J { s with heap := s.heap.push { cls := .type "dict", data := .dict #[] } } J2 sM := hp2
 have hob : (s.heap.push { cls := .type "dict", data := .dict #[] }).get? s.heap.objs.size = some { cls := .type "dict", data := .dict #[] } := ka7 _ rfl
 have hF := st.notFr (get?_size s.heap)
 have hD2 := p2'.keepX (.inl st.sizeFree) (by simp) hF hob
 refine ⟨[(n, ub)], ⟨intKind_is .., rfl, trivial⟩, ⟨_, #[], 0, hD2, ⟨rfl, rfl, rfl⟩, rfl, fun _ he => by simp at he, Pairs.nil, kcv⟩, fun h' hd hs => ?_⟩
 obtain ⟨o, ho, hd'⟩ := kco.mp hd
 refine ⟨_, _, .ref _, st2.adopt hF (p2'.free st.sizeFree hob) st.hbSize st.big hs ho (so := .dict [(n, vb)]) ⟨?_, _, hd', ?_⟩ _, p2.adopt (get?_size _) hs ho _ _, hw3 _ (p2'.free st.sizeFree hob)⟩
 ·simp [lim]
 ·exact .cons v2 .nil
end
end Mine
end
section
open PySem
namespace Mine
open PySem.Calls PyProof.Rows

section
variable {T : TC} {d : Nat} {sc : Scope} {ctx : List Str}

theorem zbm {Z : zM} {i j : Nat} {v u : V} (h : jC (yz Z i v) j = some u) (hne : j ≠ i) : jC Z j = some u := by
 rcases zdX Z i j v u h with ⟨a, _⟩ | ⟨_, b⟩
 ·exact absurd a hne
 ·exact b
theorem zfB {ctx : List Str} (nd : ctx.Nodup) {i j : Nat} {x : Str} (hi : ctx[i]? = some x) (hj : ctx[j]? = some x) : i = j := by
 have hi1 := (kae.mp hi).1
 exact (List.getElem?_inj hi1 nd).mp (hi.trans hj.symm)

theorem zR.own {J s} {a : Addr} {h' : Heap} (hs : kbE a s.heap h') {o : Obj} (ho : h'.get? a = some o) (tk : Nat) : zR T [a] J s J { s with heap := h', toks := tk } := by
 refine ⟨fun b o hf hb e => ⟨o, (hs.2 b (by simpa using hb)).trans e, .inl rfl⟩, fun b ob e => ?_, fun _ h => h, fun x h1 h2 => by simp [h1] at h2⟩
 by_cases h : b = a
 ·subst h; exact ⟨o, ho⟩
 ·exact ⟨ob, (hs.2 b h).trans e⟩
theorem St.own {J s} (st : St T J s) {a : Addr} (ha : J a = none) (hb : T.hb.get? a = none) {h' : Heap} (hs : kbE a s.heap h') (hd : a ∈ frs T -> IsD h' a) (tk : Nat) : St T J { s with heap := h', toks := tk } := by
 obtain ⟨h, t, e⟩ := st.rest
 refine ⟨⟨h', tk, by rw [e]⟩, fun b o e => ?_, fun b sb hb' => ?_, st.fresh, st.sysm, st.ro, st.framesOf (fun _ _ h => h) fun L hL h => ?_⟩
 ·exact (hs.2 b (by rintro rfl; rw [hb] at e; cases e)).trans (st.base b o e)
 ·obtain ⟨o, h1, h2⟩ := st.objs b sb hb'
  exact ⟨o, (hs.2 b (by rintro rfl; rw [ha] at hb'; cases hb')).trans h1, h2⟩
 ·by_cases e : L = a
  ·subst e; exact hd hL
  ·obtain ⟨o, es, ep, h1, h2⟩ := h; exact ⟨o, es, ep, (hs.2 L e).trans h1, h2⟩

noncomputable def zck : Option NameKind -> Bool
 | some .local | some .cell => true
 | _ => false
theorem zga {A E env Z J s} {x : Str} {i : Nat} {v : V} {u : Value} {Q : Unit -> Shared -> Prop} (eo : jg sc env) (st : St T J s) (fr : qB T env ctx Z J s.heap) (hx : ctx[i]? = some x) (hk : zck (sc.names.lookup x) = true) (hv : VIs v u)
  (h : ∀ s' a, a ∈ own env -> ((sc.names.lookup x = some .local -> a = env.locals) /\ (sc.names.lookup x = some .cell -> env.cells.lookup x = some a)) -> St T J s' -> qB T env ctx (yz Z i v) J s'.heap -> zR T [a] J s J s' -> Q () s') : wpAny T.M A (storeName env x u) Q E s := by
 have hkf : env.scope.kind = .function := by rw [eo.scope]; exact eo.kind
 have hko := hk
 rw [<- eo.kindOf] at hk
 cases hq : env.kindOf x with
 | none => rw [hq] at hk; cases hk
 | some kd =>
  rw [hq] at hk
  cases kd <;> first | (cases hk; done) | skip
  ·-- a local
   obtain ⟨m, hn, h2⟩ := fr.ns
   refine wpAny_storeName_local hq hn (fun h' hn' hs => ?_) (by rw [hkf]; rfl)
   obtain ⟨o', es, ep, ho', hd', _⟩ := id hn'
   refine h _ env.locals (by simp [own]) ⟨fun _ => rfl, fun e => (by rw [<- eo.kindOf, hq] at e; cases e)⟩ (st.own fr.lfree fr.lbase hs (fun _ => ⟨o', es, ep, ho', hd'⟩) _) ?_ (zR.own hs ho' _)
   have hc : ∀ y c, env.cells.lookup y = some c -> ∀ o, s.heap.IsCell c o -> h'.IsCell c o := fun y c hy o ho => ho.sameBut hs (fr.apart y c hy)
   refine ⟨fr.nd, ⟨_, hn', fun j y w hj hy hw => ?_⟩, fun j y hj hy => ?_, fr.loneM, fr.apartM, fr.lfree, fun y c hy => ⟨(fr.cfreeM y c hy).1, let ⟨o, ho⟩ := (fr.cfreeM y c hy).2; ⟨o, ho.sameBut hs (fr.apartM y c hy)⟩⟩, fr.lbase, fr.cbaseM⟩
   ·rcases zdX Z i j v w hw with ⟨e1, e2⟩ | ⟨e1, e2⟩
    ·subst e1 e2; rw [hx] at hj; cases hj; exact ⟨u, by simp, hv⟩
    ·have hne : y ≠ x := fun q => e1 (zfB fr.nd (q ▸ hj) hx)
     simp only [hne, if_false]; exact h2 j y w hj hy e2
   ·obtain ⟨c, o, h3, h4, h5⟩ := fr.cell j y hj hy
    refine ⟨c, o, h3, hc y c h3 o h4, fun w hw => ?_⟩
    have hne : j ≠ i := by rintro rfl; rw [hx] at hj; cases hj; rw [hq] at hy; rcases hy with hy | hy <;> cases hy
    exact h5 w (zbm hw hne)
  ·-- a cell
   obtain ⟨c, o, h1, h2, h3⟩ := fr.cell i x hx (.inl hq)
   refine wpAny_storeName_cell hkf hq h1 h2 fun h' hc' hs => ?_
   obtain ⟨o', ho', hd'⟩ := id hc'
   refine h _ c (by simp only [own, kah, kat]; exact .inr ⟨(x, c), mem_of_lookup h1, rfl⟩) ⟨fun e => (by rw [<- eo.kindOf, hq] at e; cases e), fun _ => h1⟩ (st.own (fr.cfree x c h1).1 (fr.cbase x c h1) hs (fun hF => by
    obtain ⟨o1, es, ep, e1, d1⟩ := (st.fr hF).2.2
    obtain ⟨o2, e2, d2⟩ := h2
    rw [e1] at e2; cases e2; rw [d1] at d2; cases d2) s.toks) ?_ (zR.own hs ho' s.toks)
   have hoth : ∀ y c', env.cells.lookup y = some c' -> y ≠ x -> c' ≠ c := fun y c' hy hne e => hne (fr.lone y x c (e ▸ hy) h1)
   refine ⟨fr.nd, ?_, fun j y hj hy => ?_, fr.loneM, fr.apartM, fr.lfree, fun y c' hy => ⟨(fr.cfreeM y c' hy).1, ?_⟩, fr.lbase, fr.cbaseM⟩
   ·obtain ⟨m, hn, h4⟩ := fr.ns
    refine ⟨m, hn.sameBut hs (Ne.symm (fr.apart x c h1)), fun j y w hj hy hw => ?_⟩
    have hne : j ≠ i := by rintro rfl; rw [hx] at hj; cases hj; rw [hq] at hy; cases hy
    exact h4 j y w hj hy (zbm hw hne)
   ·by_cases e : j = i
    ·subst e; rw [hx] at hj; cases hj
     refine ⟨c, some u, h1, hc', fun w hw => ?_⟩
     rcases zdX Z j j v w hw with ⟨_, e2⟩ | ⟨e1, _⟩
     ·subst e2; exact ⟨u, rfl, hv⟩
     ·exact absurd rfl e1
    ·obtain ⟨c', o', h5, h6, h7⟩ := fr.cell j y hj hy
     have hne : y ≠ x := fun q => e (zfB fr.nd (q ▸ hj) hx)
     exact ⟨c', o', h5, h6.sameBut hs (hoth y c' h5 hne), fun w hw => h7 w (zbm hw e)⟩
   ·by_cases e : c' = c
    ·subst e; exact ⟨_, hc'⟩
    ·obtain ⟨o'', ho''⟩ := (fr.cfreeM y c' hy).2
     exact ⟨o'', ho''.sameBut hs e⟩

def zbA (T : TC) (d : Nat) (sc : Scope) (ctx : List Str) (ps : Stmt) (w : SW) : Prop :=
 ∀ A env Z J s K P, jg sc env -> zaR T A d -> St T J s -> qB T env ctx Z J s.heap -> w Z J K P ->
  wpAny T.M A (exec ps env) (zaD T env ctx J s K) (jA T (own env) J s P) s

noncomputable def qu : SW := fun Z J K _ => K .next Z J
noncomputable def zy (a b : SW) : SW := fun Z J K P => a Z J (fun o Z1 J1 => match o with | .next => b Z1 J1 K P | .ret v => K (.ret v) Z1 J1) P
theorem zJ : jn T d sc ctx [] qu :=
 fun A env Z J s K P eo ro st fr hw => wpAny_execs_nil ⟨_, Z, J, .next, st, fr, .refl, hw⟩
theorem zaD.step {env J s J1 sB K f s'} (a : zR T (own env) J s J1 sB) (h : zaD T env ctx J1 sB K f s') : zaD T env ctx J s K f s' :=
 let ⟨o, Z', J', h1, h2, h3, h4, h5⟩ := h; ⟨o, Z', J', h1, h2, h3, a.trans h4, h5⟩
theorem zj {st1 rest} {a b : SW} (h : zbA T d sc ctx st1 a) (h' : jn T d sc ctx rest b) : jn T d sc ctx (st1 :: rest) (zy a b) := by
 intro A env Z J s K P eo ro st fr hw
 refine wpAny_execs_cons (kaz (h A env Z J s _ P eo ro st fr hw) (fun f sB hf => ?_) fun _ _ x => x)
 obtain ⟨o, Z1, J1, h1, h2, h3, h4, h5⟩ := hf
 cases h1 with
 | next => exact kaz (h' A env Z1 J1 sB K P eo ro h2 h3 h5) (fun _ _ x => x.step h4) fun _ _ x => x.step h4
 | ret hv => exact ⟨_, Z1, J1, .ret hv, h2, h3, h4, h5⟩
theorem zk {st1} {a : SW} (h : zbA T d sc ctx st1 a) : jn T d sc ctx [st1] a := by
 intro A env Z J s K P eo ro st fr hw
 refine wpAny_execs_cons (kaz (h A env Z J s _ P eo ro st fr hw) (fun f sB hf => ?_) fun _ _ x => x)
 obtain ⟨o, Z1, J1, h1, h2, h3, h4, h5⟩ := hf
 cases h1 with
 | next => exact wpAny_execs_nil ⟨_, Z1, J1, .next, h2, h3, h4, h5⟩
 | ret hv => exact ⟨_, Z1, J1, .ret hv, h2, h3, h4, h5⟩

noncomputable def ji (a : EW) : SW := fun Z J K P => a Z J (fun v J1 => K (.ret v) Z J1) P
theorem zN {e pos} {a : EW} (h : zC T d sc ctx e a) : zbA T d sc ctx (.Return (some e) pos) (ji a) := by
 intro A env Z J s K P eo ro st fr hw
 exact kaz (wpAny_Return_some (h.run eo ro st fr hw fun v u J1 sB hv st1 p1 fr1 hw1 => (⟨_, Z, J1, .ret hv, st1, fr1, p1.any, hw1⟩ : zaD T env ctx J s K (.ret u) sB))) (fun _ _ x => x) fun _ _ x => x.any

noncomputable def zW (i : Nat) (a : EW) : SW := fun Z J K P => a Z J (fun v J1 => K .next (yz Z i v) J1) P
theorem zhH {env : Env} {a : Addr} {J s J' s'} (h : zR T [a] J s J' s') (ha : a ∈ own env) : zR T (own env) J s J' s' := h.weaken (by simpa using ha)
theorem zpp {x e p pos} {a : EW} (i : Nat) (hx : ctx[i]? = some x) (hk : zck (sc.names.lookup x) = true) (h : zC T d sc ctx e a)
  (hs : ∀ env, swapsWith e (some (.Name x p)) pos.line env = pure false := by intro _; rfl) : zbA T d sc ctx (.Assign [.Name x p] e pos) (zW i a) := by
 intro A env Z J s K P eo ro st fr hw
 refine kaz (wpAny_Assign_Name (Q := zaD T env ctx J s K) (h.run eo ro st fr hw fun v u J1 sB hv st1 p1 fr1 hw1 => ?_) (hs env)) (fun _ _ x => x) fun _ _ x => x.any
 refine zga eo st1 fr1 hx hk hv fun sM b hb _ st2 fr2 p2 => ⟨_, _, J1, .next, st2, fr2, p1.any.trans (zhH p2 hb), hw1⟩

noncomputable def wO (a : EW) : SW := fun Z J K P => a Z J (fun _ J1 => K .next Z J1) P
theorem jH {e pos} {a : EW} (h : zC T d sc ctx e a) (hs : ∀ env, swapsWith e none pos.line env = pure false := by intro _; rfl) : zbA T d sc ctx (.Expr e pos) (wO a) := by
 intro A env Z J s K P eo ro st fr hw
 have hi : interactive env = false := by unfold interactive; rw [eo.scope, eo.kind]; rfl
 exact kaz (wpAny_Expr_any (Q := zaD T env ctx J s K) (h.run eo ro st fr hw fun v u J1 sB hv st1 p1 fr1 hw1 => ⟨_, Z, J1, .next, st1, fr1, p1.any, hw1⟩) hi (hs env)) (fun _ _ x => x) fun _ _ x => x.any

noncomputable def j6 (c : EW) (a b : SW) : SW := fun Z J K P => c Z J (fun v J1 => v.asBool fun t => if t then a Z J1 K P else b Z J1 K P) P
theorem z7 {c t e pos} {wc : EW} {a b : SW} (hc : zcb T d sc ctx c wc) (ha : jn T d sc ctx t a) (hb : jn T d sc ctx e b) : zbA T d sc ctx (.If c t e pos) (j6 wc a b) := by
 intro A env Z J s K P eo ro st fr hw
 refine wpAny_If ?_
 refine kaz (hc.then eo ro .refl st fr hw (Q' := fun t sB => ∃ J1, St T J1 sB /\ zR T [] J s J1 sB /\ qB T env ctx Z J1 sB.heap /\ if t then a Z J1 K P else b Z J1 K P) fun t J1 sB st1 p1 fr1 hw1 => ⟨J1, st1, p1, fr1, hw1⟩) (fun t sB h1 => ?_) fun _ _ x => x.any
 obtain ⟨J1, st1, p1, fr1, hw1⟩ := h1
 cases t
 ·exact kaz (hb A env Z J1 sB K P eo ro st1 fr1 hw1) (fun _ _ x => x.step p1.any) fun _ _ x => x.step p1.any
 ·exact kaz (ha A env Z J1 sB K P eo ro st1 fr1 hw1) (fun _ _ x => x.step p1.any) fun _ _ x => x.step p1.any

noncomputable def zii : SW := fun _ _ _ _ => False
theorem zfc {ps} : zbA T d sc ctx ps zii := fun _ _ _ _ _ _ _ _ _ _ _ hw => hw.elim

def zex (J : zb) (p : Addr) (k : Int) (v : V) (K : zb -> Prop) : Prop := match J p with
 | some (.list xs) => 0 <= k /\ k < xs.length /\ K (put J p (.list (xs.set k.toNat v)))
 | some (.dict kvs) => kvs.length < lim /\ K (put J p (.dict (zgt kvs k v)))
 | _ => False
noncomputable def zaG (a i e : EW) : SW := fun Z J K P => e Z J (fun ve J1 => a Z J1 (fun va J2 => i Z J2 (fun vi J3 => va.asRef fun p => vi.asInt fun k => zex J3 p k ve (K .next Z)) P) P) P
theorem qB.turn {env Z J} {s : Shared} (fr : qB T env ctx Z J s.heap) {p : Addr} {so so'} (hp : J p = some so) {h' : Heap} (hs : kbE p s.heap h') : qB T env ctx Z (put J p so') h' := by
 have hl : env.locals ≠ p := by rintro e; have := fr.lfree; rw [e, hp] at this; cases this
 have hc : ∀ x c, (x, c) ∈ env.cells -> c ≠ p := by rintro x c hx rfl; have := (fr.cfreeM x c hx).1; rw [hp] at this; cases this
 refine ⟨fr.nd, ?_, fun i x hi hk => ?_, fr.loneM, fr.apartM, by rw [zY _ hl]; exact fr.lfree, fun x c hx => ⟨by rw [zY _ (hc x c hx)]; exact (fr.cfreeM x c hx).1, ?_⟩, fr.lbase, fr.cbaseM⟩
 ·obtain ⟨m, hn, h2⟩ := fr.ns
  exact ⟨m, hn.sameBut hs hl, h2⟩
 ·obtain ⟨c, o, h1, h2, h3⟩ := fr.cell i x hi hk
  exact ⟨c, o, h1, h2.sameBut hs (hc x c (mem_of_lookup h1)), h3⟩
 ·obtain ⟨o, ho⟩ := (fr.cfreeM x c hx).2
  exact ⟨o, ho.sameBut hs (hc x c hx)⟩
set_option maxRecDepth 100000 in
theorem ziA {prog : Program} {w : World} {A : Around} {E : Value -> Shared -> Prop} {s : Shared} {a : Addr} {us : Array Value} {n : Nat} {i : Int} {t : Tok} {v : Value} {Q : Unit -> Shared -> Prop} (ho : IsL s.heap a us n) (h0 : 0 <= i) (hz : i < 2 ^ 63) (hj : i < us.size)
  (hq : Q () { s with heap := s.heap.update a (Obj.mapSeq (·.setIfInBounds i.toNat v)) }) : wpAny (model prog w) A (setItem (.ref a) (.int i t) v) Q E s := by
 have ty := ho.isList.typeIs
 have fit := fitsIndex_of h0 hz
 clear hz
 unfold setItem
 refine wpAny_holding (kar (wpAny_sequenceKey ty (by decide) (kar ?_)))
 refine wpAny_callSpecial?_slot (name := Str.ofString "__setitem__") ty slot_list_setitem (wpAny_call_entry slot_list_setitem ty entry_list_setitem ?_ (args_list_setitem _ _ _))
 show wpAny _ _ (Builtin.List.listSubscript? (.int i t) >>= _) _ _ s
 refine kar (wpAny_listSubscript_int fit ?_)
 obtain ⟨j, rfl⟩ := kay h0
 have hj' : j < us.size := by exact kaE.mp ‹_›
 show wpAny _ _ ((seqItemAt a j >>= fun r => pure (r.map (j, ·))) >>= _) _ _ s
 refine kar (kar (wpAny_seqItemAt ho rfl (kaP ?_)))
 rw [Array.getElem?_eq_getElem hj']
 show wpAny _ _ (setSeqItemAt a j v >>= _) _ _ s
 refine kar (wpAny_setSeqItemAt ho rfl ?_)
 first | exact kaP ⟨.none, rfl, kaP hq⟩ | exact kar (kaP (kaP ⟨.none, rfl, kaP hq⟩))
theorem jd {o i e p pos} {wa wi we : EW} (ha : zC T d sc ctx o wa) (hi : zC T d sc ctx i wi) (he : zC T d sc ctx e we)
  (hs : ∀ env, swapsWith e (some (.Subscript o i p)) pos.line env = pure false := by intro _; rfl) : zbA T d sc ctx (.Assign [.Subscript o i p] e pos) (zaG wa wi we) := by
 intro A env Z J s K P eo ro st fr hw
 refine kaz (wpAny_Assign_Subscript (Q := zaD T env ctx J s K) (he.run eo ro st fr hw fun ve ue J1 sB v1 st1 p1 fr1 hw1 => ?_) (hs env)) (fun _ _ x => x) fun _ _ x => x.any
 refine ha.then eo ro p1 st1 fr1 hw1 fun va ua J2 sM v2 st2 p2 fr2 hw2 => ?_
 refine hi.then eo ro p2 st2 fr2 hw2 fun vi ui J3 s3 v3 st3 p3 fr3 hw3 => ?_
 obtain ⟨q, hw4⟩ := hw3.get v2
 obtain ⟨k, t, hw5⟩ := hw4.get v3
 unfold zex at hw5
 split at hw5
 ·rename_i xs hx
  obtain ⟨h0, h1, hw6⟩ := hw5
  obtain ⟨us, n, ho, hv, hz, hlim⟩ := st3.isL hx
  have hn := st3.notScr hx (by intro _ e; cases e)
  refine ziA (n := n) ho h0 (by unfold lim at hlim; exact lit r2 V0 (.num 9223372036854775808) [(1,1,V0,V1),(0,1,V1,.num 1000000)] rfl h1 (leI hlim)) (by rw [hz]; exact h1) ?_
  have ho' := IsL.update ho (fun x => x.setIfInBounds k.toNat ue)
  exact ⟨_, Z, _, .next, st3.turn hx hn (kbE.update ..) ho' (so' := .list (xs.set k.toNat ve)) ⟨by simpa using hlim, _, _, rfl, by simpa using hv.set k.toNat v1⟩ s3.toks, fr3.turn hx (kbE.update ..), p3.any.trans (zR.refl.turn hx hn (kbE.update ..) ho' s3.toks), hw6⟩
 ·rename_i kvs hx
  obtain ⟨h1, hw6⟩ := hw5
  obtain ⟨us, hd, hv, hlim⟩ := st3.dict hx
  have hn := st3.notScr hx (by intro _ e; cases e)
  refine wpAny_setItem_pairs (intKind_is T.prog T.w k t) hd (fun h' hd' hs' => ?_) (by rw [hv.length]; exact kap hlim zag)
  obtain ⟨o', ho', hi'⟩ := kco.mp hd'
  exact ⟨_, Z, _, .next, st3.turn hx hn hs' ho' (so' := .dict (zgt kvs k ve)) ⟨kap (zjc ..) h1, _, hi', hv.put k v1⟩ _, fr3.turn hx hs', p3.any.trans (zR.refl.turn hx hn hs' ho' _), hw6⟩
 ·exact hw5.elim
end
end Mine
end
section
open PySem
namespace Mine
open PySem.Calls PyProof.Rows

structure zk6 (T : TC) (A : Around) (I : Addr) (wr : List Addr) (xs : List V) (chk : zb -> Prop) (W : Nat -> Heap -> Prop) : Prop where
 mem : I ∈ wr
 frame : ∀ i h h', W i h -> (∀ b ∈ wr, ∀ o, h.get? b = some o -> h'.get? b = some o) -> W i h'
 item : ∀ i x J s (Q : Option Value -> Shared -> Prop) E, xs[i]? = some x -> W i s.heap -> St T J s -> chk J ->
  (∀ u h' tk, VIs x u -> W (i + 1) h' -> (∀ b o, b ∉ wr -> s.heap.get? b = some o -> h'.get? b = some o) -> Q (some u) { s with heap := h', toks := tk }) -> wpAny T.M A (pyNext (.ref I)) Q E s
 done : ∀ J s (Q : Option Value -> Shared -> Prop) E, W xs.length s.heap -> St T J s -> chk J ->
  (∀ h' tk, (∀ b o, b ∉ wr -> s.heap.get? b = some o -> h'.get? b = some o) -> Q none { s with heap := h', toks := tk }) -> wpAny T.M A (pyNext (.ref I)) Q E s
 self : ∀ i s (Q : Value -> Shared -> Prop) E, W i s.heap -> Q (.ref I) s -> wpAny T.M A (pyIter (.ref I)) Q E s
 lets : ∀ i s (target : Expr) (v : Value) (Q : Unit -> Shared -> Prop) E, W i s.heap -> Q () s -> wpAny T.M A (letOwnedTupleGo target (.ref I) v) Q E s
 alive : ∀ i h, W i h -> ∀ b ∈ wr, ∃ o, h.get? b = some o

theorem zhK {T : TC} {A : Around} {s : Shared} {I : Addr} {o : Obj} {n : String} {vs : Array Value} (target : Expr) (v : Value) {Q : Unit -> Shared -> Prop} {E} (ho : s.heap.get? I = some o) (hc : o.cls = .type n) (hd : o.data = .fields vs)
  (hn : ["enumerate", "zip", "dict_itemiterator", "dict_reverseitemiterator", "odict_iterator", "itertools.zip_longest", "itertools.pairwise"].contains n = false) (h : Q () s) : wpAny T.M A (letOwnedTupleGo target (.ref I) v) Q E s := by
 have key : wpAny T.M A (do
   let (.ref r, .ref a) := (Value.ref I, v) | return
   let o <- load r
   match o.cls, o.data with
   | .type n, .fields vs =>
    if ["enumerate", "zip", "dict_itemiterator", "dict_reverseitemiterator", "odict_iterator", "itertools.zip_longest", "itertools.pairwise"].contains n && vs[0]? == some (rawInt a) then
     rule "for.unpacks-the-owned-tuple"
     updateField r 0 .none
   | _, _ => pure ()) Q E s := by
  cases v with
  | ref a =>
   refine kar (wpAny_load ho ?_)
   rw [hc, hd]
   show wpAny _ _ (if (_ && _ : Bool) = true then _ else _) _ _ _
   rw [hn, kcx, if_neg kct]
   exact kaP h
  | _ => exact kaP h
 cases target with
 | Tuple => exact key
 | List => exact key
 | _ => exact kaP h

section
variable {T : TC} {d : Nat} {sc : Scope} {ctx : List Str}

theorem zgW {A I ax xs} (hh : A.handled = none) (hne : ax ≠ I) : zk6 T A I [I] xs (fun J => J ax = some (.list xs) \/ J ax = some (.ro xs)) (fun i h => h.IsListIter I ax i) where
 mem := by simp
 frame := fun i h h' w hk => w.at fun o e => hk I (by simp) o e
 item := fun i x J s Q E hx w st ck k => by
  obtain ⟨us, hl, hv, _⟩ := st.list ck
  obtain ⟨u, hu, hvu⟩ := hv.get hx
  exact wpAny_pyNext_list_item w hl (by simpa using hu) fun h' hit' hs' => k u h' s.toks hvu hit' fun b o hb e => hs'.extBut b o (by simpa using hb) e
 done := fun J s Q E w st ck k => by
  obtain ⟨us, hl, hv, hz, _⟩ := st.list ck
  exact wpAny_pyNext_list_end hh w hl (by simp [hz]) fun h' he' => k h' s.toks fun b o hb e => he' b o (by simpa using hb) e
 self := fun i s Q E w h => wpAny_pyIter_listiter w h
 lets := fun i s t v Q E w h => let ⟨o, ho, hc, hd⟩ := w; zhK t v ho hc hd (by decide) h
 alive := fun i h w b hb => by simp at hb; subst hb; obtain ⟨o, ho, _⟩ := w; exact ⟨o, ho⟩
theorem zmp {A I ax xs} (hh : A.handled = none) (hne : ax ≠ I) : zk6 T A I [I] xs (fun J => J ax = some (.tup xs)) (fun i h => h.IsTupleIter I ax i) where
 mem := by simp
 frame := fun i h h' w hk => w.at fun o e => hk I (by simp) o e
 item := fun i x J s Q E hx w st ck k => by
  obtain ⟨us, hl, hv, _⟩ := st.tup ck
  obtain ⟨u, hu, hvu⟩ := hv.get hx
  exact wpAny_pyNext_tuple_item w hl (by simpa using hu) fun h' hit' hs' => k u h' s.toks hvu hit' fun b o hb e => hs'.extBut b o (by simpa using hb) e
 done := fun J s Q E w st ck k => by
  obtain ⟨us, hl, hv, hz, _⟩ := st.tup ck
  exact wpAny_pyNext_tuple_end hh w hl (by simp [hz]) fun h' he' => k h' s.toks fun b o hb e => he' b o (by simpa using hb) e
 self := fun i s Q E w h => wpAny_pyIter_tupleiter w h
 lets := fun i s t v Q E w h => let ⟨o, ho, hc, hd⟩ := w; zhK t v ho hc hd (by decide) h
 alive := fun i h w b hb => by simp at hb; subst hb; obtain ⟨o, ho, _⟩ := w; exact ⟨o, ho⟩
noncomputable def rng (a : Int) (n : Nat) : List V := (kaa n).map fun i : Nat => .int (a + (i : Int))
theorem z9 (a n) : (rng a n).length = n := by simp [rng]
theorem qI {a n i x} (h : (rng a n)[i]? = some x) : i < n /\ x = .int (a + i) := by
 unfold rng at h
 rw [kaJ] at h
 cases e : (kaa n)[i]? with
 | none => rw [e] at h; cases h
 | some j =>
  rw [e] at h
  obtain ⟨h1, h2⟩ := kae.mp e
  simp at h1 h2 h
  subst h2; exact ⟨h1, h.symm⟩
theorem zjG {A I} (hh : A.handled = none) (a : Int) (n : Nat) : zk6 T A I [I] (rng a n) (fun _ => True) (fun i h => IsRangeIter h I (a + (i : Nat) * 1) ((n : Int) - (i : Nat)) 1) where
 mem := by simp
 frame := fun i h h' w hk => hk I (by simp) _ w
 item := fun i x J s Q E hx w st ck k => by
  obtain ⟨hi, rfl⟩ := qI hx
  refine (Walks.range (prog := T.prog) (w := T.w) hh I a 1 n).item i s Q E hi w fun v h' tk hv w' hk => ?_
  obtain ⟨t, rfl⟩ := hv
  refine k _ h' tk ?_ w' hk
  rw [kdE]; exact .int _ _
 done := fun J s Q E w st ck k => by
  rw [z9] at w
  exact (Walks.range (prog := T.prog) (w := T.w) hh I a 1 n).done s Q E w k
 self := fun i s Q E w h => wpAny_pyIter_rangeiter w h
 lets := fun i s t v Q E w h => zhK t v w rfl rfl (by decide) h
 alive := fun i h w b hb => by simp at hb; subst hb; exact ⟨_, w⟩

noncomputable abbrev zh0 := zM -> zb -> (List V -> (zb -> Prop) -> zb -> Prop) -> (Nat -> zb -> Prop) -> Prop
inductive zlU (T : TC) (A : Around) (JA : zb) (sa : Shared) (Q : List V -> (zb -> Prop) -> zb -> Prop) (it : Value) (s : Shared) : Prop
 | mk (xs chk J I wr W) (h1 : it = .ref I) (h2 : zk6 T A I wr xs chk W) (h3 : W 0 s.heap) (h4 : St T J s) (h5 : zR T [] JA sa J s) (h6 : ∀ b ∈ wr, J b = none /\ T.hb.get? b = none /\ sa.heap.get? b = none) (h7 : Q xs chk J) : zlU T A JA sa Q it s
def zeH (T : TC) (d : Nat) (sc : Scope) (ctx : List Str) (pe : Expr) (w : zh0) : Prop :=
 (∀ env x, foldedSetIterable pe env x = pure x) /\
 ∀ A env Z J s Q P, jg sc env -> zaR T A d -> St T J s -> qB T env ctx Z J s.heap -> w Z J Q P ->
  wpAny T.M A (eval pe env) (fun x sB => wpAny T.M A (pyIter x) (zlU T A J s Q) (jA T [] J s P) sB) (jA T [] J s P) s

def zbN (J : zb) (p : Addr) (k : List V -> (zb -> Prop) -> Prop) : Prop := match J p with
 | some (.list xs) => k xs (fun J => J p = some (.list xs) \/ J p = some (.ro xs))
 | some (.ro xs) => k xs (fun J => J p = some (.list xs) \/ J p = some (.ro xs))
 | some (.tup xs) => k xs (fun J => J p = some (.tup xs))
 | _ => False
noncomputable def yW (a : EW) : zh0 := fun Z J Q P => a Z J (fun v J1 => v.asRef fun p => zbN J1 p fun xs chk => Q xs chk J1) P
theorem ze8 {A JA sa J s xs chk ob W} {Q : List V -> (zb -> Prop) -> zb -> Prop} (st : St T J s) (p : zR T [] JA sa J s) (it : zk6 T A s.heap.objs.size [s.heap.objs.size] xs chk W) (w : W 0 (s.heap.push ob)) (hq : Q xs chk J) (tk : Nat) :
  zlU T A JA sa Q (.ref s.heap.objs.size) { s with heap := s.heap.push ob, toks := tk } := by
 refine ⟨xs, chk, J, _, _, W, rfl, it, w, st.push _ _, p.push _ _, fun b hb => ?_, hq⟩
 simp at hb; subst hb
 refine ⟨st.sizeFree, st.hbSize, ?_⟩
 cases e : sa.heap.get? s.heap.objs.size with
 | none => rfl
 | some o => obtain ⟨o', h'⟩ := p.live _ _ e; rw [get?_size] at h'; cases h'
theorem z2 {pe} {a : EW} (h : zC T d sc ctx pe a) (hf : ∀ env x, foldedSetIterable pe env x = pure x := by intro _ _; rfl) (C : T.calm = true := by assumption) : zeH T d sc ctx pe (yW a) := by
 refine ⟨hf, fun A env Z J s Q P eo ro st fr hw => ?_⟩
 refine h.run eo ro st fr hw fun v u J1 sB hv st1 p1 fr1 hw1 => ?_
 obtain ⟨p, hw2⟩ := hw1.get hv
 unfold zbN at hw2
 split at hw2
 ·rename_i xs hx
  obtain ⟨us, hl, _⟩ := st1.list (.inl hx)
  exact wpAny_pyIter_list hl (ze8 st1 p1 (zgW (ro.handled C) (kbH (st1.lt hx))) ⟨_, ka7 _ rfl, rfl, rfl⟩ hw2 sB.toks)
 ·rename_i xs hx
  obtain ⟨us, hl, _⟩ := st1.list (.inr hx)
  exact wpAny_pyIter_list hl (ze8 st1 p1 (zgW (ro.handled C) (kbH (st1.lt hx))) ⟨_, ka7 _ rfl, rfl, rfl⟩ hw2 sB.toks)
 ·rename_i xs hx
  obtain ⟨us, hl, _⟩ := st1.tup hx
  exact wpAny_pyIter_tuple hl (ze8 st1 p1 (zmp (ro.handled C) (kbH (st1.lt hx))) ⟨_, ka7 _ rfl, rfl, rfl⟩ hw2 sB.toks)
 ·exact hw2.elim

def small (a : Int) : Prop := -(2 ^ 62) <= a /\ a < 2 ^ 62
noncomputable def jJ (a : EW) : zh0 := fun Z J Q P => a Z J (fun v J1 => v.asInt fun n => small n /\ Q (rng 0 n.toNat) (fun _ => True) J1) P
noncomputable def ze9 (a b : EW) : zh0 := fun Z J Q P => a Z J (fun va J1 => b Z J1 (fun vb J2 => va.asInt fun m => vb.asInt fun n => small m /\ small n /\ Q (rng m (n - m).toNat) (fun _ => True) J2) P) P
theorem zfk {A JA sa J s r t u v E} {m n : Int} {Q : List V -> (zb -> Prop) -> zb -> Prop} (C : T.calm = true) (ro : zaR T A d) (st : St T J s) (p : zR T [] JA sa J s) (hr : IsRange s.heap r m n 1 t u v) (hm : small m) (hn : small n) (hq : Q (rng m (n - m).toNat) (fun _ => True) J) :
  wpAny T.M A (pyIter (.ref r)) (zlU T A JA sa Q) E s := by
 refine wpAny_pyIter_range hr (small_one hm.1 hm.2 hn.1 hn.2) ?_
 refine ze8 st p (zjG (ro.handled C) m (n - m).toNat) ?_ hq s.toks
 have e : Builtin.Range.rangeSize m n 1 = ((n - m).toNat : Int) := by rw [rangeSize_one]; split <;> (first | exact liq r3 (.sub V0 V1) V2 [(2,-1,V2,.sub V0 V1)] rfl (tnn (lin r2 N0 (.sub V0 V1) [(1,1,V1,V0)] rfl ‹_›)) | lia)
 show Heap.get? _ _ = _
 rw [ka7 _ rfl, e]
 simp
theorem qk (ok : T.Ok) (B : Blt T) {p pos e} {a : EW} (h : zC T d sc ctx e a) (hx : sc.names.lookup ("range" : Str) = some .globalImplicit := by decide +kernel)
  (he : ∀ env, starEach [e] env = [(false, eval e env)] := by intro _; rfl) (C : T.calm = true := by assumption) : zeH T d sc ctx (.Call (.Name "range" p) [e] [] pos) (jJ a) := by
 refine ⟨fun _ _ => rfl, fun A env Z J s Q P eo ro st fr hw => ?_⟩
 refine Call_ (wS ok eo st hx (B.none _ (by decide)) (v := .type "range") (by decide +kernel) (by decide) (by decide) ?_)
 refine callWith_type1 (args_cons (h.then eo ro .refl st fr hw fun v u J1 sB hv st1 p1 fr1 hw1 => args_nil ?_) (he env)) (he env) rfl
 obtain ⟨n, t, hn, hw2⟩ := hw1.get hv
 refine call_range_1 ?_
 refine zfk C ro (st1.push _ _) (p1.push _ _) (IsRange.new ..) ⟨by decide, by decide⟩ hn ?_
 simpa using hw2
theorem zdj (ok : T.Ok) (B : Blt T) {p pos e e'} {a b : EW} (h : zC T d sc ctx e a) (h' : zC T d sc ctx e' b) (hx : sc.names.lookup ("range" : Str) = some .globalImplicit := by decide +kernel)
  (he1 : ∀ env, starEach [e, e'] env = (false, eval e env) :: starEach [e'] env := by intro _; rfl) (he2 : ∀ env, starEach [e'] env = [(false, eval e' env)] := by intro _; rfl) (C : T.calm = true := by assumption) : zeH T d sc ctx (.Call (.Name "range" p) [e, e'] [] pos) (ze9 a b) := by
 refine ⟨fun _ _ => rfl, fun A env Z J s Q P eo ro st fr hw => ?_⟩
 refine Call_ (wS ok eo st hx (B.none _ (by decide)) (v := .type "range") (by decide +kernel) (by decide) (by decide) ?_)
 refine callWith_type1 (args_cons (h.then eo ro .refl st fr hw fun v u J1 sB hv st1 p1 fr1 hw1 => ?_) (he1 env)) (he1 env) (by rw [he2]; rfl)
 refine args_cons (h'.then eo ro p1 st1 fr1 hw1 fun v' u' J2 sM hv' st2 p2 fr2 hw2 => args_nil ?_) (he2 env)
 obtain ⟨m, t, hw3⟩ := hw2.get hv
 obtain ⟨n, t', hm, hn, hw4⟩ := hw3.get hv'
 refine call_range_2 ?_
 exact zfk C ro (st2.push _ _) (p2.push _ _) (IsRange.new ..) hm hn hw4
end
end Mine
end
section
open PySem
namespace Mine
open PySem.Calls PyProof.Rows

section
variable {T : TC} {d : Nat} {sc : Scope} {ctx : List Str}

theorem zR.off {X JA sa J s} (a : zR T X JA sa J s) {wr : List Addr} (hw : ∀ b ∈ wr, sa.heap.get? b = none) {h' : Heap} (hk : ∀ b o, b ∉ wr -> s.heap.get? b = some o -> h'.get? b = some o) (tk : Nat) : zR T X JA sa J { s with heap := h', toks := tk } := by
 have nw : ∀ b o, sa.heap.get? b = some o -> b ∉ wr := fun b o e hb => by rw [hw b hb] at e; cases e
 exact ⟨fun b o hf hb e => let ⟨o', h, r⟩ := a.keep b o hf hb e; ⟨o', hk b o' (nw b o e) h, r⟩, fun b o e => let ⟨o', h⟩ := a.live b o e; ⟨o', hk b o' (nw b o e) h⟩, a.mono, a.new⟩
theorem St.off {J s} (st : St T J s) {wr : List Addr} (hw : ∀ b ∈ wr, J b = none /\ T.hb.get? b = none /\ b ∉ frs T) {h' : Heap} (hk : ∀ b o, b ∉ wr -> s.heap.get? b = some o -> h'.get? b = some o) (tk : Nat) : St T J { s with heap := h', toks := tk } := by
 obtain ⟨h, t, e⟩ := st.rest
 refine ⟨⟨h', tk, by rw [e]⟩, fun b o e => hk b o (fun hb => by rw [(hw b hb).2.1] at e; cases e) (st.base b o e), fun a so ha => ?_, st.fresh, st.sysm, st.ro, st.framesOf (fun _ _ h => h) fun L hL ⟨o, es, ep, e, d⟩ => ⟨o, es, ep, hk L o (fun hb => (hw L hb).2.2 hL) e, d⟩⟩
 obtain ⟨o, h1, h2⟩ := st.objs a so ha
 exact ⟨o, hk a o (fun hb => by rw [(hw a hb).1] at ha; cases ha) h1, h2⟩
theorem qB.off {env Z J} {h h' : Heap} (fr : qB T env ctx Z J h) {wr : List Addr} (hw : ∀ b ∈ wr, b ∉ own env) (hk : ∀ b o, b ∉ wr -> h.get? b = some o -> h'.get? b = some o) : qB T env ctx Z J h' := by
 have hl : env.locals ∉ wr := fun hb => hw _ hb (by simp [own])
 have hc : ∀ x c, (x, c) ∈ env.cells -> c ∉ wr := fun x c hx hb => hw c hb (by simp only [own, kah, kat]; exact .inr ⟨(x, c), hx, rfl⟩)
 refine ⟨fr.nd, ?_, fun i x hi hk' => ?_, fr.loneM, fr.apartM, fr.lfree, fun x c hx => ⟨(fr.cfreeM x c hx).1, ?_⟩, fr.lbase, fr.cbaseM⟩
 ·obtain ⟨m, ⟨o, es, ep, ho, r⟩, h2⟩ := fr.ns
  exact ⟨m, ⟨o, es, ep, hk _ _ hl ho, r⟩, h2⟩
 ·obtain ⟨c, o, h1, ⟨ob, e, dd⟩, h3⟩ := fr.cell i x hi hk'
  exact ⟨c, o, h1, ⟨ob, hk _ _ (hc x c (mem_of_lookup h1)) e, dd⟩, h3⟩
 ·obtain ⟨o, ob, e, dd⟩ := (fr.cfreeM x c hx).2
  exact ⟨o, ob, hk _ _ (hc x c hx) e, dd⟩
theorem qB.forget {env Z Z' J h} (fr : qB T env ctx Z J h) (hZ : ∀ i v, jC Z' i = some v -> jC Z i = some v) : qB T env ctx Z' J h := by
 refine ⟨fr.nd, ?_, fun i x hi hk => ?_, fr.loneM, fr.apartM, fr.lfree, fr.cfreeM, fr.lbase, fr.cbaseM⟩
 ·obtain ⟨m, hn, h2⟩ := fr.ns
  exact ⟨m, hn, fun i x v hi hk hv => h2 i x v hi hk (hZ i v hv)⟩
 ·obtain ⟨c, o, h1, h2, h3⟩ := fr.cell i x hi hk
  exact ⟨c, o, h1, h2, fun v hv => h3 v (hZ i v hv)⟩
theorem zi2 {env Z J h} (fr : qB T env ctx Z J h) : ∀ b ∈ own env, ∃ o, h.get? b = some o := by
 intro b hb
 simp only [own, kah, kat] at hb
 rcases hb with rfl | ⟨⟨x, c⟩, hm, rfl⟩
 ·obtain ⟨m, ⟨o, _, _, ho, _⟩, _⟩ := fr.ns; exact ⟨o, ho⟩
 ·obtain ⟨o, ob, e, _⟩ := (fr.cfreeM x c hm).2; exact ⟨ob, e⟩

inductive Tgt where
 | nm (i : Nat)
 | tup (is : List Nat)
noncomputable def zbH : zM -> List Nat -> List V -> zM
 | Z, i :: is, v :: vs => zbH (yz Z i v) is vs
 | Z, _, _ => Z
def zfJ (t : Tgt) (v : V) (Z : zM) (J : zb) (k : zM -> Prop) : Prop := match t with
 | .nm i => k (yz Z i v)
 | .tup is => v.asRef fun p => zfM J p fun xs => xs.length = is.length /\ k (zbH Z is xs)

inductive jX (sc : Scope) (ctx : List Str) (lo : Bool) : List Expr -> List Nat -> Prop
 | nil : jX sc ctx lo [] []
 | cons {x p i r is} : ctx[i]? = some x -> zck (sc.names.lookup x) = true -> (lo = true -> sc.names.lookup x = some .local) -> jX sc ctx lo r is -> jX sc ctx lo (.Name x p :: r) (i :: is)
theorem jX.length {lo es is} (h : jX sc ctx lo es is) : es.length = is.length := by
 induction h with
 | nil => rfl
 | cons _ _ _ _ ih => exact congrArg Nat.succ ih
theorem jX.each {lo env es is} (h : jX sc ctx lo es is) : (assignEach es env).length = is.length /\ (assignEach es env).findIdx? (·.1) = none := by
 induction h with
 | nil => exact ⟨rfl, rfl⟩
 | @cons x p i r is _ _ _ _ ih =>
  show ((false, assign (.Name x p) env) :: assignEach r env).length = _ /\ List.findIdx? _ ((false, assign (.Name x p) env) :: assignEach r env) = none
  refine ⟨congrArg Nat.succ ih.1, ?_⟩
  rw [List.findIdx?_cons, ih.2]; rfl
noncomputable def zn5 (env : Env) (lo : Bool) : List Addr := if lo then [env.locals] else own env
theorem zkt {lo A E env Z J s} {x : Str} {i : Nat} {v : V} {u : Value} {Q : Unit -> Shared -> Prop} (eo : jg sc env) (st : St T J s) (fr : qB T env ctx Z J s.heap) (hx : ctx[i]? = some x) (hk : zck (sc.names.lookup x) = true) (hlo : lo = true -> sc.names.lookup x = some .local) (hv : VIs v u)
  (h : ∀ s', St T J s' -> qB T env ctx (yz Z i v) J s'.heap -> zR T (zn5 env lo) J s J s' -> Q () s') : wpAny T.M A (storeName env x u) Q E s :=
 zga eo st fr hx hk hv fun s' a ha hl st' fr' p' => h s' st' fr' (p'.weaken (by
  intro b hb
  simp at hb; subst hb
  unfold zn5
  cases lo with
  | false => exact ha
  | true => simp only [if_true, kaf]; exact hl.1 (hlo rfl)))
theorem zkY {lo A E env} (eo : jg sc env) {es is} (hn : jX sc ctx lo es is) {Z J s vs us} {Q : Unit -> Shared -> Prop} (st : St T J s) (fr : qB T env ctx Z J s.heap) (hv : yn vs us) (hl : vs.length = is.length)
  (k : ∀ s', St T J s' -> qB T env ctx (zbH Z is vs) J s'.heap -> zR T (zn5 env lo) J s J s' -> Q () s') : wpAny T.M A (assignInOrder ((assignEach es env).map (·.2)) us) Q E s := by
 induction hn generalizing Z s vs us with
 | nil =>
  cases hv with
  | nil => exact wpAny_assignInOrder_none (k s st fr .refl)
  | cons _ _ => exact kcK hl
 | cons hx hk hlo h ih =>
  cases hv with
  | nil => exact kcK hl
  | cons h1 h2 =>
   refine wpAny_assignInOrder_more (wpAny_assign_Name (zkt eo st fr hx hk hlo h1 fun sB st1 fr1 p1 => ?_))
   exact ih st1 fr1 h2 (Nat.succ.inj hl) fun sM st2 fr2 p2 => k sM st2 fr2 (p1.trans p2)

inductive zj1 (sc : Scope) (ctx : List Str) (lo : Bool) : Expr -> Tgt -> Prop
 | nm {x p i} : ctx[i]? = some x -> zck (sc.names.lookup x) = true -> (lo = true -> sc.names.lookup x = some .local) -> zj1 sc ctx lo (.Name x p) (.nm i)
 | tup {es k p is} : jX sc ctx lo es is -> zj1 sc ctx lo (.Tuple es k p) (.tup is)
theorem zkZ {lo A E env target t Z J s v u} {k : zM -> Prop} {Q : Unit -> Shared -> Prop} (eo : jg sc env) (hh : A.handled = none) (ht : zj1 sc ctx lo target t) (st : St T J s) (fr : qB T env ctx Z J s.heap) (hv : VIs v u) (hw : zfJ t v Z J k)
  (h : ∀ s' Z', St T J s' -> qB T env ctx Z' J s'.heap -> zR T (zn5 env lo) J s J s' -> k Z' -> Q () s') : wpAny T.M A (assign target env u) Q E s := by
 cases ht with
 | nm hx hk hlo => exact wpAny_assign_Name (zkt eo st fr hx hk hlo hv fun s' st' fr' p' => h s' _ st' fr' p' hw)
 | tup hn =>
  obtain ⟨p, hw2⟩ := V.asRef.get hw hv
  obtain ⟨xs, hx, hl, hw3⟩ := hw2.get
  obtain ⟨us, ht, hvs, hz, _⟩ := st.tup hx
  have he := hn.each (env := env)
  refine wpAny_assign_Tuple hh ht (by rw [he.1, hz, hl]) he.2 fun h' hx' => ?_
  have hk : ∀ b o, s.heap.get? b = some o -> h'.get? b = some o := fun b o e => hx' b o (kbH (kbq e)) e
  have p0 : zR T (zn5 env lo) J s J { s with heap := h', toks := s.toks } := zR.refl.grow hk _
  refine zkY eo hn (st.grow hk s.toks) (fr.step (zR.refl.grow hk s.toks)) hvs hl fun s' st' fr' p' => h s' _ st' fr' (p0.trans p') hw3

noncomputable def zil (is : List Nat) (a : EW) : SW := fun Z J K P => a Z J (fun v J1 => zfJ (.tup is) v Z J1 fun Z' => K .next Z' J1) P
theorem zff {es k tp e pos is} {a : EW} (hn : jX sc ctx false es is) (h : zC T d sc ctx e a)
  (hs : ∀ env, swapsWithSole [.Tuple es k tp] e pos.line env = pure false := by intro _; rfl) (hw : ∀ env, swappedStores [.Tuple es k tp] e env = pure none := by intro _; rfl) (C : T.calm = true := by assumption) :
  zbA T d sc ctx (.Assign [.Tuple es k tp] e pos) (zil is a) := by
 intro A env Z J s K P eo ro st fr hq
 refine kaz (Assign_Tuple (Q := zaD T env ctx J s K) (h.run eo ro st fr hq fun v u J1 sB hv st1 p1 fr1 hw1 => ?_) (hs env) (hw env)) (fun _ _ x => x) fun _ _ x => x.any
 exact zkZ eo (ro.handled C) (.tup hn) st1 fr1 hv hw1 fun sM Z' st2 fr2 p2 hk => ⟨_, Z', J1, .next, st2, fr2, p1.any.trans p2, hk⟩

noncomputable def noP : Nat -> zb -> Prop := fun _ _ => False
theorem jA.no {X J s e s'} (h : jA T X J s noP e s') : False := let ⟨_, _, _, _, _, f⟩ := h; f
noncomputable def zie (chk : zb -> Prop) (t : Tgt) (b : SW) : List V -> zM -> zb -> (Out -> zM -> zb -> Prop) -> Prop
 | [], Z, J, K => chk J /\ K .next Z J
 | v :: r, Z, J, K => chk J /\ zfJ t v Z J fun Z' => b Z' J (fun o Z'' J'' => match o with | .next => zie chk t b r Z'' J'' K | .ret u => K (.ret u) Z'' J'') noP
noncomputable def yp (t : Tgt) (src : zh0) (b : SW) : SW := fun Z J K P => src Z J (fun xs chk J1 => zie chk t b xs Z J1 K) P
theorem zmx {xs : List V} {i : Nat} {x : V} {r : List V} (h : xs.drop i = x :: r) : xs[i]? = some x /\ xs.drop (i + 1) = r := by
 constructor
 ·have : (xs.drop i)[0]? = some x := by rw [h]; rfl
  simpa using this
 ·have : (xs.drop i).drop 1 = r := by rw [h]; rfl
  simpa using this
theorem qn {tg it body pos} {t : Tgt} {src : zh0} {b : SW} (ht : zj1 sc ctx false tg t) (hs : zeH T d sc ctx it src) (hb : jn T d sc ctx body b) (C : T.calm = true := by assumption) : zbA T d sc ctx (.For tg it body [] pos) (yp t src b) := by
 intro A env Z J s K P eo ro st fr hw
 refine kaz (wpAny_For (Q := zaD T env ctx J s K) (E := jA T [] J s P) ?_ (hs.1 env)) (fun _ _ x => x) fun _ _ x => x.any
 refine kaz (hs.2 A env Z J s _ P eo ro st fr hw) (fun x sB h₁ => kaz h₁ (fun itv sM h₂ => ?_) fun _ _ e => e) fun _ _ e => e
 obtain ⟨xs, chk, J2, I, wr, W, rfl, ite, w0, st2, p2, hwr, hl⟩ := h₂
 have fr2 := fr.step p2
 have hown : ∀ b ∈ wr, b ∉ own env := fun b hb ho => by obtain ⟨o, e⟩ := zi2 fr b ho; rw [(hwr b hb).2.2] at e; cases e
 refine codeAny_forLoop_any (fun n s' => X3 fun i Z' J' => A8 (n = xs.length + 1 - i) (i <= xs.length) (W i s'.heap) (St T J' s') (qB T env ctx Z' J' s'.heap) (zR T (own env) J s J' s') ((∀ b ∈ wr, J' b = none)) (zie chk t b (xs.drop i) Z' J' K)) ?_ (xs.length + 1)
  ⟨0, Z, J2, rfl, kbl _, w0, st2, fr2, p2.any, fun b hb => (hwr b hb).1, by simpa using hl⟩
 rintro n s' ⟨i, Z', J', rfl, hi, w, st', fr', p', hf, hl⟩
 have hnf : ∀ b ∈ wr, b ∉ frs T := fun b hb => st.notFr (hwr b hb).2.2
 have hwr' : ∀ b ∈ wr, J' b = none /\ T.hb.get? b = none /\ b ∉ frs T := fun b hb => ⟨hf b hb, (hwr b hb).2.1, hnf b hb⟩
 have hs0 : ∀ b ∈ wr, s.heap.get? b = none := fun b hb => (hwr b hb).2.2
 cases hd : xs.drop i with
 | nil =>
  rw [hd] at hl
  have hlen : i = xs.length := by have := congrArg kby hd; simp at this; lia
  subst hlen
  refine ite.done J' s' _ _ w st' hl.1 fun h' tk hk => ?_
  exact wpAny_execs_nil ⟨_, Z', J', .next, st'.off hwr' hk tk, fr'.off hown hk, p'.off hs0 hk tk, hl.2⟩
 | cons v r =>
  rw [hd] at hl
  obtain ⟨hx, hr⟩ := zmx hd
  have hlt : i < xs.length := (kae.mp hx).1
  refine ite.item i v J' s' _ _ hx w st' hl.1 fun u h' tk hv w1 hk => ?_
  refine ite.lets (i + 1) _ tg u _ _ w1 ?_
  refine zkZ eo (ro.handled C) ht (st'.off hwr' hk tk) (fr'.off hown hk) hv hl.2 fun s3 Z3 st3 fr3 p3 hk3 => ?_
  have w3 : W (i + 1) s3.heap := ite.frame _ _ _ w1 fun b hb o e => p3.keepX (.inl (hf b hb)) (hown b hb) (hnf b hb) e
  have p3' := (p'.off hs0 hk tk).trans p3
  refine kaz (hb A env Z3 J' s3 _ noP eo ro st3 fr3 hk3) (fun f s4 h₄ => ?_) fun _ _ x => x.no.elim
  obtain ⟨o, Z4, J4, hfl, st4, fr4, p4, hk4⟩ := h₄
  cases hfl with
  | next =>
   refine ⟨xs.length + 1 - (i + 1), by lia, i + 1, Z4, J4, rfl, hlt, ?_, st4, fr4, p3'.trans p4, fun b hb => ?_, by rw [hr]; exact hk4⟩
   ·exact ite.frame _ _ _ w3 fun b hb o e => p4.keepX (.inl (hf b hb)) (hown b hb) (hnf b hb) e
   ·obtain ⟨o, e⟩ := ite.alive _ _ w3 b hb
    exact p4.free (hf b hb) e
  | ret hv => exact ⟨_, Z4, J4, .ret hv, st4, fr4, p3'.trans p4, hk4⟩

noncomputable def zbF (c : EW) (b : SW) : Nat -> zM -> zb -> (Out -> zM -> zb -> Prop) -> Prop
 | 0, _, _, _ => False
 | n + 1, Z, J, K => c Z J (fun v J1 => v.asBool fun t => if t then b Z J1 (fun o Z' J' => match o with | .next => zbF c b n Z' J' K | .ret u => K (.ret u) Z' J') noP else K .next Z J1) noP
noncomputable def zcm (c : EW) (b : SW) : SW := fun Z J K _ => ∃ n, zbF c b n Z J K
theorem za9 {c body pos} {wc : EW} {b : SW} (hc : zcb T d sc ctx c wc) (hb : jn T d sc ctx body b) : zbA T d sc ctx (.While c body [] pos) (zcm wc b) := by
 intro A env Z J s K P eo ro st fr hw
 obtain ⟨n, hw⟩ := hw
 refine wpAny_While ?_
 refine codeAny_whileLoop (fun n s' => X2 fun Z' J' => A4 (St T J' s') (qB T env ctx Z' J' s'.heap) (zR T (own env) J s J' s') (zbF wc b n Z' J' K)) ?_ n ⟨Z, J, st, fr, .refl, hw⟩
 rintro n s' ⟨Z', J', st', fr', p', hw⟩
 cases n with
 | zero => exact hw.elim
 | succ n =>
  refine kaz (hc.then eo ro .refl st' fr' hw (Q' := fun t sB => ∃ J1, St T J1 sB /\ zR T [] J' s' J1 sB /\ qB T env ctx Z' J1 sB.heap /\ if t then _ else _) fun t J1 sB st1 p1 fr1 hw1 => ⟨J1, st1, p1, fr1, hw1⟩) (fun t sB h1 => ?_) fun _ _ x => x.no.elim
  obtain ⟨J1, st1, p1, fr1, hw1⟩ := h1
  cases t
  ·exact wpAny_execs_nil ⟨_, Z', J1, .next, st1, fr1, p'.trans p1.any, hw1⟩
  ·refine kaz (hb A env Z' J1 sB _ noP eo ro st1 fr1 hw1) (fun f sM h₂ => ?_) fun _ _ x => x.no.elim
   obtain ⟨o, Z2, J2, hfl, st2, fr2, p2, hk⟩ := h₂
   cases hfl with
   | next => exact ⟨n, kbm _, Z2, J2, st2, fr2, (p'.trans p1.any).trans p2, hk⟩
   | ret hv => exact ⟨_, Z2, J2, .ret hv, st2, fr2, (p'.trans p1.any).trans p2, hk⟩
end
end Mine
end
section
open PySem
namespace Mine
open PySem.Calls PyProof.Rows

noncomputable def za8 : zM -> Nat -> zM
 | [], _ => []
 | _ :: r, 0 => none :: r
 | o :: r, i + 1 => o :: za8 r i
theorem wM (Z : zM) (i j : Nat) (u : V) : jC (za8 Z i) j = some u -> j ≠ i /\ jC Z j = some u := by
 induction Z generalizing i j with
 | nil => exact fun h => qJ rfl h
 | cons o r ih =>
  cases i with
  | zero => exact Nat.casesOn j (fun h => qJ rfl h) fun j h => ⟨kdT j, h⟩
  | succ i => exact Nat.casesOn j (fun h => ⟨kcK, h⟩) fun j h => ⟨fun e => (ih i j h).1 (Nat.succ.inj e), (ih i j h).2⟩
theorem ziz (Z : zM) (i : Nat) (v : V) : yz (za8 Z i) i v = yz Z i v := by
 induction Z generalizing i with
 | nil => rfl
 | cons o r ih => exact Nat.casesOn i rfl fun i => congrArg (List.cons o) (ih i)
theorem zbu (Z : zM) (i j : Nat) (v u : V) : j ≠ i -> jC Z j = some u -> jC (yz Z i v) j = some u := by
 induction Z generalizing i j with
 | nil => exact fun _ h => h
 | cons o r ih =>
  cases i with
  | zero => exact Nat.casesOn j (fun hn _ => absurd rfl hn) fun j _ h => h
  | succ i => exact Nat.casesOn j (fun _ h => h) fun j hn h => ih i j (fun e => hn (congrArg Nat.succ e)) h

noncomputable def zbE (scope sc : Scope) : Scope :=
 { scope with names := scope.names.map fun (n, k) => if (k == .free && sc.kind == .function && sc.names.lookup n == some .cell) then (n, .cell) else (n, k) }
theorem zkC {scope sc env} (eo : jg sc env) : relabel scope env = zbE scope sc := by
 obtain ⟨h, _, _, _⟩ := eo
 subst h; rfl

structure CompB (sc : Scope) (ctx : List Str) (scope : Scope) : Prop where
 kind : scope.kind = .function
 nocell : ∀ y ∈ scope.names, y.2 ≠ .cell
 names : ∀ y ∈ scope.names, y.2 = .local -> scope.names.lookup y.1 = some .local
 free : ∀ y ∈ scope.names, y.2 = .free -> zgL (sc.names.lookup y.1) = true /\ sc.names.lookup y.1 ≠ some .local /\ ∃ i : Nat, ctx[i]? = some y.1
structure zpe (sc : Scope) (ctx : List Str) (scope : Scope) (j : Nat) (x : Str) : Prop extends CompB sc ctx scope where
 tgt : ctx[j]? = some x /\ scope.names.lookup x = some .local
 onlyx : ∀ y ∈ ctx, scope.names.lookup y = some .local -> y = x

theorem zev {f : Str -> NameKind -> NameKind} (l : List (Str × NameKind)) (x : Str) : (l.map fun (n, k) => (n, f n k)).lookup x = (l.lookup x).map (f x) := by
 induction l with
 | nil => rfl
 | cons y r ih =>
  rw [kaO, kbU, kbU, ih]
  by_cases h : x = y.1
  ·subst h; rw [beq_self_eq_true]; rfl
  ·rw [beq_eq_false_iff_ne.mpr h]
theorem wK (scope sc : Scope) (x : Str) : (zbE scope sc).names.lookup x = (scope.names.lookup x).map fun k => if (k == .free && sc.kind == .function && sc.names.lookup x == some .cell) then .cell else k := by
 have e : (zbE scope sc).names = scope.names.map fun (n, k) => (n, if (k == .free && sc.kind == .function && sc.names.lookup n == some .cell) then NameKind.cell else k) := by
  unfold zbE
  simp only
  apply kbd
  rintro ⟨n, k⟩ _
  simp only
  split <;> rfl
 rw [e]
 exact zev (f := fun n k => if (k == .free && sc.kind == .function && sc.names.lookup n == some .cell) then NameKind.cell else k) scope.names x

theorem zeP {α : Type} {l : List (Str × α)} {x : Str} {a : α} (h : (x, a) ∈ l) : ∃ b, l.lookup x = some b := by
 induction l with
 | nil => cases h
 | cons y r ih =>
  rw [kbU]
  cases e : x == y.1 with
  | true => exact ⟨y.2, rfl⟩
  | false => exact (kah.mp h).elim (fun h => absurd (h ▸ rfl) (beq_eq_false_iff_ne.mp e)) ih
theorem zhu (env : Env) (f : Str × NameKind -> List (Str × Addr) -> Sem (ForInStep (List (Str × Addr)))) (hf1 : ∀ n c r, env.cells.lookup n = some c -> f (n, .free) r = pure (.yield ((n, c) :: r))) (hf2 : ∀ n k r, k ≠ .free -> f (n, k) r = pure (.yield r)) :
  ∀ (names : List (Str × NameKind)) (cs : List (Str × Addr)), (∀ y ∈ names, y.2 = .free -> ∃ c, env.cells.lookup y.1 = some c) ->
  ∃ cl, forIn names cs f = pure cl /\
   (∀ x c, (x, c) ∈ cl -> (x, c) ∈ cs \/ env.cells.lookup x = some c) /\ (∀ x c, (x, c) ∈ cs -> (x, c) ∈ cl) /\ (∀ y ∈ names, y.2 = .free -> ∃ c, (y.1, c) ∈ cl) := by
 intro names
 induction names with
 | nil => exact fun cs _ => ⟨cs, rfl, fun _ _ h => .inl h, fun _ _ h => h, fun _ h => absurd h kaM⟩
 | cons nk r ih =>
  obtain ⟨n, k⟩ := nk
  intro cs h
  by_cases hk : k = .free
  ·subst hk
   obtain ⟨c, hc⟩ := h (n, .free) (kaq ..) rfl
   obtain ⟨cl, e, h1, h2, h3⟩ := ih ((n, c) :: cs) fun y hy => h y (kal _ hy)
   refine ⟨cl, ?_, fun x c' hx => ?_, fun x c' hx => h2 x c' (kal _ hx), fun y hy hf => ?_⟩
   ·rw [kc6, hf1 n c cs hc, pure_bind]
    exact e
   ·rcases h1 x c' hx with h4 | h4
    ·rcases kah.mp h4 with h5 | h5
     ·cases h5; exact .inr hc
     ·exact .inl h5
    ·exact .inr h4
   ·rcases kah.mp hy with h4 | h4
    ·subst h4; exact ⟨c, h2 _ _ (kaq ..)⟩
    ·exact h3 y h4 hf
  ·obtain ⟨cl, e, h1, h2, h3⟩ := ih cs fun y hy => h y (kal _ hy)
   refine ⟨cl, ?_, h1, h2, fun y hy hf => ?_⟩
   ·rw [kc6, hf2 n k cs hk, pure_bind]
    exact e
   ·rcases kah.mp hy with h4 | h4
    ·subst h4; exact absurd hf hk
    ·exact h3 y h4 hf
theorem zfF {scope : Scope} {env : Env} (h : ∀ y ∈ scope.names, y.2 = .free -> ∃ c, env.cells.lookup y.1 = some c) :
  ∃ cl, closureFor scope env = pure cl /\ (∀ x c, (x, c) ∈ cl -> env.cells.lookup x = some c) /\ (∀ y ∈ scope.names, y.2 = .free -> ∃ c, cl.lookup y.1 = some c) := by
 obtain ⟨cl, e, h1, h2, h3⟩ := zhu env (fun (x : Str × NameKind) r => if (x.2 == .free) = true then (do let a <- cellOf env x.1; pure (ForInStep.yield ((x.1, a) :: r))) else pure (ForInStep.yield r))
  (fun n c r hc => by simp [cellOf, hc]) (fun n k r hk => by simp [hk]) scope.names [] h
 refine ⟨cl, ?_, fun x c hx => ?_, fun y hy hf => ?_⟩
 ·simp only [closureFor]
  rw [<- e]
  simp only [bind_pure]
 ·rcases h1 x c hx with h4 | h4
  ·simp at h4
  ·exact h4
 ·obtain ⟨c, hc⟩ := h3 y hy hf
  exact zeP hc

section
variable {T : TC} {d : Nat} {sc : Scope} {ctx : List Str}

theorem zfE {env Z Z' J scope cl C} {h : Heap} (eo : jg sc env) (fr : qB T env ctx Z J h) (co : CompB sc ctx scope) (hZ : ∀ i y v, ctx[i]? = some y -> jC Z' i = some v -> jC Z i = some v /\ scope.names.lookup y ≠ some .local) (h1 : ∀ x c, (x, c) ∈ cl -> env.cells.lookup x = some c) (h2 : ∀ y ∈ scope.names, y.2 = .free -> ∃ c, cl.lookup y.1 = some c)
  (hC : J C = none) (hCb : T.hb.get? C = none) {h' : Heap} (hk : ∀ b o, h.get? b = some o -> h'.get? b = some o) (hCn : h.get? C = none) (hns : h'.Ns C fun _ => none) :
  qB T (compEnvC scope cl C env) ctx Z' J h' /\ jg (zbE scope sc) (compEnvC scope cl C env) := by
 have eo' : jg (zbE scope sc) (compEnvC scope cl C env) := ⟨zkC eo, co.kind, eo.globals, eo.builtins⟩
 have hcl : ∀ y c, (y, c) ∈ cl -> ∃ o, h.IsCell c o /\ J c = none /\ T.hb.get? c = none := fun y c hy => by
  have := h1 y c hy
  obtain ⟨a, o, b⟩ := fr.cfree y c this
  exact ⟨o, b, a, fr.cbase y c this⟩
 refine ⟨⟨fr.nd, ⟨_, hns, fun i y v hi hy hv => ?_⟩, fun i y hi hy => ?_, fun y z c hy hz => fr.lone y z c (h1 y c hy) (h1 z c hz), fun y c hy => ?_, hC, fun y c hy => ?_, hCb, fun y c hy => ?_⟩, eo'⟩
 ·rw [eo'.kindOf, wK] at hy
  cases hq : scope.names.lookup y with
  | none => rw [hq] at hy; cases hy
  | some kd =>
   rw [hq] at hy
   have hkd : kd = .local := by
    simp only [kbY, Option.some.injEq] at hy
    split at hy
    ·cases hy
    ·exact hy
   subst hkd
   exact absurd hq (hZ i y v hi hv).2
 ·rw [eo'.kindOf, wK] at hy
  cases hq : scope.names.lookup y with
  | none => rw [hq] at hy; rcases hy with hy | hy <;> cases hy
  | some kd =>
   rw [hq] at hy
   have hm : (y, kd) ∈ scope.names := mem_of_lookup hq
   have hkd : kd = .free := by
    simp only [kbY, Option.some.injEq] at hy
    split at hy
    ·rename_i hc; simp only [kaH, beq_iff_eq] at hc; exact hc.1.1
    ·rcases hy with hy | hy
     ·exact absurd hy (co.nocell _ hm)
     ·exact hy
   subst hkd
   obtain ⟨hl, hnl, i', hi'⟩ := co.free _ hm rfl
   have hk0 : env.kindOf y = some .cell \/ env.kindOf y = some .free := by
    rw [eo.kindOf]
    cases hz : sc.names.lookup y with
    | none => rw [hz] at hl; cases hl
    | some kk =>
     rw [hz] at hl hnl
     cases kk <;> first | (cases hl; done) | exact absurd rfl hnl | exact .inl rfl | exact .inr rfl
   obtain ⟨c, o, g1, g2, g3⟩ := fr.cell i y hi hk0
   obtain ⟨c', hc'⟩ := h2 _ hm rfl
   have := h1 y c' (mem_of_lookup hc')
   rw [g1] at this; cases this
   exact ⟨c, o, hc', g2.keeps hk, fun v hv => g3 v (hZ i y v hi hv).1⟩
 ·obtain ⟨o, ⟨ob, e, _⟩, _⟩ := hcl y c hy
  rintro rfl
  rw [hCn] at e; cases e
 ·obtain ⟨o, a, b, _⟩ := hcl y c hy
  exact ⟨b, o, a.keeps hk⟩
 ·obtain ⟨o, a, b, c'⟩ := hcl y c hy
  exact c'

def zcJ (T : TC) (d : Nat) (sc : Scope) (ctx : List Str) (ifs : List Expr) (c : Option EW) : Prop :=
 match ifs, c with
 | [], none => True
 | [e], some w => zcb T d sc ctx e w
 | _, _ => False
def zfD (c : Option EW) (Z : zM) (J : zb) (k : Bool -> zb -> Prop) : Prop := match c with
 | none => k true J
 | some w => w Z J (fun v J1 => v.asBool fun b => k b J1) noP
theorem zqY {A E env Z J s ifs c} {k : Bool -> zb -> Prop} {Q : Bool -> Shared -> Prop} (hi : zcJ T d sc ctx ifs c) (eo : jg sc env) (ro : zaR T A d) (st : St T J s) (fr : qB T env ctx Z J s.heap) (hw : zfD c Z J k)
  (h : ∀ b J' s', St T J' s' -> zR T [] J s J' s' -> qB T env ctx Z J' s'.heap -> k b J' -> Q b s') :
  wpAny T.M A (forIn ifs true fun c r => if r = true then do let ok <- isTrue c env (eval c env); pure (ForInStep.yield ok) else pure (ForInStep.yield r)) Q E s := by
 unfold zcJ at hi
 split at hi
 ·rw [kdc]; exact kaP (h true J s st .refl fr hw)
 ·rename_i e w
  rw [kc6]
  refine kar (kar ?_)
  refine kaz (hi.then eo ro .refl st fr (P := noP) hw fun b J' s' st' p' fr' hk => ?_) (fun _ _ x => x) fun _ _ x => x.no.elim
  refine kaP ?_
  show wpAny _ _ (forIn [] b _) Q E s'
  rw [kdc]
  exact kaP (h b J' s' st' p' fr' hk)
 ·exact hi.elim

noncomputable def zbx (chk : zb -> Prop) (j : Nat) (c : Option EW) (e : EW) (Z : zM) : List V -> List V -> zb -> (V -> zb -> Prop) -> Prop
 | [], acc, J, Q => chk J /\ wb (.list acc) J Q
 | v :: r, acc, J, Q => chk J /\ zfD c (yz Z j v) J fun b J1 => if b then e (yz Z j v) J1 (fun u J2 => zbx chk j c e Z r (acc ++ [u]) J2 Q) noP else zbx chk j c e Z r acc J1 Q
noncomputable def ju (j : Nat) (src : zh0) (c : Option EW) (e : EW) : EW := fun Z J Q P => src Z J (fun xs chk J1 => xs.length <= lim /\ zbx chk j c e Z xs [] J1 Q) P

noncomputable def zaQ {α : Type} (chk : zb -> Prop) (bd : α -> zM) (c : Option EW) (e : EW) : List α -> List V -> zb -> (V -> zb -> Prop) -> Prop
 | [], acc, J, Q => chk J /\ wb (.list acc) J Q
 | v :: r, acc, J, Q => chk J /\ zfD c (bd v) J fun b J1 => if b then e (bd v) J1 (fun u J2 => zaQ chk bd c e r (acc ++ [u]) J2 Q) noP else zaQ chk bd c e r acc J1 Q
theorem zox (chk : zb -> Prop) (j : Nat) (c : Option EW) (e : EW) (Z : zM) : ∀ (xs acc : List V) (J : zb) (Q : V -> zb -> Prop), zbx chk j c e Z xs acc J Q = zaQ chk (yz Z j) c e xs acc J Q := by
 intro r_
 induction r_ with
 | nil =>
  intro _ _ _
  exact rfl
 | cons v r ih_ =>
  intro acc J Q
  show (chk J /\ zfD c (yz Z j v) J fun b J1 => if b then e (yz Z j v) J1 (fun u J2 => zbx chk j c e Z r (acc ++ [u]) J2 Q) noP else zbx chk j c e Z r acc J1 Q) = _
  have h : ∀ acc J Q, zbx chk j c e Z r acc J Q = zaQ chk (yz Z j) c e r acc J Q := fun acc J Q => ih_ acc J Q
  simp only [h]
  rfl
structure zp3 {α : Type} (T : TC) (A : Around) (ctx : List Str) (cenv : Env) (Z0 : zM) (bd : α -> zM) (target : Expr) (xs : List α) (chk : zb -> Prop) (I D : Addr) (X : List Addr) (W : Nat -> Heap -> Prop) : Prop where
 item : ∀ i a J' s' (K : Shared -> Prop) E, xs[i]? = some a -> W i s'.heap -> St T J' s' -> qB T cenv ctx Z0 J' s'.heap -> (∀ b ∈ X, J' b = none) -> chk J' ->
  (∀ s3, St T J' s3 -> qB T cenv ctx (bd a) J' s3.heap -> zR T X J' s' J' s3 -> W (i + 1) s3.heap -> K s3) ->
  wpAny T.M A (pyNext (.ref I)) (fun r sB => match r with | none => False | some v => wpAny T.M A (letOwnedTupleGo target (.ref I) v) (fun _ sM => wpAny T.M A (assign target cenv v) (fun _ s3 => K s3) E sM) E sB) E s'
 last : ∀ J' s' (K : Shared -> Prop) E, W xs.length s'.heap -> St T J' s' -> qB T cenv ctx Z0 J' s'.heap -> (∀ b ∈ X, J' b = none) -> chk J' ->
  (∀ h tk, St T J' { s' with heap := h, toks := tk } -> qB T cenv ctx Z0 J' h -> (∀ b o, b ∉ X -> s'.heap.get? b = some o -> h.get? b = some o) -> K { s' with heap := h, toks := tk }) -> wpAny T.M A (pyNext (.ref I)) (fun r sB => match r with | none => K sB | some _ => False) E s'
 keep : ∀ i h h', W i h -> (∀ b o, b ∈ X -> h.get? b = some o -> h'.get? b = some o) -> W i h'
 live : ∀ i h, W i h -> ∀ b ∈ X, b ∉ own cenv -> ∃ o, h.get? b = some o
inductive zpg {α : Type} (T : TC) (ctx : List Str) (cenv : Env) (Z0 : zM) (bd : α -> zM) (chk : zb -> Prop) (c : Option EW) (we : EW) (xs : List α) (D : Addr) (X : List Addr) (W : Nat -> Heap -> Prop) (J : zb) (s : Shared) (Q : V -> zb -> Prop) (i : Nat) (s' : Shared) : Prop
 | mk (J' us nn vs) (h1 : W i s'.heap) (h2 : St T J' s') (h3 : zR T [] J s J' s') (h4 : qB T cenv ctx Z0 J' s'.heap) (h5 : ∀ b ∈ X, J' b = none /\ ∃ o, s'.heap.get? b = some o) (h6 : J' D = none) (h7 : IsL s'.heap D us nn) (h8 : yn vs us.toList) (h9 : vs.length <= i) (h10 : zaQ chk bd c we (xs.drop i) vs J' Q) : zpg T ctx cenv Z0 bd chk c we xs D X W J s Q i s'
theorem zg7 {α : Type} {A : Around} {cenv : Env} {Z0 : zM} {bd : α -> zM} {J J2 : zb} {s sM : Shared} {target iter : Expr} {ifs : List Expr} {scope : Scope} {pos : Pos} {elt : Expr} {xs : List α} {chk : zb -> Prop} {I D : Addr} {X : List Addr} {W : Nat -> Heap -> Prop} {c : Option EW} {we : EW} {Q : V -> zb -> Prop} {R : Result -> Shared -> Prop}
  (hif : zcJ T d sc ctx ifs c) (hel : zC T d sc ctx elt we) (eoc : jg sc cenv) (ro : zaR T A d) (hd : zp3 T A ctx cenv Z0 bd target xs chk I D X W)
  (hforget : ∀ a i w, jC Z0 i = some w -> jC (bd a) i = some w) (hXs : ∀ b ∈ X, s.heap.get? b = none /\ b ∉ frs T) (hXl : ∀ b ∈ X, ∃ o, sM.heap.get? b = some o) (hDX : D ∉ X) (hDF : D ∉ frs T) (hDs : s.heap.get? D = none) (hDb : T.hb.get? D = none) (hDsys : (D == sysModules) = false) (hDown : D ∉ own cenv)
  (st2 : St T J2 sM) (p2 : zR T [] J s J2 sM) (fr2 : qB T cenv ctx Z0 J2 sM.heap) (w0 : W 0 sM.heap) (hX2 : ∀ b ∈ X, J2 b = none) (hD2 : J2 D = none) (hDo : IsL sM.heap D #[] 0) (hlim : xs.length <= lim) (hl : zaQ chk bd c we xs [] J2 Q)
  (fin : ∀ J' s' m, St T J' s' -> zR T [] J s J' s' -> s'.heap.Ns cenv.locals m -> J' cenv.locals = none -> Q (.ref D) J' -> R (.ok .next) s') :
  codeAny T.M A (.compLoop (.ListComp elt [⟨target, iter, ifs, 0⟩] scope pos) 0 (.ref I) (.ref D) cenv) R sM := by
 have offX : ∀ {J' : zb} {s' s3 : Shared}, zR T [] J s J' s' -> zR T X J' s' J' s3 -> zR T [] J s J' s3 := fun {J' s' s3} p q => by
  have pc : zR T X J s J' s3 := (p.weaken (by simp)).trans q
  exact ⟨fun b o hf _ e => pc.keep b o hf (fun hx => by rw [(hXs b hx).1] at e; cases e) e, pc.live, pc.mono, pc.new⟩
 have keepD : ∀ {J' : zb} {s' s3 : Shared} {us nn}, J' D = none -> zR T X J' s' J' s3 -> IsL s'.heap D us nn -> IsL s3.heap D us nn := fun {J' s' s3 us nn} h q e => q.keepX (.inl h) hDX hDF e
 refine codeAny_loop rfl (fun n s' => ∃ i, A3 (n = xs.length + 1 - i) (i <= xs.length) (zpg T ctx cenv Z0 bd chk c we xs D X W J s Q i s')) ?_ (xs.length + 1) ⟨0, rfl, kbl _, J2, #[], 0, [], w0, st2, p2, fr2, fun b hb => ⟨hX2 b hb, hXl b hb⟩, hD2, hDo, .nil, kao _, by simpa using hl⟩
 rintro n s' ⟨i, rfl, hi, J', us, nn, vs, w, st', p', fr', hX', hDJ, hDo', hvs, hlen, hl'⟩
 show wpAny _ A ((compTurn (.ListComp elt [⟨target, iter, ifs, 0⟩] scope pos) 0 (.ref I) (.ref D) cenv).onRaise (fun x => do noteFrame x cenv; theTreesLotGoes x)) _ _ s'
 refine wpAny_noted ?_
 rw [compTurn_list]
 refine kar (wpAny_standAt (kar ?_))
 cases hdr : xs.drop i with
 | nil =>
  rw [hdr] at hl'
  have hlen' : i = xs.length := by have := congrArg kby hdr; simp at this; lia
  subst hlen'
  refine kaz (hd.last J' s' (fun s3 => R (.ok .next) s3) _ w st' fr' (fun b hb => (hX' b hb).1) hl'.1 fun h tk st3 fr3 q3 => ?_) (fun r s3 h₃ => ?_) fun _ _ e => e
  ·have hDo3 : IsL h D us nn := q3 _ _ hDX hDo'
   have p3 := p'.off (wr := X) (fun b hb => (hXs b hb).1) q3 tk
   obtain ⟨m, hn, _⟩ := fr3.ns
   refine fin (put J' D (.list vs)) _ m ?_ ?_ hn ?_ (hl'.2 D hDJ)
   ·exact st3.adopt hDF hDJ hDb hDsys ⟨rfl, fun _ _ => rfl⟩ hDo3 (so := .list vs) ⟨by exact kap ‹_› ‹_›, us, nn, rfl, hvs⟩ tk
   ·exact p3.adopt hDs ⟨rfl, fun _ _ => rfl⟩ hDo3 (.list vs) tk
   ·rw [zY _ (fun e => hDown (by rw [<- e]; exact kaq ..))]; exact fr3.lfree
  ·cases r with
   | none => exact kaP h₃
   | some _ => exact h₃.elim
 | cons a r =>
  rw [hdr] at hl'
  obtain ⟨hx, hr⟩ : xs[i]? = some a /\ xs.drop (i + 1) = r := by
   have h1 := kdA (xs := xs) (i := i) (j := 0)
   rw [hdr] at h1
   refine ⟨by simpa using h1.symm, ?_⟩
   rw [<- List.drop_drop, hdr]; rfl
  have hlt : i < xs.length := (kae.mp hx).1
  refine kaz (hd.item i a J' s' (fun s3 => wpAny T.M A (forIn ifs true fun c r => if r = true then do let ok <- isTrue c cenv (eval c cenv); pure (ForInStep.yield ok) else pure (ForInStep.yield r)) (fun ok s4 =>
    if ok = true then wpAny T.M A (eval elt cenv) (fun x s5 => wpAny T.M A (call (.builtin "list.append") [.ref D, x]) (fun _ s6 => zpg T ctx cenv Z0 bd chk c we xs D X W J s Q (i + 1) s6)
     (notedBy T.M A cenv fun e s' => R (.error e) s') s5) (notedBy T.M A cenv fun e s' => R (.error e) s') s4
    else zpg T ctx cenv Z0 bd chk c we xs D X W J s Q (i + 1) s4) (notedBy T.M A cenv fun e s' => R (.error e) s') s3) _ hx w st' fr' (fun b hb => (hX' b hb).1) hl'.1 fun s3 st3 fr3 q3 w3 => ?_) (fun r' sB h₁ => ?_) fun _ _ e => e
  ·have hDo3 := keepD hDJ q3 hDo'
   have p3 := offX p' q3
   have hX3 : ∀ b ∈ X, J' b = none /\ ∃ o, s3.heap.get? b = some o := fun b hb => ⟨(hX' b hb).1, let ⟨o, e⟩ := (hX' b hb).2; q3.live b o e⟩
   have stepX : ∀ {J4 : zb} {s4 : Shared} {J5 : zb} {s5 : Shared}, (∀ b ∈ X, J4 b = none /\ ∃ o, s4.heap.get? b = some o) -> zR T [] J4 s4 J5 s5 -> (∀ b ∈ X, J5 b = none /\ ∃ o, s5.heap.get? b = some o) := fun {J4 s4 J5 s5} h q b hb => by
    obtain ⟨h1, o, e⟩ := h b hb
    exact ⟨q.free h1 e, q.live b o e⟩
   have stepW : ∀ {J4 : zb} {s4 : Shared} {J5 : zb} {s5 : Shared} {k}, (∀ b ∈ X, J4 b = none /\ ∃ o, s4.heap.get? b = some o) -> zR T [] J4 s4 J5 s5 -> W k s4.heap -> W k s5.heap := fun {J4 s4 J5 s5 k} h q w => hd.keep _ _ _ w fun b o hb e => q.keepX (.inl (h b hb).1) (by simp) (hXs b hb).2 e
   refine zqY hif eoc ro st3 fr3 hl'.2 fun b J4 s4 st4 p4 fr4 hk4 => ?_
   have hX4 := stepX hX3 p4
   have w4 := stepW hX3 p4 w3
   have hDo4 : IsL s4.heap D us nn := p4.keepX (.inl hDJ) (by simp) hDF hDo3
   have hD4 : J4 D = none := p4.free hDJ hDo3
   cases b with
   | false =>
    simp only [kad, if_false] at hk4 ⊢
    exact ⟨J4, us, nn, vs, w4, st4, p3.trans p4, fr4.forget (hforget a), hX4, hD4, hDo4, hvs, by exact leN (lin r2 V0 (.add V1 N1) [(0,1,V0,V1)] rfl (leI hlen)), by rw [hr]; exact hk4⟩
   | true =>
    simp only [if_true] at hk4 ⊢
    refine kaz (hel.run eoc ro st4 fr4 hk4 (Q' := fun y s5 => ∃ v' J5, VIs v' y /\ St T J5 s5 /\ zR T [] J4 s4 J5 s5 /\ qB T cenv ctx (bd a) J5 s5.heap /\ zaQ chk bd c we r (vs ++ [v']) J5 Q) fun v' y J5 s5 hv' st5 p5 fr5 hk5 => ⟨v', J5, hv', st5, p5, fr5, hk5⟩) (fun y s5 h₅ => ?_) fun _ _ x => x.no.elim
    obtain ⟨v', J5, hv', st5, p5, fr5, hk5⟩ := h₅
    have hDo5 : IsL s5.heap D us nn := p5.keepX (.inl hD4) (by simp) hDF hDo4
    have hD5 : J5 D = none := p5.free hD4 hDo4
    have hX5 := stepX hX4 p5
    have w5 := stepW hX4 p5 w4
    have hz : us.size = vs.length := by have := hvs.length; simpa using this
    refine call_meets F.slot_list_append ⟨_, hDo5, rfl⟩ F.entry_list_append (F.args_list_append_2 _ _) (AutoListH.list_append_list_val_0 D us nn y (by rw [hz]; have := zag; exact leN (lin r5 V0 V1 [(0,1,V2,V3),(0,1,V0,V4),(1,1,V4,V2),(0,1,V3,V1)] rfl (leI hlim) (leI hlen) (ltI hlt) (leI this)))) ⟨hDo5, ?_⟩
    have ho' := IsL.update hDo5 (fun x => x.push y)
    have hoff : ∀ b o, b ∉ [D] -> s5.heap.get? b = some o -> (s5.heap.update D (Obj.mapSeq fun x => x.push y)).get? b = some o := fun b o hb e => (kbs _ _ (by simp at hb; exact Ne.symm hb)).trans e
    have hneD : ∀ b ∈ X, b ∉ [D] := fun b hb h => hDX (by rw [<- kaf.mp h]; exact hb)
    refine ⟨J5, us.push y, _, vs ++ [v'], hd.keep _ _ _ w5 fun b o hb e => hoff b o (hneD b hb) e, st5.off (wr := [D]) (by simp; exact ⟨hD5, hDb, hDF⟩) hoff s5.toks, ((p3.trans p4).trans p5).off (wr := [D]) (by simp; exact hDs) hoff s5.toks,
     (fr5.forget (hforget a)).off (wr := [D]) (by simpa using hDown) hoff, fun b hb => ⟨(hX5 b hb).1, let ⟨o, e⟩ := (hX5 b hb).2; ⟨o, hoff b o (hneD b hb) e⟩⟩, hD5, ho', by simpa using hvs.append (.cons hv' .nil), by simp; assumption, by rw [hr]; exact hk5⟩
  ·cases r' with
   | none => exact h₁.elim
   | some v =>
    refine kar (kaz h₁ (fun _ sM h₂ => kar (kaz h₂ (fun _ s3 h₃ => kar (kaz h₃ (fun ok s4 h₄ => ?_) fun _ _ h' => h')) fun _ _ h' => h')) fun _ _ h' => h')
    cases ok with
    | false =>
     exact kaP ⟨rfl, xs.length + 1 - (i + 1), by lia, i + 1, rfl, hlt, h₄⟩
    | true =>
     exact kar (kar (kaz h₄ (fun x s5 h₅ => kar (kaz h₅ (fun _ s6 h₆ => kaP (kaP ⟨rfl, xs.length + 1 - (i + 1), by lia, i + 1, rfl, hlt, h₆⟩)) fun _ _ h' => h')) fun _ _ h' => h'))
theorem zlu {A : Around} {cenv : Env} {Z : zM} {j : Nat} {x : Str} {px : Pos} {xs : List V} {chk : zb -> Prop} {I D Wa : Addr} {wr : List Addr} {W : Nat -> Heap -> Prop} (eoc : jg sc cenv) (hx : ctx[j]? = some x) (hk : zck (sc.names.lookup x) = true)
  (hWa : (sc.names.lookup x = some .local /\ Wa = cenv.locals) \/ (sc.names.lookup x = some .cell /\ cenv.cells.lookup x = some Wa)) (ite : zk6 T A I wr xs chk W) (hwr : ∀ b ∈ wr, T.hb.get? b = none /\ b ∉ frs T) (hown : ∀ b ∈ wr, b ∉ own cenv) :
  zp3 T A ctx cenv (za8 Z j) (yz Z j) (.Name x px) xs chk I D (Wa :: wr) W := by
 have hWo : Wa ∈ own cenv := by
  rcases hWa with ⟨_, e⟩ | ⟨_, e⟩
  ·rw [e]; exact kaq ..
  ·exact kal _ (kat.mpr ⟨(x, Wa), mem_of_lookup e, rfl⟩)
 have hWw : Wa ∉ wr := fun h => hown _ h hWo
 refine ⟨fun i a J' s' K E hi w st' fr' hX ck k => ?_, fun J' s' K E w st' fr' hX ck k => ?_, fun i h h' w hk => ite.frame i h h' w fun b hb o e => hk b o (kal _ hb) e, fun i h w b hb hno => ?_⟩
 ·have hf : ∀ b ∈ wr, J' b = none := fun b hb => hX b (kal _ hb)
  refine ite.item i a J' s' _ _ hi w st' ck fun u h' tk hv w1 hk' => ?_
  refine wpAny_of_eq (show letOwnedTupleGo (.Name x px) (.ref I) u = pure () from rfl) ?_
  refine wpAny_assign_Name (zga eoc (st'.off (fun b hb => ⟨hf b hb, hwr b hb⟩) hk' tk) (fr'.off hown hk') hx hk hv fun s3 b hb hl st3 fr3 p3 => ?_)
  have hbW : b = Wa := by
   rcases hWa with ⟨e1, e2⟩ | ⟨e1, e2⟩
   ·rw [hl.1 e1, e2]
   ·have := hl.2 e1; rw [e2] at this; exact (Option.some.inj this).symm
  subst hbW
  rw [ziz] at fr3
  refine k s3 st3 fr3 ?_ (ite.frame _ _ _ w1 fun b' hb' o e => p3.keepX (.inl (hf b' hb')) (fun h => hWw (by rw [<- kaf.mp h]; exact hb')) (hwr b' hb').2 e)
  refine zR.trans (J1 := J') (sB := { s' with heap := h', toks := tk }) ⟨fun c o hfc hc e => ⟨o, hk' c o (fun h => hc (kal _ h)) e, .inl rfl⟩, fun c o e => ?_, fun c h => h, fun c h h' => by simp [h] at h'⟩ (p3.weaken (by intro c hc; rw [kaf.mp hc]; exact kaq ..))
  by_cases hc : c ∈ wr
  ·exact ite.alive _ _ w1 c hc
  ·exact ⟨o, hk' c o hc e⟩
 ·have hf : ∀ b ∈ wr, J' b = none := fun b hb => hX b (kal _ hb)
  exact ite.done J' s' _ _ w st' ck fun h' tk hk' => k h' tk (st'.off (fun b hb => ⟨hf b hb, hwr b hb⟩) hk' tk) (fr'.off hown hk') fun b o hb e => hk' b o (fun h => hb (kal _ h)) e
 ·rcases kah.mp hb with h | h
  ·rw [h] at hno; exact absurd hWo hno
  ·exact ite.alive i _ w b h
structure zh4 (sc : Scope) (ctx : List Str) (scope : Scope) (j : Nat) (x : Str) : Prop where
 kind : scope.kind = .function
 names : ∀ y ∈ scope.names, y.2 = .local -> scope.names.lookup y.1 = some .local
 one : ∀ (L : Addr) (cl : List (Str × Addr)), cellsFrom L scope.names cl = (x, L) :: cl
 tgt : ctx[j]? = some x /\ scope.names.lookup x = some .cell
 free : ∀ y ∈ scope.names, y.2 = .free -> y.1 ≠ x /\ zgL (sc.names.lookup y.1) = true /\ sc.names.lookup y.1 ≠ some .local /\ ∃ i : Nat, ctx[i]? = some y.1
 other : ∀ y ∈ ctx, ∀ k, scope.names.lookup y = some k -> k = .free \/ y = x /\ k = .cell \/ (k ≠ .local /\ k ≠ .cell /\ k ≠ .free)
abbrev yT (sc : Scope) (ctx : List Str) (scope : Scope) (j : Nat) (x : Str) : Prop := zpe sc ctx scope j x \/ zh4 sc ctx scope j x
theorem yT.kind {sc ctx scope j x} : yT sc ctx scope j x -> scope.kind = .function
 | .inl h => h.kind
 | .inr h => h.kind
theorem yT.names {sc ctx scope j x} : yT sc ctx scope j x -> ∀ y ∈ scope.names, y.2 = .local -> scope.names.lookup y.1 = some .local
 | .inl h => h.names
 | .inr h => h.names
theorem yT.free {sc ctx scope j x} : yT sc ctx scope j x -> ∀ y ∈ scope.names, y.2 = .free -> zgL (sc.names.lookup y.1) = true /\ sc.names.lookup y.1 ≠ some .local /\ ∃ i : Nat, ctx[i]? = some y.1
 | .inl h => h.free
 | .inr h => fun y hy hf => (h.free y hy hf).2
theorem ziJ {env Z J scope j x cl C K} {h : Heap} (eo : jg sc env) (fr : qB T env ctx Z J h) (co : zh4 sc ctx scope j x) (h1 : ∀ x c, (x, c) ∈ cl -> env.cells.lookup x = some c) (h2 : ∀ y ∈ scope.names, y.2 = .free -> ∃ c, cl.lookup y.1 = some c)
  (hC : J C = none) (hCb : T.hb.get? C = none) (hK : J K = none) (hKb : T.hb.get? K = none) (hKC : K ≠ C) {h' : Heap} (hk : ∀ b o, h.get? b = some o -> h'.get? b = some o) (hCn : h.get? C = none) (hKn : h.get? K = none) (hns : h'.Ns C fun _ => none) (hcell : h'.IsCell K none) :
  qB T (compEnvC scope ((x, K) :: cl) C env) ctx (za8 Z j) J h' /\ jg (zbE scope sc) (compEnvC scope ((x, K) :: cl) C env) := by
 have eo' : jg (zbE scope sc) (compEnvC scope ((x, K) :: cl) C env) := ⟨zkC eo, co.kind, eo.globals, eo.builtins⟩
 have hcl : ∀ y c, (y, c) ∈ cl -> ∃ o, h.IsCell c o /\ J c = none /\ T.hb.get? c = none := fun y c hy => by
  have := h1 y c hy
  obtain ⟨a, o, b⟩ := fr.cfree y c this
  exact ⟨o, b, a, fr.cbase y c this⟩
 have hclK : ∀ y c, (y, c) ∈ cl -> c ≠ K := fun y c hy e => by
  obtain ⟨o, ⟨ob, e1, _⟩, _⟩ := hcl y c hy
  rw [e, hKn] at e1; cases e1
 have kinds : ∀ i y k, ctx[i]? = some y -> (compEnvC scope ((x, K) :: cl) C env).kindOf y = some k -> (k = .local -> False) /\ (k = .cell \/ k = .free -> y = x \/ y ≠ x /\ (y, NameKind.free) ∈ scope.names) := fun i y k hi hy => by
  rw [eo'.kindOf, wK] at hy
  cases hq : scope.names.lookup y with
  | none => rw [hq] at hy; cases hy
  | some kd =>
   rw [hq] at hy
   simp only [kbY, Option.some.injEq] at hy
   have ho := co.other y (kaj hi) kd hq
   rcases ho with e | ⟨e1, e2⟩ | ⟨e1, e2, e3⟩
   ·subst e
    refine ⟨fun hl => ?_, fun _ => .inr ⟨(co.free (y, .free) (mem_of_lookup hq) rfl).1, mem_of_lookup hq⟩⟩
    split at hy
    ·rw [hl] at hy; cases hy
    ·rw [hl] at hy; cases hy
   ·subst e2
    refine ⟨fun hl => ?_, fun _ => .inl e1⟩
    rw [hl] at hy; simp at hy
   ·have hy' : kd = k := by
     have : (kd == NameKind.free) = false := by cases kd <;> first | rfl | exact absurd rfl e3
     rw [this] at hy; simpa using hy
    subst hy'
    exact ⟨fun hl => e1 hl, fun h => by rcases h with h | h; exact absurd h e2; exact absurd h e3⟩
 refine ⟨⟨fr.nd, ⟨_, hns, fun i y v hi hy hv => ((kinds i y _ hi hy).1 rfl).elim⟩, fun i y hi hy => ?_, fun y z c hy hz => ?_, fun y c hy => ?_, hC, fun y c hy => ?_, hCb, fun y c hy => ?_⟩, eo'⟩
 ·have hor : y = x \/ y ≠ x /\ (y, NameKind.free) ∈ scope.names := by
   rcases hy with hy | hy
   ·exact (kinds i y _ hi hy).2 (.inl rfl)
   ·exact (kinds i y _ hi hy).2 (.inr rfl)
  rcases hor with rfl | ⟨hne, hm⟩
  ·refine ⟨K, none, by show List.lookup y ((y, K) :: cl) = _; simp [kbU], hcell, fun v hv => ?_⟩
   have := (wM _ _ _ _ hv).1
   exact absurd (zfB fr.nd hi co.tgt.1) this
  ·obtain ⟨_, hl, hnl, i', hi'⟩ := co.free _ hm rfl
   have hk0 : env.kindOf y = some .cell \/ env.kindOf y = some .free := by
    rw [eo.kindOf]
    cases hz : sc.names.lookup y with
    | none => rw [hz] at hl; cases hl
    | some kk =>
     rw [hz] at hl hnl
     cases kk <;> first | (cases hl; done) | exact absurd rfl hnl | exact .inl rfl | exact .inr rfl
   obtain ⟨c, o, g1, g2, g3⟩ := fr.cell i y hi hk0
   obtain ⟨c', hc'⟩ := h2 _ hm rfl
   have := h1 y c' (mem_of_lookup hc')
   rw [g1] at this; cases this
   have hb : (y == x) = false := beq_eq_false_iff_ne.mpr hne
   refine ⟨c, o, ?_, g2.keeps hk, fun v hv => g3 v (wM _ _ _ _ hv).2⟩
   show List.lookup y ((x, K) :: cl) = _
   rw [kbU, hb]; exact hc'
 ·rcases kah.mp hy with e | hy <;> rcases kah.mp hz with e' | hz
  ·cases e; cases e'; rfl
  ·cases e; exact absurd rfl (hclK z K hz)
  ·cases e'; exact absurd rfl (hclK y K hy)
  ·exact fr.lone y z c (h1 y c hy) (h1 z c hz)
 ·rcases kah.mp hy with e | hy
  ·cases e; exact hKC
  ·obtain ⟨o, ⟨ob, e, _⟩, _⟩ := hcl y c hy
   rintro rfl
   rw [hCn] at e; cases e
 ·rcases kah.mp hy with e | hy
  ·cases e; exact ⟨hK, _, hcell⟩
  ·obtain ⟨o, a, b, _⟩ := hcl y c hy
   exact ⟨b, o, a.keeps hk⟩
 ·rcases kah.mp hy with e | hy
  ·cases e; exact hKb
  ·obtain ⟨o, a, b, c'⟩ := hcl y c hy
   exact c'
theorem zjg {A : Around} {env : Env} {Z : zM} {J J2 : zb} {s sB : Shared} {x : Str} {px : Pos} {iter elt : Expr} {ifs : List Expr} {scope : Scope} {pos : Pos} {j : Nat} {xs : List V} {chk : zb -> Prop} {I D C Wa : Addr} {wr : List Addr} {W : Nat -> Heap -> Prop} {c : Option EW} {we : EW} {cs : List (Str × Addr)} {Q : V -> zb -> Prop} {R : Result -> Shared -> Prop}
  (hif : zcJ T d (zbE scope sc) ctx ifs c) (hel : zC T d (zbE scope sc) ctx elt we) (ro : zaR T A d) (frc : qB T (compEnvC scope cs C env) ctx (za8 Z j) J2 sB.heap) (eoc : jg (zbE scope sc) (compEnvC scope cs C env)) (hx : ctx[j]? = some x)
  (hWa : ((zbE scope sc).names.lookup x = some .local /\ Wa = C) \/ ((zbE scope sc).names.lookup x = some .cell /\ cs.lookup x = some Wa))
  (ite : zk6 T A I wr xs chk W) (w1 : W 0 sB.heap) (st1 : St T J2 sB) (p1 : zR T [] J s J2 sB) (hwr : ∀ b ∈ wr, J2 b = none /\ T.hb.get? b = none /\ s.heap.get? b = none) (nf : ∀ b, s.heap.get? b = none -> b ∉ frs T) (hlim : xs.length <= lim) (hw : zbx chk j c we Z xs [] J2 Q)
  (hWs : s.heap.get? Wa = none) (hcs : ∀ y c', (y, c') ∈ cs -> c' = Wa \/ ∃ o, s.heap.get? c' = some o) (hCs : s.heap.get? C = none) (hCw : C ∉ wr) (hWw : Wa ∉ wr) (hDs : s.heap.get? D = none) (hDC : D ≠ C) (hDW : D ≠ Wa) (hDw : D ∉ wr) (hDJ : J2 D = none) (hDb : T.hb.get? D = none) (hDsys : (D == sysModules) = false) (hDo : IsL sB.heap D #[] 0)
  (fin : ∀ J' s' m, St T J' s' -> zR T [] J s J' s' -> s'.heap.Ns C m -> J' C = none -> Q (.ref D) J' -> R (.ok .next) s') :
  codeAny T.M A (.compStart (.ListComp elt [⟨.Name x px, iter, ifs, 0⟩] scope pos) 0 (.ref I) (.ref D) (compEnvC scope cs C env)) R sB := by
 have hno : ∀ b, s.heap.get? b = none -> b ≠ C -> b ≠ Wa -> b ∉ own (compEnvC scope cs C env) := fun b hb h1 h2 ho => by
  simp only [own, compEnvC, kah, kat] at ho
  rcases ho with h | ⟨⟨y, c'⟩, hm, rfl⟩
  ·exact h1 h
  ·rcases hcs y c' hm with h | ⟨o, e⟩
   ·exact h2 h
   ·rw [hb] at e; cases e
 have hown : ∀ b ∈ wr, b ∉ own (compEnvC scope cs C env) := fun b hb => hno b (hwr b hb).2.2 (fun e => hCw (e ▸ hb)) fun e => hWw (e ▸ hb)
 have hWo : J2 Wa = none /\ (∃ o, sB.heap.get? Wa = some o) /\ T.hb.get? Wa = none := by
  rcases hWa with ⟨_, e⟩ | ⟨_, e⟩
  ·obtain ⟨m, ⟨o, es, ep, ho, _⟩, _⟩ := frc.ns
   subst e
   exact ⟨frc.lfree, ⟨o, ho⟩, frc.lbase⟩
  ·obtain ⟨a, o, ob, b, _⟩ := frc.cfree x Wa e
   exact ⟨a, ⟨ob, b⟩, frc.cbase x Wa e⟩
 have hd := zlu (D := D) (px := px) (Z := Z) eoc hx (by rcases hWa with ⟨e, _⟩ | ⟨e, _⟩ <;> rw [e] <;> rfl) hWa ite (fun b hb => ⟨(hwr b hb).2.1, nf b (hwr b hb).2.2⟩) hown
 have loop : codeAny T.M A (.compLoop (.ListComp elt [⟨.Name x px, iter, ifs, 0⟩] scope pos) 0 (.ref I) (.ref D) (compEnvC scope cs C env)) R sB := by
  refine zg7 hif hel eoc ro hd (fun a i w hw' => ?_) (fun b hb => ?_) (fun b hb => ?_) ?_ (nf D hDs) hDs hDb hDsys (hno D hDs hDC hDW) st1 p1 frc w1 (fun b hb => ?_) hDJ hDo hlim (by rw [<- zox]; exact hw) fin
  ·obtain ⟨hne, hg⟩ := wM _ _ _ _ hw'
   exact zbu Z j i a w hne hg
  ·rcases kah.mp hb with rfl | h
   ·exact ⟨hWs, nf _ hWs⟩
   ·exact ⟨(hwr b h).2.2, nf b (hwr b h).2.2⟩
  ·rcases kah.mp hb with rfl | h
   ·exact hWo.2.1
   ·exact ite.alive 0 _ w1 b h
  ·exact fun h => by
    rcases kah.mp h with h | h
    ·exact hDW h
    ·exact hDw h
  ·rcases kah.mp hb with rfl | h
   ·exact hWo.1
   ·exact (hwr b h).1
 exact codeAny_compStart_list loop (ite.self 0 _ _ _ w1 loop)
theorem zg5 {A env Z J s J2 sM x px iter ifs scope pos elt j xs chk I wr W c} {we : EW} {Q : V -> zb -> Prop} {RR : Addr -> Addr -> Result -> Shared -> Prop} {E : Value -> Shared -> Prop}
  (co : yT sc ctx scope j x) (hif : zcJ T d (zbE scope sc) ctx ifs c) (hel : zC T d (zbE scope sc) ctx elt we) (eo : jg sc env) (ro : zaR T A d) (fr : qB T env ctx Z J s.heap)
  (ite : zk6 T A I wr xs chk W) (w0 : W 0 sM.heap) (st2 : St T J2 sM) (p2 : zR T [] J s J2 sM) (hwr : ∀ b ∈ wr, J2 b = none /\ T.hb.get? b = none /\ s.heap.get? b = none) (nf : ∀ b, s.heap.get? b = none -> b ∉ frs T) (hlim : xs.length <= lim) (hw : zbx chk j c we Z xs [] J2 Q)
  {cl : List (Str × Addr)} (h1 : ∀ x c, (x, c) ∈ cl -> env.cells.lookup x = some c) (h2 : ∀ y ∈ scope.names, y.2 = .free -> ∃ c, cl.lookup y.1 = some c)
  (hRR : ∀ D C J' s' m, s.heap.get? C = none -> J' C = none -> T.hb.get? C = none -> s'.heap.Ns C m -> St T J' s' -> zR T [] J s J' s' -> Q (.ref D) J' -> RR D C (.ok .next) s') :
  wpAny T.M A (newList []) (fun acc s3 => wpAny T.M A (newFunctionEnv scope env.globals cl [] env.qual none .none (some env)) (fun cenv s4 => ∃ D, acc = .ref D /\
   codeAny T.M A (.compStart (.ListComp elt [⟨.Name x px, iter, ifs, 0⟩] scope pos) 0 (.ref I) acc { cenv with scope := relabel scope env }) (RR D cenv.locals) s4) E s3) E sM := by
 have fr2 := fr.step p2
 refine wpAny_newObj_type ?_
 generalize hD : sM.heap.objs.size = D
 generalize hH2 : sM.heap.push { cls := .type "list", dict := none, data := .seq ([] : List Value).toArray } = H2
 have hC : H2.objs.size = D + 1 := by rw [<- hH2, kcf, hD]
 have hHD : IsL H2 D #[] 0 := by rw [<- hH2, <- hD]; exact ka7 _ rfl
 have e2 : ∀ b o, sM.heap.get? b = some o -> H2.get? b = some o := fun b o e => hH2 ▸ kax _ e
 have n2 : ∀ b, D <= b -> sM.heap.get? b = none := fun b hb => kbF (by rw [hD]; exact hb)
 have n0 : ∀ b, D <= b -> s.heap.get? b = none := fun b hb => by
  cases e : s.heap.get? b with
  | none => rfl
  | some o => obtain ⟨o', h'⟩ := p2.live b o e; rw [n2 b hb] at h'; cases h'
 have nb : ∀ b, D <= b -> T.hb.get? b = none := fun b hb => by
  cases e : T.hb.get? b with
  | none => rfl
  | some o => have := st2.base b o e; rw [n2 b hb] at this; cases this
 have nJ : ∀ b, D <= b -> J2 b = none := fun b hb => st2.noneFree (n2 b hb)
 have nw : ∀ b, D <= b -> b ∉ wr := fun b h hb => by obtain ⟨o, e⟩ := ite.alive 0 _ w0 b hb; rw [n2 b h] at e; cases e
 have hDsys : (D == sysModules) = false := by rw [<- hD]; exact st2.big
 have hcl : ∀ y c', (y, c') ∈ cl -> ∃ o, s.heap.get? c' = some o := fun y c' hm => by
  obtain ⟨o, ob, e, _⟩ := (fr.cfree y c' (h1 y c' hm)).2
  exact ⟨ob, e⟩
 have fin : ∀ C, D < C -> ∀ J' s' m, St T J' s' -> zR T [] J s J' s' -> s'.heap.Ns C m -> J' C = none -> Q (.ref D) J' -> RR D C (.ok .next) s' := fun C h J' s' m a b c' e f => hRR D C J' s' m (n0 C (by exact kaX ‹_›)) e (nb C (by exact kaX ‹_›)) c' a b f
 rcases co with co | co
 ·refine wpAny_newFunctionEnv co.nocell (by intro y hy; simp at hy) (fun h₁ hns1 hsb1 => ?_) co.kind
  dsimp only at hns1 hsb1 ⊢
  refine ⟨_, rfl, ?_⟩
  generalize hCe : H2.objs.size = C at hns1 hsb1 hC ⊢
  have up : ∀ b o, H2.get? b = some o -> h₁.get? b = some o := fun b o e => hsb1.extBut b o (kbH (hCe ▸ kbq e)) (kax _ e)
  have old : ∀ b o, sM.heap.get? b = some o -> h₁.get? b = some o := fun b o e => up b o (e2 b o e)
  have hDC : D ≠ C := by exact (fun h_ => lif (@r2 (↑(C)) (↑(D))) [(2,-1,V0,.add V1 N1),(2,-1,V1,V0)] rfl (eqI hC) (eqI h_))
  obtain ⟨frc, eoc⟩ := zfE (Z' := za8 Z j) (C := C) (h' := h₁) eo fr2 co.toCompB (fun i y v hi hv => by
   obtain ⟨hne, hv'⟩ := wM _ _ _ _ hv
   exact ⟨hv', fun hq => hne (zfB fr.nd hi (by rw [co.onlyx y (kaj hi) hq]; exact co.tgt.1))⟩) h1 h2 (nJ C (by exact leN (lin r2 V0 V1 [(2,-1,V1,.add V0 N1)] rfl (eqI hC)))) (nb C (by exact leN (lin r2 V0 V1 [(2,-1,V1,.add V0 N1)] rfl (eqI hC)))) old (n2 C (by exact leN (lin r2 V0 V1 [(2,-1,V1,.add V0 N1)] rfl (eqI hC)))) (by simpa using hns1)
  exact zjg (Wa := C) hif hel ro frc eoc co.tgt.1 (.inl ⟨by rw [wK, co.tgt.2]; rfl, rfl⟩) ite (ite.frame _ _ _ w0 fun b _ o e => old b o e) (st2.grow old _) (p2.grow old _) hwr nf hlim hw (n0 C (by exact leN (lin r2 V0 V1 [(2,-1,V1,.add V0 N1)] rfl (eqI hC)))) (fun y c' hm => .inr (hcl y c' hm)) (n0 C (by exact leN (lin r2 V0 V1 [(2,-1,V1,.add V0 N1)] rfl (eqI hC)))) (nw C (by exact leN (lin r2 V0 V1 [(2,-1,V1,.add V0 N1)] rfl (eqI hC)))) (nw C (by exact leN (lin r2 V0 V1 [(2,-1,V1,.add V0 N1)] rfl (eqI hC)))) (n0 D (kao _)) hDC hDC (nw D (kao _)) (nJ D (kao _)) (nb D (kao _)) hDsys (up _ _ hHD) (fin C (by exact ltN (lit r2 V0 V1 [(2,-1,V1,.add V0 N1)] rfl (eqI hC))))
 ·simp only [newFunctionEnv, Option.isSome_some, if_true]
  refine kar (wpAny_alloc (kar (wpAny_layCells _ (fun name kind cells => by cases hkc : kind == NameKind.cell <;> simp [hkc]) _ _ _ _ ?_)))
  have hsz : (H2.push { cls := .type "dict", data := .dict #[] }).objs.size = D + 2 := by rw [kcf, hC]
  have ok := cellsFrom_ok scope.names (H2.push { cls := .type "dict", data := .dict #[] }) 0 [] ⟨fun _ _ hm => (nomatch hm), kd4.nil⟩ (kbl _)
  rw [hsz, co.one] at ok
  have hup : ∀ b o, (H2.push { cls := .type "dict", data := .dict #[] }).get? b = some o -> (pushCells (H2.push { cls := .type "dict", data := .dict #[] }) scope.names).get? b = some o := pushCells_keeps _ _
  dsimp only
  rw [hsz, co.one, hC]
  have hns := (Heap.Ns.new H2 (.type "dict")).keeps hup
  rw [hC] at hns
  generalize pushCells (H2.push { cls := .type "dict", data := .dict #[] }) scope.names = h₁ at hup hns ok ⊢
  refine kar ?_
  rw [kdc]
  refine kaP (kaP ⟨D, rfl, ?_⟩)
  have up : ∀ b o, H2.get? b = some o -> h₁.get? b = some o := fun b o e => hup b o (kax _ e)
  have old : ∀ b o, sM.heap.get? b = some o -> h₁.get? b = some o := fun b o e => up b o (e2 b o e)
  have a1 : D <= D + 1 := by exact kce _
  have a2 : D <= D + 2 := by exact leN (lin r1 V0 (.add V0 (.num 2)) [] rfl)
  have b1 : D ≠ D + 1 := by exact (fun h_ => lif r1 [(2,-1,V0,.add V0 N1)] rfl (eqI h_))
  have b2 : D ≠ D + 2 := by exact (fun h_ => lif r1 [(2,-1,V0,.add V0 (.num 2))] rfl (eqI h_))
  have b3 : D + 2 ≠ D + 1 := by exact (fun h_ => lif (@r1 (↑(D))) [(2,1,.add V0 (.num 2),.add V0 N1)] rfl (eqI h_))
  obtain ⟨frc, eoc⟩ := ziJ (C := D + 1) (K := D + 2) (h' := h₁) eo fr2 co h1 h2 (nJ _ a1) (nb _ a1) (nJ _ a2) (nb _ a2) b3 old (n2 _ a1) (n2 _ a2) hns (ok.empty x (D + 2) (by simp)).1
  exact zjg (sB := { sM with heap := h₁ }) (Wa := D + 2) hif hel ro frc eoc co.tgt.1 (.inr ⟨by rw [wK, co.tgt.2]; rfl, by simp [kbU]⟩) ite (ite.frame _ _ _ w0 fun b _ o e => old b o e) (st2.grow old sM.toks) (p2.grow old sM.toks) hwr nf hlim hw (n0 _ a2) (fun y c' hm => by
    rcases kah.mp hm with h | h
    ·cases h; exact .inl rfl
    ·exact .inr (hcl y c' h)) (n0 _ a1) (nw _ a1) (nw _ a2) (n0 D (kao _)) b1 b2 (nw D (kao _)) (nJ D (kao _)) (nb D (kao _)) hDsys (up _ _ hHD) (fin _ (kbm _))

theorem zc5 {env Z J h scope j x} (eo : jg sc env) (fr : qB T env ctx Z J h) (co : yT sc ctx scope j x) :
  ∃ cl, closureFor scope env = pure cl /\ (∀ x c, (x, c) ∈ cl -> env.cells.lookup x = some c) /\ (∀ y ∈ scope.names, y.2 = .free -> ∃ c, cl.lookup y.1 = some c) := by
 refine zfF fun y hy hf => ?_
 obtain ⟨hl, hnl, i, hi⟩ := yT.free co y hy hf
 have hk0 : env.kindOf y.1 = some .cell \/ env.kindOf y.1 = some .free := by
  rw [eo.kindOf]
  cases hz : sc.names.lookup y.1 with
  | none => rw [hz] at hl; cases hl
  | some kk =>
   rw [hz] at hl hnl
   cases kk <;> first | (cases hl; done) | exact absurd rfl hnl | exact .inl rfl | exact .inr rfl
 obtain ⟨c, o, g1, _⟩ := fr.cell i y.1 hi hk0
 exact ⟨c, g1⟩

theorem yX {elt x px iter ifs scope pos j} {src : zh0} {c : Option EW} {we : EW} (co : yT sc ctx scope j x) (hs : zeH T d sc ctx iter src) (hif : zcJ T d (zbE scope sc) ctx ifs c) (hel : zC T d (zbE scope sc) ctx elt we) :
  zC T d sc ctx (.ListComp elt [⟨.Name x px, iter, ifs, 0⟩] scope pos) (ju j src c we) := by
 intro A env Z J s Q P eo ro st fr hw
 rw [eval_ListComp]
 obtain ⟨cl, hcl, h1, h2⟩ := zc5 eo fr co
 refine wpAny_comprehension_free (use := none) rfl (hs.1 env) hcl (yT.kind co) (yT.names co) ?_
 refine kaz (hs.2 A env Z J s _ P eo ro st fr hw) (fun xv sB h₁ => kaz h₁ (fun itv sM h₂ => ?_) fun _ _ e => e) fun _ _ e => e
 obtain ⟨xs, chk, J2, I, wr, W, rfl, ite, w0, st2, p2, hwr, hlim, hl⟩ := h₂
 refine kaz (zg5 (iter := iter) (px := px) (pos := pos) (RR := fun D C => compPost T.M A (jA T [] J s P) none (zhe T J s Q) (.ref D) C) (E := jA T [] J s P) co hif hel eo ro fr ite w0 st2 p2 hwr (fun b hb => st.notFr hb) hlim hl h1 h2 ?_)
  (fun acc s3 h₃ => kaz h₃ (fun cenv s4 h₄ => by obtain ⟨D, rfl, h⟩ := h₄; exact h) fun _ _ e => e) fun _ _ e => e
 intro D C J' s' m hC hCJ hCb hn st' p' hq
 refine ⟨m, hn, fun h' hs' => ⟨_, J', .ref D, ?_, ?_, hq⟩⟩
 ·exact st'.off (wr := [C]) (by simp; exact ⟨hCJ, hCb, st.notFr hC⟩) (fun b o hb e => hs'.extBut b o (by simpa using hb) e) s'.toks
 ·exact p'.off (wr := [C]) (by simpa using hC) (fun b o hb e => hs'.extBut b o (by simpa using hb) e) s'.toks

noncomputable def znD (sc scope : Scope) (t : Str) (tp vp : Pos) : Bool := sc.names.lookup t == some .local && tp.line == vp.line && !(scope.names.any fun (n, k) => n == t && (k == .local || k == .cell))
theorem qz {y py elt x px iter ifs scope pos spos j i} {src : zh0} {c : Option EW} {we : EW} (hy : ctx[i]? = some y) (hk : zck (sc.names.lookup y) = true) (co : yT sc ctx scope j x) (hs : zeH T d sc ctx iter src) (hif : zcJ T d (zbE scope sc) ctx ifs c) (hel : zC T d (zbE scope sc) ctx elt we) :
  zbA T d sc ctx (.Assign [.Name y py] (.ListComp elt [⟨.Name x px, iter, ifs, 0⟩] scope pos) spos) (zW i (ju j src c we)) := by
 intro A env Z J s K P eo ro st fr hw
 have hsw : swapsWith (.ListComp elt [⟨.Name x px, iter, ifs, 0⟩] scope pos) (some (.Name y py)) spos.line env = pure (znD sc scope y py pos) := by
  show pure (env.blockKind == .function && env.kindOf y == some .local && py.line == pos.line && !(scope.names.any fun (n, k) => n == y && (k == .local || k == .cell))) = _
  have hb : env.blockKind = .function := by unfold Env.blockKind; rw [eo.scope, eo.kind]; rfl
  rw [hb, eo.kindOf]
  unfold znD
  simp
 cases hb : znD sc scope y py pos with
 | false =>
  rw [hb] at hsw
  refine kaz (wpAny_Assign_Name (Q := zaD T env ctx J s K) ((yX (pos := pos) (px := px) co hs hif hel).run eo ro st fr hw fun v u J1 sB hv st1 p1 fr1 hw1 => ?_) hsw) (fun _ _ x => x) fun _ _ x => x.any
  refine zga eo st1 fr1 hy hk hv fun sM b hb _ st2 fr2 p2 => ⟨_, _, J1, .next, st2, fr2, p1.any.trans (zhH p2 hb), hw1⟩
 | true =>
  rw [hb] at hsw
  rw [exec_Assign_Name_used _ _ _ _ hsw]
  refine kar (wpAny_standAt ?_)
  obtain ⟨cl, hcl, h1, h2⟩ := zc5 eo fr co
  have key : wpAny T.M A (comprehension (.ListComp elt [⟨.Name x px, iter, ifs, 0⟩] scope pos) scope env (firstIterPos [⟨.Name x px, iter, ifs, 0⟩] pos) (newList []) false (eval iter env) (some (assign (.Name y py) env)))
    (fun _ s' => zaD T env ctx J s K .next s') (jA T [] J s P) s := by
   refine wpAny_comprehension_free (E := jA T [] J s P) (Q := fun _ s' => zaD T env ctx J s K .next s') rfl (hs.1 env) hcl (yT.kind co) (yT.names co) ?_
   refine kaz (hs.2 A env Z J s _ P eo ro st fr hw) (fun xv sB h₁ => kaz h₁ (fun itv sM h₂ => ?_) fun _ _ e => e) fun _ _ e => e
   obtain ⟨xs, chk, J2, I, wr, W, rfl, ite, w0, st2, p2, hwr, hlim, hl⟩ := h₂
   refine kaz (zg5 (iter := iter) (px := px) (pos := pos) (RR := fun D C => compPost T.M A (jA T [] J s P) (some (assign (.Name y py) env)) (fun _ s' => zaD T env ctx J s K .next s') (.ref D) C) (E := jA T [] J s P) co hif hel eo ro fr ite w0 st2 p2 hwr (fun b hb => st.notFr hb) hlim hl h1 h2 ?_)
    (fun acc s3 h₃ => kaz h₃ (fun cenv s4 h₄ => by obtain ⟨D, rfl, h⟩ := h₄; exact h) fun _ _ e => e) fun _ _ e => e
   intro D C J' s' m hC hCJ hCb hn st' p' hq
   have fr' := fr.step p'
   have hCown : C ∉ own env := fun ho => by obtain ⟨o, e⟩ := zi2 fr C ho; rw [hC] at e; cases e
   refine wpAny_assign_Name (zga eo st' fr' hy hk (.ref D) fun s5 b hb' _ st5 fr5 p5 => ?_)
   have hn5 : ∃ m, s5.heap.Ns C m := by
    obtain ⟨o, es, ep, ho, r⟩ := hn
    exact ⟨m, o, es, ep, p5.keepX (.inl hCJ) (by simp; rintro rfl; exact hCown hb') (st.notFr hC) ho, r⟩
   obtain ⟨m5, hn5⟩ := hn5
   refine ⟨m5, hn5, fun h' hs' => ?_⟩
   have hoff : ∀ b o, b ∉ [C] -> s5.heap.get? b = some o -> h'.get? b = some o := fun b o hb e => hs'.extBut b o (by simpa using hb) e
   refine ⟨_, yz Z i (.ref D), J', .next, st5.off (wr := [C]) (by simp; exact ⟨hCJ, hCb, st.notFr hC⟩) hoff s5.toks, fr5.off (wr := [C]) (by simpa using hCown) hoff, ?_, hq⟩
   exact (p'.any.trans (zhH p5 hb')).off (wr := [C]) (by simpa using hC) hoff s5.toks
  refine kar ?_
  show wpAny T.M A (comprehension (.ListComp elt [⟨.Name x px, iter, ifs, 0⟩] scope pos) scope env (firstIterPos [⟨.Name x px, iter, ifs, 0⟩] pos) (newList []) (firstAsync [⟨.Name x px, iter, ifs, 0⟩]) (firstIter [⟨.Name x px, iter, ifs, 0⟩] env) (some (assign (.Name y py) env)) >>= fun _ => pure ()) _ _ s
  exact kar (kaz key (fun _ s' h' => kaP (kaP h')) fun _ _ x => x.any)
end
end Mine
end
section
open PySem
namespace Mine
open PySem.Calls PyProof.Rows
theorem St.funFrames {T J s} (st : St T J s) : s.heap.FunFrames T.hb T.fr := by
 have key : ∀ l : List Env, (∀ env ∈ l, zlX T.hb J s.heap env) -> s.heap.FunFrames T.hb l := by
  intro l
  induction l with
  | nil => intro _; trivial
  | cons env r ih =>
   intro h
   obtain ⟨hk, L, e, h1, _, o, es, ep, h2, h3⟩ := h env (kaq ..)
   exact ⟨hk, ⟨L, o, e, h1, h2, fun vs q => by rw [h3] at q; cases q⟩, ih fun x hx => h x (kal _ hx)⟩
 exact key T.fr st.frames
inductive NTb (a : Addr) (c : Value) (h h' : Heap) : Prop | mk (t oT ts oe vs) (n1 : h.get? t = none) (n2 : h'.get? a = some oe) (n3 : oe.cls = c) (n4 : oe.data = .fields vs) (n5 : vs[1]? = some (.ref t)) (n6 : t ≠ a) (n7 : h'.get? t = some oT) (n8 : oT.data = .fields ts) (n9 : ts[3]? = some .none) : NTb a c h h'
inductive Tb1 (a : Addr) (vs : Array Value) (h : Heap) : Prop | mk (tb oT ts) (k1 : vs[1]? = some (.ref tb)) (k2 : tb ≠ a) (k3 : h.get? tb = some oT) (k4 : oT.data = .fields ts) (k5 : ts[3]? = some .none) : Tb1 a vs h
structure znH (a : Addr) (c : Value) (h h' : Heap) : Prop where
 tb : NTb a c h h'
structure zgH (T : TC) (a : Addr) (tb : Option Addr) (h h' : Heap) : Prop where
 old : ∀ b o, h.get? b = some o -> b ∉ frs T -> b ≠ a -> tb ≠ some b -> h'.get? b = some o
 fr : ∀ b o, h.get? b = some o -> b ∈ frs T -> ∃ sl, h'.get? b = some { o with slots := sl }
section
variable {T : TC} {A : Around} {E : Value -> Shared -> Prop} {s : Shared}
theorem znm {env : Env} {outer : List Env} {L a : Addr} {oe : Obj} {vs : Array Value} {head : Value} {hadNext : Bool} {Q : Unit -> Shared -> Prop}
  (hT : T.fr = env :: outer) (hfr : A.frames = some T.fr) (hl : s.heap.FunFrames T.hb T.fr) (hf : env.frame = some L) (he : s.heap.get? a = some oe) (hd : oe.data = .fields vs) (hsz : 1 < vs.size) (ha : a ∉ frs T)
  (h : ∀ h', zgH T a none s.heap h' -> znH a oe.cls s.heap h' -> Q () { s with heap := h' }) :
  wpAny T.M A (do let x <- frameOf env; let pl <- entryPlaceOf L hadNext; let b <- EntryCells.newEntry head x .none (rawInt L) .none pl; setField (.ref a) 1 b) (fun _ s' => wpAny T.M A (setFlight (.ref a) none) Q E s') E s := by
 rw [hT] at hfr hl
 refine kar (wpAny_frameOf_fun hfr hl hf fun h₁ hsB => ?_)
 have hfe : (env :: outer).filterMap (·.frame) = frs T := by unfold frs; rw [hT]
 rw [hfe] at hsB
 refine kar (wpAny_entryPlaceOf fun pl hpl => ?_)
 unfold EntryCells.newEntry newFields
 refine kar (wpAny_newObj_type ?_ (hpl.sizeOk5 _ _ _ _ _))
 generalize hob : ({ cls := .type "traceback", dict := none, data := .fields ([head, .ref L, .none, rawInt L, .none] ++ (if pl.isEmpty then kaD 6 Value.none else pl)).toArray } : Obj) = ob
 have hobd : ob.data = .fields ([head, .ref L, .none, rawInt L, .none] ++ (if pl.isEmpty then kaD 6 Value.none else pl)).toArray := by rw [<- hob]
 have heB : h₁.get? a = some oe := (hsB.2.1 a ha).trans he
 have heC := kax ob heB
 refine wpAny_setField heC hd hsz ?_
 have hta : h₁.objs.size ≠ a := kcg (kbq heB)
 have hd3 := Obj.data_mapFields hd (·.setIfInBounds 1 (Value.ref h₁.objs.size))
 have heD := kcJ (Obj.mapFields (·.setIfInBounds 1 (Value.ref h₁.objs.size))) heC (Obj.isFreed_of_fields hd3)
 have htD := (kbs (h₁.push ob) (Obj.mapFields (·.setIfInBounds 1 (Value.ref h₁.objs.size))) (Ne.symm hta)).trans (ka7 h₁ (Obj.isFreed_of_fields hobd))
 unfold setFlight
 refine kar (wpAny_field heD hd3 (x := .ref h₁.objs.size) (by simp [hsz]) ?_)
 rw [if_pos (show (Value.ref h₁.objs.size != Value.none) = true from by simp)]
 have hlen : 3 < ([head, .ref L, .none, rawInt L, .none] ++ (if pl.isEmpty then kaD 6 Value.none else pl)).toArray.size := by
  simp only [List.size_toArray, kam, kag, kaB]; exact ltN (lit r1 (.num 3) (.add (.add (.add (.add (.add (.add N0 N1) N1) N1) N1) N1) V0) [(0,1,N0,V0)] rfl (nnI _))
 refine wpAny_setField htD hobd hlen (h _ ⟨fun b o hb hbf hba _ => ?_, fun b o hb hbf => ?_⟩ ⟨h₁.objs.size, _, _, _, _, ?_, ?_, Obj.cls_mapFields _ _, hd3, by simp [hsz], hta, kcJ _ htD (Obj.isFreed_of_fields (Obj.data_mapFields hobd _)), Obj.data_mapFields hobd _, ?_⟩)
 ·have h1 : h₁.get? b = some o := (hsB.2.1 b hbf).trans hb
  rw [kbs _ _ (kcg (kbq h1)), kbs _ _ (Ne.symm hba)]
  exact kax _ h1
 ·obtain ⟨sl, h1⟩ := hsB.2.2 b o hb
  refine ⟨sl, ?_⟩
  rw [kbs _ _ (kcg (kbq h1)), kbs _ _ (fun q : a = b => ha (by rw [q]; exact hbf))]
  exact kax _ h1
 ·exact kbF (by rw [hsB.1]; exact kao _)
 ·rw [kbs _ _ hta]; exact heD
 ·rw [Array.getElem?_setIfInBounds]; simp [hlen]
theorem zqh {J : zb} {env : Env} {outer : List Env} {L a : Addr} {oe : Obj} {vs : Array Value} {Q : Unit -> Shared -> Prop} (st : St T J s) (hT : T.fr = env :: outer) (hfr : A.frames = some T.fr) (hf : env.frame = some L) (he : s.heap.get? a = some oe) (hd : oe.data = .fields vs)
  (h1 : vs[1]? = some .none \/ Tb1 a vs s.heap)
  (hq : ∀ h' tb, (∀ t, tb = some t -> vs[1]? = some (.ref t)) -> zgH T a tb s.heap h' -> znH a oe.cls s.heap h' -> Q () { s with heap := h' }) : wpAny T.M A (noteFrame (.ref a) env) (fun _ sM => wpAny T.M A (setFlight (.ref a) none) Q E sM) E s := by
 have nof : ∀ {b : Addr} {o : Obj} {xs : Array Value}, s.heap.get? b = some o -> o.data = .fields xs -> b ∉ frs T := fun e d hF => by
  obtain ⟨o', es, ep, e', d'⟩ := (st.fr hF).2.2
  rw [zfS e e', d'] at d; cases d
 have ha := nof he hd
 unfold noteFrame
 simp only [hf]
 rcases h1 with h1 | ⟨tb, oT, ts, h1, hta, ht, hdt, h3⟩
 ·refine kar (wpAny_field he hd h1 ?_)
  rw [if_neg (by decide)]
  exact znm hT hfr st.funFrames hf he hd (kcr.mp h1).1 ha fun h' t n => hq h' none (fun _ e => by cases e) t n
 ·refine kar (wpAny_field he hd h1 ?_)
  rw [if_pos (show (Value.ref tb != Value.none) = true from by simp)]
  refine kar (wpAny_field ht hdt h3 ?_)
  rw [if_neg (show ¬ ((Value.none == rawInt L) = true) from by simp [rawInt])]
  refine kar (wpAny_setField ht hdt (kcr.mp h3).1 ?_)
  have htf := nof ht hdt
  have other : ∀ b, b ≠ tb -> (s.heap.update tb (Obj.mapFields (·.setIfInBounds 3 Value.none))).get? b = s.heap.get? b := fun b hb => kbs _ _ (Ne.symm hb)
  have dead : ∀ b, (s.heap.update tb (Obj.mapFields (·.setIfInBounds 3 Value.none))).get? b = none -> s.heap.get? b = none := fun b e => by
   by_cases q : b = tb
   ·rw [q, kcJ _ ht (Obj.isFreed_of_fields (Obj.data_mapFields hdt _))] at e; cases e
   ·rw [other b q] at e; exact e
  refine znm hT hfr (st.funFrames.of_keeps fun b o hb hnf => ⟨o, (other b fun q => by subst q; rw [ht] at hb; cases hb; exact hnf _ hdt).trans hb, rfl⟩) hf ((other a (Ne.symm hta)).trans he) hd (kcr.mp h1).1 ha fun h' t n => hq h' (some tb) (fun _ e => by cases e; exact h1) ⟨fun b o hb hbf hba hbt => ?_, fun b o hb hbf => ?_⟩ ?_
  ·exact t.old b o ((other b fun q => hbt (by rw [q])).trans hb) hbf hba (by simp)
  ·exact t.fr b o ((other b fun q => htf (q ▸ hbf)).trans hb) hbf
  ·obtain ⟨t', oT', ts', oe', vs', k1, k2, k3, k4, k5, k6, k7, k8, k9⟩ := n.tb
   exact ⟨t', oT', ts', oe', vs', dead _ k1, k2, k3, k4, k5, k6, k7, k8, k9⟩
theorem zpA {J : zb} {env : Env} {outer : List Env} {L a : Addr} {oe : Obj} {vs : Array Value} {Q : Unit -> Shared -> Prop} (st : St T J s) (hT : T.fr = env :: outer) (hfr : A.frames = some T.fr) (hf : env.frame = some L) (he : s.heap.get? a = some oe) (hd : oe.data = .fields vs)
  (h1 : vs[1]? = some .none \/ Tb1 a vs s.heap)
  (hq : ∀ h' tb, (∀ t, tb = some t -> vs[1]? = some (.ref t)) -> zgH T a tb s.heap h' -> znH a oe.cls s.heap h' -> Q () { s with heap := h' }) : wpAny T.M A (leaving env (.ref a)) Q E s := by
 unfold leaving
 exact kar (zqh st hT hfr hf he hd h1 hq)
end
end Mine
end
section
open PySem
namespace Mine
open PySem.Calls PyProof.Rows

theorem zfK (kindOf : Str -> Option NameKind) : ∀ (names : List Str) (us : List Value) (m : Str -> Option Value) (x : Str), x ∉ names -> bindL kindOf (names.zip us) m x = m x
 | [], _, m, x, _ => by simp [bindL]
 | n :: r, [], m, x, _ => by simp [bindL]
 | n :: r, u :: us, m, x, h => by
  have hn : x ≠ n := fun e => h (by simp [e])
  show bindL kindOf (r.zip us) _ x = _
  rw [zfK kindOf r us _ x (fun hm => h (by simp [hm]))]
  split
  ·simp [hn]
  ·rfl
theorem zg8 (kindOf : Str -> Option NameKind) : ∀ (names : List Str) (us : List Value) (m : Str -> Option Value) (i : Nat) (x : Str) (u : Value), names.Nodup -> names[i]? = some x -> us[i]? = some u -> kindOf x = some .local -> bindL kindOf (names.zip us) m x = some u
 | [], _, _, _, _, _, _, h, _, _ => by simp at h
 | n :: r, [], _, _, _, _, _, _, h, _ => by simp at h
 | n :: r, v :: us, m, 0, x, u, nd, h1, h2, hk => by
  simp at h1 h2; subst h1 h2
  show bindL kindOf (r.zip us) _ n = _
  rw [zfK kindOf r us _ n (kaQ.mp nd).1]
  simp [hk]
 | n :: r, v :: us, m, i + 1, x, u, nd, h1, h2, hk => by
  show bindL kindOf (r.zip us) _ x = _
  exact zg8 kindOf r us _ i x u (kaQ.mp nd).2 (by simpa using h1) (by simpa using h2) hk
theorem zfL (kindOf : Str -> Option NameKind) : ∀ (names : List Str) (us : List Value) (m : Str -> Option Value) (x : Str), x ∉ names -> bindC kindOf (names.zip us) m x = m x
 | [], _, m, x, _ => by simp [bindC]
 | n :: r, [], m, x, _ => by simp [bindC]
 | n :: r, u :: us, m, x, h => by
  have hn : x ≠ n := fun e => h (by simp [e])
  show bindC kindOf (r.zip us) _ x = _
  rw [zfL kindOf r us _ x (fun hm => h (by simp [hm]))]
  split
  ·rfl
  ·simp [hn]
theorem zg9 (kindOf : Str -> Option NameKind) : ∀ (names : List Str) (us : List Value) (m : Str -> Option Value) (i : Nat) (x : Str) (u : Value), names.Nodup -> names[i]? = some x -> us[i]? = some u -> kindOf x ≠ some .local -> bindC kindOf (names.zip us) m x = some u
 | [], _, _, _, _, _, _, h, _, _ => by simp at h
 | n :: r, [], _, _, _, _, _, _, h, _ => by simp at h
 | n :: r, v :: us, m, 0, x, u, nd, h1, h2, hk => by
  simp at h1 h2; subst h1 h2
  show bindC kindOf (r.zip us) _ n = _
  rw [zfL kindOf r us _ n (kaQ.mp nd).1]
  simp [hk]
 | n :: r, v :: us, m, i + 1, x, u, nd, h1, h2, hk => by
  show bindC kindOf (r.zip us) _ x = _
  exact zg9 kindOf r us _ i x u (kaQ.mp nd).2 (by simpa using h1) (by simpa using h2) hk

theorem zgv {x : Str} : ∀ (names : List (Str × NameKind)) (n : Nat) (acc : List (Str × Addr)), ((x, NameKind.cell) ∈ names \/ x ∈ acc.map (·.1)) -> x ∈ (cellsFrom n names acc).map (·.1) := by
 intro r_
 induction r_ with
 | nil =>
  intro _ _ h
  rcases h with h | h
  ·cases h
  ·exact h
 | cons y r ih_ =>
  intro n acc h
  obtain ⟨y, k⟩ := y
  simp only [cellsFrom]
  split
  ·refine ih_ _ _ ?_
   rcases h with h | h
   ·rcases kah.mp h with e | h
    ·cases e; exact .inr (by simp)
    ·exact .inl h
   ·exact .inr (by simp [h])
  ·rename_i hk
   refine ih_ _ _ ?_
   rcases h with h | h
   ·rcases kah.mp h with e | h
    ·cases e; exact absurd rfl hk
    ·exact .inl h
   ·exact .inr h
theorem zec {x : Str} : ∀ {l : List (Str × Addr)}, x ∈ l.map (·.1) -> (l.lookup x).isSome = true
 | [], h => by cases h
 | (y, c) :: r, h => by
  rw [kbU]
  cases hy : x == y with
  | true => rfl
  | false =>
   have hne : x ≠ y := by simpa using hy
   exact zec (by simpa [hne] using h)
theorem zfG {x : Str} (names : List (Str × NameKind)) (n : Nat) (h : names.lookup x = some .cell) : ((cellsFrom n names []).lookup x).isSome = true := zec (zgv names n [] (.inl (mem_of_lookup h)))

noncomputable abbrev TC.at (T : TC) (fr : List Env) : TC := { T with fr := fr }
inductive zA (T : TC) (d : Nat) (f : Str) (vs : List V) (J : zb) (Q : V -> zb -> Prop) (P : Nat -> zb -> Prop) : Prop
 | mk (fa : Addr) (o : Obj) (fd) (h1 : T.mg f = some (.ref fa)) (h2 : T.hb.get? fa = some o) (h3 : o.data = .func fd)
  (h4 : ∀ fr A s us, zaR (T.at fr) A d -> St (T.at fr) J s -> yn vs us -> wpAny T.M A (call (.ref fa) us) (zhe (T.at fr) J s Q) (jA (T.at fr) [] J s P) s) : zA T d f vs J Q P
noncomputable def zD (T : TC) (d : Nat) (f : Str) (ws : EWs) : EW := fun Z J Q P => ws Z J (fun vs J1 => zA T d f vs J1 Q P) P

structure jK (T : TC) (f : Str) (params : Arguments) (body : List Stmt) (scope : Scope) : Prop where
 here : ∃ a o fd, T.mg f = some (.ref a) /\ T.hb.get? a = some o /\ o.data = .func fd /\ fd.params = params /\ fd.body = .stmts body /\ fd.scope = scope /\ fd.closure = [] /\ fd.globals = ka8 /\ fd.builtins = builtinsNs /\
  fd.defaults = .none /\ fd.kwdefaults = .none /\ T.hb.CodeRec fd.code fd.qualname

structure zqN (params : Arguments) (scope : Scope) (ctx : List Str) (n : Nat) : Prop where
 kind : scope.kind = .function
 co : scope.isCoroutine = false
 gen : scope.isGenerator = false
 nofree : ∀ y ∈ scope.names, y.2 ≠ .free
 nd : ctx.Nodup
 hnd : ((cellsFrom 0 scope.names []).map (·.1)).Nodup
 par : params.args.map (·.arg) = ctx.take n
 kinds : ∀ x ∈ ctx.take n, zck (scope.names.lookup x) = true

noncomputable def zcU (vs : List V) (k : Nat) : zM := vs.map some ++ kaD k none
theorem zdY : ∀ (vs : List V) (k i : Nat) (v : V), jC (zcU vs k) i = some v -> vs[i]? = some v
 | [], k, i, v, h => by
  exfalso
  induction k generalizing i with
  | zero => simp [zcU, jC] at h
  | succ k ih => cases i with
   | zero => simp [zcU, jC, kbL] at h
   | succ i => exact ih i (by simpa [zcU, jC, kbL] using h)
 | u :: r, k, 0, v, h => by simpa [zcU, jC] using h
 | u :: r, k, i + 1, v, h => by simpa using zdY r k i v (by simpa [zcU, jC] using h)

section
variable {T : TC} {d : Nat} {sc : Scope} {ctx : List Str}
theorem zaR.deeper {A : Around} {fr : List Env} (ro : zaR (T.at fr) A (d + 1)) (env : Env) : zaR (T.at (env :: fr)) (A.deeper env) d := by
 refine ⟨ro.handled, Around.frames_deeper ro.frames, ?_, ?_⟩
 ·show A.depth + 1 + d < recursionLimit
  have := ro.depth; exact ltN (lit (@r3 (↑(A.depth)) (↑(d)) (↑(recursionLimit))) (.add (.add V0 N1) V1) V2 [(1,1,.add V0 (.add V1 N1),V2)] rfl (ltI this))
 ·show A.units + 3 + 4 * d + 100 < cLine
  have := ro.units; omega
theorem zpB {fr : List Env} {env : Env} {L b : Addr} (hf : env.frame = some L) (h : b ∈ frs (T.at (env :: fr))) : b = L \/ b ∈ frs (T.at fr) := by
 unfold frs at h
 rw [kcN, hf] at h
 exact kah.mp h
theorem zR.frame {fr env L X J s sB J' s'} (hf : env.frame = some L) (hL : s.heap.get? L = none) (p : zR (T.at (env :: fr)) X J sB J' s') (hk : ∀ b o, s.heap.get? b = some o -> sB.heap.get? b = some o) (hX : ∀ b ∈ X, s.heap.get? b = none) : zR (T.at fr) [] J s J' s' := by
 refine ⟨fun b o hfr _ e => ?_, fun b o e => p.live b o (hk b o e), p.mono, fun a ha ha' => ?_⟩
 ·obtain ⟨o', h1, h2⟩ := p.keep b o hfr (fun hb => by rw [hX b hb] at e; cases e) (hk b o e)
  refine ⟨o', h1, h2.imp id fun ⟨h3, h4⟩ => ⟨?_, h4⟩⟩
  rcases zpB hf h3 with rfl | h3
  ·rw [hL] at e; cases e
  ·exact h3
 ·have h := p.new a ha ha'
  cases e : s.heap.get? a with
  | none => rfl
  | some o => rw [hk a o e] at h; cases h
theorem St.up {fr env J s} (st : St (T.at (env :: fr)) J s) : St (T.at fr) J s := ⟨st.rest, st.base, st.objs, st.fresh, st.sysm, st.ro, fun e he => st.frames e (kal _ he)⟩
theorem zR.noted {fr : List Env} {X J s J' s' a tb h'} (p : zR (T.at fr) X J s J' s') (ha : s.heap.get? a = none) (ht : ∀ t, tb = some t -> s.heap.get? t = none) (t : zgH (T.at fr) a tb s'.heap h') : zR (T.at fr) X J s J' { s' with heap := h' } := by
 refine ⟨fun b o hf hx e => ?_, fun b o e => ?_, p.mono, p.new⟩
 ·obtain ⟨o1, h1, r⟩ := p.keep b o hf hx e
  have hba : b ≠ a := fun q => by rw [q, ha] at e; cases e
  have hbt : tb ≠ some b := fun q => by rw [ht b q] at e; cases e
  by_cases hF : b ∈ frs (T.at fr)
  ·obtain ⟨sl, h2⟩ := t.fr b o1 h1 hF
   refine ⟨_, h2, .inr ⟨hF, sl, ?_⟩⟩
   rcases r with rfl | ⟨_, sl', rfl⟩ <;> rfl
  ·exact ⟨o1, t.old b o1 h1 hF hba hbt, r⟩
 ·obtain ⟨o1, h1⟩ := p.live b o e
  have hba : b ≠ a := fun q => by rw [q, ha] at e; cases e
  have hbt : tb ≠ some b := fun q => by rw [ht b q] at e; cases e
  by_cases hF : b ∈ frs (T.at fr)
  ·obtain ⟨sl, h2⟩ := t.fr b o1 h1 hF; exact ⟨_, h2⟩
  ·exact ⟨o1, t.old b o1 h1 hF hba hbt⟩
theorem St.noted {fr : List Env} {J s a tb h'} (st : St (T.at fr) J s) (ha : T.hb.get? a = none /\ J a = none) (ht : ∀ t, tb = some t -> T.hb.get? t = none /\ J t = none) (t : zgH (T.at fr) a tb s.heap h') : St (T.at fr) J { s with heap := h' } := by
 obtain ⟨h, tk, e⟩ := st.rest
 refine ⟨⟨h', tk, by rw [e]⟩, fun b o hb => ?_, fun b so hb => ?_, st.fresh, st.sysm, st.ro, st.framesOf (fun _ _ h => h) fun L hL ⟨o, es, ep, e1, d⟩ => ?_⟩
 ·refine t.old b o (st.base b o hb) (fun hF => by rw [(st.fr hF).1] at hb; cases hb) (fun q => by rw [q, ha.1] at hb; cases hb) fun q => by rw [(ht b q).1] at hb; cases hb
 ·obtain ⟨o, h1, h2⟩ := st.objs b so hb
  exact ⟨o, t.old b o h1 (fun hF => by rw [(st.fr hF).2.1] at hb; cases hb) (fun q => by rw [q, ha.2] at hb; cases hb) (fun q => by rw [(ht b q).2] at hb; cases hb), h2⟩
 ·obtain ⟨sl, h2⟩ := t.fr L o e1 hL
  exact ⟨_, es, ep, h2, d⟩

def zqJ (T : TC) (d : Nat) (sc : Scope) (ctx : List Str) (ps : List Stmt) (w : SW) : Prop :=
 ∀ A env Z J s K P outer L, T.fr = env :: outer -> env.frame = some L -> jg sc env -> zaR T A d -> St T J s -> qB T env ctx Z J s.heap -> w Z J K P ->
  wpAny T.M A (execs ps env) (zaD T env ctx J s K) (jA T (own env) J s P) s
theorem jn.own {ps w} (h : jn T d sc ctx ps w) : zqJ T d sc ctx ps w := fun A env Z J s K P _ _ _ _ => h A env Z J s K P
theorem zoq (ok : T.Ok) {f params body scope n vs J} {w : SW} {Q : V -> zb -> Prop} {P : Nat -> zb -> Prop} (fa : jK T f params body scope) (fo : zqN params scope ctx n)
  (hb : ∀ fd us, fd.params = params -> fd.defaults = .none -> fd.kwdefaults = .none -> us.length = n -> bindArgs fd ⟨us, []⟩ = pure ((params.args.map (·.arg)).zip us))
  (hs : ∀ fr, zqJ (T.at fr) d scope ctx body w) (hn : vs.length = n) (hw : w (zcU vs (ctx.length - n)) J (fun o _ J' => Q (match o with | .ret v => v | .next => .none) J') P) : zA T (d + 1) f vs J Q P := by
 obtain ⟨a, o, fd, h1, h2, h3, h4, h5, h6, h7, h8, h9, h10, h11, h12⟩ := fa.here
 refine ⟨a, o, fd, h1, h2, h3, fun fr A s us ro st hv => ?_⟩
 subst h6
 have hus : us.length = n := by rw [hv.length, hn]
 have hbind := hb fd us h4 h10 h11 hus
 rw [fo.par] at hbind
 have hmemz : ∀ x ∈ (ctx.take n).zip us, x.1 ∈ ctx.take n := fun x hx => (List.of_mem_zip (a := x.1) (b := x.2) hx).1
 refine wpAny_call (codeAny_call_cells (by have := ro.depth; exact ltN (lit (@r3 (↑(A.depth)) (↑(recursionLimit)) (↑(d))) V0 V1 [(1,1,.add V0 (.add V2 N1),V1),(0,1,N0,V2)] rfl (ltI this) (nnI _))) (st.base a o h2) h3 (ok.nolimit.keeps st.base) (h12.keeps st.base) h5 hbind h7 (fun x hx => ?_) (fun sB ic => ?_) fo.co fo.gen fo.kind)
 ·have := fo.kinds x.1 (hmemz x hx)
  cases hq : fd.scope.names.lookup x.1 with
  | none => rw [hq] at this; cases this
  | some kd =>
   rw [hq] at this
   cases kd <;> first | (cases this; done) | exact .inl rfl | exact .inr ⟨rfl, zfG _ _ hq⟩
 ·obtain ⟨h', tk, rfl, hk⟩ := ic.done
  generalize hL : s.heap.objs.size = L at ic ⊢
  have hdead : ∀ b, L <= b -> s.heap.get? b = none := fun b hb => kbF (by rw [hL]; exact hb)
  have hdeadJ : ∀ b, L <= b -> J b = none := fun b hb => st.noneFree (hdead b hb)
  have hdeadb : ∀ b, L <= b -> T.hb.get? b = none := fun b hb => by
   cases e : T.hb.get? b with
   | none => rfl
   | some ob => have := st.base b ob e; rw [hdead b hb] at this; cases this
  have habove : ∀ x c, (x, c) ∈ (callEnvC fd L a).cells -> L <= c := fun x c hm => kaX (ic.above x c hm)
  have hnames : ((cellsFrom (L + 1) fd.scope.names []).map (·.1)).Nodup := by
   exact cellsFrom_names fd.scope.names 0 (L + 1) [] [] rfl ▸ fo.hnd
  have eo : jg fd.scope (callEnvC fd L a) := ⟨rfl, fo.kind, h8, h9⟩
  have hfs : (callEnvC fd L a).frame = some L := rfl
  have fis : qB (T.at (callEnvC fd L a :: fr)) (callEnvC fd L a) ctx (zcU vs (ctx.length - n)) J h' := by
   refine ⟨fo.nd, ⟨_, ic.toInCall.ns, fun i x v hi hx hv' => ?_⟩, fun i x hi hx => ?_, fun x y c hx hy => name_of_addr ic.apart hx hy, fun x c hm => kcg (ic.above x c hm), hdeadJ L (kao _), fun x c hm => ⟨hdeadJ c (habove x c hm), ?_⟩, hdeadb L (kao _), fun x c hm => hdeadb c (habove x c hm)⟩
   ·have hvi := zdY _ _ _ _ hv'
    obtain ⟨u, hu, hvu⟩ := hv.get hvi
    have hlt : i < n := by have := (kae.mp hvi).1; exact ltN (lit r3 V0 V1 [(2,1,V2,V1),(1,1,V0,V2)] rfl (eqI hn) (ltI this))
    exact ⟨u, zg8 _ _ _ _ i x u (fo.nd.sublist (kdJ _ _)) (by rw [kdd hlt]; exact hi) hu hx, hvu⟩
   ·have hx' : fd.scope.names.lookup x = some .cell := by
     rw [eo.kindOf] at hx
     rcases hx with hx | hx
     ·exact hx
     ·exact absurd rfl (fo.nofree _ (mem_of_lookup hx))
    have := zfG (x := x) fd.scope.names (L + 1) hx'
    obtain ⟨c, hc⟩ := Option.isSome_iff_exists.mp this
    refine ⟨c, _, hc, ic.cell x c hc, fun v hv' => ?_⟩
    have hvi := zdY _ _ _ _ hv'
    obtain ⟨u, hu, hvu⟩ := hv.get hvi
    have hlt : i < n := by have := (kae.mp hvi).1; exact ltN (lit r3 V0 V1 [(2,1,V2,V1),(1,1,V0,V2)] rfl (eqI hn) (ltI this))
    refine ⟨u, zg9 _ _ _ _ i x u (fo.nd.sublist (kdJ _ _)) (by rw [kdd hlt]; exact hi) hu ?_, hvu⟩
    rw [eo.kindOf, hx']; intro e; cases e
   ·exact ⟨_, ic.cell x c (lookup_of_mem_nodup hnames hm)⟩
  have st0 : St (T.at fr) J { s with heap := h', toks := tk } := st.grow hk tk
  have st1 : St (T.at (callEnvC fd L a :: fr)) J { s with heap := h', toks := tk } := by
   refine ⟨st0.rest, st0.base, st0.objs, st0.fresh, st0.sysm, st0.ro, fun e he => ?_⟩
   rcases kah.mp he with rfl | he
   ·obtain ⟨o1, es, ep, e1, d1, _⟩ := ic.toInCall.ns
    refine ⟨?_, L, hfs, hdeadb L (kao _), hdeadJ L (kao _), o1, es, ep, e1, d1⟩
    rw [eo.scope, fo.kind]; intro q; cases q
   ·exact st0.frames e he
  have hX : ∀ b ∈ own (callEnvC fd L a), s.heap.get? b = none := fun b hb => by
   simp only [own, kah, kat] at hb
   rcases hb with hb | ⟨⟨x, c⟩, hm, rfl⟩
   ·exact hdead b (by rw [hb]; exact kao _)
   ·exact hdead _ (habove x c hm)
  refine kaz (hs (callEnvC fd L a :: fr) (A.deeper _) (callEnvC fd L a) _ J _ _ P fr L rfl hfs eo (ro.deeper _) st1 fis hw) (fun fl s' hp => ?_) fun e s' hp => ?_
  ·obtain ⟨o', Z', J', hfl, st', fr', p', hq⟩ := hp
   have p := p'.frame hfs (hdead L (kao _)) hk hX
   cases hfl with
   | next => exact ⟨_, J', .none, st'.up, p, hq⟩
   | ret hv => exact ⟨_, J', hv, st'.up, p, hq⟩
  ·obtain ⟨x, J', st', p', hE, hP⟩ := hp
   obtain ⟨ax, C, oe, xs, rfl, hC, ⟨q1, q2, q3⟩, q4, q5, q6, q7⟩ := hE
   have hd1 : ∀ b, h'.get? b = none -> s.heap.get? b = none := fun b e => by
    cases e' : s.heap.get? b with
    | none => rfl
    | some o => rw [hk b o e'] at e; cases e
   refine zpA (T := T.at (callEnvC fd L a :: fr)) (L := L) st' rfl (ro.deeper _).frames hfs q4 q6 (q7.imp id fun ⟨tb, oT, ts, k1, k2, _, k4, k5, k6⟩ => ⟨tb, oT, ts, k1, k2, k4, k5, k6⟩) fun h'' tb htb tu nt => ?_
   have htb' : ∀ t, tb = some t -> h'.get? t = none /\ T.hb.get? t = none /\ J' t = none := fun t e => by
    have e1 := htb t e
    rcases q7 with q7 | ⟨tb', oT, ts, k1, k2, k3, k4⟩
    ·rw [q7] at e1; cases e1
    ·rw [k1] at e1; cases e1; exact k3
   have st2 := st'.noted ⟨q2, q3⟩ (fun t e => (htb' t e).2) tu
   have p2 := p'.noted q1 (fun t e => (htb' t e).1) tu
   have p3 := p2.frame hfs (hdead L (kao _)) hk hX
   obtain ⟨t, oT, ts, oe', vs', n1, n2, n3, n4, n5, n6, n7, n8, n9⟩ := nt.tb
   have hs't : s.heap.get? t = none := hd1 _ (p'.dead n1)
   refine ⟨x, J', st2.up, p3, ⟨ax, C, oe', vs', rfl, hC, ⟨hd1 _ q1, q2, q3⟩, n2, n3.trans q5, n4, .inr ⟨t, oT, ts, n5, n6, ⟨hs't, ?_, st'.noneFree n1⟩, n7, n8, n9⟩⟩, hP⟩
   cases e : T.hb.get? t with
   | none => rfl
   | some ob => have := st'.base t ob e; rw [n1] at this; cases this

theorem znZ {fr : List Env} (ok : (T.at fr).Ok) {f : Str} {p pos e r} {ws : EWs} (h : zgN (T.at fr) d sc ctx (e :: r) ws) (hx : sc.names.lookup f = some .globalImplicit) (hd : (f == ("__debug__" : Str)) = false := by decide)
  (he : ∀ env, starEach (e :: r) env = (false, eval e env) :: starEach r env := by intro _; rfl) (hf : ∃ a, T.mg f = some (.ref a) /\ ∃ o fd, T.hb.get? a = some o /\ o.data = .func fd) : zC (T.at fr) d sc ctx (.Call (.Name f p) (e :: r) [] pos) (zD T d f ws) := by
 intro A env Z J s Q P eo ro st fis hw
 obtain ⟨a, hm, o, fd, ho, hdat⟩ := hf
 refine Call_ (Name_function_global (by rw [eo.scope]; exact eo.kind) (by rw [eo.kindOf]; exact hx) (loadGlobal_global (mg := T.mg) (by rw [eo.globals]; exact st.ns ok.g) hm ?_) hd)
 refine callWith_def hdat ?_ (he env)
 refine h.run A env Z J s J s _ P pos _ eo ro .refl st fis hw fun vs us J1 sB hv st1 p1 fr1 hw1 => ⟨st1.base _ _ ho, ?_⟩
 obtain ⟨fa, o', fd', g1, g2, g3, g4⟩ := hw1
 rw [hm] at g1; cases g1
 exact kaz (g4 fr A sB us ro st1 hv) (fun _ _ x => x.step p1) fun _ _ x => x.step p1

end
end Mine
end
section
open PySem
namespace Mine
open PySem.Calls PyProof.Rows

mutual
inductive Rd (J : zb) : V -> PyData -> Prop
 | none : Rd J .none .none
 | bool (b) : Rd J (.bool b) (.bool b)
 | int (i) : Rd J (.int i) (.int i)
 | str (x) : Rd J (.str x) (.str x)
 | list {a xs ds} : J a = some (.list xs) -> Rds J xs ds -> Rd J (.ref a) (.list ds)
 | ro {a xs ds} : J a = some (.ro xs) -> Rds J xs ds -> Rd J (.ref a) (.list ds)
 | tup {a xs ds} : J a = some (.tup xs) -> Rds J xs ds -> Rd J (.ref a) (.tuple ds)
inductive Rds (J : zb) : List V -> List PyData -> Prop
 | nil : Rds J [] []
 | cons {v vs d ds} : Rd J v d -> Rds J vs ds -> Rds J (v :: vs) (d :: ds)
end
section
variable {T : TC} {d : Nat} {sc : Scope} {ctx : List Str}
theorem zll {J s} (st : St T J s) {v d} (h : Rd J v d) : ∀ u, VIs v u -> ∃ as, Reads s.heap u d as := by
 refine Rd.rec (motive_1 := fun v d _ => ∀ u, VIs v u -> ∃ as, Reads s.heap u d as) (motive_2 := fun vs ds _ => ∀ us, yn vs us -> ∃ as, ReadsAll s.heap us ds as) ?_ ?_ ?_ ?_ ?_ ?_ ?_ ?_ ?_ h
 ·intro u h; cases h; exact ⟨_, .none⟩
 ·intro b u h; cases h; exact ⟨_, .bool b⟩
 ·intro i u h; cases h; exact ⟨_, .int i _⟩
 ·intro x u h; cases h; exact ⟨_, .str x _⟩
 ·intro a xs ds hx _ ih u h
  cases h
  obtain ⟨o, ho, hl, vs, n, rfl, hv⟩ := st.objs a _ hx
  obtain ⟨as, h⟩ := ih _ hv
  exact ⟨_, .list ho rfl rfl h⟩
 ·intro a xs ds hx _ ih u h
  cases h
  obtain ⟨o, ho, hl, hc, vs, n, hd, hv⟩ := st.objs a _ hx
  obtain ⟨as, h⟩ := ih _ hv
  exact ⟨_, .list ho hc hd h⟩
 ·intro a xs ds hx _ ih u h
  cases h
  obtain ⟨o, ho, hl, vs, n, rfl, hv⟩ := st.objs a _ hx
  obtain ⟨as, h⟩ := ih _ hv
  exact ⟨_, .tuple ho rfl rfl h⟩
 ·intro us h; cases h; exact ⟨_, .nil⟩
 ·intro v vs d ds _ _ ih ihs us h
  cases h with
  | cons hv hvs =>
   obtain ⟨as, h1⟩ := ih _ hv
   obtain ⟨bs, h2⟩ := ihs _ hvs
   exact ⟨_, .cons h1 h2⟩
theorem Rd.reads {J s} (st : St T J s) {v d u} (h : Rd J v d) (hv : VIs v u) : ∃ as, Reads s.heap u d as := zll st h u hv

inductive Eqv (J : zb) (va vb : V) (k : Bool -> Prop) : Prop | mk (da db) (h1 : Rd J va da) (h2 : Rd J vb db) (h3 : SeqAt.shaped da = true) (h4 : SeqAt.shaped db = true) (h5 : k (PyData.eqv da db)) : Eqv J va vb k
noncomputable def eqW (neg : Bool) (a b : EW) : EW := fun Z J Q P => a Z J (fun va J1 => b Z J1 (fun vb J2 => Eqv J2 va vb fun t => Q (.bool (if neg then !t else t)) J2) P) P
noncomputable def znl (neg : Bool) : CmpOp := if neg then .NotEq else .Eq
theorem zhU (neg : Bool) {A E s J va vb ua ub} {k : Bool -> Prop} {Q : Value -> Shared -> Prop} (ro : zaR T A d) (st : St T J s) (h : Eqv J va vb k) (ha : VIs va ua) (hb : VIs vb ub) (hq : ∀ t, k t -> Q (.bool (if neg then !t else t)) s) :
  wpAny T.M A (compareOp (znl neg) ua ub) Q E s := by
 obtain ⟨da, db, r1, r2, s1, s2, hk⟩ := h
 obtain ⟨as, h1⟩ := r1.reads st ha
 obtain ⟨bs, h2⟩ := r2.reads st hb
 have hu : A.units + 64 < cLine := by have := ro.units; omega
 cases neg
 ·exact SeqAt.compareEq_shaped h1 h2 s1 s2 hu (hq _ hk)
 ·exact SeqAt.compareNe_shaped h1 h2 s1 s2 hu (hq _ hk)
theorem zf1 (neg : Bool) (r : Expr) : behindInMarks (znl neg) r = false := zf0 (by cases neg <;> rfl) r
theorem zp9 (neg : Bool) {l r pos op} {a b : EW} (ho : op = znl neg) (hl : zC T d sc ctx l a) (hr : zC T d sc ctx r b) : zC T d sc ctx (.Compare l [op] [r] pos) (eqW neg a b) := by
 subst ho
 intro A env Z J s Q P eo ro st fr hw
 refine wpAny_Compare1 (hl.run eo ro st fr hw ?_) (zf1 neg r)
 intro va ua J1 sB v1 st1 p1 fr1 hw1
 refine hr.then eo ro p1 st1 fr1 hw1 ?_
 intro vb ub J2 sM v2 st2 p2 fr2 hw2
 exact zhU neg ro st2 hw2 v1 v2 fun t ht => ⟨_, _, .bool _, st2, p2, ht⟩
theorem zdz (neg : Bool) {l r pos op} {a b : EW} (ho : op = znl neg) (hl : zC T d sc ctx l a) (hr : zC T d sc ctx r b) : zcb T d sc ctx (.Compare l [op] [r] pos) (eqW neg a b) := by
 subst ho
 intro A env Z J s Q P eo ro st fr hw
 refine wpAny_isTrue_Compare1 (hl.run eo ro st fr hw ?_) (zf1 neg r)
 intro va ua J1 sB v1 st1 p1 fr1 hw1
 refine hr.then eo ro p1 st1 fr1 hw1 ?_
 intro vb ub J2 sM v2 st2 p2 fr2 hw2
 exact zhU neg ro st2 hw2 v1 v2 fun t ht => ka5 ⟨_, st2, p2, ht⟩

noncomputable def eqB (neg : Bool) (a b : EW) : EW := fun Z J Q P => a Z J (fun va J1 => b Z J1 (fun vb J2 => va.asBool fun x => vb.asBool fun y => Q (.bool (if neg then x != y else x == y)) J2) P) P
theorem zq0 (neg : Bool) {A E s} {J : zb} (ro : zaR T A d) (st : St T J s) {x y : Bool} {Q : Value -> Shared -> Prop} (h : Q (.bool (if neg then x != y else x == y)) s) : wpAny T.M A (compareOp (znl neg) (.bool x) (.bool y)) Q E s := by
 refine zhU neg ro st (va := .bool x) (vb := .bool y) (k := fun t => t = (x == y)) ⟨_, _, .bool x, .bool y, by rfl, by rfl, rfl⟩ (.bool _) (.bool _) fun t ht => ?_
 subst ht
 cases neg
 ·exact h
 ·exact h
theorem zfT (neg : Bool) {l r pos op} {a b : EW} (ho : op = znl neg) (hl : zC T d sc ctx l a) (hr : zC T d sc ctx r b) : zcb T d sc ctx (.Compare l [op] [r] pos) (eqB neg a b) := by
 subst ho
 intro A env Z J s Q P eo ro st fr hw
 refine wpAny_isTrue_Compare1 (hl.run eo ro st fr hw ?_) (zf1 neg r)
 intro va ua J1 sB v1 st1 p1 fr1 hw1
 refine hr.then eo ro p1 st1 fr1 hw1 ?_
 intro vb ub J2 sM v2 st2 p2 fr2 hw2
 obtain ⟨x, hw3⟩ := hw2.get v1
 obtain ⟨y, hw4⟩ := hw3.get v2
 exact zq0 neg ro st2 (ka5 ⟨_, st2, p2, hw4⟩)

noncomputable def zgu (cB cC : Cmp) (a b e : EW) : EW := fun Z J Q P =>
 a Z J (fun va J1 => b Z J1 (fun vb J2 => va.asInt fun x => vb.asInt fun y => if cB.run x y then e Z J2 (fun ve J3 => ve.asInt fun z => Q (.bool (cC.run y z)) J3) P else Q (.bool false) J2) P) P
theorem zfo (cB cC : Cmp) (rB rC : Expr) : lastMarks [cB.op, cC.op] [rB, rC] = false := by
 show lastMarks [cC.op] [rC] = false
 exact zdV cC rC
theorem zmb (cB cC : Cmp) {l rB rC pos oB oC} {a b e : EW} (h₁ : oB = cB.op) (h₂ : oC = cC.op) (hl : zC T d sc ctx l a) (hr : zC T d sc ctx rB b) (he : zC T d sc ctx rC e) : zC T d sc ctx (.Compare l [oB, oC] [rB, rC] pos) (zgu cB cC a b e) := by
 subst h₁ h₂
 intro A env Z J s Q P eo ro st fr hw
 refine Compare_chain (rs := []) (hl.run eo ro st fr hw fun va ua J1 sB v1 st1 p1 fr1 hw1 => ?_) (zfo cB cC rB rC)
 refine chain_link (hr.then eo ro p1 st1 fr1 hw1 fun vb ub J2 sM v2 st2 p2 fr2 hw2 => ?_)
 obtain ⟨x, t, hw3⟩ := hw2.get v1
 obtain ⟨y, u, hw4⟩ := hw3.get v2
 refine zcF cB (ka5 ?_)
 cases hc : cB.run x y with
 | false => rw [hc] at hw4; exact ⟨_, _, .bool _, st2, p2, hw4⟩
 | true =>
  rw [hc] at hw4
  refine chain_last (he.then eo ro p2 st2 fr2 hw4 fun ve ue J3 s3 v3 st3 p3 fr3 hw5 => ?_)
  obtain ⟨z, t', hw6⟩ := hw5.get v3
  exact zcF cC ⟨_, _, .bool _, st3, p3, hw6⟩
theorem zjv (cB cC : Cmp) {l rB rC pos oB oC} {a b e : EW} (h₁ : oB = cB.op) (h₂ : oC = cC.op) (hl : zC T d sc ctx l a) (hr : zC T d sc ctx rB b) (he : zC T d sc ctx rC e) : zcb T d sc ctx (.Compare l [oB, oC] [rB, rC] pos) (zgu cB cC a b e) := by
 subst h₁ h₂
 intro A env Z J s Q P eo ro st fr hw
 refine isTrue_chain (rs := []) (hl.run eo ro st fr hw fun va ua J1 sB v1 st1 p1 fr1 hw1 => ?_) (zfo cB cC rB rC)
 refine test_link (hr.then eo ro p1 st1 fr1 hw1 fun vb ub J2 sM v2 st2 p2 fr2 hw2 => ?_)
 obtain ⟨x, t, hw3⟩ := hw2.get v1
 obtain ⟨y, u, hw4⟩ := hw3.get v2
 refine zcF cB (ka5 ?_)
 cases hc : cB.run x y with
 | false => rw [hc] at hw4; exact ⟨_, st2, p2, hw4⟩
 | true =>
  rw [hc] at hw4
  refine test_last (he.then eo ro p2 st2 fr2 hw4 fun ve ue J3 s3 v3 st3 p3 fr3 hw5 => ?_)
  obtain ⟨z, t', hw6⟩ := hw5.get v3
  exact zcF cC (ka5 ⟨_, st3, p3, hw6⟩)

def zjW (xs : List V) (k : List Bool -> Prop) : Prop := ∃ bs : List Bool, xs = bs.map .bool /\ k bs
noncomputable def znt (a : EW) : EW := fun Z J Q P => a Z J (fun v J1 => v.asRef fun p => qY J1 p fun xs => zjW xs fun bs => Q (.bool (bs.all id)) J1) P
noncomputable def zq3 (a : EW) : EW := fun Z J Q P => a Z J (fun v J1 => v.asRef fun p => qY J1 p fun xs => zjW xs fun bs => Q (.bool (bs.any id)) J1) P
theorem zlJ {bs : List Bool} {us : List Value} (h : yn (bs.map .bool) us) : us = bs.map .bool := by
 induction bs generalizing us with
 | nil => cases h; rfl
 | cons b r ih => cases h with | cons h1 h2 => cases h1; rw [ih h2]; rfl
theorem zlm (bs : List Bool) (f : Bool -> Bool) : (kaa bs.length).all (fun i => f (bs.getD i false)) = bs.all f := by
 rw [kaS]
 simp only [kaZ, kan]
 constructor
 ·intro h x hx
  obtain ⟨i, hi, rfl⟩ := kaV hx
  have := h i hi
  simpa [kcz, hi] using this
 ·intro h i hi
  have := h bs[i] (kcj hi)
  simpa [kcz, hi] using this
theorem zfg (ok : T.Ok) (B : Blt T) {p pos e} {a : EW} (h : zC T d sc ctx e a) (hx : sc.names.lookup ("all" : Str) = some .globalImplicit := by decide +kernel)
  (he : ∀ env, starEach [e] env = [(false, eval e env)] := by intro _; rfl) (C : T.calm = true := by assumption) : zC T d sc ctx (.Call (.Name "all" p) [e] [] pos) (znt a) := by
 refine zfe ok h hx (B.none _ (by decide)) (id := "all") (by decide +kernel) (by decide) (by decide) (fun Z J Q P hw => ⟨_, hw, fun A v u JA sa J1 sB E ro hv st1 p1 hw1 => ?_⟩) he
 obtain ⟨q, hw2⟩ := hw1.get hv
 obtain ⟨xs, hx, bs, rfl, hw3⟩ := hw2.get
 obtain ⟨us, hl, hv, hz, _⟩ := st1.list (.inl hx)
 have hu := zlJ hv
 refine call_all_walk (wpAny_pyIter_list hl ?_)
 refine ⟨_, _, _, _, _, _, fun i => bs.getD i false, rfl, Walks.list (A := A.in1) (ro.handled C) _ q (kbH (st1.lt hx)) us, ⟨⟨_, ka7 _ rfl, rfl, rfl⟩, hl.push _⟩, fun i v s' Q' E' hP hQ => ?_, fun h' tk hk => ?_⟩
 ·have hP' : us.toList[i]? = some v := by simpa using hP
  rw [hu, kaJ] at hP'
  cases hb : bs[i]? with
  | none => rw [hb] at hP'; cases hP'
  | some b =>
   rw [hb] at hP'; cases hP'
   refine ka5 ?_
   simpa [kcz, hb] using hQ
 ·have hlen : us.size = bs.length := by rw [hz]; simp
  have hall : ((kaa bs.length).all fun i => bs.getD i false) = bs.all id := zlm bs id
  rw [hlen, hall]
  have st2 := (st1.push { cls := .type "list_iterator", data := .fields #[.ref q, .int 0 0] } sB.toks).off (wr := [sB.heap.objs.size]) (by simp; exact ⟨st1.sizeFree, st1.hbSize, st1.notFr (get?_size _)⟩) hk tk
  have dead : sa.heap.get? sB.heap.objs.size = none := by
   cases e : sa.heap.get? sB.heap.objs.size with
   | none => rfl
   | some o => obtain ⟨o', h'⟩ := p1.live _ _ e; rw [get?_size] at h'; cases h'
  exact ⟨_, _, .bool _, st2, (p1.push { cls := .type "list_iterator", data := .fields #[.ref q, .int 0 0] } sB.toks).off (wr := [sB.heap.objs.size]) (by simpa using dead) hk tk, hw3⟩
end
end Mine
end
section
open PySem
namespace Mine
open PySem.Calls PyProof.Rows

noncomputable def zt : Stmt -> List Stmt
 | .FunctionDef _ _ b _ _ _ _ _ _ _ => b
 | _ => []
noncomputable def zo : Stmt -> Scope
 | .FunctionDef _ _ _ _ _ _ sc _ _ _ => sc
 | _ => default
noncomputable def zw : Stmt -> Arguments
 | .FunctionDef _ a _ _ _ _ _ _ _ _ => a
 | _ => default
noncomputable def z1 (p : Program) (i : Nat) : Stmt := p.main.body.getD i (.Pass default)

noncomputable def zkh (sc : Scope) (ctx : List Str) (scope : Scope) (j : Nat) (x : Str) : Bool :=
 scope.kind == .function && scope.names.all (fun y => y.2 != .cell) && scope.names.all (fun y => y.2 != .local || scope.names.lookup y.1 == some .local) && (ctx[j]? == some x && scope.names.lookup x == some .local) &&
 scope.names.all (fun y => y.2 != .free || (zgL (sc.names.lookup y.1) && sc.names.lookup y.1 != some .local && ctx.contains y.1)) && ctx.all fun y => scope.names.lookup y != some .local || y == x
theorem zmE {sc ctx scope j x} (h : zkh sc ctx scope j x = true) : zpe sc ctx scope j x := by
 unfold zkh at h
 simp only [kaH, kaZ, kbt, bne_iff_ne, ne_eq, beq_iff_eq] at h
 obtain ⟨⟨⟨⟨⟨h1, h2⟩, h3⟩, h4⟩, h5⟩, h6⟩ := h
 refine ⟨⟨h1, h2, fun y hy hl => ?_, fun y hy hf => ?_⟩, h4, fun y hy hl => ?_⟩
 ·rcases h3 y hy with h | h
  ·exact absurd hl h
  ·exact h
 ·rcases h5 y hy with h | h
  ·exact absurd hf h
  ·refine ⟨h.1.1, h.1.2, ?_⟩
   have := kbQ.mp h.2
   exact kb2 this
 ·rcases h6 y hy with h | h
  ·exact absurd hl h
  ·exact h

noncomputable def zki (sc : Scope) (ctx : List Str) (scope : Scope) (j : Nat) (x : Str) : Bool :=
 scope.kind == .function && scope.names.all (fun y => y.2 != .local || scope.names.lookup y.1 == some .local) && (scope.names.filterMap (fun y => if y.2 == .cell then some y.1 else none) == [x]) && (ctx[j]? == some x && scope.names.lookup x == some .cell) &&
 scope.names.all (fun y => y.2 != .free || (y.1 != x && zgL (sc.names.lookup y.1) && sc.names.lookup y.1 != some .local && ctx.contains y.1)) &&
 ctx.all fun y => match scope.names.lookup y with | some .local => false | some .cell => y == x | _ => true
theorem wo : ∀ (names : List (Str × NameKind)) (L : Addr) (cl : List (Str × Addr)), (∀ x, names.filterMap (fun y => if y.2 == .cell then some y.1 else none) = [x] -> cellsFrom L names cl = (x, L) :: cl) /\ (names.filterMap (fun y => if y.2 == .cell then some y.1 else none) = [] -> cellsFrom L names cl = cl)
 | [], _, _ => ⟨fun _ h => (by simp at h), fun _ => rfl⟩
 | (n, k) :: r, L, cl => by
  unfold cellsFrom
  by_cases hk : (k == NameKind.cell) = true
  ·simp only [kcN, hk, if_true]
   refine ⟨fun x h => ?_, fun h => by simp at h⟩
   simp only [List.cons.injEq] at h
   rw [(wo r (L + 1) ((n, L) :: cl)).2 h.2, h.1]
  ·simp only [kcN, hk]
   exact wo r L cl
theorem zmG {sc ctx scope j x} (h : zki sc ctx scope j x = true) : zh4 sc ctx scope j x := by
 unfold zki at h
 simp only [kaH, kaZ, kbt, bne_iff_ne, ne_eq, beq_iff_eq] at h
 obtain ⟨⟨⟨⟨⟨h1, h3⟩, h2⟩, h4⟩, h5⟩, h6⟩ := h
 refine ⟨h1, fun y hy hl => ?_, fun L cl => (wo _ L cl).1 x (by simpa using h2), h4, fun y hy hf => ?_, fun y hy k hk => ?_⟩
 ·rcases h3 y hy with h | h
  ·exact absurd hl h
  ·exact h
 ·rcases h5 y hy with h | h
  ·exact absurd hf h
  ·exact ⟨h.1.1.1, h.1.1.2, h.1.2, kb2 (kbQ.mp h.2)⟩
 ·have := h6 y hy
  rw [hk] at this
  cases k <;> simp_all
noncomputable def zow (sc : Scope) (ctx : List Str) (scope : Scope) (j : Nat) (x : Str) : Bool := zkh sc ctx scope j x || zki sc ctx scope j x
theorem zX {sc ctx scope j x} (h : zow sc ctx scope j x = true) : yT sc ctx scope j x := by
 rcases (kbt ..).mp h with h | h
 ·exact .inl (zmE h)
 ·exact .inr (zmG h)

noncomputable def zlS (params : Arguments) (scope : Scope) (ctx : List Str) (n : Nat) : Bool :=
 scope.kind == .function && !scope.isCoroutine && !scope.isGenerator && scope.names.all (fun y => y.2 != .free) && decide ctx.Nodup && decide ((cellsFrom 0 scope.names []).map (·.1)).Nodup &&
 (params.args.map (·.arg) == ctx.take n) && (ctx.take n).all fun x => zck (scope.names.lookup x)
theorem zop {params scope ctx n} (h : zlS params scope ctx n = true) : zqN params scope ctx n := by
 unfold zlS at h
 simp only [kaH, kaZ, bne_iff_ne, ne_eq, beq_iff_eq, kbK, decide_eq_true_eq] at h
 obtain ⟨⟨⟨⟨⟨⟨⟨h1, h2⟩, h3⟩, h4⟩, h5⟩, h6⟩, h7⟩, h8⟩ := h
 exact ⟨h1, h2, h3, h4, h5, h6, h7, h8⟩

section
variable {T : TC} {d : Nat} {sc : Scope} {ctx : List Str}
theorem zhE (ok : T.Ok) {x : Str} {i : Int} {pos} (hm : ∃ t, T.mg x = some (.int i t)) (hx : sc.names.lookup x = some .globalImplicit) (hd : (x == ("__debug__" : Str)) = false) : zC T d sc ctx (.Name x pos) (val (.int i)) := by
 intro A env Z J s Q P eo ro st fr hw
 obtain ⟨t, hm⟩ := hm
 exact Name_function_global (by rw [eo.scope]; exact eo.kind) (by rw [eo.kindOf]; exact hx) (loadGlobal_global (mg := T.mg) (by rw [eo.globals]; exact st.ns ok.g) hm ⟨_, _, .int i t, st, .refl, hw⟩) hd
def zdJ (T : TC) (f : Str) : Prop := ∃ a, T.mg f = some (.ref a) /\ ∃ o fd, T.hb.get? a = some o /\ o.data = .func fd
theorem jK.known {f params body scope} (h : jK T f params body scope) : zdJ T f :=
 let ⟨a, o, fd, h1, h2, h3, _⟩ := h.here; ⟨a, h1, o, fd, h2, h3⟩
end
end Mine
end
section
open PySem
namespace Mine

section
variable (Z : zM) (J : zb) (Q : V -> zb -> Prop) (K : Out -> zM -> zb -> Prop) (P : Nat -> zb -> Prop)
@[simp] theorem qo (v) : val v Z J Q P = Q v J := rfl
@[simp] theorem zv (i) : loc i Z J Q P = match jC Z i with | some v => Q v J | none => False := rfl
@[simp] theorem jf (a b : EW) : ym a b Z J Q P = a Z J (fun va J1 => b Z J1 (fun vb J2 => va.asInt fun x => vb.asInt fun y => Q (.int (x + y)) J2) P) P := by simp [ym, opI]
@[simp] theorem zav (a b : EW) : zbR a b Z J Q P = a Z J (fun va J1 => b Z J1 (fun vb J2 => va.asInt fun x => vb.asInt fun y => Q (.int (x - y)) J2) P) P := by simp [zbR, opI]
@[simp] theorem zdr (a b : EW) : zbU a b Z J Q P = a Z J (fun va J1 => b Z J1 (fun vb J2 => va.asInt fun x => vb.asInt fun y => IntMulOk x y /\ Q (.int (x * y)) J2) P) P := rfl
@[simp] theorem zaM (a b : EW) : zdF a b Z J Q P = a Z J (fun va J1 => b Z J1 (fun vb J2 => va.asInt fun x => vb.asInt fun y => (y ≠ 0 /\ Builtin.divisionGoesByPylong x y = false) /\ Q (.int (x.fdiv y)) J2) P) P := rfl
@[simp] theorem wf (a b : EW) : wL a b Z J Q P = a Z J (fun va J1 => b Z J1 (fun vb J2 => va.asInt fun x => vb.asInt fun y => y ≠ 0 /\ Q (.int (x.fmod y)) J2) P) P := rfl
@[simp] theorem zlO (a b : EW) : zqR a b Z J Q P = a Z J (fun va J1 => b Z J1 (fun vb J2 => va.asInt fun x => vb.asInt fun y => znG x y /\ Q (.int (x ^ y.toNat)) J2) P) P := rfl
@[simp] theorem zjA (a : EW) : zn9 a Z J Q P = a Z J (fun v J1 => v.asInt fun x => Q (.int (-x)) J1) P := rfl
@[simp] theorem qH (c) (a b : EW) : jv c a b Z J Q P = a Z J (fun va J1 => b Z J1 (fun vb J2 => va.asInt fun x => vb.asInt fun y => Q (.bool (c.run x y)) J2) P) P := rfl
@[simp] theorem zdx (a : EW) : tst a Z J Q P = a Z J (fun v J1 => v.asBool fun b => Q (.bool b) J1) P := rfl
@[simp] theorem zcj (a : EW) : zdB a Z J Q P = a Z J (fun v J1 => v.asBool fun b => Q (.bool (!b)) J1) P := rfl
@[simp] theorem zby (a b : EW) : zcI a b Z J Q P = a Z J (fun v J1 => v.asBool fun t => if t then b Z J1 Q P else Q (.bool false) J1) P := rfl
@[simp] theorem zgk (a b : EW) : orW a b Z J Q P = a Z J (fun v J1 => v.asBool fun t => if t then Q (.bool true) J1 else b Z J1 Q P) P := rfl
@[simp] theorem zjH (c a b : EW) : zpZ c a b Z J Q P = c Z J (fun v J1 => v.asBool fun t => if t then a Z J1 Q P else b Z J1 Q P) P := rfl
@[simp] theorem zK (Q : List V -> zb -> Prop) : zF Z J Q P = Q [] J := rfl
@[simp] theorem zB (a : EW) (r : EWs) (Q : List V -> zb -> Prop) : zi a r Z J Q P = a Z J (fun v J1 => r Z J1 (fun vs J2 => Q (v :: vs) J2) P) P := rfl
@[simp] theorem qV (ws : EWs) : qF ws Z J Q P = ws Z J (fun vs J1 => vs.length <= lim /\ wb (.list vs) J1 Q) P := rfl
@[simp] theorem zcM (ws : EWs) : zeI ws Z J Q P = ws Z J (fun vs J1 => vs.length <= lim /\ wb (.tup vs) J1 Q) P := rfl
@[simp] theorem qA (a i : EW) : z8 a i Z J Q P = a Z J (fun va J1 => i Z J1 (fun vi J2 => va.asRef fun p => vi.asInt fun k => 0 <= k /\ yE J2 p fun xs => yR xs k.toNat fun v => Q v J2) P) P := rfl
@[simp] theorem qG (a : EW) : j5 a Z J Q P = a Z J (fun v J1 => v.asRef fun p => zaC J1 p fun n => Q (.int n) J1) P := rfl
@[simp] theorem zbM (a : EW) : za1 a Z J Q P = a Z J (fun v J1 => v.asRef fun p => yE J1 p fun xs => wb (.list xs) J1 Q) P := rfl
@[simp] theorem zif (a : EW) : zol a Z J Q P = a Z J (fun v J1 => v.asBool fun b => Q (.int (if b then 1 else 0)) J1) P := rfl
@[simp] theorem zfq (ty) (a : EW) : zi9 ty a Z J Q P = a Z J (fun v J1 => isi ty J1 v fun b => Q (.bool b) J1) P := rfl
@[simp] theorem zib (a b : EW) : mulL a b Z J Q P = a Z J (fun va J1 => b Z J1 (fun vb J2 => va.asRef fun p => vb.asInt fun k => qY J2 p fun xs => k < 2 ^ 62 /\ -(2 ^ 62) <= k /\ xs.length * k.toNat <= lim /\ wb (.list (kaD k.toNat xs).flatten) J2 Q) P) P := rfl
@[simp] theorem zcX (a b : EW) : zhd a b Z J Q P = a Z J (fun va J1 => b Z J1 (fun vb J2 => va.asRef fun p => vb.asRef fun q => qY J2 p fun xs => qY J2 q fun ys => xs.length + ys.length <= lim /\ wb (.list (xs ++ ys)) J2 Q) P) P := rfl
@[simp] theorem zbK (a b : EW) : zfu a b Z J Q P = a Z J (fun va J1 => b Z J1 (fun vb J2 => va.asRef fun p => vb.asInt fun k => 0 <= k /\ wg J2 p fun xs => wb (.list (xs.drop k.toNat)) J2 Q) P) P := rfl
@[simp] theorem zc8 (a b : EW) : zh7 a b Z J Q P = a Z J (fun va J1 => b Z J1 (fun vb J2 => va.asRef fun p => vb.asInt fun k => 0 <= k /\ wg J2 p fun xs => wb (.list (xs.take k.toNat)) J2 Q) P) P := rfl
@[simp] theorem zey (a b : EW) : zji a b Z J Q P = a Z J (fun va J1 => va.asRef fun p => qY J1 p (fun _ => True) /\ b Z J1 (fun vb J2 => qY J2 p fun xs => xs.length < lim /\ Q .none (put J2 p (.list (xs ++ [vb])))) P) P := rfl
@[simp] theorem zhQ (neg) (a b : EW) : inD neg a b Z J Q P = a Z J (fun va J1 => b Z J1 (fun vb J2 => va.asInt fun k => vb.asRef fun p => yC J2 p fun kvs => Q (.bool (if neg then !zhW kvs k else zhW kvs k)) J2) P) P := rfl
@[simp] theorem wV (a b : EW) : zcE a b Z J Q P = a Z J (fun va J1 => b Z J1 (fun vb J2 => va.asInt fun k => wb (.dict [(k, vb)]) J2 Q) P) P := rfl
@[simp] theorem zjM (neg) (a b : EW) : eqW neg a b Z J Q P = a Z J (fun va J1 => b Z J1 (fun vb J2 => Eqv J2 va vb fun t => Q (.bool (if neg then !t else t)) J2) P) P := rfl
@[simp] theorem zgM (neg) (a b : EW) : eqB neg a b Z J Q P = a Z J (fun va J1 => b Z J1 (fun vb J2 => va.asBool fun x => vb.asBool fun y => Q (.bool (if neg then x != y else x == y)) J2) P) P := rfl
@[simp] theorem zdH (cB cC) (a b e : EW) : zgu cB cC a b e Z J Q P = a Z J (fun va J1 => b Z J1 (fun vb J2 => va.asInt fun x => vb.asInt fun y => if cB.run x y then e Z J2 (fun ve J3 => ve.asInt fun z => Q (.bool (cC.run y z)) J3) P else Q (.bool false) J2) P) P := rfl
@[simp] theorem zfO (a : EW) : znt a Z J Q P = a Z J (fun v J1 => v.asRef fun p => qY J1 p fun xs => zjW xs fun bs => Q (.bool (bs.all id)) J1) P := rfl
@[simp] theorem zlT (a : EW) : zq3 a Z J Q P = a Z J (fun v J1 => v.asRef fun p => qY J1 p fun xs => zjW xs fun bs => Q (.bool (bs.any id)) J1) P := rfl
@[simp] theorem zL (T d f) (ws : EWs) : zD T d f ws Z J Q P = ws Z J (fun vs J1 => zA T d f vs J1 Q P) P := rfl
@[simp] theorem qX (j) (src : zh0) (c) (e : EW) : ju j src c e Z J Q P = src Z J (fun xs chk J1 => xs.length <= lim /\ zbx chk j c e Z xs [] J1 Q) P := rfl
@[simp] theorem jr (a : EW) (Q) : yW a Z J Q P = a Z J (fun v J1 => v.asRef fun p => zbN J1 p fun xs chk => Q xs chk J1) P := rfl
@[simp] theorem jL (a : EW) (Q) : jJ a Z J Q P = a Z J (fun v J1 => v.asInt fun n => small n /\ Q (rng 0 n.toNat) (fun _ => True) J1) P := rfl
@[simp] theorem zcq (a b : EW) (Q) : ze9 a b Z J Q P = a Z J (fun va J1 => b Z J1 (fun vb J2 => va.asInt fun m => vb.asInt fun n => small m /\ small n /\ Q (rng m (n - m).toNat) (fun _ => True) J2) P) P := rfl
@[simp] theorem qC : qu Z J K P = K .next Z J := rfl
@[simp] theorem zG (a b : SW) : zy a b Z J K P = a Z J (fun o Z1 J1 => match o with | .next => b Z1 J1 K P | .ret v => K (.ret v) Z1 J1) P := rfl
@[simp] theorem j3 (a : EW) : ji a Z J K P = a Z J (fun v J1 => K (.ret v) Z J1) P := rfl
@[simp] theorem zV (i) (a : EW) : zW i a Z J K P = a Z J (fun v J1 => K .next (yz Z i v) J1) P := rfl
@[simp] theorem zcH (is) (a : EW) : zil is a Z J K P = a Z J (fun v J1 => zfJ (.tup is) v Z J1 fun Z' => K .next Z' J1) P := rfl
@[simp] theorem yS (a : EW) : wO a Z J K P = a Z J (fun _ J1 => K .next Z J1) P := rfl
@[simp] theorem je (c : EW) (a b : SW) : j6 c a b Z J K P = c Z J (fun v J1 => v.asBool fun t => if t then a Z J1 K P else b Z J1 K P) P := rfl
@[simp] theorem zih : zii Z J K P = False := rfl
@[simp] theorem zay (a i e : EW) : zaG a i e Z J K P = e Z J (fun ve J1 => a Z J1 (fun va J2 => i Z J2 (fun vi J3 => va.asRef fun p => vi.asInt fun k => zex J3 p k ve (K .next Z)) P) P) P := rfl
@[simp] theorem jz (t) (src : zh0) (b : SW) : yp t src b Z J K P = src Z J (fun xs chk J1 => zie chk t b xs Z J1 K) P := rfl
@[simp] theorem zbC (c : EW) (b : SW) : zcm c b Z J K P = ∃ n, zbF c b n Z J K := rfl
@[simp] theorem ql (i) (v : V) (k) : zfJ (.nm i) v Z J k = k (yz Z i v) := rfl
@[simp] theorem y2 (is) (v : V) (k) : zfJ (.tup is) v Z J k = v.asRef fun p => zfM J p fun xs => xs.length = is.length /\ k (zbH Z is xs) := rfl
@[simp] theorem qv (k) : zfD none Z J k = k true J := rfl
@[simp] theorem q8 (w : EW) (k) : zfD (some w) Z J k = w Z J (fun v J1 => v.asBool fun b => k b J1) noP := rfl
end
@[simp] theorem zg (o : Option V) (r : zM) : jC (o :: r) 0 = o := rfl
@[simp] theorem zf (o : Option V) (r : zM) (i : Nat) : jC (o :: r) (i + 1) = jC r i := rfl
@[simp] theorem zp (o : Option V) (r : zM) (v : V) : yz (o :: r) 0 v = some v :: r := rfl
@[simp] theorem zq (o : Option V) (r : zM) (i : Nat) (v : V) : yz (o :: r) (i + 1) v = o :: yz r i v := rfl
@[simp] theorem yy (Z : zM) (i : Nat) (is : List Nat) (v : V) (vs : List V) : zbH Z (i :: is) (v :: vs) = zbH (yz Z i v) is vs := rfl
@[simp] theorem yx (Z : zM) (vs : List V) : zbH Z [] vs = Z := by cases vs <;> rfl

theorem zar {J : zb} {a xs k} (h : J a = some (.list xs)) : qY J a k = k xs := by simp [qY, h]
theorem zmK {J : zb} {a xs k} (h : J a = some (.tup xs)) : zfM J a k = k xs := by simp [zfM, h]
theorem zhb {J : zb} {a xs k} (h : J a = some (.dict xs)) : yC J a k = k xs := by simp [yC, h]
theorem zcW {J : zb} {a xs k} (h : J a = some (.list xs)) : yE J a k = k xs := by simp [yE, h]
theorem zlK {J : zb} {a xs k} (h : J a = some (.tup xs)) : yE J a k = k xs := by simp [yE, h]
theorem zmL {J : zb} {a xs k} (h : J a = some (.ro xs)) : yE J a k = k xs := by simp [yE, h]
theorem zjX {J : zb} {a xs k} (h : J a = some (.list xs)) : wg J a k = k xs := by simp [wg, h]
theorem zmM {J : zb} {a xs k} (h : J a = some (.ro xs)) : wg J a k = k xs := by simp [wg, h]

theorem ziR {J : zb} {a xs k} (h : J a = some (.list xs)) : zbN J a k = k xs (fun J => J a = some (.list xs) \/ J a = some (.ro xs)) := by simp [zbN, h]
theorem zj0 {J : zb} {a xs k} (h : J a = some (.tup xs)) : zbN J a k = k xs (fun J => J a = some (.tup xs)) := by simp [zbN, h]
theorem zjY {J : zb} {a xs k} (h : J a = some (.list xs)) : zaC J a k = k xs.length := by simp [zaC, h]
theorem zlL {J : zb} {a xs k} (h : J a = some (.tup xs)) : zaC J a k = k xs.length := by simp [zaC, h]
theorem zmO {J : zb} {a xs k} (h : J a = some (.ro xs)) : zaC J a k = k xs.length := by simp [zaC, h]
theorem zjZ {J : zb} {a xs k} (h : J a = some (.dict xs)) : zaC J a k = k xs.length := by simp [zaC, h]
theorem zaB {J : zb} {a xs i v k} (h : J a = some (.list xs)) : zex J a i v k = (0 <= i /\ i < xs.length /\ k (put J a (.list (xs.set i.toNat v)))) := by simp [zex, h]
theorem q9 {J : zb} {a kvs i v k} (h : J a = some (.dict kvs)) : zex J a i v k = (kvs.length < lim /\ k (put J a (.dict (zgt kvs i v)))) := by simp [zex, h]
theorem yZ {xs : List V} {i v k} (h : xs[i]? = some v) : yR xs i k = k v := by simp [yR, h]

theorem zI {chk t} {b : SW} {xs : List V} {Z J K} (I : Nat -> zM -> zb -> Prop) (h0 : I 0 Z J)
  (step : ∀ i v Z J (K' : Out -> zM -> zb -> Prop), xs[i]? = some v -> I i Z J -> (∀ o Z' J', (match o with | .next => I (i + 1) Z' J' | .ret u => K (.ret u) Z' J') -> K' o Z' J') -> chk J /\ zfJ t v Z J fun Z' => b Z' J K' noP)
  (fin : ∀ Z J, I xs.length Z J -> chk J /\ K .next Z J) : zie chk t b xs Z J K := by
 have key : ∀ (n i : Nat) (Z : zM) (J : zb), i + n = xs.length -> I i Z J -> zie chk t b (xs.drop i) Z J K := by
  intro n
  induction n with
  | zero =>
   intro i Z J hi hI
   have hi' : i = xs.length := by assumption
   subst hi'
   rw [kcZ]
   exact fin Z J hI
  | succ n ih =>
   intro i Z J hi hI
   have hlt : i < xs.length := by exact ltN (lit (@r3 (↑(i)) (↑(xs.length)) (↑(n))) V0 V1 [(2,1,.add V0 (.add V2 N1),V1),(0,1,N0,V2)] rfl (eqI hi) (nnI _))
   rw [kbT hlt]
   refine step i xs[i] Z J _ (by simp [hlt]) hI fun o Z' J' h => ?_
   cases o with
   | next => exact ih (i + 1) Z' J' (by exact eqN (liq (@r3 (↑(i)) (↑(n)) (↑(xs.length))) (.add (.add V0 N1) V1) V2 [(2,1,.add V0 (.add V1 N1),V2)] rfl (eqI hi))) h
   | ret u => exact h
 have := key xs.length 0 Z J (by exact eqN (liq (@r1 (↑(xs.length))) (.add N0 V0) V0 [] rfl)) h0
 simpa using this
theorem qj {chk j c} {e : EW} {Z : zM} {xs acc : List V} {J Q} (I : Nat -> List V -> zb -> Prop) (h0 : I 0 acc J)
  (step : ∀ i v acc J (K' : List V -> zb -> Prop), xs[i]? = some v -> I i acc J -> (∀ acc' J', I (i + 1) acc' J' -> K' acc' J') -> chk J /\ zfD c (yz Z j v) J fun b J1 => if b then e (yz Z j v) J1 (fun u J2 => K' (acc ++ [u]) J2) noP else K' acc J1)
  (fin : ∀ acc J, I xs.length acc J -> chk J /\ wb (.list acc) J Q) : zbx chk j c e Z xs acc J Q := by
 have key : ∀ (n i : Nat) (acc : List V) (J : zb), i + n = xs.length -> I i acc J -> zbx chk j c e Z (xs.drop i) acc J Q := by
  intro n
  induction n with
  | zero =>
   intro i acc J hi hI
   have hi' : i = xs.length := by assumption
   subst hi'
   rw [kcZ]
   exact fin acc J hI
  | succ n ih =>
   intro i acc J hi hI
   have hlt : i < xs.length := by exact ltN (lit (@r3 (↑(i)) (↑(xs.length)) (↑(n))) V0 V1 [(2,1,.add V0 (.add V2 N1),V1),(0,1,N0,V2)] rfl (eqI hi) (nnI _))
   rw [kbT hlt]
   exact step i xs[i] acc J (fun acc' J' => zbx chk j c e Z (xs.drop (i + 1)) acc' J' Q) (by simp [hlt]) hI fun acc' J' h => ih (i + 1) acc' J' (by exact eqN (liq (@r3 (↑(i)) (↑(n)) (↑(xs.length))) (.add (.add V0 N1) V1) V2 [(2,1,.add V0 (.add V1 N1),V2)] rfl (eqI hi))) h
 have := key xs.length 0 acc J (by exact eqN (liq (@r1 (↑(xs.length))) (.add N0 V0) V0 [] rfl)) h0
 simpa using this
theorem ze2 {c : EW} {b : SW} {Z J K} (I : zM -> zb -> Prop) (m : zM -> zb -> Nat) (h0 : I Z J)
  (step : ∀ Z J n (K' : Out -> zM -> zb -> Prop), I Z J -> m Z J = n -> (∀ o Z' J', (match o with | .next => I Z' J' /\ m Z' J' < n | .ret u => K (.ret u) Z' J') -> K' o Z' J') ->
   c Z J (fun v J1 => v.asBool fun t => if t then b Z J1 K' noP else K .next Z J1) noP) : ∃ n, zbF c b n Z J K := by
 refine ⟨m Z J + 1, ?_⟩
 have key : ∀ (N : Nat) (Z : zM) (J : zb), I Z J -> m Z J < N -> zbF c b N Z J K := by
  intro N
  induction N with
  | zero => intro Z J _ h; exact lif r1 [(1,1,V0,N0),(0,1,N0,V0)] rfl (ltI h) (nnI _)
  | succ N ih =>
   intro Z J hI hm
   refine step Z J (m Z J) _ hI rfl fun o Z' J' h => ?_
   cases o with
   | next => exact ih Z' J' h.1 (by have := h.2; exact ltN (lit r3 V0 V1 [(1,1,V2,.add V1 N1),(1,1,V0,V2)] rfl (ltI hm) (ltI h.2)))
   | ret u => exact h
 exact key _ Z J h0 (kbm _)

def Ext (J J' : zb) : Prop := ∀ a o, J a = some o -> J' a = some o
theorem Ext.refl {J} : Ext J J := fun _ _ h => h
theorem Ext.trans {a b c} (h : Ext a b) (h' : Ext b c) : Ext a c := fun x o e => h' x o (h x o e)
theorem Ext.put {JA J : zb} (h : Ext JA J) {c : Addr} (hc : JA c = none) (o : O) : Ext JA (put J c o) := fun a o' e => by
 rw [zY _ (by rintro rfl; rw [hc] at e; cases e)]; exact h a o' e
theorem Ext.none {J J' : zb} (h : Ext J J') {c : Addr} (hc : J' c = none) : J c = none := by
 cases e : J c with
 | none => rfl
 | some o => rw [h c o e] at hc; cases hc
theorem Ext.new {JA J : zb} (h : Ext JA J) {c : Addr} (hc : J c = .none) (o : O) : Ext JA (Mine.put J c o) := h.put (h.none hc) o

theorem zh {o : O} {J : zb} {Q : V -> zb -> Prop} (h : ∀ c J', J c = none -> Ext J J' -> J' c = some o -> Q (.ref c) J') : wb o J Q :=
 fun c hc => h c _ hc (Ext.refl.new hc o) (zz _ _ _)
theorem jt {J : zb} {a b : Addr} {o : O} (h : J a = some o) (h' : J b = none) : a ≠ b := by rintro rfl; rw [h] at h'; cases h'

noncomputable def zs (ns : List Int) : List V := ns.map .int
theorem qc (ns) : (zs ns).length = ns.length := by simp [zs]
theorem zcl {ns : List Int} {i : Nat} {n : Int} (h : ns[i]? = some n) : (zs ns)[i]? = some (.int n) := by simp [zs, h]
theorem zj5 (ns : List Int) (i : Nat) (n : Int) : (zs ns).set i (.int n) = zs (ns.set i n) := by simp [zs, kdj]
theorem zc7 (ns ms : List Int) : zs ns ++ zs ms = zs (ns ++ ms) := by simp [zs]
theorem zm1 {ns : List Int} {i : Nat} {v : V} (h : (zs ns)[i]? = some v) : ∃ n, ns[i]? = some n /\ v = .int n := by
 unfold zs at h; rw [kaJ] at h
 cases e : ns[i]? with
 | none => rw [e] at h; cases h
 | some n => rw [e] at h; cases h; exact ⟨n, rfl, rfl⟩
def qM (J : zb) (a : Addr) (ns : List Int) : Prop := J a = some (.list (zs ns))
theorem qM.ext {J J' a ns} (h : qM J a ns) (e : Ext J J') : qM J' a ns := e _ _ h

inductive Prs (J : zb) : List V -> List (Int × Int) -> Prop
 | nil : Prs J [] []
 | cons {t a b vs rs} : J t = some (.tup [.int a, .int b]) -> Prs J vs rs -> Prs J (.ref t :: vs) ((a, b) :: rs)
theorem Prs.ext {J J' vs rs} (h : Prs J vs rs) (e : Ext J J') : Prs J' vs rs := by
 induction h with
 | nil => exact .nil
 | cons h _ ih => exact .cons (e _ _ h) ih
theorem Prs.length {J vs rs} (h : Prs J vs rs) : vs.length = rs.length := by
 induction h with
 | nil => rfl
 | cons _ _ ih => simp [ih]
inductive PrG (J : zb) (v : V) (o : Option (Int × Int)) : Prop | mk (t a b) (h1 : v = .ref t) (h2 : o = some (a, b)) (h3 : J t = some (.tup [.int a, .int b])) : PrG J v o
theorem Prs.get {J vs rs} (h : Prs J vs rs) {i : Nat} {v : V} : vs[i]? = some v -> PrG J v rs[i]? := by
 induction h generalizing i with
 | nil => exact fun e => qJ rfl e
 | @cons t a b vs rs h _ ih => exact Nat.casesOn i (fun e => ⟨t, a, b, (Option.some.inj e).symm, rfl, h⟩) fun i e => ih (i := i) e
theorem Prs.append {J vs rs vs' rs'} (h : Prs J vs rs) (h' : Prs J vs' rs') : Prs J (vs ++ vs') (rs ++ rs') := by
 induction h with
 | nil => exact h'
 | cons h _ ih => exact .cons h ih
theorem Prs.take {J vs rs} (h : Prs J vs rs) (i : Nat) : Prs J (vs.take i) (rs.take i) := by
 induction h generalizing i with
 | nil => simp; exact .nil
 | cons h _ ih => cases i with
  | zero => exact .nil
  | succ i => exact .cons h (ih i)
theorem Prs.drop {J vs rs} (h : Prs J vs rs) (i : Nat) : Prs J (vs.drop i) (rs.drop i) := by
 induction h generalizing i with
 | nil => simp; exact .nil
 | cons h r ih => cases i with
  | zero => exact .cons h r
  | succ i => exact ih i
inductive zQ (J : zb) (a : Addr) (rs : List (Int × Int)) : Prop | mk (vs) (h1 : J a = some (.list vs)) (h2 : Prs J vs rs) : zQ J a rs
theorem zQ.ext {J J' a rs} (h : zQ J a rs) (e : Ext J J') : zQ J' a rs := let ⟨vs, h1, h2⟩ := h; ⟨vs, e _ _ h1, h2.ext e⟩

theorem zb5 (J : zb) : ∀ ns : List Int, Rds J (zs ns) (ns.map .int) := by
 intro r_
 induction r_ with
 | nil =>
  exact .nil
 | cons n r ih_ =>
  exact .cons (.int n) (ih_)
theorem qM.rd {J a ns} (h : qM J a ns) : Rd J (.ref a) (.list (ns.map .int)) := .list h (zb5 J ns)
theorem zaL : ∀ ns ms : List Int, PyData.eqvAll (ns.map .int) (ms.map .int) = decide (ns = ms)
 | [], [] => rfl
 | [], _ :: _ => rfl
 | _ :: _, [] => rfl
 | n :: r, m :: q => by
  simp only [kaO, PyData.eqvAll, PyData.eqv, zaL r q]
  by_cases h : n = m <;> by_cases h' : r = q <;> simp [h, h']
theorem zb2 : ∀ ns : List Int, PyData.canLayAll0 (ns.map .int) = true := by
 intro r_
 induction r_ with
 | nil =>
  exact rfl
 | cons n r ih_ =>
  simp [PyData.canLayAll0, PyData.canLay0, ih_]
theorem zfz : ∀ ns : List Int, PyData.depthAll (ns.map .int) = 0 := by
 intro r_
 induction r_ with
 | nil =>
  exact rfl
 | cons n r ih_ =>
  simp [PyData.depthAll, PyData.depth, ih_]
theorem zaJ (ns : List Int) : SeqAt.shaped (.list (ns.map .int)) = true := by
 simp [SeqAt.shaped, PyData.canLay0, PyData.depth, zb2, zfz]
theorem Eqv.zs {J a b ns ms} {k : Bool -> Prop} (ha : qM J a ns) (hb : qM J b ms) (hk : k (decide (ns = ms))) : Eqv J (.ref a) (.ref b) k :=
 ⟨_, _, ha.rd, hb.rd, zaJ _, zaJ _, by simpa [PyData.eqv, zaL] using hk⟩
def FnW (T : TC) (f : Str) (n k : Nat) (w : Nat -> SW) : Prop :=
 ∀ d vs J Q P, vs.length = n -> w d (zcU vs k) J (fun o _ J' => Q (match o with | .ret v => v | .next => .none) J') P -> zA T (d + 1) f vs J Q P
@[simp] theorem qf (v : V) (vs : List V) (k : Nat) : zcU (v :: vs) k = some v :: zcU vs k := rfl
@[simp] theorem qe : zcU [] 0 = [] := rfl
@[simp] theorem qi (k : Nat) : zcU [] (k + 1) = none :: zcU [] k := rfl
theorem zE {J : zb} {a xs} {k : List V -> Prop} (h : J a = some (.list xs)) (hk : k xs) : qY J a k := by rw [zar h]; exact hk
theorem wW {J : zb} {a xs} {k : List V -> Prop} (h : J a = some (.tup xs)) (hk : k xs) : zfM J a k := by rw [zmK h]; exact hk
theorem jc {J : zb} {a xs} {k : List (Int × V) -> Prop} (h : J a = some (.dict xs)) (hk : k xs) : yC J a k := by rw [zhb h]; exact hk
theorem qx {J : zb} {a xs} {k : List V -> Prop} (h : J a = some (.list xs)) (hk : k xs) : yE J a k := by rw [zcW h]; exact hk
theorem j2 {J : zb} {a xs} {k : List V -> Prop} (h : J a = some (.tup xs)) (hk : k xs) : yE J a k := by rw [zlK h]; exact hk
theorem zS {J : zb} {a} {xs : List V} {k : Nat -> Prop} (h : J a = some (.list xs)) (hk : k xs.length) : zaC J a k := by rw [zjY h]; exact hk
theorem zmN {J : zb} {a} {xs : List V} {k : Nat -> Prop} (h : J a = some (.tup xs)) (hk : k xs.length) : zaC J a k := by rw [zlL h]; exact hk
theorem zmP {J : zb} {a} {xs : List V} {k : Nat -> Prop} (h : J a = some (.ro xs)) (hk : k xs.length) : zaC J a k := by rw [zmO h]; exact hk
theorem zbf {J : zb} {a} {xs : List (Int × V)} {k : Nat -> Prop} (h : J a = some (.dict xs)) (hk : k xs.length) : zaC J a k := by rw [zjZ h]; exact hk
theorem ja {J : zb} {a xs} {k : List V -> Prop} (h : J a = some (.list xs)) (hk : k xs) : wg J a k := by rw [zjX h]; exact hk
theorem yk {xs : List V} {i v} {k : V -> Prop} (h : xs[i]? = some v) (hk : k v) : yR xs i k := by rw [yZ h]; exact hk
theorem zO {J : zb} {a xs} {k : List V -> (zb -> Prop) -> Prop} (h : J a = some (.list xs)) (hk : k xs fun J => J a = some (.list xs) \/ J a = some (.ro xs)) : zbN J a k := by rw [ziR h]; exact hk
theorem qD {b : Bool} {A B : Prop} (h : b = true) (ha : A) : if b = true then A else B := by rw [if_pos h]; exact ha
theorem qW {b : Bool} {A B : Prop} (h : b = false) (hb : B) : if b = true then A else B := by rw [h, if_neg kct]; exact hb
theorem znd {p : Prop} [Decidable p] (h : p) : (!decide p) = false := by rw [decide_eq_true h]; rfl
theorem zpt {p : Prop} [Decidable p] (h : ¬ p) : (!decide p) = true := by rw [decide_eq_false h]; rfl
end Mine
end
section
open PySem
namespace Mine
open PySem.Calls PyProof.Rows
section
variable {T : TC} {d : Nat} {sc : Scope} {ctx : List Str}
noncomputable def zp0 (neg : Bool) : CmpOp := if neg then .IsNot else .Is
theorem zml (neg : Bool) (r : Expr) : behindInMarks (zp0 neg) r = false := zf0 (by cases neg <;> rfl) r
noncomputable def V.isNone : V -> Bool
 | .none => true
 | _ => false
noncomputable def V.isTrue : V -> Bool
 | .bool true => true
 | _ => false
noncomputable def isNone (neg : Bool) (a : EW) : EW := fun Z J Q P => a Z J (fun v J1 => Q (.bool (if neg then !v.isNone else v.isNone)) J1) P
noncomputable def zok (neg : Bool) (a : EW) : EW := fun Z J Q P => a Z J (fun v J1 => Q (.bool (if neg then !v.isTrue else v.isTrue)) J1) P
theorem zoj (neg : Bool) {A E s v u} {Q : Value -> Shared -> Prop} (hv : VIs v u) (h : Q (.bool (if neg then !v.isNone else v.isNone)) s) : wpAny T.M A (compareOp (zp0 neg) u .none) Q E s := by
 cases neg
 ·cases hv <;> exact wpAny_is_plain (by rfl) h
 ·cases hv <;> exact wpAny_isNot_plain (by rfl) h
theorem ziy (neg : Bool) {l r pos op} {a : EW} (ho : op = zp0 neg) (hl : zC T d sc ctx l a) (hr : zC T d sc ctx r (val .none) := by exact zkw) : zcb T d sc ctx (.Compare l [op] [r] pos) (isNone neg a) := by
 subst ho
 intro A env Z J s Q P eo ro st fr hw
 refine wpAny_isTrue_Compare1 (hl.run eo ro st fr hw ?_) (zml neg r)
 intro va ua J1 sB v1 st1 p1 fr1 hw1
 refine hr.then eo ro p1 st1 fr1 (Q := fun v J2 => v = .none /\ Q (.bool (if neg then !va.isNone else va.isNone)) J2) ⟨rfl, hw1⟩ ?_
 intro vb ub J2 sM v2 st2 p2 fr2 hw2
 obtain ⟨rfl, hw3⟩ := hw2
 cases v2
 exact zoj neg v1 (ka5 ⟨_, st2, p2, hw3⟩)
noncomputable def zjD (a b : EW) : EW := fun Z J Q P => a Z J (fun va J1 => b Z J1 (fun vb J2 => va.asInt fun x => vb.asInt fun y => Q (.int (if y > x then y else x)) J2) P) P
noncomputable def zqm (a b : EW) : EW := fun Z J Q P => a Z J (fun va J1 => b Z J1 (fun vb J2 => va.asInt fun x => vb.asInt fun y => Q (.int (if y < x then y else x)) J2) P) P
theorem zky (ok : T.Ok) (B : Blt T) {p pos e f} {a b : EW} (h : zC T d sc ctx e a) (h' : zC T d sc ctx f b) (hx : sc.names.lookup ("max" : Str) = some .globalImplicit := by decide +kernel)
  (he1 : ∀ env, starEach (e :: [f]) env = (false, eval e env) :: starEach [f] env := by intro _; rfl) (he2 : ∀ env, starEach [f] env = [(false, eval f env)] := by intro _; rfl) (C : T.calm = true := by assumption) :
  zC T d sc ctx (.Call (.Name "max" p) [e, f] [] pos) (zjD a b) := by
 intro A env Z J s Q P eo ro st fr hw
 refine Call_ (wS ok eo st hx (B.none _ (by decide)) (v := .builtin "max") (by decide +kernel) (by decide) (by decide) ?_)
 refine callWith_builtin1 (args_cons (h.then eo ro .refl st fr hw fun v u J1 sB hv st1 p1 fr1 hw1 => ?_) (he1 env)) (he1 env) (by rw [he2 env]; rfl)
 refine args_cons (h'.then eo ro p1 st1 fr1 hw1 fun v' u' J2 sM hv' st2 p2 fr2 hw2 => args_nil ?_) (he2 env)
 obtain ⟨x, t, hw3⟩ := hw2.get hv
 obtain ⟨y, t', hw4⟩ := hw3.get hv'
 refine max_two_ints (ro.handled C) fun h' tk hk => ?_
 split
 ·rename_i hgt
  simp only [hgt, if_true] at hw4
  exact ⟨_, _, .int _ _, st2.grow hk tk, p2.grow hk tk, hw4⟩
 ·rename_i hgt
  simp only [hgt, if_false] at hw4
  exact ⟨_, _, .int _ _, st2.grow hk tk, p2.grow hk tk, hw4⟩
end
section
variable (Z : zM) (J : zb) (Q : V -> zb -> Prop) (P : Nat -> zb -> Prop)
@[simp] theorem zdD (neg) (a : EW) : isNone neg a Z J Q P = a Z J (fun v J1 => Q (.bool (if neg then !v.isNone else v.isNone)) J1) P := rfl
@[simp] theorem zds (neg) (a : EW) : zok neg a Z J Q P = a Z J (fun v J1 => Q (.bool (if neg then !v.isTrue else v.isTrue)) J1) P := rfl
@[simp] theorem zeC (a b : EW) : zjD a b Z J Q P = a Z J (fun va J1 => b Z J1 (fun vb J2 => va.asInt fun x => vb.asInt fun y => Q (.int (if y > x then y else x)) J2) P) P := rfl
@[simp] theorem zid (a b : EW) : zqm a b Z J Q P = a Z J (fun va J1 => b Z J1 (fun vb J2 => va.asInt fun x => vb.asInt fun y => Q (.int (if y < x then y else x)) J2) P) P := rfl
end
end Mine
end
section
open PySem
namespace Mine
open PySem.Calls PyProof.Rows
section
variable {T : TC} {d : Nat} {sc : Scope} {ctx : List Str}
inductive InV (J : zb) (va vb : V) (k : Bool -> Prop) : Prop | mk (da : PyData) (xs : List PyData) (h1 : Rd J va da) (h2 : Rd J vb (.list xs) \/ Rd J vb (.tuple xs)) (h3 : PyData.canLayAll0 xs = true) (h4 : da.canLay0 = true) (h5 : min (PyData.depthAll xs) da.depth <= 60) (h6 : k (xs.any fun y => PyData.eqv y da)) : InV J va vb k
noncomputable def inL (neg : Bool) (a b : EW) : EW := fun Z J Q P => a Z J (fun va J1 => b Z J1 (fun vb J2 => InV J2 va vb fun t => Q (.bool (if neg then !t else t)) J2) P) P
theorem zkR (neg : Bool) {A E s J va vb ua ub} {k : Bool -> Prop} {Q : Value -> Shared -> Prop} (ro : zaR T A d) (st : St T J s) (h : InV J va vb k) (ha : VIs va ua) (hb : VIs vb ub) (hq : ∀ t, k t -> Q (.bool (if neg then !t else t)) s) :
  wpAny T.M A (compareOp (znk neg) ua ub) Q E s := by
 obtain ⟨da, xs, r1, r2, s1, s2, hd, hk⟩ := h
 obtain ⟨as, h1⟩ := r1.reads st ha
 have hu : A.units + 1 + min (PyData.depthAll xs) da.depth < cLine := by have := ro.units; omega
 rcases r2 with r2 | r2
 ·obtain ⟨bs, h2⟩ := r2.reads st hb
  cases neg
  ·exact SeqAt.in_list_reads h2 h1 s1 s2 hu (hq _ hk)
  ·exact SeqAt.notIn_list_reads h2 h1 s1 s2 hu (hq _ hk)
 ·obtain ⟨bs, h2⟩ := r2.reads st hb
  cases neg
  ·exact SeqAt.in_tuple_reads h2 h1 s1 s2 hu (hq _ hk)
  ·exact SeqAt.notIn_tuple_reads h2 h1 s1 s2 hu (hq _ hk)
theorem zpn (neg : Bool) {l r pos op} {a b : EW} (ho : op = znk neg) (hl : zC T d sc ctx l a) (hr : zC T d sc ctx r b) (hm : behindInMarks op r = false := by rfl) : zC T d sc ctx (.Compare l [op] [r] pos) (inL neg a b) := by
 subst ho
 intro A env Z J s Q P eo ro st fr hw
 refine wpAny_Compare1 (hl.run eo ro st fr hw ?_) hm
 intro va ua J1 sB v1 st1 p1 fr1 hw1
 refine hr.then eo ro p1 st1 fr1 hw1 ?_
 intro vb ub J2 sM v2 st2 p2 fr2 hw2
 exact zkR neg ro st2 hw2 v1 v2 fun t ht => ⟨_, _, .bool _, st2, p2, ht⟩
theorem zdn (neg : Bool) {l r pos op} {a b : EW} (ho : op = znk neg) (hl : zC T d sc ctx l a) (hr : zC T d sc ctx r b) (hm : behindInMarks op r = false := by rfl) : zcb T d sc ctx (.Compare l [op] [r] pos) (inL neg a b) := by
 subst ho
 intro A env Z J s Q P eo ro st fr hw
 refine wpAny_isTrue_Compare1 (hl.run eo ro st fr hw ?_) hm
 intro va ua J1 sB v1 st1 p1 fr1 hw1
 refine hr.then eo ro p1 st1 fr1 hw1 ?_
 intro vb ub J2 sM v2 st2 p2 fr2 hw2
 exact zkR neg ro st2 hw2 v1 v2 fun t ht => ka5 ⟨_, st2, p2, ht⟩
end
section
variable (Z : zM) (J : zb) (Q : V -> zb -> Prop) (P : Nat -> zb -> Prop)
@[simp] theorem zom (neg) (a b : EW) : inL neg a b Z J Q P = a Z J (fun va J1 => b Z J1 (fun vb J2 => InV J2 va vb fun t => Q (.bool (if neg then !t else t)) J2) P) P := rfl
end
theorem InV.tup {J : zb} {t : Addr} {ns : List Int} {x : Int} {k : Bool -> Prop} (ht : J t = some (.tup (ns.map .int))) (hk : k (decide (x ∈ ns))) : InV J (.int x) (.ref t) k := by
 refine ⟨.int x, ns.map .int, .int x, .inr (.tup ht (zb5 J ns)), ?_, by rfl, by simp [PyData.depth], ?_⟩
 ·clear ht hk; induction ns with
  | nil => rfl
  | cons a r ih => simp [PyData.canLayAll0, PyData.canLay0, ih]
 ·have : ((ns.map PyData.int).any fun y => PyData.eqv y (.int x)) = decide (x ∈ ns) := by
   rw [kaS, kcV, kbV, decide_eq_true_eq]
   constructor
   ·intro hI0a
    obtain ⟨y, hy, h⟩ := hI0a
    simp only [Function.comp, PyData.eqv] at h
    have : y = x := by simpa using h
    exact this ▸ hy
   ·intro h; exact ⟨x, h, by simp [PyData.eqv]⟩
  rw [this]; exact hk
end Mine
namespace Mine
theorem lt_toNat {x m : Int} (h : x < m) : x < (m.toNat : Int) := by (first | lia | omega)
theorem yI {i : Nat} {m : Int} (h : (i : Int) < m) : i < m.toNat := by (first | lia | omega)
theorem qE {i : Nat} {m : Int} (hm : 0 <= m) (h : i < m.toNat) : (i : Int) < m := by (first | lia | omega)
theorem qP {m : Int} (h : 0 <= m) (h' : m <= 10) : small m := by unfold small; exact ⟨lin r1 (.neg (.num 4611686018427387904)) V0 [(0,1,N0,V0)] rfl h, lit r1 V0 (.num 4611686018427387904) [(0,1,V0,.num 10)] rfl h'⟩
theorem zdA {m : Int} (h' : m <= 10) : (rng 0 m.toNat).length <= lim := by rw [z9]; unfold lim; lia
theorem zpy {v : Nat} {m : Int} (hm : 0 <= m) (h : v ∈ kaa m.toNat) : (v : Int) < m := qE hm (kan.mp h)
theorem znM {α : Type} {a b v : α} {j : Nat} (h : [a, b][j]? = some v) : (j = 0 /\ a = v) \/ (j = 1 /\ b = v) := by
 cases j with
 | zero => exact .inl ⟨rfl, Option.some.inj h⟩
 | succ j => cases j with
  | zero => exact .inr ⟨rfl, Option.some.inj h⟩
  | succ j => cases h
theorem jM {x : Int} (h : 0 < x) : x ≠ 0 := by (first | lia | omega)
end Mine
end
open PySem Mine
section
open PySem
namespace Mine
section
variable (Z : zM) (J : zb) (Q : V -> zb -> Prop) (P : Nat -> zb -> Prop) (K : Out -> zM -> zb -> Prop)
theorem ze6 (v) : val v Z J Q P = Q v J := (rfl)
theorem zfn (i) : loc i Z J Q P = match jC Z i with | some v => Q v J | none => False := (rfl)
theorem zic (a b : EW) : zbU a b Z J Q P = a Z J (fun va J1 => b Z J1 (fun vb J2 => va.asInt fun x => vb.asInt fun y => IntMulOk x y /\ Q (.int (x * y)) J2) P) P := (rfl)
theorem zpG (a b : EW) : zdF a b Z J Q P = a Z J (fun va J1 => b Z J1 (fun vb J2 => va.asInt fun x => vb.asInt fun y => (y ≠ 0 /\ Builtin.divisionGoesByPylong x y = false) /\ Q (.int (x.fdiv y)) J2) P) P := (rfl)
theorem zgl (a b : EW) : wL a b Z J Q P = a Z J (fun va J1 => b Z J1 (fun vb J2 => va.asInt fun x => vb.asInt fun y => y ≠ 0 /\ Q (.int (x.fmod y)) J2) P) P := (rfl)
theorem zns (c) (a b : EW) : jv c a b Z J Q P = a Z J (fun va J1 => b Z J1 (fun vb J2 => va.asInt fun x => vb.asInt fun y => Q (.bool (c.run x y)) J2) P) P := (rfl)
theorem zpN (a b : EW) : zcI a b Z J Q P = a Z J (fun v J1 => v.asBool fun t => if t then b Z J1 Q P else Q (.bool false) J1) P := (rfl)
theorem zqc (a b : EW) : orW a b Z J Q P = a Z J (fun v J1 => v.asBool fun t => if t then Q (.bool true) J1 else b Z J1 Q P) P := (rfl)
theorem zpv (Q : List V -> zb -> Prop) : zF Z J Q P = Q [] J := (rfl)
theorem zov (a : EW) (r : EWs) (Q : List V -> zb -> Prop) : zi a r Z J Q P = a Z J (fun v J1 => r Z J1 (fun vs J2 => Q (v :: vs) J2) P) P := (rfl)
theorem zpk (a i : EW) : z8 a i Z J Q P = a Z J (fun va J1 => i Z J1 (fun vi J2 => va.asRef fun p => vi.asInt fun k => 0 <= k /\ yE J2 p fun xs => yR xs k.toNat fun v => Q v J2) P) P := (rfl)
theorem znh (a : EW) : j5 a Z J Q P = a Z J (fun v J1 => v.asRef fun p => zaC J1 p fun n => Q (.int n) J1) P := (rfl)
theorem zoA (T d f) (ws : EWs) : zD T d f ws Z J Q P = ws Z J (fun vs J1 => zA T d f vs J1 Q P) P := (rfl)
theorem zhC : qu Z J K P = K .next Z J := (rfl)
theorem zj8 (a b : SW) : zy a b Z J K P = a Z J (fun o Z1 J1 => match o with | .next => b Z1 J1 K P | .ret v => K (.ret v) Z1 J1) P := (rfl)
theorem zj9 (a : EW) : ji a Z J K P = a Z J (fun v J1 => K (.ret v) Z J1) P := (rfl)
theorem zik (i) (a : EW) : zW i a Z J K P = a Z J (fun v J1 => K .next (yz Z i v) J1) P := (rfl)
theorem zni (c : EW) (a b : SW) : j6 c a b Z J K P = c Z J (fun v J1 => v.asBool fun t => if t then a Z J1 K P else b Z J1 K P) P := (rfl)
theorem zaY (o : Option V) (r : zM) : jC (o :: r) 0 = o := (rfl)
theorem zaZ (o : Option V) (r : zM) (i : Nat) : jC (o :: r) (i + 1) = jC r i := (rfl)
theorem zfh (o : Option V) (r : zM) (v : V) : yz (o :: r) 0 v = some v :: r := (rfl)
theorem zfi (o : Option V) (r : zM) (i : Nat) (v : V) : yz (o :: r) (i + 1) v = o :: yz r i v := (rfl)
theorem zkV (v : V) (vs : List V) (k : Nat) : zcU (v :: vs) k = some v :: zcU vs k := (rfl)
theorem zkT : zcU [] 0 = [] := (rfl)
theorem zkU (k : Nat) : zcU [] (k + 1) = none :: zcU [] k := (rfl)
theorem j9 (i : Int) (k) : (V.int i).asInt k = k i := (rfl)
theorem yh (b : Bool) (k) : (V.bool b).asBool k = k b := (rfl)
theorem zfN (a : Addr) (k) : (V.ref a).asRef k = k a := (rfl)
end
end Mine
end
section
open PySem
namespace Mine
open PySem.Calls PyProof.Rows
section
variable {T : TC} {d : Nat} {sc : Scope} {ctx : List Str}
end
section
variable (Z : zM) (J : zb) (Q : V -> zb -> Prop) (K : Out -> zM -> zb -> Prop) (P : Nat -> zb -> Prop)
end
end Mine
end
section
open PySem
namespace Mine
open PySem.Calls PyProof.Rows
noncomputable def bmV : List Value := [.type "ValueError", .type "Exception", .type "BaseException", .type "object"]
noncomputable def zpU (x y : Nat) : Bool := x == y || y == 0
noncomputable def zo1 : List Str := ["__init__", "__getattribute__", "__getattr__", "__class__"]
inductive zjk (h : Heap) : List Value -> Prop
 | base : zjk h bmV
 | own {A : Addr} {c0 : Value} {dd : Option Addr} {cd : ClassData} {sl : Array (Option Value)} {mA : Str -> Option Value} {tl : List Value} :
   h.get? A = some { cls := c0, dict := dd, data := .cls cd, slots := sl } -> h.Ns cd.ns mA -> (∀ n ∈ zo1, mA n = none) -> zjk h tl -> zjk h (.ref A :: tl)
theorem zjk.old {h : Heap} {tl : List Value} (T : zjk h tl) : OwnTail h bmV tl := by
 induction T with
 | base => exact .base
 | own hA hN hq _ ih => exact .own hA hN (hq _ (.head _)) ih
theorem zjk.keeps {h h' : Heap} {tl : List Value} (T : zjk h tl) (hk : ∀ b o, h.get? b = some o -> h'.get? b = some o) : zjk h' tl := by
 induction T with
 | base => exact .base
 | own hA hN hq _ ih => exact .own (hk _ _ hA) (hN.keeps hk) hq ih
structure CP where
 nm : Str
 q : Str
 N : Addr
 bs : List Value
 bm : List Value
 hdct : Bool
 sn : List Str
 sub : List Value
 ab : Bool
 col : Option Bool
 dd : Option Addr
 k0 : Option Value
 k1 : Option Value
 k2 : Option Value
 k3 : Option Value
 k5 : Option Value
noncomputable abbrev CP.obj (p : CP) (C : Addr) (newId : String) : Obj := excClassObj p.nm p.q C p.N p.bs p.bm p.hdct p.sn p.sub p.ab p.col p.dd p.k0 p.k1 p.k2 p.k3 p.k5 newId
structure XAt (g0 : Str -> Option Value) (h₀ : Heap) (xs : List Nat) (x : Nat) (C : Addr) : Prop where
 mg : g0 (qS x) = some (.ref C)
 obj : ∃ (p : CP) (mN : Str -> Option Value), h₀.get? C = some (p.obj C "ValueError.__new__") /\ h₀.Ns p.N mN /\ (∀ n ∈ zo1, mN n = none) /\ zjk h₀ p.bm /\
  ∀ y ∈ xs, ∀ Cy, g0 (qS y) = some (.ref Cy) -> (Value.ref C :: p.bm).contains (.ref Cy) = zpU x y
def XG (mg : Str -> Option Value) (hb : Heap) (xs : List Nat) : Prop := ∀ x ∈ xs, ∃ C, XAt mg hb xs x C
abbrev XF (T : TC) (xs : List Nat) : Prop := XG T.mg T.hb xs
section
variable {T : TC} {d : Nat} {sc : Scope} {ctx : List Str}
noncomputable def zez (x : Nat) : SW := fun _ J _ P => P x J
theorem zdl (ok : T.Ok) {xs : List Nat} (X : XF T xs) {x : Nat} (hx : x ∈ xs) {n m : Str} (hn : n = qS x) {np cp pos k mp} (hk : sc.names.lookup n = some .globalImplicit) (hd : (n == ("__debug__" : Str)) = false) (C : T.calm = true := by assumption) :
  zbA T d sc ctx (.Raise (some (.Call (.Name n np) [.Constant (.str m) k mp] [] cp)) none pos) (zez x) := by
 subst hn
 intro A env Z J s K P eo ro st fr hw
 obtain ⟨Cx, hX⟩ := X x hx
 obtain ⟨p, mN, hC, hN, hni, hT, _⟩ := hX.obj
 refine wpAny_Raise_call_subU (C := Cx) (nm := p.nm) (q := p.q) (N := p.N) (bs := p.bs) (bm := p.bm) (hdct := p.hdct) (sn := p.sn) (sub := p.sub) (ab := p.ab) (col := p.col) (dd := p.dd) (k0 := p.k0) (k1 := p.k1) (k2 := p.k2) (k3 := p.k3) (k5 := p.k5)
  PySem.F.excBase_ValueError (by decide +kernel) PySem.F.excBase_ValueError (mN := mN) (hT.old.hasType (by decide +kernel)) (ro.handled C) rfl (hni _ (.head _))
  (Name_function_global (by rw [eo.scope]; exact eo.kind) (by rw [eo.kindOf]; exact hk) (loadGlobal_global (mg := T.mg) (by rw [eo.globals]; exact st.ns ok.g) hX.mg ⟨rfl, ?_⟩) hd)
 refine Calls.evalArgs_plain (Calls.spliced_cons (wpAny_Constant_str (k := k) (pos := mp) (Calls.spliced_nil ⟨rfl, kak rfl, st.base _ _ hC, st.ns hN, (hT.keeps st.base).old, fun h' e hm => ?_⟩)))
 obtain ⟨t, h1, h2, h3⟩ := hm.there
 have st1 := st.tok (s.toks + 1)
 have hb : T.hb.get? e = none := by
  cases q : T.hb.get? e with
  | none => rfl
  | some o => have := st.base _ _ q; rw [hm.new] at this; cases this
 refine ⟨x, J, st.grow hm.keeps _, (zR.refl (T := T) (X := own env) (J := J) (s := s)).grow hm.keeps _, ⟨e, Cx, _, _, rfl, hX.mg, ⟨hm.new, hb, st.noneFree hm.new⟩, h1, rfl, rfl, .inl rfl⟩, hw⟩
end
end Mine
end
section
open PySem
set_option maxRecDepth 100000
namespace Mine
open PySem.Calls PyProof.Rows
section
variable {prog : Program} {w : World} {M : Model} {A : Around} {E : Value -> Shared -> Prop} {h : Heap} {g : Array GenState} {d : Drawn} {t : Nat} {os : OsState} {a : Addr} {o : Obj}
 {p : CP} {C : Addr} {newId : String} {mN : Str -> Option Value}
variable {p' : CP} {Y : Addr} {newId' : String}
end
section
variable {T : TC} {d : Nat} {sc : Scope} {ctx : List Str}
end
end Mine
end
section
open PySem
set_option maxRecDepth 100000
namespace Mine
open PySem.Calls PyProof.Rows
section
variable {prog : Program} {w : World} {A : Around} {E : Value -> Shared -> Prop} {s : Shared}
end
section
variable {T : TC} {d : Nat} {sc : Scope} {ctx : List Str}
end
section
variable {prog : Program} {w : World} {A : Around} {R : Result -> Shared -> Prop} {I : Addr} {fp wr : List Addr} {n : Nat} {P : Nat -> Value -> Prop} {St : Nat -> Heap -> Prop}
end
section
variable {prog : Program} {w : World} {A : Around} {E : Value -> Shared -> Prop} {s : Shared}
end
section
variable {T : TC} {d : Nat} {sc : Scope} {ctx : List Str}
end
section
variable (Z : zM) (J : zb) (Q : V -> zb -> Prop) (K : Out -> zM -> zb -> Prop) (P : Nat -> zb -> Prop)
end
end Mine
end
section
open PySem
namespace Mine
open PySem.Calls PyProof.Rows
section
variable {T : TC} {d : Nat} {sc : Scope} {ctx : List Str}
noncomputable def enm : Nat -> List V -> List (Nat × V)
 | _, [] => []
 | k, v :: r => (k, v) :: enm (k + 1) r
theorem zfv : ∀ (k : Nat) (xs : List V), (enm k xs).length = xs.length
 | _, [] => rfl
 | k, _ :: r => congrArg (· + 1) (zfv (k + 1) r)
theorem zhV : ∀ (k : Nat) (xs : List V) (i : Nat) (a : Nat × V), (enm k xs)[i]? = some a -> xs[i]? = some a.2 /\ a.1 = k + i
 | _, [], i, a, h => by simp [enm] at h
 | k, v :: r, 0, a, h => by simp [enm] at h; subst h; exact ⟨rfl, rfl⟩
 | k, v :: r, i + 1, a, h => by
  have := zhV (k + 1) r i a (by simpa [enm] using h)
  exact ⟨by simpa using this.1, by exact eqN (liq (@r3 (↑(a.1)) (↑(k)) (↑(i))) V0 (.add V1 (.add V2 N1)) [(2,1,V0,.add (.add V1 N1) V2)] rfl (eqI this.2))⟩
noncomputable def zdw (Z : zM) (is : List Nat) : zM := is.foldl za8 Z
theorem zc1 : ∀ (is : List Nat) (Z : zM) (j : Nat) (u : V), jC (zdw Z is) j = some u -> j ∉ is /\ jC Z j = some u := by
 intro is_
 induction is_ with
 | nil =>
  intro Z j u h
  exact ⟨by simp, h⟩
 | cons i is ih_ =>
  intro Z j u h
  obtain ⟨h1, h2⟩ := ih_ (za8 Z i) j u h
  obtain ⟨h3, h4⟩ := wM _ _ _ _ h2
  exact ⟨by simp [h1, h3], h4⟩
theorem zcC : ∀ (is : List Nat) (vs : List V) (Z : zM) (j : Nat) (u : V), j ∉ is -> jC Z j = some u -> jC (zbH Z is vs) j = some u
 | [], _, Z, j, u, _, h => by simpa [zbH] using h
 | i :: is, [], Z, j, u, _, h => by simpa [zbH] using h
 | i :: is, v :: vs, Z, j, u, hn, h => by
  simp only [kah, not_or] at hn
  exact zcC is vs _ j u hn.2 (zbu Z i j v u hn.1 h)
abbrev zgK (e it l : Addr) (i : Nat) (h : Heap) : Prop := (∃ old, IsEnum h e it i old) /\ h.IsListIter it l i
theorem zlv {A : Around} {cenv : Env} {Z0 : zM} {es : List Expr} {is : List Nat} {k : _} {pt : Pos} {xs : List V} {e it l D : Addr} (eoc : jg sc cenv) (hh : A.handled = none) (hn : jX sc ctx true es is) (hl2 : is.length = 2) (hei : e ≠ it)
  (hwr : ∀ b ∈ [e, it], T.hb.get? b = none /\ b ∉ frs T) (hown : ∀ b ∈ [e, it], b ∉ own cenv) :
  zp3 T A ctx cenv Z0 (fun a : Nat × V => zbH Z0 is [.int a.1, a.2]) (.Tuple es k pt) (enm 0 xs) (fun J => J l = some (.list xs) \/ J l = some (.ro xs)) e D [cenv.locals, e, it] (zgK e it l) := by
 have hX : ∀ {J : zb}, (∀ b ∈ [cenv.locals, e, it], J b = none) -> ∀ b ∈ [e, it], J b = none := fun h b hb => h b (kal _ hb)
 have hLe : ∀ b ∈ [e, it], b ≠ cenv.locals := fun b hb h => hown b hb (by rw [h]; exact kaq ..)
 have frm : ∀ (i : Nat) (h h' : Heap), zgK e it l i h -> (∀ b o, b ∈ [e, it] -> h.get? b = some o -> h'.get? b = some o) -> zgK e it l i h' := fun i h h' w hk => by
  obtain ⟨⟨old, w1⟩, w2⟩ := w
  exact ⟨⟨old, hk e _ (by simp) w1⟩, w2.at fun o x => hk it o (by simp) x⟩
 refine ⟨fun i a J' s' K E hi w st' fr' hXs ck kk => ?_, fun J' s' K E w st' fr' hXs ck kk => ?_, fun i h h' w hk => frm i h h' w fun b o hb x => hk b o (kal _ hb) x, fun i h w b hb hno => ?_⟩
 ·obtain ⟨hx, ha⟩ := zhV 0 xs i a hi
  rw [kb8] at ha
  obtain ⟨⟨old, he⟩, hit⟩ := w
  obtain ⟨us, hl, hv, _⟩ := st'.list ck
  obtain ⟨u, hu, hvu⟩ := hv.get hx
  refine wpAny_pyNext_enum_item he hit hl (by simpa using hu) hei fun h₁ heo hit1 htB hz1 hkB => ?_
  refine wpAny_letOwnedTupleGo_enum heo fun h₂ heC hsC => ?_
  replace hsC : kbE e h₁ h₂ := hsC
  have htC : h₂.IsTuple s'.heap.objs.size #[.int i s'.toks, u] := ⟨_, (hsC.2 _ (kcg (kbq he))).trans htB, rfl, _, rfl⟩
  have hea := hn.each (env := cenv)
  refine wpAny_assign_Tuple hh htC (by rw [hea.1, hl2]; rfl) hea.2 fun h₃ hx3 => ?_
  replace hx3 : Heap.ExtBut h₂.objs.size h₂ h₃ := hx3
  have kD : ∀ b o, h₂.get? b = some o -> h₃.get? b = some o := fun b o x => hx3 b o (kbH (kbq x)) x
  have hk : ∀ b o, b ∉ [e, it] -> s'.heap.get? b = some o -> h₃.get? b = some o := fun b o hb x => by
   simp only [kah, kaM, or_false, not_or] at hb
   exact kD b o (hsC.extBut b o hb.1 (hkB b o hb.1 hb.2 x))
  have w3 : zgK e it l (i + 1) h₃ := by
   refine ⟨⟨u, kD e _ ?_⟩, (hit1.extBut hsC.extBut (Ne.symm hei)).at fun o x => kD it o x⟩
   have : ((i + 1 : Nat) : Int) = (i : Int) + 1 := by push_cast; rfl
   rw [this]; exact heC
  refine zkY eoc hn (st'.off (wr := [e, it]) (fun b hb => ⟨hX hXs b hb, hwr b hb⟩) hk (s'.toks + 1)) (fr'.off (wr := [e, it]) hown hk) (vs := [.int a.1, a.2]) (us := [.int i s'.toks, u]) ?_ hl2.symm fun s4 st4 fr4 p4 => ?_
  ·rw [ha]; exact .cons (.int _ _) (.cons hvu .nil)
  ·replace p4 : zR T [cenv.locals] J' { s' with heap := h₃, toks := s'.toks + 1 } J' s4 := p4
   refine kk s4 st4 fr4 (zR.trans (J1 := J') (sB := { s' with heap := h₃, toks := s'.toks + 1 }) ⟨fun c o hfc hc x => ⟨o, hk c o (fun h => hc (kal _ h)) x, .inl rfl⟩, fun c o x => ?_, fun c h => h, fun c h h' => by simp [h] at h'⟩ (p4.weaken (by intro c hc; rw [kaf.mp hc]; exact kaq ..)))
    (frm _ _ _ w3 fun b o hb x => p4.keepX (.inl (hX hXs b hb)) (fun h => hLe b hb (kaf.mp h)) (hwr b hb).2 x)
   by_cases hc : c ∈ [e, it]
   ·obtain ⟨⟨old', w1⟩, ⟨o2, w2, _⟩⟩ := w3
    rcases kah.mp hc with rfl | hc
    ·exact ⟨_, w1⟩
    ·rw [kaf.mp hc]; exact ⟨_, w2⟩
   ·exact ⟨o, hk c o hc x⟩
 ·obtain ⟨⟨old, he⟩, hit⟩ := w
  rw [zfv] at he hit
  obtain ⟨us, hl, hv, hz, _⟩ := st'.list ck
  refine wpAny_pyNext_enum_end hh he hit hl (by simp [hz]) fun h' hx' => ?_
  have hk : ∀ b o, b ∉ [e, it] -> s'.heap.get? b = some o -> h'.get? b = some o := fun b o hb x => hx' b o (fun h => hb (by simp [h])) x
  exact kk h' s'.toks (st'.off (wr := [e, it]) (fun b hb => ⟨hX hXs b hb, hwr b hb⟩) hk s'.toks) (fr'.off (wr := [e, it]) hown hk) fun b o hb x => hk b o (fun h => hb (kal _ h)) x
 ·obtain ⟨⟨old', w1⟩, ⟨o2, w2, _⟩⟩ := w
  rcases kah.mp hb with rfl | hb
  ·exact absurd (kaq ..) hno
  ·rcases kah.mp hb with rfl | hb
   ·exact ⟨_, w1⟩
   ·rw [kaf.mp hb]; exact ⟨_, w2⟩
def zo2 (p : Addr) (xs : List V) (is : List Nat) (c : Option EW) (e : EW) (Z : zM) (J : zb) (Q : V -> zb -> Prop) : Prop :=
 zaQ (fun J => J p = some (.list xs) \/ J p = some (.ro xs)) (fun a : Nat × V => zbH (zdw Z is) is [.int a.1, a.2]) c e (enm 0 xs) [] J Q
noncomputable def znr (is : List Nat) (a : EW) (c : Option EW) (e : EW) : EW := fun Z J Q P => a Z J (fun v J1 => v.asRef fun p => wg J1 p fun xs => zo2 p xs is c e Z J1 Q) P
structure zpf (sc : Scope) (ctx : List Str) (scope : Scope) (es : List Expr) (is : List Nat) : Prop extends CompB sc ctx scope where
 tgts : jX (zbE scope sc) ctx true es is
 two : is.length = 2
 only : ∀ i y, ctx[i]? = some y -> scope.names.lookup y = some .local -> i ∈ is
theorem zma (ok : T.Ok) (B : Blt T) {elt es k pt p pc pos ie ifs scope is} {a : EW} {c : Option EW} {we : EW} (co : zpf sc ctx scope es is) (ha : zC T d sc ctx ie a) (hx : sc.names.lookup ("enumerate" : Str) = some .globalImplicit) (hif : zcJ T d (zbE scope sc) ctx ifs c) (hel : zC T d (zbE scope sc) ctx elt we)
  (he : ∀ env, starEach [ie] env = [(false, eval ie env)] := by intro _; rfl) (Cm : T.calm = true := by assumption) :
  zC T d sc ctx (.ListComp elt [⟨.Tuple es k pt, .Call (.Name "enumerate" p) [ie] [] pc, ifs, 0⟩] scope pos) (znr is a c we) := by
 intro A env Z J s Q P eo ro st fr hw
 rw [eval_ListComp]
 obtain ⟨cl, hcl, h1, h2⟩ : ∃ cl, closureFor scope env = pure cl /\ (∀ x c, (x, c) ∈ cl -> env.cells.lookup x = some c) /\ (∀ y ∈ scope.names, y.2 = .free -> ∃ c, cl.lookup y.1 = some c) := by
  refine zfF fun y hy hf => ?_
  obtain ⟨hl, hnl, i, hi⟩ := co.free y hy hf
  have hk0 : env.kindOf y.1 = some .cell \/ env.kindOf y.1 = some .free := by
   rw [eo.kindOf]
   cases hz : sc.names.lookup y.1 with
   | none => rw [hz] at hl; cases hl
   | some kk =>
    rw [hz] at hl hnl
    cases kk <;> first | (cases hl; done) | exact absurd rfl hnl | exact .inl rfl | exact .inr rfl
  obtain ⟨c, o, g1, _⟩ := fr.cell i y.1 hi hk0
  exact ⟨c, g1⟩
 refine wpAny_comprehension_free (use := none) rfl (fun _ => rfl) hcl co.kind co.names ?_
 refine Call_ (wS ok eo st hx (B.none _ (by decide)) (v := .type "enumerate") (by decide +kernel) (by decide) (by decide) ?_)
 refine callWith_type1 (args_cons (ha.then eo ro .refl st fr hw fun v u J2 sM hv st2 p2 fr2 hw1 => args_nil ?_) (he env)) (he env) rfl
 obtain ⟨l, hw2⟩ := hw1.get hv
 obtain ⟨xs, hl, hw3⟩ := hw2.get
 obtain ⟨us, hL, hvs, hz, hlim⟩ := st2.list hl
 refine call_enumerate_list hL fun h₀ hen hit hsz0 hkA => ?_
 have hlt : l < sM.heap.objs.size := by obtain ⟨o, e, _⟩ := hL; exact kbq e
 generalize hN : sM.heap.objs.size = N at hen hit hsz0 hlt ⊢
 refine wpAny_pyIter_enum hen ?_
 have n2 : ∀ b, N <= b -> sM.heap.get? b = none := fun b hb => kbF (by rw [hN]; exact hb)
 have n0 : ∀ b, N <= b -> s.heap.get? b = none := fun b hb => by
  cases e : s.heap.get? b with
  | none => rfl
  | some o => obtain ⟨o', h'⟩ := p2.live b o e; rw [n2 b hb] at h'; cases h'
 have nb : ∀ b, N <= b -> T.hb.get? b = none := fun b hb => by
  cases e : T.hb.get? b with
  | none => rfl
  | some o => have := st2.base b o e; rw [n2 b hb] at this; cases this
 have nJ : ∀ b, N <= b -> J2 b = none := fun b hb => st2.noneFree (n2 b hb)
 have nf : ∀ b, N <= b -> b ∉ frs T := fun b hb => st2.notFr (n2 b hb)
 refine wpAny_newObj_type ?_
 generalize hH2 : h₀.push { cls := .type "list", dict := none, data := .seq ([] : List Value).toArray } = H2
 have hHD : IsL H2 (N + 2) #[] 0 := by rw [<- hH2, <- hsz0]; exact ka7 _ rfl
 have hC : H2.objs.size = N + 3 := by rw [<- hH2, kcf, hsz0]
 have e2 : ∀ b o, h₀.get? b = some o -> H2.get? b = some o := fun b o e => hH2 ▸ kax _ e
 refine wpAny_newFunctionEnv co.nocell (by intro y hy; simp at hy) (fun h₁ hns1 hsb1 => ?_) co.kind
 dsimp only at hns1 hsb1 ⊢
 rw [hC] at hns1 hsb1 ⊢
 have up : ∀ b o, H2.get? b = some o -> h₁.get? b = some o := fun b o e => hsb1.extBut b o (kbH (hC ▸ kbq e)) (kax _ e)
 have old : ∀ b o, sM.heap.get? b = some o -> h₁.get? b = some o := fun b o e => up b o (e2 b o (hkA b o e))
 have a0 : N <= N := kao _
 have a1 : N <= N + 1 := by exact kce _
 have a2 : N <= N + 2 := by exact leN (lin r1 V0 (.add V0 (.num 2)) [] rfl)
 have a3 : N <= N + 3 := by exact leN (lin r1 V0 (.add V0 (.num 3)) [] rfl)
 obtain ⟨frc, eoc⟩ := zfE (Z' := zdw Z is) (C := N + 3) (h' := h₁) eo fr2 co.toCompB (fun i y v hi hv => by
  obtain ⟨hne, hv'⟩ := zc1 _ _ _ _ hv
  exact ⟨hv', fun hq => hne (co.only i y hi hq)⟩) h1 h2 (nJ _ a3) (nb _ a3) old (n2 _ a3) (by simpa using hns1)
 have hcl' : ∀ y c', (y, c') ∈ cl -> ∃ o, s.heap.get? c' = some o := fun y c' hm => by
  obtain ⟨o, ob, e, _⟩ := (fr.cfree y c' (h1 y c' hm)).2
  exact ⟨ob, e⟩
 have hno : ∀ b, N <= b -> b ≠ N + 3 -> b ∉ own (compEnvC scope cl (N + 3) env) := fun b hb hb3 ho => by
  simp only [own, compEnvC, kah, kat] at ho
  rcases ho with h | ⟨⟨y, c'⟩, hm, rfl⟩
  ·exact hb3 h
  ·obtain ⟨o, e⟩ := hcl' y c' hm
   rw [n0 _ hb] at e; cases e
 have b01 : N + 1 ≠ N := by exact (fun h_ => lif (@r1 (↑(N))) [(2,1,.add V0 N1,V0)] rfl (eqI h_))
 have b03 : N ≠ N + 3 := by exact (fun h_ => lif r1 [(2,-1,V0,.add V0 (.num 3))] rfl (eqI h_))
 have b13 : N + 1 ≠ N + 3 := by exact (fun h_ => lif (@r1 (↑(N))) [(2,-1,.add V0 N1,.add V0 (.num 3))] rfl (eqI h_))
 have b23 : N + 2 ≠ N + 3 := by exact (fun h_ => lif (@r1 (↑(N))) [(2,-1,.add V0 (.num 2),.add V0 (.num 3))] rfl (eqI h_))
 have b20 : N + 2 ≠ N := by exact (fun h_ => lif (@r1 (↑(N))) [(2,1,.add V0 (.num 2),V0)] rfl (eqI h_))
 have b21 : N + 2 ≠ N + 1 := by exact (fun h_ => lif (@r1 (↑(N))) [(2,1,.add V0 (.num 2),.add V0 N1)] rfl (eqI h_))
 have two : ∀ {R : Addr -> Prop}, R (N + 1) -> R N -> ∀ b ∈ [N + 1, N], R b := fun h1 h2 b hb => by
  rcases kah.mp hb with rfl | hb
  ·exact h1
  ·rw [kaf.mp hb]; exact h2
 have three : ∀ {R : Addr -> Prop}, R (N + 3) -> R (N + 1) -> R N -> ∀ b ∈ [N + 3, N + 1, N], R b := fun h0 h1 h2 b hb => by
  rcases kah.mp hb with rfl | hb
  ·exact h0
  ·exact two h1 h2 b hb
 have hd := zlv (T := T) (A := A) (Z0 := zdw Z is) (xs := xs) (l := l) (D := N + 2) (k := k) (pt := pt) eoc (ro.handled Cm) co.tgts co.two b01 (two ⟨nb _ a1, nf _ a1⟩ ⟨nb _ a0, nf _ a0⟩) (two (hno _ a1 b13) (hno _ a0 b03))
 have w1 : zgK (N + 1) N l 0 h₁ := ⟨⟨_, up _ _ (e2 _ _ hen)⟩, hit.at fun o x => up _ _ (e2 _ _ x)⟩
 have ex : ∀ b, (∃ o, h₀.get? b = some o) -> ∃ o, h₁.get? b = some o := fun b h => let ⟨o, e⟩ := h; ⟨o, up _ _ (e2 _ _ e)⟩
 have loop : codeAny T.M A (.compLoop (.ListComp elt [⟨.Tuple es k pt, .Call (.Name "enumerate" p) [ie] [] pc, ifs, 0⟩] scope pos) 0 (.ref (N + 1)) (.ref (N + 2)) (compEnvC scope cl (N + 3) env)) (compPost T.M A (jA T [] J s P) none (zhe T J s Q) (.ref (N + 2)) (N + 3)) { sM with heap := h₁, toks := sM.toks + ([] : List (Str × Value)).length } := by
  refine zg7 hif hel eoc ro hd (fun a i w hw' => ?_) (three ⟨n0 _ a3, nf _ a3⟩ ⟨n0 _ a1, nf _ a1⟩ ⟨n0 _ a0, nf _ a0⟩) (three ?_ (ex _ ⟨_, hen⟩) (ex _ (let ⟨o, e, _⟩ := hit; ⟨o, e⟩))) ?_ (nf _ a2) (n0 _ a2) (nb _ a2) ?_ (hno _ a2 b23) (st2.grow old _) (p2.grow old _) frc w1 (three (nJ _ a3) (nJ _ a1) (nJ _ a0)) (nJ _ a2) (up _ _ hHD) (by rw [zfv]; exact hlim) hw3 fun J' s' m st' p' hn hCJ hq => ?_
  ·obtain ⟨hne, hg⟩ := zc1 _ _ _ _ hw'
   exact zcC is _ _ i w hne hw'
  ·obtain ⟨o, es', ep, ho, _⟩ := hns1; exact ⟨o, ho⟩
  ·intro h
   rcases kah.mp h with h | h
   ·exact b23 h
   ·rcases kah.mp h with h | h
    ·exact b21 h
    ·exact b20 (kaf.mp h)
  ·have := (st2.grow hkA sM.toks).big
   rw [show ({ sM with heap := h₀, toks := sM.toks } : Shared).heap.objs.size = N + 2 from hsz0] at this
   exact this
  ·refine ⟨m, hn, fun h' hs' => ⟨_, J', .ref (N + 2), ?_, ?_, hq⟩⟩
   ·exact st'.off (wr := [N + 3]) (by simp; exact ⟨hCJ, nb _ a3, nf _ a3⟩) (fun b o hb e => hs'.extBut b o (by simpa using hb) e) s'.toks
   ·exact p'.off (wr := [N + 3]) (by simpa using n0 _ a3) (fun b o hb e => hs'.extBut b o (by simpa using hb) e) s'.toks
 simp only [hsz0]
 exact codeAny_compStart_list loop (wpAny_pyIter_enum (up _ _ (e2 _ _ hen)) loop)
noncomputable def zqH (e : Expr) : Option Str := match e with
 | .Name x _ => some x
 | _ => none
theorem zpu {e : Expr} {x : Str} (h : zqH e = some x) : ∃ p, e = .Name x p := by
 cases e with
 | Name y p => exact ⟨p, Option.some.inj h ▸ rfl⟩
 | _ => exact qJ rfl h
noncomputable def zi4 (sc : Scope) (ctx : List Str) (es : List Expr) : List Nat -> Bool :=
 es.rec (fun is => is.isEmpty) fun e _ f is => is.rec false fun i r _ => (zqH e).any (fun x => ctx[i]? == some x && sc.names.lookup x == some .local) && f r
theorem zjB {sc : Scope} {ctx : List Str} {es : List Expr} : ∀ {is : List Nat}, zi4 sc ctx es is = true -> jX sc ctx true es is := by
 induction es with
 | nil =>
  intro is h
  cases is with
  | nil => exact .nil
  | cons => cases h
 | cons e r ih =>
  intro is h
  cases is with
  | nil => cases h
  | cons i is =>
   have h := ka9.mp h
   obtain ⟨x, hx, h1⟩ := (Option.any_eq_true _ _).mp h.1
   obtain ⟨p, rfl⟩ := zpu hx
   have h1 := ka9.mp h1
   exact .cons (eq_of_beq h1.1) (by rw [eq_of_beq h1.2]; rfl) (fun _ => eq_of_beq h1.2) (ih h.2)
noncomputable def znq (sc : Scope) (ctx : List Str) (scope : Scope) (es : List Expr) (is : List Nat) : Bool :=
 scope.kind == .function && scope.names.all (fun y => y.2 != .cell) && scope.names.all (fun y => y.2 != .local || scope.names.lookup y.1 == some .local) && is.length == 2 && zi4 (zbE scope sc) ctx es is &&
 scope.names.all (fun y => y.2 != .free || (zgL (sc.names.lookup y.1) && sc.names.lookup y.1 != some .local && ctx.contains y.1)) && (kaa ctx.length).all fun i => (ctx[i]?).all fun y => scope.names.lookup y != some .local || is.contains i
theorem zmF {sc ctx scope es is} (h : znq sc ctx scope es is = true) : zpf sc ctx scope es is := by
 unfold znq at h
 simp only [kaH, kaZ, kbt, bne_iff_ne, ne_eq, beq_iff_eq] at h
 obtain ⟨⟨⟨⟨⟨⟨h1, h2⟩, h3⟩, h4⟩, h5⟩, h6⟩, h7⟩ := h
 refine ⟨⟨h1, h2, fun y hy hl => ?_, fun y hy hf => ?_⟩, zjB h5, h4, fun i y hi hl => ?_⟩
 ·rcases h3 y hy with h | h
  ·exact absurd hl h
  ·exact h
 ·rcases h6 y hy with h | h
  ·exact absurd hf h
  ·exact ⟨h.1.1, h.1.2, kb2 (kbQ.mp h.2)⟩
 ·have := h7 i (kan.mpr (kae.mp hi).1)
  rw [hi] at this
  simp only [Option.all_some, kbt, bne_iff_ne, ne_eq] at this
  rcases this with h | h
  ·exact absurd hl h
  ·exact kbQ.mp h
end
end Mine
end
section
open PySem
namespace Mine
open PySem.Calls PyProof.Rows
section
variable {T : TC} {d : Nat} {sc : Scope} {ctx : List Str}
noncomputable def zeE : EW := fun Z J Q P => wb (.dict []) J Q
theorem zdm {pos} : zC T d sc ctx (.Dict [] [] pos) zeE := by
 intro A env Z J s Q P eo ro st fr hw
 refine wpAny_Dict_empty ?_
 exact ⟨_, _, .ref _, st.lay (fun b o e => kax _ e) (ka7 _ rfl) (so := .dict []) ⟨by simp, [], ⟨#[], 0, ⟨rfl, rfl, rfl⟩, rfl, fun _ he => by simp at he, Pairs.nil, kcv⟩, .nil⟩ s.toks, zR.refl.lay (fun b o e => kax _ e) _ s.toks, hw _ st.sizeFree⟩
noncomputable def zkg (a : EW) : EW := fun Z J Q P => a Z J (fun v J1 => v.asRef fun p => yC J1 p fun kvs => wb (.dict kvs) J1 Q) P
theorem zl9 (ok : T.Ok) (B : Blt T) {p pos e} {a : EW} (h : zC T d sc ctx e a) (hx : sc.names.lookup ("dict" : Str) = some .globalImplicit := by decide +kernel)
  (he : ∀ env, starEach [e] env = [(false, eval e env)] := by intro _; rfl) : zC T d sc ctx (.Call (.Name "dict" p) [e] [] pos) (zkg a) := by
 refine zhD ok h hx (B.none _ (by decide)) (id := "dict") (by decide +kernel) (by decide) (by decide) (fun Z J Q P hw => ⟨_, hw, fun A v u JA sa J1 sB E ro hv st1 p1 hw1 => ?_⟩) he
 obtain ⟨q, hw2⟩ := hw1.get hv
 obtain ⟨kvs, hx, hw3⟩ := hw2.get
 obtain ⟨us, hd, hk, hlim⟩ := st1.dict hx
 refine kt_call_dict (knd := intKind T.prog T.w) (st1.sysm _ (by simp [hx]) (st1.notScr hx (by intro xs e; cases e))) hd (by rw [hk.length]; exact kap hlim zag) fun h' hd' hs' => ?_
 have old : ∀ b o, sB.heap.get? b = some o -> h'.get? b = some o := fun b o e => hs'.extBut b o (kbH (kbq e)) (kax _ e)
 obtain ⟨o, ho, hi⟩ := kco.mp hd'
 exact ⟨_, _, .ref _, st1.lay old ho (so := .dict kvs) ⟨hlim, us, hi, hk⟩ sB.toks, p1.lay old _ sB.toks, hw3 _ st1.sizeFree⟩
noncomputable def zbL (kvs more : List (Int × V)) : List (Int × V) := more.foldl (fun acc kv => zgt acc kv.1 kv.2) kvs
theorem KVs.merge {kvs us more ms} (h : KVs kvs us) (h' : KVs more ms) : KVs (zbL kvs more) (merged us ms) := by
 induction h' generalizing kvs us with
 | nil => exact h
 | cons hv _ ih => exact ih (h.put _ hv)
theorem zfw : ∀ (more kvs : List (Int × V)), (zbL kvs more).length <= kvs.length + more.length
 | [], _ => kao _
 | kv :: r, kvs => by
  have h1 := zfw r (zgt kvs kv.1 kv.2)
  have h2 := zjc kvs kv.1 kv.2
  simp only [zbL, kbD, kag] at h1 ⊢
  lia
noncomputable def zpT (a b : EW) : EW := fun Z J Q P =>
 a Z J (fun va J1 => va.asRef fun p => yC J1 p (fun _ => True) /\ b Z J1 (fun vb J2 => vb.asRef fun q => p ≠ q /\ yC J2 p fun kvs => yC J2 q fun more => kvs.length + more.length <= lim /\ Q .none (put J2 p (.dict (zbL kvs more)))) P) P
theorem zpm {o e apos pos} {a b : EW} (h : zC T d sc ctx o a) (h' : zC T d sc ctx e b)
  (hbase : ∀ env, attributeBase o "update" env (eval o env) = eval o env := by intro _; rfl)
  (hline : (apos.endLine == pos.line) = true := by rfl)
  (htrees : ∀ env, backTo pos (starEach [e] env) = [(false, eval e env)] := by intro _; rfl) :
  zC T d sc ctx (.Call (.Attribute o "update" apos) [e] [] pos) (zpT a b) := by
 intro A env Z J s Q P eo ro st fr hw
 refine wpAny_Call_method1_late (hbase env) hline (htrees env) (h.run eo ro st fr hw fun va ua J1 sB v1 st1 p1 fr1 hw1 => ?_)
 obtain ⟨p, hw2, hw3⟩ := hw1.get v1
 obtain ⟨kv1, hxB, _⟩ := hw2.get
 obtain ⟨us1, hdB, _⟩ := st1.dict hxB
 refine ⟨"dict", "dict.update", F.plainAttrs_dict, F.slot_dict_update, F.type_dict_update, hdB.typeIs, hdB.mapOf.noDict, ?_⟩
 refine Calls.callWith_builtin rfl (Calls.evalArgs_plain (Calls.spliced_cons (h'.then eo ro p1 st1 fr1 hw3 fun vb ub J2 sM v2 st2 p2 fr2 hw4 => Calls.spliced_nil ?_)))
 obtain ⟨q, hne, hw5⟩ := hw4.get v2
 obtain ⟨kvs, hx, hw6⟩ := hw5.get
 obtain ⟨more, hy, hl, hw7⟩ := hw6.get
 obtain ⟨us, hd, hk, hlim⟩ := st2.dict hx
 obtain ⟨ms, hd', hk', hlim'⟩ := st2.dict hy
 refine call_meetsIn F.slot_dict_update hd.typeIs F.entry_dict_update (F.args_dict_update_2 _ _) (meets_dict_update (intKind T.prog T.w) p q hne (st2.sysm _ (by simp [hy]) (st2.notScr hy (by intro xs e; cases e)))) ⟨us, ms, hd, hd', by rw [hk.length, hk'.length]; exact kap hl zag, fun hh hdd _ hs => ?_⟩
 have hn := st2.notScr hx (by intro _ e; cases e)
 obtain ⟨ob, ho, hi⟩ := kco.mp hdd
 exact ⟨_, _, .none, st2.turn hx hn hs ho (so' := .dict (zbL kvs more)) ⟨kap (zfw _ _) hl, _, hi, hk.merge hk'⟩ sM.toks, p2.turn hx hn hs ho sM.toks, hw7⟩
theorem ze1 : ∀ {ns : List Int} {us : List Value}, yn (zs ns) us -> IntsAre us ns
 | [], _, h => by cases h; exact .nil
 | n :: ns, _, h => by
  cases h with
  | cons h1 h2 => cases h1; exact .cons n _ (ze1 h2)
theorem zkP : ∀ {ns : List Int} {us : List Value}, IntsAre us ns -> yn (zs ns) us
 | _, _, .nil => .nil
 | _, _, .cons n t h => .cons (.int n t) (zkP h)
noncomputable def zoW (a : EW) : EW := fun Z J Q P => a Z J (fun v J1 => v.asRef fun p => wg J1 p fun xs => ∃ ns, xs = zs ns /\ ns.length < 64 /\ ∀ ns' : List Int, ns'.Perm ns -> ns'.Pairwise (· <= ·) -> wb (.list (zs ns')) J1 Q) P
theorem znY (ok : T.Ok) (B : Blt T) {p pos e} {a : EW} (h : zC T d sc ctx e a) (hx : sc.names.lookup ("sorted" : Str) = some .globalImplicit := by decide +kernel)
  (he : ∀ env, starEach [e] env = [(false, eval e env)] := by intro _; rfl) : zC T d sc ctx (.Call (.Name "sorted" p) [e] [] pos) (zoW a) := by
 refine zfe ok h hx (B.none _ (by decide)) (id := "sorted") (by decide +kernel) (by decide) (by decide) (fun Z J Q P hw => ⟨_, hw, fun A v u JA sa J1 sB E ro hv st1 p1 hw1 => ?_⟩) he
 obtain ⟨q, hw2⟩ := hw1.get hv
 obtain ⟨xs, hx, ns, rfl, h64, hw3⟩ := hw2.get
 obtain ⟨us, hl, hvs, hz, hlim⟩ := st1.list hx
 rw [qc] at hz hlim
 refine sorted_ints (vs := us.toList) (ns := ns) (by simpa using hl) (ze1 hvs) (by simpa [hz] using h64) fun out ns' a1 a2 a3 => ?_
 have old : ∀ b o, sB.heap.get? b = some o -> (sortedAll sB.heap us.toList out).get? b = some o := fun b o e => sortedAll_old e
 obtain ⟨c, hat⟩ := sortedAll_at sB.heap us.toList out
 have st2 := st1.grow old sB.toks
 have n1 : sB.heap.get? (sB.heap.objs.size + 1) = none := kbF (kce _)
 refine ⟨_, put J1 (sB.heap.objs.size + 1) (.list (zs ns')), .ref _, st2.adopt (st1.notFr n1) (st1.noneFree n1) ?_ ?_ (h' := sortedAll sB.heap us.toList out) ⟨rfl, fun _ _ => rfl⟩ hat (so := .list (zs ns')) ⟨by rw [qc, a2.length_eq]; exact hlim, out, c, rfl, zkP a1⟩ sB.toks, (p1.grow old sB.toks).adopt ?_ (h' := sortedAll sB.heap us.toList out) ⟨rfl, fun _ _ => rfl⟩ hat _ sB.toks, hw3 ns' a2 a3 _ (st1.noneFree n1)⟩
 ·cases e : T.hb.get? (sB.heap.objs.size + 1) with
  | none => rfl
  | some ob => have := st1.base _ _ e; rw [n1] at this; cases this
 ·have := (st1.push { cls := .type "list", data := .seq #[] } sB.toks).big
  rw [show ({ sB with heap := sB.heap.push { cls := .type "list", data := .seq #[] }, toks := sB.toks } : Shared).heap.objs.size = sB.heap.objs.size + 1 from kcf ..] at this
  exact this
 ·cases e : sa.heap.get? (sB.heap.objs.size + 1) with
  | none => rfl
  | some ob => obtain ⟨o', h'⟩ := p1.live _ _ e; rw [n1] at h'; cases h'
noncomputable def zdb (ns : List Int) : Nat := (firstMet (fun i => ns.getD i 0) ns.length).length
noncomputable def zhL (a : EW) : EW := fun Z J Q P => a Z J (fun v J1 => v.asRef fun p => wg J1 p fun xs => ∃ ns, xs = zs ns /\ ns.length + 1 < 4096 /\ Q (.int (zdb ns)) J1) P
theorem zlh (ok : T.Ok) (B : Blt T) {p p' pos pos' e} {a : EW} (h : zC T d sc ctx e a) (hx : sc.names.lookup ("len" : Str) = some .globalImplicit) (hx' : sc.names.lookup ("set" : Str) = some .globalImplicit)
  (he : ∀ env, starEach [e] env = [(false, eval e env)] := by intro _; rfl) (C : T.calm = true := by assumption) : zC T d sc ctx (.Call (.Name "len" p) [.Call (.Name "set" p') [e] [] pos'] [] pos) (zhL a) := by
 intro A env Z J s Q P eo ro st fr hw
 refine Call_ (wS ok eo st hx (B.none _ (by decide)) (v := .builtin "len") (by decide +kernel) (by decide) (by decide) ?_)
 refine Calls.callWith_builtin rfl (Calls.evalArgs_plain (Calls.spliced_cons ?_))
 refine Call_ (wS ok eo st hx' (B.none _ (by decide)) (v := .type "set") (by decide +kernel) (by decide) (by decide) ?_)
 refine callWith_type1 (args_cons (h.then eo ro .refl st fr hw fun v u J1 sB hv st1 p1 fr1 hw1 => args_nil ?_) (he env)) (he env) rfl
 obtain ⟨q, hw2⟩ := hw1.get hv
 obtain ⟨xs, hx, ns, rfl, h64, hw3⟩ := hw2.get
 obtain ⟨us, hl, hvs, hz, hlim⟩ := st1.list hx
 rw [qc] at hz hlim
 refine call_set_list (ns := ns) (ro.handled C) hl (ze1 hvs) (by rw [hz]; exact h64) fun h' tk hS hk => Calls.spliced_nil ?_
 obtain ⟨o, es, ep, t, ho, hex, hd, _, _, hb, hf, hn⟩ := hS
 rw [hz] at hn
 refine call_len_set ho hex hd hf (by rw [hn]; have := firstMet_length_le (fun i => ns.getD i 0) ns.length; omega) ?_
 have old : ∀ b o, sB.heap.get? b = some o -> h'.get? b = some o := fun b o e => hk b o (kbq e) e
 rw [hn]
 exact ⟨_, _, .int _ _, (st1.grow old tk).tok _, (p1.grow old tk).tok _, hw3⟩
noncomputable def zp1 (a b : EW) : EW := fun Z J Q P =>
 a Z J (fun va J1 => va.asRef fun p => qY J1 p (fun _ => True) /\ b Z J1 (fun vb J2 => vb.asInt fun k => qY J2 p fun xs => ∃ ns j, xs = zs ns /\ ns[j]? = some k /\ (∀ m : Nat, m < j -> ns[m]? ≠ some k) /\ Q (.int (j : Nat)) J2) P) P
theorem zf2 : ∀ {us : List Value} {ns : List Int}, IntsAre us ns -> ∀ {j : Nat} {u : Value}, us[j]? = some u -> ∃ n t, ns[j]? = some n /\ u = .int n t
 | _, _, .nil, j, u, h => by simp at h
 | _, _, .cons n t r, 0, u, h => by simp at h; exact ⟨n, t, rfl, h.symm⟩
 | _, _, .cons n t r, j + 1, u, h => by simpa using zf2 r (by simpa using h)
theorem zpo {o e apos pos} {a b : EW} (h : zC T d sc ctx o a) (h' : zC T d sc ctx e b)
  (hbase : ∀ env, attributeBase o "index" env (eval o env) = eval o env := by intro _; rfl)
  (hline : (apos.endLine == pos.line) = true := by rfl)
  (htrees : ∀ env, backTo pos (starEach [e] env) = [(false, eval e env)] := by intro _; rfl) :
  zC T d sc ctx (.Call (.Attribute o "index" apos) [e] [] pos) (zp1 a b) := by
 intro A env Z J s Q P eo ro st fr hw
 refine wpAny_Call_method1_late (hbase env) hline (htrees env) (h.run eo ro st fr hw fun va ua J1 sB v1 st1 p1 fr1 hw1 => ?_)
 obtain ⟨p, hw2, hw3⟩ := hw1.get v1
 obtain ⟨xs1, hxB, _⟩ := hw2.get
 obtain ⟨us1, nB, hoB, _⟩ := st1.isL hxB
 refine ⟨"list", "list.index", F.plainAttrs_list, F.slot_list_index, F.type_list_index, ⟨_, hoB, rfl⟩, (fun a e => by cases e; exact ⟨_, hoB, rfl⟩), ?_⟩
 refine Calls.callWith_builtin rfl (Calls.evalArgs_plain (Calls.spliced_cons (h'.then eo ro p1 st1 fr1 hw3 fun vb ub J2 sM v2 st2 p2 fr2 hw4 => Calls.spliced_nil ?_)))
 obtain ⟨k, tk, hw5⟩ := hw4.get v2
 obtain ⟨xs, hx, ns, j, rfl, hj, hfirst, hw6⟩ := hw5.get
 obtain ⟨us, n, ho, hv, hz, hlim⟩ := st2.isL hx
 have hI := ze1 hv
 have hlen : us.size = ns.length := by have := hv.length; simpa [qc] using this
 have hjl : j < us.size := by rw [hlen]; exact (kae.mp hj).1
 refine call_meets F.slot_list_index ⟨_, ho, rfl⟩ F.entry_list_index (F.args_list_index_2 _ _) (MeetsSeq.list_index p us n (.int k tk) (isInt k) (fun y hy => eq_isInt k tk hI y (by simpa using hy)) j hjl (by rw [qc] at hlim; unfold lim at hlim; omega) ?_ fun m hm hmj => ?_) ⟨ho, ?_⟩
 ·obtain ⟨m, t, h1, h2⟩ := zf2 hI (j := j) (u := us[j]) (by simp [hjl])
  rw [h2]; rw [hj] at h1; cases h1; simp [isInt]
 ·obtain ⟨m', t, h1, h2⟩ := zf2 hI (j := m) (u := us[m]) (by simp [hm])
  rw [h2]
  have := hfirst m hmj
  rw [h1] at this
  simp only [ne_eq, Option.some.injEq] at this
  simp [isInt, this]
 ·exact ⟨_, _, .int _ _, st2.tok _, p2.tok _, hw6⟩
end
end Mine
end
section
open PySem
namespace Mine
open PyProof.Rows
section
variable {prog : Program} {w : World} {A : Around} {E : Value -> Shared -> Prop} {s : Shared} {aA : Array Keyed} {r : Value -> Int}
noncomputable def rk (r : Value -> Int) (xs : Array Keyed) (i : Nat) : Int := (xs[i]?).elim 0 fun p => r p.1
def Up (r : Value -> Int) (xs : Array Keyed) (k : Nat) : Prop := ∀ i j, i <= j -> j < k -> rk r xs i <= rk r xs j
def Dn (r : Value -> Int) (xs : Array Keyed) (k : Nat) : Prop := ∀ i j, i <= j -> j < k -> rk r xs j <= rk r xs i
def zl0 (prog : Program) (w : World) (A : Around) (s : Shared) (r : Value -> Int) (aA : Array Keyed) : Prop :=
 ∀ p q, p ∈ aA.toList -> q ∈ aA.toList -> ∀ (E : Value -> Shared -> Prop) (Q : Bool -> Shared -> Prop), Q (decide (r p.1 < r q.1)) s -> wpAny (model prog w) A (oneLt' true p.1 q.1) Q E s
theorem zb4 {xs ys : Array Keyed} {i j : Nat} (h : xs[i]? = ys[j]?) : rk r xs i = rk r ys j := by unfold rk; rw [h]
theorem at_ {st : SortSt} (hB : SBase aA st) {i : Nat} (hi : i < aA.size) : ∃ p, p ∈ aA.toList /\ (arrOf st)[i]? = some p /\ rk r (arrOf st) i = r p.1 := by
 have hi' : i < (arrOf st).size := by rw [hB.size]; exact hi
 have e : (arrOf st)[i]? = some (arrOf st)[i] := getElem?_pos _ i hi'
 exact ⟨_, (kc8.mp hB.perm).mem_iff.mp (by simp), e, by unfold rk; rw [e]; rfl⟩
theorem lt_ {st : SortSt} {i j : Nat} {Q : Option Bool -> SortSt -> Prop} (hO : zl0 prog w A s r aA) (hB : SBase aA st) (hi : i < aA.size) (hj : j < aA.size) (h : Q (some (decide (rk r (arrOf st) i < rk r (arrOf st) j))) st) : wpS (model prog w) A E s (ltAt' i j) Q st := by
 obtain ⟨p, hp, e1, k1⟩ := at_ (r := r) hB hi
 obtain ⟨q, hq, e2, k2⟩ := at_ (r := r) hB hj
 rw [k1, k2] at h
 rw [ltAt'_eq]
 refine wpS_bind (wpS_get ?_)
 show wpS _ _ _ _ (do let x <- elem' (arrOf st) i; let y <- elem' (arrOf st) j; lt' x y) Q st
 rw [elem'_eq, elem'_eq, e1, e2]
 refine wpS_bind (wpS_pure (wpS_bind (wpS_pure ?_)))
 rw [lt'_eq]
 refine wpS_bind (wpS_get ?_)
 rw [hB.kind, keyLt'_oneType]
 exact wpS_bind (wpS_lift (wpAny_attempt (hO p q hp hq _ _ ⟨rfl, wpS_pure h⟩)))
theorem Up.one {xs : Array Keyed} : Up r xs 1 := fun i j hij hj => by
 have : i = j := by exact eqN (kav ((leI hij)) (lin r2 V0 V1 [(1,1,V0,N1),(0,1,N0,V1)] rfl (ltI hj) (nnI _)))
 rw [this]; exact kaK _
theorem Up.snoc {xs : Array Keyed} {n : Nat} (hn : 1 <= n) (h : Up r xs n) (h' : rk r xs (n - 1) <= rk r xs n) : Up r xs (n + 1) := fun i j hij hj => by
 by_cases e : j = n
 ·subst e
  by_cases e' : i = j
  ·subst e'; exact kaK _
  ·exact kbS (h i (j - 1) (by lia) (by lia)) h'
 ·exact h i j hij (by exact ltN ((jW (lin r2 V0 V1 [(1,1,V0,.add V1 N1)] rfl (ltI hj)) e)))
theorem Dn.snoc {xs : Array Keyed} {n : Nat} (hn : 1 <= n) (h : Dn r xs n) (h' : rk r xs n <= rk r xs (n - 1)) : Dn r xs (n + 1) := fun i j hij hj => by
 by_cases e : j = n
 ·subst e
  by_cases e' : i = j
  ·subst e'; exact kaK _
  ·exact kbS h' (h i (j - 1) (by lia) (by lia))
 ·exact h i j hij (by exact ltN ((jW (lin r2 V0 V1 [(1,1,V0,.add V1 N1)] rfl (ltI hj)) e)))
theorem zqI {st : SortSt} {a n : Nat} {Q : AscSt -> SortSt -> Prop} (hO : zl0 prog w A s r aA) (hn : n <= aA.size) (ha : 1 <= a) (han : a <= n) (hB : SBase aA st) (hs : Up r (arrOf st) a)
  (h : ∀ k, a <= k -> k <= n -> Up r (arrOf st) k -> (k = n \/ rk r (arrOf st) k < rk r (arrOf st) (k - 1)) -> Q (none, k) st) : wpS (model prog w) A E s (ascLoop a n) Q st := by
 unfold ascLoop
 refine wpS_forRange (I := fun x c st' => st' = st /\ c = (none, x) /\ Up r (arrOf st) x) ?_ ?_ ⟨rfl, rfl, hs⟩
 ·rintro x c st' h1 h2 ⟨rfl, rfl, hx⟩
  refine wpS_bind (lt_ hO hB (kaU h2 hn) (by lia) ?_)
  by_cases hl : rk r (arrOf st') x < rk r (arrOf st') (x - 1)
  ·simp only [hl, decide_true, if_true]
   exact wpS_pure (h x h1 (kaX h2) hx (.inr hl))
  ·simp only [hl, decide_false, kad, if_false]
   exact wpS_pure ⟨rfl, rfl, hx.snoc (kap ha h1) (kb9.mp hl)⟩
 ·rintro c st' ⟨rfl, rfl, hx⟩
  rw [kcH han] at hx ⊢
  exact h n han (kao _) hx (.inl rfl)
theorem zpW {xs : Array Keyed} {i j : Nat} (hj : j <= xs.size) (k : Nat) : rk r (mirror xs i j ((j - i) / 2)) k = if i <= k /\ k < j then rk r xs (i + j - 1 - k) else rk r xs k := by
 have e := getElem?_mirror_all (i := i) hj k
 by_cases h : i <= k /\ k < j
 ·rw [if_pos h] at e ⊢; exact zb4 e
 ·rw [if_neg h] at e ⊢; exact zb4 e
theorem zng {xs : Array Keyed} {i j : Nat} (hj : j <= xs.size) (he : ∀ k, i <= k -> k < j -> rk r xs k = rk r xs (j - 1)) (k : Nat) : rk r (mirror xs i j ((j - i) / 2)) k = rk r xs k := by
 rw [zpW hj]
 by_cases h : i <= k /\ k < j
 ·rw [if_pos h, he _ (by lia) (by lia), he k h.1 h.2]
 ·rw [if_neg h]
theorem Dn.cong {xs ys : Array Keyed} {n : Nat} (h : Dn r xs n) (e : ∀ k, rk r ys k = rk r xs k) : Dn r ys n := fun i j hij hj => by rw [e, e]; exact h i j hij hj
def Fnd (r : Value -> Int) (aA : Array Keyed) (n : Nat) (Q : Option Nat -> SortSt -> Prop) : Prop := ∀ m st', SBase aA st' -> 1 <= m -> m <= n -> Up r (arrOf st') m -> Q (some m) st'
theorem zoS {st : SortSt} {k n : Nat} {Q : Option Nat -> SortSt -> Prop} (hO : zl0 prog w A s r aA) (hn : n <= aA.size) (h1 : 1 <= k) (hk : k <= n) (hB : SBase aA st) (hs : Dn r (arrOf st) k) (h : Fnd r aA n Q) : wpS (model prog w) A E s (tail3 k n) Q st := by
 unfold tail3
 have hsz : k <= (arrOf st).size := by rw [hB.size]; exact kap ‹_› ‹_›
 refine wpS_bind (wpS_reverse ?_)
 have hB' : SBase aA (setArr st (mirror (arrOf st) 0 k ((k - 0) / 2))) := hB.setArr (mirror_perm _ _ _ _)
 refine wpS_bind (zqI (r := r) hO hn h1 hk hB' (fun i j hij hj => ?_) fun m a b c _ => wpS_pure (h m _ hB' (kap h1 a) b c))
 show rk r (mirror (arrOf st) 0 k ((k - 0) / 2)) i <= rk r (mirror (arrOf st) 0 k ((k - 0) / 2)) j
 rw [zpW hsz, zpW hsz, if_pos ⟨kbl _, kaI hij hj⟩, if_pos ⟨kbl _, hj⟩]
 exact hs _ _ (Nat.sub_le_sub_left hij _) (kaI (kdf _ _) (by rw [kb8]; exact Nat.sub_lt h1 Nat.one_pos))
structure DI (r : Value -> Int) (aA : Array Keyed) (x q : Nat) (st : SortSt) : Prop where
 b : SBase aA st
 d : Dn r (arrOf st) x
 q1 : q + 1 <= x
 e : ∀ i, x - (q + 1) <= i -> i < x -> rk r (arrOf st) i = rk r (arrOf st) (x - 1)
theorem DI.rev {st : SortSt} {x q : Nat} (h : DI r aA x q st) (hx : x <= aA.size) (k : Nat) : rk r (mirror (arrOf st) (x - (q + 1)) x ((x - (x - (q + 1))) / 2)) k = rk r (arrOf st) k :=
 zng (by rw [h.b.size]; exact hx) h.e k
theorem DI.zero {st : SortSt} {x : Nat} (b : SBase aA st) (d : Dn r (arrOf st) x) (h : 1 <= x) : DI r aA x 0 st := ⟨b, d, h, fun i h1 h2 => by
 have : i = x - 1 := by lia
 rw [this]⟩
theorem zo3 {st : SortSt} {k n : Nat} {Q : Option Nat -> SortSt -> Prop} (hO : zl0 prog w A s r aA) (hn : n <= aA.size) (hk : k + 1 <= n) (hB : SBase aA st) (hs : Dn r (arrOf st) (k + 1)) (h : Fnd r aA n Q) : wpS (model prog w) A E s (descPart k n) Q st := by
 unfold descPart descLoop
 refine wpS_bind (wpS_lift (wpAny_rule ⟨rfl, ?_⟩))
 have fin : ∀ x q st', x <= n -> DI r aA x q st' -> wpS (model prog w) A E s (if q > 0 then do reverseSlice' (x - (q + 1)) x; tail3 x n else tail3 x n) Q st' := fun x q st' hx I => by
  have h1 : 1 <= x := kap (kb7 (kbl q)) I.q1
  by_cases hq : q > 0
  ·rw [if_pos hq]
   exact wpS_bind (wpS_reverse (zoS hO hn h1 hx (I.b.setArr (mirror_perm _ _ _ _)) (I.d.cong (I.rev (kap hx hn))) h))
  ·rw [if_neg hq]
   exact zoS hO hn h1 hx I.b I.d h
 refine wpS_bind (wpS_forRange (I := fun x c st' => ∃ q, c = (none, x, q) /\ DI r aA x q st') ?_ ?_ ⟨0, rfl, .zero hB hs (kb7 (kbl _))⟩)
 ·rintro x c st' h1 h2 ⟨q, rfl, I⟩
  have hx1 : 1 <= x := kap (kb7 (kbl _)) h1
  have hx : x < aA.size := kaU h2 hn
  have hx' : x - 1 < aA.size := kaI (kdf _ _) hx
  refine wpS_bind (lt_ hO I.b hx hx' ?_)
  by_cases hl : rk r (arrOf st') x < rk r (arrOf st') (x - 1)
  ·simp only [hl, decide_true, if_true]
   by_cases hq : q > 0
   ·rw [if_pos hq]
    exact wpS_bind (wpS_reverse (wpS_pure ⟨0, rfl, .zero (I.b.setArr (mirror_perm _ _ _ _)) ((I.d.snoc hx1 (kaF hl)).cong (I.rev (kaX hx))) (kb7 (kbl _))⟩))
   ·rw [if_neg hq]
    exact wpS_pure ⟨0, rfl, .zero I.b (I.d.snoc hx1 (kaF hl)) (kb7 (kbl _))⟩
  ·simp only [hl, decide_false, kad, if_false]
   refine wpS_bind (lt_ hO I.b hx' hx ?_)
   by_cases hg : rk r (arrOf st') (x - 1) < rk r (arrOf st') x
   ·simp only [hg, decide_true, if_true]
    exact wpS_pure (fin x q st' (kaX h2) I)
   ·simp only [hg, decide_false, kad, if_false]
    have e : rk r (arrOf st') x = rk r (arrOf st') (x - 1) := kav (kb9.mp hg) (kb9.mp hl)
    refine wpS_pure ⟨q + 1, rfl, I.b, I.d.snoc hx1 (Int.le_of_eq e), kb7 I.q1, fun i a b => ?_⟩
    rw [kdI]
    by_cases hi : i = x
    ·rw [hi]
    ·rw [e]; exact I.e i (by lia) (by exact ltN ((jW (lin r2 V0 V1 [(1,1,V0,.add V1 N1)] rfl (ltI b)) hi)))
 ·rintro c st' ⟨q, rfl, I⟩
  rw [kcH hk] at I ⊢
  exact fin n q st' (kao _) I
theorem zpJ {st : SortSt} {n : Nat} {Q : Option Nat -> SortSt -> Prop} (hO : zl0 prog w A s r aA) (hn : n <= aA.size) (h1 : 1 <= n) (hB : SBase aA st) (h : Fnd r aA n Q) : wpS (model prog w) A E s (countRun' 0 n) Q st := by
 rw [countRun0_eq]
 refine wpS_bind (zqI (r := r) hO hn (kao 1) h1 hB .one fun k hk1 hk2 hk hor => ?_)
 by_cases hkn : k = n
 ·simp only [hkn, beq_self_eq_true, if_true]
  rw [hkn] at hk
  exact wpS_pure (h n st hB h1 (kao _) hk)
 ·have hlt := hor.resolve_left hkn
  have hb : (k == n) = false := beq_false_of_ne hkn
  simp only [hb, kad, if_false]
  by_cases hgt : k > 1
  ·rw [if_pos hgt]
   refine wpS_bind (lt_ hO hB (by exact ltN (lit r2 N0 V0 [(0,1,V1,V0),(0,1,N1,V1)] rfl (leI hn) (leI h1))) (by lia) ?_)
   by_cases hr : rk r (arrOf st) 0 < rk r (arrOf st) (k - 1)
   ·simp only [hr, decide_true, if_true]
    exact wpS_pure (h k st hB hk1 hk2 hk)
   ·simp only [hr, decide_false, kad, if_false]
    have all : ∀ j, 0 <= j -> j < k -> rk r (arrOf st) j = rk r (arrOf st) (k - 1) := fun j _ hj =>
     kav (hk j (k - 1) (by lia) (by lia)) (kbS (kb9.mp hr) (hk 0 j (kbl _) hj))
    refine wpS_bind (wpS_reverse (zo3 (r := r) hO hn (by exact leN (lin r2 (.add V0 N1) V1 [(1,1,V0,V1)] rfl (jW ((leI hk2)) hkn))) (hB.setArr (mirror_perm _ _ _ _)) (Dn.cong (Dn.snoc hk1 (fun i j hij hj => ?_) (kaF hlt)) (zng (by rw [hB.size]; exact kap ‹_› ‹_›) all)) h))
    rw [all i (kbl _) (kaI hij hj), all j (kbl _) hj]; exact kaK _
  ·rw [if_neg hgt]
   have e : k = 1 := by exact eqN (kav ((nuI hgt)) ((leI hk1)))
   subst e
   refine zo3 hO hn (by exact leN (lin r1 (.add N1 N1) V0 [(1,1,N1,V0)] rfl (jW ((leI h1)) hkn))) hB (Dn.snoc (kao 1) (fun i j hij hj => ?_) (kaF hlt)) h
   have : i = j := by exact eqN (kav ((leI hij)) (lin r2 V0 V1 [(1,1,V0,N1),(0,1,N0,V1)] rfl (ltI hj) (nnI _)))
   rw [this]; exact kaK _
theorem zq1 {xs : Array Keyed} {k l : Nat} (hk : k < xs.size) (hl : l <= k) (hs : Up r xs k) (lo : ∀ i, i < l -> rk r xs i <= rk r xs k) (hi : ∀ i, l <= i -> i < k -> rk r xs k < rk r xs i) : Up r (bubble xs k (k - l)) (k + 1) := by
 have key : ∀ i, rk r (bubble xs k (k - l)) i = if i = l then rk r xs k else if l < i /\ i <= k then rk r xs (i - 1) else rk r xs i := fun i => by
  have e := getElem?_bubble hk (k - l) (by lia) i
  rw [show k - (k - l) = l by lia] at e
  by_cases h1 : i = l
  ·rw [if_pos h1] at e ⊢; exact zb4 e
  ·rw [if_neg h1] at e ⊢
   by_cases h2 : l < i /\ i <= k
   ·rw [if_pos h2] at e ⊢; exact zb4 e
   ·rw [if_neg h2] at e ⊢; exact zb4 e
 have lowi : ∀ i, i < l -> rk r (bubble xs k (k - l)) i = rk r xs i := fun i h => by rw [key, if_neg (by exact (fun h_ => lif r2 [(1,1,V0,V1),(2,-1,V0,V1)] rfl (ltI h) (eqI h_))), if_neg (by exact (fun h_ => lif r2 [(1,1,V0,V1),(1,1,V1,V0)] rfl (ltI h) (ltI h_.1)))]
 have mid : rk r (bubble xs k (k - l)) l = rk r xs k := by rw [key, if_pos rfl]
 have top : ∀ i, l < i -> i <= k -> rk r (bubble xs k (k - l)) i = rk r xs (i - 1) := fun i h h' => by rw [key, if_neg (by exact kcg ‹_›), if_pos ⟨h, h'⟩]
 intro i j hij hj
 have hjk := kbz hj
 rcases kcC j l with h | h | h
 ·rw [lowi j h, lowi i (kaI hij h)]; exact hs i j hij (kaU h hl)
 ·subst h
  rw [mid]
  by_cases e : i = j
  ·rw [e, mid]; exact kaK _
  ·have := kdH hij e
   rw [lowi i this]; exact lo i this
 ·cases j with
  | zero => exact absurd h (kcp _)
  | succ j =>
   have hlj := kbz h
   rw [top (j + 1) h hjk]
   show _ <= rk r xs j
   rcases kcC i l with g | g | g
   ·rw [lowi i g]; exact hs i j (kap (kaX g) hlj) hjk
   ·rw [g, mid]; exact kaF (hi j hlj hjk)
   ·cases i with
    | zero => exact absurd g (kcp _)
    | succ i =>
     rw [top (i + 1) g (kap hij hjk)]
     exact hs i j (Nat.le_of_succ_le_succ hij) hjk
theorem zqX {l t : Nat} (h : l < t) : l <= (l + t) / 2 /\ (l + t) / 2 < t := by lia
inductive BI (r : Value -> Int) (xs : Array Keyed) (k x : Nat) (c : Option Bool × Nat × Nat) : Prop
 | mk (l t : Nat) (e : c = (none, l, t)) (h1 : l <= t) (h2 : t <= k) (h3 : t + x <= k + l) (lo : ∀ i, i < l -> rk r xs i <= rk r xs k) (hi : ∀ i, t <= i -> i < k -> rk r xs k < rk r xs i) : BI r xs k x c
theorem zq2 {st : SortSt} {n ok : Nat} {Q : Bool -> SortSt -> Prop} (hO : zl0 prog w A s r aA) (hn : n <= aA.size) (h1 : 1 <= ok) (hok : ok <= n) (hB : SBase aA st) (hs : Up r (arrOf st) ok)
  (h : ∀ st', SBase aA st' -> Up r (arrOf st') n -> Q true st') : wpS (model prog w) A E s (binarySort' 0 n ok) Q st := by
 rw [binarySort'_eq]
 simp only [kb8, Nat.max_eq_left h1]
 refine wpS_bind (wpS_mono (wpS_forRange (I := fun k c st' => c = (none, ()) /\ SBase aA st' /\ Up r (arrOf st') k) (Q := fun c st' => c = (none, ()) /\ SBase aA st' /\ Up r (arrOf st') n) ?_ ?_ ⟨rfl, hB, hs⟩) ?_)
 ·rintro k c st' h2 h3 ⟨rfl, hB', hs'⟩
  have hk : k < aA.size := kaU h3 hn
  refine wpS_bind (wpS_mono (wpS_forRange (I := fun x c st'' => st'' = st' /\ BI r (arrOf st') k x c) (Q := fun c st'' => st'' = st' /\ BI r (arrOf st') k k c) ?_ ?_ ⟨rfl, 0, k, rfl, kbl _, kao _, kao _, fun i hi => absurd hi (kcp _), fun i a b => absurd b (kbW.mpr a)⟩) ?_)
  ·rintro x c st'' _ hxk ⟨rfl, l, t, rfl, hlt, htk, hm, lo, hi⟩
   dsimp only
   by_cases hge : l ≥ t
   ·rw [if_pos hge]
    exact wpS_pure ⟨rfl, l, t, rfl, hlt, htk, by exact leN (lin (@r3 (↑(t)) (↑(k)) (↑(l))) (.add V0 V1) (.add V1 V2) [(0,1,V0,V2)] rfl (leI hge)), lo, hi⟩
   ·rw [if_neg hge]
    obtain ⟨q1, q2⟩ := zqX (Nat.lt_of_not_le hge)
    generalize (l + t) / 2 = q at q1 q2 ⊢
    have q3 := kaU q2 htk
    refine wpS_bind (lt_ hO hB' hk (kcX q3 hk) ?_)
    by_cases hl : rk r (arrOf st'') k < rk r (arrOf st'') q
    ·simp only [hl, decide_true, if_true]
     exact wpS_pure ⟨rfl, l, q, rfl, q1, kaX q3, by exact leN (lin (@r5 (↑(q)) (↑(x)) (↑(k)) (↑(l)) (↑(t))) (.add V0 (.add V1 N1)) (.add V2 V3) [(0,1,.add V4 V1,.add V2 V3),(1,1,V0,V4)] rfl (leI hm) (ltI q2)), lo, fun i a b => Int.lt_of_lt_of_le hl (hs' _ _ a b)⟩
    ·simp only [hl, decide_false, kad, if_false]
     exact wpS_pure ⟨rfl, q + 1, t, rfl, q2, htk, by exact leN (lin (@r5 (↑(t)) (↑(x)) (↑(k)) (↑(q)) (↑(l))) (.add V0 (.add V1 N1)) (.add V2 (.add V3 N1)) [(0,1,.add V0 V1,.add V2 V4),(0,1,V4,V3)] rfl (leI hm) (leI q1)), fun i a => kbS (hs' i q (kbz a) q3) (kb9.mp hl), hi⟩
  ·rintro c st'' ⟨rfl, hc⟩
   rw [kcH (kbl _)] at hc
   exact ⟨rfl, hc⟩
  ·rintro c st'' ⟨rfl, l, t, rfl, hlt, htk, hm, lo, hi⟩
   have : l = t := by exact eqN (kav ((leI hlt)) (lin (@r3 (↑(t)) (↑(l)) (↑(k))) V0 V1 [(0,1,.add V0 V2,.add V2 V1)] rfl (leI hm)))
   subst this
   show wpS _ _ _ _ (do moveDown' k l; pure (ForInStep.yield (none, ()))) _ _
   rw [moveDown'_eq]
   exact wpS_bind (wpS_modify (wpS_pure ⟨rfl, hB'.setArr (bubble_perm _ _ _), zq1 (by rw [hB'.size]; exact hk) htk hs' lo hi⟩))
 ·rintro c st' ⟨hc, hB', hs'⟩
  rw [kcH hok] at hs'
  exact ⟨hc, hB', hs'⟩
 ·rintro c st' ⟨rfl, hB', hs'⟩
  exact wpS_pure (h st' hB' hs')
structure Dne (r : Value -> Int) (aA : Array Keyed) (st : SortSt) : Prop where
 p : (arrOf st).Perm aA
 f : failedOf st = none
 q : pendingOf st = #[(0, aA.size, 0)]
 u : Up r (arrOf st) aA.size
theorem zqa {st : SortSt} {Q : Unit -> SortSt -> Prop} (hO : zl0 prog w A s r aA) (hB : SBase aA st) (h2 : 2 <= aA.size) (h64 : aA.size < 64) (h : ∀ st', Dne r aA st' -> Q () st') : wpS (model prog w) A E s sortRuns' Q st := by
 rw [sortRuns'_eq]
 refine wpS_bind (wpS_get ?_)
 have hmr : minRun' aA.size aA.size 0 = aA.size := by
  obtain ⟨f, hf⟩ : ∃ f, aA.size = f + 1 := ⟨aA.size - 1, by lia⟩
  have : minRun' (f + 1) aA.size 0 = aA.size := by rw [minRun'_succ, if_pos h64]; rfl
  rwa [<- hf] at this
 simp only [hB.size, hmr]
 have dn : ∀ st', SBase aA st' -> Up r (arrOf st') aA.size -> Dne r aA (setPending st' ((pendingOf st').push (0, aA.size, 0))) := fun st' b u => ⟨b.perm, b.failed, by show (pendingOf st').push _ = _; rw [b.pend]; rfl, u⟩
 refine wpS_bind (wpS_mono (wpS_forRange (I := fun x c st' => (x = 0 /\ c = (none, 0) /\ SBase aA st') \/ (1 <= x /\ c = (none, aA.size) /\ Dne r aA st')) (Q := fun c st' => c = (none, aA.size) /\ Dne r aA st') ?_ ?_ (.inl ⟨rfl, rfl, hB⟩)) ?_)
 ·rintro x c st' _ hx (⟨rfl, rfl, hB'⟩ | ⟨hx1, rfl, hD⟩)
  ·dsimp only
   rw [if_neg (by exact Nat.not_le.mpr ‹_›)]
   simp only [Nat.sub_zero, Nat.min_self, kb8]
   refine wpS_bind (zpJ hO (kao _) ‹_› hB' fun m st2 hB2 hm1 hm2 hs2 => ?_)
   dsimp only
   have fin : ∀ st3, SBase aA st3 -> Up r (arrOf st3) aA.size -> (pendingOf st3).back? = none := fun st3 b _ => by rw [b.pend]; rfl
   by_cases hlt : m < aA.size
   ·rw [if_pos hlt]
    refine wpS_bind (wpS_lift (wpAny_rule ⟨rfl, ?_⟩))
    refine wpS_bind (zq2 hO (kao _) hm1 hm2 hB2 hs2 fun st3 hB3 hs3 => ?_)
    simp only [kbv, kad, if_false]
    refine wpS_bind (wpS_get ?_)
    rw [fin st3 hB3 hs3]
    exact wpS_bind (wpS_modify (wpS_pure (.inr ⟨kao _, rfl, dn st3 hB3 hs3⟩)))
   ·rw [if_neg hlt]
    have hm : m = aA.size := by exact eqN (kav ((leI hm2)) ((nuI hlt)))
    subst hm
    refine wpS_bind (wpS_get ?_)
    rw [fin st2 hB2 hs2]
    exact wpS_bind (wpS_modify (wpS_pure (.inr ⟨kao _, rfl, dn st2 hB2 hs2⟩)))
  ·dsimp only
   rw [if_pos (kao _)]
   exact wpS_pure ⟨rfl, hD⟩
 ·rintro c st' (⟨hx, _, _⟩ | ⟨_, hc, hD⟩)
  ·lia
  ·exact ⟨hc, hD⟩
 ·rintro c st' ⟨rfl, hD⟩
  dsimp only
  refine wpS_bind (wpS_mono (wpS_forRange (I := fun _ c st'' => st'' = st' /\ c = (none, ())) (Q := fun c st'' => st'' = st' /\ c = (none, ())) ?_ (fun _ _ hh => hh) ⟨rfl, rfl⟩) ?_)
  ·rintro x c st'' _ _ ⟨rfl, rfl⟩
   refine wpS_bind (wpS_get ?_)
   rw [if_pos (by rw [hD.q]; exact kao 1)]
   exact wpS_pure ⟨rfl, rfl⟩
  ·rintro c st'' ⟨rfl, rfl⟩
   exact wpS_pure (h _ hD)
end
end Mine
end
section
open PySem
namespace Mine
open PyProof.Rows PySem.MeetsSeq PySem.MeetsSeq3
noncomputable def ltZ : List Int -> List Int -> Bool
 | x :: xs, y :: ys => bif x == y then ltZ xs ys else decide (x < y)
 | _, _ => false
noncomputable def zfr : Value -> Int
 | .int n _ => n
 | _ => 0
theorem zod (l b : Addr) (u v : Array Value) (n n2 : Nat) (hsz : u.size = v.size) (hu : ∀ x ∈ u, ∃ i t, x = .int i t) (hv : ∀ x ∈ v, ∃ i t, x = .int i t) (k : Nat) :
  ∀ i : Nat, u.size - i = k -> Meets (Builtin.«list.__eq__.loop» ⟨[.ref l, .ref b, rawInt i, rawInt 0], []⟩)
   (fun _ R s => s.heap.get? l = some { cls := .type "list", dict := none, data := .seq u n, slots := #[] } /\ s.heap.get? b = some { cls := .type "list", dict := none, data := .seq v n2, slots := #[] } /\
    R (.ok (.ret (.bool (ltZ ((u.toList.drop i).map zfr) ((v.toList.drop i).map zfr))))) s) := by
 induction k with
 | zero =>
  intro i hk prog w A R s h
  obtain ⟨hp, g, d, tk, os⟩ := s; obtain ⟨hl, hb, h⟩ := h
  wp_walk using AutoSeq1.wpAny_loadPart' hl, AutoSeq1.wpAny_loadPart' hb
  have h1 : u[((i : Nat) : Int).toNat]? = none := by simp; lia
  have h2 : v[((i : Nat) : Int).toNat]? = none := by simp; lia
  have hd : u.toList.drop i = [] := by simp; lia
  rw [hd] at h
  rw [h1, h2]
  wp_walk using AutoSeq1.wpAny_loadPart' hl, AutoSeq1.wpAny_loadPart' hb
  show R (.ok (.ret (.bool (decide (u.size < v.size))))) _
  rw [hsz, decide_eq_false (kba _)]
  exact h
 | succ k ih =>
  intro i hk prog w A R s h
  obtain ⟨hp, g, d, tk, os⟩ := s; obtain ⟨hl, hb, h⟩ := h
  wp_walk using AutoSeq1.wpAny_loadPart' hl, AutoSeq1.wpAny_loadPart' hb
  have hlt : i < u.size := by lia
  have hlt2 : i < v.size := by exact ltN (lit r3 V0 V1 [(2,1,V2,V1),(1,1,V0,V2)] rfl (eqI hsz) (ltI hlt))
  obtain ⟨x, t, ex⟩ := hu u[i] (kdG hlt)
  obtain ⟨y, t', ey⟩ := hv v[i] (kdG hlt2)
  have h1 : u[((i : Nat) : Int).toNat]? = some (.int x t) := by simp [hlt, ex]
  have h2 : v[((i : Nat) : Int).toNat]? = some (.int y t') := by simp [hlt2, ey]
  have d1 : u.toList.drop i = .int x t :: u.toList.drop (i + 1) := by simp [kbT, hlt, ex]
  have d2 : v.toList.drop i = .int y t' :: v.toList.drop (i + 1) := by simp [kbT, hlt2, ey]
  have hc : ((i : Int) + 1) = ((i + 1 : Nat) : Int) := by push_cast; rfl
  rw [d1, d2, kaO, kaO] at h
  simp only [ltZ, zfr] at h
  rw [h1, h2]
  refine kar (EqGives.int x y t t' prog w _ _ _ _ ?_)
  by_cases e : x = y
  ·rw [show (x == y) = true from beq_iff_eq.mpr e] at h ⊢
   wp_walk
   rw [hc]
   exact ⟨plainId_quiet plain_eq_loop _, codeAny_builtin entry_eq_loop (by
    rw [Around.under_plainId plain_eq_loop _]
    exact ih (i + 1) (by lia) prog w A R _ ⟨hl, hb, h⟩)⟩
  ·rw [show (x == y) = false from beq_false_of_ne e] at h ⊢
   wp_walk using AutoSeq1.wpAny_loadPart' hl, AutoSeq1.wpAny_loadPart' hb
   rw [h1, h2]
   exact kar (wpAny_lt_int (kaP h))
theorem zog (l b : Addr) (u v : Array Value) (n n2 : Nat) (hsz : u.size = v.size) (hu : ∀ x ∈ u, ∃ i t, x = .int i t) (hv : ∀ x ∈ v, ∃ i t, x = .int i t) :
  Meets (Builtin.«list.__lt__» ⟨[.ref l, .ref b], []⟩)
   (fun _ R s => s.heap.get? l = some { cls := .type "list", dict := none, data := .seq u n, slots := #[] } /\ s.heap.get? b = some { cls := .type "list", dict := none, data := .seq v n2, slots := #[] } /\
    R (.ok (.ret (.bool (ltZ (u.toList.map zfr) (v.toList.map zfr))))) s) := by
 intro prog w A R s h
 obtain ⟨hp, g, d, tk, os⟩ := s; obtain ⟨hl, hb, h⟩ := h
 have f3 := AutoSeq1.sub_list_list
 wp_walk using AutoSeq1.wpAny_loadPart' hl, AutoSeq1.wpAny_loadPart' hb
 exact ⟨plainId_quiet plain_eq_loop _, codeAny_builtin entry_eq_loop (by
  rw [Around.under_plainId plain_eq_loop _]
  exact zod l b u v n n2 hsz hu hv _ 0 rfl prog w A R _ ⟨hl, hb, by simpa using h⟩)⟩
end Mine
end
section
open PySem
namespace Mine
open PyProof.Rows
noncomputable def num (l : List Int) : Int := l.foldl (fun a x => a * 64 + x) 0
theorem zn8 : ∀ (l : List Int) (a : Int), l.foldl (fun a x => a * 64 + x) a = a * 64 ^ l.length + num l := by
 intro l
 induction l with
 | nil => intro a; simp [num]
 | cons x l ih =>
  intro a
  have h := ih (0 * 64 + x)
  unfold num at h ⊢
  rw [kbD, kbD, ih, h, kag, kbI]
  unfold num
  grind
theorem zb6 (x : Int) (l : List Int) : num (x :: l) = x * 64 ^ l.length + num l := by
 have := zn8 l (0 * 64 + x)
 unfold num at this ⊢
 rw [kbD, this, kc0, kbi]
def Dig (l : List Int) : Prop := ∀ x ∈ l, 0 <= x /\ x < 64
theorem zkH : ∀ l : List Int, Dig l -> 0 <= num l /\ num l < 64 ^ l.length := by
 intro l
 induction l with
 | nil => intro _; exact ⟨kaK _, by decide⟩
 | cons x l ih =>
  intro h
  have h1 := h x (kaq ..)
  have h2 := ih fun y hy => h y (kal _ hy)
  have h3 : 0 <= x * 64 ^ l.length := kb4 h1.1 (kaF (kcO (by decide)))
  have h4 : (x + 1) * 64 ^ l.length <= 64 * 64 ^ l.length := kch (by exact lin r1 (.add V0 N1) (.num 64) [(1,1,V0,.num 64)] rfl h1.2) (kaF (kcO (by decide)))
  rw [kda, kb0] at h4
  rw [zb6, kag, kbI, kcb (64 ^ l.length)]
  exact ⟨lin r2 N0 (.add V0 V1) [(0,1,N0,V1),(0,1,N0,V0)] rfl h2.1 h3, lit r3 (.add V0 V1) (.mulL 64 V2) [(1,1,V1,V2),(0,1,.add V0 V2,.mulL 64 V2)] rfl h2.2 h4⟩
theorem zkc : ∀ {a b : List Int}, a.length = b.length -> Dig a -> Dig b -> ltZ a b = decide (num a < num b) := by
 intro a
 induction a with
 | nil => intro b hl _ _; cases b with | nil => rfl | cons y b => cases hl
 | cons x a ih =>
  intro b hl ha hb
  cases b with
  | nil => cases hl
  | cons y b =>
   have ha' : Dig a := fun z hz => ha z (kal _ hz)
   have hb' : Dig b := fun z hz => hb z (kal _ hz)
   have hl' : a.length = b.length := Nat.succ.inj hl
   have h1 := zkH a ha'
   have h2 := zkH b hb'
   rw [zb6, zb6, <- hl']
   rw [<- hl'] at h2
   show (bif x == y then ltZ a b else decide (x < y)) = _
   by_cases e : x = y
   ·subst e
    rw [show (x == x) = true from beq_self_eq_true x]
    show ltZ a b = _
    rw [ih hl' ha' hb']
    exact decide_eq_decide.mpr (by lia)
   ·rw [show (x == y) = false from beq_false_of_ne e]
    show decide (x < y) = _
    refine decide_eq_decide.mpr ?_
    have hp : (0 : Int) <= 64 ^ a.length := kaF (kcO (by decide))
    constructor
    ·intro h
     have := kch (show x + 1 <= y from h) hp
     rw [kda, kb0] at this
     exact lit r5 (.add V0 V1) (.add V2 V3) [(1,1,V1,V4),(0,1,N0,V3),(0,1,.add V0 V4,V2)] rfl h1.2 h2.1 this
    ·intro h
     apply kaw
     intro hn
     have := kch (show y + 1 <= x by exact lin r2 (.add V0 N1) V1 [(1,1,V0,V1)] rfl (wT (lin r2 V0 V1 [(4,1,V1,V0)] rfl hn) (Ne.symm e))) hp
     rw [kda, kb0] at this
     exact lif r5 [(0,1,N0,V0),(1,1,V1,V2),(1,1,.add V3 V0,.add V4 V1),(0,1,.add V4 V2,V3)] rfl h1.1 h2.2 h this
theorem zn7 {a b : List Int} (hl : a.length = b.length) (ha : Dig a) (hb : Dig b) (h : num a = num b) : a = b := by
 induction a generalizing b with
 | nil => cases b with | nil => rfl | cons y b => cases hl
 | cons x a ih =>
  cases b with
  | nil => cases hl
  | cons y b =>
   have ha' : Dig a := fun z hz => ha z (kal _ hz)
   have hb' : Dig b := fun z hz => hb z (kal _ hz)
   have hl' : a.length = b.length := Nat.succ.inj hl
   have h1 := zkc hl ha hb
   have h2 := zkc hl.symm hb ha
   rw [h, decide_eq_false (kb1 _)] at h1 h2
   have hxy : x = y := by
    apply kaw
    intro e
    have e1 : (bif x == y then ltZ a b else decide (x < y)) = false := h1
    have e2 : (bif y == x then ltZ b a else decide (y < x)) = false := h2
    rw [show (x == y) = false from beq_false_of_ne e] at e1
    rw [show (y == x) = false from beq_false_of_ne (Ne.symm e)] at e2
    have := of_decide_eq_false e1
    have := of_decide_eq_false e2
    exact lif r2 [(4,1,V0,V1),(1,1,V0,V1)] rfl ‹_› (wT (lin r2 V0 V1 [(4,1,V1,V0)] rfl this) e)
   subst hxy
   rw [zb6, zb6, <- hl'] at h
   rw [ih hl' ha' hb' (by exact liq r3 V0 V1 [(2,1,.add V2 V0,.add V2 V1)] rfl h)]
inductive IL (h : Heap) (v : Value) (ns : List Int) : Prop
 | mk (a : Addr) (u : Array Value) (n : Nat) (e : v = .ref a) (o : h.get? a = some { cls := .type "list", dict := none, data := .seq u n, slots := #[] }) (i : ∀ x ∈ u, ∃ i t, x = .int i t) (k : u.toList.map zfr = ns) : IL h v ns
noncomputable def zhP (h : Heap) : Value -> List Int
 | .ref a => match h.get? a with
  | some o => match o.data with
   | .seq u _ => u.toList.map zfr
   | _ => []
  | none => []
 | _ => []
theorem IL.key {h v ns} (x : IL h v ns) : zhP h v = ns := by
 obtain ⟨a, u, n, rfl, o, i, k⟩ := x
 simp only [zhP, o]; exact k
theorem IL.old {h h' v ns} (x : IL h v ns) (e : ∀ b o, h.get? b = some o -> h'.get? b = some o) : IL h' v ns := by
 obtain ⟨a, u, n, rfl, o, i, k⟩ := x
 exact ⟨a, u, n, rfl, e _ _ o, i, k⟩
section
variable {prog : Program} {w : World} {A : Around} {E : Value -> Shared -> Prop} {s : Shared}
theorem zpr {v v' : Value} {ns ns' : List Int} {Q : Bool -> Shared -> Prop} (hu : A.units < cLine) (x : IL s.heap v ns) (y : IL s.heap v' ns') (hl : ns.length = ns'.length) (hd : Dig ns) (hd' : Dig ns') (h : Q (decide (num ns < num ns')) s) : wpAny (model prog w) A (oneLt' true v v') Q E s := by
 obtain ⟨a, u, n, rfl, o, i, k⟩ := x
 obtain ⟨b, u', n', rfl, o', i', k'⟩ := y
 rw [oneLt'_eq]
 simp only [if_true]
 refine kar (wpAny_cRoomFor hu ?_)
 refine kar (wpAny_callSpecialIfBound?_slot ⟨_, o, rfl⟩ F.slot_list_lt (call_meets F.slot_list_lt ⟨_, o, rfl⟩ F.entry_list_lt (F.args_list_lt_2 _ _) (zog a b u u' n n' ?_ i i') ⟨o, o', ?_⟩))
 ·have := congrArg kby k
  have := congrArg kby k'
  simp only [kaC, Array.length_toList] at *
  exact eqN (liq r4 V0 V1 [(2,1,V2,V3),(2,1,V0,V2),(2,-1,V1,V3)] rfl (eqI hl) (eqI ‹_›) (eqI this))
 ·rw [k, k', zkc hl hd hd']
  exact ka5 h
structure LLs (h : Heap) (vs : List Value) (K : Nat) : Prop where
 il : ∀ v ∈ vs, IL h v (zhP h v)
 len : ∀ v ∈ vs, (zhP h v).length = K
 dig : ∀ v ∈ vs, Dig (zhP h v)
theorem LLs.old {h h' : Heap} {vs K} (x : LLs h vs K) (e : ∀ b o, h.get? b = some o -> h'.get? b = some o) : (∀ v ∈ vs, zhP h' v = zhP h v) /\ LLs h' vs K := by
 have k : ∀ v ∈ vs, zhP h' v = zhP h v := fun v hv => ((x.il v hv).old e).key
 exact ⟨k, fun v hv => by rw [k v hv]; exact (x.il v hv).old e, fun v hv => by rw [k v hv]; exact x.len v hv, fun v hv => by rw [k v hv]; exact x.dig v hv⟩
theorem zi7 {α : Type} {f : Value -> Sem α} {c : α} : ∀ {vs : List Value} {Q : List α -> Shared -> Prop}, (∀ v ∈ vs, ∀ (E : Value -> Shared -> Prop) (Q : α -> Shared -> Prop), Q c s -> wpAny (model prog w) A (f v) Q E s) -> Q (vs.map fun _ => c) s -> wpAny (model prog w) A (vs.mapM f) Q E s := by
 intro vs
 induction vs with
 | nil => intro Q _ h; rw [List.mapM_nil]; exact kaP h
 | cons v vs ih =>
  intro Q hf h
  rw [List.mapM_cons]
  exact kar (hf v (kaq ..) _ _ (kar (ih (fun v' h' => hf v' (kal _ h')) (kaP h))))
theorem zoi {vB vC : Value} {vs : List Value} {Q : SortKind -> Shared -> Prop} (ht : ∀ v ∈ vB :: vC :: vs, s.TypeIs v "list") (h : Q oneType' s) : wpAny (model prog w) A (keyKind' (vB :: vC :: vs).toArray) Q E s := by
 rw [keyKind'_eq, kdK]
 have f : ∀ v ∈ vB :: vC :: vs, ∀ (E : Value -> Shared -> Prop) (Q : Option Value -> Shared -> Prop), Q none s -> wpAny (model prog w) A (firstOfTuple' v) Q E s := fun v hv E Q hq => by
  show wpAny _ _ (typeOf v >>= fun t => if t != .type "tuple" then pure none else Builtin.List.listItems v >>= fun xs => pure xs[0]?) Q E s
  refine kar (wpAny_typeOf (ht v hv) ?_)
  exact kaP hq
 refine kar (wpAny_map (zi7 f ?_))
 rw [if_neg (by simp), if_neg (by simp)]
 rw [oneTypeOnly'_eq, kdK]
 refine kar (kar (wpAny_map (zi7 (c := .type "list") (fun v hv E Q hq => wpAny_typeOf (ht v hv) hq) ?_)))
 have h0 : (kd2 (fun _ => Value.type "list") (vB :: vC :: vs)).toArray[0]? = some (Value.type "list") := by simp
 rw [h0]
 refine kaP (kaP ?_)
 have hall : ((kd2 (fun _ => Value.type "list") (vB :: vC :: vs)).toArray.all fun x => x == Value.type "list") = true := by
  simp only [List.all_toArray, List.all_map, kaZ]
  intro _ _
  rfl
 rw [hall]
 exact h
end
end Mine
end
section
open PySem
namespace Mine
open PyProof.Rows
section
variable {prog : Program} {w : World} {A : Around} {E : Value -> Shared -> Prop} {s : Shared}
noncomputable def rv (h : Heap) (v : Value) : Int := num (zhP h v)
theorem zqG {r : Value -> Int} {vs : List Value} {xs : Array Keyed} (hp : xs.Perm (pairsOf vs)) (hs : Up r xs (pairsOf vs).size) : (xs.map (·.2)).toList.Perm vs /\ ((xs.map (·.2)).toList.map r).Pairwise (· <= ·) := by
 have hl : xs.toList.Perm (vs.zip vs) := by rw [<- pairsOf_toList]; exact kc8.mp hp
 have e : (xs.map (·.2)).toList = xs.toList.map (·.1) := by
  rw [Array.toList_map]; exact kbd fun p hp' => (mem_zip_self (hl.mem_iff.mp hp')).1.symm
 rw [e]
 refine ⟨?_, ?_⟩
 ·have := hl.map (·.1)
  rwa [show (vs.zip vs).map (·.1) = vs from List.map_fst_zip (kao _)] at this
 ·rw [kbn, kbn, kcu]
  intro i j hi hj hij
  have hi' : i < xs.size := hi
  have hj' : j < xs.size := hj
  have := hs i j (kaX hij) (by rw [<- hp.size_eq]; exact hj')
  unfold rk at this
  rw [getElem?_pos xs i hi', getElem?_pos xs j hj'] at this
  exact this
theorem znT {a : Addr} {vs : List Value} {n K : Nat} {P : Fin -> Shared -> Prop} {h₀ : Heap} (ho : s.heap.get? a = some (seqObj "list" vs.toArray n)) (hu : A.units < cLine) (hk : LLs h₀ vs K) (h64 : vs.length < 64)
  (old : ∀ b o, h₀.get? b = some o -> s.heap.get? b = some o) (hna : h₀.get? a = none)
  (h : ∀ out : Array Value, out.toList.Perm vs -> (out.toList.map (rv h₀)).Pairwise (· <= ·) -> P (.done (.ret .none)) { s with heap := sortedHeap s.heap a vs out }) :
  wpAny (model prog w) A (Builtin.«list.sort» ⟨[.ref a], []⟩) P E s := by
 rw [list_sort_plain]
 have ha : a < s.heap.objs.size := kbq ho
 refine kar (listItems_at ho rfl ?_)
 refine kar (listUpdate_at ho rfl ?_)
 obtain ⟨e1, ho1⟩ : ∃ e1, (s.heap.update a (Obj.mapSeq fun _ => #[])).get? a = some (seqObj "list" #[] e1) := ⟨_, get?_update_seq ho (fun _ => #[])⟩
 refine kar (seqEpoch_at ho1 rfl ?_)
 refine kar (wpAny_newTuple ?_)
 refine kar (wpAny_newList ?_)
 refine wpAny_holding ?_
 have ho6 : (((s.heap.update a (Obj.mapSeq fun _ => #[])).push (seqObj "tuple" vs.toArray 0)).push (seqObj "list" #[] 0)).get? a = some (seqObj "list" #[] e1) := by
  rw [kdO _ _ _ (by rw [size_push', kc2]; exact kbH (kcD ha)), kdO _ _ _ (by rw [kc2]; exact kbH ha)]
  exact ho1
 have old6 : ∀ b o, h₀.get? b = some o -> (((s.heap.update a (Obj.mapSeq fun _ => #[])).push (seqObj "tuple" vs.toArray 0)).push (seqObj "list" #[] 0)).get? b = some o := fun b o hb => by
  refine kax _ (kax _ ?_)
  have hne : b ≠ a := fun e => by rw [e, hna] at hb; cases hb
  rw [kdx _ _ _ _ hne]
  exact old b o hb
 show wpAny (model prog w) A _ P E { s with heap := ((s.heap.update a (Obj.mapSeq fun _ => #[])).push (seqObj "tuple" vs.toArray 0)).push (seqObj "list" #[] 0) }
 obtain ⟨hk6, hL6⟩ := hk.old old6
 dsimp only
 have hsz : vs.toArray.size = vs.length := by simp
 have fin : ∀ st' : SortSt, (arrOf st').Perm (pairsOf vs) -> Up (rv h₀) (arrOf st') (pairsOf vs).size -> P (.done (.ret .none)) { s with heap := sortedHeap s.heap a vs ((arrOf st').map (·.2)) } := fun st' hp hs => h _ (zqG hp hs).1 (zqG hp hs).2
 by_cases h2 : vs.toArray.size < 2
 ·rw [if_pos h2, if_pos h2]
  refine kar (kaP ?_)
  rw [StateT.run_pure]
  refine kar (kaP ?_)
  dsimp only
  refine kar (seqEpoch_at ho6 rfl ?_)
  refine kar (listUpdate_at ho6 rfl ?_ (hsz2 := by rw [kdV]; show (pairsOf vs).size <= _; rw [pairsOf_size, sizeLine_eq]; exact leN (lin r1 V0 (.add (.num 16777216) N1) [(1,1,V0,.num 64)] rfl (ltI h64))))
  simp only [bne_self_eq_false, kad, if_false]
  refine kaP (fin (SortSt.mk' general' (vs.toArray.zip vs.toArray) #[] 7 none) (Array.Perm.refl _) fun i j hij hj => ?_)
  have : i = j := by rw [pairsOf_size] at hj; exact eqN (kav ((leI hij)) (lin r4 V0 V1 [(2,-1,V2,V3),(1,1,V2,.num 2),(1,1,V0,V3),(0,1,N0,V1)] rfl (eqI hsz) (ltI h2) (ltI hj) (nnI _)))
  rw [this]; exact kaK _
 ·rw [if_neg h2, if_neg h2]
  obtain ⟨vB, vC, rest, rfl⟩ : ∃ vB vC rest, vs = vB :: vC :: rest := by
   cases vs with
   | nil => simp at h2
   | cons vB vs => cases vs with
    | nil => simp at h2
    | cons vC rest => exact ⟨vB, vC, rest, rfl⟩
  refine kar (zoi (fun v hv => ?_) ?_)
  ·obtain ⟨b, u, m, rfl, o, _⟩ := hL6.il v hv
   exact ⟨_, o, rfl⟩
  refine kar (kaz (zqa (r := rv h₀) (aA := pairsOf (vB :: vC :: rest)) (st := SortSt.mk' oneType' ((vB :: vC :: rest).toArray.zip (vB :: vC :: rest).toArray) #[] 7 none) (Q := fun _ st' => Dne (rv h₀) (pairsOf (vB :: vC :: rest)) st')
   (fun p q hp hq E Q hQ => ?_) ⟨Array.Perm.refl _, rfl, rfl, rfl⟩ (by rw [pairsOf_size]; simp) (by rw [pairsOf_size]; exact h64) fun st' a1 => a1) ?_ fun _ _ e => e)
  ·rw [pairsOf_toList] at hp hq
   have hp' := (mem_zip_self hp).2
   have hq' := (mem_zip_self hq).2
   refine zpr hu (hL6.il _ hp') (hL6.il _ hq') ((hL6.len _ hp').trans (hL6.len _ hq').symm) (hL6.dig _ hp') (hL6.dig _ hq') ?_
   rw [hk6 _ hp', hk6 _ hq']
   exact hQ
  rintro ⟨⟨⟩, st'⟩ s' ⟨rfl, hp, hf, _, hs⟩
  dsimp only
  refine kar (seqEpoch_at ho6 rfl ?_)
  refine kar (listUpdate_at ho6 rfl ?_ (hsz2 := by refine kap (kcY ((kdV ..).trans (hp.size_eq.trans (pairsOf_size _)))) ?_; rw [sizeLine_eq]; exact leN (lin r1 V0 (.add (.num 16777216) N1) [(1,1,V0,.num 64)] rfl (ltI h64))))
  rw [hf]
  simp only [bne_self_eq_false, kad, if_false]
  exact kaP (fin st' hp hs)
theorem zld {l : Addr} {vs : List Value} {K : Nat} {Q : Value -> Shared -> Prop} (hl : s.heap.IsList l vs.toArray) (hu : A.units + 64 < cLine) (hk : LLs s.heap vs K) (h64 : vs.length < 64)
  (h : ∀ out : Array Value, out.toList.Perm vs -> (out.toList.map (rv s.heap)).Pairwise (· <= ·) -> Q (.ref (s.heap.objs.size + 1)) { s with heap := sortedAll s.heap vs out }) :
  wpAny (model prog w) A (call (.builtin "sorted") [.ref l]) Q E s := by
 refine Calls.call_function_entry kind_sorted plain_sorted entry_sorted (args_sorted1 _) ?_
 unfold Builtin.«sorted»
 refine kar (m := checkCount "sorted" 1 1 _) (kaP ?_)
 refine kar (collect_list hl ?_)
 refine kar (wpAny_newList ?_)
 have hsz : ((s.heap.push (seqObj "list" #[] 0)).update s.heap.objs.size (Obj.mapSeq (· ++ vs.toArray))).objs.size = s.heap.objs.size + 1 := by
  rw [kc2, size_push']
 have hoL : (((s.heap.push (seqObj "list" #[] 0)).update s.heap.objs.size (Obj.mapSeq (· ++ vs.toArray))).push (seqObj "list" vs.toArray 0)).get? (s.heap.objs.size + 1) = some (seqObj "list" vs.toArray 0) := by
  rw [<- hsz]; exact ka7 _ rfl
 show wpAny _ _ _ _ _ { s with heap := ((s.heap.push (seqObj "list" #[] 0)).update s.heap.objs.size (Obj.mapSeq (· ++ vs.toArray))).push (seqObj "list" vs.toArray 0) }
 rw [hsz]
 refine kar (wpAny_holding (wpAny_call_entry slot_list_sort ⟨_, hoL, rfl⟩ entry_list_sort (znT (h₀ := s.heap) hoL (by show A.units + 1 + 1 < cLine; omega) hk h64 (fun b o hb => ?_) (kbF (kce _)) fun out a1 a2 => ⟨_, rfl, ?_⟩) (args_list_sort _)))
 ·refine kax _ ?_
  rw [kdx _ _ _ _ (kbH (kbq hb))]
  exact kax _ hb
 ·exact kaP ⟨_, rfl, h out a1 a2⟩
end
end Mine
end
section
open PySem
namespace Mine
open PySem.Calls PyProof.Rows
section
variable {T : TC} {d : Nat} {sc : Scope} {ctx : List Str}
noncomputable def zf7 (a : EW) : EW := fun Z J Q P => a Z J (fun v J1 => v.asRef fun p => wg J1 p fun xs => wb (.list (xs.take (xs.length - 1))) J1 Q) P
theorem zju {e k q₁ q₂ p pos} {a : EW} (h : zC T d sc ctx e a) (ht : ∀ o r, letTemporaryGo e o r = pure () := by intro _ _; rfl) :
  zC T d sc ctx (.Subscript e (.Slice none (some (.UnaryOp .USub (.Constant (.int 1) k q₁) q₂)) none p) pos) (zf7 a) := by
 intro A env Z J s Q P eo ro st fr hw
 refine wpAny_Subscript_list_slice (h.run eo ro st fr hw fun va ua J1 sB v1 st1 p1 fr1 hw1 => ?_) ht
 have hn : zC T d sc ctx (.UnaryOp .USub (.Constant (.int 1) k q₁) q₂) (zn9 (val (.int 1))) := zkx zl
 refine wpAny_evalPart_none (wpAny_evalPart_some (hn.then eo ro p1 st1 fr1 (show zn9 (val (.int 1)) Z J1 (fun v J2 => v = .int (-1) /\ J2 = J1) _ from ⟨rfl, rfl⟩) fun vi ui J2 sM v2 st2 p2 fr2 hw2 => ?_))
 obtain ⟨rfl, rfl⟩ := hw2
 cases v2 with | int _ t => ?_
 obtain ⟨q, hw3⟩ := hw1.get v1
 obtain ⟨xs, hx, hw5⟩ := hw3.get
 obtain ⟨us, hl, hv, hz, hlim⟩ := st2.list hx
 refine ⟨q, us, none, some (-1), rfl, hl, by rw [hz]; exact kap hlim zag, .none, .int _ _, ?_⟩
 have e : slicePick us none (some (-1)) none = (us.toList.take (us.size - 1)).toArray := slicePick_butLast us 1 (kao 1)
 rw [e, hz]
 exact zdT st2 p2 (by simpa using hv.take (xs.length - 1)) (by simp; exact leN (lin r2 V0 (.add V1 N1) [(0,1,V0,V1)] rfl (leI hlim))) hw5
def zkk (a b : Int) : Prop := b > 0 /\ (a = 1 \/ znG a b)
noncomputable def zna : EW -> EW -> EW := opI (fun x y => x ^ y.toNat) zkk
theorem zkv {l r pos} {a b : EW} (hl : zC T d sc ctx l a) (hr : zC T d sc ctx r b) : zC T d sc ctx (.BinOp l .Pow r pos) (zna a b) :=
 zcr hl hr fun _ _ _ x y _ _ _ ok h => by
  obtain ⟨h0, rfl | ok⟩ := ok
  ·rw [Int.one_pow] at h
   exact AutoIntOps.pow_1 (kaF h0) (by simp; exact kbR ‹_›) rfl (h _)
  ·exact AutoIntOps.pow_4 (kaF h0) (by simp; exact kbR ‹_›) (by have := ok.2.1; simp; exact (⟨fun h_ => lif r1 [(1,1,N1,V0),(2,1,V0,N0)] rfl this h_, fun h_ => lif r1 [(1,1,N1,V0),(2,1,V0,N1)] rfl this h_⟩)) (by have := ok.2.1; simp; exact (fun h_ => lif r1 [(1,1,N1,V0),(2,1,V0,.neg N1)] rfl this h_)) ok.2.2 (h _)
structure zo4 (J : zb) (bs : List Addr) (f : Addr -> List Int) (K : Nat) : Prop where
 few : bs.length < 64
 at_ : ∀ b ∈ bs, qM J b (f b)
 len : ∀ b ∈ bs, (f b).length = K
 dig : ∀ b ∈ bs, Dig (f b)
noncomputable def zbG (a : EW) : EW := fun Z J Q P => a Z J (fun v J1 => v.asRef fun p => wg J1 p fun xs => ∃ bs f K, xs = bs.map V.ref /\ zo4 J1 bs f K /\ ∀ bs' : List Addr, bs'.Perm bs -> (bs'.map fun b => num (f b)).Pairwise (· <= ·) -> wb (.list (bs'.map V.ref)) J1 Q) P
noncomputable def znu : Value -> Addr
 | .ref a => a
 | _ => 0
theorem zoX : ∀ {bs : List Addr} {us : List Value}, yn (bs.map V.ref) us -> us = bs.map Value.ref
 | [], _, h => by cases h; rfl
 | b :: bs, _, h => by
  cases h with
  | cons h1 h2 => cases h1; rw [zoX h2]; rfl
theorem zm7 : ∀ bs : List Addr, yn (bs.map V.ref) (bs.map Value.ref)
 | [] => .nil
 | b :: bs => .cons (.ref b) (zm7 bs)
theorem ziS : ∀ {ns : List Int} {us : List Value}, yn (zs ns) us -> us.map zfr = ns /\ ∀ x ∈ us, ∃ i t, x = .int i t
 | [], _, h => by cases h; exact ⟨rfl, fun x hx => by cases hx⟩
 | n :: ns, _, h => by
  cases h with
  | cons h1 h2 =>
   cases h1
   have := ziS h2
   refine ⟨by rw [kaO, this.1]; rfl, fun x hx => ?_⟩
   rcases kah.mp hx with rfl | hx
   ·exact ⟨_, _, rfl⟩
   ·exact this.2 x hx
theorem zdk (ok : T.Ok) (B : Blt T) {p pos e} {a : EW} (h : zC T d sc ctx e a) (hx : sc.names.lookup ("sorted" : Str) = some .globalImplicit := by decide +kernel)
  (he : ∀ env, starEach [e] env = [(false, eval e env)] := by intro _; rfl) : zC T d sc ctx (.Call (.Name "sorted" p) [e] [] pos) (zbG a) := by
 refine zfe ok h hx (B.none _ (by decide)) (id := "sorted") (by decide +kernel) (by decide) (by decide) (fun Z J Q P hw => ⟨_, hw, fun A v u JA sa J1 sB E ro hv st1 p1 hw1 => ?_⟩) he
 obtain ⟨q, hw2⟩ := hw1.get hv
 obtain ⟨xs, hx, bs, f, K, rfl, S, hw3⟩ := hw2.get
 obtain ⟨us, hl, hvs, hz, hlim⟩ := st1.list hx
 have hus := zoX hvs
 have il : ∀ b ∈ bs, IL sB.heap (.ref b) (f b) := fun b hb => by
  obtain ⟨ws, n, ho, hw, _⟩ := st1.isL (S.at_ b hb)
  have := ziS hw
  exact ⟨b, ws, n, rfl, ho, fun x hx => this.2 x (Array.mem_toList_iff.mpr hx), this.1⟩
 have L : LLs sB.heap us.toList K := by
  rw [hus]
  refine ⟨fun v hv => ?_, fun v hv => ?_, fun v hv => ?_⟩
  all_goals obtain ⟨b, hb, rfl⟩ := kat.mp hv
  all_goals rw [(il b hb).key]
  ·exact il b hb
  ·exact S.len b hb
  ·exact S.dig b hb
 refine zld (vs := us.toList) (by simpa using hl) (by have := ro.units; omega) L (by rw [hus, kaC]; exact S.few) fun out a1 a2 => ?_
 rw [hus] at a1
 have hout : out.toList = (out.toList.map znu).map Value.ref := by
  rw [kbB]
  refine (kc5 _).symm.trans (kbd fun v hv => ?_)
  obtain ⟨b, _, rfl⟩ := kat.mp (a1.mem_iff.mp hv)
  rfl
 have hp : (out.toList.map znu).Perm bs := by
  have := a1.map znu
  rwa [kbB, show znu ∘ Value.ref = id from rfl, kc5] at this
 rw [hout, kbB] at a2
 have a3 : ((out.toList.map znu).map fun b => num (f b)).Pairwise (· <= ·) := by
  refine cast (congrArg _ (kbd fun b hb => ?_)) a2
  show num (zhP sB.heap (.ref b)) = num (f b)
  rw [(il b (hp.mem_iff.mp hb)).key]
 have hw4 := hw3 _ hp a3
 generalize out.toList.map znu = bs' at hout hp a3 hw4
 have old : ∀ b o, sB.heap.get? b = some o -> (sortedAll sB.heap us.toList out).get? b = some o := fun b o e => sortedAll_old e
 obtain ⟨c, hat⟩ := sortedAll_at sB.heap us.toList out
 have st2 := st1.grow old sB.toks
 have n1 : sB.heap.get? (sB.heap.objs.size + 1) = none := kbF (kce _)
 refine ⟨_, put J1 (sB.heap.objs.size + 1) (.list (bs'.map V.ref)), .ref _, st2.adopt (st1.notFr n1) (st1.noneFree n1) ?_ ?_ (h' := sortedAll sB.heap us.toList out) ⟨rfl, fun _ _ => rfl⟩ hat (so := .list (bs'.map V.ref)) ⟨by rw [kaC, hp.length_eq]; rw [kaC] at hlim; exact hlim, out, c, rfl, by rw [hout]; exact zm7 _⟩ sB.toks, (p1.grow old sB.toks).adopt ?_ (h' := sortedAll sB.heap us.toList out) ⟨rfl, fun _ _ => rfl⟩ hat _ sB.toks, hw4 _ (st1.noneFree n1)⟩
 ·cases e : T.hb.get? (sB.heap.objs.size + 1) with
  | none => rfl
  | some ob => have := st1.base _ _ e; rw [n1] at this; cases this
 ·have := (st1.push { cls := .type "list", data := .seq #[] } sB.toks).big
  rw [show ({ sB with heap := sB.heap.push { cls := .type "list", data := .seq #[] }, toks := sB.toks } : Shared).heap.objs.size = sB.heap.objs.size + 1 from kcf ..] at this
  exact this
 ·cases e : sa.heap.get? (sB.heap.objs.size + 1) with
  | none => rfl
  | some ob => obtain ⟨o', h'⟩ := p1.live _ _ e; rw [n1] at h'; cases h'
end
section
variable (Z : zM) (J : zb) (Q : V -> zb -> Prop) (P : Nat -> zb -> Prop)
theorem zlH (a : EW) : zf7 a Z J Q P = a Z J (fun v J1 => v.asRef fun p => wg J1 p fun xs => wb (.list (xs.take (xs.length - 1))) J1 Q) P := rfl
theorem zqb (a b : EW) : zna a b Z J Q P = a Z J (fun va J1 => b Z J1 (fun vb J2 => va.asInt fun x => vb.asInt fun y => zkk x y /\ Q (.int (x ^ y.toNat)) J2) P) P := rfl
theorem znU (a : EW) : zbG a Z J Q P = a Z J (fun v J1 => v.asRef fun p => wg J1 p fun xs => ∃ bs f K, xs = bs.map V.ref /\ zo4 J1 bs f K /\ ∀ bs' : List Addr, bs'.Perm bs -> (bs'.map fun b => num (f b)).Pairwise (· <= ·) -> wb (.list (bs'.map V.ref)) J1 Q) P := rfl
end
end Mine
end
section
open PySem
namespace Mine
noncomputable def ziP : List Str := ["thing", "least", "most"]
noncomputable def yH (T : TC) (d : Nat) : SW := (ji (zcI (zi9 .int (loc 0)) (zcI (zdB (zi9 .bool (loc 0))) (zgu .le .le (loc 1) (loc 0) (loc 2)))))
noncomputable def zlE : List Str := ["many", "road"]
noncomputable def za4 (T : TC) (d : Nat) : SW := (zy (j6 (orW (zdB (tst (zi9 .tuple (loc 1)))) (jv .ne (j5 (loc 1)) (val (.int 2)))) (ji (val (.bool false))) qu)
  (ji (zcI (zD T d "is_within" (zi (z8 (loc 1) (val (.int 0))) (zi (val (.int 0)) (zi (loc 0) zF)))) (zcI (zD T d "is_within" (zi (z8 (loc 1) (val (.int 1))) (zi (val (.int 0)) (zi (loc 0) zF)))) (jv .ne (z8 (loc 1) (val (.int 0))) (z8 (loc 1) (val (.int 1))))))))
noncomputable def zlG : List Str := ["many", "roads", "found", "more", "one", "other"]
noncomputable def za5 (T : TC) (d : Nat) : SW := (zy (zW 2 (zcE (loc 0) (val (.bool true))))
  (zy (zW 3 (val (.bool true)))
  (zy (zcm (tst (loc 3)) (zy (zW 3 (val (.bool false)))
  (yp (.tup [4, 5]) (yW (loc 1)) (j6 (eqB true (inD false (loc 4) (loc 2)) (inD false (loc 5) (loc 2))) (zy (zaG (loc 2) (loc 4) (val (.bool true)))
  (zy (zaG (loc 2) (loc 5) (val (.bool true)))
  (zW 3 (val (.bool true))))) qu))))
  (ji (loc 2)))))
noncomputable def zjS : List Str := ["many", "roads", "road"]
noncomputable def zbp (T : TC) (d : Nat) : SW := (zy (j6 (orW (zdB (tst (zD T d "is_within" (zi (loc 0) (zi (val (.int 0)) (zi (val (.int 10)) zF)))))) (orW (zdB (tst (zi9 .list (loc 1)))) (jv .gt (j5 (loc 1)) (val (.int 40))))) zii qu)
  (j6 (orW (zdB (tst (znt (ju 2 (yW (loc 1)) none (zD T d "is_road" (zi (loc 0) (zi (loc 2) zF))))))) (jv .ne (j5 (zD T d "come_to" (zi (loc 0) (zi (loc 1) zF)))) (ym (loc 0) (val (.int 1))))) zii qu))
noncomputable def ziQ : List Str := ["many", "roads", "found", "road", "end"]
noncomputable def jG (T : TC) (d : Nat) : SW := (zy (zW 2 (mulL (qF (zi (val (.int 0)) zF)) (loc 0)))
  (zy (yp (.nm 3) (yW (loc 1)) (yp (.nm 4) (yW (loc 3)) (j6 (jv .lt (loc 4) (loc 0)) (zaG (loc 2) (loc 4) (ym (z8 (loc 2) (loc 4)) (val (.int 1)))) qu)))
  (ji (loc 2))))
noncomputable def zgB : List Str := ["_law_script", "_law_k", "_law_mixed_here"]
noncomputable def yt (T : TC) (d : Nat) : SW := (zy (j6 (jv .lt (loc 1) (j5 (loc 0))) (ji (z8 (loc 0) (loc 1))) qu)
  (zy (j6 (eqW false (loc 0) (qF zF)) (ji (val (.int 0))) qu)
  (zy (zW 2 (wL (ym (zbU (z8 (loc 0) (wL (loc 1) (j5 (loc 0)))) (val (.int 48271))) (zbU (loc 1) (val (.int 104729)))) (val (.int 2147483647))))
  (ji (wL (ym (zbU (loc 2) (loc 2)) (zbU (val (.int 48271)) (loc 1))) (val (.int 2147483629)))))))
noncomputable def ziN : List Str := ["_law_found"]
noncomputable def wH (T : TC) (d : Nat) : SW := (ji (zcI (zi9 .int (loc 0)) (zdB (zi9 .bool (loc 0)))))
noncomputable def ziO : List Str := ["_law_cell", "_law_k", "_law_mixed_here"]
noncomputable def wI (T : TC) (d : Nat) : SW := (zy (zW 2 (wL (ym (zbU (loc 0) (val (.int 48271))) (zbU (zbU (ym (loc 1) (val (.int 1))) (val (.int 7919))) (ym (wL (loc 0) (val (.int 9973))) (val (.int 7))))) (val (.int 2147483647))))
  (ji (wL (ym (zbU (loc 2) (loc 2)) (zbU (val (.int 69621)) (loc 1))) (val (.int 2147483629)))))
noncomputable def zhx : List Str := ["_law_number", "_law_many", "_law_shift"]
noncomputable def y5 (T : TC) (d : Nat) : SW := (zy (j6 (jv .eq (loc 0) (loc 1)) (ji (loc 1)) qu)
  (zy (j6 (jv .eq (wL (zdF (loc 2) (val (.int 16))) (val (.int 2))) (val (.int 1))) (ji (zbR (zbR (loc 1) (val (.int 1))) (wL (ym (loc 0) (loc 2)) (loc 1)))) qu)
  (ji (wL (ym (loc 0) (loc 2)) (loc 1)))))
noncomputable def zd6 (T : TC) (d : Nat) : SW := (zy (zW 8 (wL (zD T d "_law_cell_at" (zi (loc 0) (zi (val (.int 17)) zF))) (val (.int 32))))
  (zy (zW 9 (wL (zD T d "_law_cell_at" (zi (loc 0) (zi (val (.int 18)) zF))) (ym (j5 (loc 5)) (val (.int 1)))))
  (zy (zW 10 (qF zF))
  (zy (yp (.tup [13, 14]) (yW (zhd (zfu (loc 5) (loc 9)) (zh7 (loc 5) (loc 9)))) (zy (zW 15 (zeI (zi (zD T d "_law_turned" (zi (loc 13) (zi (loc 3) (zi (loc 8) zF)))) (zi (zD T d "_law_turned" (zi (loc 14) (zi (loc 3) (zi (loc 8) zF)))) zF))))
  (zy (j6 (jv .eq (wL (ym (zdF (zD T d "_law_cell_at" (zi (loc 0) (zi (val (.int 18)) zF))) (val (.int 41))) (j5 (loc 10))) (val (.int 3))) (val (.int 1))) (zW 15 (zeI (zi (z8 (loc 15) (val (.int 1))) (zi (z8 (loc 15) (val (.int 0))) zF)))) qu)
  (wO (zji (loc 10) (loc 15))))))
  (ji (zeI (zi (loc 3) (zi (loc 10) zF))))))))
noncomputable def zbY (T : TC) (d : Nat) : SW := (zy (yp (.nm 6) (jJ (zbU (loc 7) (zol (jv .gt (loc 3) (val (.int 0)))))) (zy (zW 11 (zD T d "_law_mixed" (zi (zD T d "_law_cell_at" (zi (loc 0) (zi (ym (val (.int 12)) (wL (loc 6) (val (.int 5)))) zF))) (zi (loc 6) zF))))
  (zy (zW 13 (wL (loc 11) (ym (loc 3) (val (.int 1)))))
  (wO (zji (loc 5) (zeI (zi (loc 13) (zi (wL (ym (ym (loc 13) (val (.int 1))) (wL (zdF (loc 11) (val (.int 11))) (loc 3))) (ym (loc 3) (val (.int 1)))) zF))))))))
  (zd6 T d))
noncomputable def zbZ (T : TC) (d : Nat) : SW := (zy (j6 (zcI (jv .eq (wL (zdF (zD T d "_law_cell_at" (zi (loc 0) (zi (val (.int 11)) zF))) (val (.int 6))) (val (.int 12))) (val (.int 1))) (orW (jv .lt (loc 3) (val (.int 3))) (jv .eq (loc 1) (val (.int 3))))) (zW 7 (zbR (val (.int 40)) (loc 3))) qu)
  (zbY T d))
noncomputable def zb0 (T : TC) (d : Nat) : SW := (zy (zW 7 (wL (zD T d "_law_cell_at" (zi (loc 0) (zi (val (.int 11)) zF))) (val (.int 6))))
  (zy (j6 (zcI (tst (loc 4)) (jv .lt (loc 1) (val (.int 3)))) (zW 7 (wL (loc 7) (val (.int 3)))) qu)
  (zbZ T d)))
noncomputable def zaI (T : TC) (d : Nat) : SW := (zy (zW 5 (qF zF))
  (zy (yp (.nm 6) (jJ (loc 3)) (zy (zW 11 (zD T d "_law_cell_at" (zi (loc 0) (zi (ym (val (.int 1)) (loc 6)) zF))))
  (zy (zW 12 (wL (loc 11) (ym (loc 6) (val (.int 1)))))
  (zy (j6 (zcI (tst (loc 4)) (zcI (jv .gt (wL (loc 11) (val (.int 5))) (val (.int 0))) (jv .eq (wL (zdF (loc 2) (val (.int 240))) (val (.int 2))) (val (.int 0))))) (zW 12 (loc 6)) qu)
  (wO (zji (loc 5) (zeI (zi (loc 6) (zi (z8 (qF (zi (loc 3) (zi (zbR (loc 12) (val (.int 1))) zF))) (zol (jv .gt (loc 12) (val (.int 0))))) zF)))))))))
  (zb0 T d)))
noncomputable def zlC : List Str := ["_law_script", "_law_lines", "_law_first", "_law_many", "_law_line", "_law_roads", "_law_k", "_law_size", "_law_shift", "_law_at", "_law_found", "_law_cell", "_law_ahead", "_law_one", "_law_other", "_law_pair"]
noncomputable def zce (T : TC) (d : Nat) : SW := (zy (zW 2 (zD T d "_law_cell_at" (zi (loc 0) (zi (val (.int 0)) zF))))
  (zy (zW 3 (wL (loc 2) (val (.int 6))))
  (zy (zW 4 (zcI (jv .eq (wL (zdF (loc 2) (val (.int 6))) (val (.int 8))) (val (.int 1))) (jv .gt (loc 1) (val (.int 0)))))
  (zy (j6 (tst (loc 4)) (zW 3 (ym (val (.int 6)) (wL (zdF (loc 2) (val (.int 48))) (z8 (qF (zi (val (.int 1)) (zi (val (.int 2)) (zi (val (.int 5)) (zi (val (.int 5)) zF))))) (loc 1))))) qu)
  (zaI T d)))))
noncomputable def zgA : List Str := ["_law_many", "_law_roads", "_law_found", "_law_one", "_law_other", "_law_place"]
noncomputable def jm (T : TC) (d : Nat) : SW := (zy (zW 2 (mulL (qF (zi (val (.int 0)) zF)) (loc 0)))
  (zy (yp (.tup [3, 4]) (yW (loc 1)) (yp (.nm 5) (yW (qF (zi (loc 3) (zi (loc 4) zF)))) (j6 (jv .lt (loc 5) (loc 0)) (zaG (loc 2) (loc 5) (ym (z8 (loc 2) (loc 5)) (val (.int 1)))) qu)))
  (ji (loc 2))))
noncomputable def za0 (m : Int) (f : List Int) (e : Int) : List Int := if e < m then f.set e.toNat (f.getD e.toNat 0 + 1) else f
noncomputable def zb9 (m : Int) (f : List Int) (rs : List (Int × Int)) : List Int := rs.foldl (fun f p => za0 m (za0 m f p.1) p.2) f
noncomputable def degs (m : Int) (rs : List (Int × Int)) : List Int := zb9 m (kaD m.toNat 0) rs
theorem zf8 (m f e) : (za0 m f e).length = f.length := by unfold za0; split <;> simp
theorem zjh (m) : ∀ (rs f), (zb9 m f rs).length = f.length := by
 intro r_
 induction r_ with
 | nil =>
  intro f
  exact rfl
 | cons p r ih_ =>
  intro f
  show (zb9 m _ r).length = _; rw [ih_]; simp [zf8]
theorem zbX (m f) (rs : List (Int × Int)) (i : Nat) (p : Int × Int) (h : rs[i]? = some p) : zb9 m f (rs.take (i + 1)) = za0 m (za0 m (zb9 m f (rs.take i)) p.1) p.2 := by
 unfold zb9; rw [kaY, h]; simp

section
variable {T : TC} {d : Nat} {J : zb} {Q : V -> zb -> Prop} {P : Nat -> zb -> Prop}
theorem yB (h : FnW T "is_within" 3 0 (yH T)) {i lo hi : Int} (hq : Q (.bool (decide (lo <= i /\ i <= hi))) J) : zA T (d + 1) "is_within" [.int i, .int lo, .int hi] J Q P := by
 refine h d _ _ _ _ rfl ?_
 show (if decide (lo <= i) = true then Q (.bool (decide (i <= hi))) J else Q (.bool false) J)
 by_cases h1 : lo <= i
 ·rw [if_pos (decide_eq_true h1), <- decide_eq_decide.mpr (and_iff_right h1)]; exact hq
 ·rw [if_neg (kdP.mp (decide_eq_false h1)), <- decide_eq_false (fun h : lo <= i /\ i <= hi => h1 h.1)]; exact hq
theorem zqv {J : zb} {t : Addr} {xs : List V} {k : Bool -> Prop} (ht : J t = some (.tup xs)) (h : k true) : isi .tuple J (.ref t) k := by
 simp only [isi, ht]; exact h
theorem zhn (h : FnW T "is_within" 3 0 (yH T)) (h' : FnW T "is_road" 2 0 (za4 T)) {m a b : Int} {t : Addr} (ht : J t = some (.tup [.int a, .int b])) (hq : Q (.bool (decide (0 <= a /\ a <= m) && decide (0 <= b /\ b <= m) && decide (a ≠ b))) J) :
  zA T (d + 2) "is_road" [.int m, .ref t] J Q P := by
 refine h' (d + 1) _ _ _ _ rfl ?_
 simp only [za4, zG, je, zgk, zcj, zdx, zfq, zv, qf, qi, qe, zg, zf]
 refine zqv ht ?_
 simp only [zm, kbv, kad, if_false, qH, qG, zv, zg, zf, ze]
 refine zmN ht ?_
 simp only [qo, zd, Cmp.run, kag, kaB, j3, qC, zby, zL, zB, qA, zK, zv, zg, zf, ze]
 refine ⟨kaK 0, ?_⟩
 refine j2 ht ?_
 refine yB h ?_
 by_cases h1 : 0 <= a /\ a <= m
 ·simp only [h1, and_self, decide_true, zm, if_true, kbG] at hq ⊢
  refine ⟨by decide, ?_⟩
  refine j2 ht ?_
  refine yB h ?_
  by_cases h2 : 0 <= b /\ b <= m
  ·simp only [h2, and_self, decide_true, zm, if_true, kbG] at hq ⊢
   have e : (a != b) = decide (a ≠ b) := by by_cases h3 : a = b <;> simp [h3]
   simp only [qH, qA, zv, qo, zg, zf, ze, zd]
   refine ⟨by decide, j2 ht ⟨by decide, j2 ht ?_⟩⟩
   simp only [Cmp.run]
   show Q (.bool (a != b)) J
   rw [e]; exact hq
  ·simp [h2] at hq ⊢; exact hq
 ·simp [h1] at hq ⊢; exact hq

theorem zbW (h : FnW T "counts_at" 2 3 (jG T)) {m : Int} {r : Addr} {rs : List (Int × Int)} (hm : 0 <= m) (hm' : m <= 10) (hr : zQ J r rs) (hp : ∀ p ∈ rs, 0 <= p.1 /\ 0 <= p.2)
  (hq : ∀ c J', Ext J J' -> J c = none -> qM J' c (degs m rs) -> Q (.ref c) J') : zA T (d + 1) "counts_at" [.int m, .ref r] J Q P := by
 refine h d _ _ _ _ rfl ?_
 obtain ⟨vs, hr1, hr2⟩ := hr
 simp only [jG, zG, zV, zib, qV, zB, qo, zK, zv, qf, qi, qe, zg, zf, ze, zd, wb, kag, kaB]
 refine ⟨by first | exact kak rfl | simp [lim], fun c hc => ?_⟩
 refine zE (zz _ _ _) ?_
 refine ⟨by exact lit r1 V0 (.num 4611686018427387904) [(0,1,V0,.num 10)] rfl hm', by exact lin r1 (.neg (.num 4611686018427387904)) V0 [(0,1,N0,V0)] rfl hm, by simp [lim]; exact lin r1 V0 (.num 1000000) [(0,1,V0,.num 10)] rfl hm', fun f hf => ?_⟩
 have e1 : Ext J (put J c (.list [.int 0])) := Ext.refl.new hc _
 have hfn := e1.none hf
 simp only [zq, zp, jz, jr, zv, zg, zf, ze]
 have e2 := e1.new hf (.list (kaD m.toNat [.int 0]).flatten)
 refine zO (e2 _ _ hr1) ?_
 refine zI (fun i Z J' => X2 fun o3 o4 => Z = [some (.int m), some (.ref r), some (.ref f), o3, o4] /\ Ext J J' /\ qM J' f (zb9 m (kaD m.toNat 0) (rs.take i))) ?_ ?_ ?_
 ·refine ⟨none, none, rfl, e2, ?_⟩
  show put _ f _ f = _
  rw [zz]; simp [zb9, zs]
 ·intro i v Z J' K' hv hI6a hK
  obtain ⟨o3, o4, rfl, hcj⟩ := hI6a
  have e := hcj.1; have hi := hcj.2; clear hcj
  obtain ⟨t, a, b, rfl, hrs, ht⟩ := hr2.get hv
  have hab := hp _ (kaj hrs)
  refine ⟨.inl (e _ _ hr1), ?_⟩
  simp only [ql, zq, zp, jz, jr, zv, zg, zf, ze]
  rw [zj0 (e _ _ ht)]
  refine zI (fun j Z J'' => ∃ o4, Z = [some (.int m), some (.ref r), some (.ref f), some (.ref t), o4] /\ Ext J J'' /\ qM J'' f (([a, b].take j).foldl (za0 m) (zb9 m (kaD m.toNat 0) (rs.take i)))) ⟨o4, rfl, e, by simpa using hi⟩ ?_ ?_
  ·intro j v Z J'' K'' hv' hI6b hK'
   obtain ⟨o4, rfl, hcj⟩ := hI6b
   have e' := hcj.1; have hi' := hcj.2; clear hcj
   refine ⟨e' _ _ ht, ?_⟩
   have hv2 : ∃ x, [a, b][j]? = some x /\ v = .int x /\ 0 <= x := by
    match j with
    | 0 => simp at hv'; exact ⟨a, rfl, hv'.symm, hab.1⟩
    | 1 => simp at hv'; exact ⟨b, rfl, hv'.symm, hab.2⟩
    | j + 2 => simp at hv'
   obtain ⟨x, hx, rfl, hx0⟩ := hv2
   have hnext : ([a, b].take (j + 1)).foldl (za0 m) (zb9 m (kaD m.toNat 0) (rs.take i)) = za0 m (([a, b].take j).foldl (za0 m) (zb9 m (kaD m.toNat 0) (rs.take i))) x := by
    rw [kaY, hx]; simp
   generalize hF : ([a, b].take j).foldl (za0 m) (zb9 m (kaD m.toNat 0) (rs.take i)) = F at *
   have hFl : F.length = m.toNat := by
    rw [<- hF]
    have : ∀ (l : List Int) (f : List Int), (l.foldl (za0 m) f).length = f.length := by
     intro l; induction l with
     | nil => intro f; rfl
     | cons y l ih => intro f; rw [kbD, ih, zf8]
    rw [this, zjh]; simp
   simp only [ql, zq, zp, je, qH, zv, zg, zf, zd, zm, Cmp.run, qC]
   by_cases hlt : x < m
   ·simp only [hlt, decide_true, if_true, zay, jf, qA, zv, zg, zf, qo, ze, zd]
    have hxl : x.toNat < F.length := by exact ltN (lit r5 V0 V1 [(2,-1,V1,V2),(1,1,V3,V4),(2,1,V0,V3),(2,-1,V2,V4)] rfl (eqI hFl) hlt (tnn (hx0)) (tnn (hm)))
    refine ⟨hx0, ?_⟩
    refine qx hi' (yk (zcl (n := F.getD x.toNat 0) (by simp [kcz, hxl])) ?_)
    refine Eq.mpr (zaB hi') ?_
    rw [qc]
    refine ⟨hx0, by exact lit r3 V0 V1 [(1,1,V2,V1),(2,-1,V2,V0)] rfl (ltI hxl) (tnn (hx0)), hK' .next _ _ ⟨_, rfl, e'.put hfn _, ?_⟩⟩
    rw [hnext]
    show put _ f _ f = _
    rw [zz, zj5]; simp [za0, hlt]
   ·refine qW (decide_eq_false hlt) ?_
    exact hK' .next _ _ ⟨_, rfl, e', by rw [hnext]; simpa [za0, hlt] using hi'⟩
  ·rintro Z J'' ⟨o4, rfl, hcj⟩
   have e' := hcj.1; have hi' := hcj.2; clear hcj
   refine ⟨e' _ _ ht, hK .next _ _ ⟨_, _, rfl, e', ?_⟩⟩
   rw [zbX m _ rs i _ hrs]
   simpa using hi'
 ·rintro Z J' ⟨o3, o4, rfl, hcj⟩
  have e := hcj.1; have hi := hcj.2; clear hcj
  refine ⟨.inl (e _ _ hr1), ?_⟩
  refine hq f J' e hfn ?_
  rw [hr2.length, kaL] at hi
  exact hi
end
end Mine
end
section
open PySem
namespace Mine
inductive jl (rs : List (Int × Int)) : Int -> Int -> Prop
 | refl {a} : jl rs a a
 | fwd {a b c} : jl rs a b -> (b, c) ∈ rs -> jl rs a c
 | bwd {a b c} : jl rs a b -> (c, b) ∈ rs -> jl rs a c
structure Net (m : Int) (rs : List (Int × Int)) : Prop where
 m0 : 0 <= m
 m10 : m <= 10
 len : rs.length <= 40
 ends : ∀ p ∈ rs, (0 <= p.1 /\ p.1 <= m) /\ (0 <= p.2 /\ p.2 <= m) /\ p.1 ≠ p.2
 conn : ∀ k, 0 <= k -> k < m -> jl rs m k
noncomputable def yl (ks : List Int) (k : Int) : List Int := if k ∈ ks then ks else ks ++ [k]
noncomputable def dk (ks : List Int) : List (Int × V) := ks.map fun k => (k, .bool true)
theorem yg (ks) : (dk ks).length = ks.length := by simp [dk]
theorem y1 (ks : List Int) (k : Int) : zhW (dk ks) k = decide (k ∈ ks) := by
 unfold zhW dk
 rw [kcV, kaS]
 simp [kbV]
theorem y0 (ks : List Int) (k : Int) : zgt (dk ks) k (.bool true) = dk (yl ks k) := by
 unfold zgt yl
 have := y1 ks k
 unfold zhW at this
 rw [this]
 by_cases h : k ∈ ks
 ·simp only [h, decide_true, if_true]
  unfold dk
  rw [kbB]
  apply kbd
  intro x _
  simp only [Function.comp]
  split <;> rfl
 ·simp [h, dk]
theorem zbz {ks : List Int} (h : ks.Nodup) (k : Int) : (yl ks k).Nodup := by
 unfold yl; split
 ·exact h
 ·rename_i hk
  rw [kbg]
  refine ⟨h, by simp, ?_⟩
  intro a ha b hb
  simp at hb; subst hb
  rintro rfl; exact hk ha
theorem jD (ks : List Int) (k x : Int) : x ∈ yl ks k ↔ x ∈ ks \/ x = k := by
 unfold yl; split
 ·rename_i h; exact ⟨.inl, fun h' => h'.elim id (fun e => e ▸ h)⟩
 ·simp
theorem zdU : ∀ (l m : List Int), l.Nodup -> (∀ x ∈ l, x ∈ m) -> l.length <= m.length := by
 intro l_
 induction l_ with
 | nil =>
  intro m _ _
  simp
 | cons a l ih_ =>
  intro m nd h
  have ha := h a (by simp)
  have h1 := ih_ (m.erase a) (kaQ.mp nd).2 (fun x hx => by
   have hne : x ≠ a := by rintro rfl; exact (kaQ.mp nd).1 hx
   exact (List.mem_erase_of_ne hne).mpr (h x (by simp [hx])))
  rw [List.length_erase_of_mem ha] at h1
  have : 0 < m.length := List.length_pos_of_mem ha
  simp only [kag]
  lia
noncomputable def zkp (n : Nat) : List Int := (kaa (n + 1)).map fun i : Nat => (i : Int)
theorem zi6 (n : Nat) (k : Int) : k ∈ zkp n ↔ 0 <= k /\ k <= (n : Int) := by
 unfold zkp
 simp only [kat, kan]
 constructor
 ·rintro ⟨i, hi, rfl⟩; exact ⟨(nnI _), lin r2 V0 V1 [(1,1,V0,.add V1 N1)] rfl (ltI hi)⟩
 ·intro h; exact ⟨k.toNat, by exact ltN (lit r3 V0 (.add V1 N1) [(0,1,V2,V1),(2,1,V0,V2)] rfl h.2 (tnn (h.1))), by exact (tnn (h.1))⟩
theorem zjp (n : Nat) : (zkp n).Nodup := by
 unfold zkp
 rw [kaW, kbn]
 exact (kbe (n := n + 1)).imp (fun h e => h (by exact eqN (e)))
theorem wd (n : Nat) (ks : List Int) (nd : ks.Nodup) (h : ∀ k ∈ ks, 0 <= k /\ k <= (n : Int)) : ks.length <= n + 1 := by
 have := zdU ks (zkp n) nd fun x hx => (zi6 n x).mpr (h x hx)
 simpa [zkp] using this
theorem zbb (n : Nat) (ks : List Int) (h : ∀ k : Int, 0 <= k -> k <= (n : Int) -> k ∈ ks) : n + 1 <= ks.length := by
 have := zdU (zkp n) ks (zjp n) fun x hx => by have := (zi6 n x).mp hx; exact h x this.1 this.2
 simpa [zkp] using this

structure zio (m : Int) (rs : List (Int × Int)) (ks : List Int) : Prop where
 nd : ks.Nodup
 pit : m ∈ ks
 rng : ∀ k ∈ ks, 0 <= k /\ k <= m
 reach : ∀ k ∈ ks, jl rs m k
theorem zio.le {m rs ks} (h : zio m rs ks) : (ks.length : Int) <= m + 1 := by
 have h0 := h.rng m h.pit
 have := wd m.toNat ks h.nd fun k hk => by have := h.rng k hk; exact ⟨this.1, lin r3 V0 V1 [(0,1,V0,V2),(2,-1,V1,V2)] rfl this.2 (tnn (h0.1))⟩
 exact lin (@r3 (↑(ks.length)) _ (↑(m.toNat))) V0 (.add V1 N1) [(0,1,V0,.add V2 N1),(2,1,V2,V1)] rfl (leI this) (tnn (h0.1))
def zbh (rs : List (Int × Int)) (ks : List Int) : Prop := ∀ p ∈ rs, p.1 ∈ ks ↔ p.2 ∈ ks
theorem zbh.all {rs ks a b} (h : zbh rs ks) (ha : a ∈ ks) (r : jl rs a b) : b ∈ ks := by
 induction r with
 | refl => exact ha
 | fwd _ hm ih => exact (h _ hm).mp ih
 | bwd _ hm ih => exact (h _ hm).mpr ih

section
variable {T : TC} {d : Nat} {J : zb} {Q : V -> zb -> Prop} {P : Nat -> zb -> Prop}
theorem zc6 (h : FnW T "come_to" 2 4 (za5 T)) {m : Int} {r : Addr} {rs : List (Int × Int)} (hm : 0 <= m) (hm' : m <= 10) (hr : zQ J r rs) (hp : ∀ p ∈ rs, (0 <= p.1 /\ p.1 <= m) /\ (0 <= p.2 /\ p.2 <= m))
  (hq : ∀ c J' ks, Ext J J' -> J c = none -> J' c = some (.dict (dk ks)) -> zio m rs ks -> zbh rs ks -> Q (.ref c) J') : zA T (d + 1) "come_to" [.int m, .ref r] J Q P := by
 refine h d _ _ _ _ rfl ?_
 obtain ⟨vs, hr1, hr2⟩ := hr
 simp only [za5, zG, zV, wV, qo, zv, qf, qi, qe, zg, zf, ze, zd, wb, zq, zp, zbC]
 intro f hf
 have e1 : Ext J (put J f (.dict [(m, .bool true)])) := Ext.refl.new hf _
 refine ze2 (fun Z J' => X4 fun b o4 o5 ks => Z = [some (.int m), some (.ref r), some (.ref f), some (.bool b), o4, o5] /\ Ext J J' /\ J' f = some (.dict (dk ks)) /\ zio m rs ks /\ (b = false -> zbh rs ks))
  (fun Z J' => (match J' f with | some (.dict kvs) => 2 * (12 - kvs.length) | _ => 0) + (match jC Z 3 with | some (.bool true) => 1 | _ => 0)) ?_ ?_
 ·exact ⟨true, none, none, [m], rfl, e1, zz _ _ _, ⟨by simp, by simp, by simp; assumption, by simp; exact .refl⟩, by simp⟩
 ·intro Z J' n K' hI4a hn hK
  obtain ⟨b, o4, o5, ks, rfl, hcj⟩ := hI4a
  have e := hcj.1; have hd := hcj.2.1; have hc := hcj.2.2.1; have hcl := hcj.2.2.2; clear hcj
  simp only [zdx, zv, zg, zf, zm]
  cases b with
  | false =>
   exact hq f J' ks e hf hd hc (hcl rfl)
  | true =>
   simp only [if_true, zG, zV, qo, zq, zp, jz, jr, zv, zg, zf, ze]
   refine zO (e _ _ hr1) ?_
   refine zI (fun i Z J'' => X4 fun b o4 o5 ks' => Z = [some (.int m), some (.ref r), some (.ref f), some (.bool b), o4, o5] /\ Ext J J'' /\ J'' f = some (.dict (dk ks')) /\ zio m rs ks' /\ (b = false -> ks' = ks /\ ∀ j p, j < i -> rs[j]? = some p -> (p.1 ∈ ks ↔ p.2 ∈ ks)) /\ (b = true -> ks.length < ks'.length)) ?_ ?_ ?_
   ·exact ⟨false, o4, o5, ks, rfl, e, hd, hc, fun _ => ⟨rfl, fun j p hj => by exact lif r1 [(1,1,V0,N0),(0,1,N0,V0)] rfl (ltI hj) (nnI _)⟩, by simp⟩
   ·intro i v Z J'' K'' hv hI6b hK''
    obtain ⟨b, o4, o5, ks', rfl, hcj⟩ := hI6b
    have e' := hcj.1; have hd' := hcj.2.1; have hc' := hcj.2.2.1; have hb0 := hcj.2.2.2.1; have hb1 := hcj.2.2.2.2; clear hcj
    obtain ⟨t, x, y, rfl, hrs, ht⟩ := hr2.get hv
    have hxy := hp _ (kaj hrs)
    refine ⟨.inl (e' _ _ hr1), ?_⟩
    simp only [y2, ze]
    refine wW (e' _ _ ht) ?_
    refine ⟨rfl, ?_⟩
    simp only [yy, yx, zq, zp, je, zgM, zhQ, zv, zg, zf, zd, ze]
    refine jc hd' ?_
    refine jc hd' ?_
    simp only [y1, kad, if_false, zm, if_true]
    have hle := hc'.le
    have hlim : (dk ks').length < lim := by rw [yg]; unfold lim; exact ltN (lit r2 V0 (.num 1000000) [(0,1,V1,.num 10),(0,1,V0,.add V1 N1)] rfl hm' hle)
    by_cases hxk : x ∈ ks' <;> by_cases hyk : y ∈ ks'
    ·simp only [hxk, hyk, decide_true, bne_self_eq_false, kad, if_false, qC]
     refine hK'' .next _ _ ⟨b, _, _, ks', rfl, e', hd', hc', fun hb => ⟨(hb0 hb).1, fun j p hj hjp => ?_⟩, hb1⟩
     by_cases hji : j = i
     ·subst hji; rw [hrs] at hjp; cases hjp; rw [<- (hb0 hb).1]; simp [hxk, hyk]
     ·exact (hb0 hb).2 j p (by exact ltN ((jW (lin r2 V0 V1 [(1,1,V0,.add V1 N1)] rfl (ltI hj)) hji))) hjp
    ·simp only [hxk, hyk, decide_true, decide_false, Bool.true_bne, kb3, if_true, zG, zay, qo, zv, zg, zf, ze, zd]
     refine Eq.mpr (q9 hd') ?_
     rw [y0]
     refine ⟨hlim, ?_⟩
     have e1 : yl ks' x = ks' := by simp [yl, hxk]
     rw [e1, q9 (zz _ _ _), y0]
     refine ⟨hlim, ?_⟩
     simp only [zV, qo, zq, zp]
     refine hK'' .next _ _ ⟨true, _, _, yl ks' y, rfl, (e'.put hf _).put hf _, zz _ _ _, ⟨zbz hc'.nd _, (jD ..).mpr (.inl hc'.pit), fun k hk => ?_, fun k hk => ?_⟩, by simp, fun _ => ?_⟩
     ·rcases (jD ..).mp hk with hk | rfl
      ·exact hc'.rng k hk
      ·exact hxy.2
     ·rcases (jD ..).mp hk with hk | rfl
      ·exact hc'.reach k hk
      ·exact .fwd (hc'.reach x hxk) (kaj hrs)
     ·have : (yl ks' y).length = ks'.length + 1 := by simp [yl, hyk]
      cases b with
      | false => rw [this, (hb0 rfl).1]; exact kao _
      | true => have := hb1 rfl; exact ltN (lit r3 V0 V1 [(2,-1,V1,.add V2 N1),(1,1,V0,V2)] rfl (eqI ‹_›) (ltI this))
    ·simp only [hxk, hyk, decide_true, decide_false, Bool.false_bne, if_true, zG, zay, qo, zv, zg, zf, ze, zd]
     refine Eq.mpr (q9 hd') ?_
     rw [y0]
     refine ⟨hlim, ?_⟩
     have e1 : yl (yl ks' x) y = yl ks' x := by rw [yl, if_pos ((jD ..).mpr (.inl hyk))]
     have hlx : (yl ks' x).length = ks'.length + 1 := by simp [yl, hxk]
     refine Eq.mpr (q9 (zz _ _ _)) ?_
     rw [y0, e1]
     refine ⟨by rw [yg, hlx]; unfold lim; omega, ?_⟩
     simp only [zV, qo, zq, zp]
     refine hK'' .next _ _ ⟨true, _, _, yl ks' x, rfl, (e'.put hf _).put hf _, zz _ _ _, ⟨zbz hc'.nd _, (jD ..).mpr (.inl hc'.pit), fun k hk => ?_, fun k hk => ?_⟩, by simp, fun _ => ?_⟩
     ·rcases (jD ..).mp hk with hk | rfl
      ·exact hc'.rng k hk
      ·exact hxy.1
     ·rcases (jD ..).mp hk with hk | rfl
      ·exact hc'.reach k hk
      ·exact .bwd (hc'.reach y hyk) (kaj hrs)
     ·cases b with
      | false => rw [hlx, (hb0 rfl).1]; exact kao _
      | true => have := hb1 rfl; exact ltN (lit (@r3 (↑(ks.length)) (↑((yl ks' x).length)) (↑(ks'.length))) V0 V1 [(2,-1,V1,.add V2 N1),(1,1,V0,V2)] rfl (eqI hlx) (ltI this))
    ·simp only [hxk, hyk, decide_false, bne_self_eq_false, kad, if_false, qC]
     refine hK'' .next _ _ ⟨b, _, _, ks', rfl, e', hd', hc', fun hb => ⟨(hb0 hb).1, fun j p hj hjp => ?_⟩, hb1⟩
     by_cases hji : j = i
     ·subst hji; rw [hrs] at hjp; cases hjp; rw [<- (hb0 hb).1]; simp [hxk, hyk]
     ·exact (hb0 hb).2 j p (by exact ltN ((jW (lin r2 V0 V1 [(1,1,V0,.add V1 N1)] rfl (ltI hj)) hji))) hjp
   ·rintro Z J'' ⟨b, o4, o5, ks', rfl, hcj⟩
    have e' := hcj.1; have hd' := hcj.2.1; have hc' := hcj.2.2.1; have hb0 := hcj.2.2.2.1; have hb1 := hcj.2.2.2.2; clear hcj
    refine ⟨.inl (e' _ _ hr1), hK .next _ _ ⟨⟨b, o4, o5, ks', rfl, e', hd', hc', fun hb => ?_⟩, ?_⟩⟩
    ·obtain ⟨rfl, h2⟩ := hb0 hb
     intro p hpm
     obtain ⟨j, hj, hjp⟩ := kaV hpm
     exact h2 j p (by rw [hr2.length]; exact hj) (by rw [<- hjp]; simp [hj])
    ·rw [<- hn, hd, hd']
     have h1 := hc.le; have h2 := hc'.le
     simp only [zg, zf, yg]
     cases b with
     | false => obtain ⟨rfl, _⟩ := hb0 rfl; simp
     | true => have := hb1 rfl; simp; lia
structure zgJ (T : TC) : Prop where
 within : FnW T "is_within" 3 0 (yH T)
 road : FnW T "is_road" 2 0 (za4 T)
 come : FnW T "come_to" 2 4 (za5 T)
 need : FnW T "need_net" 2 1 (zbp T)

theorem Net.full {m rs ks} (n : Net m rs) (hc : zio m rs ks) (hcl : zbh rs ks) : (ks.length : Int) = m + 1 := by
 have h1 := hc.le
 have h3 := n.m0
 have h2 := zbb m.toNat ks fun k h0 hk => by
  by_cases e : k = m
  ·subst e; exact hc.pit
  ·exact hcl.all hc.pit (n.conn k h0 (by exact (wT (lin r3 V0 V1 [(0,1,V0,V2),(2,1,V2,V1)] rfl hk (tnn (h3))) e)))
 have := n.m0
 exact kav (h1) (lin (@r3 _ (↑(ks.length)) (↑(m.toNat))) (.add V0 N1) V1 [(0,1,.add V2 N1,V1),(2,-1,V2,V0)] rfl (leI h2) (tnn (h3)))

theorem wx (h : zgJ T) {m : Int} {r : Addr} {rs : List (Int × Int)} (n : Net m rs) (hr : zQ J r rs) (hq : ∀ J', Ext J J' -> Q .none J') : zA T (d + 3) "need_net" [.int m, .ref r] J Q P := by
 refine h.need (d + 2) _ _ _ _ rfl ?_
 obtain ⟨vs, hr1, hr2⟩ := id hr
 simp only [zbp, zG, je, zgk, zcj, zdx, zL, zB, zK, qo, zv, qf, qi, qe, zg, zf]
 refine yB (d := d + 1) h.within ?_
 have hm0 := n.m0; have hm10 := n.m10
 simp only [hm0, hm10, and_self, decide_true, zm, kbv, kad, if_false, zfq, zv, zg, zf, isi, hr1, qH, qG, ze, qo]
 refine zS hr1 ?_
 have hlen := n.len
 simp only [zd, Cmp.run, hr2.length]
 have : ¬ ((rs.length : Int) > 40) := by exact (fun h_ => lif r1 [(0,1,V0,.num 40),(1,1,.num 40,V0)] rfl (leI hlen) h_)
 simp only [this, decide_false, zm, kad, if_false, qC, zfO, qX, jr, zv, zg, zf, ze]
 refine zO hr1 ?_
 refine ⟨by rw [hr2.length]; unfold lim; exact leN (lin r1 V0 (.num 1000000) [(0,1,V0,.num 40)] rfl (leI hlen)), ?_⟩
 refine qj (fun i acc J' => acc = kaD i (.bool true) /\ J' = J) ⟨rfl, rfl⟩ ?_ ?_
 ·rintro i v acc J' K' hv ⟨rfl, rfl⟩ hK
  obtain ⟨t, x, y, rfl, hrs, ht⟩ := hr2.get hv
  have he := n.ends _ (kaj hrs)
  refine ⟨.inl hr1, ?_⟩
  refine zhn (d := d) h.within h.road ht ?_
  have he1 := he.1; have he2 := he.2.1; have he3 := he.2.2
  refine hK _ _ ⟨?_, rfl⟩
  simp only [he1, he2, and_self, decide_true, kbG, ne_eq, he3, not_false_eq_true]
  rw [kdp]
 ·rintro acc J' ⟨rfl, rfl⟩
  refine ⟨.inl hr1, fun c hc => ?_⟩
  refine zE (zz _ _ _) ?_
  have e1 : Ext J' (put J' c (.list (kaD vs.length (.bool true)))) := Ext.refl.new hc _
  refine ⟨kaD vs.length true, by simp, ?_⟩
  have : (kaD vs.length true).all id = true := by simp
  simp only [this, zm, kbv, kad, if_false, qH, qG, zL, zB, zK, jf, qo, zv, zg, zf, zd]
  refine (zc6 (d := d + 1) h.come hm0 hm10 (hr.ext e1) (fun p hp => ⟨(n.ends p hp).1, (n.ends p hp).2.1⟩) fun f J'' ks e2 hf hfd hco hcl => ?_)
  simp only [ze]
  refine zbf hfd ?_
  have hfull := n.full hco hcl
  simp only [yg, zd, Cmp.run, hfull, bne_self_eq_false, zm, kad, if_false, qC]
  exact hq J'' (e1.trans e2)

end
end Mine
end
section
open PySem
namespace Mine
def qN (J : zb) (a : Addr) (ns : List Int) : Prop := (J a = some (.ro (zs ns)) \/ J a = some (.list (zs ns))) /\ ns.length <= 63
theorem qN.ext {J J' a ns} (h : qN J a ns) (e : Ext J J') : qN J' a ns := ⟨h.1.imp (e _ _) (e _ _), h.2⟩
theorem qN.len {J a ns} {k : Nat -> Prop} (h : qN J a ns) (hk : k ns.length) : zaC J a k := by
 rw [<- qc ns] at hk
 exact h.1.elim (fun h => zmP h hk) fun h => zS h hk
theorem qN.seq {J a ns k} (h : qN J a ns) : yE J a k = k (zs ns) := h.1.elim zmL zcW
noncomputable def zqW (x k : Int) : Int := (x * 48271 + k * 104729).fmod 2147483647
noncomputable def zqV (x k : Int) : Int := (x * x + 48271 * k).fmod 2147483629
noncomputable def qw (ns : List Int) (k : Int) : Int := if k < ns.length then ns.getD k.toNat 0 else if ns = [] then 0 else zqV (zqW (ns.getD (k.fmod ns.length).toNat 0) k) k
noncomputable def znf (c k : Int) : Int := let x := (c * 48271 + (k + 1) * 7919 * (c.fmod 9973 + 7)).fmod 2147483647; (x * x + 69621 * k).fmod 2147483629
noncomputable def jp (n m s : Int) : Int := if n = m then m else if (s.fdiv 16).fmod 2 = 1 then m - 1 - (n + s).fmod m else (n + s).fmod m

theorem zaz {a b : Int} (h1 : -(2 ^ 64) < b) (h2 : b < 2 ^ 64) : IntMulOk a b := .of_right (intBits_le_64 h1 h2)
theorem zfm {a b : Int} (h1 : -(2 ^ 64) < a) (h2 : a < 2 ^ 64) : IntMulOk a b := .of_left (intBits_le_64 h1 h2)
theorem zjy {x y : Int} (h : y.natAbs < 1073741824) : Builtin.divisionGoesByPylong x y = false := PyProof.noPylong_small h
section
variable {T : TC} {d : Nat} {J : zb} {Q : V -> zb -> Prop} {P : Nat -> zb -> Prop}
theorem zgm (h : FnW T "_law_whole" 1 0 (wH T)) {i : Int} (hq : Q (.bool true) J) : zA T (d + 1) "_law_whole" [.int i] J Q P := by
 refine h d _ _ _ _ rfl ?_
 simpa [wH, isi] using hq
theorem qN.rd {J a ns} (h : qN J a ns) : Rd J (.ref a) (.list (ns.map .int)) := h.1.elim (fun h => .ro h (zb5 J ns)) fun h => .list h (zb5 J ns)
theorem qq (h : FnW T "_law_cell_at" 2 1 (yt T)) {ns : List Int} {s : Addr} {k : Int} (hs : qN J s ns) (h0 : 0 <= k) (hk : k < 2 ^ 30) (hq : ∀ J', Ext J J' -> Q (.int (qw ns k)) J') : zA T (d + 1) "_law_cell_at" [.ref s, .int k] J Q P := by
 refine h d _ _ _ _ rfl ?_
 simp only [yt, zj8, zni, zns, znh, zfn, zkV, zkU, zkT, zaY, zaZ, zfN]
 refine hs.len ?_
 simp only [j9, Cmp.run, yh]
 by_cases h1 : k < (ns.length : Int)
 ·refine qD (decide_eq_true h1) ?_
  refine ⟨h0, ?_⟩
  have hlt : k.toNat < ns.length := by exact ltN (lit r3 V0 V1 [(1,1,V2,V1),(2,1,V0,V2)] rfl h1 (tnn (h0)))
  rw [hs.seq, yZ (zcl (n := ns.getD k.toNat 0) (by simp [kcz, hlt]))]
  have := hq J .refl
  simpa only [qw, h1, if_true] using this
 ·refine qW (decide_eq_false h1) ?_
  refine ⟨by first | exact kak rfl | simp [lim], fun c hc => ?_⟩
  have e1 : Ext J (put J c (.list [])) := Ext.refl.new hc _
  have hs1 := hs.ext e1
  have hemp : qM (put J c (.list [])) c [] := zz _ _ _
  refine ⟨_, _, hs1.rd, hemp.rd, zaJ _, zaJ _, ?_⟩
  have eqv : PyData.eqv (.list (ns.map .int)) (.list (([] : List Int).map .int)) = decide (ns = []) := by simp only [PyData.eqv]; exact zaL ns []
  rw [eqv]
  by_cases h2 : ns = []
  ·simp only [h2, decide_true, kad, if_false, yh, if_true, zj9, ze6]
   have := hq _ e1
   simp only [qw, h2] at this
   simpa using this
  ·have hpos : 0 < ns.length := List.length_pos_iff.mpr h2
   simp only [h2, decide_false, kad, if_false, yh, zhC, zik, zgl, jf, zic, zpk, znh, ze6, zfn, zaY, zaZ, zfN, j9]
   refine hs1.len ?_
   have hn0 : (ns.length : Int) ≠ 0 := by exact (fun h_ => lif r1 [(1,1,N0,V0),(2,1,V0,N0)] rfl (ltI hpos) h_)
   have hm0 := ka1 k (b := (ns.length : Int)) (by exact kaE.mpr ‹_›)
   have hm1 := kbr k (b := (ns.length : Int)) (by exact kaE.mpr ‹_›)
   refine ⟨hn0, hm0, ?_⟩
   rw [hs1.seq, yZ (zcl (n := ns.getD (k.fmod ns.length).toNat 0) (by
    have : (k.fmod ns.length).toNat < ns.length := by lia
    simp [kcz, this]))]
   refine ⟨zaz (by exact nnI _) (by exact nnI _), zaz (by exact nnI _) (by exact nnI _), by decide, ?_⟩
   simp only [zfi, zfh, zj9, zgl, jf, zic, ze6, zfn, zaY, zaZ, j9]
   have a0 := ka1 (ns.getD (k.fmod ns.length).toNat 0 * 48271 + k * 104729) (b := 2147483647) (by exact nnI _)
   have a1 := kbr (ns.getD (k.fmod ns.length).toNat 0 * 48271 + k * 104729) (b := 2147483647) (by exact nnI _)
   refine ⟨zaz (by exact lit r1 (.neg (.num 18446744073709551616)) V0 [(0,1,N0,V0)] rfl a0) (by exact lit r1 V0 (.num 18446744073709551616) [(1,1,V0,.num 2147483647)] rfl a1), zfm (by exact nnI _) (by exact nnI _), by decide, ?_⟩
   have := hq _ e1
   simp only [qw, h1, h2, if_false] at this
   exact this
theorem zjC (h : FnW T "_law_mixed" 2 1 (wI T)) {c k : Int} (h0 : 0 <= k) (hk : k < 2 ^ 20) (hq : Q (.int (znf c k)) J) : zA T (d + 1) "_law_mixed" [.int c, .int k] J Q P := by
 refine h d _ _ _ _ rfl ?_
 simp only [wI, zj8, zik, zgl, jf, zic, zfn, ze6, zkV, zkU, zkT, zaY, zaZ, j9]
 have a0 := ka1 c (b := 9973) (by exact nnI _)
 have a1 := kbr c (b := 9973) (by exact nnI _)
 refine ⟨zaz (by exact nnI _) (by exact nnI _), zaz (by exact nnI _) (by exact nnI _), by decide, zaz (by exact lit r1 (.neg (.num 18446744073709551616)) (.add V0 (.num 7)) [(0,1,N0,V0)] rfl a0) (by exact lit r1 (.add V0 (.num 7)) (.num 18446744073709551616) [(1,1,V0,.num 9973)] rfl a1), by decide, ?_⟩
 simp only [zfi, zfh, zj9, zgl, jf, zic, ze6, zfn, zaY, zaZ, j9]
 have b0 := ka1 (c * 48271 + (k + 1) * 7919 * (c.fmod 9973 + 7)) (b := 2147483647) (by exact nnI _)
 have b1 := kbr (c * 48271 + (k + 1) * 7919 * (c.fmod 9973 + 7)) (b := 2147483647) (by exact nnI _)
 exact ⟨zaz (by exact lit r1 (.neg (.num 18446744073709551616)) V0 [(0,1,N0,V0)] rfl b0) (by exact lit r1 V0 (.num 18446744073709551616) [(1,1,V0,.num 2147483647)] rfl b1), zfm (by exact nnI _) (by exact nnI _), by decide, hq⟩
theorem zea (h : FnW T "_law_turned" 3 0 (y5 T)) {n m s : Int} (hm : n ≠ m -> 0 < m) (hq : Q (.int (jp n m s)) J) : zA T (d + 1) "_law_turned" [.int n, .int m, .int s] J Q P := by
 refine h d _ _ _ _ rfl ?_
 simp only [y5, zG, je, qH, zv, qf, qe, zg, zf, zd, zm, Cmp.run]
 by_cases h1 : n = m
 ·simp only [h1, beq_self_eq_true, if_true, j3, zv, zg, zf]
  simpa [jp, h1] using hq
 ·have hm' := hm h1
  have hb : (n == m) = false := by simpa using h1
  simp only [hb, kad, if_false, qC, wf, zaM, zv, qo, zg, zf, zd]
  refine ⟨⟨by decide, zjy (by decide)⟩, by decide, ?_⟩
  by_cases h2 : (s.fdiv 16).fmod 2 = 1
  ·simp only [h2, beq_self_eq_true, if_true, j3, zav, wf, jf, zv, qo, zg, zf, zd]
   refine ⟨by exact Mine.jM ‹_›, ?_⟩
   simpa [jp, h1, h2] using hq
  ·have hb2 : ((s.fdiv 16).fmod 2 == 1) = false := by simpa using h2
   simp only [hb2, kad, if_false, qC, j3, wf, jf, zv, zg, zf, zd]
   refine ⟨by exact Mine.jM ‹_›, ?_⟩
   simpa [jp, h1, h2] using hq

theorem j8 (h : FnW T "_law_degrees" 2 4 (jm T)) {m : Int} {r : Addr} {rs : List (Int × Int)} (hm : 0 <= m) (hm' : m <= 10) (hr : zQ J r rs) (hp : ∀ p ∈ rs, 0 <= p.1 /\ 0 <= p.2)
  (hq : ∀ c J', Ext J J' -> J c = none -> qM J' c (degs m rs) -> Q (.ref c) J') : zA T (d + 1) "_law_degrees" [.int m, .ref r] J Q P := by
 refine h d _ _ _ _ rfl ?_
 obtain ⟨vs, hr1, hr2⟩ := hr
 simp only [jm, zG, zV, zib, qV, zB, qo, zK, zv, qf, qi, qe, zg, zf, ze, zd, wb, kag, kaB]
 refine ⟨by first | exact kak rfl | simp [lim], fun c hc => ?_⟩
 refine zE (zz _ _ _) ?_
 refine ⟨by exact lit r1 V0 (.num 4611686018427387904) [(0,1,V0,.num 10)] rfl hm', by exact lin r1 (.neg (.num 4611686018427387904)) V0 [(0,1,N0,V0)] rfl hm, by simp [lim]; exact lin r1 V0 (.num 1000000) [(0,1,V0,.num 10)] rfl hm', fun f hf => ?_⟩
 have e1 : Ext J (put J c (.list [.int 0])) := Ext.refl.new hc _
 have hfn := e1.none hf
 simp only [zq, zp, jz, jr, zv, zg, zf, ze]
 have e2 := e1.new hf (.list (kaD m.toNat [.int 0]).flatten)
 refine zO (e2 _ _ hr1) ?_
 refine zI (fun i Z J' => X3 fun o3 o4 o5 => Z = [some (.int m), some (.ref r), some (.ref f), o3, o4, o5] /\ Ext J J' /\ qM J' f (zb9 m (kaD m.toNat 0) (rs.take i))) ?_ ?_ ?_
 ·refine ⟨none, none, none, rfl, e2, ?_⟩
  show put _ f _ f = _
  rw [zz]; simp [zb9, zs]
 ·intro i v Z J' K' hv hI6a hK
  obtain ⟨o3, o4, o5, rfl, hcj⟩ := hI6a
  have e := hcj.1; have hi := hcj.2; clear hcj
  obtain ⟨t, a, b, rfl, hrs, ht⟩ := hr2.get hv
  have hab := hp _ (kaj hrs)
  refine ⟨.inl (e _ _ hr1), ?_⟩
  refine wW (e _ _ ht) ?_
  refine ⟨rfl, ?_⟩
  simp only [yy, yx, zq, zp, jz, jr, qV, zB, zK, zv, zg, zf, kag, kaB, wb]
  refine ⟨by first | exact kak rfl | simp [lim], fun l hl => ?_⟩
  simp only [ze]
  have e' := e.new hl (.list [.int a, .int b])
  have hlf : l ≠ f := by rintro rfl; rw [hi] at hl; cases hl
  have hln := e.none hl
  refine zO (zz _ _ _) ?_
  refine zI (fun j Z J'' => ∃ o5, Z = [some (.int m), some (.ref r), some (.ref f), some (.int a), some (.int b), o5] /\ Ext J J'' /\ J'' l = some (.list [.int a, .int b]) /\ qM J'' f (([a, b].take j).foldl (za0 m) (zb9 m (kaD m.toNat 0) (rs.take i)))) ⟨o5, rfl, e', zz _ _ _, ?_⟩ ?_ ?_
  ·show put _ l _ f = _
   rw [zY _ (Ne.symm hlf)]; exact hi
  ·intro j v Z J'' K'' hv' hI6b hK'
   obtain ⟨o5, rfl, hcj⟩ := hI6b
   have e' := hcj.1; have hl' := hcj.2.1; have hi' := hcj.2.2; clear hcj
   refine ⟨.inl hl', ?_⟩
   have hv2 : ∃ x, [a, b][j]? = some x /\ v = .int x /\ 0 <= x := by
    match j with
    | 0 => simp at hv'; exact ⟨a, rfl, hv'.symm, hab.1⟩
    | 1 => simp at hv'; exact ⟨b, rfl, hv'.symm, hab.2⟩
    | j + 2 => simp at hv'
   obtain ⟨x, hx, rfl, hx0⟩ := hv2
   have hnext : ([a, b].take (j + 1)).foldl (za0 m) (zb9 m (kaD m.toNat 0) (rs.take i)) = za0 m (([a, b].take j).foldl (za0 m) (zb9 m (kaD m.toNat 0) (rs.take i))) x := by
    rw [kaY, hx]; simp
   generalize hF : ([a, b].take j).foldl (za0 m) (zb9 m (kaD m.toNat 0) (rs.take i)) = F at *
   have hFl : F.length = m.toNat := by
    rw [<- hF]
    have : ∀ (l : List Int) (f : List Int), (l.foldl (za0 m) f).length = f.length := by
     intro l; induction l with
     | nil => intro f; rfl
     | cons y l ih => intro f; rw [kbD, ih, zf8]
    rw [this, zjh]; simp
   simp only [ql, zq, zp, je, qH, zv, zg, zf, zd, zm, Cmp.run, qC]
   by_cases hlt : x < m
   ·simp only [hlt, decide_true, if_true, zay, jf, qA, zv, zg, zf, qo, ze, zd]
    have hxl : x.toNat < F.length := by exact ltN (lit r5 V0 V1 [(2,-1,V1,V2),(1,1,V3,V4),(2,1,V0,V3),(2,-1,V2,V4)] rfl (eqI hFl) hlt (tnn (hx0)) (tnn (hm)))
    refine ⟨hx0, ?_⟩
    refine qx hi' (yk (zcl (n := F.getD x.toNat 0) (by simp [kcz, hxl])) ?_)
    refine Eq.mpr (zaB hi') ?_
    rw [qc]
    refine ⟨hx0, by exact lit r3 V0 V1 [(1,1,V2,V1),(2,-1,V2,V0)] rfl (ltI hxl) (tnn (hx0)), hK' .next _ _ ⟨_, rfl, e'.put hfn _, by rw [zY _ hlf]; exact hl', ?_⟩⟩
    rw [hnext]
    show put _ f _ f = _
    rw [zz, zj5]; simp [za0, hlt]
   ·refine qW (decide_eq_false hlt) ?_
    exact hK' .next _ _ ⟨_, rfl, e', hl', by rw [hnext]; simpa [za0, hlt] using hi'⟩
  ·rintro Z J'' ⟨o5, rfl, hcj⟩
   have e' := hcj.1; have hl' := hcj.2.1; have hi' := hcj.2.2; clear hcj
   refine ⟨.inl hl', hK .next _ _ ⟨_, _, _, rfl, e', ?_⟩⟩
   rw [zbX m _ rs i _ hrs]
   simpa using hi'
 ·rintro Z J' ⟨o3, o4, o5, rfl, hcj⟩
  have e := hcj.1; have hi := hcj.2; clear hcj
  refine ⟨.inl (e _ _ hr1), ?_⟩
  refine hq f J' e hfn ?_
  rw [hr2.length, kaL] at hi
  exact hi
end
theorem jl.mono {rs qs a b} (h : jl rs a b) (hs : ∀ p ∈ rs, p ∈ qs) : jl qs a b := by
 induction h with
 | refl => exact .refl
 | fwd _ hm ih => exact .fwd ih (hs _ hm)
 | bwd _ hm ih => exact .bwd ih (hs _ hm)
theorem jl.map {rs qs a b} (τ : Int -> Int) (h : jl rs a b) (hs : ∀ p ∈ rs, (τ p.1, τ p.2) ∈ qs \/ (τ p.2, τ p.1) ∈ qs) : jl qs (τ a) (τ b) := by
 induction h with
 | refl => exact .refl
 | fwd _ hm ih =>
  rcases hs _ hm with h | h
  ·exact .fwd ih h
  ·exact .bwd ih h
 | bwd _ hm ih =>
  rcases hs _ hm with h | h
  ·exact .bwd ih h
  ·exact .fwd ih h
def Okr (m : Int) (p : Int × Int) : Prop := (0 <= p.1 /\ p.1 <= m) /\ (0 <= p.2 /\ p.2 <= m) /\ p.1 ≠ p.2

theorem zoH {a b s m : Int} (h0 : 0 <= a) (h1 : a < m) (h2 : 0 <= b) (h3 : b < m) (h : (a + s) % m = (b + s) % m) : a = b := by
 have h4 : (a - b) % m = 0 := by
  have h5 : ((a + s) - (b + s)) % m = 0 := by rw [Int.sub_emod, h]; simp
  have e : (a + s) - (b + s) = a - b := by exact liq r3 (.sub (.add V0 V1) (.add V2 V1)) (.sub V0 V2) [] rfl
  rwa [e] at h5
 obtain ⟨k, hk⟩ := Int.dvd_of_emod_eq_zero h4
 have : k = 0 := by
  rcases Int.lt_trichotomy k 0 with h | h | h
  ·have : m * k <= m * (-1) := kbu (by exact lin r1 V0 (.neg N1) [(1,1,V0,N0)] rfl h) (by exact lin r2 N0 V0 [(0,1,N0,V1),(1,1,V1,V0)] rfl h2 h3)
   exact lif r4 [(0,1,N0,V0),(1,1,V1,V2),(2,1,.sub V0 V1,V3),(0,1,V3,.mulR V2 (-1))] rfl h0 h3 hk this
  ·exact h
  ·have : m * 1 <= m * k := kbu ‹_› (by exact lin r2 N0 V0 [(0,1,N0,V1),(1,1,V1,V0)] rfl h2 h3)
   exact lif r4 [(1,1,V0,V1),(0,1,N0,V2),(2,-1,.sub V0 V2,V3),(0,1,.mulR V1 1,V3)] rfl h1 h2 hk this
 subst this; exact liq r3 V0 V1 [(2,1,.sub V0 V1,.mulR V2 0)] rfl hk
theorem zdg (m s : Int) : jp m m s = m := by simp [jp]
theorem zhA {n m s : Int} (h0 : 0 <= n) (h : n < m) : 0 <= jp n m s /\ jp n m s < m := by
 have hne : n ≠ m := by exact (fun h_ => lif r2 [(1,1,V0,V1),(2,-1,V0,V1)] rfl h h_)
 have a := ka1 (n + s) (b := m) (by exact lit r2 N0 V0 [(0,1,N0,V1),(1,1,V1,V0)] rfl h0 h)
 have b := kbr (n + s) (b := m) (by exact lit r2 N0 V0 [(0,1,N0,V1),(1,1,V1,V0)] rfl h0 h)
 unfold jp
 rw [if_neg hne]
 split <;> (first | exact ⟨lin r2 N0 (.sub (.sub V0 N1) V1) [(1,1,V1,V0)] rfl b, lit r2 (.sub (.sub V0 N1) V1) V0 [(0,1,N0,V1)] rfl a⟩ | exact ⟨a, b⟩)
theorem ziT {n m s : Int} (h0 : 0 <= n) (h : n <= m) : 0 <= jp n m s /\ jp n m s <= m := by
 by_cases e : n = m
 ·subst e; rw [zdg]; exact ⟨h0, lin r1 V0 V0 [] rfl⟩
 ·have := zhA (s := s) h0 (by exact (wT (h) e) : n < m); exact ⟨this.1, lin r2 V0 V1 [(1,1,V0,V1)] rfl this.2⟩
theorem zl2 {a b m s : Int} (ha : 0 <= a /\ a <= m) (hb : 0 <= b /\ b <= m) (h : jp a m s = jp b m s) : a = b := by
 by_cases ea : a = m
 ·by_cases eb : b = m
  ·exact liq r3 V0 V1 [(2,1,V0,V2),(2,-1,V1,V2)] rfl ea eb
  ·have := zhA (s := s) hb.1 (by exact (wT (hb.2) eb) : b < m); rw [ea, zdg] at h; exact lif r2 [(2,1,V0,V1),(1,1,V1,V0)] rfl h this.2
 ·by_cases eb : b = m
  ·have := zhA (s := s) ha.1 (by exact (wT (ha.2) ea) : a < m); rw [eb, zdg] at h; exact lif r2 [(2,-1,V0,V1),(1,1,V0,V1)] rfl h this.2
  ·unfold jp at h
   rw [if_neg ea, if_neg eb] at h
   rw [kbo _ (by exact lin r2 N0 V0 [(0,1,N0,V1),(0,1,V1,V0)] rfl ha.1 ha.2 : 0 <= m), kbo _ (by exact lin r2 N0 V0 [(0,1,N0,V1),(0,1,V1,V0)] rfl ha.1 ha.2 : 0 <= m)] at h
   refine zoH (m := m) (s := s) ha.1 (by exact (wT (ha.2) ea)) hb.1 (by exact (wT (hb.2) eb)) ?_
   split at h <;> (first | assumption | exact liq r3 V0 V1 [(2,-1,.sub (.sub V2 N1) V0,.sub (.sub V2 N1) V1)] rfl h)
theorem zk8 {k m : Int} (s : Int) (h0 : 0 <= k) (h : k < m) : ∃ j, 0 <= j /\ j < m /\ jp j m s = k := by
 have hm : 0 < m := by exact kcd ‹_› ‹_›
 have hm' : 0 <= m := by exact kaF ‹_›
 have key : ∀ x, 0 <= x -> x < m -> ((x - s) % m + s) % m = x := fun x hx hx' => by
  have := Int.emod_emod_of_dvd (x - s + s) (Int.dvd_refl m)
  rw [Int.emod_add_emod]
  have e : x - s + s = x := by exact liq r2 (.add (.sub V0 V1) V1) V0 [] rfl
  rw [e]
  exact kcF hx hx'
 by_cases hs : (s.fdiv 16).fmod 2 = 1
 ·refine ⟨(m - 1 - k - s) % m, kdZ _ (by exact Mine.jM ‹_›), kcw _ hm, ?_⟩
  have hne : (m - 1 - k - s) % m ≠ m := by have := kcw (m - 1 - k - s) hm; exact (fun h_ => lif r2 [(1,1,V0,V1),(2,-1,V0,V1)] rfl this h_)
  unfold jp
  rw [if_neg hne, if_pos hs, kbo _ hm', key (m - 1 - k) (by exact lin r2 N0 (.sub (.sub V0 N1) V1) [(1,1,V1,V0)] rfl h) (by exact lit r2 (.sub (.sub V0 N1) V1) V0 [(0,1,N0,V1)] rfl h0)]
  exact liq r2 (.sub (.sub V0 N1) (.sub (.sub V0 N1) V1)) V1 [] rfl
 ·refine ⟨(k - s) % m, kdZ _ (by exact Mine.jM ‹_›), kcw _ hm, ?_⟩
  have hne : (k - s) % m ≠ m := by have := kcw (k - s) hm; exact (fun h_ => lif r2 [(1,1,V0,V1),(2,-1,V0,V1)] rfl this h_)
  unfold jp
  rw [if_neg hne, if_neg hs, kbo _ hm', key k h0 h]

structure zcK (T : TC) : Prop where
 cell : FnW T "_law_cell_at" 2 1 (yt T)
 mixed : FnW T "_law_mixed" 2 1 (wI T)
 turned : FnW T "_law_turned" 3 0 (y5 T)
 net : FnW T "_law_net" 2 14 (zce T)
 degs : FnW T "_law_degrees" 2 4 (jm T)

theorem zQ.push {J : zb} {g t : Addr} {vs rs a b} (h1 : J g = some (.list vs)) (h2 : Prs J vs rs) (ht : J t = some (.tup [.int a, .int b])) : zQ (put J g (.list (vs ++ [.ref t]))) g (rs ++ [(a, b)]) := by
 refine ⟨_, zz _ _ _, ?_⟩
 have hne : ∀ {t a b}, J t = some (.tup [.int a, .int b]) -> put J g (.list (vs ++ [.ref t])) t = some (.tup [.int a, .int b]) := by
  intro t a b h
  rw [zY _ (by rintro rfl; rw [h1] at h; cases h)]; exact h
 have hmono : ∀ {us qs} (o : O), Prs J us qs -> Prs (put J g o) us qs := by
  intro us qs o h
  induction h with
  | nil => exact .nil
  | cons h _ ih => exact .cons (by rw [zY _ (by rintro rfl; rw [h1] at h; cases h)]; exact h) ih
 refine (hmono _ h2).append (.cons ?_ .nil)
 rw [zY _ (by rintro rfl; rw [h1] at ht; cases ht)]; exact ht

theorem Prs.keep {J : zb} {g : Addr} {xs : List V} {o : O} {us qs} (h : Prs J us qs) (h1 : J g = some (.list xs)) : Prs (put J g o) us qs := by
 induction h with
 | nil => exact .nil
 | cons h _ ih => exact .cons (by rw [zY _ (by rintro rfl; rw [h1] at h; cases h)]; exact h) ih

theorem wF {α : Type} (l : List α) (n : Nat) : (l.drop n).length + (l.take n).length = l.length := by
 rw [kdo, <- kam, kbA]
section
variable {T : TC} {d : Nat} {J : zb} {K : Out -> zM -> zb -> Prop} {P : Nat -> zb -> Prop}
theorem zqi (h : zcK T) {s g : Addr} {ns : List Int} {L first m : Int} {line : Bool} {rs : List (Int × Int)} {o6 o7 o8 o9 o10 o11 o12 o13 o14 o15 : Option V} (hs : qN J s ns) (hg : zQ J g rs) (hm : 0 <= m) (hm' : m <= 10) (hl : rs.length <= 40) (hok : ∀ p ∈ rs, Okr m p)
  (hre : ∀ k, 0 <= k -> k < m -> jl rs m k)
  (hq : ∀ t c J' qs Z, Ext J J' -> J' t = some (.tup [.int m, .ref c]) -> zQ J' c qs -> Net m qs -> J c = none -> K (.ret (.ref t)) Z J') :
  zd6 T (d + 1) [some (.ref s), some (.int L), some (.int first), some (.int m), some (.bool line), some (.ref g), o6, o7, o8, o9, o10, o11, o12, o13, o14, o15] J K P := by
 refine qq h.cell hs (by exact nnI _) (by exact nnI _) fun J1 e1 => ?_
 simp only [zd, zp, zq, zv, zg, zf, zL, zB, zK, qo]
 refine ⟨by decide, ?_⟩
 refine qq h.cell (hs.ext e1) (by exact nnI _) (by exact nnI _) fun J2 e2 => ?_
 have e12 := e1.trans e2
 obtain ⟨vs, hg1, hg2⟩ := hg.ext e12
 simp only [zd, jf, qG, zv, qo, zg, zf, ze]
 refine zS hg1 ?_
 simp only [zd, hg2.length, qV, zK, kaB, zp, zq]
 refine ⟨by exact (fun h_ => lif r1 [(2,1,.add V0 N1,N0),(0,1,N0,V0)] rfl h_ (nnI _)), by simp [lim], zh fun f J3 hf e3 hfv => ?_⟩
 generalize hsh : (qw ns 17).fmod 32 = sh
 have a0 := ka1 (qw ns 18) (b := (rs.length : Int) + 1) (by exact lit r1 N0 (.add V0 N1) [(0,1,N0,V0)] rfl (nnI _))
 have a1 := kbr (qw ns 18) (b := (rs.length : Int) + 1) (by exact lit r1 N0 (.add V0 N1) [(0,1,N0,V0)] rfl (nnI _))
 generalize (qw ns 18).fmod ((rs.length : Int) + 1) = at' at a0 a1
 refine ⟨a0, ?_⟩
 refine ja (e3 _ _ hg1) ?_
 refine zh fun c1 J4 hc1 e4 hv1 => ⟨a0, ?_⟩
 refine ja (e4 _ _ (e3 _ _ hg1)) ?_
 refine zh fun c2 J5 hc2 e5 hv2 => ?_
 refine zE (e5 _ _ hv1) (zE hv2 ?_)
 have hvl := hg2.length
 refine ⟨by rw [wF]; exact kap (hvl ▸ hl) (by decide), zh fun c3 J6 hc3 e6 hv3 => ?_⟩
 simp only [ze]
 refine zO hv3 ?_
 have x6 := ((e12.trans e3).trans e4).trans (e5.trans e6)
 have y6 : Ext J2 J6 := (e3.trans e4).trans (e5.trans e6)
 have hfs : J f = none := e12.none hf
 have hff := e6 _ _ (e5 _ _ (e4 _ _ hfv))
 have hc3s : J c3 = none := (((e12.trans e3).trans e4).trans e5).none hc3
 have hc3f : c3 ≠ f := Ne.symm (jt (e5 _ _ (e4 _ _ hfv)) hc3)
 have hrot : Prs J6 (vs.drop at'.toNat ++ vs.take at'.toNat) (rs.drop at'.toNat ++ rs.take at'.toNat) := ((hg2.drop _).append (hg2.take _)).ext y6
 have hmem : ∀ p, p ∈ rs.drop at'.toNat ++ rs.take at'.toNat ↔ p ∈ rs := fun p => by
  rw [kau, or_comm, <- kau, kbA]
 have hlen : (rs.drop at'.toNat ++ rs.take at'.toNat).length = rs.length := (kam).trans (wF rs _)
 generalize vs.drop at'.toNat ++ vs.take at'.toNat = us at hv3 hrot
 generalize rs.drop at'.toNat ++ rs.take at'.toNat = ts at hrot hmem hlen
 clear hc3 hc2 hc1 e3 e4 e5 e6 hv1 hv2 hfv hf
 refine zI (fun i Z J' => X6 fun qs o11 o12 o13 o14 o15 => Z = [some (.ref s), some (.int L), some (.int first), some (.int m), some (.bool line), some (.ref g), o6, o7, some (.int sh), some (.int at'), some (.ref f), o11, o12, o13, o14, o15] /\ Ext J J' /\ J' c3 = some (.list us) /\ Prs J' us ts /\ zQ J' f qs /\ qs.length = i /\ (∀ j p, j < i -> ts[j]? = some p -> (jp p.1 m sh, jp p.2 m sh) ∈ qs \/ (jp p.2 m sh, jp p.1 m sh) ∈ qs) /\ ∀ q ∈ qs, ∃ p ∈ rs, q = (jp p.1 m sh, jp p.2 m sh) \/ q = (jp p.2 m sh, jp p.1 m sh)) ?_ ?_ ?_
 ·exact ⟨[], _, _, _, _, _, rfl, x6, hv3, hrot, ⟨[], hff, .nil⟩, rfl, fun j p hj => by exact lif r1 [(1,1,V0,N0),(0,1,N0,V0)] rfl (ltI hj) (nnI _), by simp⟩
 ·intro i v Z J' K' hv hI6a hK
  obtain ⟨qs, o11, o12, o13, o14, o15, rfl, hcj⟩ := hI6a
  have e := hcj.1; have hc3' := hcj.2.1; have hrot' := hcj.2.2.1; have hfq := hcj.2.2.2.1; have hql := hcj.2.2.2.2.1; have hin := hcj.2.2.2.2.2.1; have hout := hcj.2.2.2.2.2.2; clear hcj
  obtain ⟨t, a, b, rfl, hts, ht⟩ := hrot'.get hv
  have hpm : (a, b) ∈ rs := (hmem _).mp (kaj hts)
  have hokp := hok _ hpm
  refine ⟨.inl hc3', ?_⟩
  simp only [y2, ze]
  refine wW ht ?_
  refine ⟨rfl, ?_⟩
  simp only [yy, yx, zq, zp, zG, zV, zcM, zB, zK, zL, zv, zg, zf]
  refine zea h.turned (fun hne => by have := hokp.1; simp only at this; exact lit r2 N0 V0 [(0,1,N0,V1),(1,1,V1,V0)] rfl this.1 (wT (this.2) hne)) ?_
  refine zea h.turned (fun hne => by have := hokp.2.1; simp only at this; exact lit r2 N0 V0 [(0,1,N0,V1),(1,1,V1,V0)] rfl this.1 (wT (this.2) hne)) ?_
  refine ⟨by first | exact kak rfl | simp [lim], zh fun t1 J7 ht1 e7 hv7 => ?_⟩
  simp only [zq, zp, je, qH, wf, jf, zaM, qG, zL, zB, zK, zv, qo, zg, zf]
  refine qq h.cell (hs.ext (e.trans e7)) (by exact nnI _) (by exact nnI _) fun J8 e8 => ?_
  have e78 := e7.trans e8
  obtain ⟨ws, hf1, hf2⟩ := hfq.ext e78
  simp only [zd, ze]
  refine ⟨⟨by decide, zjy (by decide)⟩, ?_⟩
  refine zS hf1 ?_
  simp only [zd, Cmp.run, zm]
  refine ⟨by decide, ?_⟩
  have hwl : ws.length < lim := by
   have h1 := hf2.length
   have h2 : i < us.length := (kae.mp hv).1
   have h3 := hrot'.length
   unfold lim; exact ltN (lit r6 V0 (.num 1000000) [(0,1,V1,.num 40),(2,1,V2,V1),(2,1,V3,V4),(2,1,V0,V3),(1,1,V4,V5),(2,1,V5,V2)] rfl (leI hl) (eqI hlen) (eqI hql) (eqI h1) (ltI h2) (eqI h3))
  have fin : ∀ J9 t2 x y, Ext J8 J9 -> J9 t2 = some (.tup [.int x, .int y]) -> (x, y) = (jp a m sh, jp b m sh) \/ (x, y) = (jp b m sh, jp a m sh) -> ∀ Z', (∃ o11 o12 o13 o14 o15, Z' = [some (.ref s), some (.int L), some (.int first), some (.int m), some (.bool line), some (.ref g), o6, o7, some (.int sh), some (.int at'), some (.ref f), o11, o12, o13, o14, o15]) ->
    K' .next Z' (put J9 f (.list (ws ++ [.ref t2]))) := by
   rintro J9 t2 x y e9 ht2 hxy Z' ⟨p11, p12, p13, p14, p15, rfl⟩
   have hf9 := e9 _ _ hf1
   refine hK .next _ _ ⟨qs ++ [(x, y)], p11, p12, p13, p14, p15, rfl, (e.trans (e78.trans e9)).put hfs _, ?_, ?_, zQ.push hf9 (hf2.ext e9) ht2, by simp [hql], fun j p hj hjp => ?_, fun q hq' => ?_⟩
   ·rw [zY _ hc3f]; exact e9 _ _ (e78 _ _ hc3')
   ·have := hrot'.ext (e78.trans e9)
    exact this.keep hf9
   ·by_cases hji : j = i
    ·subst hji; rw [hts] at hjp; cases hjp
     rcases hxy with e | e
     ·exact .inl (by simp [<- e])
     ·exact .inr (by simp [<- e])
    ·rcases hin j p (by exact ltN ((jW (lin r2 V0 V1 [(1,1,V0,.add V1 N1)] rfl (ltI hj)) hji))) hjp with h | h
     ·exact .inl (by simp [h])
     ·exact .inr (by simp [h])
   ·rcases kau.mp hq' with h | h
    ·exact hout q h
    ·simp at h; subst h; exact ⟨(a, b), hpm, hxy⟩
  by_cases hfl : (((qw ns 18).fdiv 41 + (ws.length : Int)).fmod 3 == 1) = true
  ·simp only [hfl, if_true, zV, zcM, zB, zK, qA, zv, qo, zg, zf, ze, zd]
   refine ⟨by exact nnI _, ?_⟩
   refine j2 (e8 _ _ hv7) ?_
   refine ⟨by exact nnI _, ?_⟩
   refine j2 (e8 _ _ hv7) ?_
   refine ⟨by first | exact kak rfl | simp [lim], zh fun t2 J9 ht2 e9 hv9 => ?_⟩
   refine ⟨zE (e9 _ _ hf1) trivial, ?_⟩
   refine zE (e9 _ _ hf1) ?_
   refine ⟨hwl, ?_⟩
   exact fin J9 t2 _ _ e9 hv9 (.inr rfl) _ ⟨_, _, _, _, _, rfl⟩
  ·have hfl' : (((qw ns 18).fdiv 41 + (ws.length : Int)).fmod 3 == 1) = false := by simpa using hfl
   refine qW hfl' ?_
   refine ⟨zE hf1 trivial, ?_⟩
   refine zE hf1 ?_
   refine ⟨hwl, ?_⟩
   exact fin J8 t1 _ _ .refl (e8 _ _ hv7) (.inl rfl) _ ⟨_, _, _, _, _, rfl⟩
 ·rintro Z J' ⟨qs, o11, o12, o13, o14, o15, rfl, hcj⟩
  have e := hcj.1; have hc3' := hcj.2.1; have hrot' := hcj.2.2.1; have hfq := hcj.2.2.2.1; have hql := hcj.2.2.2.2.1; have hin := hcj.2.2.2.2.2.1; have hout := hcj.2.2.2.2.2.2; clear hcj
  refine ⟨.inl hc3', ?_⟩
  refine ⟨by first | exact kak rfl | simp [lim], zh fun t J7 ht e7 hv7 => ?_⟩
  have hul := hrot'.length
  refine hq t f J7 qs _ (e.trans e7) hv7 (hfq.ext e7) ⟨hm, hm', by exact leN (lin r4 V0 (.num 40) [(0,1,V1,.num 40),(2,1,V2,V1),(2,1,V0,V3),(2,1,V3,V2)] rfl (leI hl) (eqI hlen) (eqI hql) (eqI hul)), fun q hq' => ?_, fun k h0 hk => ?_⟩ hfs
  ·obtain ⟨p, hp, hpq⟩ := hout q hq'
   obtain ⟨o1, o2, o3⟩ := hok p hp
   have r1 := ziT (s := sh) o1.1 o1.2
   have r2 := ziT (s := sh) o2.1 o2.2
   have r3 : jp p.1 m sh ≠ jp p.2 m sh := fun e => o3 (zl2 o1 o2 e)
   rcases hpq with rfl | rfl
   ·exact ⟨r1, r2, r3⟩
   ·exact ⟨r2, r1, Ne.symm r3⟩
  ·obtain ⟨j, j0, j1, rfl⟩ := zk8 sh h0 hk
   have := (hre j j0 j1).map (qs := qs) (fun x => jp x m sh) fun p hp => by
    obtain ⟨i, hi, hip⟩ := kaV ((hmem p).mpr hp)
    exact hin i p (by exact ltN (lit r3 V0 V1 [(2,-1,V1,V2),(1,1,V0,V2)] rfl (eqI hul) (ltI hi))) (by rw [<- hip]; simp [hi])
   simpa [zdg] using this
end
end Mine
end
section
open PySem
namespace Mine
theorem jE {a b : Int} (h : 0 < b) : 0 <= a.fmod b /\ a.fmod b < b := ⟨ka1 a h, kbr a h⟩
theorem zme {one x m : Int} (hm : 0 < m) (h0 : 0 <= one) (h1 : one <= m) (hx : 0 <= x) (hx' : x < m) : Okr m (one, (one + 1 + x).fmod (m + 1)) := by
 have h2 := jE (a := one + 1 + x) (b := m + 1) (by exact lit r1 N0 (.add V0 N1) [(1,1,N0,V0)] rfl hm)
 refine ⟨⟨h0, h1⟩, ⟨h2.1, by simp only; exact lin r2 V0 V1 [(1,1,V0,.add V1 N1)] rfl h2.2⟩, ?_⟩
 simp only
 rw [kbo _ (by exact lin r1 N0 (.add V0 N1) [(1,1,N0,V0)] rfl hm : 0 <= m + 1)]
 by_cases h : one + 1 + x < m + 1
 ·rw [kcF (by exact lin r2 N0 (.add (.add V0 N1) V1) [(0,1,N0,V0),(0,1,N0,V1)] rfl h0 hx) h]; exact (fun h_ => lif r2 [(0,1,N0,V0),(2,-1,V1,.add (.add V1 N1) V0)] rfl hx h_)
 ·have e : one + 1 + x = (one + x - m) + (m + 1) * 1 := by exact liq r3 (.add (.add V0 N1) V1) (.add (.sub (.add V0 V1) V2) (.mulR (.add V2 N1) 1)) [] rfl
  rw [e, Int.add_mul_emod_self_left, kcF (by exact lin r3 N0 (.sub (.add V0 V1) V2) [(4,1,.add (.add V0 N1) V1,.add V2 N1)] rfl h) (by exact lit r3 (.sub (.add V0 V1) V2) (.add V2 N1) [(0,1,V0,V2),(1,1,V1,V2)] rfl h1 hx')]; exact (fun h_ => lif r3 [(1,1,V0,V1),(2,1,V2,.sub (.add V2 V0) V1)] rfl hx' h_)
def zoZ (JA : zb) (m : Int) (K : Out -> zM -> zb -> Prop) : Prop := ∀ t c J' qs Z, Ext JA J' -> J' t = some (.tup [.int m, .ref c]) -> zQ J' c qs -> Net m qs -> JA c = none -> K (.ret (.ref t)) Z J'
structure zin (JA J : zb) (s g : Addr) (ns : List Int) (m : Int) (rs : List (Int × Int)) : Prop where
 e0 : Ext JA J
 hs : qN JA s ns
 hg0 : JA g = none
 hg : zQ J g rs
 hm : 0 <= m
 hm' : m <= 10
 hl : (rs.length : Int) = m
 hok : ∀ p ∈ rs, Okr m p
 hre : ∀ k, 0 <= k -> k < m -> jl rs m k
theorem zin.ext {JA J J' s g ns m rs} (h : zin JA J s g ns m rs) (e : Ext J J') : zin JA J' s g ns m rs := { h with e0 := h.e0.trans e, hg := h.hg.ext e }
section
variable {T : TC} {d : Nat} {JA J : zb} {K : Out -> zM -> zb -> Prop} {P : Nat -> zb -> Prop}
variable {s g : Addr} {ns : List Int} {L first m : Int} {line : Bool} {rs : List (Int × Int)} {o6 o7 o8 o9 o10 o11 o12 o13 o14 o15 : Option V}
theorem zlP (h : zcK T) (hn : zin JA J s g ns m rs) {z : Int} (hz : 0 <= z) (hz' : m + z <= 40) (hq : zoZ JA m K) :
  zbY T (d + 1) [some (.ref s), some (.int L), some (.int first), some (.int m), some (.bool line), some (.ref g), o6, some (.int z), o8, o9, o10, o11, o12, o13, o14, o15] J K P := by
 obtain ⟨e0, hs, hg0, hg, hm, hm', hl, hok, hre⟩ := hn
 simp only [zbY, zG, jz, jL, zdr, zif, qH, zv, qo, zg, zf, zd, zm, Cmp.run]
 refine ⟨zaz (by split <;> decide) (by split <;> decide), ?_⟩
 generalize hN : z * (if decide (m > 0) = true then 1 else 0) = N
 have hN0 : 0 <= N := by rw [<- hN]; split <;> (first | exact lin r1 N0 (.mulR V0 1) [(0,1,N0,V0)] rfl hz | exact lin r1 N0 (.mulR V0 0) [] rfl)
 have hNz : N <= z := by rw [<- hN]; split <;> (first | exact lin r1 (.mulR V0 1) V0 [] rfl | exact lin r1 (.mulR V0 0) V0 [(0,1,N0,V0)] rfl hz)
 have hNm : 0 < N -> 0 < m := by
  intro hp; rw [<- hN] at hp
  by_cases hmm : m > 0
  ·exact hmm
  ·simp [hmm] at hp
 refine ⟨by first | exact qP ‹_› ‹_› | (unfold small; exact ⟨lin r1 (.neg (.num 4611686018427387904)) V0 [(0,1,N0,V0)] rfl hN0, lit r3 V0 (.num 4611686018427387904) [(0,1,.add V1 V2,.num 40),(0,1,N0,V1),(0,1,V0,V2)] rfl hz' hm hNz⟩), ?_⟩
 refine zI (fun i Z J' => X4 fun qs o6 o11 o13 => Z = [some (.ref s), some (.int L), some (.int first), some (.int m), some (.bool line), some (.ref g), o6, some (.int z), o8, o9, o10, o11, o12, o13, o14, o15] /\ Ext JA J' /\ zQ J' g qs /\ (qs.length : Int) = m + i /\ (∀ p ∈ rs, p ∈ qs) /\ ∀ p ∈ qs, Okr m p) ?_ ?_ ?_
 ·exact ⟨rs, _, _, _, rfl, e0, hg, by exact liq r2 V0 (.add V1 N0) [(2,1,V0,V1)] rfl hl, fun p hp => hp, hok⟩
 ·intro i v Z J' K' hv hI6a hK
  obtain ⟨qs, o6, o11, o13, rfl, hcj⟩ := hI6a
  have e := hcj.1; have hgq := hcj.2.1; have hql := hcj.2.2.1; have hin := hcj.2.2.2.1; have hokq := hcj.2.2.2.2; clear hcj
  obtain ⟨hi, rfl⟩ := qI hv
  have hmp := hNm (by exact lit r2 N0 V0 [(1,1,V1,V0),(0,1,N0,V1)] rfl (kbj.mp hi) (nnI _))
  refine ⟨trivial, ?_⟩
  simp only [ql, zq, zp, zG, zV, zL, zB, zK, jf, wf, zv, qo, zg, zf, zd]
  have k5 := jE (a := (0 : Int) + i) (b := 5) (by exact nnI _)
  refine ⟨by decide, ?_⟩
  refine qq h.cell (hs.ext e) (by exact lin r1 N0 (.add (.num 12) V0) [(0,1,N0,V0)] rfl k5.1) (by exact lit r1 (.add (.num 12) V0) (.num 1073741824) [(1,1,V0,.num 5)] rfl k5.2) fun J3 e3 => ?_
  refine zjC h.mixed (by exact nnI _) (by omega) ?_
  generalize znf _ _ = c
  refine ⟨by exact (fun h_ => lif r1 [(0,1,N0,V0),(2,1,.add V0 N1,N0)] rfl hm h_), ?_⟩
  have c1 := jE (a := c) (b := m + 1) (by exact lit r1 N0 (.add V0 N1) [(0,1,N0,V0)] rfl hm)
  have c2 := jE (a := c.fdiv 11) (b := m) hmp
  generalize c.fmod (m + 1) = one at c1
  obtain ⟨ws, hw1, hw2⟩ := hgq.ext e3
  simp only [yS, zey, zcM, zB, zK, wf, jf, zaM, zv, qo, zg, zf, zd, ze, zq, zp]
  rw [zar hw1]
  refine ⟨trivial, ⟨by decide, zjy (by decide)⟩, by exact Mine.jM ‹_›, by exact (fun h_ => lif r1 [(0,1,N0,V0),(2,1,.add V0 N1,N0)] rfl hm h_), by simp [lim], zh fun t J4 ht e4 hv4 => ?_⟩
  refine zE (e4 _ _ hw1) ?_
  have := hw2.length
  refine ⟨by unfold lim; exact ltN (lit r6 V0 (.num 1000000) [(0,1,.add V1 V2,.num 40),(0,1,V3,V2),(2,1,V4,.add V1 V5),(1,1,V5,V3),(2,1,V0,V4)] rfl hz' hNz hql (kbj.mp hi) (eqI this)), hK .next _ _ ⟨_, _, _, _, rfl, ?_, zQ.push (e4 _ _ hw1) (hw2.ext e4) hv4, by simp; exact liq r3 (.add V0 N1) (.add V1 (.add V2 N1)) [(2,1,V0,.add V1 V2)] rfl hql, fun p hp => by simp [hin p hp], fun p hp => ?_⟩⟩
  ·exact ((e.trans e3).trans e4).put hg0 _
  ·rcases kau.mp hp with hp | hp
   ·exact hokq p hp
   ·simp only [kaf] at hp; subst hp
    exact zme hmp c1.1 (by exact lin r2 V0 V1 [(1,1,V0,.add V1 N1)] rfl c1.2) c2.1 c2.2
 ·rintro Z J' ⟨qs, o6, o11, o13, rfl, hcj⟩
  have e := hcj.1; have hgq := hcj.2.1; have hql := hcj.2.2.1; have hin := hcj.2.2.2.1; have hokq := hcj.2.2.2.2; clear hcj
  rw [z9] at hql
  refine ⟨trivial, ?_⟩
  simp only
  refine zqi h (hs.ext e) hgq hm hm' (by lia) hokq (fun k h0 hk => (hre k h0 hk).mono hin) fun t c J'' qs' Z e5 ht hc hn hcn => ?_
  exact hq t c J'' qs' Z (e.trans e5) ht hc hn (e.none hcn)
theorem znE (h : zcK T) (hn : zin JA J s g ns m rs) {z : Int} (hz : 0 <= z) (hz' : m + z <= 40) (hq : zoZ JA m K) :
  zbZ T (d + 1) [some (.ref s), some (.int L), some (.int first), some (.int m), some (.bool line), some (.ref g), o6, some (.int z), o8, o9, o10, o11, o12, o13, o14, o15] J K P := by
 simp only [zbZ, zj8, zni, zpN, zqc, zns, zgl, zpG, zoA, zov, zpv, zfn, ze6, zaY, zaZ]
 refine qq h.cell (hn.hs.ext hn.e0) (by exact nnI _) (by exact nnI _) fun J1 e1 => ?_
 have hn' := hn.ext e1
 have := hn.hm; have := hn.hm'
 simp only [j9, Cmp.run, yh]
 refine ⟨⟨by decide, zjy (by decide)⟩, by decide, ?_⟩
 split
 ·split
  ·simp only [yh, if_true, zik, zav, ze6, zfn, zaY, zaZ, j9, zfh, zfi]
   exact zlP h hn' (by exact lin r1 N0 (.sub (.num 40) V0) [(0,1,V0,.num 10)] rfl this) (by exact lin r1 (.add V0 (.sub (.num 40) V0)) (.num 40) [] rfl) hq
  ·split
   ·simp only [zik, zav, ze6, zfn, zaY, zaZ, j9, zfh, zfi]
    exact zlP h hn' (by exact lin r1 N0 (.sub (.num 40) V0) [(0,1,V0,.num 10)] rfl this) (by exact lin r1 (.add V0 (.sub (.num 40) V0)) (.num 40) [] rfl) hq
   ·simp only [zhC]
    exact zlP h hn' hz hz' hq
 ·simp only [yh, kad, if_false, zhC]
  exact zlP h hn' hz hz' hq
theorem zqj (h : zcK T) (hn : zin JA J s g ns m rs) (hq : zoZ JA m K) :
  zb0 T (d + 1) [some (.ref s), some (.int L), some (.int first), some (.int m), some (.bool line), some (.ref g), o6, o7, o8, o9, o10, o11, o12, o13, o14, o15] J K P := by
 simp only [zb0, zG, zV, wf, zL, zB, zK, zv, qo, zg, zf]
 refine qq h.cell (hn.hs.ext hn.e0) (by exact nnI _) (by exact nnI _) fun J1 e1 => ?_
 have hn' := hn.ext e1
 have := hn.hm; have := hn.hm'
 have z6 := jE (a := qw ns 11) (b := 6) (by exact nnI _)
 simp only [zd, zp, zq, je, zby, zdx, qH, zv, qo, zg, zf, zm, Cmp.run]
 generalize (qw ns 11).fmod 6 = z at z6
 have z3 := jE (a := z) (b := 3) (by exact nnI _)
 refine ⟨by decide, ?_⟩
 split
 ·split
  ·exact ⟨by exact (fun h_ => lif (@r1 0) [(2,1,.num 3,N0)] rfl h_), znE h hn' z3.1 (by exact lin r2 (.add V0 V1) (.num 40) [(0,1,V0,.num 10),(1,1,V1,.num 3)] rfl this z3.2) hq⟩
  ·exact znE h hn' z6.1 (by exact lin r2 (.add V0 V1) (.num 40) [(0,1,V0,.num 10),(1,1,V1,.num 6)] rfl this z6.2) hq
 ·exact znE h hn' z6.1 (by exact lin r2 (.add V0 V1) (.num 40) [(0,1,V0,.num 10),(1,1,V1,.num 6)] rfl this z6.2) hq
theorem zqk (h : zcK T) (hs : qN J s ns) (hm : 0 <= m) (hm' : m <= 10) (hq : zoZ J m K) {o5 : Option V} :
  zaI T (d + 1) [some (.ref s), some (.int L), some (.int first), some (.int m), some (.bool line), o5, o6, o7, o8, o9, o10, o11, o12, o13, o14, o15] J K P := by
 simp only [zaI, zG, zV, qV, zB, zK, kaB]
 refine ⟨by first | exact kak rfl | simp [lim], zh fun g J1 hg e1 hgv => ?_⟩
 simp only [zq, zp, jz, jL, zv, zg, zf, zd]
 refine ⟨by first | exact qP ‹_› ‹_› | (unfold small; omega), ?_⟩
 refine zI (fun i Z J' => X4 fun qs o6 o11 o12 => Z = [some (.ref s), some (.int L), some (.int first), some (.int m), some (.bool line), some (.ref g), o6, o7, o8, o9, o10, o11, o12, o13, o14, o15] /\ Ext J J' /\ zQ J' g qs /\ qs.length = i /\ (∀ p ∈ qs, Okr m p) /\ ∀ k, 0 <= k -> k < (i : Int) -> jl qs m k) ?_ ?_ ?_
 ·exact ⟨[], _, _, _, rfl, e1, ⟨[], hgv, .nil⟩, rfl, by simp, fun k h0 hk => by exact lif r1 [(0,1,N0,V0),(1,1,V0,N0)] rfl h0 hk⟩
 ·intro i v Z J' K' hv hI6a hK
  obtain ⟨qs, o6, o11, o12, rfl, hcj⟩ := hI6a
  have e := hcj.1; have hgq := hcj.2.1; have hql := hcj.2.2.1; have hokq := hcj.2.2.2.1; have hre := hcj.2.2.2.2; clear hcj
  obtain ⟨hi, rfl⟩ := qI hv
  have hi' : (i : Int) < m := by exact Mine.qE ‹_› ‹_›
  refine ⟨trivial, ?_⟩
  simp only [ql, zq, zp, zG, zV, zL, zB, zK, jf, wf, zv, qo, zg, zf, zd, kbi]
  refine qq h.cell (hs.ext e) (by exact nnI _) (by exact lit r2 (.add N1 V0) (.num 1073741824) [(0,1,V1,.num 10),(1,1,V0,V1)] rfl hm' hi') fun J3 e3 => ?_
  refine ⟨by exact (fun h_ => lif r1 [(2,1,.add V0 N1,N0),(0,1,N0,V0)] rfl h_ (nnI _)), ?_⟩
  obtain ⟨ws, hw1, hw2⟩ := hgq.ext e3
  have hwl := hw2.length
  have c1 := jE (a := qw ns (1 + i)) (b := (i : Int) + 1) (by exact lit r1 N0 (.add V0 N1) [(0,1,N0,V0)] rfl (nnI _))
  have fin : ∀ ah : Int, 0 <= ah -> ah <= i -> (wO (zji (loc 5) (zeI (zi (loc 6) (zi (z8 (qF (zi (loc 3) (zi (zbR (loc 12) (val (.int 1))) zF))) (zol (jv .gt (loc 12) (val (.int 0))))) zF)))) : SW)
    [some (.ref s), some (.int L), some (.int first), some (.int m), some (.bool line), some (.ref g), some (.int i), o7, o8, o9, o10, some (.int (qw ns (1 + i))), some (.int ah), o13, o14, o15] J3 K' noP := by
   intro ah h0 h1
   simp only [yS, zey, zcM, zB, zK, qA, qV, zav, zif, qH, zv, qo, zg, zf, ze, zd, zm, Cmp.run, kag, kaB]
   rw [zar hw1]
   refine ⟨trivial, by simp [lim], zh fun l J4 hl e4 hv4 => ?_⟩
   refine ⟨by split <;> decide, ?_⟩
   refine qx hv4 ?_
   have go : ∀ b : Int, (b = m \/ (0 <= b /\ b < i)) -> wb (.tup [.int i, .int b]) J4 (fun vb J2 => qY J2 g fun xs => xs.length < lim /\ K' .next [some (.ref s), some (.int L), some (.int first), some (.int m), some (.bool line), some (.ref g), some (.int i), o7, o8, o9, o10, some (.int (qw ns (1 + i))), some (.int ah), o13, o14, o15] (put J2 g (.list (xs ++ [vb])))) := by
    intro b hb
    refine zh fun t J5 ht e5 hv5 => ?_
    refine zE (e5 _ _ (e4 _ _ hw1)) ?_
    refine ⟨by unfold lim; exact ltN (lit r4 V0 (.num 1000000) [(0,1,V1,.num 10),(2,1,V2,V3),(1,1,V3,V1),(2,1,V0,V2)] rfl hm' (eqI hql) hi' (eqI hwl)), hK .next _ _ ⟨_, _, _, _, rfl, ?_, zQ.push (e5 _ _ (e4 _ _ hw1)) ((hw2.ext e4).ext e5) hv5, by simp [hql], fun p hp => ?_, fun k h0 hk => ?_⟩⟩
    ·exact ((e.trans e3).trans (e4.trans e5)).put hg _
    ·rcases kau.mp hp with hp | hp
     ·exact hokq p hp
     ·simp only [kaf] at hp; subst hp
      unfold Okr; simp only; lia
    ·by_cases hki : k = i
     ·subst hki
      refine .bwd (b := b) ?_ (by simp)
      rcases hb with rfl | hb
      ·exact .refl
      ·exact (hre b hb.1 hb.2).mono fun p hp => by simp [hp]
     ·exact (hre k h0 (by exact (wT (lin r2 V0 V1 [(1,1,V0,.add V1 N1)] rfl hk) hki))).mono fun p hp => by simp [hp]
   by_cases hah : ah > 0
   ·simp only [hah, decide_true, if_true]
    exact ⟨by first | exact kak rfl | simp [lim], go (ah - 1) (.inr (by exact ⟨lin r1 N0 (.sub V0 N1) [(1,1,N0,V0)] rfl hah, lit r2 (.sub V0 N1) V1 [(0,1,V0,V1)] rfl h1⟩))⟩
   ·simp only [hah, decide_false, kad, if_false]
    exact ⟨by first | exact kak rfl | simp [lim], go m (.inl rfl)⟩
  simp only [je, zby, zdx, qH, wf, zaM, zv, qo, zg, zf, zd, zm, Cmp.run]
  split
  ·refine ⟨by decide, ?_⟩
   split
   ·refine ⟨⟨by decide, zjy (by decide)⟩, by decide, ?_⟩
    split
    ·exact fin i (by exact nnI _) (by exact lin r1 V0 V0 [] rfl)
    ·exact fin _ c1.1 (by exact lin r2 V0 V1 [(1,1,V0,.add V1 N1)] rfl c1.2)
   ·exact fin _ c1.1 (by exact lin r2 V0 V1 [(1,1,V0,.add V1 N1)] rfl c1.2)
  ·exact fin _ c1.1 (by exact lin r2 V0 V1 [(1,1,V0,.add V1 N1)] rfl c1.2)
 ·rintro Z J' ⟨qs, o6, o11, o12, rfl, hcj⟩
  have e := hcj.1; have hgq := hcj.2.1; have hql := hcj.2.2.1; have hokq := hcj.2.2.2.1; have hre := hcj.2.2.2.2; clear hcj
  rw [z9] at hql
  refine ⟨trivial, ?_⟩
  simp only
  have hlm : (qs.length : Int) = m := by exact liq r3 V0 V1 [(2,1,V0,V2),(2,1,V2,V1)] rfl (eqI hql) (tnn (hm))
  exact zqj h ⟨e, hs, hg, hgq, hm, hm', hlm, hokq, fun k h0 hk => hre k h0 (by rw [z9]; exact Mine.lt_toNat ‹_›)⟩ hq
noncomputable def zjz (L : Int) : Int := if L = 0 then 5 else if L = 1 then 7 else 10
theorem zgV (h : zcK T) {Q : V -> zb -> Prop} (hs : qN J s ns) (hL0 : 0 <= L) (hL : L <= 3)
  (hq : ∀ t c J' m qs, Ext J J' -> J' t = some (.tup [.int m, .ref c]) -> zQ J' c qs -> Net m qs -> m <= zjz L -> (L = 0 -> m = (qw ns 0).fmod 6) -> J c = none -> Q (.ref t) J') :
  zA T (d + 2) "_law_net" [.ref s, .int L] J Q P := by
 refine h.net (d + 1) _ _ _ _ rfl ?_
 simp only [zce, zG, zV, wf, zL, zB, zK, zv, qo, qf, qi, qe, zg, zf]
 refine qq h.cell hs (by exact nnI _) (by exact nnI _) fun J1 e1 => ?_
 have hs1 := hs.ext e1
 generalize qw ns 0 = first at hq ⊢
 have z6 := jE (a := first) (b := 6) (by exact nnI _)
 simp only [zd, zp, zq, zv, zg, zf, zby, qH, wf, zaM, qo, Cmp.run, zm]
 refine ⟨by decide, ⟨by decide, zjy (by decide)⟩, by decide, ?_⟩
 have fin : ∀ m J2 (b : Bool), Ext J1 J2 -> 0 <= m -> m <= zjz L -> (L = 0 -> m = first.fmod 6) -> zaI T (d + 1) [some (.ref s), some (.int L), some (.int first), some (.int m), some (.bool b), none, none, none, none, none, none, none, none, none, none, none] J2 (fun o x J' => Q (match o with | .ret v => v | .next => .none) J') P := by
  intro m J2 b e2 h0 h1 h2
  refine zqk h (hs1.ext e2) h0 (by unfold zjz at h1; split at h1 <;> (try split at h1) <;> (first | assumption | exact lin r1 V0 (.num 10) [(0,1,V0,.num 5)] rfl h1 | exact lin r1 V0 (.num 10) [(0,1,V0,.num 7)] rfl h1)) fun t c J' qs Z e3 ht hc hn hcn => ?_
  exact hq t c J' m qs ((e1.trans e2).trans e3) ht hc hn h1 h2 ((e1.trans e2).none hcn)
 have five : (5 : Int) <= zjz L := by unfold zjz; split <;> (try split) <;> decide
 split
 ·simp only [je, zdx, zv, zg, zf, zm]
  split
  ·rename_i hLp
   simp only [zV, jf, wf, zaM, qA, qV, zB, zK, zv, qo, zg, zf, zd, zq, zp, kag, kaB]
   refine ⟨⟨by decide, zjy (by decide)⟩, by simp [lim], zh fun l J2 hl e2 hv2 => ?_⟩
   refine ⟨hL0, ?_⟩
   refine qx hv2 ?_
   have hLp' : L > 0 := by simpa using hLp
   have : L = 1 \/ L = 2 \/ L = 3 := by lia
   rcases this with rfl | rfl | rfl
   ·refine ⟨by decide, ?_⟩
    have := jE (a := first.fdiv 48) (b := 2) ‹_›
    exact fin _ _ _ e2 (by exact lin r1 N0 (.add (.num 6) V0) [(0,1,N0,V0)] rfl this.1) (by simp [zjz]; exact lin r1 (.add (.num 6) V0) (.num 7) [(1,1,V0,.num 2)] rfl this.2) (fun h => absurd h (by decide))
   ·refine ⟨by decide, ?_⟩
    have := jE (a := first.fdiv 48) (b := 5) (by exact nnI _)
    exact fin _ _ _ e2 (by exact lin r1 N0 (.add (.num 6) V0) [(0,1,N0,V0)] rfl this.1) (by simp [zjz]; exact lin r1 (.add (.num 6) V0) (.num 10) [(1,1,V0,.num 5)] rfl this.2) (fun h => absurd h (by decide))
   ·refine ⟨by decide, ?_⟩
    have := jE (a := first.fdiv 48) (b := 5) (by exact nnI _)
    exact fin _ _ _ e2 (by exact lin r1 N0 (.add (.num 6) V0) [(0,1,N0,V0)] rfl this.1) (by simp [zjz]; exact lin r1 (.add (.num 6) V0) (.num 10) [(1,1,V0,.num 5)] rfl this.2) (fun h => absurd h (by decide))
  ·exact fin _ _ _ .refl z6.1 (by exact lin r2 V0 V1 [(1,1,V0,.num 6),(0,1,.num 5,V1)] rfl z6.2 five) fun _ => rfl
 ·exact fin _ _ _ .refl z6.1 (by exact lin r2 V0 V1 [(1,1,V0,.num 6),(0,1,.num 5,V1)] rfl z6.2 five) fun _ => rfl
theorem zmf (h : zcK T) {Q : V -> zb -> Prop} (hs : qN J s ns) (hL0 : 0 <= L) (hL : L <= 3)
  (hq : ∀ t c J' m qs, Ext J J' -> J' t = some (.tup [.int m, .ref c]) -> zQ J' c qs -> Net m qs -> m <= zjz L -> J c = none -> Q (.ref t) J') :
  zA T (d + 2) "_law_net" [.ref s, .int L] J Q P :=
 zgV h hs hL0 hL fun t c J' m qs a b x y z _ w => hq t c J' m qs a b x y z w
end
end Mine
end
section
namespace Mine
noncomputable abbrev Row := Nat -> Int
noncomputable def Ex (l : Row -> Int) (g : List Row -> Int) : List Row -> Int
 | [] => 0
 | r :: rs => l r * g rs - Ex l (fun t => g (r :: t)) rs
noncomputable def ev (c : Nat) : Row -> Int := fun r => r c
noncomputable def det : List Nat -> List Row -> Int
 | [], [] => 1
 | [], _ :: _ => 0
 | c :: cs, rows => Ex (ev c) (det cs) rows
theorem qr (c cs rows) : det (c :: cs) rows = Ex (ev c) (det cs) rows := by cases rows <;> rfl
theorem zko (l : Row -> Int) (a b : Int) : ∀ (rows : List Row) (g h : List Row -> Int), Ex l (fun t => a * g t + b * h t) rows = a * Ex l g rows + b * Ex l h rows := by
 intro rs_
 induction rs_ with
 | nil =>
  intro g h
  simp [Ex]
 | cons r rs ih_ =>
  intro g h
  simp only [Ex]
  rw [ih_ (fun t => g (r :: t)) (fun t => h (r :: t))]
  grind
theorem zmX {l : Row -> Int} {g h : List Row -> Int} (e : ∀ t, g t = h t) (rows : List Row) : Ex l g rows = Ex l h rows := by rw [funext e]
theorem zkn (l : Row -> Int) (a : Int) (rows : List Row) (g : List Row -> Int) : Ex l (fun t => a * g t) rows = a * Ex l g rows := by
 have := zko l a 0 rows g g
 simpa using this
theorem zoN (c d : Row -> Int) : ∀ (rows : List Row) (g : List Row -> Int), Ex c (Ex d g) rows = - Ex d (Ex c g) rows := by
 intro rs_
 induction rs_ with
 | nil =>
  intro g
  simp [Ex]
 | cons r rs ih_ =>
  intro g
  have key : ∀ (c d : Row -> Int), Ex c (Ex d g) (r :: rs) = c r * Ex d g rs - d r * Ex c g rs + Ex c (Ex d (fun t => g (r :: t))) rs := by
   intro c d
   show c r * Ex d g rs - Ex c (fun t => d r * g t - Ex d (fun t' => g (r :: t')) t) rs = _
   have := zko c (d r) (-1) rs g (Ex d (fun t' => g (r :: t')))
   rw [show (fun t => d r * g t - Ex d (fun t' => g (r :: t')) t) = (fun t => d r * g t + (-1) * Ex d (fun t' => g (r :: t')) t) from funext fun t => by exact liq r2 (.sub V0 V1) (.add V0 (.mulL (-1) V1)) [] rfl, this]
   exact liq r3 (.sub V0 (.add V1 (.mulL (-1) V2))) (.add (.sub V0 V1) V2) [] rfl
  rw [key c d, key d c, ih_]
  exact liq r3 (.add (.sub V0 V1) (.neg V2)) (.neg (.add (.sub V1 V0) V2)) [] rfl
theorem zdZ (c d : Nat) (cs : List Nat) (rows : List Row) : det (c :: d :: cs) rows = - det (d :: c :: cs) rows := by
 rw [qr, qr, show det (d :: cs) = Ex (ev d) (det cs) from funext fun t => qr .., show det (c :: cs) = Ex (ev c) (det cs) from funext fun t => qr ..]
 exact zoN _ _ _ _
theorem zhX (k : Int) {cs cs' : List Nat} (h : ∀ rows, det cs rows = k * det cs' rows) : ∀ (p : List Nat) (rows : List Row), det (p ++ cs) rows = k * det (p ++ cs') rows := by
 intro p_
 induction p_ with
 | nil =>
  intro rows
  exact h rows
 | cons c p ih_ =>
  intro rows
  rw [kaG, kaG, qr, qr, zmX (ih_), zkn]
theorem zf4 (p : List Nat) (c d : Nat) (cs : List Nat) (rows : List Row) : det (p ++ c :: d :: cs) rows = - det (p ++ d :: c :: cs) rows := by
 have := zhX (-1) (cs := c :: d :: cs) (cs' := d :: c :: cs) (fun rows => by rw [zdZ]; exact liq r1 (.neg V0) (.mulL (-1) V0) [] rfl) p rows
 rw [this]; exact liq r1 (.mulL (-1) V0) (.neg V0) [] rfl
theorem zno (a b : Nat) (q : List Nat) : ∀ (m p : List Nat) (rows : List Row), det (p ++ a :: (m ++ b :: q)) rows = - det (p ++ b :: (m ++ a :: q)) rows := by
 intro m_
 induction m_ with
 | nil =>
  intro p rows
  exact zf4 p a b q rows
 | cons x m ih_ =>
  intro p rows
  have h1 := zf4 p a x (m ++ b :: q) rows
  have h2 := ih_ (p ++ [x]) rows
  have h3 := zf4 p x b (m ++ a :: q) rows
  simp only [kaN, kbP, kaG, kbf] at h1 h2 h3 ⊢
  exact liq r4 V0 (.neg V1) [(2,1,V0,.neg V2),(2,1,V3,.neg V1),(2,-1,V2,.neg V3)] rfl h1 h3 h2
theorem zlx (a : Nat) (p m q : List Nat) (rows : List Row) : det (p ++ a :: (m ++ a :: q)) rows = 0 := by
 have := zno a a q m p rows
 lia
theorem zmA (j : Nat) : ∀ (cs : List Nat) (rows : List Row), det (cs ++ [j]) rows = (-1) ^ cs.length * det (j :: cs) rows := by
 intro cs_
 induction cs_ with
 | nil =>
  intro rows
  simp
 | cons c cs ih_ =>
  intro rows
  have h1 : det (c :: (cs ++ [j])) rows = (-1) ^ cs.length * det (c :: j :: cs) rows := by
   have := zhX ((-1) ^ cs.length) (cs := cs ++ [j]) (cs' := j :: cs) (ih_) [c] rows
   simpa using this
  rw [kaG, h1, zdZ c j, kag, kbI]
  grind

def RL (g : List Row -> Int) : Prop := ∀ xs a u b v ys, g (xs ++ (fun j => a * u j + b * v j) :: ys) = a * g (xs ++ u :: ys) + b * g (xs ++ v :: ys)
def RA (g : List Row -> Int) : Prop := ∀ xs u ys, g (xs ++ u :: u :: ys) = 0
theorem RL.cons {g} (h : RL g) (x : Row) : RL (fun t => g (x :: t)) := fun xs a u b v ys => h (x :: xs) a u b v ys
theorem RA.cons {g} (h : RA g) (x : Row) : RA (fun t => g (x :: t)) := fun xs u ys => h (x :: xs) u ys
theorem zqC {l : Row -> Int} (hl : ∀ a u b v, l (fun j => a * u j + b * v j) = a * l u + b * l v) : ∀ (xs : List Row) {g : List Row -> Int} (h : RL g) (a u b v ys),
  Ex l g (xs ++ (fun j => a * u j + b * v j) :: ys) = a * Ex l g (xs ++ u :: ys) + b * Ex l g (xs ++ v :: ys) := by
 intro xs_
 induction xs_ with
 | nil =>
  intro g h a u b v ys
  simp only [kbf, Ex]
  have e : (fun t => g ((fun j => a * u j + b * v j) :: t)) = fun t => a * g (u :: t) + b * g (v :: t) := funext fun t => h [] a u b v t
  rw [e, zko l a b ys (fun t => g (u :: t)) (fun t => g (v :: t)), hl]
  grind
 | cons x xs ih_ =>
  intro g h a u b v ys
  simp only [kaG, Ex]
  rw [h xs a u b v ys, ih_ (h.cons x) a u b v ys]
  grind
theorem zqD {l : Row -> Int} : ∀ (xs : List Row) {g : List Row -> Int} (h : RA g) (u ys), Ex l g (xs ++ u :: u :: ys) = 0 := by
 intro xs_
 induction xs_ with
 | nil =>
  intro g h u ys
  simp only [kbf, Ex]
  have e : (fun t => g (u :: u :: t)) = fun t => 0 * g t := funext fun t => by rw [show g (u :: u :: t) = 0 from h [] u t]; exact liq r1 N0 (.mulL 0 V0) [] rfl
  rw [e, zkn]
  exact liq r2 (.sub V0 (.sub V0 (.mulL 0 V1))) N0 [] rfl
 | cons x xs ih_ =>
  intro g h u ys
  simp only [kaG, Ex]
  rw [h xs u ys, ih_ (h.cons x) u ys]
  exact liq r1 (.sub (.mulR V0 0) N0) N0 [] rfl
theorem zpE (c : Nat) (a : Int) (u : Row) (b : Int) (v : Row) : ev c (fun j => a * u j + b * v j) = a * ev c u + b * ev c v := rfl
theorem zaq : ∀ cs, RL (det cs)
 | [] => fun xs a u b v ys => by cases xs <;> simp [det]
 | c :: cs => fun xs a u b v ys => by
  rw [qr, qr, qr]
  exact zqC (zpE c) xs (zaq cs) a u b v ys
theorem zeF : ∀ cs, RA (det cs) := by
 intro cs_
 induction cs_ with
 | nil =>
  exact fun xs u ys => by cases xs <;> simp [det]
 | cons c cs ih_ =>
  exact fun xs u ys => by rw [qr]; exact zqD xs (ih_) u ys
theorem RL.add {g} (h : RL g) (xs u v ys) : g (xs ++ (fun j => u j + v j) :: ys) = g (xs ++ u :: ys) + g (xs ++ v :: ys) := by
 have := h xs 1 u 1 v ys
 simpa using this
theorem zmc {g} (h : RL g) (h' : RA g) (xs u v ys) : g (xs ++ u :: v :: ys) = - g (xs ++ v :: u :: ys) := by
 have h1 := h' xs (fun j => u j + v j) ys
 rw [h.add xs u v] at h1
 have h2 := h.add (xs ++ [u]) u v ys
 have h3 := h.add (xs ++ [v]) u v ys
 simp only [kaN, kbP] at h2 h3
 rw [h2, h3, h' xs u ys, h' xs v ys] at h1
 exact liq r2 V0 (.neg V1) [(2,1,.add (.add N0 V0) (.add V1 N0),N0)] rfl h1
theorem zgj {g} (h : RL g) (h' : RA g) (u ys) : ∀ (m xs : List Row), g (xs ++ u :: (m ++ u :: ys)) = 0 := by
 intro m_
 induction m_ with
 | nil =>
  intro xs
  exact h' xs u ys
 | cons x m ih_ =>
  intro xs
  rw [kaG, zmc h h' xs u x]
  have := ih_ (xs ++ [x])
  simp only [kaN, kbP] at this
  exact liq r1 (.neg V0) N0 [(2,-1,V0,N0)] rfl this
theorem zpq {g} (h : RL g) (h' : RA g) (xs u m v ys) : g (xs ++ u :: (m ++ v :: ys)) = - g (xs ++ v :: (m ++ u :: ys)) := by
 have h1 := zgj h h' (fun j => u j + v j) ys m xs
 rw [h.add xs u v] at h1
 have h2 := h.add (xs ++ u :: m) u v ys
 have h3 := h.add (xs ++ v :: m) u v ys
 simp only [kaN, kaG] at h2 h3
 rw [h2, h3, zgj h h' u, zgj h h' v] at h1
 exact liq r2 V0 (.neg V1) [(2,1,.add (.add N0 V0) (.add V1 N0),N0)] rfl h1
theorem zfj {g} (h : RL g) (h' : RA g) {u : Row} {xs ys : List Row} (hu : u ∈ xs) : g (xs ++ u :: ys) = 0 := by
 obtain ⟨p, q, rfl⟩ := kcs hu
 rw [kaN, kaG]
 exact zgj h h' u ys q p

theorem zq6 {L : Row -> Int} (hL : ∀ a u b v, L (fun j => a * u j + b * v j) = a * L u + b * L v) : ∀ (rows : List Row) (g : List Row -> Int), L (fun j => Ex (ev j) g rows) = Ex L g rows := by
 intro rs_
 induction rs_ with
 | nil =>
  intro g
  have := hL 0 (fun _ => 0) 0 (fun _ => 0)
  simp only [Ex]
  simpa using this
 | cons r rs ih_ =>
  intro g
  have := hL (g rs) r (-1) (fun j => Ex (ev j) (fun t => g (r :: t)) rs)
  rw [ih_] at this
  have e : (fun j => Ex (ev j) g (r :: rs)) = fun j => g rs * r j + -1 * Ex (ev j) (fun t => g (r :: t)) rs := funext fun j => by
   simp only [Ex, ev]; grind
  rw [e, this]
  simp only [Ex]
  grind
theorem zoM {L : Row -> Int} (x : Row) : ∀ (xs : List Row) (g : List Row -> Int), (∀ r ∈ xs, L r = 0) -> Ex L g (xs ++ [x]) = (-1) ^ xs.length * (L x * g xs) := by
 intro xs_
 induction xs_ with
 | nil =>
  intro g _
  simp [Ex]
 | cons r xs ih_ =>
  intro g h
  simp only [kaG, Ex]
  rw [ih_ _ fun r' hr' => h r' (by simp [hr']), h r (by simp), kag, kbI]
  grind
theorem zlo (k : Nat) : ((-1 : Int) ^ k) * (-1) ^ k = 1 := by
 induction k with
 | zero => rfl
 | succ k ih => rw [kbI]; grind

theorem zoL {l : Row -> Int} : ∀ (vs : List Row) (g : List Row -> Int), (∀ v ∈ vs, l v = 0) -> Ex l g vs = 0 := by
 intro vs_
 induction vs_ with
 | nil =>
  intro g _
  exact rfl
 | cons v vs ih_ =>
  intro g h
  simp only [Ex]
  rw [h v (by simp), ih_ _ fun v' hv' => h v' (by simp [hv'])]
  exact liq r1 (.sub (.mulL 0 V0) N0) N0 [] rfl
theorem zjm {l : Row -> Int} {vs : List Row} (hv : ∀ v ∈ vs, l v = 0) (K : Int) : ∀ (xs : List Row) (g f : List Row -> Int), (∀ t, t.length + 1 = xs.length -> g (t ++ vs) = f t * K) -> Ex l g (xs ++ vs) = Ex l f xs * K := by
 intro xs_
 induction xs_ with
 | nil =>
  intro g f _
  simp [Ex, zoL vs g hv]
 | cons x xs ih_ =>
  intro g f h
  simp only [kaG, Ex]
  rw [h xs rfl, ih_ (fun t => g (x :: t)) (fun t => f (x :: t)) fun t ht => h (x :: t) (by simp [ht])]
  grind
theorem zg4 (cs2 : List Nat) (vs : List Row) : ∀ (cs1 : List Nat) (xs : List Row), xs.length = cs1.length -> (∀ v ∈ vs, ∀ c ∈ cs1, v c = 0) -> det (cs1 ++ cs2) (xs ++ vs) = det cs1 xs * det cs2 vs := by
 intro cs1_
 induction cs1_ with
 | nil =>
  intro xs hl _
  have : xs = [] := List.length_eq_zero_iff.mp hl
  subst this; simp [det]
 | cons c cs1 ih_ =>
  intro xs hl h
  rw [kaG, qr, qr]
  refine zjm (fun v hv => h v hv c (by simp)) _ xs _ _ fun t ht => ?_
  exact ih_ t (by simp at hl; exact eqN (liq r3 V0 V1 [(2,1,V2,.add V1 N1),(2,1,.add V0 N1,V2)] rfl (eqI hl) (eqI ht))) fun v hv c' hc' => h v hv c' (by simp [hc'])
theorem zmZ {l : Row -> Int} {u v : Row} (h : l u = l v) : ∀ (xs : List Row) (g : List Row -> Int) (ys), (∀ a b, g (a ++ u :: b) = g (a ++ v :: b)) -> Ex l g (xs ++ u :: ys) = Ex l g (xs ++ v :: ys) := by
 intro xs_
 induction xs_ with
 | nil =>
  intro g ys hg
  simp only [kbf, Ex, h]
  rw [show (fun t => g (u :: t)) = fun t => g (v :: t) from funext fun t => hg [] t]
 | cons x xs ih_ =>
  intro g ys hg
  simp only [kaG, Ex]
  rw [hg xs ys, ih_ (fun t => g (x :: t)) ys fun a b => hg (x :: a) b]
theorem zd0 {u v : Row} : ∀ (cs : List Nat), (∀ c ∈ cs, u c = v c) -> ∀ xs ys, det cs (xs ++ u :: ys) = det cs (xs ++ v :: ys) := by
 intro cs_
 induction cs_ with
 | nil =>
  intro _ xs ys
  cases xs <;> simp [det]
 | cons c cs ih_ =>
  intro h xs ys
  rw [qr, qr]
  exact zmZ (h c (by simp)) xs _ ys fun a b => ih_ (fun c' hc' => h c' (by simp [hc'])) a b
theorem zjd {u : Row} {cs : List Nat} (h : ∀ c ∈ cs, u c = 0) (xs ys) : det cs (xs ++ u :: ys) = 0 := by
 have h1 := zd0 (u := u) (v := fun j => 0 * u j + 0 * u j) cs (fun c hc => by simp [h c hc]) xs ys
 rw [h1, zaq cs]; exact liq r1 (.add (.mulL 0 V0) (.mulL 0 V0)) N0 [] rfl
theorem zpS (l : Row -> Int) (φ : Row -> Row) : ∀ (rows : List Row) (g : List Row -> Int), Ex l g (rows.map φ) = Ex (fun r => l (φ r)) (fun t => g (t.map φ)) rows := by
 intro rs_
 induction rs_ with
 | nil =>
  intro g
  exact rfl
 | cons r rs ih_ =>
  intro g
  simp only [kaO, Ex]
  rw [ih_]
theorem zfy (τ : Nat -> Nat) : ∀ (cs : List Nat) (rows : List Row), det cs (rows.map fun r j => r (τ j)) = det (cs.map τ) rows
 | [], [] => rfl
 | [], _ :: _ => rfl
 | c :: cs, rows => by
  rw [kaO, qr, qr, zpS, show (fun t : List Row => det cs (t.map fun r j => r (τ j))) = det (cs.map τ) from funext fun t => zfy τ cs t]
  rfl

theorem zmY {l : Row -> Int} {B G : Nat} : ∀ (rows : List Row) (g : List Row -> Int), (∀ r ∈ rows, (l r).natAbs <= B) -> (∀ t, (∀ x ∈ t, x ∈ rows) -> t.length <= rows.length -> (g t).natAbs <= G) -> (Ex l g rows).natAbs <= rows.length * (B * G) := by
 intro rs_
 induction rs_ with
 | nil =>
  intro g _ _
  simp [Ex]
 | cons r rs ih_ =>
  intro g hb hg
  simp only [Ex]
  have h1 := ih_ (fun t => g (r :: t)) (fun x hx => hb x (by simp [hx])) fun t ht htl => hg (r :: t) (fun x hx => by
   rcases kah.mp hx with rfl | hx
   ·simp
   ·simp [ht x hx]) (by simp; assumption)
  have h2 : (l r * g rs).natAbs <= B * G := by
   rw [kd5]
   exact kd0 (hb r (by simp)) (hg rs (fun x hx => by simp [hx]) (by simp))
  have h3 := Int.natAbs_sub_le (l r * g rs) (Ex l (fun t => g (r :: t)) rs)
  rw [kag, Nat.succ_mul]
  exact leN (lin r5 V0 (.add V1 V2) [(0,1,V3,V1),(0,1,V4,V2),(0,1,V0,.add V4 V3)] rfl (leI h1) (leI h2) (leI h3))
theorem zap {B N : Nat} : ∀ (cs : List Nat) (rows : List Row), (∀ r ∈ rows, ∀ c ∈ cs, (r c).natAbs <= B) -> rows.length <= N -> (det cs rows).natAbs <= (N * B) ^ cs.length
 | [], [], _, _ => by simp [det]
 | [], _ :: _, _, _ => by simp [det]
 | c :: cs, rows, h, hn => by
  rw [qr, kag, kdm]
  have := zmY (l := ev c) (B := B) (G := (N * B) ^ cs.length) rows (det cs) (fun r hr => h r hr c (by simp)) fun t ht htl =>
   zap cs t (fun r hr c' hc' => h r (ht r hr) c' (by simp [hc'])) (by exact kap ‹_› ‹_›)
  refine kap this ?_
  have h1 : rows.length * (B * (N * B) ^ cs.length) <= N * (B * (N * B) ^ cs.length) := kdv _ hn
  have h2 : N * (B * (N * B) ^ cs.length) = (N * B) ^ cs.length * (N * B) := by rw [<- Nat.mul_assoc, kdn]
  exact leN (lin r3 V0 V1 [(0,1,V0,V2),(2,1,V2,V1)] rfl (leI h1) (eqI h2))
noncomputable def Vk (k : Nat) (R : List Row) (x : Row) : Row := fun j => det (kaa k ++ [j]) (R.take k ++ [x])
noncomputable def pk (k : Nat) (R : List Row) : Int := det (kaa k) (R.take k)
theorem zk3 (R : List Row) (x : Row) (j : Nat) : Vk 0 R x j = x j := by simp [Vk, det, Ex, ev]
theorem zhF (R : List Row) : pk 0 R = 1 := by simp [pk, det]
theorem zgF {k : Nat} (R : List Row) (x : Row) {j : Nat} (hj : j < k) : Vk k R x j = 0 := by
 unfold Vk
 obtain ⟨p, q, hpq⟩ := kcs (kan.mpr hj)
 rw [hpq, kaN, kaG]
 exact zlx j p q [] _
theorem zgG {k : Nat} {R : List Row} (hk : k <= R.length) {L : Row -> Int} (hL : ∀ a u b v, L (fun j => a * u j + b * v j) = a * L u + b * L v) (h0 : ∀ r ∈ R.take k, L r = 0) (x : Row) : L (Vk k R x) = pk k R * L x := by
 have e : Vk k R x = fun j => (-1) ^ k * Ex (ev j) (det (kaa k)) (R.take k ++ [x]) + 0 * x j := funext fun j => by
  unfold Vk
  rw [zmA, kbc, qr]; exact liq r2 V0 (.add V0 (.mulL 0 V1)) [] rfl
 rw [e, hL ((-1) ^ k) (fun j => Ex (ev j) (det (kaa k)) (R.take k ++ [x])), zq6 hL, zoM x (R.take k) _ h0, ka2, kc9 hk]
 have := zlo k
 unfold pk
 grind
theorem zco {R : List Row} {k : Nat} (y : Row) (h : R[k]? = some y) : R.take (k + 1) = R.take k ++ [y] := by
 rw [kaY, h]; rfl
theorem zhG {R : List Row} {k : Nat} {y : Row} (h : R[k]? = some y) : pk (k + 1) R = Vk k R y k := by
 unfold pk Vk
 rw [zco y h, kaT]
theorem zgQ {R : List Row} {k : Nat} {y : Row} (h : R[k]? = some y) (x : Row) (j : Nat) (hp : pk k R ≠ 0) : Vk (k + 1) R x j * pk k R = Vk k R x j * Vk k R y k - Vk k R x k * Vk k R y j := by
 have hk : k <= R.length := by have := (kae.mp h).1; exact kaX ‹_›
 have hR : (R.take k).length = k := by rw [ka2]; lia
 -- the same determinant twice
 have h1 : det (kaa k ++ [k, j]) (R.take k ++ [Vk k R y, Vk k R x]) = pk k R * (Vk k R y k * Vk k R x j - Vk k R x k * Vk k R y j) := by
  rw [zg4 [k, j] [Vk k R y, Vk k R x] (kaa k) (R.take k) (by rw [hR, kbc])]
  ·unfold pk
   congr 1
   simp [det, Ex, ev]
  ·intro v hv c hc
   have hc' := kan.mp hc
   simp only [kah, kaM, or_false] at hv
   rcases hv with rfl | rfl
   ·exact zgF R y hc'
   ·exact zgF R x hc'
 have lin : ∀ (pre post : List Row) (a : Int) (u : Row) (b : Int) (v : Row), det (kaa k ++ [k, j]) (pre ++ (fun j => a * u j + b * v j) :: post) = a * det (kaa k ++ [k, j]) (pre ++ u :: post) + b * det (kaa k ++ [k, j]) (pre ++ v :: post) :=
  fun pre post a u b v => zaq _ pre a u b v post
 have h2 : det (kaa k ++ [k, j]) (R.take k ++ [Vk k R y, Vk k R x]) = pk k R * det (kaa k ++ [k, j]) (R.take k ++ [Vk k R y, x]) := by
  have := zgG hk (L := fun v => det (kaa k ++ [k, j]) ((R.take k ++ [Vk k R y]) ++ v :: [])) (fun a u b v => lin _ _ a u b v) (fun r hr => zfj (zaq _) (zeF _) (by simp [hr])) x
  simpa using this
 have h3 : det (kaa k ++ [k, j]) (R.take k ++ [Vk k R y, x]) = pk k R * det (kaa k ++ [k, j]) (R.take k ++ [y, x]) := by
  have := zgG hk (L := fun v => det (kaa k ++ [k, j]) (R.take k ++ v :: [x])) (fun a u b v => lin _ _ a u b v) (fun r hr => zfj (zaq _) (zeF _) hr) y
  exact this
 have h4 : det (kaa k ++ [k, j]) (R.take k ++ [y, x]) = Vk (k + 1) R x j := by
  unfold Vk
  rw [zco y h, kaT]
  simp
 rw [h2, h3, h4] at h1
 have h5 : pk k R * (Vk (k + 1) R x j * pk k R) = pk k R * (Vk k R x j * Vk k R y k - Vk k R x k * Vk k R y j) := by
  grind
 exact kde hp h5

noncomputable def zZ : List Nat -> (Nat -> Int) -> Int
 | [], _ => 0
 | c :: cs, f => f c + zZ cs f
noncomputable def yV (c : Nat) : Row := fun j => if j = c then 1 else 0
theorem zou {cs : List Nat} (xs ys : List Row) (r : Row) : ∀ (ds : List Nat), det cs (xs ++ (fun j => zZ ds fun c => r c * yV c j) :: ys) = zZ ds fun c => r c * det cs (xs ++ yV c :: ys) := by
 intro ds_
 induction ds_ with
 | nil =>
  have := zjd (u := fun j => zZ [] fun c => r c * yV c j) (cs := cs) (fun c _ => rfl) xs ys
  simpa [zZ] using this
 | cons c ds ih_ =>
  have := zaq cs xs (r c) (yV c) 1 (fun j => zZ ds fun c => r c * yV c j) ys
  rw [ih_] at this
  simp only [zZ]
  simpa using this
theorem zdS (r : Row) : ∀ (ds : List Nat) (j : Nat), ds.Nodup -> j ∈ ds -> (zZ ds fun c => r c * yV c j) = r j := by
 intro ds_
 induction ds_ with
 | nil =>
  intro j _ h
  simp at h
 | cons c ds ih_ =>
  intro j nd h
  simp only [zZ]
  have nd' := kaQ.mp nd
  have z : ∀ (ds : List Nat), j ∉ ds -> (zZ ds fun c => r c * yV c j) = 0 := by
   intro ds; induction ds with
   | nil => intro _; rfl
   | cons d ds ih =>
    intro hd
    simp only [kah, not_or] at hd
    simp only [zZ, yV, hd.1, if_false]
    rw [show (zZ ds fun c => r c * if j = c then 1 else 0) = 0 from ih hd.2]; exact liq r1 (.add (.mulR V0 0) N0) N0 [] rfl
  by_cases hj : j = c
  ·subst hj
   rw [z ds nd'.1]; simp [yV]
  ·have hm : j ∈ ds := by rcases kah.mp h with h | h; exact absurd h hj; exact h
   rw [ih_ j nd'.2 hm]
   simp [yV, hj]
theorem zkW {cs : List Nat} (nd : cs.Nodup) (xs ys : List Row) (r : Row) : det cs (xs ++ r :: ys) = zZ cs fun c => r c * det cs (xs ++ yV c :: ys) := by
 rw [<- zou xs ys r cs]
 exact zd0 cs (fun c hc => (zdS r cs c nd hc).symm) xs ys
theorem zb3 (f : Nat -> Int) : ∀ (a b : List Nat), zZ (a ++ b) f = zZ a f + zZ b f := by
 intro a_
 induction a_ with
 | nil =>
  intro b
  simp [zZ]
 | cons c a ih_ =>
  intro b
  simp only [kaG, zZ, ih_ b]; exact liq r3 (.add V0 (.add V1 V2)) (.add (.add V0 V1) V2) [] rfl
theorem wG {f : Nat -> Int} : ∀ {l : List Nat}, (∀ c ∈ l, f c = 0) -> zZ l f = 0
 | [], _ => rfl
 | c :: l, h => by simp only [zZ]; rw [h c (by simp), wG fun c' hc' => h c' (by simp [hc'])]; decide
theorem jq {f g : Nat -> Int} : ∀ {l : List Nat}, (∀ c ∈ l, f c = g c) -> zZ l f = zZ l g
 | [], _ => rfl
 | c :: l, h => by simp only [zZ]; rw [h c (by simp), jq fun c' hc' => h c' (by simp [hc'])]
theorem zeb {k n : Nat} (h : k <= n) : ∃ q, kaa n = kaa k ++ q /\ ∀ c ∈ q, k <= c /\ c < n := by
 refine ⟨(kaa n).drop k, ?_, fun c hc => ?_⟩
 ·have := kbA k (kaa n)
  rw [List.take_range, kc9 h] at this
  exact this.symm
 ·obtain ⟨i, hi, hic⟩ := kaV hc
  simp at hic hi
  lia
theorem zaa (c : Nat) (cs : List Nat) (hc : c ∉ cs) (rows : List Row) : det (c :: cs) (yV c :: rows) = det cs rows := by
 rw [qr]
 simp only [Ex]
 have : (fun t => det cs (yV c :: t)) = fun t => 0 * det cs t := funext fun t => by
  have := zjd (u := yV c) (cs := cs) (fun d hd => by
   have : d ≠ c := by rintro rfl; exact hc hd
   simp [yV, this]) [] t
  rw [kbf] at this
  rw [this]; exact liq r1 N0 (.mulL 0 V0) [] rfl
 rw [this, zkn]
 simp [ev, yV]
theorem znp {n : Nat} {rows : List Row} {r : Row} (hr : r ∈ rows) : r n * det (kaa n) rows = zZ (kaa n) fun i => r i * det ((kaa n).map fun j => if j = i then n else j) rows := by
 have hn : n ∉ kaa n := by simp
 have nd : (n :: kaa n).Nodup := kaQ.mpr ⟨hn, kbe⟩
 have h0 : det (n :: kaa n) (r :: rows) = 0 := by
  obtain ⟨p, q, rfl⟩ := kcs hr
  exact zgj (zaq _) (zeF _) r q p []
 have h1 := zkW nd [] rows r
 simp only [kbf] at h1
 rw [h0] at h1
 simp only [zZ] at h1
 rw [zaa n _ hn] at h1
 have h2 : (zZ (kaa n) fun c => r c * det (n :: kaa n) (yV c :: rows)) = zZ (kaa n) fun i => - (r i * det ((kaa n).map fun j => if j = i then n else j) rows) := by
  refine jq fun i hi => ?_
  have hin := kan.mp hi
  obtain ⟨p, q, hpq⟩ := kcs hi
  have ndr : (p ++ i :: q).Nodup := by rw [<- hpq]; exact kbe
  have hip : i ∉ p /\ i ∉ q := by
   rw [kbg] at ndr
   exact ⟨fun h => ndr.2.2 i h i (by simp) rfl, (kaQ.mp ndr.2.1).1⟩
  have e1 : det (n :: (p ++ i :: q)) (yV i :: rows) = - det (i :: (p ++ n :: q)) (yV i :: rows) := by
   have := zno n i q p [] (yV i :: rows)
   simpa using this
  have e2 : (p ++ i :: q).map (fun j => if j = i then n else j) = p ++ n :: q := by
   rw [ka0, kaO]
   simp only [if_true]
   have f : ∀ l : List Nat, i ∉ l -> l.map (fun j => if j = i then n else j) = l := by
    intro l; induction l with
    | nil => intro _; rfl
    | cons a l ih =>
     intro h
     simp only [kah, not_or] at h
     rw [kaO, ih h.2, if_neg (Ne.symm h.1)]
   rw [f p hip.1, f q hip.2]
  rw [hpq, e1, e2, zaa i]
  ·grind
  ·simp only [kau, kah, not_or]
   exact ⟨hip.1, by exact (fun h_ => lif r2 [(1,1,V0,V1),(2,-1,V0,V1)] rfl (ltI hin) (eqI h_)), hip.2⟩
 rw [h2] at h1
 have h3 : ∀ (f : Nat -> Int) (l : List Nat), (zZ l fun i => - f i) = - zZ l f := by
  intro f l; induction l with
  | nil => rfl
  | cons a l ih => simp only [zZ, ih]; exact liq r2 (.add (.neg V0) (.neg V1)) (.neg (.add V0 V1)) [] rfl
 rw [h3 fun i => r i * det ((kaa n).map fun j => if j = i then n else j) rows] at h1
 exact liq r2 V0 V1 [(2,-1,N0,.add V0 (.neg V1))] rfl h1
noncomputable abbrev Rd2 := List (Int × Int)
noncomputable def qL (rs : Rd2) : Rd2 := rs.flatMap fun p => [(p.1, p.2), (p.2, p.1)]
noncomputable def jh : Rd2 -> (Int × Int -> Int) -> Int
 | [], _ => 0
 | a :: l, f => f a + jh l f
theorem zaE (f) : ∀ (a b : Rd2), jh (a ++ b) f = jh a f + jh b f := by
 intro a_
 induction a_ with
 | nil =>
  intro b
  simp [jh]
 | cons x a ih_ =>
  intro b
  simp only [kaG, jh, ih_ b]; exact liq r3 (.add V0 (.add V1 V2)) (.add (.add V0 V1) V2) [] rfl
theorem zdi (x y : Int) (f g : Int × Int -> Int) : ∀ l : Rd2, (jh l fun a => x * f a + y * g a) = x * jh l f + y * jh l g := by
 intro l_
 induction l_ with
 | nil =>
  simp [jh]
 | cons a l ih_ =>
  simp only [jh, ih_]; grind
theorem jI {f g : Int × Int -> Int} : ∀ {l : Rd2}, (∀ a ∈ l, f a = g a) -> jh l f = jh l g
 | [], _ => rfl
 | a :: l, h => by simp only [jh]; rw [h a (by simp), jI fun b hb => h b (by simp [hb])]
theorem j7 {f g : Int × Int -> Int} : ∀ {l : Rd2}, (∀ a ∈ l, f a <= g a) -> jh l f <= jh l g
 | [], _ => by simp [jh]
 | a :: l, h => by
  simp only [jh]
  have h1 := h a (by simp)
  have h2 := j7 (l := l) fun b hb => h b (by simp [hb])
  exact lin r4 (.add V0 V1) (.add V2 V3) [(0,1,V0,V2),(0,1,V1,V3)] rfl h1 h2
theorem za6 {f : Int × Int -> Int} {l : Rd2} (h : ∀ a ∈ l, f a = 0) : jh l f = 0 := by
 rw [jI (g := fun _ => 0) h]
 induction l with
 | nil => rfl
 | cons a l ih => simp only [jh]; rw [ih fun b hb => h b (by simp [hb])]; decide
theorem zcN {f : Int × Int -> Int} : ∀ {l : Rd2}, (∀ a ∈ l, f a <= 0) -> 0 <= jh l f -> ∀ a ∈ l, f a = 0
 | [], _, _, a, h => by simp at h
 | b :: l, h, h0, a, ha => by
  simp only [jh] at h0
  have h1 := h b (by simp)
  have h2 := j7 (l := l) (f := f) (g := fun _ => 0) fun c hc => h c (by simp [hc])
  rw [za6 (l := l) (f := fun _ => 0) fun _ _ => rfl] at h2
  rcases kah.mp ha with rfl | ha
  ·exact kav (h1) (lin r2 N0 V0 [(0,1,V1,N0),(0,1,N0,.add V0 V1)] rfl h2 h0)
  ·exact zcN (fun c hc => h c (by simp [hc])) (by exact lin r2 N0 V0 [(0,1,N0,.add V1 V0),(0,1,V1,N0)] rfl h0 h1) a ha
theorem zbc {rs : Rd2} {a : Int × Int} : a ∈ qL rs ↔ a ∈ rs \/ (a.2, a.1) ∈ rs := by
 unfold qL
 simp only [kci, kah, kaM, or_false]
 constructor
 ·rintro ⟨p, hp, rfl | rfl⟩
  ·exact .inl hp
  ·exact .inr hp
 ·rintro (h | h)
  ·exact ⟨a, h, .inl rfl⟩
  ·exact ⟨_, h, .inr rfl⟩
noncomputable def tx (m : Int) (t : Nat -> Int) (e : Int) : Int := if e < m then t e.toNat else 0
noncomputable def lap (m : Int) (rs : Rd2) (t : Nat -> Int) (v : Nat) : Int := jh (qL rs) fun a => if a.1 = (v : Int) then t v - tx m t a.2 else 0
noncomputable def zU (rs : Rd2) (v : Nat) : Int := jh (qL rs) fun a => if a.1 = (v : Int) then 1 else 0
noncomputable def yF (rs : Rd2) (v u : Nat) : Int := jh (qL rs) fun a => if a.1 = (v : Int) then (if u = v then 1 else 0) - (if a.2 = (u : Int) then 1 else 0) else 0
theorem wU (m rs) (x y : Int) (f g : Nat -> Int) (v : Nat) : lap m rs (fun u => x * f u + y * g u) v = x * lap m rs f v + y * lap m rs g v := by
 unfold lap
 rw [<- zdi]
 refine jI fun a _ => ?_
 unfold tx
 by_cases h : a.1 = (v : Int) <;> by_cases h2 : a.2 < m <;> simp [h, h2] <;> grind
theorem zls {m rs} {f g : Nat -> Int} {v : Nat} (hv : (v : Int) < m) (he : ∀ p ∈ rs, (0 <= p.1 /\ p.1 <= m) /\ (0 <= p.2 /\ p.2 <= m) /\ p.1 ≠ p.2) (h : ∀ u : Nat, (u : Int) < m -> f u = g u) : lap m rs f v = lap m rs g v := by
 unfold lap
 refine jI fun a ha => ?_
 have hr : 0 <= a.2 := by
  rcases zbc.mp ha with h | h
  ·exact (he _ h).2.1.1
  ·exact (he _ h).1.1
 rw [h v hv]
 have : tx m f a.2 = tx m g a.2 := by
  unfold tx
  by_cases h2 : a.2 < m
  ·rw [if_pos h2, if_pos h2]; exact h _ (by exact lit r3 V0 V1 [(1,1,V2,V1),(2,1,V0,V2)] rfl h2 (tnn (hr)))
  ·rw [if_neg h2, if_neg h2]
 rw [this]
theorem zdh (x y : Int) (f g : Nat -> Int) : ∀ l : List Nat, (zZ l fun a => x * f a + y * g a) = x * zZ l f + y * zZ l g := by
 intro l_
 induction l_ with
 | nil =>
  simp [zZ]
 | cons a l ih_ =>
  simp only [zZ, ih_]; grind
theorem ze7 {f g : Nat -> Int} : ∀ {l : List Nat}, (∀ a ∈ l, f a <= g a) -> zZ l f <= zZ l g
 | [], _ => by simp [zZ]
 | a :: l, h => by
  simp only [zZ]
  have h1 := h a (by simp)
  have h2 := ze7 (l := l) fun b hb => h b (by simp [hb])
  exact lin r4 (.add V0 V1) (.add V2 V3) [(0,1,V0,V2),(0,1,V1,V3)] rfl h1 h2
theorem zhB {m : Int} {rs : Rd2} (he : ∀ p ∈ rs, (0 <= p.1 /\ p.1 <= m) /\ (0 <= p.2 /\ p.2 <= m) /\ p.1 ≠ p.2) (t : Nat -> Int) {v : Nat} (hv : (v : Int) < m) : (zZ (kaa m.toNat) fun u => yF rs v u * t u) = lap m rs t v := by
 have he' : ∀ a ∈ qL rs, 0 <= a.2 /\ a.2 <= m := fun a ha => by
  rcases zbc.mp ha with h | h
  ·exact (he _ h).2.1
  ·exact (he _ h).1
 unfold yF lap
 generalize qL rs = l at he'
 induction l with
 | nil => simp only [jh]; exact wG fun c _ => by exact liq r1 (.mulL 0 V0) N0 [] rfl
 | cons a l ih =>
  simp only [jh]
  rw [<- ih fun b hb => he' b (by simp [hb])]
  have ha := he' a (by simp)
  have h1 := zdh 1 1 (fun u => (if a.1 = (v : Int) then (if u = v then 1 else 0) - (if a.2 = (u : Int) then 1 else 0) else 0) * t u) (fun u => (jh l fun a => if a.1 = (v : Int) then (if u = v then 1 else 0) - (if a.2 = (u : Int) then 1 else 0) else 0) * t u) (kaa m.toNat)
  rw [kb0, kb0] at h1
  have e1 : (zZ (kaa m.toNat) fun u => ((if a.1 = (v : Int) then (if u = v then 1 else 0) - (if a.2 = (u : Int) then 1 else 0) else 0) + jh l fun a => if a.1 = (v : Int) then (if u = v then 1 else 0) - (if a.2 = (u : Int) then 1 else 0) else 0) * t u) =
    zZ (kaa m.toNat) fun u => 1 * ((if a.1 = (v : Int) then (if u = v then 1 else 0) - (if a.2 = (u : Int) then 1 else 0) else 0) * t u) + 1 * ((jh l fun a => if a.1 = (v : Int) then (if u = v then 1 else 0) - (if a.2 = (u : Int) then 1 else 0) else 0) * t u) :=
   jq fun u _ => by rw [kda]; exact liq r2 (.add V0 V1) (.add (.mulL 1 V0) (.mulL 1 V1)) [] rfl
  rw [e1, h1]
  congr 1
  by_cases h : a.1 = (v : Int)
  ·simp only [h, if_true]
   have h2 := zdh 1 (-1) (fun u => t u * yV u v) (fun u => if a.2 = (u : Int) then t u else 0) (kaa m.toNat)
   have e2 : (zZ (kaa m.toNat) fun u => ((if u = v then 1 else 0) - (if a.2 = (u : Int) then 1 else 0)) * t u) = zZ (kaa m.toNat) fun u => 1 * (t u * yV u v) + -1 * (if a.2 = (u : Int) then t u else 0) := by
    refine jq fun u _ => ?_
    unfold yV
    by_cases hu : u = v <;> by_cases hu2 : a.2 = (u : Int) <;> simp [hu, hu2, eq_comm] <;> (try (first | exact liq r1 (.add V0 (.neg V0)) N0 [] rfl | lia)) <;> (try (subst hu; simp_all))
    all_goals (have hvu : ¬ v = u := fun e => hu e.symm); simp_all
   rw [e2, h2, zdS t _ v kbe (by simp; assumption)]
   have e3 : (zZ (kaa m.toNat) fun u => if a.2 = (u : Int) then t u else 0) = tx m t a.2 := by
    unfold tx
    by_cases hm : a.2 < m
    ·rw [if_pos hm]
     have := zdS t (kaa m.toNat) a.2.toNat kbe (by simp; lia)
     rw [<- this]
     refine jq fun u _ => ?_
     unfold yV
     by_cases hu : a.2 = (u : Int)
     ·have : a.2.toNat = u := by exact eqN (liq r3 V0 V1 [(2,1,V2,V1),(2,1,V0,V2)] rfl hu (tnn (ha.1)))
      simp [hu]
     ·have : ¬ a.2.toNat = u := by exact (fun h_ => lif r3 [(2,-1,V0,V1),(2,1,V0,V2),(1,1,V2,V1)] rfl (eqI h_) (tnn (ha.1)) (wT (lin r3 V0 V1 [(2,1,V2,V1),(2,-1,V2,V0)] rfl (eqI h_) (tnn (ha.1))) hu))
      simp [hu, this]
    ·rw [if_neg hm]
     refine wG fun u hu => ?_
     have := kan.mp hu
     have : ¬ a.2 = (u : Int) := by exact (fun h_ => lif r3 [(4,1,V0,V1),(1,1,V2,V1),(2,1,V0,V2)] rfl hm (kbj.mp this) h_)
     simp [this]
   rw [e3]; exact liq r2 (.add (.mulL 1 V0) (.mulL (-1) V1)) (.sub V0 V1) [] rfl
  ·simp only [h, if_false]
   exact wG fun u _ => by exact liq r1 (.mulL 0 V0) N0 [] rfl
theorem zcT (z : Nat -> Int) : ∀ n : Nat, 0 < n -> ∃ v, v < n /\ ∀ u, u < n -> z v <= z u
 | 0, h => by exact lif (@r1 0) [(1,1,N0,N0)] rfl (ltI h)
 | 1, _ => ⟨0, by assumption, fun u hu => by
  have e : u = 0 := by exact eqN (kav (lin r1 V0 N0 [(1,1,V0,N1)] rfl (ltI hu)) ((nnI _)))
  subst e; exact kaK _⟩
 | n + 2, _ => by
  obtain ⟨v, hv, h⟩ := zcT z (n + 1) (by exact kak rfl)
  by_cases hc : z (n + 1) <= z v
  ·exact ⟨n + 1, by exact kao _, fun u hu => by
    by_cases e : u = n + 1
    ·subst e; exact kaK _
    ·have := h u (by exact ltN ((jW (lin (@r2 (↑(u)) (↑(n))) V0 (.add V1 N1) [(1,1,V0,.add V1 (.num 2))] rfl (ltI hu)) e))); exact kbS ‹_› ‹_›⟩
  ·exact ⟨v, by exact ltN (lit (@r2 (↑(v)) (↑(n))) V0 (.add V1 (.num 2)) [(1,1,V0,.add V1 N1)] rfl (ltI hv)), fun u hu => by
    by_cases e : u = n + 1
    ·subst e; exact lin r2 V0 V1 [(3,1,V1,V0)] rfl hc
    ·exact h u (by exact ltN ((jW (lin (@r2 (↑(u)) (↑(n))) V0 (.add V1 N1) [(1,1,V0,.add V1 (.num 2))] rfl (ltI hu)) e)))⟩
section
variable {m : Int} {rs : Rd2}
theorem Net.arc (n : Net m rs) {a : Int × Int} (ha : a ∈ qL rs) : (0 <= a.1 /\ a.1 <= m) /\ (0 <= a.2 /\ a.2 <= m) := by
 rcases zbc.mp ha with h | h
 ·exact ⟨(n.ends _ h).1, (n.ends _ h).2.1⟩
 ·exact ⟨(n.ends _ h).2.1, (n.ends _ h).1⟩
theorem Net.arc_ne (n : Net m rs) {a : Int × Int} (ha : a ∈ qL rs) : a.1 ≠ a.2 := by
 rcases zbc.mp ha with h | h
 ·exact (n.ends _ h).2.2
 ·exact fun e => (n.ends _ h).2.2 e.symm
theorem Net.nowhere (n : Net m rs) (p : Int -> Prop) (hp : ¬ p m) (hc : ∀ a ∈ qL rs, a.1 < m -> p a.1 -> p a.2) : ∀ k, 0 <= k -> k < m -> ¬ p k := by
 have hc' : ∀ a ∈ qL rs, p a.1 -> p a.2 := fun a ha h => by
  by_cases e : a.1 < m
  ·exact hc a ha e h
  ·have := (n.arc ha).1
   have : a.1 = m := by exact kav (this.2) (lin r2 V0 V1 [(4,1,V1,V0)] rfl e)
   rw [this] at h; exact absurd h hp
 intro k h0 hk
 have key : ∀ {a b}, jl rs a b -> ¬ p a -> ¬ p b := by
  intro a b h
  induction h with
  | refl => exact id
  | @fwd x y _ hm ih => exact fun ha hb => ih ha (hc' (y, x) (zbc.mpr (.inr hm)) hb)
  | @bwd x y _ hm ih => exact fun ha hb => ih ha (hc' (y, x) (zbc.mpr (.inl hm)) hb)
 exact key (n.conn k h0 hk) hp
theorem zpX (n : Net m rs) {z : Nat -> Int} (h : ∀ v : Nat, (v : Int) < m -> 0 <= z v \/ 0 <= lap m rs z v) : ∀ v : Nat, (v : Int) < m -> 0 <= z v := by
 intro v hv
 obtain ⟨w, hw, hmin⟩ := zcT z m.toNat (by exact ltN (lit r3 N0 V0 [(1,1,V1,V2),(0,1,N0,V1),(2,-1,V0,V2)] rfl hv (nnI _) (tnn (lin r2 N0 V0 [(1,1,V1,V0),(0,1,N0,V1)] rfl hv (nnI _)))))
 by_cases hneg : 0 <= z w
 ·have := hmin v (by exact Mine.yI ‹_›); exact kbS ‹_› ‹_›
 ·exfalso
  have hw' : (w : Int) < m := by exact (kbj.mp hw)
  refine n.nowhere (fun e => tx m z e = z w) ?_ ?_ w (by exact nnI _) hw' ?_
  ·simp only [tx, kb1, if_false]; exact (fun h_ => lif r1 [(3,1,N0,V0),(2,1,N0,V0)] rfl hneg h_)
  ·intro a ha ha1 hpa
   obtain ⟨⟨r1, _⟩, r2, r3⟩ := n.arc ha
   have hza : z a.1.toNat = z w := by simpa [tx, ha1] using hpa
   have hl := (h a.1.toNat (by lia)).resolve_left (by lia)
   unfold lap at hl
   have hle : ∀ b ∈ qL rs, (if b.1 = (a.1.toNat : Int) then z a.1.toNat - tx m z b.2 else 0) <= 0 := by
    intro b hb
    split
    ·have hb2 := (n.arc hb).2
     rw [hza]
     unfold tx
     split
     ·have := hmin b.2.toNat (by lia); lia
     ·lia
    ·decide
   have := zcN hle hl a ha
   have e : a.1 = (a.1.toNat : Int) := by lia
   rw [if_pos e] at this
   lia
  ·have : (w : Int).toNat = w := by rfl
   simp [tx, hw', this]
theorem wy (n : Net m rs) {z : Nat -> Int} (h : ∀ v : Nat, (v : Int) < m -> 0 <= lap m rs z v) : ∀ v : Nat, (v : Int) < m -> 0 <= z v := zpX n fun v hv => .inr (h v hv)
theorem zcw (z : Nat -> Int) (v : Nat) : lap m rs (fun u => - z u) v = - lap m rs z v := by
 have := wU m rs (-1) 0 z z v
 have e : (fun u => -1 * z u + 0 * z u) = fun u => - z u := funext fun u => by exact liq r1 (.add (.mulL (-1) V0) (.mulL 0 V0)) (.neg V0) [] rfl
 rw [e] at this; exact liq r2 V0 (.neg V1) [(2,1,V0,.add (.mulL (-1) V1) (.mulL 0 V1))] rfl this
theorem zoh (n : Net m rs) {z : Nat -> Int} (h : ∀ v : Nat, (v : Int) < m -> lap m rs z v = 0) : ∀ v : Nat, (v : Int) < m -> z v = 0 := by
 intro v hv
 have h1 := wy n (z := z) (fun v hv => by rw [h v hv]; decide) v hv
 have h2 := wy n (z := fun u => - z u) (fun v hv => by rw [zcw, h v hv]; decide) v hv
 exact kav (lin r1 V0 N0 [(0,1,N0,.neg V0)] rfl h2) (h1)
noncomputable def qm (m : Int) (rs : Rd2) : List Row := (kaa m.toNat).map fun v => yF rs v
noncomputable def D (m : Int) (rs : Rd2) : Int := det (kaa m.toNat) (qm m rs)
noncomputable def zha (m : Int) (rs : Rd2) (b : Nat -> Int) (v : Nat) : Row := fun u => if u = m.toNat then b v else yF rs v u
noncomputable def zc4 (m : Int) (rs : Rd2) (b : Nat -> Int) (i : Nat) : Int := det ((kaa m.toNat).map fun j => if j = i then m.toNat else j) ((kaa m.toNat).map (zha m rs b))
theorem zab {cs : List Nat} {ι : Type} {f g : ι -> Row} : ∀ (l : List ι) (pre : List Row), (∀ i ∈ l, ∀ c ∈ cs, f i c = g i c) -> det cs (pre ++ l.map f) = det cs (pre ++ l.map g)
 | [], pre, _ => rfl
 | i :: l, pre, h => by
  rw [kaO, kaO, zd0 cs (fun c hc => h i (by simp) c hc) pre (l.map f)]
  have := zab (f := f) (g := g) l (pre ++ [g i]) fun j hj => h j (by simp [hj])
  simpa using this
theorem zfC (n : Net m rs) (b : Nat -> Int) {v : Nat} (hv : (v : Int) < m) : lap m rs (zc4 m rs b) v = D m rs * b v := by
 have h := znp (n := m.toNat) (rows := (kaa m.toNat).map (zha m rs b)) (r := zha m rs b v) (kat.mpr ⟨v, by simp; assumption, rfl⟩)
 have e1 : zha m rs b v m.toNat = b v := by simp [zha]
 have e2 : det (kaa m.toNat) ((kaa m.toNat).map (zha m rs b)) = D m rs := by
  have := zab (cs := kaa m.toNat) (f := zha m rs b) (g := fun v => yF rs v) (kaa m.toNat) [] fun i _ c hc => by
   have := kan.mp hc
   have : ¬ c = m.toNat := by exact (fun h_ => lif r2 [(1,1,V0,V1),(2,-1,V0,V1)] rfl (ltI this) (eqI h_))
   simp [zha, this]
  exact this
 rw [e1, e2] at h
 rw [<- zhB n.ends _ hv, kcb, h]
 refine jq fun u hu => ?_
 have := kan.mp hu
 have : ¬ u = m.toNat := by exact (fun h_ => lif r2 [(1,1,V0,V1),(2,-1,V0,V1)] rfl (ltI this) (eqI h_))
 simp [zha, zc4, this]
def Nn (m : Int) (t : Nat -> Int) : Prop := ∀ v : Nat, (v : Int) < m -> 0 <= t v
def zoJ (m : Int) (rs : Rd2) (h t : Nat -> Int) : Prop := ∀ v : Nat, (v : Int) < m -> h v - lap m rs t v < zU rs v
def zqK (m : Int) (rs : Rd2) (h t : Nat -> Int) : Prop := ∀ t', Nn m t' -> zoJ m rs h t' -> ∀ v : Nat, (v : Int) < m -> t v <= t' v
theorem yY (t : Nat -> Int) (v : Nat) : lap m rs t v = zU rs v * t v - jh (qL rs) fun a => if a.1 = (v : Int) then tx m t a.2 else 0 := by
 unfold lap zU
 generalize qL rs = l
 induction l with
 | nil => simp [jh]
 | cons a l ih =>
  simp only [jh]
  rw [ih]
  by_cases h : a.1 = (v : Int) <;> simp [h] <;> grind
theorem zfA (v : Nat) : 0 <= zU rs v := by
 unfold zU
 have := j7 (l := qL rs) (f := fun _ => 0) (g := fun a => if a.1 = (v : Int) then 1 else 0) fun a _ => by split <;> decide
 rw [za6 fun _ _ => rfl] at this
 exact this
theorem zb8 (n : Net m rs) {v : Nat} (hv : (v : Int) < m) : 0 < zU rs v := by
 by_cases h : 0 < zU rs v
 ·exact h
 ·exfalso
  have h0 : zU rs v = 0 := by have := zfA (rs := rs) v; exact kav (lin r1 V0 N0 [(4,1,N0,V0)] rfl h) (this)
  refine n.nowhere (fun e => e = (v : Int)) (by exact kbR ‹_›) (fun a ha _ ha1 => ?_) v (by exact nnI _) hv rfl
  unfold zU at h0
  have : jh (qL rs) (fun b => - (if b.1 = (v : Int) then 1 else 0)) = 0 := by
   have := zdi (-1) 0 (fun b : Int × Int => if b.1 = (v : Int) then 1 else 0) (fun _ => 0) (qL rs)
   rw [h0, kca, kc0, kbJ] at this
   refine (jI fun b _ => ?_).trans this
   rw [kbJ, Int.neg_mul, kb0]
  have := zcN (l := qL rs) (f := fun b => - (if b.1 = (v : Int) then 1 else 0)) (fun b _ => by split <;> decide) (by exact lin r1 N0 V0 [(2,-1,V0,N0)] rfl this) a ha
  simp [ha1] at this
theorem zia (n : Net m rs) {t : Nat -> Int} (ht : Nn m t) (v : Nat) : 0 <= jh (qL rs) fun a => if a.1 = (v : Int) then tx m t a.2 else 0 := by
 have := j7 (l := qL rs) (f := fun _ => 0) (g := fun a => if a.1 = (v : Int) then tx m t a.2 else 0) fun a ha => by
  have := (n.arc ha).2
  split
  ·unfold tx; split
   ·exact ht _ (by exact lit r3 V0 V1 [(1,1,V2,V1),(2,1,V0,V2)] rfl ‹_› (tnn (this.1)))
   ·decide
  ·decide
 rw [za6 fun _ _ => rfl] at this
 exact this
theorem zoa (n : Net m rs) {t t' : Nat -> Int} (ht : ∀ v : Nat, (v : Int) < m -> t v <= t' v) (v : Nat) : (jh (qL rs) fun a => if a.1 = (v : Int) then tx m t a.2 else 0) <= jh (qL rs) fun a => if a.1 = (v : Int) then tx m t' a.2 else 0 := by
 refine j7 fun a ha => ?_
 have := (n.arc ha).2
 split
 ·unfold tx; split
  ·exact ht _ (by exact lit r3 V0 V1 [(1,1,V2,V1),(2,1,V0,V2)] rfl ‹_› (tnn (this.1)))
  ·decide
 ·decide
theorem zf6 (v : Nat) : ∀ l : Rd2, (∀ p ∈ l, p.1 ≠ p.2) -> zU l v <= l.length := by
 intro l
 induction l with
 | nil => intro _; simp [zU, qL, jh]
 | cons p l ih =>
  intro h
  have h1 := ih fun q hq => h q (by simp [hq])
  have h2 := h p (by simp)
  unfold zU qL at h1 ⊢
  simp only [kcU, kaG, kbf, jh, kag]
  generalize jh (l.flatMap fun p => [(p.1, p.2), (p.2, p.1)]) (fun a => if a.1 = (v : Int) then 1 else 0) = q at h1 ⊢
  split <;> split <;> (first | exact lif (@r3 (p.1) (↑(v)) (p.2)) [(2,-1,V0,V1),(2,1,V2,V1),(1,1,V0,V2)] rfl ‹_› ‹_› (wT (lin (@r3 (p.1) (p.2) (↑(v))) V0 V1 [(2,1,V0,V2),(2,-1,V1,V2)] rfl ‹_› ‹_›) h2) | exact lin r2 (.add N1 (.add N0 V0)) (.add V1 N1) [(0,1,V0,V1)] rfl h1 | exact lin r2 (.add N0 (.add N1 V0)) (.add V1 N1) [(0,1,V0,V1)] rfl h1 | exact lin r2 (.add N0 (.add N0 V0)) (.add V1 N1) [(0,1,V0,V1)] rfl h1)
theorem zeG (n : Net m rs) (v : Nat) : zU rs v <= 40 := by
 have := zf6 v rs fun p hp => (n.ends p hp).2.2
 have := n.len
 exact lin r2 V0 (.num 40) [(0,1,V0,V1),(0,1,V1,.num 40)] rfl ‹_› (leI this)
theorem zn4 (n : Net m rs) {k : Nat} (hk : k < m.toNat) (hp : 0 < pk k (qm m rs)) : 0 < pk (k + 1) (qm m rs) /\ pk (k + 1) (qm m rs) <= zU rs k * pk k (qm m rs) := by
 have hlen : (qm m rs).length = m.toNat := by simp [qm]
 have hget : ∀ v, v < m.toNat -> (qm m rs)[v]? = some (yF rs v) := fun v hv => by simp [qm, hv]
 generalize hR : qm m rs = R at *
 let x : Nat -> Int := fun i => if i < k then - det ((kaa k).map fun j => if j = i then k else j) (R.take k) else if i = k then pk k R else 0
 have xk : x k = pk k R := by simp [x]
 have xhi : ∀ i, k < i -> x i = 0 := fun i hi => by
  have h1 : ¬ i < k := by exact (fun h_ => lif r2 [(1,1,V0,V1),(1,1,V1,V0)] rfl (ltI hi) (ltI h_))
  have h2 : ¬ i = k := by exact kcg ‹_›
  simp [x, h1, h2]
 let L : Row -> Int := fun r => zZ (kaa (k + 1)) fun c => r c * x c
 have hLlin : ∀ a u b v, L (fun j => a * u j + b * v j) = a * L u + b * L v := fun a u b v => by
  show zZ _ _ = a * zZ _ _ + b * zZ _ _
  rw [<- zdh]
  exact jq fun c _ => by grind
 have hL0 : ∀ r ∈ R.take k, L r = 0 := fun r hr => by
  have hc := znp (n := k) (rows := R.take k) hr
  show zZ (kaa (k + 1)) _ = 0
  rw [kaT, zb3]
  simp only [zZ]
  rw [xk]
  have e : (zZ (kaa k) fun c => r c * x c) = - zZ (kaa k) fun i => r i * det ((kaa k).map fun j => if j = i then k else j) (R.take k) := by
   have := zdh (-1) 0 (fun i => r i * det ((kaa k).map fun j => if j = i then k else j) (R.take k)) (fun _ => 0) (kaa k)
   refine (jq fun c hc => ?_).trans (this.trans (by exact liq r2 (.add (.mulL (-1) V0) (.mulL 0 V1)) (.neg V0) [] rfl))
   have hc := kan.mp hc
   simp only [x, hc, if_true]
   grind
  rw [e, <- hc]
  unfold pk
  exact liq r1 (.add (.neg V0) (.add V0 N0)) N0 [] rfl
 have hlapL : ∀ v, v < m.toNat -> lap m rs x v = L (yF rs v) := fun v hv => by
  rw [<- zhB n.ends x (by exact (kbj.mp hv))]
  obtain ⟨q, hq, hqr⟩ := zeb (show k + 1 <= m.toNat by assumption)
  rw [hq, zb3, wG (l := q) fun c hc => by rw [xhi c (by have := hqr c hc; exact ltN (lit r2 V0 V1 [(0,1,.add V0 N1,V1)] rfl (leI this.1)))]; exact liq r1 (.mulR V0 0) N0 [] rfl]
  show _ = zZ _ _
  exact liq r1 (.add V0 N0) V0 [] rfl
 have hpk : pk (k + 1) R = lap m rs x k := by
  have h1 := zgG (R := R) (k := k) (by exact leN (lin r3 V0 V1 [(1,1,V0,V2),(2,-1,V1,V2)] rfl (ltI hk) (eqI hlen))) hLlin hL0 (yF rs k)
  have h2 : L (Vk k R (yF rs k)) = pk (k + 1) R * pk k R := by
   show zZ (kaa (k + 1)) _ = _
   rw [kaT, zb3, wG (l := kaa k) fun c hc => by rw [zgF R _ (kan.mp hc)]; exact liq r1 (.mulL 0 V0) N0 [] rfl]
   simp only [zZ]
   rw [xk, <- zhG (hget k hk)]
   exact liq r1 (.add N0 (.add V0 N0)) V0 [] rfl
  rw [hlapL k hk]
  rw [h1, kcb] at h2
  exact (Int.eq_of_mul_eq_mul_right (by exact kbR ‹_›) h2).symm
 have hlow : ∀ v, v < k -> lap m rs x v = 0 := fun v hv => by
  rw [hlapL v (by exact ltN (lit r3 V0 V1 [(1,1,V2,V1),(1,1,V0,V2)] rfl (ltI hk) (ltI hv)))]
  refine hL0 _ ?_
  exact kaj (i := v) (by rw [List.getElem?_take]; simp [hv, hget v (by exact ltN (lit r3 V0 V1 [(1,1,V2,V1),(1,1,V0,V2)] rfl (ltI hk) (ltI hv)))])
 have hpos : 0 < pk (k + 1) R := by
  rw [hpk]
  by_cases hc : 0 < lap m rs x k
  ·exact hc
  ·exfalso
   have := zpX n (z := fun u => - x u) (fun v hv => by
    rcases kcC v k with h | h | h
    ·right; rw [zcw, hlow v h]; decide
    ·right; subst h; rw [zcw]; exact lin r1 N0 (.neg V0) [(4,1,N0,V0)] rfl hc
    ·left; rw [xhi v h]; decide) k (by exact (kbj.mp hk))
   rw [xk] at this
   exact lif r1 [(1,1,N0,V0),(0,1,N0,.neg V0)] rfl hp this
 refine ⟨hpos, ?_⟩
 have hnn : Nn m x := zpX n fun v hv => by
  rcases kcC v k with h | h | h
  ·right; rw [hlow v h]; decide
  ·right; subst h; exact lin r2 N0 V0 [(2,1,V1,V0),(1,1,N0,V1)] rfl hpk hpos
  ·left; rw [xhi v h]; decide
 have := yY (m := m) (rs := rs) x k
 have := zia n hnn k
 rw [hpk, <- xk]
 exact lin r3 V0 V1 [(2,1,V0,.sub V1 V2),(0,1,N0,V2)] rfl ‹_› this
theorem zkb (n : Net m rs) : ∀ k, k <= m.toNat -> 0 < pk k (qm m rs) /\ pk k (qm m rs) <= 40 ^ k
 | 0, _ => by rw [zhF]; exact ⟨by decide, by decide⟩
 | k + 1, h => by
  obtain ⟨h1, h2⟩ := zkb n k (by exact kaX ‹_›)
  obtain ⟨h3, h4⟩ := zn4 n (k := k) ‹_› h1
  refine ⟨h3, kbS h4 ?_⟩
  rw [kbI, kcb]
  exact kd6 h2 (zeG n k) (zfA k) (by exact nnI _)
theorem zq7 : D m rs = pk m.toNat (qm m rs) := by
 unfold D pk
 rw [kbX (by simp [qm])]
theorem zj4 (n : Net m rs) : 0 < D m rs := by rw [zq7]; exact (zkb n _ (kao _)).1
theorem zlr (h : Nat -> Int) : ∀ (l : List Nat) (v : Nat), v ∈ l -> h v <= zZ l fun u => (h u).natAbs := by
 intro l_
 induction l_ with
 | nil =>
  intro v hv
  simp at hv
 | cons a l ih_ =>
  intro v hv
  simp only [zZ]
  have nn : ∀ l : List Nat, 0 <= zZ l fun u => (((h u).natAbs : Nat) : Int) := by
   intro l; induction l with
   | nil => simp [zZ]
   | cons b l ih => simp only [zZ]; exact lin r2 N0 (.add V0 V1) [(0,1,N0,V1),(0,1,N0,V0)] rfl ih (nnI _)
  rcases kah.mp hv with rfl | hv
  ·have := nn l; lia
  ·have := ih_ v hv; exact lin r3 V0 (.add V1 V2) [(0,1,V0,V2),(0,1,N0,V1)] rfl this (nnI _)
theorem zeg (n : Net m rs) (h : Nat -> Int) : ∃ t', Nn m t' /\ zoJ m rs h t' := by
 have hD := zj4 n
 have hnn : Nn m (zc4 m rs fun _ => 1) := wy n fun v hv => by rw [zfC n _ hv]; exact lin r1 N0 (.mulR V0 1) [(1,1,N0,V0)] rfl hD
 have nn : ∀ l : List Nat, 0 <= zZ l fun u => (((h u).natAbs : Nat) : Int) := by
  intro l; induction l with
  | nil => exact kaK _
  | cons b l ih => simp only [zZ]; exact lin r2 N0 (.add V0 V1) [(0,1,N0,V1),(0,1,N0,V0)] rfl ih (nnI _)
 have hK0 := nn (kaa m.toNat)
 have hle : ∀ v : Nat, (v : Int) < m -> h v <= zZ (kaa m.toNat) fun u => (((h u).natAbs : Nat) : Int) := fun v hv => zlr h _ v (kan.mpr (by exact Mine.yI ‹_›))
 generalize (zZ (kaa m.toNat) fun u => (((h u).natAbs : Nat) : Int)) = K at hK0 hle
 refine ⟨fun u => K * zc4 m rs (fun _ => 1) u + 0 * 0, fun v hv => ?_, fun v hv => ?_⟩
 ·have := kb4 hK0 (hnn v hv)
  show 0 <= K * zc4 m rs (fun _ => 1) v + 0 * 0
  exact lin r1 N0 (.add V0 (.mulL 0 N0)) [(0,1,N0,V0)] rfl this
 ·rw [wU m rs K 0 (zc4 m rs fun _ => 1) (fun _ => 0) v, zfC n _ hv]
  have h1 := hle v hv
  have h2 : K * 1 <= K * (D m rs * 1) := kbu (by exact lin r1 N1 (.mulR V0 1) [(1,1,N0,V0)] rfl hD) hK0
  have := zb8 n hv
  exact lit r5 (.sub V0 (.add V1 (.mulL 0 V2))) V3 [(0,1,V0,V4),(0,1,.mulR V4 1,V1),(1,1,N0,V3)] rfl h1 h2 this
noncomputable def t0 (m : Int) (rs : Rd2) (h : Nat -> Int) (v : Nat) : Int := let c := 0 - (0 - zc4 m rs (fun u => h u - zU rs u + 1) v).fdiv (D m rs); if c > 0 then c else 0
theorem znB (h : Nat -> Int) : Nn m (t0 m rs h) := fun v _ => by unfold t0; simp only; split <;> (first | exact kaF ‹_› | decide)
theorem znC (n : Net m rs) (h : Nat -> Int) (u : Nat) : zc4 m rs (fun u => h u - zU rs u + 1) u <= D m rs * t0 m rs h u /\ (0 < t0 m rs h u -> D m rs * t0 m rs h u < zc4 m rs (fun u => h u - zU rs u + 1) u + D m rs) := by
 have hD := zj4 n
 unfold t0
 generalize zc4 m rs (fun u => h u - zU rs u + 1) u = N
 generalize D m rs = A at hD
 have e := kdu (0 - N) A
 have h1 := ka1 (0 - N) hD
 have h2 := kbr (0 - N) hD
 generalize (0 - N).fdiv A = q at e
 have hm : A * (0 - q) = 0 - A * q := by rw [kdD, kca]
 simp only
 split
 ·exact ⟨by exact lin r4 V0 V1 [(0,1,N0,V2),(2,1,.add V3 V2,.sub N0 V0),(2,-1,V1,.sub N0 V3)] rfl h1 e hm, fun _ => by exact lit r5 V0 (.add V1 V2) [(1,1,V3,V2),(2,-1,.add V4 V3,.sub N0 V1),(2,1,V0,.sub N0 V4)] rfl h2 e hm⟩
 ·have : 0 <= A * q := kb4 (by exact kaF ‹_›) (by exact lin r1 N0 V0 [(4,1,N0,.sub N0 V0)] rfl ‹_›)
  exact ⟨by exact lin r4 V0 (.mulR V1 0) [(0,1,N0,V2),(2,1,.add V3 V2,.sub N0 V0),(0,1,N0,V3)] rfl h1 e this, fun hx => by exact lif (@r1 0) [(1,1,N0,N0)] rfl hx⟩
theorem zpj (n : Net m rs) (h : Nat -> Int) : zqK m rs h (t0 m rs h) := by
 intro t' ht' hst v hv
 have hD := zj4 n
 have hz := wy n (z := fun u => D m rs * t' u + (-1) * zc4 m rs (fun u => h u - zU rs u + 1) u) (fun v hv => by
  rw [wU m rs (D m rs) (-1) t' (zc4 m rs fun u => h u - zU rs u + 1) v, zfC n _ hv]
  have h1 := hst v hv
  have h2 : D m rs * (h v - zU rs v + 1) <= D m rs * lap m rs t' v := kbu (by exact lin r3 (.add (.sub V0 V1) N1) V2 [(1,1,.sub V0 V2,V1)] rfl h1) (by exact kaF ‹_›)
  exact lin r2 N0 (.add V0 (.mulL (-1) V1)) [(0,1,V1,V0)] rfl h2) v hv
 have h0 := ht' v hv
 have h1 := (znC n h v).2
 by_cases hp : 0 < t0 m rs h v
 ·have h2 := h1 hp
  have h3 : D m rs * t0 m rs h v < D m rs * (t' v + 1) := by rw [Int.mul_add, kdE]; exact lit r4 V0 (.add V1 V2) [(0,1,N0,.add V1 (.mulL (-1) V3)),(1,1,V0,.add V3 V2)] rfl hz h2
  have := kb5 h3 (by exact kaF ‹_›)
  exact lin r2 V0 V1 [(1,1,V0,.add V1 N1)] rfl this
 ·exact lin r2 V0 V1 [(0,1,N0,V1),(4,1,N0,V0)] rfl h0 hp
theorem znQ (n : Net m rs) {h : Nat -> Int} (hh : Nn m h) : ∀ v : Nat, (v : Int) < m -> 0 <= h v - lap m rs (t0 m rs h) v := by
 intro v hv
 have hD := zj4 n
 by_cases hp : 0 < t0 m rs h v
 ·have h1 := wU m rs (D m rs) (-1) (t0 m rs h) (zc4 m rs fun u => h u - zU rs u + 1) v
  rw [zfC n _ hv, yY] at h1
  have h3 := zia n (t := fun u => D m rs * t0 m rs h u + (-1) * zc4 m rs (fun u => h u - zU rs u + 1) u) (fun u _ => by have := (znC n h u).1; show 0 <= D m rs * t0 m rs h u + _; exact lin r2 N0 (.add V0 (.mulL (-1) V1)) [(0,1,V1,V0)] rfl this) v
  have h4 := (znC n h v).2 hp
  have h5 := zb8 n hv
  have h6 : zU rs v * (D m rs * t0 m rs h v + (-1) * zc4 m rs (fun u => h u - zU rs u + 1) v) <= zU rs v * (D m rs - 1) := kbu (by exact lin r3 (.add V0 (.mulL (-1) V1)) (.sub V2 N1) [(1,1,V0,.add V1 V2)] rfl h4) (by exact kaF ‹_›)
  rw [kdD, kdE, kcb (zU rs v) (D m rs)] at h6
  have h8 : D m rs * lap m rs (t0 m rs h) v < D m rs * (h v + 1) := by
   have e : D m rs * (h v - zU rs v + 1) = D m rs * (h v + 1) - D m rs * zU rs v := by rw [<- kdD]; congr 1; exact liq r2 (.add (.sub V0 V1) N1) (.sub (.add V0 N1) V1) [] rfl
   (first | lia | omega)
  have := kb5 h8 (by exact kaF ‹_›)
  (first | lia | omega)
 ·have hz0 : t0 m rs h v = 0 := by have := znB (rs := rs) h v hv; exact kav (lin r1 V0 N0 [(4,1,N0,V0)] rfl hp) (this)
  have h1 := yY (m := m) (rs := rs) (t0 m rs h) v
  have := zia n (znB (rs := rs) h) v
  rw [hz0, kca] at h1
  have := hh v hv
  exact lin r3 N0 (.sub V0 V1) [(2,1,V1,.sub N0 V2),(0,1,N0,V2),(0,1,N0,V0)] rfl h1 ‹_› this
noncomputable def upd (f : Nat -> Int) (k : Nat) (x : Int) : Nat -> Int := fun j => if j = k then x else f j
theorem zdf (f k x) : upd f k x k = x := by simp [upd]
theorem zj6 (f) {k j : Nat} (x) (h : j ≠ k) : upd f k x j = f j := by simp [upd, h]
theorem zgn (n : Net m rs) {v : Nat} (hv : (v : Int) < m) : lap m rs (yV v) v = zU rs v := by
 unfold lap zU
 refine jI fun a ha => ?_
 by_cases h : a.1 = (v : Int)
 ·simp only [h, if_true]
  have h1 := n.arc_ne ha
  have h2 := (n.arc ha).2
  have : tx m (yV v) a.2 = 0 := by
   unfold tx yV
   split
   ·have : ¬ a.2.toNat = v := by exact (fun h_ => lif r4 [(2,-1,V0,V1),(2,1,V2,V1),(2,-1,V2,V3),(1,1,V0,V3)] rfl h (eqI h_) (tnn (h2.1)) (wT (lin r4 V0 V1 [(2,1,V0,V2),(2,-1,V3,V2),(2,1,V3,V1)] rfl h (eqI h_) (tnn (h2.1))) h1))
    simp [this]
   ·rfl
  rw [this]; simp [yV]
 ·simp [h]
theorem zeS (n : Net m rs) {v u : Nat} (hu : u ≠ v) : lap m rs (yV v) u <= 0 := by
 rw [yY]
 have h1 := zia n (t := yV v) (fun w _ => by unfold yV; split <;> decide) u
 have : yV v u = 0 := by simp [yV, hu]
 rw [this]; exact lin r2 (.sub (.mulR V0 0) V1) N0 [(0,1,N0,V1)] rfl h1
theorem zhO (t : Nat -> Int) (v : Nat) (q : Int) (u : Nat) : lap m rs (upd t v (t v + q)) u = lap m rs t u + q * lap m rs (yV v) u := by
 have := wU m rs 1 q t (yV v) u
 have e : (fun w => 1 * t w + q * yV v w) = upd t v (t v + q) := funext fun w => by
  unfold upd yV; split
  ·rename_i h; subst h; exact liq r2 (.add (.mulL 1 V0) (.mulR V1 1)) (.add V0 V1) [] rfl
  ·exact liq r2 (.add (.mulL 1 V0) (.mulR V1 0)) V0 [] rfl
 rw [e] at this; exact liq r3 V0 (.add V1 V2) [(2,1,V0,.add (.mulL 1 V1) V2)] rfl this
structure zh3 (m : Int) (rs : Rd2) (h t : Nat -> Int) : Prop where
 nn : Nn m t
 rest : ∀ v : Nat, (v : Int) < m -> 0 <= h v - lap m rs t v
 low : zqK m rs h t
theorem zh3.step (n : Net m rs) {h t : Nat -> Int} (f : zh3 m rs h t) {v : Nat} (hv : (v : Int) < m) (hge : zU rs v <= h v - lap m rs t v) :
  zh3 m rs h (upd t v (t v + (h v - lap m rs t v).fdiv (zU rs v))) /\ 1 <= (h v - lap m rs t v).fdiv (zU rs v) := by
 have hd := zb8 n hv
 have e := kdu (h v - lap m rs t v) (zU rs v)
 have r0 := ka1 (h v - lap m rs t v) hd
 have r1 := kbr (h v - lap m rs t v) hd
 generalize hq : (h v - lap m rs t v).fdiv (zU rs v) = q at *
 have hq1 : 1 <= q := by
  have : zU rs v * 0 < zU rs v * q := by exact lit r5 (.mulR V0 0) V1 [(0,1,V0,.sub V2 V3),(1,1,V4,V0),(2,-1,.add V1 V4,.sub V2 V3)] rfl hge r1 e
  have := kb5 this (by exact kaF ‹_›)
  assumption
 refine ⟨⟨fun u hu => ?_, fun u hu => ?_, fun t' ht' hst u hu => ?_⟩, hq1⟩
 ·unfold upd; split
  ·have := f.nn v hv; exact lin r2 N0 (.add V0 V1) [(0,1,N1,V1),(0,1,N0,V0)] rfl hq1 this
  ·exact f.nn u hu
 ·rw [zhO]
  by_cases huv : u = v
  ·subst huv
   rw [zgn n hv]
   have : q * zU rs u = zU rs u * q := kcb ..
   exact lin r5 N0 (.sub V0 (.add V1 V2)) [(0,1,N0,V3),(2,1,.add V4 V3,.sub V0 V1),(2,1,V2,V4)] rfl r0 e this
  ·have h1 := zeS n (v := v) huv
   have h2 := f.rest u hu
   have h3 : q * lap m rs (yV v) u <= q * 0 := kbu h1 (by exact kaF ‹_›)
   exact lin r4 N0 (.sub V0 (.add V1 V2)) [(0,1,N0,.sub V0 V1),(0,1,V2,.mulR V3 0)] rfl h2 h3
 ·unfold upd; split
  ·rename_i huv; subst huv
   have h1 := hst u hu
   rw [yY] at h1
   have h2 := zoa n (f.low t' ht' hst) u
   have h3 := yY (m := m) (rs := rs) t u
   have h4 : zU rs u * q < zU rs u * (t' u - t u + 1) := by
    have : zU rs u * (t' u - t u + 1) = zU rs u * t' u - zU rs u * t u + zU rs u := by grind
    lia
   have := kb5 h4 (by exact kaF ‹_›)
   exact lin r3 (.add V0 V1) V2 [(1,1,V1,.add (.sub V2 V0) N1)] rfl this
  ·exact f.low t' ht' hst u hu
theorem zh3.start (n : Net m rs) {h : Nat -> Int} (hh : Nn m h) : zh3 m rs h (t0 m rs h) := ⟨znB h, znQ n hh, zpj n h⟩
structure zcY (m : Int) (rs : Rd2) (h t : Nat -> Int) : Prop extends zh3 m rs h t where
 stab : zoJ m rs h t
theorem zcY.uniq {h t t' : Nat -> Int} (a : zcY m rs h t) (b : zcY m rs h t') : ∀ v : Nat, (v : Int) < m -> t v = t' v := fun v hv => by
 have h1 := a.low t' b.nn b.stab v hv
 have h2 := b.low t a.nn a.stab v hv
 exact kav (h1) (h2)
noncomputable def par (rs : Rd2) (r : Nat -> Int) (v : Nat) : Int := if (r v).fdiv (zU rs v) > 0 then (r v).fdiv (zU rs v) else 0
theorem zkO (t q : Nat -> Int) (v : Nat) : lap m rs (fun u => t u + q u) v = lap m rs t v + lap m rs q v := by
 have := wU m rs 1 1 t q v
 simp only [kb0] at this
 exact this
noncomputable def pos (x : Int) : Int := if x > 0 then x else 0
theorem zmo (v : Nat) : lap m rs (fun _ => 0) v = 0 := by
 have := wU m rs 0 0 (fun _ => 0) (fun _ => 0) v
 simpa using this
def Amp (m : Int) (rs : Rd2) (g : Nat -> Int) : Prop := ∀ z : Nat -> Int, (∀ v : Nat, (v : Int) < m -> z v = 0 \/ z v = 1) -> (∀ v : Nat, (v : Int) < m -> z v = 1 -> g v + lap m rs z v < zU rs v) -> ∀ v : Nat, (v : Int) < m -> z v = 0
structure Rec (m : Int) (rs : Rd2) (g : Nat -> Int) : Prop where
 nn : Nn m g
 rest : ∀ v : Nat, (v : Int) < m -> g v < zU rs v
 amp : Amp m rs g
theorem zkD (n : Net m rs) {e w : Nat -> Int} (A : Amp m rs e) (h : ∀ v : Nat, (v : Int) < m -> 0 < w v -> e v + lap m rs w v < zU rs v) : ∀ v : Nat, (v : Int) < m -> w v <= 0 := by
 intro v hv
 obtain ⟨u, hu, hmax⟩ := zcT (fun v => - w v) m.toNat (by exact ltN (lit r3 N0 V0 [(1,1,V1,V2),(0,1,N0,V1),(2,-1,V0,V2)] rfl hv (nnI _) (tnn (lin r2 N0 V0 [(1,1,V1,V0),(0,1,N0,V1)] rfl hv (nnI _)))))
 by_cases hM : w u <= 0
 ·have := hmax v (by exact Mine.yI ‹_›); exact lin r2 V0 N0 [(0,1,V1,N0),(0,1,.neg V1,.neg V0)] rfl hM this
 ·exfalso
  have := A (fun v => if w v = w u then 1 else 0) (fun v hv => by split <;> simp) (fun v hv hz => ?_) u (by exact (kbj.mp hu))
  ·simp at this
  ·have hvu : w v = w u := by
    by_cases h : w v = w u
    ·exact h
    ·simp [h] at hz
   refine kcd ?_ (h v hv (by exact lit r2 N0 V0 [(3,1,V1,N0),(2,-1,V0,V1)] rfl hM hvu))
   refine kcq (j7 fun a ha => ?_) _
   by_cases ha1 : a.1 = (v : Int)
   ·rw [if_pos ha1, if_pos ha1]
    show (if w v = w u then (1 : Int) else 0) - (if a.2 < m then (if w a.2.toNat = w u then (1 : Int) else 0) else 0) <= w v - (if a.2 < m then w a.2.toNat else 0)
    rw [if_pos hvu]
    have ha2 := (n.arc ha).2
    by_cases ha3 : a.2 < m
    ·rw [if_pos ha3, if_pos ha3]
     have := hmax a.2.toNat (by lia)
     by_cases h : w a.2.toNat = w u
     ·rw [if_pos h]; exact lin r3 (.sub N1 N1) (.sub V0 V1) [(2,-1,V0,V2),(2,1,V1,V2)] rfl hvu h
     ·rw [if_neg h]; omega
    ·rw [if_neg ha3, if_neg ha3]; exact lin r2 (.sub N1 N0) (.sub V0 N0) [(3,1,V1,N0),(2,-1,V0,V1)] rfl hM hvu
   ·rw [if_neg ha1, if_neg ha1]; exact kaK _
theorem zkN (n : Net m rs) {z : Nat -> Int} (hz : Nn m z) {v : Nat} (h0 : z v = 0) : lap m rs z v <= 0 := by
 rw [yY, h0]
 have := zia n hz v
 exact lin r2 (.sub (.mulR V0 0) V1) N0 [(0,1,N0,V1)] rfl this
theorem znj {z : Nat -> Int} (hz : ∀ v : Nat, (v : Int) < m -> z v = 0 \/ z v = 1) : Nn m z := fun v hv => by rcases hz v hv with h | h <;> (first | exact lin r1 N0 V0 [(2,-1,V0,N0)] rfl h | exact lin r1 N0 V0 [(2,-1,V0,N1)] rfl h)
theorem zfp (t q : Nat -> Int) (v : Nat) : lap m rs (fun u => t u - q u) v = lap m rs t v - lap m rs q v := by
 have := wU m rs 1 (-1) t q v
 have e : (fun u => 1 * t u + -1 * q u) = fun u => t u - q u := funext fun u => by exact liq r2 (.add (.mulL 1 V0) (.mulL (-1) V1)) (.sub V0 V1) [] rfl
 rw [e] at this; exact liq r3 V0 (.sub V1 V2) [(2,1,V0,.add (.mulL 1 V1) (.mulL (-1) V2))] rfl this
theorem zlq (n : Net m rs) {h t : Nat -> Int} (hL : zcY m rs h t) (hz : ∀ z : Nat -> Int, (∀ v : Nat, (v : Int) < m -> z v = 0 \/ z v = 1) -> (∀ v : Nat, (v : Int) < m -> z v = 1 -> h v - lap m rs t v + lap m rs z v < zU rs v) -> ∀ v : Nat, (v : Int) < m -> z v <= t v) :
  Rec m rs (fun v => h v - lap m rs t v) := by
 refine ⟨hL.rest, hL.stab, fun z h1 h2 v hv => ?_⟩
 have h3 := hz z h1 h2
 have := hL.low (fun u => t u - z u) (fun u hu => by have := h3 u hu; show 0 <= t u - z u; exact lin r2 N0 (.sub V0 V1) [(0,1,V1,V0)] rfl this) (fun u hu => by
  rw [zfp]
  rcases h1 u hu with h | h
  ·have := zkN n (znj h1) h
   have := hL.stab u hu
   exact lit r4 (.sub V0 (.sub V1 V2)) V3 [(0,1,V2,N0),(1,1,.sub V0 V1,V3)] rfl ‹_› this
  ·have := h2 u hu h; exact lit r4 (.sub V0 (.sub V1 V2)) V3 [(1,1,.add (.sub V0 V1) V2,V3)] rfl this) v hv
 rcases h1 v hv with h | h
 ·exact h
 ·exact lif r2 [(0,1,V0,.sub V0 V1),(2,-1,V1,N1)] rfl this h
theorem zmi (n : Net m rs) {e g t : Nat -> Int} (A : Rec m rs e) (hg : Nn m g) (hL : zcY m rs (fun v => e v + g v) t) : Rec m rs (fun v => e v + g v - lap m rs t v) := by
 refine zlq n hL fun z h1 h2 v hv => ?_
 have := zkD n A.amp (w := fun u => z u - t u) (fun v hv h => by
  rw [zfp]
  have h3 := hL.nn v hv
  have h4 : z v = 1 := by rcases h1 v hv with h5 | h5 <;> (first | assumption | lia)
  have := h2 v hv h4
  have := hg v hv
  exact lit r5 (.add V0 (.sub V1 V2)) V3 [(1,1,.add (.sub (.add V0 V4) V2) V1,V3),(0,1,N0,V4)] rfl ‹_› this) v hv
 exact lin r2 V0 V1 [(0,1,.sub V0 V1,N0)] rfl this
theorem zht (n : Net m rs) {h : Nat -> Int} (hh : Nn m h) : ∃ t, zcY m rs h t := by
 obtain ⟨t', ht', hst⟩ := zeg n h
 have key : ∀ (N : Nat) (t : Nat -> Int), zh3 m rs h t -> zZ (kaa m.toNat) (fun v => t' v - t v) < N -> ∃ t, zcY m rs h t := by
  intro N
  induction N with
  | zero =>
   intro t f hN
   have := ze7 (l := kaa m.toNat) (f := fun _ => 0) (g := fun v => t' v - t v) fun v hv => by
    have := f.low t' ht' hst v (by have := kan.mp hv; exact (kbj.mp this)); exact lin r2 N0 (.sub V0 V1) [(0,1,V1,V0)] rfl this
   rw [wG fun _ _ => rfl] at this
   exact lif r1 [(1,1,V0,N0),(0,1,N0,V0)] rfl hN this
  | succ N ih =>
   intro t f hN
   by_cases hs : zoJ m rs h t
   ·exact ⟨t, ⟨f, hs⟩⟩
   ·have : ∃ v : Nat, (v : Int) < m /\ zU rs v <= h v - lap m rs t v := by
     apply kaw
     intro hno
     refine hs fun v hv => ?_
     apply kaw
     intro hc
     exact hno ⟨v, hv, by exact kb9.mp ‹_›⟩
    obtain ⟨v, hv, hge⟩ := this
    obtain ⟨f', hq⟩ := f.step n hv hge
    refine ih _ f' ?_
    generalize (h v - lap m rs t v).fdiv (zU rs v) = q at hq
    have : ∀ l : List Nat, v ∈ l -> zZ l (fun u => t' u - upd t v (t v + q) u) <= zZ l (fun u => t' u - t u) - q := by
     intro l
     have mono : ∀ l : List Nat, zZ l (fun u => t' u - upd t v (t v + q) u) <= zZ l (fun u => t' u - t u) := fun l => ze7 fun u _ => by
      by_cases hu : u = v
      ·subst hu; rw [zdf]; exact lin r3 (.sub V0 (.add V1 V2)) (.sub V0 V1) [(0,1,N1,V2)] rfl hq
      ·rw [zj6 t _ hu]; exact kaK _
     induction l with
     | nil => intro h; simp at h
     | cons a l ih' =>
      intro hm
      simp only [zZ]
      by_cases ha : a = v
      ·subst ha; rw [zdf]; have := mono l; exact lin r5 (.add (.sub V0 (.add V1 V2)) V3) (.sub (.add (.sub V0 V1) V4) V2) [(0,1,V3,V4)] rfl this
      ·rw [zj6 t _ ha]
       have := ih' (by rcases kah.mp hm with h | h; exact absurd h.symm ha; exact h)
       exact lin r5 (.add (.sub V0 V1) V2) (.sub (.add (.sub V0 V1) V3) V4) [(0,1,V2,.sub V3 V4)] rfl this
    have := this (kaa m.toNat) (kan.mpr (by exact Mine.yI ‹_›))
    exact lit r4 V0 V1 [(1,1,V2,.add V1 N1),(0,1,N1,V3),(0,1,V0,.sub V2 V3)] rfl hN hq this
 refine key (zZ (kaa m.toNat) (fun v => t' v - 0)).toNat.succ (fun _ => 0) ⟨fun _ _ => kaK _, fun v hv => by rw [zmo]; have := hh v hv; exact lin r1 N0 (.sub V0 N0) [(0,1,N0,V0)] rfl this, fun t'' h1 _ v hv => h1 v hv⟩ (by exact lit r2 V0 (.add V1 N1) [(0,1,V0,V1)] rfl (Int.self_le_toNat _))
end
noncomputable def oth (e : Int × Int) (x : Int) : Int := if e.2 = x then e.1 else e.2
noncomputable def tch (S : Int -> Bool) (x : Int) (e : Int × Int) : Bool := (decide (e.1 = x) || decide (e.2 = x)) && S (oth e x)
noncomputable def rt (rs : Rd2) (x : Int) (S : Int -> Bool) : List Nat := (kaa rs.length).filter fun i => (rs[i]?).any (tch S x)
noncomputable def nb (rs : Rd2) (x : Int) (S : Int -> Bool) : Int := jh (qL rs) fun a => if a.1 = x then (if S a.2 then 1 else 0) else 0
section
variable {m : Int} {rs : Rd2}
theorem zda {x : Int} {S : Int -> Bool} {i : Nat} : i ∈ rt rs x S ↔ ∃ e, rs[i]? = some e /\ (e.1 = x \/ e.2 = x) /\ S (oth e x) = true := by
 unfold rt
 rw [kbb, kan]
 constructor
 ·rintro ⟨h1, h2⟩
  cases h : rs[i]? with
  | none => rw [h] at h2; simp at h2
  | some e =>
   rw [h] at h2
   simp only [kcW, tch, kaH, kbt, decide_eq_true_eq] at h2
   exact ⟨e, rfl, h2⟩
 ·rintro ⟨e, h1, h2⟩
  refine ⟨(kae.mp h1).1, ?_⟩
  rw [h1]
  simpa only [kcW, tch, kaH, kbt, decide_eq_true_eq] using h2
theorem ziY (x S) : (rt rs x S).Nodup := kbe.sublist kbM
theorem zkB (e : Int × Int) (x S) : rt (rs ++ [e]) x S = rt rs x S ++ if tch S x e then [rs.length] else [] := by
 unfold rt
 rw [kam, ka3, kaT, ka4]
 have h1 : (kaa rs.length).filter (fun i => ((rs ++ [e])[i]?).any (tch S x)) = (kaa rs.length).filter fun i => (rs[i]?).any (tch S x) :=
  kdM fun i hi => by rw [ka6 (kan.mp hi)]
 rw [h1]
 congr 1
 rw [kbO, kbx (kao _), Nat.sub_self]
 simp
theorem zlN (e : Int × Int) : qL (rs ++ [e]) = qL rs ++ [(e.1, e.2), (e.2, e.1)] := by simp [qL]
theorem zh9 (x S) : ∀ rs : Rd2, (∀ p ∈ rs, p.1 ≠ p.2) -> ((rt rs x S).length : Int) = nb rs x S := by
 intro rs
 generalize hn : rs.length = k
 induction k generalizing rs with
 | zero =>
  intro _
  have : rs = [] := kaA hn
  subst this; rfl
 | succ k ih =>
  intro h
  obtain ⟨l, e, rfl⟩ : ∃ l e, rs = l ++ [e] := ⟨rs.dropLast, rs.getLast (by intro h; simp [h] at hn), (kc4 _).symm⟩
  have h1 := ih l (by simpa using hn) fun p hp => h p (by simp [hp])
  have hne := h e (by simp)
  rw [zkB, kam]
  unfold nb at h1 ⊢
  rw [zlN, zaE]
  simp only [jh]
  rw [kdY, h1, kbJ]
  congr 1
  unfold tch oth
  by_cases h1 : e.1 = x
  ·have h2 : ¬ e.2 = x := fun h => hne (h1.trans h.symm)
   simp only [h1, h2, decide_true, Bool.true_or, kbG, if_true, if_false]
   cases S e.2 <;> simp
  ·by_cases h2 : e.2 = x
   ·simp only [h1, h2, decide_true, Bool.or_true, kbG, if_true, if_false]
    cases S e.1 <;> simp
   ·simp [h1, h2]
theorem Net.ne (n : Net m rs) : ∀ p ∈ rs, p.1 ≠ p.2 := fun p hp => (n.ends p hp).2.2
theorem zmg (n : Net m rs) {x : Int} {S S' : Int -> Bool} (h : ∀ q, 0 <= q -> q <= m -> S q = true -> S' q = true) : nb rs x S <= nb rs x S' := by
 refine j7 fun a ha => ?_
 have := (n.arc ha).2
 by_cases h1 : a.1 = x
 ·rw [if_pos h1, if_pos h1]
  cases hs : S a.2 with
  | false => simp only [kad, if_false]; split <;> decide
  | true => rw [h _ this.1 this.2 hs]; exact kaK _
 ·rw [if_neg h1, if_neg h1]; exact kaK _
theorem zfX (n : Net m rs) {x : Int} {S S' : Int -> Bool} (h : ∀ q, 0 <= q -> q <= m -> S q = S' q) : nb rs x S = nb rs x S' :=
 jI fun a ha => by rw [h _ (n.arc ha).2.1 (n.arc ha).2.2]
theorem zfW (n : Net m rs) {x : Int} {S A B : Int -> Bool} (h : ∀ q, 0 <= q -> q <= m -> S q = (A q || B q)) (hd : ∀ q, A q = true -> B q = false) : nb rs x S = nb rs x A + nb rs x B := by
 have := zdi 1 1 (fun a : Int × Int => if a.1 = x then (if A a.2 then 1 else 0) else 0) (fun a : Int × Int => if a.1 = x then (if B a.2 then 1 else 0) else 0) (qL rs)
 rw [kb0, kb0] at this
 unfold nb
 rw [<- this]
 refine jI fun a ha => ?_
 rw [h _ (n.arc ha).2.1 (n.arc ha).2.2]
 by_cases h1 : a.1 = x
 ·simp only [h1, if_true]
  cases hA : A a.2 with
  | false => simp
  | true => rw [hd _ hA]; simp
 ·simp [h1]
theorem zne (n : Net m rs) (v : Nat) (S : Int -> Bool) : 0 <= nb rs v S /\ nb rs v S <= zU rs v := by
 constructor
 ·have := j7 (l := qL rs) (f := fun _ => 0) (g := fun a => if a.1 = (v : Int) then (if S a.2 then 1 else 0) else 0) fun a _ => by split; (split <;> decide); decide
  rw [za6 fun _ _ => rfl] at this
  exact this
 ·exact j7 fun a _ => by split; (split <;> decide); decide
theorem zdo (n : Net m rs) {x : Int} {S S' : Int -> Bool} (h : ∀ q, 0 <= q -> q <= m -> S q = S' q) : rt rs x S = rt rs x S' :=
 kdM fun i hi => by
  have hi := kan.mp hi
  rw [kac hi]
  have he := n.ends _ (kcj hi)
  generalize rs[i] = e at he ⊢
  simp only [kcW, tch]
  rw [h (oth e x) (by unfold oth; split <;> (first | exact he.1.1 | exact he.2.1.1)) (by unfold oth; split <;> (first | exact he.1.2 | exact he.2.1.2))]
theorem zkF (n : Net m rs) {i : Nat} {e : Int × Int} (h : rs[i]? = some e) (x : Int) : 0 <= oth e x /\ oth e x <= m := by
 have := n.ends e (kaj h)
 unfold oth; split <;> (first | exact ⟨this.1.1, this.1.2⟩ | exact ⟨this.2.1.1, this.2.1.2⟩)
noncomputable def lvl (lev : Int -> Nat) (k : Nat) : Int -> Bool := fun q => lev q + 1 == k
noncomputable def blw (lev : Int -> Nat) (k : Nat) : Int -> Bool := fun q => decide (lev q < k)
structure w6 (m : Int) (rs : Rd2) (g : Nat -> Int) (τ : Nat -> Prop) (lev : Int -> Nat) (par : Nat -> Nat) : Prop where
 l0 : lev m = 0
 lp : ∀ p : Nat, (p : Int) < m -> 0 < lev p
 mem : ∀ i, τ i ↔ ∃ p : Nat, (p : Int) < m /\ par p = i
 val : ∀ p : Nat, (p : Int) < m -> ∃ k : Nat, (rt rs p (lvl lev (lev p)))[k]? = some (par p) /\ g p = zU rs p - nb rs p (blw lev (lev p)) + k
theorem w6.road {g τ lev par} (C : w6 m rs g τ lev par) {p : Nat} (hp : (p : Int) < m) : ∃ e, rs[par p]? = some e /\ (e.1 = p \/ e.2 = p) /\ lev (oth e p) + 1 = lev p := by
 obtain ⟨k, h, _⟩ := C.val p hp
 obtain ⟨e, h1, h2, h3⟩ := zda.mp (kaj h)
 exact ⟨e, h1, h2, by simpa [lvl] using h3⟩
def Agr (m : Int) (lev lev' : Int -> Nat) (k : Nat) : Prop := ∀ q, 0 <= q -> q <= m -> lev q <= k \/ lev' q <= k -> lev q = lev' q
theorem Agr.zero {g τ lev par g' τ' lev' par'} (C : w6 m rs g τ lev par) (C' : w6 m rs g' τ' lev' par') : Agr m lev lev' 0 := by
 have key : ∀ {g τ lev par}, w6 m rs g τ lev par -> ∀ q, 0 <= q -> q <= m -> lev q = 0 -> q = m := fun {g τ lev par} C q h0 hm hl => by
  by_cases h : q < m
  ·have := C.lp q.toNat (by exact lit r3 V0 V1 [(1,1,V2,V1),(2,1,V0,V2)] rfl h (tnn (h0)))
   rw [tnn h0] at this; exact lif r1 [(2,1,V0,N0),(1,1,N0,V0)] rfl (eqI hl) (ltI this)
  ·exact kav (hm) (lin r2 V0 V1 [(4,1,V1,V0)] rfl h)
 intro q h0 hm h
 rcases h with h | h
 ·rw [key C q h0 hm (by exact eqN (kav ((leI h)) ((nnI _)))), C.l0, C'.l0]
 ·rw [key C' q h0 hm (by exact eqN (kav ((leI h)) ((nnI _)))), C.l0, C'.l0]
theorem Agr.step {lev lev' : Int -> Nat} {k : Nat} (A : Agr m lev lev' k) (h1 : ∀ p : Nat, (p : Int) < m -> lev p = k + 1 -> lev' p = k + 1) (h2 : ∀ p : Nat, (p : Int) < m -> lev' p = k + 1 -> lev p = k + 1) (l0 : lev m = 0) (l0' : lev' m = 0) : Agr m lev lev' (k + 1) := by
 intro q h0 hm h
 by_cases hq : q < m
 ·obtain ⟨p, rfl⟩ := kay h0
  by_cases hk : lev p <= k \/ lev' p <= k
  ·exact A _ h0 hm hk
  ·rcases h with h | h
   ·have := h1 p hq (by lia); lia
   ·have := h2 p hq (by lia); lia
 ·have : q = m := by exact kav (hm) (lin r2 V0 V1 [(4,1,V1,V0)] rfl hq)
  subst this; rw [l0, l0']
theorem Agr.all {lev lev' : Int -> Nat} (h : ∀ k, Agr m lev lev' k) : ∀ q, 0 <= q -> q <= m -> lev q = lev' q := fun q h0 hm => h (lev q) q h0 hm (.inl (kao _))
theorem zdR (n : Net m rs) {g τ lev par g' lev' par'} (C : w6 m rs g τ lev par) (C' : w6 m rs g' τ lev' par') {k : Nat} (A : Agr m lev lev' k) (p : Nat) (hp : (p : Int) < m) (hl : lev p = k + 1) : lev' p = k + 1 /\ par' p = par p := by
 obtain ⟨e, he, hpe, hlo⟩ := C.road hp
 have ho := zkF n he p
 obtain ⟨p', hp', hpar⟩ := (C'.mem _).mp ((C.mem (par p)).mpr ⟨p, hp, rfl⟩)
 obtain ⟨e', he', hpe', hlo'⟩ := C'.road hp'
 rw [hpar, he] at he'
 cases he'
 have hne := (n.ends e (kaj he)).2.2
 have hoa := A (oth e p) ho.1 ho.2 (.inl (by exact leN (lin r3 V0 V1 [(2,1,V2,.add V1 N1),(2,1,.add V0 N1,V2)] rfl (eqI hl) (eqI hlo))))
 by_cases hpp : p' = p
 ·subst hpp; exact ⟨by exact eqN (liq (@r5 (↑(lev' ↑p')) (↑(k)) (↑(lev' (oth e ↑p'))) (↑(lev ↑p')) (↑(lev (oth e ↑p')))) V0 (.add V1 N1) [(2,-1,.add V2 N1,V0),(2,1,V3,.add V1 N1),(2,1,.add V4 N1,V3),(2,-1,V4,V2)] rfl (eqI hlo') (eqI hl) (eqI hlo) (eqI hoa)), hpar⟩
 ·exfalso
  have e1 : oth e p = (p' : Int) := by unfold oth; split <;> lia
  have e2 : oth e p' = (p : Int) := by unfold oth; split <;> lia
  rw [e1] at hlo hoa
  rw [e2] at hlo'
  have := A p (by exact nnI _) (by exact kaF ‹_›) (.inr (by exact leN (lin (@r5 (↑(lev' ↑p)) (↑(k)) (↑(lev ↑p)) (↑(lev ↑p')) (↑(lev' ↑p'))) V0 V1 [(2,1,V2,.add V1 N1),(2,1,.add V3 N1,V2),(2,1,.add V0 N1,V4),(2,-1,V3,V4)] rfl (eqI hl) (eqI hlo) (eqI hlo') (eqI hoa))))
  omega
theorem w6.heapEq (n : Net m rs) {g τ lev par g' lev' par'} (C : w6 m rs g τ lev par) (C' : w6 m rs g' τ lev' par') : ∀ p : Nat, (p : Int) < m -> g p = g' p := by
 have hA : ∀ k, Agr m lev lev' k := fun k => by
  induction k with
  | zero => exact Agr.zero C C'
  | succ k ih => exact ih.step (fun p hp h => (zdR n C C' ih p hp h).1) (fun p hp h => (zdR n C' C (fun q a b c => (ih q a b c.symm).symm) p hp h).1) C.l0 C'.l0
 have hall := Agr.all hA
 intro p hp
 obtain ⟨k, h1, h2⟩ := C.val p hp
 obtain ⟨k', h1', h2'⟩ := C'.val p hp
 have hlp := hall p (by exact nnI _) (by exact kaF ‹_›)
 have hpar : par' p = par p := by
  have := C.lp p hp
  exact (zdR n C C' (hA (lev p - 1)) p hp (by lia)).2
 have e1 : rt rs p (lvl lev' (lev' p)) = rt rs p (lvl lev (lev p)) := zdo n fun q h0 hm => by unfold lvl; rw [hall q h0 hm, hlp]
 have e2 : nb rs p (blw lev' (lev' p)) = nb rs p (blw lev (lev p)) := zfX n fun q h0 hm => by unfold blw; rw [hall q h0 hm, hlp]
 rw [e1, hpar] at h1'
 have hkk : k = k' := by
  have a1 := kae.mp h1
  have a2 := kae.mp h1'
  exact (kck (h₀ := a1.1) (h₁ := a2.1) (ziY _ _)).mp (a1.2.trans a2.2.symm)
 rw [h2, h2', e2, hkk]
theorem zkL (n : Net m rs) {lev : Int -> Nat} {p : Nat} {k : Nat} (hk : 0 < k) {j : Nat} (hj : j < (rt rs p (lvl lev k)).length) : (j : Int) < nb rs p (blw lev k) - nb rs p (blw lev (k - 1)) := by
 have h1 := zh9 p (lvl lev k) rs n.ne
 have h2 := zfW n (x := p) (S := blw lev k) (A := blw lev (k - 1)) (B := lvl lev k) (fun q _ _ => by
  unfold blw lvl
  rw [kaS]
  simp only [kbt, decide_eq_true_eq, beq_iff_eq]
  lia) (fun q h => by
  unfold blw at h; unfold lvl
  simp only [decide_eq_true_eq] at h
  rw [beq_eq_false_iff_ne]
  lia)
 exact lit r5 V0 (.sub V1 V2) [(1,1,V0,V3),(2,1,V3,V4),(2,-1,V1,.add V2 V4)] rfl (ltI hj) h1 h2
theorem zgZ (n : Net m rs) {g τ lev par τ' lev' par'} (C : w6 m rs g τ lev par) (C' : w6 m rs g τ' lev' par') {k : Nat} (A : Agr m lev lev' k) (p : Nat) (hp : (p : Int) < m) (hl : lev p = k + 1) : lev' p = k + 1 := by
 apply kaw
 intro hne
 have hgt : k + 2 <= lev' p := by
  apply kaw
  intro h
  have := A p (by exact nnI _) (by exact kaF ‹_›) (.inr (by exact leN (lin (@r2 (↑(lev' ↑p)) (↑(k))) V0 V1 [(1,1,V0,.add V1 N1)] rfl (jW (lin (@r2 (↑(lev' ↑p)) (↑(k))) V0 (.add V1 N1) [(1,1,V0,.add V1 (.num 2))] rfl (noI h)) hne))))
  omega
 obtain ⟨j, _, h2⟩ := C.val p hp
 obtain ⟨j', h1', h2'⟩ := C'.val p hp
 have h3 := zkL n (p := p) (by exact ltN (lit (@r2 (↑(lev' ↑p)) (↑(k))) N0 V0 [(0,1,.add V1 (.num 2),V0),(0,1,N0,V1)] rfl (leI hgt) (nnI _))) (kae.mp h1').1
 have h4 : nb rs p (blw lev (lev p)) <= nb rs p (blw lev' (lev' p - 1)) := zmg n fun q h0 hm hq => by
  unfold blw at hq ⊢
  simp only [decide_eq_true_eq] at hq ⊢
  have := A q h0 hm (.inl (by exact leN (lin r3 V0 V1 [(2,1,V2,.add V1 N1),(1,1,V0,V2)] rfl (eqI hl) (ltI hq))))
  lia
 omega
theorem w6.treeEq (n : Net m rs) {g τ lev par τ' lev' par'} (C : w6 m rs g τ lev par) (C' : w6 m rs g τ' lev' par') : ∀ i, τ i ↔ τ' i := by
 have hA : ∀ k, Agr m lev lev' k := fun k => by
  induction k with
  | zero => exact Agr.zero C C'
  | succ k ih => exact ih.step (fun p hp h => zgZ n C C' ih p hp h) (fun p hp h => zgZ n C' C (fun q a b c => (ih q a b c.symm).symm) p hp h) C.l0 C'.l0
 have hall := Agr.all hA
 have hpar : ∀ p : Nat, (p : Int) < m -> par p = par' p := fun p hp => by
  obtain ⟨k, h1, h2⟩ := C.val p hp
  obtain ⟨k', h1', h2'⟩ := C'.val p hp
  have hlp := hall p (by exact nnI _) (by exact kaF ‹_›)
  have e1 : rt rs p (lvl lev' (lev' p)) = rt rs p (lvl lev (lev p)) := zdo n fun q h0 hm => by unfold lvl; rw [hall q h0 hm, hlp]
  have e2 : nb rs p (blw lev' (lev' p)) = nb rs p (blw lev (lev p)) := zfX n fun q h0 hm => by unfold blw; rw [hall q h0 hm, hlp]
  have : k = k' := by exact eqN (liq r6 V0 V1 [(2,-1,V2,.add (.sub V3 V4) V0),(2,1,V2,.add (.sub V3 V5) V1),(2,-1,V5,V4)] rfl h2 h2' e2)
  rw [e1, <- this, h1] at h1'
  exact Option.some.inj h1'
 intro i
 rw [C.mem, C'.mem]
 constructor
 ·rintro ⟨p, hp, rfl⟩; exact ⟨p, hp, (hpar p hp).symm⟩
 ·rintro ⟨p, hp, rfl⟩; exact ⟨p, hp, hpar p hp⟩
theorem w6.again (n : Net m rs) {g τ lev par} (C : w6 m rs g τ lev par) : Rec m rs g := by
 refine ⟨fun p hp => ?_, fun p hp => ?_, fun z h1 h2 => ?_⟩
 ·obtain ⟨k, _, h⟩ := C.val p hp
  have := zne n p (blw lev (lev p))
  exact lin r4 N0 V0 [(2,-1,V0,.add (.sub V1 V2) V3),(0,1,V2,V1),(0,1,N0,V3)] rfl h this.2 (nnI _)
 ·obtain ⟨k, hk, h⟩ := C.val p hp
  have h3 := zkL n (p := p) (C.lp p hp) (kae.mp hk).1
  have := zne n p (blw lev (lev p - 1))
  exact lit r5 V0 V1 [(2,1,V0,.add (.sub V1 V2) V3),(1,1,V3,.sub V2 V4),(0,1,N0,V4)] rfl h h3 this.1
 ·have key : ∀ k (p : Nat), (p : Int) < m -> lev p <= k -> z p = 0 := by
   intro k
   induction k with
   | zero => intro p hp hl; have := C.lp p hp; exact (kba _ (kaU ‹_› ‹_›)).elim
   | succ k ih =>
    intro p hp hl
    rcases h1 p hp with h | h
    ·exact h
    ·exfalso
     have h3 := h2 p hp h
     obtain ⟨j, _, h4⟩ := C.val p hp
     have h5 : nb rs p (blw lev (lev p)) <= lap m rs z p := by
      refine j7 fun a ha => ?_
      by_cases ha1 : a.1 = (p : Int)
      ·rw [if_pos ha1, if_pos ha1, h]
       have ha2 := (n.arc ha).2
       unfold tx
       by_cases ha3 : a.2 < m
       ·rw [if_pos ha3]
        have hz := h1 a.2.toNat (by exact lit r3 V0 V1 [(1,1,V2,V1),(2,1,V0,V2)] rfl ha3 (tnn (ha2.1)))
        by_cases hb : lev a.2 < lev p
        ·have := ih a.2.toNat (by exact lit r3 V0 V1 [(1,1,V2,V1),(2,1,V0,V2)] rfl ha3 (tnn (ha2.1))) (by rw [tnn ha2.1]; exact leN (lin r3 V0 V1 [(0,1,V2,.add V1 N1),(1,1,V0,V2)] rfl (leI hl) (ltI hb)))
         rw [this]; split <;> decide
        ·have : blw lev (lev p) a.2 = false := by unfold blw; simpa using hb
         rw [this]; simp only [kad, if_false]; lia
       ·rw [if_neg ha3]; split <;> decide
      ·rw [if_neg ha1, if_neg ha1]; exact kaK _
     exact lif r5 [(1,1,.add V0 V1,V2),(2,-1,V0,.add (.sub V2 V3) V4),(0,1,V3,V1),(0,1,N0,V4)] rfl h3 h4 h5 (nnI _)
  exact fun p hp => key _ p hp (kao _)
noncomputable def zaP (ks : List Int) : Int -> Bool := fun q => decide (q ∈ ks)
structure Lay (m : Int) (rs : Rd2) (g : Nat -> Int) (i : Nat) (O Y : List Int) (lev : Int -> Nat) (par : Nat -> Nat) : Prop where
 nd : (O ++ Y).Nodup
 o : ∀ q, q ∈ O ↔ 0 <= q /\ q <= m /\ lev q < i
 y : ∀ q, q ∈ Y ↔ 0 <= q /\ q <= m /\ lev q = i
 l0 : lev m = 0
 lp : ∀ p : Nat, (p : Int) < m -> 0 < lev p /\ lev p <= i + 1
 val : ∀ p : Nat, (p : Int) < m -> lev p <= i -> ∃ k : Nat, (rt rs p (lvl lev (lev p)))[k]? = some (par p) /\ g p = zU rs p - nb rs p (blw lev (lev p)) + k
theorem Lay.start (g : Nat -> Int) (hm : 0 <= m) : Lay m rs g 0 [] [m] (fun q => if q = m then 0 else 1) (fun _ => 0) where
 nd := by simp
 o := fun q => by simp
 y := fun q => by
  rw [kaf]
  constructor
  ·rintro rfl; exact ⟨hm, kaK _, if_pos rfl⟩
  ·rintro ⟨_, _, h⟩
   by_cases e : q = m
   ·exact e
   ·rw [if_neg e] at h; cases h
 l0 := if_pos rfl
 lp := fun p hp => by rw [if_neg (by exact (fun h_ => lif r2 [(1,1,V0,V1),(2,-1,V0,V1)] rfl hp h_))]; exact ⟨by exact kak rfl, by exact kak rfl⟩
 val := fun p hp h => by rw [if_neg (by exact (fun h_ => lif r2 [(1,1,V0,V1),(2,-1,V0,V1)] rfl hp h_))] at h; exact lif (@r1 0) [(0,1,N1,N0)] rfl (leI h)
noncomputable def zcu (i : Nat) (lev : Int -> Nat) (c : Nat -> Bool) : Int -> Nat := fun q => if lev q <= i then lev q else if c q.toNat then i + 1 else i + 2
theorem Lay.step (n : Net m rs) {g g' : Nat -> Int} {i : Nat} {O Y Y' : List Int} {lev : Int -> Nat} {par nx : Nat -> Nat} (L : Lay m rs g i O Y lev par) (c : Nat -> Bool)
  (hY : ∀ q, q ∈ Y' ↔ ∃ p : Nat, (p : Int) < m /\ q = p /\ c p = true) (hYn : Y'.Nodup) (hc : ∀ p : Nat, (p : Int) < m -> c p = true -> (p : Int) ∉ O /\ (p : Int) ∉ Y)
  (hg : ∀ p : Nat, (p : Int) < m -> c p = false -> g' p = g p)
  (hn : ∀ p : Nat, (p : Int) < m -> c p = true -> ∃ k : Nat, (rt rs p (zaP Y))[k]? = some (nx p) /\ g' p = zU rs p - (nb rs p (zaP O) + nb rs p (zaP Y)) + k) :
  Lay m rs g' (i + 1) (O ++ Y) Y' (zcu i lev c) (fun p => if c p then nx p else par p) := by
 have hm := n.m0
 have lo : ∀ q, lev q <= i -> zcu i lev c q = lev q := fun q h => if_pos h
 have hi : ∀ q, ¬ lev q <= i -> i < zcu i lev c q := fun q h => by unfold zcu; rw [if_neg h]; split <;> (first | exact kao _ | exact kce _)
 have un : ∀ p : Nat, (p : Int) < m -> c p = true -> ¬ lev p <= i := fun p hp h hl => by
  obtain ⟨h1, h2⟩ := hc p hp h
  rw [L.o] at h1; rw [L.y] at h2
  lia
 have fr : ∀ p : Nat, (p : Int) < m -> c p = true -> zcu i lev c p = i + 1 := fun p hp h => by
  unfold zcu; rw [if_neg (un p hp h), kai, h]; rfl
 have one : ∀ q, 0 <= q -> q <= m -> zcu i lev c q = i + 1 -> ∃ p : Nat, (p : Int) < m /\ q = p /\ c p = true := fun q h0 hq h => by
  obtain ⟨p, rfl⟩ := kay h0
  unfold zcu at h
  by_cases hl : lev p <= i
  ·rw [if_pos hl] at h; exact lif (@r2 (↑(lev ↑p)) (↑(i))) [(2,-1,V0,.add V1 N1),(0,1,V0,V1)] rfl (eqI h) (leI hl)
  ·rw [if_neg hl, kai] at h
   cases hcp : c p with
   | false => rw [hcp] at h; simp at h
   | true =>
    refine ⟨p, ?_, rfl, hcp⟩
    by_cases e : (p : Int) = m
    ·rw [e, L.l0] at hl; exact lif r1 [(1,1,V0,N0),(0,1,N0,V0)] rfl (noI hl) (nnI _)
    ·exact (wT (hq) e)
 have hO : ∀ q, q ∈ O ++ Y ↔ 0 <= q /\ q <= m /\ zcu i lev c q < i + 1 := fun q => by
  rw [kau, L.o, L.y]
  constructor
  ·rintro (⟨a, b, h⟩ | ⟨a, b, h⟩) <;> exact ⟨a, b, by rw [lo q (by (first | exact kaX ‹_› | exact kcY ‹_›))]; (first | exact ltN (lit r2 V0 (.add V1 N1) [(1,1,V0,V1)] rfl (ltI h)) | exact ltN (lit r2 V0 (.add V1 N1) [(2,1,V0,V1)] rfl (eqI h)))⟩
  ·rintro ⟨a, b, h⟩
   have hl : lev q <= i := kaw fun hl => by have := hi q hl; exact lif (@r2 (↑(zcu i lev c q)) (↑(i))) [(1,1,V0,.add V1 N1),(1,1,V1,V0)] rfl (ltI h) (ltI this)
   rw [lo q hl] at h
   by_cases e : lev q = i
   ·exact .inr ⟨a, b, e⟩
   ·exact .inl ⟨a, b, by exact ltN ((jW (lin r2 V0 V1 [(1,1,V0,.add V1 N1)] rfl (ltI h)) e))⟩
 refine ⟨?_, hO, fun q => ?_, by rw [lo m (by rw [L.l0]; exact kak rfl)]; exact L.l0, fun p hp => ?_, fun p hp h => ?_⟩
 ·rw [kbg]
  refine ⟨L.nd, hYn, fun a ha b hb e => ?_⟩
  subst e
  obtain ⟨p, hp, rfl, hcp⟩ := (hY a).mp hb
  obtain ⟨h1, h2⟩ := hc p hp hcp
  rcases kau.mp ha with h | h
  ·exact h1 h
  ·exact h2 h
 ·rw [hY]
  constructor
  ·rintro ⟨p, hp, rfl, hcp⟩; exact ⟨by exact nnI _, by exact kaF ‹_›, fr p hp hcp⟩
  ·rintro ⟨a, b, h⟩; exact one q a b h
 ·have := L.lp p hp
  unfold zcu
  split
  ·exact ⟨ltN ((ltI this.1)), leN (lin (@r2 (↑(lev ↑p)) (↑(i))) V0 (.add (.add V1 N1) N1) [(0,1,V0,.add V1 N1)] rfl (leI this.2))⟩
  ·split <;> (first | exact ⟨ltN (lit (@r1 (↑(i))) N0 (.add V0 N1) [(0,1,N0,V0)] rfl (nnI _)), leN (lin (@r1 (↑(i))) (.add V0 N1) (.add (.add V0 N1) N1) [] rfl)⟩ | exact ⟨ltN (lit (@r1 (↑(i))) N0 (.add V0 (.num 2)) [(0,1,N0,V0)] rfl (nnI _)), leN (lin (@r1 (↑(i))) (.add V0 (.num 2)) (.add (.add V0 N1) N1) [] rfl)⟩)
 ·have agr : ∀ q, 0 <= q -> q <= m -> ∀ j, j <= i + 1 -> (zcu i lev c q < j ↔ lev q < j) := fun q _ _ j hj => by
   by_cases hl : lev q <= i
   ·rw [lo q hl]
   ·have := hi q hl; lia
  have agr2 : ∀ q, 0 <= q -> q <= m -> ∀ j, j <= i + 1 -> (zcu i lev c q + 1 = j ↔ lev q + 1 = j) := fun q _ _ j hj => by
   by_cases hl : lev q <= i
   ·rw [lo q hl]
   ·have := hi q hl; lia
  have eb : ∀ j, j <= i + 1 -> nb rs p (blw (zcu i lev c) j) = nb rs p (blw lev j) := fun j hj => zfX n fun q a b => by
   unfold blw; rw [kaS]; simp only [decide_eq_true_eq]; exact agr q a b j hj
  have el : ∀ j, j <= i + 1 -> rt rs p (lvl (zcu i lev c) j) = rt rs p (lvl lev j) := fun j hj => zdo n fun q a b => by
   unfold lvl; rw [kaS]; simp only [beq_iff_eq]; exact agr2 q a b j hj
  rw [eb _ h, el _ h]
  by_cases hl : lev p <= i
  ·have hcp : c p = false := by
    cases hh : c p with
    | false => rfl
    | true => exact absurd hl (un p hp hh)
   rw [lo p hl, hcp, hg p hp hcp]
   exact L.val p hp hl
  ·have hn1 : zcu i lev c p = i + 1 := by have := hi p hl; exact eqN (kav ((leI h)) (lin r2 (.add V0 N1) V1 [(1,1,V0,V1)] rfl (ltI this)))
   obtain ⟨p', hp', e, hcp⟩ := one p (by exact nnI _) (by exact kaF ‹_›) hn1
   have : p = p' := by exact eqN (e)
   subst this
   rw [hn1, hcp]
   obtain ⟨k, h1, h2⟩ := hn p hp hcp
   have e1 : rt rs p (lvl lev (i + 1)) = rt rs p (zaP Y) := zdo n fun q a b => by
    unfold lvl zaP; rw [kaS]; simp only [beq_iff_eq, decide_eq_true_eq]; rw [L.y]; exact ⟨fun h => ⟨a, b, Nat.succ.inj h⟩, fun h => congrArg Nat.succ h.2.2⟩
   have e2 : nb rs p (blw lev (i + 1)) = nb rs p (zaP O) + nb rs p (zaP Y) := zfW n (fun q a b => by
    unfold blw zaP; rw [kaS]; simp only [decide_eq_true_eq, kbt]; rw [L.o, L.y]; exact ⟨fun h => (Nat.lt_or_eq_of_le (kbz h)).imp (fun h => ⟨a, b, h⟩) (fun h => ⟨a, b, h⟩), fun h => h.elim (fun h => kcD h.2.2) fun h => h.2.2 ▸ kbm _⟩) fun q hq => by
    unfold zaP at *
    simp only [decide_eq_true_eq] at hq
    have := (L.o q).mp hq
    exact decide_eq_false fun h => by have := (L.y q).mp h; lia
   rw [e1, e2]
   exact ⟨k, h1, h2⟩
theorem zpw (n : Net m rs) {O Y : List Int} (hd : ∀ q, q ∈ O -> q ∉ Y) (x : Int) : nb rs x (zaP (O ++ Y)) = nb rs x (zaP O) + nb rs x (zaP Y) :=
 zfW n (fun q _ _ => by unfold zaP; rw [kaS]; simp only [decide_eq_true_eq, kbt, kau]) fun q hq => by
  unfold zaP at *
  simp only [decide_eq_true_eq] at hq
  exact decide_eq_false (hd q hq)
theorem Lay.apart {g i O Y lev par} (L : Lay m rs g i O Y lev par) : ∀ q, q ∈ O -> q ∉ Y := fun q h h' => by
 have := (L.o q).mp h; have := (L.y q).mp h'; lia
def Unb (m : Int) (rs : Rd2) (g : Nat -> Int) (O Y : List Int) : Prop := ∀ p : Nat, (p : Int) < m -> (p : Int) ∉ O -> (p : Int) ∉ Y -> g p + nb rs p (zaP O) < zU rs p
theorem Unb.start {g : Nat -> Int} (hr : ∀ v : Nat, (v : Int) < m -> g v < zU rs v) : Unb m rs g [] [m] := fun p hp _ _ => by
 have : nb rs p (zaP []) = 0 := za6 fun a _ => by unfold zaP; split <;> simp
 rw [this]; have := hr p hp; exact lit r2 (.add V0 N0) V1 [(1,1,V0,V1)] rfl this
theorem Unb.burns {g : Nat -> Int} {O : List Int} (n : Net m rs) (R : Rec m rs g) (U : Unb m rs g O []) (hO : m ∈ O) : ∀ p : Nat, (p : Int) < m -> (p : Int) ∈ O := by
 have h1 := R.amp (fun v => if zaP O v then 0 else 1) (fun v _ => by split; exact .inl rfl; exact .inr rfl) (fun v hv hz => by
  have hn : (v : Int) ∉ O := fun h => by
   have : zaP O v = true := decide_eq_true h
   simp [this] at hz
  refine kcd (kcq (j7 fun a ha => ?_) _) (U v hv hn kaM)
  by_cases ha1 : a.1 = (v : Int)
  ·rw [if_pos ha1, if_pos ha1]
   have ha2 := (n.arc ha).2
   show (if zaP O v = true then (0 : Int) else 1) - (if a.2 < m then (if zaP O (a.2.toNat : Int) = true then (0 : Int) else 1) else 0) <= _
   rw [hz]
   by_cases ha3 : a.2 < m
   ·rw [if_pos ha3, tnn ha2.1]
    cases zaP O a.2 <;> decide
   ·have : a.2 = m := kav ha2.2 (kb9.mp ha3)
    rw [if_neg ha3, this, show zaP O m = true from decide_eq_true hO]; decide
  ·rw [if_neg ha1, if_neg ha1]; exact kaK _)
 intro p hp
 have := h1 p hp
 by_cases hb : (p : Int) ∈ O
 ·exact hb
 ·have e : zaP O p = false := decide_eq_false hb
  rw [e] at this
  exact absurd this (by decide)
theorem Lay.corr {g i O lev par} (L : Lay m rs g i O [] lev par) (h : ∀ p : Nat, (p : Int) < m -> (p : Int) ∈ O) {τ : Nat -> Prop} (hτ : ∀ j, τ j ↔ ∃ p : Nat, (p : Int) < m /\ par p = j) : w6 m rs g τ lev par :=
 ⟨L.l0, fun p hp => (L.lp p hp).1, hτ, fun p hp => L.val p hp (kaX ((L.o p).mp (h p hp)).2.2)⟩
theorem w6.inj (n : Net m rs) {g τ lev par} (C : w6 m rs g τ lev par) {p p' : Nat} (hp : (p : Int) < m) (hp' : (p' : Int) < m) (h : par p = par p') : p = p' := by
 obtain ⟨e, he, hpe, hl⟩ := C.road hp
 obtain ⟨e', he', hpe', hl'⟩ := C.road hp'
 rw [h] at he
 rw [he] at he'
 cases he'
 have hne := (n.ends e (kaj he)).2.2
 apply kaw
 intro hpp
 have e1 : oth e p = (p' : Int) := by unfold oth; split <;> lia
 have e2 : oth e p' = (p : Int) := by unfold oth; split <;> lia
 rw [e1] at hl; rw [e2] at hl'
 exact lif (@r2 (↑(lev ↑p')) (↑(lev ↑p))) [(2,1,.add V0 N1,V1),(2,1,.add V1 N1,V0)] rfl (eqI hl) (eqI hl')
theorem w6.joins (n : Net m rs) {g τ lev par} (C : w6 m rs g τ lev par) {K : Int -> Prop} (h0 : K m) (hc : ∀ j e, τ j -> rs[j]? = some e -> (K e.1 \/ K e.2) -> K e.1 /\ K e.2) : ∀ q, 0 <= q -> q <= m -> K q := by
 have key : ∀ k q, 0 <= q -> q <= m -> lev q <= k -> K q := by
  intro k
  induction k with
  | zero =>
   intro q hq0 hqm hl
   by_cases e : q = m
   ·rw [e]; exact h0
   ·have := C.lp q.toNat (by exact lit r3 V0 V1 [(2,1,V0,V2),(1,1,V2,V1)] rfl (tnn (hq0)) (wT (hqm) e))
    rw [tnn hq0] at this; exact (kba _ (kaU ‹_› ‹_›)).elim
  | succ k ih =>
   intro q hq0 hqm hl
   by_cases e : q = m
   ·rw [e]; exact h0
   ·obtain ⟨p, rfl⟩ := kay hq0
    have hp : (p : Int) < m := by exact (wT (hqm) e)
    obtain ⟨e, he, hpe, hlo⟩ := C.road hp
    have ho := zkF n he p
    have hk := ih (oth e p) ho.1 ho.2 (by exact leN (lin r3 V0 V1 [(0,1,V2,.add V1 N1),(2,1,.add V0 N1,V2)] rfl (leI hl) (eqI hlo)))
    have hτ := (C.mem (par p)).mpr ⟨p, hp, rfl⟩
    have : K e.1 \/ K e.2 := by
     unfold oth at hk; split at hk
     ·exact .inl hk
     ·exact .inr hk
    have := hc _ e hτ he this
    rcases hpe with h | h
    ·rw [<- h]; exact this.1
    ·rw [<- h]; exact this.2
 exact fun q a b => key _ q a b (kao _)
end
theorem zlw (c : Nat) (q : List Nat) : ∀ (p : List Nat) (rows : List Row), det (p ++ c :: q) rows = (-1) ^ p.length * det (c :: (p ++ q)) rows := by
 intro p
 induction p with
 | nil => intro rows; simp
 | cons d p ih =>
  intro rows
  have h1 : det (d :: (p ++ c :: q)) rows = (-1) ^ p.length * det (d :: c :: (p ++ q)) rows := by
   have := zhX ((-1) ^ p.length) (cs := p ++ c :: q) (cs' := c :: (p ++ q)) ih [d] rows
   simpa using this
  rw [kaG, kaG, h1, zdZ d c, kag, kbI]
  grind
noncomputable def skp (k : Nat) (j : Nat) : Nat := if j < k then j else j + 1
theorem zgT {k s : Nat} (hk : k <= s) : ∃ q, kaa (s + 1) = kaa k ++ k :: q /\ (kaa s).map (skp k) = kaa k ++ q := by
 induction s with
 | zero =>
  have : k = 0 := by exact eqN (kav ((leI hk)) ((nnI _)))
  subst this
  exact ⟨[], rfl, rfl⟩
 | succ s ih =>
  by_cases h : k = s + 1
  ·subst h
   refine ⟨[], by rw [kaT], ?_⟩
   rw [kaR]
   exact (kbd fun j hj => if_pos (kan.mp hj)).trans (kc5 _)
  ·obtain ⟨q, h1, h2⟩ := ih (by exact leN (lin r2 V0 V1 [(1,1,V0,.add V1 N1)] rfl (jW ((leI hk)) h)))
   refine ⟨q ++ [s + 1], by rw [kaT, h1]; simp, ?_⟩
   rw [kaT, ka0, h2, kaO, kdk, show skp k s = s + 1 from if_neg (by exact (fun h_ => lif r2 [(1,1,V0,V1),(1,1,V1,.add V0 N1)] rfl (ltI h_) (jW ((leI hk)) h))), kaN]
noncomputable def dt (s : Nat) (f : Nat -> Nat -> Int) : Int := det (kaa s) ((kaa s).map f)
noncomputable def sgn (k : Nat) : Int := if k % 2 = 0 then 1 else -1
theorem zn0 (k : Nat) : sgn k = (-1) ^ k := by
 induction k with
 | zero => rfl
 | succ k ih =>
  rw [kbI, <- ih]
  unfold sgn
  have := kdb k
  rcases this with h | h
  ·rw [h, show (k + 1) % 2 = 1 by lia]; rfl
  ·rw [h, show (k + 1) % 2 = 0 by lia]; rfl
theorem zpF (s : Nat) (f : Nat -> Nat -> Int) : dt (s + 1) f = zZ (kaa (s + 1)) fun k => sgn k * f 0 k * dt s fun i j => f (i + 1) (skp k j) := by
 have h0 : (kaa (s + 1)).map f = f 0 :: (kaa s).map fun i => f (i + 1) := by
  rw [kdi, kaO, kbB]; rfl
 unfold dt
 have h1 := zkW (kbe (n := s + 1)) [] ((kaa s).map fun i => f (i + 1)) (f 0)
 rw [kbf] at h1
 rw [h0, h1]
 refine jq fun k hk => ?_
 obtain ⟨q, e1, e2⟩ := zgT (kbz (kan.mp hk))
 have nd : (kaa k ++ k :: q).Nodup := by rw [<- e1]; exact kbe
 have hkq : k ∉ kaa k ++ q := by
  rw [kbg] at nd
  intro h
  rcases kau.mp h with h | h
  ·exact absurd (kan.mp h) (kba _)
  ·exact (kaQ.mp nd.2.1).1 h
 rw [kbf, e1, zlw, zaa k _ hkq, kbc, zn0, <- e2, <- zfy (skp k), kbB]
 show f 0 k * ((-1) ^ k * _) = (-1) ^ k * f 0 k * _
 rw [<- Int.mul_assoc, kcb (f 0 k)]
 rfl
theorem zoI {k : Nat} {R : List Row} (hk : k <= R.length) (cs : List Nat) : ∀ (xs pre : List Row), det cs (R.take k ++ (pre ++ xs.map (Vk k R))) = pk k R ^ xs.length * det cs (R.take k ++ (pre ++ xs)) := by
 intro xs
 induction xs with
 | nil => intro pre; simp
 | cons x xs ih =>
  intro pre
  have h1 := zgG hk (L := fun v => det cs ((R.take k ++ pre) ++ v :: xs.map (Vk k R))) (fun a u b v => zaq cs _ a u b v _) (fun r hr => zfj (zaq _) (zeF _) (kbp _ hr)) x
  have h2 := ih (pre ++ [x])
  rw [kaN, kaN, kbP, kbP] at h2
  simp only [kaN] at h1
  rw [kaO, h1, h2, kag, kbI]
  grind
theorem zmu {n k s : Nat} {R : List Row} (hR : R.length = n) (hn : k + s = n) : pk k R * dt s (fun i j => Vk k R (R.getD (k + i) fun _ => 0) (k + j)) = pk k R ^ s * det (kaa n) R := by
 have h1 := zoI (k := k) (R := R) (by exact leN (lin (@r4 (↑(k)) (↑(R.length)) (↑(n)) (↑(s))) V0 V1 [(2,-1,V1,V2),(2,1,.add V0 V3,V2),(0,1,N0,V3)] rfl (eqI hR) (eqI hn) (nnI _))) (kaa n) (R.drop k) []
 rw [kbf, kbf, kbA, kbN, show R.length - k = s by lia] at h1
 rw [<- h1]
 have e1 : kaa n = kaa k ++ (kaa s).map (k + ·) := by rw [<- hn, List.range_add]
 rw [e1, zg4 _ _ (kaa k) (R.take k) (by rw [ka2, kbc]; lia)]
 ·congr 1
  rw [<- zfy]
  unfold dt
  congr 1
  apply kcB
  intro i
  simp only [kaJ, kdA]
  by_cases hi : i < s
  ·rw [kcn hi, kac (by exact ltN (lit (@r5 (↑(k)) (↑(i)) (↑(R.length)) (↑(n)) (↑(s))) (.add V0 V1) V2 [(2,-1,V2,V3),(2,1,.add V0 V4,V3),(1,1,V1,V4)] rfl (eqI hR) (eqI hn) (ltI hi)))]
   simp only [kbY, kas]
   rw [kac (by exact ltN (lit (@r5 (↑(k)) (↑(i)) (↑(R.length)) (↑(n)) (↑(s))) (.add V0 V1) V2 [(2,-1,V2,V3),(2,1,.add V0 V4,V3),(1,1,V1,V4)] rfl (eqI hR) (eqI hn) (ltI hi)))]
   rfl
  ·rw [kbk (by simp; exact kbW.mp ‹_›), kbk (by exact leN (lin (@r5 (↑(R.length)) (↑(k)) (↑(i)) (↑(n)) (↑(s))) V0 (.add V1 V2) [(2,1,V0,V3),(2,-1,.add V1 V4,V3),(0,1,V4,V2)] rfl (eqI hR) (eqI hn) (nuI hi)))]
   rfl
 ·intro v hv c hc
  obtain ⟨x, _, rfl⟩ := kat.mp hv
  exact zgF R x (kan.mp hc)
theorem zmv {n k s : Nat} {R : List Row} (hR : R.length = n) (hn : k + s = n) (hs : 0 < s) (hp : 0 < pk k R) : (dt s fun i j => Vk k R (R.getD (k + i) fun _ => 0) (k + j)).fdiv (pk k R ^ (s - 1)) = det (kaa n) R := by
 have h := zmu hR hn
 obtain ⟨t, rfl⟩ : ∃ t, s = t + 1 := ⟨s - 1, by lia⟩
 rw [kbI, kcb (pk k R ^ t), Int.mul_assoc] at h
 have h' := kde (by exact kbR ‹_›) h
 rw [h', kdI]
 exact Int.mul_fdiv_cancel_left _ (kbR (kcO hp))
end Mine
end
section
open PySem
namespace Mine
noncomputable def ziM : List Str := ["many", "heap", "grains"]
noncomputable def yG (T : TC) (d : Nat) : SW := (zy (j6 (orW (zdB (tst (zi9 .list (loc 1)))) (jv .ne (j5 (loc 1)) (loc 0))) zii qu)
  (j6 (zdB (tst (znt (ju 2 (yW (loc 1)) none (zD T d "is_within" (zi (loc 2) (zi (val (.int 0)) (zi (val (.int 1000000000)) zF)))))))) zii qu))
noncomputable def wp (T : TC) (d : Nat) : SW := (j6 (jv .lt (loc 5) (loc 0)) (zy (zaG (z8 (loc 2) (loc 5)) (loc 5) (ym (z8 (z8 (loc 2) (loc 5)) (loc 5)) (val (.int 1))))
  (j6 (jv .lt (loc 6) (loc 0)) (zaG (z8 (loc 2) (loc 5)) (loc 6) (zbR (z8 (z8 (loc 2) (loc 5)) (loc 6)) (val (.int 1)))) qu)) qu)
noncomputable def zaN (T : TC) (d : Nat) : SW := (yp (.tup [5, 6]) (yW (qF (zi (zeI (zi (loc 3) (zi (loc 4) zF))) (zi (zeI (zi (loc 4) (zi (loc 3) zF))) zF)))) (wp T d))
noncomputable def zjQ : List Str := ["many", "roads", "rows", "one", "other", "place", "end"]
noncomputable def zas (T : TC) (d : Nat) : SW := (zy (zW 2 (ju 5 (jJ (loc 0)) none (mulL (qF (zi (val (.int 0)) zF)) (loc 0))))
  (zy (yp (.tup [3, 4]) (yW (loc 1)) (zaN T d))
  (ji (loc 2))))
noncomputable def zlB : List Str := ["rows", "one", "other", "found"]
noncomputable def za2 (T : TC) (d : Nat) : SW := (zy (zW 3 (za1 (loc 0)))
  (zy (zaG (loc 3) (loc 1) (z8 (loc 0) (loc 2)))
  (zy (zaG (loc 3) (loc 2) (z8 (loc 0) (loc 1)))
  (ji (loc 3)))))
noncomputable def zaV (T : TC) (d : Nat) : SW := (j6 (jv .ne (z8 (z8 (loc 0) (loc 2)) (loc 1)) (val (.int 0))) (ji (loc 2)) qu)
noncomputable def zgC : List Str := ["rows", "at", "place"]
noncomputable def yu (T : TC) (d : Nat) : SW := (zy (yp (.nm 2) (ze9 (loc 1) (j5 (loc 0))) (zaV T d))
  (ji (val .none)))
noncomputable def zaW (T : TC) (d : Nat) : SW := (zy (zW 8 (zbR (zbU (z8 (z8 (loc 0) (loc 5)) (loc 7)) (z8 (z8 (loc 0) (loc 3)) (loc 3))) (zbU (z8 (z8 (loc 0) (loc 5)) (loc 3)) (z8 (z8 (loc 0) (loc 3)) (loc 7)))))
  (zaG (z8 (loc 0) (loc 5)) (loc 7) (zdF (loc 8) (loc 2))))
noncomputable def jw (T : TC) (d : Nat) : SW := (yp (.nm 7) (ze9 (ym (loc 3) (val (.int 1))) (j5 (loc 0))) (zaW T d))
noncomputable def wl (T : TC) (d : Nat) : SW := (zy (zW 4 (zD T d "first_other" (zi (loc 0) (zi (loc 3) zF))))
  (zy (j6 (isNone false (loc 4)) (ji (val (.int 0))) qu)
  (zy (j6 (jv .ne (loc 4) (loc 3)) (zy (zW 0 (zD T d "swapped" (zi (loc 0) (zi (loc 3) (zi (loc 4) zF)))))
  (zW 1 (zbR (val (.int 0)) (loc 1)))) qu)
  (zy (yp (.nm 5) (ze9 (ym (loc 3) (val (.int 1))) (j5 (loc 0))) (jw T d))
  (zW 2 (z8 (z8 (loc 0) (loc 3)) (loc 3)))))))
noncomputable def zgD : List Str := ["rows", "sign", "ahead", "at", "place", "lower", "row", "col", "both"]
noncomputable def wu (T : TC) (d : Nat) : SW := (zy (zW 0 (ju 6 (yW (loc 0)) none (za1 (loc 6))))
  (zy (zW 1 (val (.int 1)))
  (zy (zW 2 (val (.int 1)))
  (zy (yp (.nm 3) (jJ (j5 (loc 0))) (wl T d))
  (ji (zbU (loc 1) (loc 2)))))))
noncomputable def zd5 (T : TC) (d : Nat) : SW := (zaG (z8 (loc 4) (loc 5)) (loc 3) (z8 (loc 1) (loc 5)))
noncomputable def zd4 (T : TC) (d : Nat) : SW := (zy (zW 4 (ju 6 (yW (loc 0)) none (za1 (loc 6))))
  (zy (yp (.nm 5) (jJ (j5 (loc 0))) (zd5 T d))
  (wO (zji (loc 2) (zD T d "determinant" (zi (loc 4) zF))))))
noncomputable def zmH : List Str := ["rows", "right", "found", "col", "changed", "place", "row"]
noncomputable def za7 (T : TC) (d : Nat) : SW := (zy (zW 2 (qF zF))
  (zy (yp (.nm 3) (jJ (j5 (loc 0))) (zd4 T d))
  (ji (loc 2))))
noncomputable def ze5 (T : TC) (d : Nat) : SW := (zaG (loc 3) (loc 5) (zbR (z8 (loc 3) (loc 5)) (zbU (z8 (z8 (loc 0) (loc 4)) (loc 5)) (z8 (loc 2) (loc 4)))))
noncomputable def ze4 (T : TC) (d : Nat) : SW := (yp (.nm 5) (jJ (j5 (loc 1))) (ze5 T d))
noncomputable def zoD : List Str := ["table", "heap", "times", "found", "place", "end"]
noncomputable def zdv (T : TC) (d : Nat) : SW := (zy (zW 3 (za1 (loc 1)))
  (zy (yp (.nm 4) (jJ (j5 (loc 1))) (ze4 T d))
  (ji (loc 3))))
noncomputable def zgw : List Str := ["table", "heap", "whole", "over", "place", "number"]
noncomputable def yq (T : TC) (d : Nat) : SW := (zy (zW 2 (zD T d "determinant" (zi (loc 0) zF)))
  (zy (zW 3 (ju 4 (jJ (j5 (loc 1))) none (ym (zbR (z8 (loc 1) (loc 4)) (z8 (z8 (loc 0) (loc 4)) (loc 4))) (val (.int 1)))))
  (ji (ju 5 (yW (zD T d "solved" (zi (loc 0) (zi (loc 3) zF)))) none (zjD (val (.int 0)) (zbR (val (.int 0)) (zdF (zbR (val (.int 0)) (loc 5)) (loc 2))))))))
noncomputable def zd9 (T : TC) (d : Nat) : SW := (j6 (jv .ge (z8 (loc 5) (loc 7)) (z8 (z8 (loc 3) (loc 7)) (loc 7))) (zy (zW 8 (mulL (qF (zi (val (.int 0)) zF)) (loc 0)))
  (zy (zaG (loc 8) (loc 7) (zdF (z8 (loc 5) (loc 7)) (z8 (z8 (loc 3) (loc 7)) (loc 7))))
  (zy (zW 5 (zD T d "after" (zi (loc 3) (zi (loc 5) (zi (loc 8) zF)))))
  (zy (zaG (loc 4) (loc 7) (ym (z8 (loc 4) (loc 7)) (z8 (loc 8) (loc 7))))
  (zW 6 (val (.bool true))))))) qu)
noncomputable def zd8 (T : TC) (d : Nat) : SW := (zy (zW 6 (val (.bool false)))
  (yp (.nm 7) (jJ (loc 0)) (zd9 T d)))
noncomputable def zmI : List Str := ["many", "roads", "heap", "table", "times", "rest", "moves", "place", "turns"]
noncomputable def zde (T : TC) (d : Nat) : SW := (zy (zW 3 (zD T d "table_of" (zi (loc 0) (zi (loc 1) zF))))
  (zy (zW 4 (zD T d "least_times" (zi (loc 3) (zi (loc 2) zF))))
  (zy (zW 5 (zD T d "after" (zi (loc 3) (zi (loc 2) (zi (loc 4) zF)))))
  (zy (zW 6 (val (.bool true)))
  (zy (zcm (tst (loc 6)) (zd8 T d))
  (ji (zeI (zi (loc 5) (zi (loc 4) zF)))))))))
noncomputable def zoB : List Str := ["many", "roads", "heap", "counts", "place"]
noncomputable def zcn (T : TC) (d : Nat) : SW := (zy (zW 3 (zD T d "counts_at" (zi (loc 0) (zi (loc 1) zF))))
  (ji (znt (ju 4 (jJ (loc 0)) none (jv .lt (z8 (loc 2) (loc 4)) (z8 (loc 3) (loc 4)))))))
end Mine
end
section
open PySem
namespace Mine
end Mine
end
section
open PySem
namespace Mine
noncomputable def ziK : List Str := ["road", "place"]
noncomputable def jF (T : TC) (d : Nat) : SW := (ji (zpZ (jv .eq (z8 (loc 0) (val (.int 1))) (loc 1)) (z8 (loc 0) (val (.int 0))) (z8 (loc 0) (val (.int 1)))))
noncomputable def zbo (T : TC) (d : Nat) : SW := (j6 (inL false (loc 0) (loc 3)) (zy (zW 4 (zD T d "other_end" (zi (loc 3) (zi (loc 0) zF))))
  (zaG (loc 2) (loc 4) (ym (z8 (loc 2) (loc 4)) (val (.int 1))))) qu)
noncomputable def zhv : List Str := ["many", "roads", "found", "road", "place"]
noncomputable def ya (T : TC) (d : Nat) : SW := (zy (zW 2 (mulL (qF (zi (val (.int 0)) zF)) (loc 0)))
  (zy (yp (.nm 3) (yW (loc 1)) (zbo T d))
  (ji (loc 2))))
noncomputable def zjU : List Str := ["many", "roads", "heap", "pits", "more", "place"]
noncomputable def zat (T : TC) (d : Nat) : SW := (zy (j6 (zdB (tst (zD T d "rests" (zi (loc 0) (zi (loc 1) (zi (loc 2) zF)))))) (ji (val (.bool false))) qu)
  (zy (zW 3 (zD T d "pit_counts" (zi (loc 0) (zi (loc 1) zF))))
  (zy (zW 4 (ju 5 (jJ (loc 0)) none (ym (z8 (loc 2) (loc 5)) (z8 (loc 3) (loc 5)))))
  (ji (eqW false (z8 (zD T d "fallen" (zi (loc 0) (zi (loc 1) (zi (loc 4) zF)))) (val (.int 0))) (loc 2))))))
noncomputable def zgE : List Str := ["many", "roads", "heap"]
noncomputable def wv (T : TC) (d : Nat) : SW := (zy (wO (zD T d "need_net" (zi (loc 0) (zi (loc 1) zF))))
  (zy (wO (zD T d "need_heap" (zi (loc 0) (zi (loc 2) zF))))
  (ji (zD T d "is_again" (zi (loc 0) (zi (loc 1) (zi (loc 2) zF)))))))
end Mine
end
section
open PySem
namespace Mine
end Mine
end
section
open PySem
namespace Mine
noncomputable def w7 (T : TC) (d : Nat) : SW := (zy (zW 7 (ju 8 (yW (loc 1)) (some (zcI (inL false (loc 6) (loc 8)) (orW (inD false (z8 (loc 8) (val (.int 0))) (loc 4)) (inD false (z8 (loc 8) (val (.int 1))) (loc 4))))) (loc 8)))
  (j6 (zcI (inD true (loc 6) (loc 4)) (jv .ge (ym (z8 (loc 2) (loc 6)) (j5 (loc 7))) (z8 (loc 3) (loc 6)))) (zaG (loc 4) (loc 6) (val (.bool true))) qu))
noncomputable def zbQ (T : TC) (d : Nat) : SW := (yp (.nm 6) (jJ (loc 0)) (w7 T d))
noncomputable def wJ (T : TC) (d : Nat) : SW := (zy (zW 3 (zD T d "_law_degrees" (zi (loc 0) (zi (loc 1) zF))))
  (zy (j6 (eqW true (ju 6 (jJ (loc 0)) (some (zdB (zgu .le .lt (val (.int 0)) (z8 (loc 2) (loc 6)) (z8 (loc 3) (loc 6))))) (loc 6)) (qF zF)) (ji (val (.bool false))) qu)
  (zy (zW 4 (zcE (loc 0) (val (.bool true))))
  (zy (yp (.nm 5) (jJ (loc 0)) (zbQ T d))
  (ji (jv .eq (j5 (loc 4)) (ym (loc 0) (val (.int 1)))))))))
end Mine
end
section
open PySem
namespace Mine
end Mine
end
section
open PySem
namespace Mine
noncomputable def zhw : List Str := ["many", "roads", "heap"]
noncomputable def y4 (T : TC) (d : Nat) : SW := (j6 (zdB (tst (zD T d "is_again" (zi (loc 0) (zi (loc 1) (zi (loc 2) zF)))))) (zez 6) qu)
noncomputable def ziL : List Str := ["many", "roads", "tree", "number"]
noncomputable def zaH (T : TC) (d : Nat) : SW := (zy (j6 (orW (zdB (tst (zi9 .list (loc 2)))) (jv .ne (j5 (loc 2)) (loc 0))) (zez 4) qu)
  (zy (j6 (orW (zdB (tst (znt (ju 3 (yW (loc 2)) none (zD T d "is_within" (zi (loc 3) (zi (val (.int 0)) (zi (zbR (j5 (loc 1)) (val (.int 1))) zF)))))))) (jv .ne (zhL (loc 2)) (loc 0))) (zez 4) qu)
  (j6 (jv .ne (j5 (zD T d "come_to" (zi (loc 0) (zi (ju 3 (yW (loc 2)) none (z8 (loc 1) (loc 3))) zF)))) (ym (loc 0) (val (.int 1)))) (zez 4) qu)))
noncomputable def zjR : List Str := ["roads", "place", "ends", "number", "road"]
noncomputable def zbn (T : TC) (d : Nat) : SW := (ji (znr [3, 4] (loc 0) (some (zcI (inL false (loc 1) (loc 4)) (inD false (zD T d "other_end" (zi (loc 4) (zi (loc 1) zF))) (loc 2)))) (loc 3)))
noncomputable def zjT : List Str := ["many", "roads", "place", "older", "layer", "burnt"]
noncomputable def zbq (T : TC) (d : Nat) : SW := (zy (zW 5 (ym (j5 (zD T d "roads_to" (zi (loc 1) (zi (loc 2) (zi (loc 3) zF))))) (j5 (zD T d "roads_to" (zi (loc 1) (zi (loc 2) (zi (loc 4) zF)))))))
  (ji (zbR (z8 (zD T d "counts_at" (zi (loc 0) (zi (loc 1) zF))) (loc 2)) (loc 5))))
noncomputable def zlD : List Str := ["older", "layer", "found"]
noncomputable def za3 (T : TC) (d : Nat) : SW := (zy (zW 2 (zkg (loc 0)))
  (zy (wO (zpT (loc 2) (loc 1)))
  (ji (loc 2))))
noncomputable def zbj (T : TC) (d : Nat) : SW := (zy (zW 9 (zD T d "least_of" (zi (loc 0) (zi (loc 1) (zi (loc 8) (zi (loc 4) (zi (loc 5) zF)))))))
  (j6 (zcI (inD true (loc 8) (loc 6)) (jv .ge (z8 (loc 2) (loc 8)) (loc 9))) (zy (wO (zji (loc 3) (z8 (zD T d "roads_to" (zi (loc 1) (zi (loc 8) (zi (loc 5) zF)))) (zbR (z8 (loc 2) (loc 8)) (loc 9)))))
  (zaG (loc 7) (loc 8) (val (.bool true)))) qu))
noncomputable def zbi (T : TC) (d : Nat) : SW := (zy (zW 6 (zD T d "keys_of" (zi (loc 4) (zi (loc 5) zF))))
  (zy (zW 7 zeE)
  (zy (yp (.nm 8) (jJ (loc 0)) (zbj T d))
  (zy (zW 4 (loc 6))
  (zW 5 (loc 7))))))
noncomputable def zd3 (T : TC) (d : Nat) : SW := (zy (zW 4 zeE)
  (zy (zW 5 (zcE (loc 0) (val (.bool true))))
  (zy (zcm (jv .gt (j5 (loc 5)) (val (.int 0))) (zbi T d))
  (ji (zoW (loc 3))))))
noncomputable def zlA : List Str := ["many", "roads", "heap", "tree", "older", "layer", "burnt", "fresh", "place", "least"]
noncomputable def zcd (T : TC) (d : Nat) : SW := (zy (wO (zD T d "need_net" (zi (loc 0) (zi (loc 1) zF))))
  (zy (wO (zD T d "need_heap" (zi (loc 0) (zi (loc 2) zF))))
  (zy (wO (zD T d "need_again" (zi (loc 0) (zi (loc 1) (zi (loc 2) zF)))))
  (zy (zW 3 (qF zF))
  (zd3 T d)))))
noncomputable def zbl (T : TC) (d : Nat) : SW := (zy (zW 9 (zD T d "roads_to" (zi (loc 1) (zi (loc 8) (zi (loc 5) zF)))))
  (zy (zW 10 (ju 11 (yW (loc 9)) (some (inL false (loc 11) (loc 2))) (loc 11)))
  (j6 (zcI (inD true (loc 8) (loc 6)) (jv .gt (j5 (loc 10)) (val (.int 0)))) (zy (zaG (loc 3) (loc 8) (ym (zD T d "least_of" (zi (loc 0) (zi (loc 1) (zi (loc 8) (zi (loc 4) (zi (loc 5) zF)))))) (zp1 (loc 9) (z8 (loc 10) (val (.int 0))))))
  (zaG (loc 7) (loc 8) (val (.bool true)))) qu)))
noncomputable def zbk (T : TC) (d : Nat) : SW := (zy (zW 6 (zD T d "keys_of" (zi (loc 4) (zi (loc 5) zF))))
  (zy (zW 7 zeE)
  (zy (yp (.nm 8) (jJ (loc 0)) (zbl T d))
  (zy (zW 4 (loc 6))
  (zW 5 (loc 7))))))
noncomputable def zd7 (T : TC) (d : Nat) : SW := (zy (zW 4 zeE)
  (zy (zW 5 (zcE (loc 0) (val (.bool true))))
  (zy (zcm (jv .gt (j5 (loc 5)) (val (.int 0))) (zbk T d))
  (ji (loc 3)))))
noncomputable def zlF : List Str := ["many", "roads", "tree", "heap", "older", "layer", "burnt", "fresh", "place", "there", "own", "number"]
noncomputable def zcf (T : TC) (d : Nat) : SW := (zy (wO (zD T d "need_net" (zi (loc 0) (zi (loc 1) zF))))
  (zy (wO (zD T d "need_tree" (zi (loc 0) (zi (loc 1) (zi (loc 2) zF)))))
  (zy (zW 3 (mulL (qF (zi (val (.int 0)) zF)) (loc 0)))
  (zd7 T d))))
end Mine
end
section
open PySem
namespace Mine
noncomputable def zjV : List Str := ["many", "roads"]
noncomputable def zbr (T : TC) (d : Nat) : SW := (zy (wO (zD T d "need_net" (zi (loc 0) (zi (loc 1) zF))))
  (ji (zD T d "determinant" (zi (zD T d "table_of" (zi (loc 0) (zi (loc 1) zF))) zF))))
noncomputable def y3 (T : TC) (d : Nat) : SW := (zy (zil [6, 7] (z8 (loc 1) (loc 5)))
  (j6 (orW (inD false (loc 6) (loc 3)) (inD false (loc 7) (loc 3))) (zy (zaG (loc 3) (loc 6) (val (.bool true)))
  (zaG (loc 3) (loc 7) (val (.bool true)))) qu))
noncomputable def zaF (T : TC) (d : Nat) : SW := (yp (.nm 5) (yW (loc 2)) (y3 T d))
noncomputable def zeZ : List Str := ["_law_many", "_law_roads", "_law_tree", "_law_met", "_law_turn", "_law_number", "_law_one", "_law_other"]
noncomputable def j4 (T : TC) (d : Nat) : SW := (zy (zW 3 (zcE (loc 0) (val (.bool true))))
  (zy (yp (.nm 4) (jJ (loc 0)) (zaF T d))
  (ji (jv .eq (j5 (loc 3)) (ym (loc 0) (val (.int 1)))))))
noncomputable def zhz : List Str := ["_law_many", "_law_roads", "_law_found", "_law_one"]
noncomputable def y8 (T : TC) (d : Nat) : SW := (zy (zW 2 (val (.int 1)))
  (zy (yp (.nm 3) (yW (zD T d "_law_degrees" (zi (loc 0) (zi (loc 1) zF)))) (zW 2 (zbU (loc 2) (loc 3))))
  (ji (loc 2))))
noncomputable def zaT (T : TC) (d : Nat) : SW := (zW 1 (zf7 (loc 1)))
noncomputable def wj (T : TC) (d : Nat) : SW := (j6 (eqB true (inD false (loc 7) (loc 2)) (inD false (loc 8) (loc 2))) (zy (zaG (loc 2) (loc 7) (val (.bool true)))
  (zy (zaG (loc 2) (loc 8) (val (.bool true)))
  (wO (zji (loc 1) (zeI (zi (loc 7) (zi (loc 8) zF))))))) qu)
noncomputable def zaS (T : TC) (d : Nat) : SW := (yp (.tup [7, 8]) (yW (loc 6)) (wj T d))
noncomputable def yD (T : TC) (d : Nat) : SW := (zy (zW 4 (wL (zdF (zD T d "_law_cell_at" (zi (loc 0) (zi (val (.int 19)) zF))) (val (.int 5))) (ym (j5 (loc 1)) (val (.int 1)))))
  (ji (zeI (zi (loc 5) (zi (zhd (zfu (loc 1) (loc 4)) (zh7 (loc 1) (loc 4))) zF)))))
noncomputable def wN (T : TC) (d : Nat) : SW := (zy (zW 1 (zhd (loc 1) (zh7 (loc 6) (wL (zD T d "_law_cell_at" (zi (loc 0) (zi (val (.int 19)) zF))) (val (.int 5))))))
  (zy (zcm (zcI (jv .gt (j5 (loc 1)) (loc 5)) (jv .gt (zD T d "_law_room" (zi (loc 5) (zi (loc 1) zF))) (val (.int 48)))) (zaT T d))
  (yD T d)))
noncomputable def zgy : List Str := ["_law_script", "_law_roads", "_law_met", "_law_turn", "_law_at", "_law_many", "_law_whole_here", "_law_one", "_law_other"]
noncomputable def wt (T : TC) (d : Nat) : SW := (zy (zil [5, 6] (zD T d "_law_net" (zi (zhd (qF (zi (wL (zD T d "_law_cell_at" (zi (loc 0) (zi (val (.int 0)) zF))) (val (.int 4))) zF)) (zfu (loc 0) (val (.int 1)))) (zi (val (.int 0)) zF))))
  (zy (zW 1 (qF zF))
  (zy (zW 2 (zcE (loc 5) (val (.bool true))))
  (zy (yp (.nm 3) (jJ (loc 5)) (zaS T d))
  (wN T d)))))
noncomputable def wk (T : TC) (d : Nat) : SW := (zW 3 (zhd (loc 3) (ju 5 (jJ (loc 2)) none (zhd (loc 4) (qF (zi (loc 5) zF))))))
noncomputable def zaU (T : TC) (d : Nat) : SW := (zy (zW 3 (qF zF))
  (zy (yp (.nm 4) (yW (loc 1)) (wk T d))
  (zW 1 (loc 3))))
noncomputable def zgz : List Str := ["_law_most", "_law_found", "_law_one", "_law_longer", "_law_heap", "_law_grains"]
noncomputable def yr (T : TC) (d : Nat) : SW := (zy (zW 1 (qF (zi (qF zF) zF)))
  (zy (yp (.nm 2) (yW (loc 0)) (zaU T d))
  (ji (loc 1))))
noncomputable def zhy : List Str := ["_law_many", "_law_count", "_law_found", "_law_number", "_law_some"]
noncomputable def y7 (T : TC) (d : Nat) : SW := (zy (zW 2 (qF (zi (qF zF) zF)))
  (zy (yp (.nm 3) (jJ (loc 1)) (zW 2 (zhd (loc 2) (ju 4 (yW (loc 2)) (some (jv .lt (j5 (loc 4)) (loc 0))) (zhd (loc 4) (qF (zi (loc 3) zF)))))))
  (ji (ju 4 (yW (loc 2)) (some (jv .eq (j5 (loc 4)) (loc 0))) (loc 4)))))
noncomputable def yi (T : TC) (d : Nat) : SW := (j6 (jv .ne (z8 (z8 (loc 0) (val (.int 0))) (loc 2)) (val (.int 0))) (zy (zW 3 (ju 4 (yW (zfu (loc 0) (val (.int 1)))) none (zhd (zh7 (loc 4) (loc 2)) (zfu (loc 4) (ym (loc 2) (val (.int 1)))))))
  (zW 1 (ym (loc 1) (zbU (zbU (z8 (qF (zi (val (.int 1)) (zi (zn9 (val (.int 1))) zF))) (wL (loc 2) (val (.int 2)))) (z8 (z8 (loc 0) (val (.int 0))) (loc 2))) (zD T d "_law_expanded" (zi (loc 3) zF)))))) qu)
noncomputable def zdI : List Str := ["_law_rows", "_law_found", "_law_k", "_law_less", "_law_row"]
noncomputable def qO (T : TC) (d : Nat) : SW := (zy (j6 (eqW false (loc 0) (qF zF)) (ji (val (.int 1))) qu)
  (zy (zW 1 (val (.int 0)))
  (zy (yp (.nm 2) (jJ (j5 (loc 0))) (yi T d))
  (ji (loc 1)))))
noncomputable def jB (T : TC) (d : Nat) : SW := (wO (zji (loc 3) (ju 5 (ze9 (val (.int 1)) (j5 (loc 2))) none (zdF (zbR (zbU (z8 (loc 4) (loc 5)) (z8 (loc 2) (val (.int 0)))) (zbU (z8 (loc 4) (val (.int 0))) (z8 (loc 2) (loc 5)))) (loc 1)))))
noncomputable def yU (T : TC) (d : Nat) : SW := (zy (zW 2 (z8 (loc 0) (val (.int 0))))
  (zy (zW 3 (qF zF))
  (zy (yp (.nm 4) (yW (zfu (loc 0) (val (.int 1)))) (jB T d))
  (zy (zW 1 (z8 (loc 2) (val (.int 0))))
  (zW 0 (loc 3))))))
noncomputable def zca : List Str := ["_law_rows", "_law_before", "_law_top", "_law_less", "_law_row", "_law_j"]
noncomputable def jo (T : TC) (d : Nat) : SW := (zy (zW 1 (val (.int 1)))
  (zy (zcm (jv .gt (j5 (loc 0)) (val (.int 4))) (yU T d))
  (ji (zdF (zD T d "_law_expanded" (zi (loc 0) zF)) (z8 (qF (zi (val (.int 1)) (zi (loc 1) (zi (zna (loc 1) (val (.int 2))) (zi (zna (loc 1) (val (.int 3))) zF))))) (zjD (val (.int 0)) (zbR (j5 (loc 0)) (val (.int 1)))))))))
noncomputable def zdu (T : TC) (d : Nat) : SW := (j6 (jv .lt (loc 5) (loc 0)) (zy (zaG (z8 (loc 2) (loc 5)) (loc 5) (ym (z8 (z8 (loc 2) (loc 5)) (loc 5)) (val (.int 1))))
  (j6 (jv .lt (loc 6) (loc 0)) (zaG (z8 (loc 2) (loc 5)) (loc 6) (zbR (z8 (z8 (loc 2) (loc 5)) (loc 6)) (val (.int 1)))) qu)) qu)
noncomputable def zdt (T : TC) (d : Nat) : SW := (yp (.tup [5, 6]) (yW (qF (zi (zeI (zi (loc 3) (zi (loc 4) zF))) (zi (zeI (zi (loc 4) (zi (loc 3) zF))) zF)))) (zdu T d))
noncomputable def zgx : List Str := ["_law_many", "_law_roads", "_law_rows", "_law_one", "_law_other", "_law_here", "_law_there", "_law_k"]
noncomputable def wq (T : TC) (d : Nat) : SW := (zy (zW 2 (ju 7 (jJ (loc 0)) none (mulL (qF (zi (val (.int 0)) zF)) (loc 0))))
  (zy (yp (.tup [3, 4]) (yW (loc 1)) (zdt T d))
  (ji (loc 2))))
noncomputable def zdK (T : TC) (d : Nat) : SW := (zy (zil [7, 8] (zD T d "_law_net" (zi (loc 0) (zi (val (.int 3)) zF))))
  (ji (jv .eq (zD T d "how_many" (zi (loc 7) (zi (loc 8) zF))) (zD T d "_law_determinant" (zi (zD T d "_law_table" (zi (loc 7) (zi (loc 8) zF))) zF)))))
noncomputable def zdL (T : TC) (d : Nat) : SW := (zy (zW 6 (z8 (zD T d "_law_heaps" (zi (zD T d "_law_degrees" (zi (loc 7) (zi (loc 8) zF))) zF)) (wL (zD T d "_law_cell_at" (zi (loc 0) (zi (val (.int 19)) zF))) (zD T d "_law_room" (zi (loc 7) (zi (loc 8) zF))))))
  (zy (j6 (eqB true (zD T d "comes_again" (zi (loc 7) (zi (za1 (loc 8)) (zi (za1 (loc 6)) zF)))) (inL false (loc 6) (loc 1))) (ji (val (.bool false))) qu)
  (zdK T d)))
noncomputable def zdM (T : TC) (d : Nat) : SW := (zy (j6 (orW (eqW true (zbG (loc 4)) (zbG (loc 2))) (eqW true (zbG (loc 5)) (zbG (loc 1)))) (ji (val (.bool false))) qu)
  (zdL T d))
noncomputable def zdN (T : TC) (d : Nat) : SW := (zy (zW 5 (ju 10 (yW (loc 2)) none (zD T d "heap_of" (zi (loc 7) (zi (loc 8) (zi (za1 (loc 10)) zF))))))
  (zdM T d))
noncomputable def zdO (T : TC) (d : Nat) : SW := (zy (zW 4 (ju 9 (yW (loc 1)) none (zD T d "tree_of" (zi (loc 7) (zi (za1 (loc 8)) (zi (za1 (loc 9)) zF))))))
  (zdN T d))
noncomputable def zdP (T : TC) (d : Nat) : SW := (zy (zW 3 (zD T d "how_many" (zi (loc 7) (zi (za1 (loc 8)) zF))))
  (zy (j6 (orW (zdB (tst (zD T d "_law_whole" (zi (loc 3) zF)))) (orW (jv .ne (loc 3) (j5 (loc 1))) (jv .ne (loc 3) (j5 (loc 2))))) (ji (val (.bool false))) qu)
  (zdO T d)))
noncomputable def zdQ (T : TC) (d : Nat) : SW := (zy (zW 2 (ju 10 (yW (zD T d "_law_sets" (zi (loc 7) (zi (j5 (loc 8)) zF)))) (some (tst (zD T d "_law_joined" (zi (loc 7) (zi (loc 8) (zi (loc 10) zF)))))) (loc 10)))
  (zdP T d))
noncomputable def zoC : List Str := ["_law_script", "_law_heaps_here", "_law_trees", "_law_told", "_law_mine", "_law_yours", "_law_last", "_law_many", "_law_roads", "_law_heap", "_law_some"]
noncomputable def ze3 (T : TC) (d : Nat) : SW := (zy (zil [7, 8] (zD T d "_law_small" (zi (loc 0) zF)))
  (zy (zW 1 (ju 9 (yW (zD T d "_law_heaps" (zi (zD T d "_law_degrees" (zi (loc 7) (zi (loc 8) zF))) zF))) (some (tst (zD T d "_law_again" (zi (loc 7) (zi (loc 8) (zi (loc 9) zF)))))) (loc 9)))
  (zdQ T d)))
noncomputable def lst (n : Nat) (f : Nat -> Int) : List Int := (kaa n).map f
theorem qy (n f) : (lst n f).length = n := by simp [lst]
theorem yA {n : Nat} (f) {i : Nat} (h : i < n) : (lst n f)[i]? = some (f i) := by simp [lst, h]
theorem zaA {n f g} (h : ∀ i, i < n -> f i = g i) : lst n f = lst n g := by
 unfold lst
 exact kbd fun i hi => h i (kan.mp hi)
theorem zkM {n : Nat} (f) {i : Nat} (h : i < n) (x : Int) : (lst n f).set i x = lst n (upd f i x) := by
 apply kcB
 intro j
 by_cases hj : j < n
 ·rw [yA _ hj, kcS]
  by_cases e : i = j
  ·subst e; simp [qy, hj, upd]
  ·rw [if_neg e, yA _ hj]; simp [upd, Ne.symm e]
 ·rw [kbk (by simp [qy]; exact kbW.mp ‹_›), kbk (by simp [qy]; exact kbW.mp ‹_›)]
theorem zof {n f g} (h : lst n f = lst n g) : ∀ i, i < n -> f i = g i := fun i hi => by
 have := congrArg (·[i]?) h
 simp only [yA _ hi] at this
 exact Option.some.inj this
theorem zhJ (n : Nat) (x : Int) : kaD n x = lst n fun _ => x := by
 apply kcB
 intro j
 by_cases hj : j < n
 ·rw [yA _ hj]; simp [hj]
 ·rw [kbk (by simp; exact kbW.mp ‹_›), kbk (by simp [qy]; exact kbW.mp ‹_›)]
theorem zkd (l : List Int) : l = lst l.length fun i => l.getD i 0 := by
 apply kcB
 intro j
 by_cases hj : j < l.length
 ·rw [yA _ hj]; simp [hj]
 ·rw [kbk (by exact leN ((nuI hj))), kbk (by simp [qy]; exact kbW.mp ‹_›)]
theorem zb7 (n f) : lst (n + 1) f = lst n f ++ [f n] := by simp [lst, kaT]
def L (J : zb) (a : Addr) (n : Nat) (f : Nat -> Int) : Prop := qM J a (lst n f)
theorem L.ext {J J' a n f} (h : L J a n f) (e : Ext J J') : L J' a n f := e _ _ h
theorem L.cong {J a n f g} (h : L J a n f) (e : ∀ i, i < n -> f i = g i) : L J a n g := by unfold L; rw [<- zaA e]; exact h
theorem L.seq {J a n f k} (h : L J a n f) : yE J a k = k (zs (lst n f)) := zcW h
theorem L.item {n : Nat} {f : Nat -> Int} {i : Nat} {k : V -> Prop} (hi : i < n) : yR (zs (lst n f)) i k = k (.int (f i)) := yZ (zcl (yA f hi))
theorem L.at {J a n f} (h : L J a n f) {i : Int} {k : V -> Prop} (h0 : 0 <= i) (hi : i < n) (hk : k (.int (f i.toNat))) : 0 <= i /\ yE J a fun xs => yR xs i.toNat k := by
 refine ⟨h0, ?_⟩
 rw [h.seq, L.item (by exact ltN (lit r3 V0 V1 [(1,1,V2,V1),(2,1,V0,V2)] rfl hi (tnn (h0))))]; exact hk
theorem L.set {J a n f} (h : L J a n f) {i x : Int} {k : zb -> Prop} (h0 : 0 <= i) (hi : i < n) (hk : ∀ J', J' = put J a (.list (zs (lst n (upd f i.toNat x)))) -> k J') : zex J a i (.int x) k := by
 rw [zaB h, qc, qy]
 refine ⟨h0, by assumption, hk _ ?_⟩
 rw [zj5, zkM f (by exact ltN (lit r3 V0 V1 [(1,1,V2,V1),(2,1,V0,V2)] rfl hi (tnn (h0))))]
theorem jZ {m : Int} {rs : Rd2} (hm : 0 <= m) (hp : ∀ p ∈ rs, 0 <= p.1 /\ 0 <= p.2) : degs m rs = lst m.toNat (zU rs) := by
 have bl : ∀ (f : Nat -> Int) (e : Int), 0 <= e -> za0 m (lst m.toNat f) e = lst m.toNat fun v => f v + if e = (v : Int) then 1 else 0 := by
  intro f e he
  unfold za0
  by_cases h : e < m
  ·rw [if_pos h, zkM f (by exact ltN (lit r4 V0 V1 [(1,1,V2,V3),(2,1,V0,V2),(2,-1,V1,V3)] rfl h (tnn (he)) (tnn (hm))))]
   have : (lst m.toNat f).getD e.toNat 0 = f e.toNat := by rw [kas, yA f (by exact ltN (lit r4 V0 V1 [(1,1,V2,V3),(2,1,V0,V2),(2,-1,V1,V3)] rfl h (tnn (he)) (tnn (hm))))]; rfl
   rw [this]
   refine zaA fun v hv => ?_
   unfold upd
   by_cases hev : e = (v : Int)
   ·have : v = e.toNat := by exact eqN (liq r3 V0 V1 [(2,-1,V2,V0),(2,-1,V1,V2)] rfl hev (tnn (lin r2 N0 V0 [(2,-1,V0,V1),(0,1,N0,V1)] rfl hev (nnI _))))
    simp [hev]
   ·have : ¬ v = e.toNat := by exact (fun h_ => lif r3 [(2,1,V0,V1),(2,1,V1,V2),(1,1,V2,V0)] rfl (eqI h_) (tnn (he)) (wT (lin r3 V0 V1 [(2,-1,V1,V2),(2,-1,V2,V0)] rfl (eqI h_) (tnn (he))) hev))
    simp [hev, this]
  ·rw [if_neg h]
   refine zaA fun v hv => ?_
   have : ¬ e = (v : Int) := by exact (fun h_ => lif r3 [(4,1,V0,V1),(1,1,V2,V1),(2,1,V0,V2)] rfl h (kbj.mp hv) h_)
   simp [this]
 have key : ∀ (rs : Rd2) (f : Nat -> Int), (∀ p ∈ rs, 0 <= p.1 /\ 0 <= p.2) -> zb9 m (lst m.toNat f) rs = lst m.toNat fun v => f v + zU rs v := by
  intro rs
  induction rs with
  | nil => intro f _; simp [zb9, zU, qL, jh]
  | cons p rs ih =>
   intro f h
   have hp := h p (by simp)
   show zb9 m (za0 m (za0 m (lst m.toNat f) p.1) p.2) rs = _
   rw [bl f p.1 hp.1, bl _ p.2 hp.2, ih _ fun q hq => h q (by simp [hq])]
   refine zaA fun v _ => ?_
   have : zU (p :: rs) v = (if p.1 = (v : Int) then 1 else 0) + (if p.2 = (v : Int) then 1 else 0) + zU rs v := by
    unfold zU qL
    rw [kcU, zaE]
    simp only [jh]; exact liq r3 (.add (.add V0 (.add V1 N0)) V2) (.add (.add V0 V1) V2) [] rfl
   rw [this]; exact liq r4 (.add (.add (.add V0 V1) V2) V3) (.add V0 (.add (.add V1 V2) V3)) [] rfl
 unfold degs
 rw [zhJ, key rs _ hp]
 exact zaA fun v _ => by exact liq r1 (.add N0 V0) V0 [] rfl

structure Tab (J : zb) (a : Addr) (n : Nat) (as : List Addr) (f : Nat -> Nat -> Int) : Prop where
 head : J a = some (.list (as.map V.ref))
 len : as.length = n
 row : ∀ i b, as[i]? = some b -> L J b n (f i)
theorem Tab.ext {J J' a n as f} (h : Tab J a n as f) (e : Ext J J') : Tab J' a n as f := ⟨e _ _ h.head, h.len, fun i b hb => (h.row i b hb).ext e⟩
theorem Tab.at {J a n as f} (h : Tab J a n as f) {i : Int} {k : V -> Prop} (h0 : 0 <= i) (hi : i < n) (hk : ∀ b, as[i.toNat]? = some b -> L J b n (f i.toNat) -> k (.ref b)) : 0 <= i /\ yE J a fun xs => yR xs i.toNat k := by
 refine ⟨h0, ?_⟩
 refine qx h.head ?_
 have hl : i.toNat < as.length := by have := h.len; exact ltN (lit r4 V0 V1 [(1,1,V2,V3),(2,-1,V1,V3),(2,1,V0,V2)] rfl hi (eqI this) (tnn (h0)))
 refine yk (v := .ref as[i.toNat]) (by simp [hl]) ?_
 exact hk _ (by simp [hl]) (h.row _ _ (by simp [hl]))
noncomputable def zjo (f : Nat -> Nat -> Int) (i j : Nat) (x : Int) : Nat -> Nat -> Int := fun u => if u = i then upd (f i) j x else f u
theorem Tab.put {J a n as f} (h : Tab J a n as f) (nd : as.Nodup) {i j : Nat} {b : Addr} (hb : as[i]? = some b) (hj : j < n) (x : Int) : Tab (put J b (.list (zs (lst n (upd (f i) j x))))) a n as (zjo f i j x) := by
 have hne : a ≠ b := by
  rintro rfl
  have h1 := h.head
  have h2 := h.row i a hb
  unfold L qM at h2
  rw [h1] at h2
  have h3 : as.map V.ref = zs (lst n (f i)) := by injection h2 with h2; injection h2
  have h4 := congrArg (·[i]?) h3
  have hi : i < n := by have := (kae.mp hb).1; have := h.len; exact ltN (lit r3 V0 V1 [(1,1,V0,V2),(2,1,V2,V1)] rfl (ltI ‹_›) (eqI this))
  simp only [kaJ, hb, kbY] at h4
  rw [zcl (yA (f i) hi)] at h4
  cases h4
 refine ⟨by rw [zY _ hne]; exact h.head, h.len, fun u c hc => ?_⟩
 unfold zjo
 by_cases hu : u = i
 ·subst hu
  rw [hb] at hc; cases hc
  rw [if_pos rfl]
  exact zz _ _ _
 ·rw [if_neg hu]
  have hcb : c ≠ b := by
   rintro rfl
   have h1 := (kae.mp hb)
   have h2 := (kae.mp hc)
   obtain ⟨l1, e1⟩ := h1
   obtain ⟨l2, e2⟩ := h2
   exact hu ((kck (h₀ := l2) (h₁ := l1) nd).mp (e2.trans e1.symm))
  show qM _ _ _
  unfold qM
  rw [zY _ hcb]
  exact h.row u c hc
end Mine
end
section
open PySem
namespace Mine
noncomputable def znP (l : Rd2) (v u : Nat) : Int := jh l fun a => if a.1 = (v : Int) then (if u = v then 1 else 0) - (if a.2 = (u : Int) then 1 else 0) else 0
theorem zlb (l : Rd2) (a : Int × Int) (v u : Nat) : znP (l ++ [a]) v u = znP l v u + if a.1 = (v : Int) then (if u = v then 1 else 0) - (if a.2 = (u : Int) then 1 else 0) else 0 := by
 unfold znP; rw [zaE]; simp [jh]
theorem Tab.cong {J a n as f g} (h : Tab J a n as f) (e : ∀ i j, i < n -> j < n -> f i j = g i j) : Tab J a n as g :=
 ⟨h.head, h.len, fun i b hb => (h.row i b hb).cong fun j hj => e i j (by have := (kae.mp hb).1; have := h.len; exact ltN (lit r3 V0 V1 [(1,1,V0,V2),(2,1,V2,V1)] rfl (ltI ‹_›) (eqI this))) hj⟩
theorem zlM {rs : Rd2} {i : Nat} {p : Int × Int} (h : rs[i]? = some p) : qL (rs.take (i + 1)) = qL (rs.take i) ++ [(p.1, p.2), (p.2, p.1)] := by
 unfold qL; rw [kaY, h]; simp
theorem zau (f i j x u v) : zjo f i j x u v = if u = i then (if v = j then x else f i v) else f u v := by
 unfold zjo; split <;> simp [upd]
theorem zk0 (f : Nat -> Nat -> Int) {p e : Nat} (i j : Nat) (hej : e ≠ j) : zjo f p p (f p p + 1) i j = f i j + if p = i then (if j = i then 1 else 0) - (if e = j then 1 else 0) else 0 := by
 by_cases h : p = i
 ·subst h
  rw [zau, if_pos rfl, if_pos rfl, if_neg hej, kdr]
  by_cases h2 : j = p
  ·subst h2; rw [if_pos rfl, if_pos rfl]
  ·rw [if_neg h2, if_neg h2, kbJ]
 ·rw [zau, if_neg (Ne.symm h), if_neg h, kbJ]
theorem zmR (f : Nat -> Nat -> Int) {p e : Nat} (hne : p ≠ e) (i j : Nat) : zjo (zjo f p p (f p p + 1)) p e (zjo f p p (f p p + 1) p e - 1) i j = f i j + if p = i then (if j = i then 1 else 0) - (if e = j then 1 else 0) else 0 := by
 by_cases h2 : e = j
 ·subst h2
  by_cases h : p = i
  ·subst h
   rw [zau, if_pos rfl, if_pos rfl, zau, if_pos rfl, if_neg (Ne.symm hne), if_pos rfl, if_neg (Ne.symm hne), if_pos rfl]; rfl
  ·rw [zau, if_neg (Ne.symm h), zau, if_neg (Ne.symm h), if_neg h, kbJ]
 ·rw [zau, <- zk0 f i j h2]
  by_cases h : i = p
  ·subst h; rw [if_pos rfl, if_neg (Ne.symm h2)]
  ·rw [if_neg h]
section
variable {T : TC} {d : Nat} {J : zb} {Q : V -> zb -> Prop} {P : Nat -> zb -> Prop}
theorem znA {m : Int} {Z : zM} {a : EW} (hm : 0 <= m) (hm' : m <= 10) (ha : ∀ (J : zb) (Q : V -> zb -> Prop) (P : Nat -> zb -> Prop), a Z J Q P = Q (.int m) J) (hq : ∀ c J', J c = none -> Ext J J' -> L J' c m.toNat (fun _ => 0) -> Q (.ref c) J') : mulL (qF (zi (val (.int 0)) zF)) a Z J Q P := by
 simp only [qo, zv, jf, zav, zdr, zaM, wf, zlO, zjA, qH, zdx, zcj, zby, zgk, zjH, zK, zB, qV, zcM, qA, qG, zbM, zif, zfq, zib, zcX, zbK, zc8, zey, zhQ, wV, zjM, zgM, zdH, zfO, zlT, zL, qX, jr, jL, zcq, qC, zG, j3, zV, zcH, yS, je, zih, zay, jz, zbC, ql, y2, qv, q8, zg, zf, zp, zq, yy, yx, zd, ze, zm, qf, qi, qe, kag, kaB, Cmp.run, zdD, zds, zeC, zid]
 refine ⟨by first | exact kak rfl | simp [lim], zh fun c J1 hc e1 hv => ?_⟩
 rw [ha]
 refine zE hv ?_
 refine ⟨by exact lit r1 V0 (.num 4611686018427387904) [(0,1,V0,.num 10)] rfl hm', by exact lin r1 (.neg (.num 4611686018427387904)) V0 [(0,1,N0,V0)] rfl hm, by simp [lim]; exact lin r1 V0 (.num 1000000) [(0,1,V0,.num 10)] rfl hm', zh fun c' J2 hc' e2 hv2 => ?_⟩
 refine hq c' J2 (e1.none hc') (e1.trans e2) ?_
 unfold L qM
 rw [hv2, <- zhJ]
 congr 2
 unfold zs
 generalize m.toNat = k
 induction k with
 | zero => rfl
 | succ k ih => rw [kbL, kbL, kcT, ih]; rfl
theorem y9 {Z : zM} {i : Nat} {v : V} (h : jC Z i = some v) (J : zb) (Q : V -> zb -> Prop) (P : Nat -> zb -> Prop) : loc i Z J Q P = Q v J := by rw [zv, h]
theorem zl5 {m : Int} {rs : Rd2} {JA : zb} {a : Addr} {as : List Addr} {f : Nat -> Nat -> Int} {p e : Int} {o1 o3 o4 : Option V} {tl : zM} {K : Out -> zM -> zb -> Prop} (hm : 0 <= m) (e0 : Ext JA J) (ht : Tab J a m.toNat as f) (nd : as.Nodup) (hf : ∀ b ∈ as, JA b = none)
  (hp : 0 <= p) (he : 0 <= e) (hpe : p ≠ e)
  (hk : ∀ J', Ext JA J' -> (∀ c, c ∉ as -> J' c = J c) -> Tab J' a m.toNat as (fun v u => f v u + if p = (v : Int) then (if u = v then 1 else 0) - (if e = (u : Int) then 1 else 0) else 0) -> K .next (some (.int m) :: o1 :: some (.ref a) :: o3 :: o4 :: some (.int p) :: some (.int e) :: tl) J') :
  wp T d (some (.int m) :: o1 :: some (.ref a) :: o3 :: o4 :: some (.int p) :: some (.int e) :: tl) J K P := by
 unfold wp
 obtain ⟨p, rfl⟩ := kay hp
 obtain ⟨e, rfl⟩ := kay he
 simp only [qo, zv, jf, zav, zdr, zaM, wf, zlO, zjA, qH, zdx, zcj, zby, zgk, zjH, zK, zB, qV, zcM, qA, qG, zbM, zif, zfq, zib, zcX, zbK, zc8, zey, zhQ, wV, zjM, zgM, zdH, zfO, zlT, zL, qX, jr, jL, zcq, qC, zG, j3, zV, zcH, yS, je, zih, zay, jz, zbC, ql, y2, qv, q8, zg, zf, zp, zq, yy, yx, zd, ze, zm, qf, qi, qe, kag, kaB, Cmp.run, zdD, zds, zeC, zid]
 by_cases hpm : p < m
 ·refine qD (decide_eq_true hpm) ?_
  refine ht.at hp (by exact Mine.lt_toNat ‹_›) fun b hb hbl => ?_
  refine hbl.at hp (by exact Mine.lt_toNat ‹_›) ?_
  refine ht.at hp (by exact Mine.lt_toNat ‹_›) fun b' hb' _ => ?_
  first | (rw [kai, hb] at hb'; cases hb') | (rw [hb] at hb'; cases hb')
  simp only [ze]
  have hbm := kaj hb
  refine hbl.set hp (by exact Mine.lt_toNat ‹_›) fun J1 hJ1 => ?_
  rw [kai] at hb hJ1
  have ht1 := ht.put nd hb (j := p) (by exact Mine.yI ‹_›) (f p p + 1)
  rw [<- hJ1] at ht1
  have e1 : Ext JA J1 := by rw [hJ1]; exact e0.put (hf b hbm) _
  have o1' : ∀ c, c ∉ as -> J1 c = J c := fun c hc => by rw [hJ1, zY _ (by rintro rfl; exact hc hbm)]
  by_cases hem : e < m
  ·refine qD (decide_eq_true hem) ?_
   refine ht1.at hp (by exact Mine.lt_toNat ‹_›) fun b' hb' hbl' => ?_
   first | (rw [kai, hb] at hb'; cases hb') | (rw [hb] at hb'; cases hb')
   refine hbl'.at he (by exact Mine.lt_toNat ‹_›) ?_
   refine ht1.at hp (by exact Mine.lt_toNat ‹_›) fun b' hb' hbl'' => ?_
   first | (rw [kai, hb] at hb'; cases hb') | (rw [hb] at hb'; cases hb')
   refine hbl'.set he (by exact Mine.lt_toNat ‹_›) fun J2 hJ2 => ?_
   simp only [kai] at hJ2
   have ht2 := ht1.put nd hb (j := e) (by exact Mine.yI ‹_›) (zjo f p p (f p p + 1) p e - 1)
   rw [<- hJ2] at ht2
   refine hk J2 (by rw [hJ2]; exact e1.put (hf b hbm) _) (fun c hc => by rw [hJ2, zY _ (by rintro rfl; exact hc hbm)]; exact o1' c hc) (ht2.cong fun i j hi hj => ?_)
   simp only [kdX]
   exact zmR f (by exact (fun h_ => lif r2 [(2,-1,V0,V1),(1,1,V0,V1)] rfl (eqI h_) (wT (lin r2 V0 V1 [(2,1,V0,V1)] rfl (eqI h_)) hpe))) i j
  ·refine qW (decide_eq_false hem) ?_
   refine hk J1 e1 o1' (ht1.cong fun i j hi hj => ?_)
   simp only [kdX]
   exact zk0 f i j (by exact (fun h_ => lif r3 [(4,1,V0,V1),(1,1,V2,V1),(2,1,V0,V2)] rfl hem (kbj.mp hj) (eqI h_)))
 ·refine qW (decide_eq_false hpm) ?_
  refine hk J e0 (fun _ _ => rfl) (ht.cong fun i j hi hj => ?_)
  have hpi : ¬ p = (i : Int) := by exact (fun h_ => lif r3 [(4,1,V0,V1),(1,1,V2,V1),(2,1,V0,V2)] rfl hpm (kbj.mp hi) h_)
  simp [hpi]
theorem zgP {m : Int} {r : Addr} {rs : Rd2} {jj : Nat} {o2 o3 o4 o5 o6 : Option V} {tl : zM} {K : Out -> zM -> zb -> Prop} (n : Net m rs) (hr : zQ J r rs) (h0 : ∀ v, jC (yz (some (.int m) :: some (.ref r) :: o2 :: o3 :: o4 :: o5 :: o6 :: tl) jj v) 0 = some (.int m))
  (hq : ∀ a as Z J', Ext J J' -> Tab J' a m.toNat as (yF rs) -> as.Nodup -> (∀ b ∈ as, J b = none) -> J a = none -> K (.ret (.ref a)) Z J') :
  (zy (zW 2 (ju jj (jJ (loc 0)) none (mulL (qF (zi (val (.int 0)) zF)) (loc 0)))) (zy (yp (.tup [3, 4]) (yW (loc 1)) (zaN T d)) (ji (loc 2)))) (some (.int m) :: some (.ref r) :: o2 :: o3 :: o4 :: o5 :: o6 :: tl) J K P := by
 have hm := n.m0; have hm' := n.m10
 obtain ⟨vs, hr1, hr2⟩ := hr
 simp only [zG, zV, qX, jL, zv, zg, zf, zd]
 refine ⟨by first | exact qP ‹_› ‹_› | (unfold small; omega), by first | exact zdA ‹_› | (rw [z9]; unfold lim; omega), ?_⟩
 refine qj (fun i acc J' => ∃ as : List Addr, acc = as.map V.ref /\ as.length = i /\ as.Nodup /\ (∀ b ∈ as, J b = none /\ L J' b m.toNat fun _ => 0) /\ Ext J J') ⟨[], rfl, rfl, by simp, by simp, .refl⟩ ?_ ?_
 ·intro i v acc J' K' hv hI6a hK
  obtain ⟨as, rfl, hcj⟩ := hI6a
  have hl := hcj.1; have nd := hcj.2.1; have hb := hcj.2.2.1; have e := hcj.2.2.2; clear hcj
  refine ⟨trivial, ?_⟩
  refine znA hm hm' (y9 (h0 v)) fun c J1 hc e1 hcv => ?_
  refine hK _ _ ⟨as ++ [c], by simp, by simp [hl], ?_, fun b hb' => ?_, e.trans e1⟩
  ·rw [kbg]
   refine ⟨nd, by simp, fun x hx y hy => ?_⟩
   simp only [kaf] at hy; subst hy
   rintro rfl
   have := (hb x hx).2
   unfold L qM at this
   rw [hc] at this; cases this
  ·rcases kau.mp hb' with h | h
   ·exact ⟨(hb b h).1, (hb b h).2.ext e1⟩
   ·simp only [kaf] at h; subst h
    exact ⟨e.none hc, hcv⟩
 ·rintro acc J' ⟨as, rfl, hcj⟩
  have hl := hcj.1; have nd := hcj.2.1; have hb := hcj.2.2.1; have e := hcj.2.2.2; clear hcj
  rw [z9] at hl
  refine ⟨trivial, zh fun a J1 ha e1 hav => ?_⟩
  have ht : Tab J1 a m.toNat as fun _ _ => 0 := ⟨hav, by assumption, fun i b hib => (hb b (kaj hib)).2.ext e1⟩
  have hf : ∀ b ∈ as, J b = none := fun b hb' => (hb b hb').1
  have ha0 := e.none ha
  have haas : a ∉ as := fun hm => by have := (hb a hm).2; unfold L qM at this; rw [ha] at this; cases this
  simp only [zq, zp, jz, jr, zv, zg, zf, ze]
  have e01 := e.trans e1
  refine zO (e01 _ _ hr1) ?_
  refine zI (fun i Z J' => X4 fun o3 o4 o5 o6 => Z = some (.int m) :: some (.ref r) :: some (.ref a) :: o3 :: o4 :: o5 :: o6 :: tl /\ Ext J J' /\ Tab J' a m.toNat as (znP (qL (rs.take i)))) ?_ ?_ ?_
  ·exact ⟨_, _, _, _, rfl, e01, ht.cong fun i j _ _ => rfl⟩
  ·intro i v Z J2 K' hv hI6c hK
   obtain ⟨o3, o4, o5, o6, rfl, hcj⟩ := hI6c
   have e2 := hcj.1; have ht2 := hcj.2; clear hcj
   obtain ⟨t, p, q, rfl, hrs, htt⟩ := hr2.get hv
   have hends := n.ends _ (kaj hrs)
   refine ⟨.inl (e2 _ _ hr1), ?_⟩
   simp only [y2, ze]
   refine wW (e2 _ _ htt) ?_
   refine ⟨rfl, ?_⟩
   unfold zaN
   simp only [yy, yx, zq, zp, jz, jr, qV, zB, zK, zcM, zv, zg, zf, kag, kaB]
   refine ⟨by first | exact kak rfl | simp [lim], zh fun t1 J3 h3 e3 hv3 => ⟨by first | exact kak rfl | simp [lim], zh fun t2 J4 h4 e4 hv4 => ⟨by first | exact kak rfl | simp [lim], zh fun l J5 h5 e5 hv5 => ?_⟩⟩⟩
   simp only [ze]
   refine zO hv5 ?_
   have e35 := (e3.trans e4).trans e5
   have fresh : ∀ {x o}, J5 x = some o -> J2 x = none -> x ∉ as /\ x ≠ a := by
    intro x o hx hn
    refine ⟨fun hm => ?_, fun hxa => ?_⟩
    ·obtain ⟨j, hj, hje⟩ := kaV hm
     have := ht2.row j x (by rw [<- hje]; simp [hj])
     unfold L qM at this; rw [hn] at this; cases this
    ·rw [hxa, ht2.head] at hn; cases hn
   have f1 := fresh (e5 _ _ (e4 _ _ hv3)) h3
   have f2 := fresh (e5 _ _ hv4) (e3.none h4)
   have fl := fresh hv5 ((e3.trans e4).none h5)
   refine zI (fun j Z J6 => X2 fun o5 o6 => Z = some (.int m) :: some (.ref r) :: some (.ref a) :: some (.int p) :: some (.int q) :: o5 :: o6 :: tl /\ Ext J J6 /\ J6 l = some (.list [.ref t1, .ref t2]) /\ J6 t1 = some (.tup [.int p, .int q]) /\ J6 t2 = some (.tup [.int q, .int p]) /\ Tab J6 a m.toNat as (znP (qL (rs.take i) ++ [(p, q), (q, p)].take j))) ?_ ?_ ?_
   ·exact ⟨_, _, rfl, e2.trans e35, hv5, e5 _ _ (e4 _ _ hv3), e5 _ _ hv4, by simpa using ht2.ext e35⟩
   ·intro j v Z J6 K'' hv' hI6d hK'
    obtain ⟨o5, o6, rfl, hcj⟩ := hI6d
    have e6 := hcj.1; have hl6 := hcj.2.1; have ht1 := hcj.2.2.1; have ht2' := hcj.2.2.2.1; have htab := hcj.2.2.2.2; clear hcj
    refine ⟨.inl hl6, ?_⟩
    have go : ∀ (tt : Addr) (x y : Int), J6 tt = some (.tup [.int x, .int y]) -> [(p, q), (q, p)][j]? = some (x, y) -> 0 <= x -> 0 <= y -> x ≠ y ->
      zfJ (.tup [5, 6]) (.ref tt) (some (.int m) :: some (.ref r) :: some (.ref a) :: some (.int p) :: some (.int q) :: o5 :: o6 :: tl) J6 fun Z' => wp T d Z' J6 K'' noP := by
     intro tt x y htt hxy hx hy hne
     refine wW htt ?_
     refine ⟨rfl, ?_⟩
     refine zl5 (rs := rs) hm e6 htab nd hf hx hy hne fun J7 e7 hsame ht7 => ?_
     refine hK' .next _ _ ⟨_, _, rfl, e7, by rw [hsame l fl.1]; exact hl6, by rw [hsame t1 f1.1]; exact ht1, by rw [hsame t2 f2.1]; exact ht2', ht7.cong fun u w hu hw => ?_⟩
     rw [kaY, hxy]
     simp only [Option.toList_some, <- kaN]
     rw [zlb]
    rcases znM hv' with ⟨rfl, rfl⟩ | ⟨rfl, rfl⟩
    ·exact go t1 p q ht1 rfl hends.1.1 hends.2.1.1 hends.2.2
    ·exact go t2 q p ht2' rfl hends.2.1.1 hends.1.1 (Ne.symm hends.2.2)
   ·rintro Z J6 ⟨o5, o6, rfl, hcj⟩
    have e6 := hcj.1; have hl6 := hcj.2.1; have ht1 := hcj.2.2.1; have ht2' := hcj.2.2.2.1; have htab := hcj.2.2.2.2; clear hcj
    refine ⟨.inl hl6, hK .next _ _ ⟨_, _, _, _, rfl, e6, ?_⟩⟩
    rw [zlM hrs]
    simpa using htab
  ·rintro Z J2 ⟨o3, o4, o5, o6, rfl, hcj⟩
   have e2 := hcj.1; have ht2 := hcj.2; clear hcj
   refine ⟨.inl (e2 _ _ hr1), ?_⟩
   rw [hr2.length, kaL] at ht2
   exact hq a as _ J2 e2 ht2 nd hf ha0
theorem zcp (h : FnW T "table_of" 2 5 (zas T)) {m : Int} {r : Addr} {rs : Rd2} (n : Net m rs) (hr : zQ J r rs)
  (hq : ∀ a as J', Ext J J' -> Tab J' a m.toNat as (yF rs) -> as.Nodup -> (∀ b ∈ as, J b = none) -> J a = none -> Q (.ref a) J') : zA T (d + 1) "table_of" [.int m, .ref r] J Q P :=
 h d _ _ _ _ rfl (zgP n hr (fun _ => rfl) fun a as _ J' => hq a as J')
noncomputable def zoG (n : Nat) (f : Nat -> Nat -> Int) (h t : Nat -> Int) (e : Nat) : Int := h e - zZ (kaa n) fun p => f p e * t p
theorem zfP (h : FnW T "after" 3 3 (zdv T)) {n : Nat} {a hp tm : Addr} {as : List Addr} {f : Nat -> Nat -> Int} {g t : Nat -> Int} (hn : n <= 10) (ht : Tab J a n as f) (hh : L J hp n g) (htm : L J tm n t) (hb : ∀ i j, i < n -> j < n -> (f i j).natAbs <= 1000)
  (hq : ∀ c J', Ext J J' -> J c = none -> L J' c n (zoG n f g t) -> Q (.ref c) J') : zA T (d + 1) "after" [.ref a, .ref hp, .ref tm] J Q P := by
 refine h d _ _ _ _ rfl ?_
 unfold zdv
 simp only [zG, zV, zbM, zv, qf, qi, qe, zg, zf, ze]
 refine qx hh ?_
 refine zh fun c J1 hc e1 hcv => ?_
 simp only [zq, zp, jz, jL, qG, zv, zg, zf, ze]
 refine zS (e1 _ _ hh) ?_
 simp only [zd, qc, qy]
 refine ⟨by first | exact qP ‹_› ‹_› | (unfold small; exact ⟨lin r1 (.neg (.num 4611686018427387904)) V0 [(0,1,N0,V0)] rfl (nnI _), lit r1 V0 (.num 4611686018427387904) [(0,1,V0,.num 10)] rfl (leI hn)⟩), ?_⟩
 refine zI (fun i Z J' => X2 fun o4 o5 => Z = [some (.ref a), some (.ref hp), some (.ref tm), some (.ref c), o4, o5] /\ Ext J J' /\ L J' c n fun e => g e - zZ (kaa i) fun p => f p e * t p) ?_ ?_ ?_
 ·exact ⟨_, _, rfl, e1, (show L J1 c n g from hcv).cong fun i _ => by simp [zZ]⟩
 ·intro i v Z J' K' hv hI6a hK
  obtain ⟨o4, o5, rfl, hcj⟩ := hI6a
  have e := hcj.1; have hcl := hcj.2; clear hcj
  obtain ⟨hi, rfl⟩ := qI hv
  refine ⟨trivial, ?_⟩
  unfold ze4
  simp only [ql, zq, zp, jz, jL, qG, zv, zg, zf, ze]
  refine zS (e _ _ hh) ?_
  simp only [zd, qc, qy, kbi]
  refine ⟨by first | exact qP ‹_› ‹_› | (unfold small; exact ⟨lin r1 (.neg (.num 4611686018427387904)) V0 [(0,1,N0,V0)] rfl (nnI _), lit r1 V0 (.num 4611686018427387904) [(0,1,V0,.num 10)] rfl (leI hn)⟩), ?_⟩
  refine zI (fun j Z J'' => ∃ o5, Z = [some (.ref a), some (.ref hp), some (.ref tm), some (.ref c), some (.int (i : Int)), o5] /\ Ext J J'' /\ L J'' c n fun e => g e - (zZ (kaa i) fun p => f p e * t p) - if e < j then f i e * t i else 0) ?_ ?_ ?_
  ·exact ⟨_, rfl, e, hcl.cong fun u _ => by simp⟩
  ·intro j v Z J'' K'' hv' hI6b hK'
   obtain ⟨o5, rfl, hcj⟩ := hI6b
   have e' := hcj.1; have hcl' := hcj.2; clear hcj
   obtain ⟨hj, rfl⟩ := qI hv'
   refine ⟨trivial, ?_⟩
   unfold ze5
   simp only [qo, zv, jf, zav, zdr, zaM, wf, zlO, zjA, qH, zdx, zcj, zby, zgk, zjH, zK, zB, qV, zcM, qA, qG, zbM, zif, zfq, zib, zcX, zbK, zc8, zey, zhQ, wV, zjM, zgM, zdH, zfO, zlT, zL, qX, jr, jL, zcq, qC, zG, j3, zV, zcH, yS, je, zih, zay, jz, zbC, ql, y2, qv, q8, zg, zf, zp, zq, yy, yx, zd, ze, zm, qf, qi, qe, kag, kaB, Cmp.run, zdD, zds, zeC, zid]
   simp only [kbi]
   refine hcl'.at (by exact nnI _) (by exact kaE.mpr ‹_›) ?_
   refine (ht.ext e').at (by exact nnI _) (by exact kaE.mpr ‹_›) fun b hb' hbl => ?_
   refine hbl.at (by exact nnI _) (by exact kaE.mpr ‹_›) ?_
   refine (htm.ext e').at (by exact nnI _) (by exact kaE.mpr ‹_›) ?_
   simp only [zd, kai]
   have hbb := hb i j ‹_› ‹_›
   refine ⟨zfm (by lia) (by lia), ?_⟩
   refine hcl'.set (by exact nnI _) (by exact kaE.mpr ‹_›) fun J3 hJ3 => ?_
   refine hK' .next _ _ ⟨_, rfl, by rw [hJ3]; exact e'.put hc _, ?_⟩
   have : L J3 c n (upd (fun e => g e - (zZ (kaa i) fun p => f p e * t p) - if e < j then f i e * t i else 0) j (g j - (zZ (kaa i) fun p => f p j * t p) - (if j < j then f i j * t i else 0) - f i j * t i)) := by
    rw [hJ3]; exact zz _ _ _
   refine this.cong fun u hu => ?_
   unfold upd
   by_cases huj : u = j
   ·subst huj; simp
   ·by_cases hlt : u < j
    ·have : u < j + 1 := by exact ltN (lit r2 V0 (.add V1 N1) [(1,1,V0,V1)] rfl (ltI hlt))
     simp [huj, hlt, this]
    ·have : ¬ u < j + 1 := by exact (fun h_ => lif r2 [(0,1,V0,V1),(1,1,V1,V0)] rfl (nuI hlt) (jW (lin r2 V0 V1 [(1,1,V0,.add V1 N1)] rfl (ltI h_)) huj))
     simp [huj, hlt, this]
  ·rintro Z J'' ⟨o5, rfl, hcj⟩
   have e' := hcj.1; have hcl' := hcj.2; clear hcj
   rw [z9] at hcl'
   refine ⟨trivial, hK .next _ _ ⟨_, _, rfl, e', hcl'.cong fun u hu => ?_⟩⟩
   rw [kaT, zb3]
   have : u < (n : Int).toNat := by assumption
   simp [zZ, this]; lia
 ·rintro Z J' ⟨o4, o5, rfl, hcj⟩
  have e := hcj.1; have hcl := hcj.2; clear hcj
  refine ⟨trivial, ?_⟩
  rw [z9] at hcl
  exact hq c J' e hc (hcl.cong fun u _ => by unfold zoG; rw [kai])
end
end Mine
end
section
open PySem
namespace Mine
theorem zhZ {x : Int} {k : Nat} (h : x.natAbs < 2 ^ k) : Builtin.Int.intBits x <= k := by
 unfold Builtin.Int.intBits
 split
 ·exact kak rfl
 ·rename_i hx
  have hx' : x.natAbs ≠ 0 := by simpa using hx
  have := (Nat.log2_lt hx').mpr h
  assumption
theorem zaf {a b : Int} (ha : a.natAbs < 2 ^ 700) (hb : b.natAbs < 2 ^ 700) : IntMulOk a b :=
 .of_bits (kap (zhZ ha) (by decide)) (kap (zhZ hb) (by decide))
theorem zdq {x y : Int} (h : y.natAbs < 2 ^ 700) : Builtin.divisionGoesByPylong x y = false := by
 refine PyProof.noPylong_of_log2 ?_
 by_cases hy : y.natAbs = 0
 ·rw [hy]; decide
 ·have := (Nat.log2_lt hy).mpr h
  exact ltN (lit r1 V0 (.num 9000) [(1,1,V0,.num 700)] rfl (ltI this))
theorem zmU {n k : Nat} {R : List Row} {B : Nat} (hn : n <= 10) (hk : k < n) (hB : (10 * B) ^ 10 < 2 ^ 700) (hB1 : 1 <= B) {x : Row} {j : Nat} (hj : j < n) (hR : ∀ r ∈ R, ∀ c, c < n -> (r c).natAbs <= B) (hx : ∀ c, c < n -> (x c).natAbs <= B) : (Vk k R x j).natAbs < 2 ^ 700 := by
 unfold Vk
 have h1 := zap (B := B) (N := 10) (kaa k ++ [j]) (R.take k ++ [x]) (fun r hr c hc => ?_) (by simp; lia)
 ·refine kaI (kap h1 (kbh (by exact ltN (lit r1 N0 (.mulL 10 V0) [(0,10,N1,V0)] rfl (leI hB1))) ?_)) hB
  simp; exact leN (lin r2 V0 (.num 9) [(0,1,V1,.num 10),(1,1,V0,V1)] rfl (leI hn) (ltI hk))
 ·have hc' : c < n := by
   rcases kau.mp hc with h | h
   ·have := kan.mp h; exact ltN (lit r3 V0 V1 [(1,1,V2,V1),(1,1,V0,V2)] rfl (ltI hk) (ltI this))
   ·simp at h; exact ltN (lit r3 V0 V1 [(1,1,V2,V1),(2,1,V0,V2)] rfl (ltI hj) (eqI h))
  rcases kau.mp hr with h | h
  ·exact hR r (kbw h) c hc'
  ·simp at h; subst h; exact hx c hc'
theorem zmd {n k : Nat} {R : List Row} {B : Nat} (hn : n <= 10) (hk : k <= n) (hB : (10 * B) ^ 10 < 2 ^ 700) (hB1 : 1 <= B) (hR : ∀ r ∈ R, ∀ c, c < n -> (r c).natAbs <= B) : (pk k R).natAbs < 2 ^ 700 := by
 unfold pk
 have h1 := zap (B := B) (N := 10) (kaa k) (R.take k) (fun r hr c hc => hR r (kbw hr) c (by have := kan.mp hc; exact kaU ‹_› ‹_›)) (by simp; lia)
 refine kaI (kap h1 (kbh (by exact ltN (lit r1 N0 (.mulL 10 V0) [(0,10,N1,V0)] rfl (leI hB1))) ?_)) hB
 simp; exact kap ‹_› ‹_›
theorem zmy (cs2 : List Nat) (vs : List Row) : ∀ (cs1 : List Nat) (xs : List Row), xs.length < cs1.length -> (∀ v ∈ vs, ∀ c ∈ cs1, v c = 0) -> det (cs1 ++ cs2) (xs ++ vs) = 0 := by
 intro cs1_
 induction cs1_ with
 | nil =>
  intro xs hl _
  simp at hl
 | cons c cs1 ih_ =>
  intro xs hl h
  rw [kaG, qr]
  have := zjm (l := ev c) (fun v hv => h v hv c (by simp)) 0 xs (det (cs1 ++ cs2)) (fun _ => 0) fun t ht => by
   rw [ih_ t (by simp at hl; exact ltN (lit r3 V0 V1 [(1,1,V2,.add V1 N1),(2,1,.add V0 N1,V2)] rfl (ltI hl) (eqI ht))) fun v hv c' hc' => h v hv c' (by simp [hc'])]; decide
  rw [this]; exact liq r1 (.mulR V0 0) N0 [] rfl
theorem zpQ {k : Nat} {R : List Row} (hk : k <= R.length) (cs : List Nat) : ∀ (rest pre : List Row), det cs (R.take k ++ pre ++ rest.map (Vk k R)) = pk k R ^ rest.length * det cs (R.take k ++ pre ++ rest) := by
 intro rest_
 induction rest_ with
 | nil =>
  intro pre
  simp
 | cons x rest ih_ =>
  intro pre
  have h1 := zgG hk (L := fun v => det cs ((R.take k ++ pre) ++ v :: rest.map (Vk k R))) (fun a u b v => zaq _ _ a u b v _) (fun r hr => zfj (zaq _) (zeF _) (by simp [hr])) x
  have h2 := ih_ (pre ++ [x])
  simp only [kaO, kag]
  rw [h1]
  simp only [kaN, kbP] at h2 ⊢
  rw [h2, kbI]
  grind
theorem ziC {R : List Row} {k : Nat} (hk : k < R.length) (hp : pk k R ≠ 0) (h0 : ∀ r ∈ R.drop k, Vk k R r k = 0) : det (kaa R.length) R = 0 := by
 obtain ⟨q, hq, _⟩ := zeb (show k + 1 <= R.length by assumption)
 have h1 := zpQ (show k <= R.length by exact kaX ‹_›) (kaa R.length) (R.drop k) []
 simp only [kaR, kbA] at h1
 have h2 : det (kaa R.length) (R.take k ++ (R.drop k).map (Vk k R)) = 0 := by
  rw [hq]
  refine zmy q _ (kaa (k + 1)) (R.take k) (by simp; lia) fun v hv c hc => ?_
  obtain ⟨r, hr, rfl⟩ := kat.mp hv
  have := kan.mp hc
  by_cases hck : c = k
  ·subst hck; exact h0 r hr
  ·exact zgF R r (by exact ltN ((jW (lin r2 V0 V1 [(1,1,V0,.add V1 N1)] rfl (ltI this)) hck)))
 rw [h2] at h1
 have h3 : pk k R ^ (R.drop k).length ≠ 0 := Int.pow_ne_zero hp
 rcases Int.mul_eq_zero.mp h1.symm with h | h
 ·exact absurd h h3
 ·exact h
noncomputable def swp (R : List Row) (i j : Nat) : List Row := (R.set i (R.getD j fun _ => 0)).set j (R.getD i fun _ => 0)
theorem znR (R i j) : (swp R i j).length = R.length := by simp [swp]
theorem zj7 : ∀ {R : List Row} {i : Nat} {u : Row}, R[i]? = some u -> ∃ p z, R = p ++ u :: z /\ p.length = i
 | [], _, _, h => nomatch h
 | a :: R, 0, u, h => ⟨[], R, by cases h; rfl, rfl⟩
 | a :: R, i + 1, u, h => by
  obtain ⟨p, z, e, l⟩ := zj7 (R := R) (i := i) h
  exact ⟨a :: p, z, by rw [e]; rfl, by rw [kag, l]⟩
theorem zkA (z : List Row) (u w : Row) : ∀ p : List Row, (p ++ u :: z).set p.length w = p ++ w :: z := by
 intro p_
 induction p_ with
 | nil =>
  exact rfl
 | cons a p ih_ =>
  rw [kaG, kag, List.set_cons_succ, ih_]; rfl
theorem znS {R : List Row} {i j : Nat} (hij : i < j) (hj : j < R.length) (cs : List Nat) : det cs (swp R i j) = - det cs R /\ (swp R i j).take i = R.take i /\ (∀ r, r ∈ swp R i j ↔ r ∈ R) := by
 obtain ⟨u, hu⟩ : ∃ u, R[i]? = some u := ⟨_, kac (kcX hij hj)⟩
 obtain ⟨v, hv⟩ : ∃ v, R[j]? = some v := ⟨_, kac hj⟩
 obtain ⟨p', z, e, l⟩ := zj7 hv
 have hu' : p'[i]? = some u := by rw [e, ka6 (by exact ltN (lit r3 V0 V1 [(1,1,V0,V2),(2,-1,V1,V2)] rfl (ltI hij) (eqI l)))] at hu; exact hu
 obtain ⟨p, q, e2, l2⟩ := zj7 hu'
 subst e2
 subst l l2
 have g1 : R.getD (p ++ u :: q).length (fun _ => 0) = v := by rw [kas, hv]; rfl
 have g2 : R.getD p.length (fun _ => 0) = u := by rw [kas, hu]; rfl
 have e1 : swp R p.length (p ++ u :: q).length = p ++ v :: (q ++ u :: z) := by
  unfold swp
  rw [g1, g2, e, kaN, kaG, zkA, <- kaG, <- kaN]
  have hl : (p ++ u :: q).length = (p ++ v :: q).length := by rw [kam, kam]; rfl
  rw [hl, zkA, kaN]; rfl
 have e0 : R = p ++ u :: (q ++ v :: z) := by rw [e, kaN]; rfl
 refine ⟨?_, ?_, fun r => ?_⟩
 ·rw [e1, zpq (zaq cs) (zeF cs) p v q u z, <- e0]
 ·rw [e1, e0, kdW, kdW]
 ·rw [e1, e0]
  simp only [kau, kah]
  constructor
  ·rintro (h | h | h | h | h)
   ·exact .inl h
   ·exact .inr (.inr (.inr (.inl h)))
   ·exact .inr (.inr (.inl h))
   ·exact .inr (.inl h)
   ·exact .inr (.inr (.inr (.inr h)))
  ·rintro (h | h | h | h | h)
   ·exact .inl h
   ·exact .inr (.inr (.inr (.inl h)))
   ·exact .inr (.inr (.inl h))
   ·exact .inr (.inl h)
   ·exact .inr (.inr (.inr (.inr h)))
theorem getD_some {as : List Addr} {i : Nat} (h : i < as.length) : as[i]? = some (as.getD i 0) := by
 rw [kas, kac h]; rfl
noncomputable def sw (i j u : Nat) : Nat := if u = i then j else if u = j then i else u
theorem zoT {i j : Nat} (u : Nat) : sw i j (sw i j u) = u := by
 unfold sw
 by_cases h1 : u = i
 ·subst h1; by_cases h2 : j = u <;> simp [h2]
 ·by_cases h2 : u = j
  ·subst h2; simp [h1]
  ·simp [h1, h2]
theorem zl7 {as : List Addr} {i j : Nat} {ai aj : Addr} (hi : i < as.length) (hj : j < as.length) (hij : i ≠ j) (ei : as[i]? = some ai) (ej : as[j]? = some aj) (u : Nat) : ((as.set i aj).set j ai)[u]? = as[sw i j u]? := by
 unfold sw
 rw [kcS, kcS]
 by_cases hui : u = i
 ·subst hui
  rw [if_neg (Ne.symm hij), if_pos rfl, if_pos hi, if_pos rfl, ej]
 ·by_cases huj : u = j
  ·subst huj
   rw [if_pos rfl, if_pos (by rw [kcc]; exact hj), if_neg (Ne.symm hij), if_pos rfl, ei]
  ·rw [if_neg (Ne.symm huj), if_neg (Ne.symm hui), if_neg hui, if_neg huj]
theorem zjq {as bs : List Addr} {i j : Nat} (h : ∀ u, bs[u]? = as[sw i j u]?) (hl : bs.length = as.length) (nd : as.Nodup) : bs.Nodup := by
 rw [kaW, kcu]
 intro u v hu hv huv he
 have h1 := h u
 have h2 := h v
 rw [kac hu] at h1
 rw [kac hv] at h2
 rw [he, h2] at h1
 obtain ⟨l1, _⟩ := kae.mp ((h u).symm.trans (kac hu))
 obtain ⟨l2, _⟩ := kae.mp ((h v).symm.trans (kac hv))
 rw [kac l1, kac l2] at h1
 have e := (kck nd).mp (Option.some.inj h1)
 have := congrArg (sw i j) e
 rw [zoT, zoT] at this
 exact lif r2 [(1,1,V0,V1),(2,1,V1,V0)] rfl (ltI huv) (eqI this)
section
variable {T : TC} {d : Nat} {J : zb} {Q : V -> zb -> Prop} {P : Nat -> zb -> Prop}
theorem zdE (h : FnW T "first_other" 2 1 (yu T)) {n k : Nat} {a : Addr} {as : List Addr} {f : Nat -> Nat -> Int} (hn : n <= 10) (hk : k < n) (ht : Tab J a n as f)
  (h0 : (∀ i, k <= i -> i < n -> f i k = 0) -> Q .none J) (h1 : ∀ i : Nat, k <= i -> i < n -> f i k ≠ 0 -> Q (.int i) J) : zA T (d + 1) "first_other" [.ref a, .int k] J Q P := by
 refine h d _ _ _ _ rfl ?_
 unfold yu
 simp only [zG, jz, zcq, qG, zv, qf, qi, qe, zg, zf, ze]
 refine zS ht.head ?_
 simp only [zd, kaC, ht.len]
 refine ⟨by first | exact qP ‹_› ‹_› | (unfold small; exact ⟨lin r1 (.neg (.num 4611686018427387904)) V0 [(0,1,N0,V0)] rfl (nnI _), lit r2 V0 (.num 4611686018427387904) [(0,1,V1,.num 10),(1,1,V0,V1)] rfl (leI hn) (ltI hk)⟩), by first | exact qP ‹_› ‹_› | (unfold small; exact ⟨lin r1 (.neg (.num 4611686018427387904)) V0 [(0,1,N0,V0)] rfl (nnI _), lit r1 V0 (.num 4611686018427387904) [(0,1,V0,.num 10)] rfl (leI hn)⟩), ?_⟩
 refine zI (fun i Z J' => ∃ o2, A3 (Z = [some (.ref a), some (.int k), o2]) (J' = J) (∀ j, k <= j -> j < k + i -> f j k = 0)) ⟨_, rfl, rfl, fun j h1 h2 => by exact (kba _ (kaU ‹_› ‹_›)).elim⟩ ?_ ?_
 ·intro i v Z J' K' hv hI6a hK
  obtain ⟨o2, rfl, rfl, hz⟩ := hI6a
  obtain ⟨hi, rfl⟩ := qI hv
  refine ⟨trivial, ?_⟩
  unfold zaV
  simp only [qo, zv, jf, zav, zdr, zaM, wf, zlO, zjA, qH, zdx, zcj, zby, zgk, zjH, zK, zB, qV, zcM, qA, qG, zbM, zif, zfq, zib, zcX, zbK, zc8, zey, zhQ, wV, zjM, zgM, zdH, zfO, zlT, zL, qX, jr, jL, zcq, qC, zG, j3, zV, zcH, yS, je, zih, zay, jz, zbC, ql, y2, qv, q8, zg, zf, zp, zq, yy, yx, zd, ze, zm, qf, qi, qe, kag, kaB, Cmp.run, zdD, zds, zeC, zid]
  refine ht.at (by exact nnI _) (by exact lit r3 (.add V0 V1) V2 [(1,1,V1,.sub V2 V0)] rfl (kbj.mp hi)) fun b hb hbl => ?_
  refine hbl.at (by exact nnI _) (by exact kaE.mpr ‹_›) ?_
  have e : ((k : Int) + (i : Int)).toNat = k + i := by rfl
  rw [e]
  by_cases hne : f (k + i) k = 0
  ·refine qW (znd hne) ?_
   refine hK .next _ _ ⟨_, rfl, rfl, fun j h1 h2 => ?_⟩
   by_cases hj : j = k + i
   ·subst hj; exact hne
   ·exact hz j h1 (by exact ltN ((jW (lin (@r3 (↑(j)) (↑(k)) (↑(i))) V0 (.add V1 V2) [(1,1,V0,.add V1 (.add V2 N1))] rfl (ltI h2)) hj)))
  ·have hb : (f (k + i) k != 0) = true := by simpa using hne
   refine qD hb ?_
   refine hK (.ret _) _ _ ?_
   have := h1 (k + i) (by exact leN (lin r2 V0 (.add V0 V1) [(0,1,N0,V1)] rfl (nnI _))) (by exact ltN (lit r3 (.add V0 V1) V2 [(1,1,V1,.sub V2 V0)] rfl (kbj.mp hi))) hne
   simpa using this
 ·rintro Z J' ⟨o2, rfl, rfl, hz⟩
  refine ⟨trivial, ?_⟩
  rw [z9] at hz
  exact h0 fun i h1 h2 => hz i h1 (by exact ltN (lit r4 V0 (.add V1 V2) [(1,1,V0,V3),(2,-1,V2,.sub V3 V1)] rfl (ltI h2) (tnn (lin r2 N0 (.sub V0 V1) [(1,1,V1,V0)] rfl (ltI hk)))))
theorem zhg (h : FnW T "swapped" 3 1 (za2 T)) {n i j : Nat} {a : Addr} {as : List Addr} {f : Nat -> Nat -> Int} (hi : i < n) (hj : j < n) (hij : i ≠ j) (ht : Tab J a n as f) (nd : as.Nodup)
  (hq : ∀ c as' J', Ext J J' -> Tab J' c n as' (fun u => f (if u = i then j else if u = j then i else u)) -> as'.Nodup -> (∀ b, b ∈ as' -> b ∈ as) -> J c = none -> Q (.ref c) J') : zA T (d + 1) "swapped" [.ref a, .int i, .int j] J Q P := by
 refine h d _ _ _ _ rfl ?_
 unfold za2
 simp only [zG, zV, zbM, zv, qf, qi, qe, zg, zf, ze]
 refine qx ht.head ?_
 refine zh fun c J1 hc e1 hcv => ?_
 have ht1 := ht.ext e1
 have hl := ht.len
 have ei : as[i]? = some (as.getD i 0) := getD_some (hl ▸ hi)
 have ej : as[j]? = some (as.getD j 0) := getD_some (hl ▸ hj)
 generalize as.getD i 0 = ai at ei
 generalize as.getD j 0 = aj at ej
 have hI : (i : Int) < (n : Int) := kaE.mpr hi
 have hJ : (j : Int) < (n : Int) := kaE.mpr hj
 have hLi : (i : Int) < ((as.map V.ref).length : Int) := by rw [kaC, hl]; exact hI
 simp only [zq, zp, zay, qA, zv, zg, zf, ze, zd]
 refine ht1.at (kbZ j) hJ fun b hb hbl => ?_
 rw [kai, ej] at hb; cases hb
 refine Eq.mpr (zaB hcv) ?_
 refine ⟨kbZ i, hLi, ?_⟩
 have hac : a ≠ c := jt ht.head hc
 have hne : ∀ b ∈ as, b ≠ c := fun b hb => by
  obtain ⟨k, hk⟩ := kb2 hb
  exact jt (ht.row k b hk) hc
 have ht2 : ∀ o, Tab (put J1 c o) a n as f := fun o => ⟨by rw [zY _ hac]; exact ht1.head, hl, fun u b hb => by
  show qM _ _ _
  unfold qM
  rw [zY _ (hne b (kaj hb))]; exact ht1.row u b hb⟩
 refine (ht2 _).at (kbZ i) hI fun b hb hbl => ?_
 rw [kai, ei] at hb; cases hb
 refine Eq.mpr (zaB (zz _ _ _)) ?_
 refine ⟨kbZ j, by rw [kcc, kaC, hl]; exact hJ, ?_⟩
 simp only [j3, zv, zg, zf, kai]
 rw [<- kdj, <- kdj]
 have hget := zl7 (as := as) (hl ▸ hi) (hl ▸ hj) hij ei ej
 refine hq c _ _ (((Ext.refl.trans e1).put hc _).put hc _) ⟨zz _ _ _, by rw [kcc, kcc, hl], fun u b hb => ?_⟩ (zjq hget (by rw [kcc, kcc]) nd) (fun b hb => ?_) hc
 ·rw [hget u] at hb
  show qM _ _ _
  unfold qM
  have hbm := kaj hb
  rw [zY _ (hne b hbm), zY _ (hne b hbm)]
  exact ht1.row _ b hb
 ·obtain ⟨u, hu⟩ := kb2 hb
  rw [hget u] at hu
  exact kaj hu
end
end Mine
end
section
open PySem
namespace Mine
noncomputable def el (A : Nat -> Nat -> Int) (k : Nat) (p : Int) (u v : Nat) : Int := (A u v * A k k - A u k * A k v).fdiv p
section
variable {T : TC} {d : Nat} {JA J : zb} {K : Out -> zM -> zb -> Prop} {P : Nat -> zb -> Prop}
theorem zpI {a : Addr} {as : List Addr} {A : Nat -> Nat -> Int} {n k l : Nat} {s p : Int} {o4 o6 o7 o8 : Option V} (e0 : Ext JA J) (ht : Tab J a n as A) (nd : as.Nodup) (hf : ∀ b ∈ as, JA b = none) (hkl : k < l) (hl : l < n) (hn : n <= 10) (hp : p ≠ 0) (hpb : p.natAbs < 2 ^ 700)
  (hA : ∀ u v, u = k \/ u = l -> v < n -> k <= v -> (A u v).natAbs < 2 ^ 700)
  (hk : ∀ J' o7 o8, Ext JA J' -> Tab J' a n as (fun u v => if u = l /\ k < v then el A k p u v else A u v) -> K .next [some (.ref a), some (.int s), some (.int p), some (.int k), o4, some (.int l), o6, o7, o8] J') :
  jw T d [some (.ref a), some (.int s), some (.int p), some (.int k), o4, some (.int l), o6, o7, o8] J K P := by
 unfold jw
 simp only [jz, zcq, jf, qG, zv, qo, zg, zf, zd, ze]
 refine zS ht.head ?_
 simp only [zd, kaC, ht.len]
 refine ⟨by first | exact qP ‹_› ‹_› | (unfold small; exact ⟨lin r1 (.neg (.num 4611686018427387904)) (.add V0 N1) [(0,1,N0,V0)] rfl (nnI _), lit r3 (.add V0 N1) (.num 4611686018427387904) [(1,1,V0,V1),(1,1,V1,V2),(0,1,V2,.num 10)] rfl (ltI hkl) (ltI hl) (leI hn)⟩), by first | exact qP ‹_› ‹_› | (unfold small; exact ⟨lin r1 (.neg (.num 4611686018427387904)) V0 [(0,1,N0,V0)] rfl (nnI _), lit r1 V0 (.num 4611686018427387904) [(0,1,V0,.num 10)] rfl (leI hn)⟩), ?_⟩
 refine zI (fun j Z J' => X2 fun o7 o8 => Z = [some (.ref a), some (.int s), some (.int p), some (.int k), o4, some (.int l), o6, o7, o8] /\ Ext JA J' /\ Tab J' a n as fun u v => if u = l /\ k < v /\ v < k + 1 + j then el A k p u v else A u v) ?_ ?_ ?_
 ·refine ⟨_, _, rfl, e0, ht.cong fun u v _ _ => ?_⟩
  have : ¬ (u = l /\ k < v /\ v < k + 1 + 0) := fun h => absurd h.2.1 (kbW.mpr (kbz h.2.2))
  rw [if_neg this]
 ·intro j v Z J' K' hv hI6a hK
  obtain ⟨o7, o8, rfl, hcj⟩ := hI6a
  have e := hcj.1; have ht' := hcj.2; clear hcj
  obtain ⟨hj, rfl⟩ := qI hv
  have ec : ((k : Int) + 1 + (j : Int)) = ((k + 1 + j : Nat) : Int) := by rfl
  refine ⟨trivial, ?_⟩
  rw [ec]
  have hc : k + 1 + j < n := by exact ltN (lit r3 (.add (.add V0 N1) V1) V2 [(1,1,V1,.sub V2 (.add V0 N1))] rfl (kbj.mp hj))
  generalize hcc : k + 1 + j = c at hc ht'
  unfold zaW
  simp only [ql, zG, zV, zav, zdr, qA, zv, zg, zf, zp, zq, zd, ze]
  have rd : ∀ (u v : Nat) (k' : V -> Prop), ¬ (u = l /\ k < v /\ v < c) -> u < n -> v < n -> k' (.int (A u v)) -> (0 <= (u : Int) /\ yE J' a fun xs => yR xs (u : Int).toNat fun w => w.asRef fun q => 0 <= (v : Int) /\ yE J' q fun ys => yR ys (v : Int).toNat k') := by
   intro u v k' hno hu hv' hk'
   refine ht'.at (by exact nnI _) (by exact kaE.mpr ‹_›) fun b hb hbl => ?_
   refine hbl.at (by exact nnI _) (by exact kaE.mpr ‹_›) ?_
   rw [kai, kai, if_neg hno]
   exact hk'
  have n1 : ¬ (l = l /\ k < c /\ c < c) := fun h => kba _ h.2.2
  have n2 : ¬ (k = l /\ k < k /\ k < c) := fun h => kba _ h.2.1
  have n3 : ¬ (l = l /\ k < k /\ k < c) := fun h => kba _ h.2.1
  have n4 : ¬ (k = l /\ k < c /\ c < c) := fun h => kba _ h.2.2
  refine rd l c _ n1 hl hc ?_
  refine rd k k _ n2 (by exact ltN (lit r3 V0 V1 [(1,1,V0,V2),(1,1,V2,V1)] rfl (ltI hkl) (ltI hl))) (by exact ltN (lit r3 V0 V1 [(1,1,V0,V2),(1,1,V2,V1)] rfl (ltI hkl) (ltI hl))) ?_
  refine ⟨zaf (hA l c (.inr rfl) hc (by exact leN (lin (@r3 (↑(k)) (↑(c)) (↑(j))) V0 V1 [(2,1,.add (.add V0 N1) V2,V1),(0,1,N0,V2)] rfl (eqI hcc) (nnI _)))) (hA k k (.inl rfl) (by exact ltN (lit r3 V0 V1 [(1,1,V0,V2),(1,1,V2,V1)] rfl (ltI hkl) (ltI hl))) (by exact leN (lin r1 V0 V0 [] rfl))), ?_⟩
  refine rd l k _ n3 hl (by exact ltN (lit r3 V0 V1 [(1,1,V0,V2),(1,1,V2,V1)] rfl (ltI hkl) (ltI hl))) ?_
  refine rd k c _ n4 (by exact ltN (lit r3 V0 V1 [(1,1,V0,V2),(1,1,V2,V1)] rfl (ltI hkl) (ltI hl))) hc ?_
  refine ⟨zaf (hA l k (.inr rfl) (by exact ltN (lit r3 V0 V1 [(1,1,V0,V2),(1,1,V2,V1)] rfl (ltI hkl) (ltI hl))) (by exact leN (lin r1 V0 V0 [] rfl))) (hA k c (.inl rfl) hc (by exact leN (lin (@r3 (↑(k)) (↑(c)) (↑(j))) V0 V1 [(2,1,.add (.add V0 N1) V2,V1),(0,1,N0,V2)] rfl (eqI hcc) (nnI _)))), ?_⟩
  simp only [zay, zaM, qA, zv, zg, zf, zd, ze]
  refine ⟨⟨hp, zdq hpb⟩, ?_⟩
  refine ht'.at (by exact nnI _) (by exact kaE.mpr ‹_›) fun b hb hbl => ?_
  rw [kai] at hb hbl
  have hbm := kaj hb
  refine hbl.set (by exact nnI _) (by exact kaE.mpr ‹_›) fun J3 hJ3 => ?_
  rw [kai] at hJ3
  have ht3 := ht'.put nd hb (j := c) hc (el A k p l c)
  refine hK .next _ _ ⟨_, _, rfl, by rw [hJ3]; exact e.put (hf b hbm) _, ?_⟩
  have hJ3' : J3 = put J' b (.list (zs (lst n (upd (fun v => if l = l /\ k < v /\ v < c then el A k p l v else A l v) c (el A k p l c))))) := hJ3
  rw [<- hJ3'] at ht3
  refine ht3.cong fun u v hu hv' => ?_
  rw [zau]
  by_cases hul : u = l
  ·subst hul
   by_cases hvc : v = c
   ·subst hvc
    have : (u = u /\ k < v /\ v < k + 1 + (j + 1)) := by exact ⟨eqN (liq (@r1 (↑(u))) V0 V0 [] rfl), ⟨ltN (lit (@r3 (↑(k)) (↑(v)) (↑(j))) V0 V1 [(2,1,.add (.add V0 N1) V2,V1),(0,1,N0,V2)] rfl (eqI hcc) (nnI _)), ltN (lit (@r3 (↑(v)) (↑(k)) (↑(j))) V0 (.add (.add V1 N1) (.add V2 N1)) [(2,-1,.add (.add V1 N1) V2,V0)] rfl (eqI hcc))⟩⟩
    rw [if_pos rfl, if_pos rfl, if_pos this]
   ·rw [if_pos rfl, if_neg hvc]
    have : (k < v /\ v < c) ↔ (k < v /\ v < k + 1 + (j + 1)) := by lia
    simp only [true_and, this]
  ·have : ¬ (u = l /\ k < v /\ v < k + 1 + (j + 1)) := fun h => hul h.1
   have h' : ¬ (u = l /\ k < v /\ v < c) := fun h => hul h.1
   rw [if_neg hul, if_neg this, if_neg h']
 ·rintro Z J' ⟨o7, o8, rfl, hcj⟩
  have e := hcj.1; have ht' := hcj.2; clear hcj
  refine ⟨trivial, hk J' o7 o8 e (ht'.cong fun u v hu hv => ?_)⟩
  rw [z9]
  have : (u = l /\ k < v /\ v < k + 1 + ((n : Int) - ((k : Int) + 1)).toNat) ↔ (u = l /\ k < v) := ⟨fun h => ⟨h.1, h.2.1⟩, fun h => ⟨h.1, h.2, by exact ltN (lit r4 V0 (.add (.add V1 N1) V2) [(1,1,V0,V3),(2,-1,V2,.sub V3 (.add V1 N1))] rfl (ltI hv) (tnn (lin r3 N0 (.sub V0 (.add V1 N1)) [(1,1,V2,V0),(1,1,V1,V2)] rfl (ltI hv) (ltI h.2))))⟩⟩
  simp only [this]
theorem zmz {a : Addr} {as : List Addr} {A : Nat -> Nat -> Int} {n k : Nat} {s p : Int} {o4 o5 o6 o7 o8 : Option V} (e0 : Ext JA J) (ht : Tab J a n as A) (nd : as.Nodup) (hf : ∀ b ∈ as, JA b = none) (hkn : k < n) (hn : n <= 10) (hp : p ≠ 0) (hpb : p.natAbs < 2 ^ 700)
  (hA : ∀ u v, u < n -> v < n -> k <= u -> k <= v -> (A u v).natAbs < 2 ^ 700)
  (hk : ∀ J' o5 o7 o8, Ext JA J' -> Tab J' a n as (fun u v => if k < u /\ k < v then el A k p u v else A u v) -> K .next [some (.ref a), some (.int s), some (.int p), some (.int k), o4, o5, o6, o7, o8] J') :
  (yp (.nm 5) (ze9 (ym (loc 3) (val (.int 1))) (j5 (loc 0))) (jw T d)) [some (.ref a), some (.int s), some (.int p), some (.int k), o4, o5, o6, o7, o8] J K P := by
 simp only [jz, zcq, jf, qG, zv, qo, zg, zf, zd, ze]
 refine zS ht.head ?_
 simp only [zd, kaC, ht.len]
 refine ⟨by first | exact qP ‹_› ‹_› | (unfold small; exact ⟨lin r1 (.neg (.num 4611686018427387904)) (.add V0 N1) [(0,1,N0,V0)] rfl (nnI _), lit r2 (.add V0 N1) (.num 4611686018427387904) [(1,1,V0,V1),(0,1,V1,.num 10)] rfl (ltI hkn) (leI hn)⟩), by first | exact qP ‹_› ‹_› | (unfold small; exact ⟨lin r1 (.neg (.num 4611686018427387904)) V0 [(0,1,N0,V0)] rfl (nnI _), lit r1 V0 (.num 4611686018427387904) [(0,1,V0,.num 10)] rfl (leI hn)⟩), ?_⟩
 refine zI (fun i Z J' => X3 fun o5 o7 o8 => Z = [some (.ref a), some (.int s), some (.int p), some (.int k), o4, o5, o6, o7, o8] /\ Ext JA J' /\ Tab J' a n as fun u v => if k < u /\ u < k + 1 + i /\ k < v then el A k p u v else A u v) ?_ ?_ ?_
 ·refine ⟨_, _, _, rfl, e0, ht.cong fun u v _ _ => ?_⟩
  have : ¬ (k < u /\ u < k + 1 + 0 /\ k < v) := fun h => absurd h.1 (kbW.mpr (kbz h.2.1))
  rw [if_neg this]
 ·intro i v Z J' K' hv hI6a hK
  obtain ⟨o5, o7, o8, rfl, hcj⟩ := hI6a
  have e := hcj.1; have ht' := hcj.2; clear hcj
  obtain ⟨hi, rfl⟩ := qI hv
  have ec : ((k : Int) + 1 + (i : Int)) = ((k + 1 + i : Nat) : Int) := by rfl
  refine ⟨trivial, ?_⟩
  rw [ec]
  have low : ∀ u v, u = k \/ u = k + 1 + i -> ¬ (k < u /\ u < k + 1 + i /\ k < v) := fun u v h x => h.elim (fun e => kba _ (e ▸ x.1)) fun e => kba _ (e ▸ x.2.1)
  refine zpI e ht' nd hf (by exact ltN (lit r2 V0 (.add (.add V0 N1) V1) [(0,1,N0,V1)] rfl (nnI _))) (by exact ltN (lit r3 (.add (.add V0 N1) V1) V2 [(1,1,V1,.sub V2 (.add V0 N1))] rfl (kbj.mp hi))) hn hp hpb (fun u v hu hv hkv => ?_) fun J2 o7 o8 e2 ht2 => ?_
  ·simp only [low u v hu, if_false]
   exact hA u v (by lia) hv (by lia) hkv
  ·refine hK .next _ _ ⟨_, _, _, rfl, e2, ht2.cong fun u v hu hv => ?_⟩
   have hel : el (fun u v => if k < u /\ u < k + 1 + i /\ k < v then el A k p u v else A u v) k p (k + 1 + i) v = el A k p (k + 1 + i) v := by
    unfold el
    simp only [low (k + 1 + i) v (.inr rfl), low (k + 1 + i) k (.inr rfl), low k k (.inl rfl), low k v (.inl rfl), if_false]
   by_cases hu' : u = k + 1 + i
   ·subst hu'
    by_cases hv' : k < v
    ·have h1 : (k + 1 + i = k + 1 + i /\ k < v) := ⟨rfl, hv'⟩
     have h2 : (k < k + 1 + i /\ k + 1 + i < k + 1 + (i + 1) /\ k < v) := ⟨kaU (kbm k) (kc3 _ _), kbm _, hv'⟩
     rw [if_pos h1, if_pos h2, hel]
    ·have h1 : ¬ (k + 1 + i = k + 1 + i /\ k < v) := fun h => hv' h.2
     have h2 : ¬ (k < k + 1 + i /\ k + 1 + i < k + 1 + (i + 1) /\ k < v) := fun h => hv' h.2.2
     have h3 : ¬ (k < k + 1 + i /\ k + 1 + i < k + 1 + i /\ k < v) := fun h => hv' h.2.2
     rw [if_neg h1, if_neg h2, if_neg h3]
   ·have h1 : ¬ (u = k + 1 + i /\ k < v) := fun h => hu' h.1
    have h2 : (k < u /\ u < k + 1 + i /\ k < v) ↔ (k < u /\ u < k + 1 + (i + 1) /\ k < v) := ⟨fun h => ⟨h.1, kcD h.2.1, h.2.2⟩, fun h => ⟨h.1, kdH (kbz h.2.1) hu', h.2.2⟩⟩
    rw [if_neg h1]
    simp only [h2]
 ·rintro Z J' ⟨o5, o7, o8, rfl, hcj⟩
  have e := hcj.1; have ht' := hcj.2; clear hcj
  refine ⟨trivial, hk J' o5 o7 o8 e (ht'.cong fun u v hu hv => ?_)⟩
  rw [z9]
  have : (k < u /\ u < k + 1 + ((n : Int) - ((k : Int) + 1)).toNat /\ k < v) ↔ (k < u /\ k < v) := ⟨fun h => ⟨h.1, h.2.2⟩, fun h => ⟨h.1, by exact ltN (lit r4 V0 (.add (.add V1 N1) V2) [(1,1,V0,V3),(2,-1,V2,.sub V3 (.add V1 N1))] rfl (ltI hu) (tnn (lin r2 N0 (.sub V0 (.add V1 N1)) [(1,1,V1,V0)] rfl (ltI hkn)))), h.2⟩⟩
  simp only [this]
end
structure zdd (T : TC) : Prop where
 first : FnW T "first_other" 2 1 (yu T)
 swapped : FnW T "swapped" 3 1 (za2 T)
 det : FnW T "determinant" 1 8 (wu T)
noncomputable def zcO (R : List Row) (i : Nat) : Row := R.getD i fun _ => 0
noncomputable def zae (n : Nat) (f : Nat -> Nat -> Int) : List Row := (kaa n).map f
theorem zfV {R : List Row} {i : Nat} (h : i < R.length) : R[i]? = some (zcO R i) := by simp [zcO, kcz, h]
theorem zlk {R : List Row} {i : Nat} (h : i < R.length) : zcO R i ∈ R := kaj (zfV h)
theorem zlj {R : List Row} {i j u : Nat} (hi : i < R.length) (hj : j < R.length) (hu : u < R.length) (hij : i ≠ j) : zcO (swp R i j) u = zcO R (if u = i then j else if u = j then i else u) := by
 unfold zcO swp
 by_cases hui : u = i
 ·subst hui; simp [hij, Ne.symm hij, hi, hj]
 ·by_cases huj : u = j
  ·subst huj; simp [hui, hij, hi, hj]
  ·simp [hui, huj, Ne.symm hui, Ne.symm huj]
section
variable {T : TC} {d : Nat} {J : zb} {Q : V -> zb -> Prop} {P : Nat -> zb -> Prop}
structure zpd (J J' : zb) (n k : Nat) (R0 : List Row) (a : Addr) (as : List Addr) (A : Nat -> Nat -> Int) (R : List Row) (s p : Int) : Prop where
 e : Ext J J'
 ht : Tab J' a n as A
 nd : as.Nodup
 hf : ∀ b ∈ as, J b = none
 len : R.length = n
 mem : ∀ r, r ∈ R ↔ r ∈ R0
 ent : ∀ i j, k <= i -> i < n -> k <= j -> j < n -> A i j = Vk k R (zcO R i) j
 hp : p = pk k R
 p0 : p ≠ 0
 hs : s = 1 \/ s = -1
 hd : s * det (kaa n) R = det (kaa n) R0
theorem zjf {n : Nat} {a : Addr} {as : List Addr} {f : Nat -> Nat -> Int} {Z : zM} {j : Nat} {src : EW} (hn : n <= 10) (ht : Tab J a n as f) (hsrc : ∀ (J : zb) (Q : V -> zb -> Prop) (P : Nat -> zb -> Prop), src Z J Q P = Q (.ref a) J) (hj : ∀ v, jC (yz Z j v) j = some v)
  (hq : ∀ c as' J', Ext J J' -> Tab J' c n as' f -> as'.Nodup -> (∀ b ∈ as', J b = none) -> J c = none -> Q (.ref c) J') : ju j (yW src) none (za1 (loc j)) Z J Q P := by
 simp only [qX, jr]
 rw [hsrc]
 simp only [ze]
 refine zO ht.head ?_
 have hl := ht.len
 refine ⟨by simp [lim]; exact leN (lin r2 V0 (.num 1000000) [(0,1,V1,.num 10),(2,1,V0,V1)] rfl (leI hn) (eqI hl)), ?_⟩
 refine qj (fun i acc J' => ∃ as' : List Addr, acc = as'.map V.ref /\ as'.length = i /\ as'.Nodup /\ (∀ b ∈ as', J b = none) /\ (∀ k b, as'[k]? = some b -> L J' b n (f k)) /\ Ext J J') ⟨[], rfl, rfl, by simp, by simp, by simp, .refl⟩ ?_ ?_
 ·intro i v acc J' K' hv hI6a hK
  obtain ⟨as', rfl, hcj⟩ := hI6a
  have hl' := hcj.1; have nd := hcj.2.1; have hf := hcj.2.2.1; have hr := hcj.2.2.2.1; have e := hcj.2.2.2.2; clear hcj
  refine ⟨.inl (e _ _ ht.head), ?_⟩
  rw [kaJ] at hv
  cases hb : as[i]? with
  | none => rw [hb] at hv; cases hv
  | some b =>
   rw [hb] at hv; cases hv
   simp only [qv, if_true, zbM]
   rw [y9 (hj _)]
   simp only [ze]
   have hbl := (ht.row i b hb).ext e
   refine Eq.mpr (hbl.seq) ?_
   refine zh fun c J1 hc e1 hcv => ?_
   refine hK _ _ ⟨as' ++ [c], by simp, by simp [hl'], ?_, fun b' hb' => ?_, fun k b' hb' => ?_, e.trans e1⟩
   ·rw [kbg]
    refine ⟨nd, by simp, fun x hx y hy => ?_⟩
    simp only [kaf] at hy; subst hy
    rintro rfl
    obtain ⟨k, hk, hkx⟩ := kaV hx
    have := hr k x (by rw [<- hkx]; simp [hk])
    unfold L qM at this; rw [hc] at this; cases this
   ·rcases kau.mp hb' with h | h
    ·exact hf b' h
    ·simp only [kaf] at h; subst h; exact e.none hc
   ·by_cases hk : k < as'.length
    ·rw [ka6 hk] at hb'
     exact (hr k b' hb').ext e1
    ·rw [kbx (by exact leN ((nuI hk)))] at hb'
     have hk0 : k - as'.length = 0 := by
      cases hz : k - as'.length with
      | zero => rfl
      | succ q => rw [hz] at hb'; simp at hb'
     rw [hk0] at hb'
     simp at hb'; subst hb'
     have : k = i := by lia
     subst this
     exact hcv
 ·rintro acc J' ⟨as', rfl, hcj⟩
  have hl' := hcj.1; have nd := hcj.2.1; have hf := hcj.2.2.1; have hr := hcj.2.2.2.1; have e := hcj.2.2.2.2; clear hcj
  refine ⟨.inl (e _ _ ht.head), zh fun c J1 hc e1 hcv => ?_⟩
  exact hq c as' J1 (e.trans e1) ⟨hcv, by rw [hl', kaC, hl], fun k b hb => (hr k b hb).ext e1⟩ nd hf (e.none hc)
theorem ziU {R : List Row} {i j : Nat} (h : (swp R i j).take i = R.take i) (x : Row) (c : Nat) : Vk i (swp R i j) x c = Vk i R x c /\ pk i (swp R i j) = pk i R := by
 unfold Vk pk; rw [h]; exact ⟨rfl, rfl⟩
theorem zpH (F : zdd T) {n k : Nat} {R0 R : List Row} {a : Addr} {as : List Addr} {A : Nat -> Nat -> Int} {s p : Int} {o4 o5 o6 o7 o8 : Option V} {J' : zb} {K : Out -> zM -> zb -> Prop} {B : Nat} (hn : n <= 10) (hk : k < n) (hB : (10 * B) ^ 10 < 2 ^ 700) (hB1 : 1 <= B) (h0 : R0.length = n) (hR0 : ∀ r ∈ R0, ∀ c, c < n -> (r c).natAbs <= B)
  (I : zpd J J' n k R0 a as A R s p)
  (hret : det (kaa n) R0 = 0 -> ∀ Z J'', Ext J J'' -> K (.ret (.int 0)) Z J'')
  (hnext : ∀ a as A R s p o4 o5 o7 o8 J'', zpd J J'' n (k + 1) R0 a as A R s p -> K .next [some (.ref a), some (.int s), some (.int p), some (.int k), o4, o5, o6, o7, o8] J'') :
  wl T (d + 1) [some (.ref a), some (.int s), some (.int p), some (.int k), o4, o5, o6, o7, o8] J' K P := by
 obtain ⟨e, ht, nd, hf, hlen, hmem, hent, hp, hp0, hs, hd⟩ := I
 unfold wl
 simp only [zG, zV, zL, zB, zK, zv, zg, zf]
 refine zdE F.first hn hk ht (fun hz => ?_) fun pl h1 h2 hne => ?_
 ·-- no pivot
  have hz' : ∀ r ∈ R.drop k, Vk k R r k = 0 := fun r hr => by
   obtain ⟨i, hi, hir⟩ := kaV hr
   simp only [List.getElem_drop] at hir
   simp only [kbN] at hi
   have := hent (k + i) k (by exact leN (lin r2 V0 (.add V0 V1) [(0,1,N0,V1)] rfl (nnI _))) (by lia) (by exact leN (lin r1 V0 V0 [] rfl)) hk
   rw [hz (k + i) (by exact leN (lin r2 V0 (.add V0 V1) [(0,1,N0,V1)] rfl (nnI _))) (by lia)] at this
   have e2 : zcO R (k + i) = r := by
    have := zfV (R := R) (i := k + i) (by lia)
    rw [kac (by lia)] at this
    rw [<- hir]; exact (Option.some.inj this).symm
   rw [e2] at this; exact this.symm
  have hdet := ziC (k := k) (by exact ltN (lit r3 V0 V1 [(1,1,V0,V2),(2,-1,V1,V2)] rfl (ltI hk) (eqI hlen))) (by rw [<- hp]; exact hp0) hz'
  rw [hlen] at hdet
  exact hret (by rw [<- hd, hdet, kca]) _ _ e
 ·simp only [zp, zq, je, zdD, zv, zg, zf, V.isNone, kad, if_false, zm, qC]
  -- what follows once the pivot stands
  have fin : ∀ (a : Addr) (as : List Addr) (A : Nat -> Nat -> Int) (R : List Row) (s : Int) (J1 : zb), zpd J J1 n k R0 a as A R s p -> A k k ≠ 0 ->
    (yp (.nm 5) (ze9 (ym (loc 3) (val (.int 1))) (j5 (loc 0))) (jw T (d + 1)))
     [some (.ref a), some (.int s), some (.int p), some (.int k), some (.int pl), o5, o6, o7, o8] J1
     (fun o Z1 J1 => match o with | .next => (z8 (z8 (loc 0) (loc 3)) (loc 3)) Z1 J1 (fun v J2 => K .next (yz Z1 2 v) J2) P | .ret v => K (.ret v) Z1 J1) P := by
   intro a as A R s J1 I hkk
   obtain ⟨e, ht, nd, hf, hlen, hmem, hent, hp, hp0, hs, hd⟩ := I
   have hRb : ∀ r ∈ R, ∀ c, c < n -> (r c).natAbs <= B := fun r hr => hR0 r ((hmem r).mp hr)
   refine zmz e ht nd hf hk hn hp0 (by rw [hp]; exact zmd hn (by exact leN (lin r2 V0 V1 [(1,1,V0,V1)] rfl (ltI hk))) hB hB1 hRb) (fun u v hu hv hku hkv => ?_) fun J2 o5 o7 o8 e2 ht2 => ?_
   ·rw [hent u v hku hu hkv hv]
    exact zmU hn hk hB hB1 hv hRb (hRb _ (zlk (by exact ltN (lit r3 V0 V1 [(2,-1,V1,V2),(1,1,V0,V2)] rfl (eqI hlen) (ltI hu)))))
   ·simp only [qA, zv, zg, zf, ze, zd]
    refine ht2.at (by exact nnI _) (by exact kaE.mpr ‹_›) fun b hb hbl => ?_
    refine hbl.at (by exact nnI _) (by exact kaE.mpr ‹_›) ?_
    have hno : ¬ (k < k /\ k < k) := fun h => kba _ h.1
    simp only [kai, kba, false_and, if_false, zp, zq]
    have hyk : R[k]? = some (zcO R k) := zfV (by exact ltN (lit r3 V0 V1 [(1,1,V0,V2),(2,-1,V1,V2)] rfl (ltI hk) (eqI hlen)))
    refine hnext a as _ R s (A k k) _ _ _ _ J2 ⟨e2, ht2, nd, hf, hlen, hmem, fun i j hi hi' hj hj' => ?_, ?_, hkk, hs, hd⟩
    ·have hc : k < i /\ k < j := by exact ⟨ltN (lit r2 V0 V1 [(0,1,.add V0 N1,V1)] rfl (leI hi)), ltN (lit r2 V0 V1 [(0,1,.add V0 N1,V1)] rfl (leI hj))⟩
     rw [if_pos hc]
     unfold el
     rw [hent i j (by exact leN (lin r2 V0 V1 [(0,1,.add V0 N1,V1)] rfl (leI hi))) hi' (by exact leN (lin r2 V0 V1 [(0,1,.add V0 N1,V1)] rfl (leI hj))) hj', hent k k (by exact leN (lin r1 V0 V0 [] rfl)) hk (by exact leN (lin r1 V0 V0 [] rfl)) hk, hent i k (by exact leN (lin r2 V0 V1 [(0,1,.add V0 N1,V1)] rfl (leI hi))) hi' (by exact leN (lin r1 V0 V0 [] rfl)) hk, hent k j (by exact leN (lin r1 V0 V0 [] rfl)) hk (by exact leN (lin r2 V0 V1 [(0,1,.add V0 N1,V1)] rfl (leI hj))) hj']
     have := zgQ hyk (zcO R i) j (by rw [<- hp]; exact hp0)
     rw [<- this, hp, kdF _ (by rw [<- hp]; exact hp0)]
    ·rw [hent k k (by exact leN (lin r1 V0 V0 [] rfl)) hk (by exact leN (lin r1 V0 V0 [] rfl)) hk, zhG hyk]
  by_cases hpk : pl = k
  ·subst hpk
   simp only [qH, zv, zg, zf, zd, zm, Cmp.run, bne_self_eq_false, kad, if_false]
   exact fin a as A R s J' ⟨e, ht, nd, hf, hlen, hmem, hent, hp, hp0, hs, hd⟩ hne
  ·have hb : ((pl : Int) != (k : Int)) = true := by simp; exact (fun h_ => lif r2 [(2,-1,V0,V1),(1,1,V0,V1)] rfl h_ (jW (lin r2 V0 V1 [(2,1,V0,V1)] rfl h_) hpk))
   refine qD hb ?_
   refine zhg F.swapped hk h2 (Ne.symm hpk) ht nd fun c as' J1 e1 ht1 nd1 hsub hc => ?_
   simp only [zp, zq, zV, zav, qo, zv, zg, zf, zd]
   have hkp : k < pl := by exact ltN ((jW ((leI h1)) (Ne.symm hpk)))
   obtain ⟨w1, w2, w3⟩ := znS (R := R) hkp (by exact ltN (lit r3 V0 V1 [(2,-1,V1,V2),(1,1,V0,V2)] rfl (eqI hlen) (ltI h2))) (kaa n)
   refine fin c as' _ (swp R k pl) (0 - s) J1 ⟨e.trans e1, ht1, nd1, fun b hb => hf b (hsub b hb), by rw [znR, hlen], fun r => (w3 r).trans (hmem r), fun i j hi hi' hj hj' => ?_, ?_, hp0, by lia, by rw [w1, <- hd]; grind⟩ ?_
   ·rw [(ziU w2 _ _).1, zlj (by exact ltN (lit r3 V0 V1 [(1,1,V0,V2),(2,-1,V1,V2)] rfl (ltI hk) (eqI hlen))) (by exact ltN (lit r3 V0 V1 [(2,-1,V1,V2),(1,1,V0,V2)] rfl (eqI hlen) (ltI h2))) (by exact ltN (lit r3 V0 V1 [(2,-1,V1,V2),(1,1,V0,V2)] rfl (eqI hlen) (ltI hi'))) (by exact (fun h_ => lif r2 [(1,1,V0,V1),(2,-1,V0,V1)] rfl (ltI hkp) (eqI h_)))]
    refine hent _ j ?_ ?_ hj hj'
    ·split <;> (try split) <;> (first | assumption | exact kao _)
    ·split <;> (try split) <;> assumption
   ·rw [(ziU w2 (fun _ => 0) 0).2]; exact hp
   ·simpa using hne
theorem wn (F : zdd T) {n : Nat} {a : Addr} {as : List Addr} {f : Nat -> Nat -> Int} {B : Nat} (hn : n <= 10) (ht : Tab J a n as f) (hB : (10 * B) ^ 10 < 2 ^ 700) (hB1 : 1 <= B) (hb : ∀ i j, i < n -> j < n -> (f i j).natAbs <= B)
  (hq : ∀ J', Ext J J' -> Q (.int (det (kaa n) (zae n f))) J') : zA T (d + 2) "determinant" [.ref a] J Q P := by
 have hR0 : ∀ r ∈ zae n f, ∀ c, c < n -> (r c).natAbs <= B := fun r hr c hc => by
  obtain ⟨i, hi, rfl⟩ := kat.mp hr
  exact hb i c (kan.mp hi) hc
 have hRl : (zae n f).length = n := by simp [zae]
 refine F.det (d + 1) _ _ _ _ rfl ?_
 unfold wu
 simp only [zG, zV, qf, qi, qe]
 refine zjf hn ht (y9 rfl) (fun v => rfl) fun c as' J1 e1 ht1 nd1 hf1 hc => ?_
 simp only [zp, zq, qo, jz, jL, qG, zv, zg, zf, ze]
 refine zS ht1.head ?_
 simp only [zd, kaC, ht1.len]
 refine ⟨by first | exact qP ‹_› ‹_› | (unfold small; exact ⟨lin r1 (.neg (.num 4611686018427387904)) V0 [(0,1,N0,V0)] rfl (nnI _), lit r1 V0 (.num 4611686018427387904) [(0,1,V0,.num 10)] rfl (leI hn)⟩), ?_⟩
 refine zI (fun k Z J' => X12 fun a as A R s p o3 o4 o5 o6 o7 o8 => Z = [some (.ref a), some (.int s), some (.int p), o3, o4, o5, o6, o7, o8] /\ zpd J J' n k (zae n f) a as A R s p) ?_ ?_ ?_
 ·refine ⟨c, as', f, zae n f, 1, 1, _, _, _, _, _, _, rfl, e1, ht1, nd1, hf1, hRl, fun r => Iff.rfl, fun i j _ hi _ hj => ?_, by rw [zhF], by decide, .inl rfl, by exact liq r1 (.mulL 1 V0) V0 [] rfl⟩
  rw [zk3]
  simp [zcO, zae, hi]
 ·intro k v Z J' K' hv hI6a hK
  obtain ⟨a, as, A, R, s, p, o3, o4, o5, o6, o7, o8, rfl, I⟩ := hI6a
  obtain ⟨hk, rfl⟩ := qI hv
  refine ⟨trivial, ?_⟩
  simp only [ql, zp, zq, kbi]
  refine zpH F hn ‹_› hB hB1 hRl hR0 I (fun h1 Z' J'' e2 => ?_) fun a as A R s p o4 o5 o7 o8 J'' I' => ?_
  ·refine hK (.ret _) _ _ ?_
   have := hq J'' e2
   rw [h1] at this
   exact this
  ·exact hK .next _ _ ⟨a, as, A, R, s, p, _, _, _, _, _, _, rfl, I'⟩
 ·rintro Z J' ⟨a, as, A, R, s, p, o3, o4, o5, o6, o7, o8, rfl, I⟩
  rw [z9, kai] at I
  obtain ⟨e, ht, nd, hf, hlen, hmem, hent, hp, hp0, hs, hd⟩ := I
  refine ⟨trivial, ?_⟩
  simp only [j3, zdr, zv, zg, zf, zd]
  refine ⟨zfm (by lia) (by lia), ?_⟩
  have e2 : s * p = det (kaa n) (zae n f) := by
   rw [<- hd, hp]
   unfold pk
   rw [kbX (by exact leN (lin r2 V0 V1 [(2,1,V0,V1)] rfl (eqI hlen)))]
  rw [e2]
  exact hq J' e
end
end Mine
end
section
open PySem
namespace Mine
theorem zi8 (a b : Prop) [Decidable a] [Decidable b] : (if a then (0 : Int) - (if b then 1 else 0) else 0) = if b then 0 - (if a then 1 else 0) else 0 := by
 by_cases h : a <;> by_cases h' : b <;> simp only [h, h', if_true, if_false] <;> rfl
theorem zla (rs : Rd2) (v u : Nat) : yF rs v u = yF rs u v := by
 unfold yF
 induction rs with
 | nil => rfl
 | cons p rs ih =>
  have e : qL (p :: rs) = (p.1, p.2) :: (p.2, p.1) :: qL rs := by simp [qL]
  rw [e]
  simp only [jh]
  rw [ih]
  by_cases h : u = v
  ·subst h; rfl
  ·have h' : ¬ v = u := fun e => h e.symm
   simp only [h, h', if_false]
   rw [zi8 (p.1 = (v : Int)), zi8 (p.2 = (v : Int)), <- Int.add_assoc, <- Int.add_assoc, Int.add_comm (if p.2 = (u : Int) then _ else _)]
theorem zcg {m : Int} {rs : Rd2} (n : Net m rs) (v : Nat) : yF rs v v = zU rs v := by
 unfold yF zU
 refine jI fun a ha => ?_
 have := n.arc_ne ha
 by_cases h : a.1 = (v : Int)
 ·have h2 : ¬ a.2 = (v : Int) := by exact (fun h_ => lif r3 [(2,-1,V0,V1),(2,1,V2,V1),(1,1,V0,V2)] rfl h h_ (wT (lin r3 V0 V1 [(2,1,V0,V2),(2,-1,V1,V2)] rfl h h_) this))
  simp [h, h2]
 ·simp [h]
theorem ziX {f : Int × Int -> Int} : ∀ {l : Rd2}, (∀ a ∈ l, (f a).natAbs <= 1) -> (jh l f).natAbs <= l.length
 | [], _ => by simp [jh]
 | a :: l, h => by
  simp only [jh, kag]
  have h1 := h a (by simp)
  have h2 := ziX (l := l) fun b hb => h b (by simp [hb])
  have h3 := Int.natAbs_add_le (f a) (jh l f)
  exact leN (lin r4 V0 (.add V1 N1) [(0,1,V2,N1),(0,1,V3,V1),(0,1,V0,.add V2 V3)] rfl (leI h1) (leI h2) (leI h3))
theorem zmQ (rs : Rd2) : (qL rs).length = 2 * rs.length := by
 induction rs with
 | nil => rfl
 | cons p rs ih =>
  have e : qL (p :: rs) = (p.1, p.2) :: (p.2, p.1) :: qL rs := by simp [qL]
  rw [e]; simp only [kag, ih]; rfl
theorem wP {m : Int} {rs : Rd2} (n : Net m rs) (v u : Nat) : (yF rs v u).natAbs <= 80 := by
 have h1 := n.len
 have h2 := zmQ rs
 refine kap (ziX fun a ha => ?_) (by exact leN (lin r2 V0 (.num 80) [(0,2,V1,.num 40),(2,1,V0,.mulL 2 V1)] rfl (leI h1) (eqI h2)) : (qL rs).length <= 80)
 by_cases h : a.1 = (v : Int) <;> by_cases h' : u = v <;> by_cases h'' : a.2 = (u : Int) <;> simp [h, h', h''] <;> (try split) <;> exact kak rfl
theorem zhY {m : Int} {rs : Rd2} (n : Net m rs) (v : Nat) : zU rs v <= 80 := by
 have h1 := wP n v v
 rw [zcg n] at h1
 lia
theorem zk1 {m : Int} {rs : Rd2} (n : Net m rs) (h t : Nat -> Int) {v : Nat} (hv : (v : Int) < m) : zoG m.toNat (yF rs) h t v = h v - lap m rs t v := by
 unfold zoG
 rw [<- zhB n.ends t hv]
 congr 1
 exact jq fun u _ => by rw [zla]
noncomputable def zjP (f : Nat -> Nat -> Int) (b : Nat -> Int) (i : Nat) : Nat -> Nat -> Int := fun v u => if u = i then b v else f v u
theorem zmC {m : Int} {rs : Rd2} (hm : 0 <= m) (b : Nat -> Int) {i : Nat} (hi : i < m.toNat) : det (kaa m.toNat) (zae m.toNat (zjP (yF rs) b i)) = zc4 m rs b i := by
 unfold zc4 zae
 rw [<- zfy]
 rw [kbB]
 have := zab (cs := kaa m.toNat) (f := zjP (yF rs) b i) (g := (fun (r : Row) (j : Nat) => r (if j = i then m.toNat else j)) ∘ zha m rs b) (kaa m.toNat) [] fun v _ c hc => by
  have hc' := kan.mp hc
  unfold zjP
  simp only [Function.comp]
  by_cases h : c = i
  ·simp [h, zha]
  ·have : ¬ c = m.toNat := by exact (fun h_ => lif r2 [(1,1,V0,V1),(2,-1,V0,V1)] rfl (ltI hc') (eqI h_))
   simp [h, zha, this]
 simpa using this
section
variable {T : TC} {d : Nat} {J : zb} {Q : V -> zb -> Prop} {P : Nat -> zb -> Prop}
theorem ziq (F : zdd T) (h : FnW T "solved" 2 5 (za7 T)) {n : Nat} {a r : Addr} {as : List Addr} {f : Nat -> Nat -> Int} {b : Nat -> Int} {B : Nat} (hn : n <= 10) (ht : Tab J a n as f) (hr : L J r n b) (hB : (10 * B) ^ 10 < 2 ^ 700) (hB1 : 1 <= B)
  (hb : ∀ i j, i < n -> j < n -> (f i j).natAbs <= B) (hbb : ∀ i, i < n -> (b i).natAbs <= B)
  (hq : ∀ c J', Ext J J' -> J c = none -> L J' c n (fun i => det (kaa n) (zae n (zjP f b i))) -> Q (.ref c) J') : zA T (d + 3) "solved" [.ref a, .ref r] J Q P := by
 refine h (d + 2) _ _ _ _ rfl ?_
 unfold za7
 simp only [zG, zV, qV, zK, qf, qi, qe, kaB]
 refine ⟨by first | exact kak rfl | simp [lim], zh fun g J1 hg e1 hgv => ?_⟩
 simp only [zp, zq, jz, jL, qG, zv, zg, zf, ze]
 refine zS (e1 _ _ ht.head) ?_
 simp only [zd, kaC, ht.len]
 refine ⟨by first | exact qP ‹_› ‹_› | (unfold small; exact ⟨lin r1 (.neg (.num 4611686018427387904)) V0 [(0,1,N0,V0)] rfl (nnI _), lit r1 V0 (.num 4611686018427387904) [(0,1,V0,.num 10)] rfl (leI hn)⟩), ?_⟩
 refine zI (fun i Z J' => X4 fun o3 o4 o5 o6 => Z = [some (.ref a), some (.ref r), some (.ref g), o3, o4, o5, o6] /\ Ext J J' /\ qM J' g (lst i fun i => det (kaa n) (zae n (zjP f b i)))) ⟨_, _, _, _, rfl, e1, hgv⟩ ?_ ?_
 ·intro i v Z J' K' hv hI6a hK
  obtain ⟨o3, o4, o5, o6, rfl, hcj⟩ := hI6a
  have e := hcj.1; have hgl := hcj.2; clear hcj
  obtain ⟨hi, rfl⟩ := qI hv
  have hi' : i < n := by assumption
  refine ⟨trivial, ?_⟩
  unfold zd4
  simp only [ql, zp, zq, zG, zV, kbi]
  refine zjf hn (ht.ext e) (y9 rfl) (fun v => rfl) fun c as' J2 e2 ht2 nd2 hf2 hc => ?_
  simp only [zp, zq, jz, jL, qG, zv, zg, zf, ze]
  refine zS (e2 _ _ (e _ _ ht.head)) ?_
  simp only [zd, kaC, ht.len]
  refine ⟨by first | exact qP ‹_› ‹_› | (unfold small; exact ⟨lin r1 (.neg (.num 4611686018427387904)) V0 [(0,1,N0,V0)] rfl (nnI _), lit r1 V0 (.num 4611686018427387904) [(0,1,V0,.num 10)] rfl (leI hn)⟩), ?_⟩
  have e02 := e.trans e2
  refine zI (fun j Z J'' => X2 fun o5 o6 => Z = [some (.ref a), some (.ref r), some (.ref g), some (.int i), some (.ref c), o5, o6] /\ Ext J' J'' /\ Tab J'' c n as' fun u v => if u < j then zjP f b i u v else f u v) ⟨_, _, rfl, e2, ht2.cong fun u v _ _ => by simp⟩ ?_ ?_
  ·intro j v Z J'' K'' hv' hI6b hK'
   obtain ⟨o5, o6, rfl, hcj⟩ := hI6b
   have e' := hcj.1; have ht' := hcj.2; clear hcj
   obtain ⟨hj, rfl⟩ := qI hv'
   have hj' : j < n := by assumption
   refine ⟨trivial, ?_⟩
   unfold zd5
   simp only [ql, zp, zq, zay, qA, zv, zg, zf, ze, zd, kbi]
   refine ((hr.ext e).ext e').at (by exact nnI _) (by exact kaE.mpr ‹_›) ?_
   refine ht'.at (by exact nnI _) (by exact kaE.mpr ‹_›) fun bb hb' hbl => ?_
   rw [kai] at hb' hbl
   refine hbl.set (by exact nnI _) (by exact kaE.mpr ‹_›) fun J3 hJ3 => ?_
   rw [kai, kai] at hJ3
   have ht3 := ht'.put nd2 hb' (j := i) hi' (b j)
   rw [<- hJ3] at ht3
   refine hK' .next _ _ ⟨_, _, rfl, by rw [hJ3]; exact e'.put (hf2 bb (kaj hb')) _, ht3.cong fun u w hu hw => ?_⟩
   rw [zau]
   unfold zjP
   by_cases huj : u = j
   ·subst huj
    have : u < u + 1 := by exact kao _
    simp [this]
   ·by_cases hlt : u < j
    ·have : u < j + 1 := by exact ltN (lit r2 V0 (.add V1 N1) [(1,1,V0,V1)] rfl (ltI hlt))
     simp [huj, hlt, this]
    ·have : ¬ u < j + 1 := by exact (fun h_ => lif r2 [(0,1,V0,V1),(1,1,V1,V0)] rfl (nuI hlt) (jW (lin r2 V0 V1 [(1,1,V0,.add V1 N1)] rfl (ltI h_)) huj))
     simp [huj, hlt, this]
  ·rintro Z J'' ⟨o5, o6, rfl, hcj⟩
   have e' := hcj.1; have ht' := hcj.2; clear hcj
   refine ⟨trivial, ?_⟩
   rw [z9] at ht'
   have ht'' : Tab J'' c n as' (zjP f b i) := ht'.cong fun u v hu hv => by
    have : u < (n : Int).toNat := by assumption
    rw [if_pos this]
   have hg1 := hgl.ext e'
   refine ⟨zE hg1 trivial, ?_⟩
   refine wn F hn ht'' hB hB1 (fun u v hu hv => ?_) fun J4 e4 => ?_
   ·unfold zjP; split
    ·exact hbb u hu
    ·exact hb u v hu hv
   ·refine zE (hg1.ext e4) ?_
    refine ⟨by rw [qc, qy]; unfold lim; exact ltN (lit r2 V0 (.num 1000000) [(0,1,V1,.num 10),(1,1,V0,V1)] rfl (leI hn) (ltI hi')), hK .next _ _ ⟨_, _, _, _, rfl, ((e.trans e').trans e4).put hg _, ?_⟩⟩
    unfold qM
    rw [zz, zb7, <- zc7]; rfl
 ·rintro Z J' ⟨o3, o4, o5, o6, rfl, hcj⟩
  have e := hcj.1; have hgl := hcj.2; clear hcj
  refine ⟨trivial, ?_⟩
  rw [z9, kai] at hgl
  exact hq g J' e hg hgl
noncomputable def Big : Nat := 36028797018963968
theorem zij : (10 * Big) ^ 10 < 2 ^ 700 := by decide +kernel
theorem znF : 1 <= Big := by decide +kernel
theorem zkj : 80 <= Big := by decide +kernel
structure zbP (m : Int) (h : Nat -> Int) : Prop where
 lo : ∀ v : Nat, (v : Int) < m -> 0 <= h v
 hi : ∀ v : Nat, (v : Int) < m -> h v <= 1000000000
structure znJ (m : Int) (h : Nat -> Int) : Prop where
 lo : ∀ v : Nat, (v : Int) < m -> 0 <= h v
 hi : ∀ v : Nat, (v : Int) < m -> h v <= 36000000000000000
theorem zbP.b {m : Int} {h : Nat -> Int} (x : zbP m h) : znJ m h := ⟨x.lo, fun v hv => kbS (x.hi v hv) (by decide)⟩
theorem zdC (F : zdd T) (hs : FnW T "solved" 2 5 (za7 T)) (h : FnW T "least_times" 2 4 (yq T)) {m : Int} {rs : Rd2} {a hp : Addr} {as : List Addr} {g : Nat -> Int} (n : Net m rs) (ht : Tab J a m.toNat as (yF rs)) (hh : L J hp m.toNat g) (hg : znJ m g)
  (hq : ∀ c J', Ext J J' -> J c = none -> D m rs ≠ 0 -> L J' c m.toNat (t0 m rs g) -> Q (.ref c) J') : zA T (d + 4) "least_times" [.ref a, .ref hp] J Q P := by
 have hm := n.m0; have hm' := n.m10
 refine h (d + 3) _ _ _ _ rfl ?_
 unfold yq
 simp only [zG, zV, zL, zB, zK, zv, qf, qi, qe, zg, zf]
 refine wn (d := d + 1) F (B := Big) (by exact leN (lin r2 V0 (.num 10) [(0,1,V1,.num 10),(2,1,V0,V1)] rfl hm' (tnn (hm)))) ht zij znF (fun i j _ _ => kap (wP n i j) zkj) fun J1 e1 => ?_
 have hD : D m rs ≠ 0 := kbR (zj4 n)
 have hDb : (D m rs).natAbs < 2 ^ 700 := by
  have := zap (B := Big) (N := 10) (kaa m.toNat) (qm m rs) (fun r hr c hc => by
   obtain ⟨v, hv, rfl⟩ := kat.mp hr
   exact kap (wP n v c) (by decide)) (by simp [qm]; assumption)
  refine kaI (kap this (kbh (by decide) ?_)) zij
  simp; assumption
 simp only [zp, zq, qX, jL, qG, zv, zg, zf, ze]
 refine zS (e1 _ _ hh) ?_
 simp only [zd, qc, qy]
 refine ⟨by first | exact qP ‹_› ‹_› | (unfold small; exact ⟨lin r1 (.neg (.num 4611686018427387904)) V0 [(0,1,N0,V0)] rfl (nnI _), lit r2 V0 (.num 4611686018427387904) [(0,1,V1,.num 10),(2,1,V0,V1)] rfl hm' (tnn (hm))⟩), by first | exact zdA ‹_› | (rw [z9]; unfold lim; exact leN (lin r3 V0 (.num 1000000) [(0,1,V1,.num 10),(2,1,V2,V1),(2,1,V0,V2)] rfl hm' (tnn (hm)) (tnn ((nnI _))))), ?_⟩
 refine qj (fun i acc J' => acc = zs (lst i fun v => g v - zU rs v + 1) /\ J' = J1) ⟨rfl, rfl⟩ ?_ ?_
 ·rintro i v acc J' K' hv ⟨rfl, rfl⟩ hK
  obtain ⟨hi, rfl⟩ := qI hv
  refine ⟨trivial, ?_⟩
  simp only [qv, if_true, zp, zq, jf, zav, qA, zv, qo, zg, zf, ze, zd, kbi]
  refine (hh.ext e1).at (by exact nnI _) (by exact kaE.mpr ‹_›) ?_
  refine (ht.ext e1).at (by exact nnI _) (by exact kaE.mpr ‹_›) fun b hb hbl => ?_
  refine hbl.at (by exact nnI _) (by exact kaE.mpr ‹_›) ?_
  refine hK _ _ ⟨?_, rfl⟩
  rw [zb7, <- zc7, zcg n]; rfl
 ·rintro acc J' ⟨rfl, rfl⟩
  refine ⟨trivial, zh fun ov J2 hov e2 hovv => ?_⟩
  rw [z9, kai] at hovv
  have hovl : L J2 ov m.toNat fun v => g v - zU rs v + 1 := hovv
  simp only [zp, zq, j3, qX, jr, zL, zB, zK, zv, zg, zf]
  have e12 := e1.trans e2
  refine ziq (d := d) F hs (B := Big) (by exact leN (lin r2 V0 (.num 10) [(0,1,V1,.num 10),(2,1,V0,V1)] rfl hm' (tnn (hm)))) (ht.ext e12) hovl zij znF (fun i j _ _ => kap (wP n i j) zkj) (fun i hi => ?_) fun sv J3 e3 hsv hsvl => ?_
  ·have h1 := hg.lo i (by exact Mine.qE ‹_› ‹_›)
   have h2 := hg.hi i (by exact Mine.qE ‹_› ‹_›)
   have h3 := zhY n i
   have h4 := zfA (rs := rs) i
   unfold Big
   lia
  ·simp only [ze]
   refine zO hsvl ?_
   refine ⟨by rw [qc, qy]; unfold lim; exact leN (lin r2 V0 (.num 1000000) [(0,1,V1,.num 10),(2,1,V0,V1)] rfl hm' (tnn (hm))), ?_⟩
   refine qj (fun i acc J' => acc = zs (lst i (t0 m rs g)) /\ J' = J3) ⟨rfl, rfl⟩ ?_ ?_
   ·rintro i v acc J' K' hv ⟨rfl, rfl⟩ hK
    obtain ⟨x, hx, rfl⟩ := zm1 hv
    have hi : i < m.toNat := by
     have := (kae.mp hx).1
     rwa [qy] at this
    rw [yA _ hi] at hx
    have hx' : x = zc4 m rs (fun v => g v - zU rs v + 1) i := by rw [<- zmC hm _ hi]; exact (Option.some.inj hx).symm
    subst hx'
    refine ⟨.inl hsvl, ?_⟩
    simp only [qv, if_true, zp, zq, zeC, zav, zaM, zv, qo, zg, zf, zd]
    refine ⟨⟨hD, zdq hDb⟩, hK _ _ ⟨?_, rfl⟩⟩
    rw [zb7, <- zc7]
    rfl
   ·rintro acc J' ⟨rfl, rfl⟩
    refine ⟨.inl hsvl, zh fun c J4 hc e4 hcv => ?_⟩
    rw [qc, qy] at hcv
    exact hq c J4 (e12.trans (e3.trans e4)) ((e12.trans e3).none hc) hD hcv
end
structure zh2 (T : TC) : Prop where
 D : zdd T
 solved : FnW T "solved" 2 5 (za7 T)
 least : FnW T "least_times" 2 4 (yq T)
 table : FnW T "table_of" 2 5 (zas T)
 after : FnW T "after" 3 3 (zdv T)
 fallen : FnW T "fallen" 3 6 (zde T)
noncomputable def zm3 : List V -> Int
 | [] => 0
 | .int i :: r => i + zm3 r
 | _ :: r => zm3 r
theorem zks : ∀ l : List Int, zm3 (zs l) = l.foldr (· + ·) 0
 | [] => rfl
 | x :: l => by show x + zm3 (zs l) = _; rw [zks l]; rfl
theorem ziV (n : Nat) (f : Nat -> Int) : zm3 (zs (lst n f)) = zZ (kaa n) f := by
 rw [zks]
 unfold lst
 generalize kaa n = l
 induction l with
 | nil => rfl
 | cons a l ih => simp only [kaO, List.foldr_cons, zZ, ih]
theorem ziW (f : Nat -> Int) (v : Nat) (x : Int) : ∀ l : List Nat, l.Nodup -> zZ l (upd f v x) = zZ l f + if v ∈ l then x - f v else 0
 | [], _ => by simp [zZ]
 | a :: l, nd => by
  have nd' := kaQ.mp nd
  simp only [zZ]
  rw [ziW f v x l nd'.2]
  by_cases h : a = v
  ·subst h
   simp [upd, nd'.1]; exact liq r3 (.add V0 V1) (.add (.add V2 V1) (.sub V0 V2)) [] rfl
  ·have h' : ¬ v = a := fun e => h e.symm
   simp only [upd, h, if_false, kah, h', false_or]; exact liq r3 (.add V0 (.add V1 V2)) (.add (.add V0 V1) V2) [] rfl
section
variable {T : TC} {d : Nat} {J : zb} {Q : V -> zb -> Prop} {P : Nat -> zb -> Prop}
theorem ziG (H : zh2 T) {m : Int} {rs : Rd2} {r hp : Addr} {g : Nat -> Int} (n : Net m rs) (hr : zQ J r rs) (hh : L J hp m.toNat g) (hg : znJ m g)
  (hq : ∀ tp re tm t J', Ext J J' -> J' tp = some (.tup [.ref re, .ref tm]) -> L J' re m.toNat (fun v => g v - lap m rs t v) -> L J' tm m.toNat t -> zcY m rs g t -> re ≠ tm -> J re = none -> J tm = none -> Q (.ref tp) J') : zA T (d + 5) "fallen" [.int m, .ref r, .ref hp] J Q P := by
 have hm := n.m0; have hm' := n.m10
 refine H.fallen (d + 4) _ _ _ _ rfl ?_
 unfold zde
 refine zcp (d := d + 3) H.table n hr fun ta as J1 e1 ht nd hf hta => ?_
 refine zdC (d := d) H.D H.solved H.least n ht (hh.ext e1) hg fun tm J2 e2 htm hD html => ?_
 refine zfP (d := d + 3) H.after (by exact leN (lin r2 V0 (.num 10) [(0,1,V1,.num 10),(2,1,V0,V1)] rfl hm' (tnn (hm)))) (ht.ext e2) ((hh.ext e1).ext e2) html (fun i j _ _ => kap (wP n i j) (by decide)) fun re J3 e3 hre hrel => ?_
 have e12 := e1.trans e2
 have e13 := e12.trans e3
 have htm0 : J tm = none := e1.none htm
 obtain ⟨t', ht'n, ht's⟩ := zeg n g
 have frame : ∀ {J' : zb} {b : Addr}, Ext J1 J' -> b ∈ as -> b ≠ tm := fun {J' b} he hb => by
  obtain ⟨k, hk, hkb⟩ := kaV hb
  exact jt (ht.row k b (by rw [<- hkb]; simp [hk])) htm
 refine ze2 (fun Z J' => X5 fun bb re t o7 o8 => Z = [some (.int m), some (.ref r), some (.ref hp), some (.ref ta), some (.ref tm), some (.ref re), some (.bool bb), o7, o8] /\ Ext J1 J' /\ L J' tm m.toNat t /\ L J' re m.toNat (fun v => g v - lap m rs t v) /\ re ≠ tm /\ J re = none /\ zh3 m rs g t /\ (bb = false -> zoJ m rs g t))
  (fun Z J' => 2 * (match J' tm with | some (.list xs) => (zZ (kaa m.toNat) t' - zm3 xs).toNat | _ => 0) + (match jC Z 6 with | some (.bool true) => 1 | _ => 0)) ?_ ?_
 ·exact ⟨true, re, t0 m rs g, _, _, rfl, e2.trans e3, html.ext e3, hrel.cong fun v hv => zk1 n _ _ (by exact Mine.qE ‹_› ‹_›), Ne.symm (jt html hre), e12.none hre, zh3.start n hg.lo, by simp⟩
 ·intro Z J' N K' hI4a hN hK
  obtain ⟨bb, re, t, o7, o8, rfl, hcj⟩ := hI4a
  have e := hcj.1; have html' := hcj.2.1; have hrel' := hcj.2.2.1; have hne := hcj.2.2.2.1; have hre0 := hcj.2.2.2.2.1; have hfall := hcj.2.2.2.2.2.1; have hst := hcj.2.2.2.2.2.2; clear hcj
  have htms := html'
  unfold L qM at htms
  simp only [htms, ziV, zf, zg] at hN
  cases bb with
  | false =>
   refine ⟨by first | exact kak rfl | simp [lim], zh fun tp J5 htp e5 hv5 => ?_⟩
   exact hq tp re tm t J5 ((e1.trans e).trans e5) hv5 (hrel'.ext e5) (html'.ext e5) ⟨hfall, hst rfl⟩ hne hre0 htm0
  | true =>
   unfold zd8
   refine ⟨by first | exact qP ‹_› ‹_› | (unfold small; omega), ?_⟩
   refine zI (fun i Z J'' => X5 fun b re tB o7 o8 => Z = [some (.int m), some (.ref r), some (.ref hp), some (.ref ta), some (.ref tm), some (.ref re), some (.bool b), o7, o8] /\ Ext J1 J'' /\ L J'' tm m.toNat tB /\ L J'' re m.toNat (fun v => g v - lap m rs tB v) /\ re ≠ tm /\ J re = none /\ zh3 m rs g tB /\ (b = false -> tB = t /\ ∀ v : Nat, v < i -> (v : Int) < m -> g v - lap m rs t v < zU rs v) /\ (b = true -> zZ (kaa m.toNat) t < zZ (kaa m.toNat) tB)) ?_ ?_ ?_
   ·exact ⟨false, re, t, _, _, rfl, e, html', hrel', hne, hre0, hfall, fun _ => ⟨rfl, fun v hv => by exact lif r1 [(1,1,V0,N0),(0,1,N0,V0)] rfl (ltI hv) (nnI _)⟩, by simp⟩
   ·intro i v Z J'' K'' hv hI6b hK''
    obtain ⟨b, re, tB, o7, o8, rfl, hcj⟩ := hI6b
    have e' := hcj.1; have htl := hcj.2.1; have hrl := hcj.2.2.1; have hne' := hcj.2.2.2.1; have hre0' := hcj.2.2.2.2.1; have hf1 := hcj.2.2.2.2.2.1; have hb0 := hcj.2.2.2.2.2.2.1; have hb1 := hcj.2.2.2.2.2.2.2; clear hcj
    obtain ⟨hi, rfl⟩ := qI hv
    have hi' : (i : Int) < m := by exact Mine.qE ‹_› ‹_›
    have ht1 := ht.ext e'
    refine ⟨trivial, ?_⟩
    unfold zd9
    simp only [ql, zp, zq, je, qH, qA, zv, zg, zf, ze, zd, kbi]
    refine hrl.at (by exact nnI _) (by exact Mine.lt_toNat ‹_›) ?_
    refine ht1.at (by exact nnI _) (by exact Mine.lt_toNat ‹_›) fun bb hbb hbl => ?_
    refine hbl.at (by exact nnI _) (by exact Mine.lt_toNat ‹_›) ?_
    rw [zcg n]
    by_cases hge : g i - lap m rs tB i ≥ zU rs i
    ·refine qD (decide_eq_true hge) ?_
     have hdp := zb8 n hi'
     have hdl := zhY n i
     have zbt := zh3.step n hf1 hi' hge
     refine znA hm hm' (y9 rfl) fun tu J4 htu e4 htul => ?_
     simp only [zp, zq, zay, zaM, qA, zv, zg, zf, ze, zd]
     refine (hrl.ext e4).at (by exact nnI _) (by exact Mine.lt_toNat ‹_›) ?_
     refine (ht1.ext e4).at (by exact nnI _) (by exact Mine.lt_toNat ‹_›) fun bb hbb hbl => ?_
     refine hbl.at (by exact nnI _) (by exact Mine.lt_toNat ‹_›) ?_
     simp only [zd, kai]
     rw [zcg n]
     have hd9 : (zU rs i).natAbs < 1073741824 := by lia
     refine ⟨⟨by exact Mine.jM ‹_›, zjy hd9⟩, ?_⟩
     generalize hqq : (g i - lap m rs tB i).fdiv (zU rs i) = q at zbt
     have hlt : (i : Int) < (m.toNat : Int) := by exact kaE.mpr ‹_›
     simp only [zG, zV, zv, zg, zf, ze, zd]
     refine htul.set (by exact nnI _) hlt fun J5 hJ5 => ?_
     rw [kai] at hJ5
     have htu5 : L J5 tu m.toNat (upd (fun _ => 0) i q) := by rw [hJ5]; exact zz _ _ _
     have e5 : Ext J'' J5 := by rw [hJ5]; exact e4.put htu _
     refine zfP (d := d + 3) H.after (by exact leN (lin r2 V0 (.num 10) [(0,1,V1,.num 10),(2,1,V0,V1)] rfl hm' (tnn (hm)))) (ht1.ext e5) (hrl.ext e5) htu5 (fun i j _ _ => kap (wP n i j) (by decide)) fun re' J6 e6 hre6 hrel6 => ?_
     simp only [zp, zq, zay, jf, qA, zv, zg, zf, ze, zd]
     have e56 := e5.trans e6
     refine (htl.ext e56).at (by exact nnI _) ‹_› ?_
     refine (htu5.ext e6).at (by exact nnI _) ‹_› ?_
     simp only [zd, kai]
     rw [zdf]
     refine (htl.ext e56).set (by exact nnI _) ‹_› fun J7 hJ7 => ?_
     rw [kai] at hJ7
     have hre'tm : re' ≠ tm := Ne.symm (jt (htl.ext e5) hre6)
     have hsum : zZ (kaa m.toNat) (upd tB i (tB i + q)) = zZ (kaa m.toNat) tB + q := by
      rw [ziW _ _ _ _ kbe, if_pos (by simp; assumption)]; exact liq r3 (.add V0 (.sub (.add V1 V2) V1)) (.add V0 V2) [] rfl
     refine hK'' .next _ _ ⟨true, re', upd tB i (tB i + q), _, _, rfl, ?_, ?_, ?_, hre'tm, ?_, zbt.1, by simp, fun _ => ?_⟩
     ·rw [hJ7]; exact (e'.trans e56).put htm _
     ·rw [hJ7]; exact zz _ _ _
     ·have : L J7 re' m.toNat (zoG m.toNat (yF rs) (fun v => g v - lap m rs tB v) (upd (fun _ => 0) i q)) := by
       rw [hJ7]; unfold L qM; rw [zY _ hre'tm]; exact hrel6
      refine this.cong fun v hv => ?_
      rw [zk1 n _ _ (by exact Mine.qE ‹_› ‹_›), zhO]
      have e0 := zhO (m := m) (rs := rs) (fun _ => 0) i q v
      have z0 : lap m rs (fun _ => 0) v = 0 := by
       have := wU m rs 0 0 (fun _ => 0) (fun _ => 0) v
       simpa using this
      have e00 : upd (fun _ => (0 : Int)) i (0 + q) = upd (fun _ => 0) i q := by rw [kbi]
      rw [e00, z0] at e0
      rw [e0]; exact liq r3 (.sub (.sub V0 V1) (.add N0 V2)) (.sub V0 (.add V1 V2)) [] rfl
     ·exact (e1.trans (e'.trans e5)).none hre6
     ·have h1 := zbt.2
      rw [hsum]
      cases b with
      | false => rw [(hb0 rfl).1]; exact lit r2 V0 (.add V0 V1) [(0,1,N1,V1)] rfl zbt.2
      | true => have := hb1 rfl; exact lit r3 V0 (.add V1 V2) [(0,1,N1,V2),(1,1,V0,V1)] rfl zbt.2 this
    ·refine qW (decide_eq_false hge) ?_
     refine hK'' .next _ _ ⟨b, re, tB, _, _, rfl, e', htl, hrl, hne', hre0', hf1, fun hb => ⟨(hb0 hb).1, fun v hv hvm => ?_⟩, hb1⟩
     by_cases hvi : v = i
     ·subst hvi
      rw [<- (hb0 hb).1]; exact kdR.mp ‹_›
     ·exact (hb0 hb).2 v (by exact ltN ((jW (lin r2 V0 V1 [(1,1,V0,.add V1 N1)] rfl (ltI hv)) hvi))) hvm
   ·rintro Z J'' ⟨b, re, tB, o7, o8, rfl, hcj⟩
    have e' := hcj.1; have htl := hcj.2.1; have hrl := hcj.2.2.1; have hne' := hcj.2.2.2.1; have hre0' := hcj.2.2.2.2.1; have hf1 := hcj.2.2.2.2.2.1; have hb0 := hcj.2.2.2.2.2.2.1; have hb1 := hcj.2.2.2.2.2.2.2; clear hcj
    refine ⟨trivial, ?_⟩
    refine hK .next _ _ ⟨⟨b, re, tB, _, _, rfl, e', htl, hrl, hne', hre0', hf1, fun hb v hv => ?_⟩, ?_⟩
    ·have := hb0 hb
     rw [this.1]
     exact this.2 v (by rw [z9]; exact Mine.yI ‹_›) hv
    ·have htls := htl
     unfold L qM at htls
     simp only [htls, ziV, zf, zg]
     have hle : zZ (kaa m.toNat) tB <= zZ (kaa m.toNat) t' := ze7 fun v hv => hf1.low t' ht'n ht's v (by first | exact zpy ‹_› hv | (have := kan.mp hv; omega))
     cases b with
     | false =>
      rw [<- hN, (hb0 rfl).1]
      show 2 * (zZ (kaa m.toNat) t' - zZ (kaa m.toNat) t).toNat + 0 < 2 * (zZ (kaa m.toNat) t' - zZ (kaa m.toNat) t).toNat + 1
      exact kao _
     | true =>
      have := hb1 rfl
      rw [<- hN]
      show 2 * (zZ (kaa m.toNat) t' - zZ (kaa m.toNat) tB).toNat + 1 < 2 * (zZ (kaa m.toNat) t' - zZ (kaa m.toNat) t).toNat + 1
      exact ltN (lit r5 (.add (.mulL 2 V0) N1) (.add (.mulL 2 V1) N1) [(1,2,V2,V3),(2,2,V0,.sub V4 V3),(2,-2,V1,.sub V4 V2)] rfl this (tnn (lin r2 N0 (.sub V0 V1) [(0,1,V1,V0)] rfl hle)) (tnn (lin r3 N0 (.sub V0 V1) [(0,1,V2,V0),(1,1,V1,V2)] rfl hle this)))
theorem zbT (hw : FnW T "is_within" 3 0 (yH T)) (h : FnW T "need_heap" 2 1 (yG T)) {m : Int} {hp : Addr} {g : Nat -> Int} (hm : 0 <= m) (hm' : m <= 10) (hh : L J hp m.toNat g) (hg : zbP m g) (hq : ∀ J', Ext J J' -> Q .none J') : zA T (d + 2) "need_heap" [.int m, .ref hp] J Q P := by
 refine h (d + 1) _ _ _ _ rfl ?_
 unfold yG
 have hhs := hh
 unfold L qM at hhs
 simp only [zG, je, zgk, zcj, zdx, zfq, zv, qf, qi, qe, zg, zf, isi, hhs, zm, kbv, kad, if_false, qH, qG, ze]
 refine zS hh ?_
 have e : ((m.toNat : Int) != m) = false := by simp; lia
 simp only [qc, qy, zd, Cmp.run, e, zm, kad, if_false, qC, zfO, qX, jr, zv, zg, zf, ze]
 refine zO hh ?_
 refine ⟨by rw [qc, qy]; unfold lim; exact leN (lin r2 V0 (.num 1000000) [(0,1,V1,.num 10),(2,1,V0,V1)] rfl hm' (tnn (hm))), ?_⟩
 refine qj (fun i acc J' => acc = kaD i (.bool true) /\ J' = J) ⟨rfl, rfl⟩ ?_ ?_
 ·intro i v acc J' K' hv hI6a hK
  obtain ⟨rfl, rfl⟩ := hI6a
  obtain ⟨x, hx, rfl⟩ := zm1 hv
  have hi : i < m.toNat := by
   have := (kae.mp hx).1
   rwa [qy] at this
  rw [yA _ hi] at hx
  cases hx
  refine ⟨.inl hh, ?_⟩
  refine yB (d := d) hw (hK _ _ ⟨?_, rfl⟩)
  have h1 := hg.lo i (by exact Mine.qE ‹_› ‹_›)
  have h2 := hg.hi i (by exact Mine.qE ‹_› ‹_›)
  simp only [h1, h2, and_self, decide_true]
  rw [kdp]
 ·rintro acc J' ⟨rfl, rfl⟩
  refine ⟨.inl hh, zh fun c J1 hc e1 hcv => ?_⟩
  refine zE hcv ?_
  refine ⟨kaD (zs (lst m.toNat g)).length true, by simp, ?_⟩
  have : ∀ k, (kaD k true).all id = true := fun k => by simp
  simp only [this, zm, kbv, kad, if_false, qC]
  exact hq J1 e1
end
end Mine
end
section
open PySem
namespace Mine
noncomputable def rb (m : Int) (rs : Rd2) (h : Nat -> Int) : Bool := (kaa m.toNat).all fun v => decide (h v < zU rs v)
theorem zm9 {m : Int} {rs : Rd2} {h : Nat -> Int} : rb m rs h = true ↔ ∀ v : Nat, (v : Int) < m -> h v < zU rs v := by
 unfold rb
 simp only [kaZ, kan, decide_eq_true_eq]
 exact ⟨fun H v hv => H v (by exact Mine.yI ‹_›), fun H v hv => H v (by exact (kbj.mp hv))⟩
theorem zlI (n : Nat) (f : Nat -> Bool) (k : List Bool -> Prop) (h : k ((kaa n).map f)) : zjW ((kaa n).map fun v => V.bool (f v)) k := ⟨_, by simp, h⟩
noncomputable def zkE (n : Nat) (f : Nat -> Bool) : List Int := ((kaa n).filter f).map fun i : Nat => (i : Int)
theorem zgU (n f) : zkE (n + 1) f = zkE n f ++ if f n then [(n : Int)] else [] := by
 unfold zkE
 rw [kaT, ka4]
 cases h : f n <;> simp [h]
theorem zi1 {n f} : zkE n f = [] ↔ ∀ i, i < n -> f i = false := by
 unfold zkE
 simp only [List.map_eq_nil_iff, List.filter_eq_nil_iff, kan]
 exact ⟨fun h i hi => by simpa using h i hi, fun h i hi => by simp [h i hi]⟩
section
variable {T : TC} {d : Nat} {J : zb} {Q : V -> zb -> Prop} {P : Nat -> zb -> Prop}
theorem zjw (hcn : FnW T "counts_at" 2 3 (jG T)) (h : FnW T "rests" 3 2 (zcn T)) {m : Int} {rs : Rd2} {r hp : Addr} {g : Nat -> Int} (n : Net m rs) (hr : zQ J r rs) (hh : L J hp m.toNat g) (hq : ∀ J', Ext J J' -> Q (.bool (rb m rs g)) J') : zA T (d + 2) "rests" [.int m, .ref r, .ref hp] J Q P := by
 have hm := n.m0; have hm' := n.m10
 have nn : ∀ p ∈ rs, 0 <= p.1 /\ 0 <= p.2 := fun p hp => ⟨(n.ends p hp).1.1, (n.ends p hp).2.1.1⟩
 refine h (d + 1) _ _ _ _ rfl ?_
 unfold zcn
 simp only [zG, zV, zL, zB, zK, zv, qf, qi, qe, zg, zf]
 refine zbW (d := d) hcn hm hm' hr nn fun c J1 e1 hc hcv => ?_
 rw [jZ hm nn] at hcv
 have hcl : L J1 c m.toNat (zU rs) := hcv
 simp only [zp, zq, j3, zfO, qX, jL, zv, zg, zf, zd]
 refine ⟨by first | exact qP ‹_› ‹_› | (unfold small; omega), by first | exact zdA ‹_› | (rw [z9]; unfold lim; omega), ?_⟩
 refine qj (fun i acc J' => acc = ((kaa i).map fun v => V.bool (decide (g v < zU rs v))) /\ J' = J1) ⟨rfl, rfl⟩ ?_ ?_
 ·intro i v acc J' K' hv hI6a hK
  obtain ⟨rfl, rfl⟩ := hI6a
  obtain ⟨hi, rfl⟩ := qI hv
  refine ⟨trivial, ?_⟩
  simp only [qv, if_true, zp, zq, qH, qA, zv, zg, zf, ze, zd, kbi]
  refine (hh.ext e1).at (by exact nnI _) (by exact kaE.mpr ‹_›) ?_
  refine hcl.at (by exact nnI _) (by exact kaE.mpr ‹_›) ?_
  exact hK _ _ ⟨by rw [kaT, ka0]; rfl, rfl⟩
 ·intro acc J' hI2b
  obtain ⟨rfl, rfl⟩ := hI2b
  refine ⟨trivial, zh fun l J2 hl e2 hlv => ?_⟩
  refine zE hlv ?_
  rw [z9]
  refine zlI _ _ _ ?_
  have := hq J2 (e1.trans e2)
  unfold rb at this
  rw [List.all_map]
  exact this
end
end Mine
end
section
open PySem
namespace Mine
end Mine
end
section
open PySem
namespace Mine
section
variable {T : TC} {d : Nat} {J : zb} {Q : V -> zb -> Prop} {P : Nat -> zb -> Prop}
theorem zjN {m : Int} {Z : zM} {a e : EW} {j : Nat} (hm : 0 <= m) (hm' : m <= 10) (ha : ∀ (J : zb) (Q : V -> zb -> Prop) (P : Nat -> zb -> Prop), a Z J Q P = Q (.int m) J) (f : Nat -> Int)
  (step : ∀ (i : Nat) J' (K : V -> zb -> Prop), (i : Int) < m -> Ext J J' -> (∀ J'', Ext J' J'' -> K (.int (f i)) J'') -> e (yz Z j (.int i)) J' K noP)
  (hq : ∀ c J', J c = none -> Ext J J' -> L J' c m.toNat f -> Q (.ref c) J') : ju j (jJ a) none e Z J Q P := by
 rw [qX, jL, ha]
 refine ⟨by first | exact qP ‹_› ‹_› | (unfold small; omega), by first | exact zdA ‹_› | (rw [z9]; unfold lim; omega), ?_⟩
 refine qj (fun i acc J' => acc = zs (lst i f) /\ Ext J J') ⟨rfl, Ext.refl⟩ ?_ ?_
 ·intro i v acc J' K' hv hI6a hK
  obtain ⟨rfl, e'⟩ := hI6a
  obtain ⟨hi, rfl⟩ := qI hv
  refine ⟨trivial, ?_⟩
  simp only [qv, if_true, kbi]
  refine step i J' _ (by exact Mine.qE ‹_› ‹_›) e' fun J'' e'' => hK _ _ ⟨?_, e'.trans e''⟩
  rw [zb7, <- zc7]; rfl
 ·intro acc J' hI2b
  obtain ⟨rfl, e'⟩ := hI2b
  refine ⟨trivial, zh fun c J'' hc e'' hcv => ?_⟩
  rw [z9] at hcv
  exact hq c J'' (e'.none hc) (e'.trans e'') hcv
theorem zlz {m : Int} {Z : zM} {a c e : EW} {j : Nat} (hm : 0 <= m) (hm' : m <= 10) (ha : ∀ (J : zb) (Q : V -> zb -> Prop) (P : Nat -> zb -> Prop), a Z J Q P = Q (.int m) J) (f : Nat -> Bool)
  (test : ∀ (i : Nat) J' (K : V -> zb -> Prop), (i : Int) < m -> Ext J J' -> (∀ J'', Ext J' J'' -> K (.bool (f i)) J'') -> c (yz Z j (.int i)) J' K noP)
  (he : ∀ (i : Nat) J' (K : V -> zb -> Prop), K (.int i) J' -> e (yz Z j (.int i)) J' K noP)
  (hq : ∀ c J', J c = none -> Ext J J' -> qM J' c (zkE m.toNat f) -> Q (.ref c) J') : ju j (jJ a) (some c) e Z J Q P := by
 rw [qX, jL, ha]
 refine ⟨by first | exact qP ‹_› ‹_› | (unfold small; omega), by first | exact zdA ‹_› | (rw [z9]; unfold lim; omega), ?_⟩
 refine qj (fun i acc J' => acc = zs (zkE i f) /\ Ext J J') ⟨rfl, Ext.refl⟩ ?_ ?_
 ·intro i v acc J' K' hv hI6a hK
  obtain ⟨rfl, e'⟩ := hI6a
  obtain ⟨hi, rfl⟩ := qI hv
  refine ⟨trivial, ?_⟩
  simp only [q8, kbi]
  refine test i J' _ (by exact Mine.qE ‹_› ‹_›) e' fun J'' e'' => ?_
  simp only [zm]
  split
  ·rename_i hc'
   refine he i _ _ (hK _ _ ⟨?_, e'.trans e''⟩)
   rw [zgU, hc', if_pos rfl, <- zc7]; rfl
  ·rename_i hc'
   refine hK _ _ ⟨?_, e'.trans e''⟩
   rw [zgU, if_neg hc', kaR]
 ·intro acc J' hI2b
  obtain ⟨rfl, e'⟩ := hI2b
  refine ⟨trivial, zh fun c J'' hc e'' hcv => ?_⟩
  rw [z9] at hcv
  exact hq c J'' (e'.none hc) (e'.trans e'') hcv
end
theorem it0 {a b : V} {k : V -> Prop} : yR [a, b] (kcE 0) k = k a := yZ rfl
theorem it1 {a b : V} {k : V -> Prop} : yR [a, b] (kcE 1) k = k b := yZ rfl
theorem zqQ {J : zb} {Q : V -> zb -> Prop} {P : Nat -> zb -> Prop} {x m : Int} {Z : zM} {a : EW} (hm : 0 <= m) (hm' : m <= 10) (ha : ∀ (J : zb) (Q : V -> zb -> Prop) (P : Nat -> zb -> Prop), a Z J Q P = Q (.int m) J) (hq : ∀ c J', J c = none -> Ext J J' -> L J' c m.toNat (fun _ => x) -> Q (.ref c) J') : mulL (qF (zi (val (.int x)) zF)) a Z J Q P := by
 refine ⟨by first | exact kak rfl | simp [lim], zh fun c J1 hc e1 hv => ?_⟩
 rw [ha]
 refine zE hv ?_
 refine ⟨by exact lit r1 V0 (.num 4611686018427387904) [(0,1,V0,.num 10)] rfl hm', by exact lin r1 (.neg (.num 4611686018427387904)) V0 [(0,1,N0,V0)] rfl hm, by simp [lim]; exact lin r1 V0 (.num 1000000) [(0,1,V0,.num 10)] rfl hm', zh fun c' J2 hc' e2 hv2 => ?_⟩
 refine hq c' J2 (e1.none hc') (e1.trans e2) ?_
 unfold L qM
 rw [hv2, <- zhJ]
 congr 2
 unfold zs
 generalize m.toNat = k
 induction k with
 | zero => rfl
 | succ k ih => rw [kbL, kbL, kcT, ih]; rfl
section
variable {T : TC} {d : Nat} {J : zb} {Q : V -> zb -> Prop} {P : Nat -> zb -> Prop}
theorem zql {m : Int} {rs : Rd2} {t : Nat -> Int} {C : Int} (hC : 0 <= C) (n : Net m rs) (ht : ∀ v : Nat, (v : Int) < m -> t v <= C) (v : Nat) : (jh (qL rs) fun a => if a.1 = (v : Int) then tx m t a.2 else 0) <= C * zU rs v := by
 have h1 : (jh (qL rs) fun a => if a.1 = (v : Int) then tx m t a.2 else 0) <= jh (qL rs) fun a => C * (if a.1 = (v : Int) then 1 else 0) + 0 * 0 := j7 fun a ha => by
  have := (n.arc ha).2
  by_cases h : a.1 = (v : Int)
  ·simp only [h, if_true]
   unfold tx
   split
   ·have := ht a.2.toNat (by exact lit r3 V0 V1 [(1,1,V2,V1),(2,1,V0,V2)] rfl ‹_› (tnn (this.1))); exact lin r2 V0 (.add (.mulR V1 1) (.mulL 0 N0)) [(0,1,V0,V1)] rfl this
   ·exact lin r1 N0 (.add (.mulR V0 1) (.mulL 0 N0)) [(0,1,N0,V0)] rfl hC
  ·simp [h]
 rw [zdi C 0 (fun a => if a.1 = (v : Int) then 1 else 0) (fun _ => 0)] at h1
 unfold zU
 exact lin r3 V0 V1 [(0,1,V0,.add V1 (.mulL 0 V2))] rfl h1
end
end Mine
end
section
open PySem
namespace Mine
theorem zdW {m : Int} (rs : Rd2) (a b : Int) (v : Nat) : lap m (rs ++ [(a, b)]) (fun _ => 1) v = lap m rs (fun _ => 1) v + ((if a = (v : Int) then 1 - (if b < m then 1 else 0) else 0) + if b = (v : Int) then 1 - (if a < m then 1 else 0) else 0) := by
 unfold lap
 have e : qL (rs ++ [(a, b)]) = qL rs ++ [(a, b), (b, a)] := by simp [qL]
 rw [e, zaE]
 simp [jh, tx]
section
variable {T : TC} {d : Nat} {J : zb} {Q : V -> zb -> Prop} {P : Nat -> zb -> Prop}
theorem zbS (h : FnW T "other_end" 2 0 (jF T)) {t : Addr} {a b m : Int} (ht : J t = some (.tup [.int a, .int b])) (hq : Q (.int (if b = m then a else b)) J) : zA T (d + 1) "other_end" [.ref t, .int m] J Q P := by
 refine h d _ _ _ _ rfl ?_
 unfold jF
 simp only [j3, zjH, qH, qA, qo, zv, qf, qi, qe, zg, zf, ze, zd]
 refine ⟨by exact nnI _, ?_⟩
 refine j2 ht ?_
 rw [it1]
 simp only [zd, zm, Cmp.run]
 by_cases hb : b = m
 ·simp only [hb, beq_self_eq_true, if_true] at hq ⊢
  refine ⟨by exact nnI _, ?_⟩
  refine j2 ht ?_
  rw [it0]
  exact hq
 ·have : (b == m) = false := by simp [hb]
  simp only [this, hb, kad, if_false] at hq ⊢
  refine ⟨by exact nnI _, ?_⟩
  refine j2 ht ?_
  rw [it1]
  exact hq
theorem zet (ho : FnW T "other_end" 2 0 (jF T)) (h : FnW T "pit_counts" 2 3 (ya T)) {m : Int} {rs : Rd2} {r : Addr} (n : Net m rs) (hr : zQ J r rs)
  (hq : ∀ c J', Ext J J' -> J c = none -> L J' c m.toNat (lap m rs fun _ => 1) -> Q (.ref c) J') : zA T (d + 2) "pit_counts" [.int m, .ref r] J Q P := by
 have hm := n.m0; have hm' := n.m10
 refine h (d + 1) _ _ _ _ rfl ?_
 obtain ⟨vs, hr1, hr2⟩ := hr
 unfold ya
 refine znA hm hm' (y9 rfl) fun c J1 hc e1 hcl => ?_
 simp only [qf, qi, qe, zp, zq]
 rw [zG]
 simp only [jz, jr, zv, zg, zf, ze]
 refine zO (e1 _ _ hr1) ?_
 refine zI (fun i Z J' => X2 fun o3 o4 => Z = [some (.int m), some (.ref r), some (.ref c), o3, o4] /\ Ext J J' /\ L J' c m.toNat (lap m (rs.take i) fun _ => 1)) ?_ ?_ ?_
 ·exact ⟨_, _, rfl, e1, hcl.cong fun v _ => by simp [lap, qL, jh]⟩
 ·intro i v Z J' K' hv hI6a hK
  obtain ⟨o3, o4, rfl, hcj⟩ := hI6a
  have e := hcj.1; have hi := hcj.2; clear hcj
  obtain ⟨t, a, b, rfl, hrs, ht⟩ := hr2.get hv
  have hab := n.ends _ (kaj hrs)
  have htk : rs.take (i + 1) = rs.take i ++ [(a, b)] := by rw [kaY, hrs]; rfl
  refine ⟨.inl (e _ _ hr1), ?_⟩
  unfold zbo
  simp only [ql, zq, zp, je, zom, zv, zg, zf]
  refine InV.tup (ns := [a, b]) (e _ _ ht) ?_
  have ha : ∃ x : Nat, a = (x : Int) := ⟨a.toNat, by exact liq r2 V0 V1 [(2,-1,V1,V0)] rfl (tnn (hab.1.1))⟩
  have hb : ∃ y : Nat, b = (y : Int) := ⟨b.toNat, by exact liq r2 V0 V1 [(2,-1,V1,V0)] rfl (tnn (hab.2.1.1))⟩
  obtain ⟨x, rfl⟩ := ha
  obtain ⟨y, rfl⟩ := hb
  by_cases hin : m ∈ [(x : Int), (y : Int)]
  ·refine qD (decide_eq_true hin) ?_
   refine zbS (d := d) ho (e _ _ ht) ?_
   simp only [zq, zp, zay, jf, qA, qo, zv, zg, zf, ze, zd]
   have key : ∀ z : Nat, (z : Int) < m -> (∀ v, v < m.toNat -> lap m (rs.take (i + 1)) (fun _ => 1) v = upd (lap m (rs.take i) fun _ => 1) z (lap m (rs.take i) (fun _ => 1) z + 1) v) ->
     0 <= (z : Int) /\ yE J' c fun xs => yR xs (z : Int).toNat fun v => v.asInt fun x => zex J' c (z : Int) (.int (x + 1)) fun J'' => K' .next [some (.int m), some (.ref r), some (.ref c), some (.ref t), some (.int z)] J'' := by
    intro z hz hupd
    refine hi.at (by exact nnI _) (by exact Mine.lt_toNat ‹_›) ?_
    refine hi.set (by exact nnI _) (by exact Mine.lt_toNat ‹_›) fun J2 hJ2 => ?_
    rw [kai] at hJ2
    refine hK .next _ _ ⟨_, _, rfl, by rw [hJ2]; exact e.put hc _, ?_⟩
    have : L J2 c m.toNat (upd (lap m (rs.take i) fun _ => 1) z (lap m (rs.take i) (fun _ => 1) z + 1)) := by rw [hJ2]; exact zz _ _ _
    exact this.cong fun v hv => (hupd v hv).symm
   by_cases hy : (y : Int) = m
   ·simp only [hy, if_true]
    refine key x (by omega) fun v hv => ?_
    rw [htk, zdW]
    unfold upd
    by_cases hvx : v = x
    ·subst hvx
     have hvm := qE hm hv
     have : ¬ (y : Int) = (v : Int) := fun e => kb1 m (by rw [<- e, hy] at hvm; exact hvm)
     have h2 : ¬ (y : Int) < m := by rw [hy]; exact kb1 m
     rw [if_pos rfl, if_neg h2, if_neg this, if_pos rfl]; rfl
    ·have hvm := qE hm hv
     have h1 : ¬ (x : Int) = (v : Int) := fun e => hvx (Int.ofNat.inj e).symm
     have h2 : ¬ (y : Int) = (v : Int) := fun e => kb1 m (by rw [<- e, hy] at hvm; exact hvm)
     rw [if_neg h1, if_neg h2, if_neg hvx, kbJ, kbJ]
   ·have hx : (x : Int) = m := by simp at hin; lia
    simp only [hy, if_false]
    refine key y (by exact (wT (hab.2.1.2) hy)) fun v hv => ?_
    rw [htk, zdW]
    unfold upd
    by_cases hvx : v = y
    ·subst hvx
     have hvm := qE hm hv
     have : ¬ (x : Int) = (v : Int) := fun e => kb1 m (by rw [<- e, hx] at hvm; exact hvm)
     have h2 : ¬ (x : Int) < m := by rw [hx]; exact kb1 m
     rw [if_neg this, if_pos rfl, if_neg h2, if_pos rfl]; rfl
    ·have hvm := qE hm hv
     have h1 : ¬ (y : Int) = (v : Int) := fun e => hvx (Int.ofNat.inj e).symm
     have h2 : ¬ (x : Int) = (v : Int) := fun e => kb1 m (by rw [<- e, hx] at hvm; exact hvm)
     rw [if_neg h1, if_neg h2, if_neg hvx, kbJ, kbJ]
  ·refine qW (decide_eq_false hin) ?_
   refine hK .next _ _ ⟨_, _, rfl, e, hi.cong fun v hv => ?_⟩
   rw [htk, zdW]
   simp only [kah, kaM, or_false, not_or] at hin
   have h1 : (x : Int) < m := by exact (wT (hab.1.2) (Ne.symm hin.1))
   have h2 : (y : Int) < m := by exact (wT (hab.2.1.2) (Ne.symm hin.2))
   simp [h1, h2]
 ·rintro Z J' ⟨o3, o4, rfl, hcj⟩
  have e := hcj.1; have hi := hcj.2; clear hcj
  refine ⟨.inl (e _ _ hr1), ?_⟩
  refine hq c J' e hc ?_
  rw [hr2.length, kaL] at hi
  exact hi
end
def zlY (m : Int) (rs : Rd2) (g : Nat -> Int) : Prop := (∀ v : Nat, (v : Int) < m -> g v < zU rs v) /\ ∀ t, zcY m rs (fun v => g v + lap m rs (fun _ => 1) v) t -> ∀ v : Nat, (v : Int) < m -> t v = 1
theorem zcQ {m : Int} {rs : Rd2} (n : Net m rs) {v : Nat} (hv : (v : Int) < m) : 0 <= lap m rs (fun _ => 1) v /\ lap m rs (fun _ => 1) v <= zU rs v := by
 have h1 := yY (m := m) (rs := rs) (fun _ => 1) v
 have h2 := zia n (t := fun _ => 1) (fun _ _ => (by decide : (0 : Int) <= 1)) v
 have h3 := zql (C := 1) (t := fun _ => 1) (by decide) n (fun _ _ => kaK _) v
 exact ⟨lin r3 N0 V0 [(2,-1,V0,.sub (.mulR V1 1) V2),(0,1,V2,.mulL 1 V1)] rfl h1 h3, lin r3 V0 V1 [(2,1,V0,.sub (.mulR V1 1) V2),(0,1,N0,V2)] rfl h1 h2⟩
theorem zmS {m : Int} {rs : Rd2} {g t : Nat -> Int} (n : Net m rs) (hL : zcY m rs (fun v => g v + lap m rs (fun _ => 1) v) t) (hr : ∀ v : Nat, (v : Int) < m -> g v < zU rs v) : (lst m.toNat (fun v => g v + lap m rs (fun _ => 1) v - lap m rs t v) = lst m.toNat g) ↔ zlY m rs g := by
 constructor
 ·intro h
  refine ⟨hr, fun t' hL' v hv => ?_⟩
  have h1 : ∀ v : Nat, (v : Int) < m -> lap m rs (fun u => 1 * t u + (-1) * 1) v = 0 := fun v hv => by
   rw [wU m rs 1 (-1) t (fun _ => 1) v]
   have := zof h v (by exact Mine.yI ‹_›)
   exact liq r3 (.add (.mulL 1 V0) (.mulL (-1) V1)) N0 [(2,-1,.sub (.add V2 V1) V0,V2)] rfl this
  have h2 := zoh n h1 v hv
  have h3 := hL'.uniq hL v hv
  try simp only at h2
  exact liq r2 V0 N1 [(2,1,.add (.mulL 1 V1) (.mulL (-1) N1),N0),(2,1,V0,V1)] rfl h2 h3
 ·rintro ⟨_, h⟩
  refine zaA fun v hv => ?_
  have := zls (m := m) (rs := rs) (f := t) (g := fun _ => 1) (v := v) (by exact (kbj.mp hv)) n.ends fun u hu => h t hL u hu
  exact liq r3 (.sub (.add V0 V1) V2) V0 [(2,-1,V2,V1)] rfl this
structure znI (T : TC) : Prop where
 H : zh2 T
 counts : FnW T "counts_at" 2 3 (jG T)
 rests : FnW T "rests" 3 2 (zcn T)
 other : FnW T "other_end" 2 0 (jF T)
 pit : FnW T "pit_counts" 2 3 (ya T)
 is : FnW T "is_again" 3 3 (zat T)
structure zjn (T : TC) : Prop where
 N : zgJ T
 H : zh2 T
 need : FnW T "need_heap" 2 1 (yG T)
 counts : FnW T "counts_at" 2 3 (jG T)
 rests : FnW T "rests" 3 2 (zcn T)
 other : FnW T "other_end" 2 0 (jF T)
 pit : FnW T "pit_counts" 2 3 (ya T)
 is : FnW T "is_again" 3 3 (zat T)
 comes : FnW T "comes_again" 3 0 (wv T)
section
variable {T : TC} {d : Nat} {J : zb} {Q : V -> zb -> Prop} {P : Nat -> zb -> Prop}
theorem zcA (F : znI T) {m : Int} {rs : Rd2} {r hp : Addr} {g : Nat -> Int} (n : Net m rs) (hr : zQ J r rs) (hh : L J hp m.toNat g) (hg : Nn m g)
  (hq : ∀ b J', Ext J J' -> (b = true ↔ zlY m rs g) -> Q (.bool b) J') : zA T (d + 6) "is_again" [.int m, .ref r, .ref hp] J Q P := by
 have hm := n.m0; have hm' := n.m10
 refine F.is (d + 5) _ _ _ _ rfl ?_
 unfold zat
 simp only [je, zcj, zdx, zL, zB, zK, zv, qf, qi, qe, zg, zf]
 refine zjw (d := d + 3) F.counts F.rests n hr hh fun J1 e1 => ?_
 cases hrb : rb m rs g with
 | false =>
  refine hq false J1 e1 ⟨fun h => (by cases h), fun h => ?_⟩
  have := zm9.mpr h.1
  rw [hrb] at this; cases this
 | true =>
  have hrest := zm9.mp hrb
  refine zet (d := d + 3) F.other F.pit n (hr.ext e1) fun c J2 e2 hc hcl => ?_
  have e12 := e1.trans e2
  refine zjN hm hm' (y9 rfl) (fun v => g v + lap m rs (fun _ => 1) v) (fun i J'' K'' hi e'' hk' => ?_) fun mo J3 hmo e3 hmol => ?_
  ·simp only [zp, zq, jf, qA, zv, zg, zf, ze, zd]
   refine ((hh.ext e12).ext e'').at (by exact nnI _) (by exact Mine.lt_toNat ‹_›) ?_
   refine (hcl.ext e'').at (by exact nnI _) (by exact Mine.lt_toNat ‹_›) ?_
   exact hk' J'' Ext.refl
  ·simp only [zp, zq, j3, zjM, qA, zL, zB, zK, qo, zv, zg, zf]
   have hI : zbP m (fun v => g v + lap m rs (fun _ => 1) v) := ⟨fun v hv => by have := hg v hv; have := zcQ n hv; show 0 <= g v + _; exact lin r2 N0 (.add V0 V1) [(0,1,N0,V0),(0,1,N0,V1)] rfl ‹_› this.1, fun v hv => by
    have := hrest v hv; have := zcQ n hv; have := zhY n v
    show g v + _ <= _; lia⟩
   refine ziG (d := d) F.H n ((hr.ext e12).ext e3) hmol hI.b fun tp re tm t J4 e4 htp hre htm hL hne _ _ => ?_
   refine ⟨by exact nnI _, ?_⟩
   refine j2 htp ?_
   rw [it0]
   refine Eqv.zs hre (((hh.ext e12).ext e3).ext e4) ?_
   simp only [kad, if_false]
   refine hq _ J4 ((e12.trans e3).trans e4) ?_
   rw [decide_eq_true_eq]
   exact zmS n hL hrest
theorem zdG (F : zjn T) {m : Int} {rs : Rd2} {r hp : Addr} {g : Nat -> Int} (n : Net m rs) (hr : zQ J r rs) (hh : L J hp m.toNat g) (hg : zbP m g)
  (hq : ∀ b J', Ext J J' -> (b = true ↔ zlY m rs g) -> Q (.bool b) J') : zA T (d + 7) "comes_again" [.int m, .ref r, .ref hp] J Q P := by
 refine F.comes (d + 6) _ _ _ _ rfl ?_
 unfold wv
 simp only [zG, yS, zL, zB, zK, zv, qf, qi, qe, zg, zf, j3]
 refine wx (d := d + 3) F.N n hr fun J1 e1 => ?_
 refine zbT (d := d + 4) F.N.within F.need n.m0 n.m10 (hh.ext e1) hg fun J2 e2 => ?_
 have e12 := e1.trans e2
 refine zcA (d := d) ⟨F.H, F.counts, F.rests, F.other, F.pit, F.is⟩ n (hr.ext e12) (hh.ext e12) hg.lo fun b J3 e3 hb => hq b J3 (e12.trans e3) hb
end
theorem zn2 {Z J K P} (x : Nat) : zez x Z J K P = P x J := rfl
section
variable {T : TC} {d : Nat} {J : zb} {Q : V -> zb -> Prop} {P : Nat -> zb -> Prop}
end
end Mine
end
section
open PySem
namespace Mine
noncomputable def zcS (ks : List Int) (k : Int) (p : Int × Int) : Bool := decide (k ∈ [p.1, p.2]) && (decide (p.1 ∈ ks) || decide (p.2 ∈ ks))
noncomputable def qR (ks : List Int) : Int -> Bool := fun q => decide (q ∈ ks)
theorem zor {ks : List Int} {k : Int} (hk : k ∉ ks) {rs : Rd2} : (∀ p ∈ rs, p.1 ≠ p.2) -> ((rs.filter (zcS ks k)).length : Int) = nb rs k (qR ks) := by
 induction rs with
 | nil => exact fun _ => rfl
 | cons p rs ih =>
  intro h
  have h1 := ih fun q hq => h q (kal _ hq)
  have hne := h p (kaq ..)
  have e : nb (p :: rs) k (qR ks) = (if p.1 = k then (if qR ks p.2 then 1 else 0) else 0) + ((if p.2 = k then (if qR ks p.1 then 1 else 0) else 0) + nb rs k (qR ks)) := rfl
  rw [e, <- h1, kbO]
  unfold zcS qR
  by_cases h2 : p.1 = k
  ·have h3 : ¬ p.2 = k := fun h => hne (h2.trans h.symm)
   subst h2
   simp only [kah, true_or, decide_true, kbG, hk, decide_false, kdh, h3, if_true, if_false]
   by_cases h4 : p.2 ∈ ks <;> simp [h4] <;> exact liq r1 (.add V0 N1) (.add N1 V0) [] rfl
  ·by_cases h3 : p.2 = k
   ·subst h3
    have h2' : ¬ p.2 = p.1 := fun h => h2 h.symm
    simp only [kah, kaM, or_false, or_true, decide_true, kbG, hk, decide_false, kdg, h2, if_true, if_false]
    by_cases h4 : p.1 ∈ ks <;> simp [h4] <;> exact liq r1 (.add V0 N1) (.add N1 V0) [] rfl
   ·have h2' : ¬ k = p.1 := fun h => h2 h.symm
    have h3' : ¬ k = p.2 := fun h => h3 h.symm
    simp [h2, h3, h2', h3']
section
variable {m : Int} {rs : Rd2}
structure Bn (m : Int) (rs : Rd2) (g : Nat -> Int) (ks : List Int) : Prop where
 nd : ks.Nodup
 pit : m ∈ ks
 rng : ∀ k ∈ ks, 0 <= k /\ k <= m
 sound : ∀ z : Nat -> Int, (∀ v : Nat, (v : Int) < m -> z v = 0 \/ z v = 1) -> (∀ v : Nat, (v : Int) < m -> z v = 1 -> g v + lap m rs z v < zU rs v) -> ∀ k : Nat, (k : Int) < m -> (k : Int) ∈ ks -> z k = 0
def zh5 (m : Int) (rs : Rd2) (g : Nat -> Int) (ks : List Int) : Prop := ∀ k : Nat, (k : Int) < m -> (k : Int) ∉ ks -> g k + nb rs k (qR ks) < zU rs k
theorem Bn.start (g : Nat -> Int) (hm : 0 <= m) : Bn m rs g [m] := ⟨kaQ.mpr ⟨kaM, kcv⟩, kaf.mpr rfl, fun k hk => by rw [kaf.mp hk]; exact ⟨hm, kaK _⟩, fun z _ _ k hk h => by have := kaf.mp h; exact lif r2 [(1,1,V0,V1),(2,-1,V0,V1)] rfl hk this⟩
theorem Bn.step (n : Net m rs) {g : Nat -> Int} {ks : List Int} (B : Bn m rs g ks) {k : Nat} (hk : (k : Int) < m) (hn : (k : Int) ∉ ks) (hge : zU rs k <= g k + nb rs k (qR ks)) : Bn m rs g (ks ++ [(k : Int)]) := by
 refine ⟨kbg.mpr ⟨B.nd, kaQ.mpr ⟨kaM, kcv⟩, fun a ha b hb h => hn (by rw [<- kaf.mp hb, <- h]; exact ha)⟩, kbp _ B.pit, fun x hx => ?_, fun z h1 h2 v hv hm => ?_⟩
 ·rcases kau.mp hx with h | h
  ·exact B.rng x h
  ·rw [kaf.mp h]; exact ⟨nnI _, kaF hk⟩
 ·rcases kau.mp hm with h | h
  ·exact B.sound z h1 h2 v hv h
  ·have hvk : v = k := Int.ofNat.inj (kaf.mp h)
   subst hvk
   rcases h1 v hv with h | h
   ·exact h
   ·exfalso
    have h3 := h2 v hv h
    have h4 : nb rs v (qR ks) <= lap m rs z v := j7 fun a ha => by
     by_cases ha1 : a.1 = (v : Int)
     ·rw [if_pos ha1, if_pos ha1, h]
      have ha2 := (n.arc ha).2
      unfold tx qR
      by_cases ha3 : a.2 < m
      ·rw [if_pos ha3]
       obtain ⟨u, hu⟩ := kay ha2.1
       rw [hu] at ha3 ⊢
       rw [kai]
       by_cases hb : (u : Int) ∈ ks
       ·rw [B.sound z h1 h2 u ha3 hb]; split <;> decide
       ·simp only [hb, decide_false, kad, if_false]
        rcases h1 u ha3 with h | h <;> (first | exact lin r1 N0 (.sub N1 V0) [(2,1,V0,N0)] rfl h | exact lin r1 N0 (.sub N1 V0) [(2,1,V0,N1)] rfl h)
      ·rw [if_neg ha3]; split <;> decide
     ·rw [if_neg ha1, if_neg ha1]; exact kaK _
    exact lif r4 [(0,1,V0,.add V1 V2),(1,1,.add V1 V3,V0),(0,1,V2,V3)] rfl hge h3 h4
theorem Bn.all {g : Nat -> Int} {ks : List Int} (hm : 0 <= m) (B : Bn m rs g ks) (hl : (ks.length : Int) = m + 1) : ∀ k : Nat, (k : Int) < m -> (k : Int) ∈ ks := fun k hk => by
 apply kaw
 intro hn
 have := wd m.toNat ((k : Int) :: ks) (kaQ.mpr ⟨hn, B.nd⟩) fun x hx => by
  rw [tnn hm]
  rcases kah.mp hx with h | h
  ·rw [h]; exact ⟨nnI _, kaF hk⟩
  ·exact B.rng x h
 rw [kag] at this
 exact lif (@r3 (↑(ks.length)) _ (↑(m.toNat))) [(2,-1,V0,.add V1 N1),(0,1,.add V0 N1,.add V2 N1),(2,1,V2,V1)] rfl hl (leI this) (tnn (hm))
theorem Bn.fin (n : Net m rs) {g : Nat -> Int} {ks : List Int} (B : Bn m rs g ks) (h0 : Nn m g) (hr : ∀ v : Nat, (v : Int) < m -> g v < zU rs v) (hc : m + 1 <= (ks.length : Int) \/ zh5 m rs g ks) : (ks.length : Int) = m + 1 ↔ Rec m rs g := by
 have hm := n.m0
 have hle : (ks.length : Int) <= m + 1 := by
  have := wd m.toNat ks B.nd fun x hx => by rw [tnn hm]; exact B.rng x hx
  exact lin (@r3 (↑(ks.length)) _ (↑(m.toNat))) V0 (.add V1 N1) [(0,1,V0,.add V2 N1),(2,1,V2,V1)] rfl (leI this) (tnn (hm))
 constructor
 ·intro hl
  exact ⟨h0, hr, fun z h1 h2 v hv => B.sound z h1 h2 v hv (B.all hm hl v hv)⟩
 ·intro R
  rcases hc with hc | hc
  ·exact kav (hle) (hc)
  ·have h1 := R.amp (fun v => if qR ks v then 0 else 1) (fun v _ => by split; exact .inl rfl; exact .inr rfl) (fun v hv hz => by
    have hn : (v : Int) ∉ ks := fun h => by
     have : qR ks v = true := decide_eq_true h
     simp [this] at hz
    refine kcd (kcq (j7 fun a ha => ?_) _) (hc v hv hn)
    by_cases ha1 : a.1 = (v : Int)
    ·rw [if_pos ha1, if_pos ha1]
     have ha2 := (n.arc ha).2
     show (if qR ks v = true then (0 : Int) else 1) - (if a.2 < m then (if qR ks (a.2.toNat : Int) = true then (0 : Int) else 1) else 0) <= _
     rw [hz]
     by_cases ha3 : a.2 < m
     ·rw [if_pos ha3, tnn ha2.1]
      cases qR ks a.2 <;> decide
     ·have : a.2 = m := kav ha2.2 (kb9.mp ha3)
      rw [if_neg ha3, this, show qR ks m = true from decide_eq_true B.pit]; decide
    ·rw [if_neg ha1, if_neg ha1]; exact kaK _)
   have := zbb m.toNat ks fun k h0 hk => by
    rw [tnn hm] at hk
    by_cases hkm : k < m
    ·obtain ⟨u, rfl⟩ := kay h0
     have := h1 u hkm
     by_cases hb : (u : Int) ∈ ks
     ·exact hb
     ·have e : qR ks u = false := decide_eq_false hb
      rw [e] at this
      exact absurd this (by decide)
    ·have : k = m := by exact kav (hk) (lin r2 V0 V1 [(4,1,V1,V0)] rfl hkm)
     rw [this]; exact B.pit
   exact kav (hle) (lin (@r3 _ (↑(ks.length)) (↑(m.toNat))) (.add V0 N1) V1 [(0,1,.add V2 N1,V1),(2,-1,V2,V0)] rfl (leI this) (tnn (hm)))
end
section
variable {T : TC} {d : Nat} {J : zb} {Q : V -> zb -> Prop} {P : Nat -> zb -> Prop}
theorem zao {m : Int} {Z : zM} {a : EW} {b : SW} {j : Nat} {K : Out -> zM -> zb -> Prop} (hm : 0 <= m) (hm' : m <= 10) (ha : ∀ (J : zb) (Q : V -> zb -> Prop) (P : Nat -> zb -> Prop), a Z J Q P = Q (.int m) J) (I : Nat -> zM -> zb -> Prop) (h0 : I 0 Z J)
  (step : ∀ (i : Nat) Z J' (K' : Out -> zM -> zb -> Prop), (i : Int) < m -> I i Z J' -> (∀ Z' J'', I (i + 1) Z' J'' -> K' .next Z' J'') -> b (yz Z j (.int i)) J' K' noP)
  (fin : ∀ Z J', I m.toNat Z J' -> K .next Z J') : yp (.nm j) (jJ a) b Z J K P := by
 rw [jz, jL, ha]
 refine ⟨qP hm hm', ?_⟩
 refine zI I h0 (fun i v Z J' K' hv hi hK => ?_) fun Z J' h => ⟨trivial, fin Z J' (by rw [z9] at h; exact h)⟩
 obtain ⟨hl, rfl⟩ := qI hv
 rw [kbi]
 exact ⟨trivial, step i Z J' K' (qE hm hl) hi fun Z' J'' h => hK .next Z' J'' h⟩
noncomputable def burnt (rs : Rd2) (g : Nat -> Int) (ks : List Int) (k : Nat) : List Int := if (k : Int) ∉ ks /\ zU rs k <= g k + nb rs k (qR ks) then ks ++ [(k : Int)] else ks
theorem zmT {m : Int} {rs : Rd2} {g : Nat -> Int} {ks : List Int} {k : Nat} {JA : zb} {r hp mo bu : Addr} {o5 o7 : Option V} {K : Out -> zM -> zb -> Prop} (n : Net m rs) (e0 : Ext JA J) (hr : zQ JA r rs) (hh : L JA hp m.toNat g) (hmo : L JA mo m.toNat (zU rs)) (hb0 : JA bu = none) (hbu : J bu = some (.dict (dk ks))) (hk : (k : Int) < m) (hks : ks.length <= 20)
  (hK : ∀ o7 J', Ext JA J' -> J' bu = some (.dict (dk (burnt rs g ks k))) -> K .next [some (.int m), some (.ref r), some (.ref hp), some (.ref mo), some (.ref bu), o5, some (.int k), o7, none] J') :
  w7 T d [some (.int m), some (.ref r), some (.ref hp), some (.ref mo), some (.ref bu), o5, some (.int k), o7, none] J K P := by
 have hm := n.m0; have hm' := n.m10
 obtain ⟨vs, hr1, hr2⟩ := hr
 have hlen := n.len
 unfold w7
 rw [zG]
 simp only [zV, qX, jr, zv, zg, zf, ze]
 refine zO (e0 _ _ hr1) ?_
 refine ⟨by rw [hr2.length]; unfold lim; exact leN (lin r1 V0 (.num 1000000) [(0,1,V0,.num 40)] rfl (leI hlen)), ?_⟩
 refine qj (fun i acc J' => J' = J /\ acc.length = ((rs.take i).filter (zcS ks k)).length) ⟨rfl, rfl⟩ ?_ ?_
 ·rintro i v acc J' K' hv ⟨rfl, hacc⟩ hK'
  obtain ⟨t, a, b, rfl, hrs, ht⟩ := hr2.get hv
  refine ⟨.inl (e0 _ _ hr1), ?_⟩
  have ht' := e0 _ _ ht
  simp only [q8, zby, zom, zv, zp, zq, zg, zf]
  refine InV.tup (ns := [a, b]) ht' ?_
  have hnext : (rs.take (i + 1)).filter (zcS ks k) = (rs.take i).filter (zcS ks k) ++ if zcS ks k (a, b) then [(a, b)] else [] := by
   rw [kaY, hrs, ka4]
   cases h : zcS ks k (a, b) <;> simp [h]
  have fin : ∀ t' : Bool, zcS ks k (a, b) = t' -> (if t' = true then K' (acc ++ [.ref t]) J' else K' acc J') := by
   intro t' ht
   cases t' with
   | true => exact hK' _ _ ⟨rfl, by rw [hnext, ht, kam, kam, hacc]; rfl⟩
   | false => exact hK' _ _ ⟨rfl, by rw [hnext, ht, if_neg kct, kaR, hacc]⟩
  by_cases h1 : (k : Int) ∈ [a, b]
  ·simp only [h1, decide_true, if_true, zgk, zhQ, qA, zv, qo, zg, zf, ze, zd]
   refine ⟨by decide, ?_⟩
   refine j2 ht' ?_
   refine jc hbu ?_
   rw [y1]
   by_cases h2 : a ∈ ks
   ·refine qD (decide_eq_true h2) ?_
    exact fin true (by unfold zcS; simp only [h1, h2, decide_true, Bool.true_or, Bool.and_self])
   ·refine qW (decide_eq_false h2) ?_
    refine ⟨by decide, ?_⟩
    refine j2 ht' ?_
    show yC _ _ _
    refine jc hbu ?_
    rw [y1]
    exact fin (decide (b ∈ ks)) (by unfold zcS; simp only [h1, h2, decide_true, decide_false, kdh, kbG])
  ·refine qW (decide_eq_false h1) ?_
   exact fin false (by unfold zcS; simp only [h1, decide_false, kcx])
 ·rintro acc J' ⟨rfl, hacc⟩
  refine ⟨.inl (e0 _ _ hr1), zh fun fi J1 hfi e1 hfiv => ?_⟩
  rw [hr2.length, kaL] at hacc
  have e01 := e0.trans e1
  simp only [zp, zq, je, zby, zhQ, zv, zg, zf, zd, ze]
  refine jc (e1 _ _ hbu) ?_
  rw [y1]
  by_cases h1 : (k : Int) ∈ ks
  ·have hb : burnt rs g ks k = ks := if_neg fun h => h.1 h1
   rw [hb] at hK
   refine qW (znd h1) ?_
   exact hK _ _ e01 (e1 _ _ hbu)
  ·have hf : (acc.length : Int) = nb rs k (qR ks) := by rw [hacc]; exact zor h1 n.ne
   simp only [h1, decide_false, kb3, if_true, qH, jf, qA, qG, zv, zg, zf, zd, ze]
   refine (hh.ext e01).at (by exact nnI _) (by exact Mine.lt_toNat ‹_›) ?_
   refine zS hfiv ?_
   refine (hmo.ext e01).at (by exact nnI _) (by exact Mine.lt_toNat ‹_›) ?_
   simp only [zd, kai, Cmp.run, zm, hf, ge_iff_le]
   by_cases h2 : zU rs k <= g k + nb rs k (qR ks)
   ·have hb : burnt rs g ks k = ks ++ [(k : Int)] := if_pos ⟨h1, h2⟩
    rw [hb] at hK
    refine qD (decide_eq_true h2) ?_
    refine Eq.mpr (q9 (e1 _ _ hbu)) ?_
    rw [y0, yg]
    refine ⟨by unfold lim; exact ltN (lit r1 V0 (.num 1000000) [(0,1,V0,.num 20)] rfl (leI hks)), hK _ _ (e01.put hb0 _) ?_⟩
    rw [zz]
    unfold yl
    rw [if_neg h1]
   ·have hb : burnt rs g ks k = ks := if_neg fun h => h2 h.2
    rw [hb] at hK
    refine qW (decide_eq_false h2) ?_
    exact hK _ _ e01 (e1 _ _ hbu)
structure zoK (T : TC) : Prop where
 degs : FnW T "_law_degrees" 2 4 (jm T)
 again : FnW T "_law_again" 3 6 (wJ T)
theorem zeR (F : zoK T) {m : Int} {rs : Rd2} {r hp : Addr} {g : Nat -> Int} (n : Net m rs) (hr : zQ J r rs) (hh : L J hp m.toNat g)
  (hq : ∀ b J', Ext J J' -> (b = true ↔ Rec m rs g) -> Q (.bool b) J') : zA T (d + 2) "_law_again" [.int m, .ref r, .ref hp] J Q P := by
 have hm := n.m0; have hm' := n.m10
 have nn : ∀ p ∈ rs, 0 <= p.1 /\ 0 <= p.2 := fun p hp => ⟨(n.ends p hp).1.1, (n.ends p hp).2.1.1⟩
 refine F.again (d + 1) _ _ _ _ rfl ?_
 unfold wJ
 simp only [zV, zL, zB, zK, zv, qf, qi, qe, zg, zf]
 refine j8 (d := d) F.degs hm hm' hr nn fun mo J1 e1 hmo0 hmo => ?_
 rw [jZ hm nn] at hmo
 have hmol : L J1 mo m.toNat (zU rs) := hmo
 simp only [zp, zq]
 rw [zG, je, zjM]
 refine zlz hm hm' (y9 rfl) (fun v => !(decide (0 <= g v) && decide (g v < zU rs v))) (fun i J'' K'' hi e'' hk' => ?_) (fun i J'' K'' hk' => ?_) fun l J2 hl e2 hlv => ?_
 ·simp only [zp, zq, zcj, zdH, qo, qA, zv, zg, zf, ze, zd]
  refine ((hh.ext e1).ext e'').at (by exact nnI _) (by exact Mine.lt_toNat ‹_›) ?_
  simp only [zd, Cmp.run, kai]
  by_cases h0 : 0 <= g i
  ·simp only [h0, decide_true, if_true, kbG] at hk' ⊢
   refine (hmol.ext e'').at (by exact nnI _) (by exact Mine.lt_toNat ‹_›) ?_
   exact hk' J'' Ext.refl
  ·simp only [h0, decide_false, kad, if_false, zm, kcx] at hk' ⊢
   exact hk' J'' Ext.refl
 ·exact hk'
 refine ⟨by first | exact kak rfl | simp [lim], zh fun k0 J3 hk0 e3 hkv => ?_⟩
 refine Eqv.zs (ms := []) (hlv.ext e3) hkv ?_
 have e13 := e1.trans (e2.trans e3)
 by_cases hpk : zkE m.toNat (fun v => !(decide (0 <= g v) && decide (g v < zU rs v))) = []
 ·have hpn := zi1.mp hpk
  have hrest : ∀ v : Nat, (v : Int) < m -> 0 <= g v /\ g v < zU rs v := fun v hv => by
   have := hpn v (yI hv)
   simpa using this
  simp only [hpk, decide_true, if_true, kbv, zm, kad, if_false, qC]
  rw [zG]
  simp only [zV, wV, qo, zv, zg, zf, zd]
  refine zh fun bu J4 hbu e4 hbuv => ?_
  have R3 := hr.ext e13
  have H3 := hh.ext e13
  have M3 := hmol.ext (e2.trans e3)
  refine zao hm hm' (y9 rfl) (fun i Z J' => X4 fun ks o5 o6 o7 => A5 (Z = [some (.int m), some (.ref r), some (.ref hp), some (.ref mo), some (.ref bu), o5, o6, o7, none]) (Ext J3 J') (J' bu = some (.dict (dk ks))) (Bn m rs g ks) ((i + 1 <= ks.length \/ zh5 m rs g ks))) ⟨[m], _, _, _, rfl, e4, hbuv, Bn.start g hm, .inl (kao _)⟩ ?_ ?_
  ·intro i Z J' K' hi hI5a hK
   obtain ⟨ks, o5, o6, o7, rfl, e5, hks, B, hc⟩ := hI5a
   unfold zbQ
   refine zao hm hm' (y9 rfl) (fun j Z J' => X3 fun ks' o6 o7 => A5 (Z = [some (.int m), some (.ref r), some (.ref hp), some (.ref mo), some (.ref bu), some (.int i), o6, o7, none]) (Ext J3 J') (J' bu = some (.dict (dk ks'))) (Bn m rs g ks') (((ks' = ks /\ ∀ k : Nat, k < j -> (k : Int) ∉ ks -> g k + nb rs k (qR ks) < zU rs k) \/ (ks.length < ks'.length /\ ¬ zh5 m rs g ks)))) ⟨ks, _, _, rfl, e5, hks, B, .inl ⟨rfl, fun k hk => absurd hk (kcp k)⟩⟩ ?_ ?_
   ·intro j Z J'' K'' hj hI5b hK'
    obtain ⟨ks', o6', o7', rfl, e6, hks', B', hc'⟩ := hI5b
    have hlen : ks'.length <= 20 := by
     have := wd m.toNat ks' B'.nd fun x hx => by rw [tnn hm]; exact B'.rng x hx
     exact leN (lin (@r3 (↑(ks'.length)) _ (↑(m.toNat))) V0 (.num 20) [(0,1,V1,.num 10),(0,1,V0,.add V2 N1),(2,1,V2,V1)] rfl hm' (leI this) (tnn (hm)))
    refine zmT n e6 R3 H3 M3 hbu hks' hj hlen fun o7 J7 e7 hb7 => hK' _ _ ⟨_, _, _, rfl, e7, hb7, ?_, ?_⟩
    ·unfold burnt
     by_cases hcb : (j : Int) ∉ ks' /\ zU rs j <= g j + nb rs j (qR ks')
     ·rw [if_pos hcb]; exact B'.step n hj hcb.1 hcb.2
     ·rw [if_neg hcb]; exact B'
    ·unfold burnt
     by_cases hcb : (j : Int) ∉ ks' /\ zU rs j <= g j + nb rs j (qR ks')
     ·rw [if_pos hcb]
      refine .inr ⟨?_, ?_⟩
      ·rw [kam]
       rcases hc' with ⟨rfl, _⟩ | ⟨h, _⟩
       ·exact kbm _
       ·exact kcD h
      ·rcases hc' with ⟨rfl, _⟩ | ⟨_, h⟩
       ·exact fun hcl => by have := hcl j hj hcb.1; exact lif r3 [(0,1,V0,.add V1 V2),(1,1,.add V1 V2,V0)] rfl hcb.2 this
       ·exact h
     ·rw [if_neg hcb]
      rcases hc' with ⟨rfl, h⟩ | h
      ·refine .inl ⟨rfl, fun k hk hn => ?_⟩
       by_cases hkj : k = j
       ·subst hkj
        exact kdR.mp fun h => hcb ⟨hn, h⟩
       ·exact h k (by exact ltN ((jW (lin r2 V0 V1 [(1,1,V0,.add V1 N1)] rfl (ltI hk)) hkj))) hn
      ·exact .inr h
   ·rintro Z J'' ⟨ks', o6', o7', rfl, e6, hks', B', hc'⟩
    refine hK _ _ ⟨ks', _, _, _, rfl, e6, hks', B', ?_⟩
    rcases hc' with ⟨rfl, h⟩ | ⟨h1, h2⟩
    ·exact .inr fun k hk hn => h k (yI hk) hn
    ·refine .inl ?_
     rcases hc with h | h
     ·exact kaI ‹_› ‹_›
     ·exact absurd h h2
  ·rintro Z J' ⟨ks, o5, o6, o7, rfl, e5, hks, B, hc⟩
   simp only [j3, qH, qG, jf, qo, zv, zg, zf, ze, zd]
   refine zbf hks ?_
   rw [yg]
   simp only [zd, Cmp.run]
   refine hq _ J' (e13.trans e5) ?_
   rw [beq_iff_eq]
   refine B.fin n (fun v hv => (hrest v hv).1) (fun v hv => (hrest v hv).2) ?_
   rcases hc with h | h
   ·exact .inl (by exact lin (@r3 _ (↑(ks.length)) (↑(m.toNat))) (.add V0 N1) V1 [(0,1,.add V2 N1,V1),(2,-1,V2,V0)] rfl (leI h) (tnn (hm)))
   ·exact .inr h
 ·refine qD (zpt hpk) ?_
  refine hq false J3 e13 ⟨fun h => (by cases h), fun h => absurd (zi1.mpr fun v hv => ?_) hpk⟩
  have h1 := h.nn v (qE hm hv)
  have h2 := h.rest v (qE hm hv)
  simp [h1, h2]
end
end Mine
end
section
open PySem
namespace Mine
section
variable {T : TC} {d : Nat} {J : zb} {Q : V -> zb -> Prop} {P : Nat -> zb -> Prop}
theorem zk9 (F : zdd T) {m : Int} {rs : Rd2} {a : Addr} {as : List Addr} (n : Net m rs) (ht : Tab J a m.toNat as (yF rs)) (hq : ∀ J', Ext J J' -> Q (.int (D m rs)) J') : zA T (d + 2) "determinant" [.ref a] J Q P :=
 wn (d := d) F (B := Big) (by have := n.m10; lia) ht zij znF (fun i j _ _ => kap (wP n i j) zkj) fun J1 e1 => hq J1 e1
end
theorem Rec.heap {m : Int} {rs : Rd2} (n : Net m rs) {g : Nat -> Int} (A : Rec m rs g) : zbP m g := ⟨A.nn, fun v hv => by have := A.rest v hv; have := zeG n v; exact lin r2 V0 (.num 1000000000) [(1,1,V0,V1),(0,1,V1,.num 40)] rfl ‹_› this⟩
section
variable {T : TC} {d : Nat} {J : zb} {Q : V -> zb -> Prop} {P : Nat -> zb -> Prop}
end
end Mine
end
section
open PySem
namespace Mine
section
variable {m : Int} {rs : Rd2}
def Sim (m : Int) (rs : Rd2) (g g' : Nat -> Int) : Prop := ∃ x : Nat -> Int, ∀ v : Nat, (v : Int) < m -> g v = g' v + lap m rs x v
theorem Sim.symm {a b : Nat -> Int} : Sim m rs a b -> Sim m rs b a := fun ⟨x, h⟩ => ⟨fun u => - x u, fun v hv => by rw [zcw]; have := h v hv; exact liq r3 V0 (.add V1 (.neg V2)) [(2,-1,V1,.add V0 V2)] rfl this⟩
theorem Sim.trans {a b c : Nat -> Int} : Sim m rs a b -> Sim m rs b c -> Sim m rs a c := fun ⟨x, h⟩ ⟨y, h'⟩ => ⟨fun u => x u + y u, fun v hv => by rw [zkO]; have := h v hv; have := h' v hv; exact liq r5 V0 (.add V1 (.add V2 V3)) [(2,1,V0,.add V4 V2),(2,1,V4,.add V1 V3)] rfl ‹_› this⟩
theorem Sim.add {a b a' b' : Nat -> Int} : Sim m rs a a' -> Sim m rs b b' -> Sim m rs (fun v => a v + b v) (fun v => a' v + b' v) := fun ⟨x, h⟩ ⟨y, h'⟩ => ⟨fun u => x u + y u, fun v hv => by rw [zkO]; have := h v hv; have := h' v hv; show a v + b v = a' v + b' v + _; exact liq r6 (.add V0 V1) (.add (.add V2 V3) (.add V4 V5)) [(2,1,V0,.add V2 V4),(2,1,V1,.add V3 V5)] rfl ‹_› this⟩
theorem Sim.neg {a a' : Nat -> Int} : Sim m rs a a' -> Sim m rs (fun v => 0 - a v) (fun v => 0 - a' v) := fun ⟨x, h⟩ => ⟨fun u => - x u, fun v hv => by rw [zcw]; have := h v hv; show 0 - a v = 0 - a' v + _; exact liq r3 (.sub N0 V0) (.add (.sub N0 V1) (.neg V2)) [(2,-1,V0,.add V1 V2)] rfl this⟩
theorem Sim.lap (x : Nat -> Int) (g : Nat -> Int) : Sim m rs (fun v => g v - lap m rs x v) g := ⟨fun u => - x u, fun v _ => by rw [zcw]; rfl⟩
theorem Rec.congr (n : Net m rs) {e e' : Nat -> Int} (A : Rec m rs e) (h : ∀ v : Nat, (v : Int) < m -> e' v = e v) : Rec m rs e' :=
 ⟨fun v hv => by rw [h v hv]; exact A.nn v hv, fun v hv => by rw [h v hv]; exact A.rest v hv, fun z h1 h2 => A.amp z h1 fun v hv hz => by rw [<- h v hv]; exact h2 v hv hz⟩
def zfR (m : Int) (rs : Rd2) (h e : Nat -> Int) : Prop := ∃ t, zcY m rs h t /\ ∀ v : Nat, (v : Int) < m -> e v = h v - lap m rs t v
theorem zfR.more (n : Net m rs) {a b e : Nat -> Int} (A : Rec m rs a) (hb : Nn m b) : zfR m rs (fun v => a v + b v) e -> Rec m rs e := fun ⟨t, L, he⟩ => (zmi n A hb L).congr n he
theorem zfR.heap (n : Net m rs) {h e : Nat -> Int} : zfR m rs h e -> zbP m e := fun ⟨t, L, he⟩ => ⟨fun v hv => by rw [he v hv]; exact L.rest v hv, fun v hv => by rw [he v hv]; have := L.stab v hv; have := zeG n v; exact lin r3 (.sub V0 V1) (.num 1000000000) [(1,1,.sub V0 V1,V2),(0,1,V2,.num 40)] rfl ‹_› this⟩
end
section
variable {T : TC} {d : Nat} {J : zb} {Q : V -> zb -> Prop} {P : Nat -> zb -> Prop}
end
end Mine
end
section
open PySem
namespace Mine
section
variable {m : Int} {rs : Rd2}
theorem zhc (n : Net m rs) {g : Nat -> Int} (hg : Nn m g) : zlY m rs g ↔ Rec m rs g := by
 constructor
 ·rintro ⟨hr, h⟩
  refine ⟨hg, hr, fun z h1 h2 v hv => ?_⟩
  obtain ⟨t, hL⟩ := zht n (h := fun v => g v + lap m rs (fun _ => 1) v) fun v hv => Int.add_nonneg (hg v hv) (zcQ n hv).1
  have := hL.low (fun u => 1 - z u) (fun u hu => by show 0 <= 1 - z u; rcases h1 u hu with h | h <;> (first | exact lin r1 N0 (.sub N1 V0) [(2,1,V0,N0)] rfl h | exact lin r1 N0 (.sub N1 V0) [(2,1,V0,N1)] rfl h)) (fun u hu => by
   rw [zfp]
   show g u + lap m rs (fun _ => 1) u - _ < _
   rcases h1 u hu with h0 | h0
   ·have := zkN n (znj h1) h0
    have := hr u hu
    exact lit r4 (.sub (.add V0 V1) (.sub V1 V2)) V3 [(0,1,V2,N0),(1,1,V0,V3)] rfl ‹_› this
   ·have := h2 u hu h0; exact lit r4 (.sub (.add V0 V1) (.sub V1 V2)) V3 [(1,1,.add V0 V2,V3)] rfl this) v hv
  have := h t hL v hv
  rcases h1 v hv with h | h <;> (first | assumption | exact lif r2 [(0,1,V0,.sub N1 V1),(2,-1,V0,N1),(2,-1,V1,N1)] rfl ‹_› this h)
 ·intro R
  refine ⟨R.rest, fun t hL v hv => ?_⟩
  have h1 := zkD n R.amp (w := fun u => 1 - t u) (fun u hu _ => by rw [zfp]; have : g u + lap m rs (fun _ => 1) u - _ < _ := hL.stab u hu; exact lit r4 (.add V0 (.sub V1 V2)) V3 [(1,1,.sub (.add V0 V1) V2,V3)] rfl this) v hv
  have h2 := hL.low (fun _ => 1) (fun _ _ => kaF Int.one_pos) (fun u hu => by have := R.rest u hu; show g u + lap m rs (fun _ => 1) u - _ < _; exact lit r3 (.sub (.add V0 V1) V1) V2 [(1,1,V0,V2)] rfl this) v hv
  exact kav (h2) (lin r1 N1 V0 [(0,1,.sub N1 V0,N0)] rfl h1)
end
section
variable {T : TC} {d : Nat} {J : zb} {Q : V -> zb -> Prop} {P : Nat -> zb -> Prop}
theorem zeu (I : znI T) (need : FnW T "need_again" 3 0 (y4 T)) {m : Int} {rs : Rd2} {r hp : Addr} {g : Nat -> Int} (n : Net m rs) (hr : zQ J r rs) (hh : L J hp m.toNat g) (hg : Nn m g)
  (hq : ∀ J', Ext J J' -> Rec m rs g -> Q .none J') (hf : ∀ J', Ext J J' -> ¬ Rec m rs g -> P 6 J') : zA T (d + 7) "need_again" [.int m, .ref r, .ref hp] J Q P := by
 refine need (d + 6) _ _ _ _ rfl ?_
 unfold y4
 refine zcA (d := d) I n hr hh hg fun b J1 e1 hb => ?_
 rw [zhc n hg] at hb
 cases b with
 | true =>
  exact hq J1 e1 (hb.mp rfl)
 | false =>
  exact hf J1 e1 fun h => by cases hb.mpr h
end
section
variable {Z : zM} {J : zb} {Q : V -> zb -> Prop} {P : Nat -> zb -> Prop}
theorem zfx : zeE Z J Q P = wb (.dict []) J Q := rfl
theorem zot (a : EW) : zkg a Z J Q P = a Z J (fun v J1 => v.asRef fun p => yC J1 p fun kvs => wb (.dict kvs) J1 Q) P := rfl
theorem zp6 (a b : EW) : zpT a b Z J Q P = a Z J (fun va J1 => va.asRef fun p => yC J1 p (fun _ => True) /\ b Z J1 (fun vb J2 => vb.asRef fun q => p ≠ q /\ yC J2 p fun kvs => yC J2 q fun more => kvs.length + more.length <= lim /\ Q .none (put J2 p (.dict (zbL kvs more)))) P) P := rfl
theorem zmm (a : EW) : zhL a Z J Q P = a Z J (fun v J1 => v.asRef fun p => wg J1 p fun xs => ∃ ns, xs = zs ns /\ ns.length + 1 < 4096 /\ Q (.int (zdb ns)) J1) P := rfl
theorem zqw (a b : EW) : zp1 a b Z J Q P = a Z J (fun va J1 => va.asRef fun p => qY J1 p (fun _ => True) /\ b Z J1 (fun vb J2 => vb.asInt fun k => qY J2 p fun xs => ∃ ns j, xs = zs ns /\ ns[j]? = some k /\ (∀ m : Nat, m < j -> ns[m]? ≠ some k) /\ Q (.int (j : Nat)) J2) P) P := rfl
theorem zjO {α : Type} {chk : zb -> Prop} {bd : α -> zM} {c : Option EW} {e : EW} {xs : List α} {acc : List V} (I : Nat -> List V -> zb -> Prop) (h0 : I 0 acc J)
  (step : ∀ i v acc J (K' : List V -> zb -> Prop), xs[i]? = some v -> I i acc J -> (∀ acc' J', I (i + 1) acc' J' -> K' acc' J') -> chk J /\ zfD c (bd v) J fun b J1 => if b then e (bd v) J1 (fun u J2 => K' (acc ++ [u]) J2) noP else K' acc J1)
  (fin : ∀ acc J, I xs.length acc J -> chk J /\ wb (.list acc) J Q) : zaQ chk bd c e xs acc J Q := by
 have key : ∀ (n i : Nat) (acc : List V) (J : zb), i + n = xs.length -> I i acc J -> zaQ chk bd c e (xs.drop i) acc J Q := by
  intro n
  induction n with
  | zero =>
   intro i acc J hi hI
   have hi' : i = xs.length := by assumption
   subst hi'
   rw [kcZ]
   exact fin acc J hI
  | succ n ih =>
   intro i acc J hi hI
   have hlt : i < xs.length := by exact ltN (lit (@r3 (↑(i)) (↑(xs.length)) (↑(n))) V0 V1 [(2,1,.add V0 (.add V2 N1),V1),(0,1,N0,V2)] rfl (eqI hi) (nnI _))
   rw [kbT hlt]
   have := step i xs[i] acc J (fun acc' J' => zaQ chk bd c e (xs.drop (i + 1)) acc' J' Q) (kac hlt) hI fun acc' J' h => ih (i + 1) acc' J' (by exact eqN (liq (@r3 (↑(i)) (↑(n)) (↑(xs.length))) (.add (.add V0 N1) V1) V2 [(2,1,.add V0 (.add V1 N1),V2)] rfl (eqI hi))) h
   exact this
 exact key xs.length 0 acc J (kb8 _) h0
end
noncomputable def qK (l : List Nat) : List Int := l.map fun i : Nat => (i : Int)
theorem qh (l : List Nat) : (qK l).length = l.length := kaC ..
theorem zn1 {rs : Rd2} {x : Int} {S : Int -> Bool} {i : Nat} {e : Int × Int} (h : rs[i]? = some e) : rt (rs.take (i + 1)) x S = rt (rs.take i) x S ++ if tch S x e then [i] else [] := by
 have hl : (rs.take i).length = i := by rw [ka2]; have := (kae.mp h).1; lia
 rw [kaY, h]
 have := zkB (rs := rs.take i) e x S
 rw [hl] at this
 exact this
section
variable {T : TC} {d : Nat} {J : zb} {Q : V -> zb -> Prop} {P : Nat -> zb -> Prop}
structure RtFns (T : TC) : Prop where
 other : FnW T "other_end" 2 0 (jF T)
 rt : FnW T "roads_to" 3 2 (zbn T)
theorem ww (F : RtFns T) {rs : Rd2} {r e : Addr} {x : Int} {ks : List Int} (hr : zQ J r rs) (he : J e = some (.dict (dk ks)))
  (hq : ∀ l J', J l = none -> Ext J J' -> J' l = some (.list (zs (qK (rt rs x (qR ks))))) -> Q (.ref l) J') : zA T (d + 2) "roads_to" [.ref r, .int x, .ref e] J Q P := by
 obtain ⟨vs, hr1, hr2⟩ := hr
 refine F.rt (d + 1) _ _ _ _ rfl ?_
 unfold zbn
 refine ja hr1 ?_
 unfold zo2
 refine zjO (fun i acc J' => J' = J /\ acc = zs (qK (rt (rs.take i) x (qR ks)))) ⟨rfl, rfl⟩ ?_ ?_
 ·intro i a acc J' K' hv hI6a hK'
  obtain ⟨rfl, rfl⟩ := hI6a
  obtain ⟨hv1, hv2⟩ := zhV 0 vs i a hv
  rw [kb8] at hv2
  obtain ⟨t, u, w, hu, hrs, ht⟩ := hr2.get hv1
  refine ⟨.inl hr1, ?_⟩
  rw [hu, hv2]
  simp only [zdw, kdL, za8, zbH, q8, zby, zom, zv, zp, zq, zg, zf]
  refine InV.tup (ns := [u, w]) ht ?_
  have hnext := zn1 (x := x) (S := qR ks) hrs
  have fin : ∀ t' : Bool, tch (qR ks) x (u, w) = t' -> (if t' = true then K' (zs (qK (rt (rs.take i) x (qR ks))) ++ [.int i]) J' else K' (zs (qK (rt (rs.take i) x (qR ks)))) J') := by
   intro t' ht
   rw [ht] at hnext
   cases t' with
   | true => exact hK' _ _ ⟨rfl, by rw [hnext]; simp [zs, qK]⟩
   | false => exact hK' _ _ ⟨rfl, by rw [hnext]; simp⟩
  by_cases h1 : x ∈ [u, w]
  ·refine qD (decide_eq_true h1) ?_
   refine zbS (d := d) F.other ht ?_
   refine jc he ?_
   rw [y1]
   refine fin _ ?_
   unfold tch oth qR
   have : (decide (u = x) || decide (w = x)) = true := by
    simp only [kah, kaM, or_false] at h1
    rcases h1 with h | h <;> simp [h]
   simp [this]
  ·refine qW (decide_eq_false h1) ?_
   refine fin false ?_
   unfold tch
   simp only [kah, kaM, or_false, not_or] at h1
   have h2 : ¬ u = x := fun h => h1.1 h.symm
   have h3 : ¬ w = x := fun h => h1.2 h.symm
   simp [h2, h3]
 ·intro acc J' hI2b
  obtain ⟨rfl, rfl⟩ := hI2b
  refine ⟨.inl hr1, zh fun l J1 hl e1 hlv => hq l J1 hl e1 ?_⟩
  rw [hlv, zfv, hr2.length, kaL]
structure LoFns (T : TC) : Prop extends RtFns T where
 counts : FnW T "counts_at" 2 3 (jG T)
 least : FnW T "least_of" 5 1 (zbq T)
end
end Mine
end
section
open PySem
namespace Mine
section
variable {T : TC} {d : Nat} {J : zb} {Q : V -> zb -> Prop} {P : Nat -> zb -> Prop}
theorem zcv (F : LoFns T) {m : Int} {rs : Rd2} {r o y : Addr} {p : Nat} {O Y : List Int} (n : Net m rs) (hp : (p : Int) < m) (hr : zQ J r rs) (ho : J o = some (.dict (dk O))) (hy : J y = some (.dict (dk Y)))
  (hq : ∀ J', Ext J J' -> Q (.int (zU rs p - (nb rs p (qR O) + nb rs p (qR Y)))) J') : zA T (d + 3) "least_of" [.int m, .ref r, .int p, .ref o, .ref y] J Q P := by
 have hm := n.m0; have hm' := n.m10
 have nn : ∀ p ∈ rs, 0 <= p.1 /\ 0 <= p.2 := fun p hp => ⟨(n.ends p hp).1.1, (n.ends p hp).2.1.1⟩
 refine F.least (d + 2) _ _ _ _ rfl ?_
 unfold zbq
 rw [zG]
 simp only [zV, jf, qG, zL, zB, zK, zv, qf, qi, qe, zg, zf]
 refine ww (d := d) F.toRtFns hr ho fun l J1 hl e1 hlv => ?_
 simp only [ze]
 refine zS hlv ?_
 refine ww (d := d) F.toRtFns (hr.ext e1) (e1 _ _ hy) fun l' J2 hl' e2 hlv' => ?_
 simp only [ze]
 refine zS hlv' ?_
 simp only [zd, zp, zq, j3, zav, qA, zL, zB, zK, zv, zg, zf]
 refine zbW (d := d + 1) F.counts hm hm' ((hr.ext e1).ext e2) nn fun c J3 e3 _ hc => ?_
 rw [jZ hm nn] at hc
 refine L.at (J := J3) (f := zU rs) (n := m.toNat) hc (by exact nnI _) (by exact Mine.lt_toNat ‹_›) ?_
 simp only [zd, kai]
 rw [qc, qh, qc, qh, zh9 _ _ _ n.ne, zh9 _ _ _ n.ne]
 exact hq _ (e1.trans (e2.trans e3))
theorem zg3 : ∀ (Y O : List Int), (O ++ Y).Nodup -> zbL (dk O) (dk Y) = dk (O ++ Y)
 | [], O, _ => by simp [zbL, dk]
 | y :: Y, O, h => by
  have hy : y ∉ O := fun hO => by
   rw [kbg] at h
   exact h.2.2 y hO y (kaq ..) rfl
  have h1 : zgt (dk O) y (.bool true) = dk (O ++ [y]) := by rw [y0]; unfold yl; rw [if_neg hy]
  have h2 := zg3 Y (O ++ [y]) (by simpa using h)
  show zbL (zgt (dk O) y (.bool true)) (dk Y) = _
  rw [h1, h2]; simp
theorem zc0 (F : FnW T "keys_of" 2 1 (za3 T)) {o y : Addr} {O Y : List Int} (ho : J o = some (.dict (dk O))) (hy : J y = some (.dict (dk Y))) (hn : (O ++ Y).Nodup) (hl : (O ++ Y).length <= 20)
  (hq : ∀ b J', J b = none -> Ext J J' -> J' b = some (.dict (dk (O ++ Y))) -> Q (.ref b) J') : zA T (d + 1) "keys_of" [.ref o, .ref y] J Q P := by
 refine F d _ _ _ _ rfl ?_
 unfold za3
 simp only [zV, zot, zv, qf, qi, qe, zg, zf, ze]
 refine jc ho ?_
 refine zh fun b J1 hb e1 hbv => ?_
 simp only [zp, zq]
 rw [zG]
 simp only [yS, zp6, zv, zg, zf, ze]
 rw [zhb hbv]
 refine ⟨trivial, fun e => ?_, ?_⟩
 ·subst e; rw [hb] at hy; cases hy
 ·refine jc hbv (jc (e1 _ _ hy) ?_)
  rw [zg3 _ _ hn, yg, yg]
  rw [kam] at hl
  refine ⟨by unfold lim; exact leN (lin (@r2 (↑(O.length)) (↑(Y.length))) (.add V0 V1) (.num 1000000) [(0,1,.add V0 V1,.num 20)] rfl (leI hl)), ?_⟩
  exact hq b _ hb (e1.put hb _) (zz ..)
end
theorem zcc {c : EW} {b : SW} {Z J K} (I : Nat -> zM -> zb -> Prop) (n : Nat) (h0 : I n Z J)
  (step : ∀ n Z J (K' : Out -> zM -> zb -> Prop), I n Z J -> (∀ Z' J' n', n' < n -> I n' Z' J' -> K' .next Z' J') ->
   c Z J (fun v J1 => v.asBool fun t => if t then b Z J1 (fun o Z' J' => match o with | .next => K' .next Z' J' | .ret u => K (.ret u) Z' J') noP else K .next Z J1) noP) : ∃ n, zbF c b n Z J K := by
 refine ⟨n + 1, ?_⟩
 have key : ∀ (N n : Nat) (Z : zM) (J : zb), I n Z J -> n < N -> zbF c b N Z J K := by
  intro N
  induction N with
  | zero => intro n Z J _ h; exact lif r1 [(1,1,V0,N0),(0,1,N0,V0)] rfl (ltI h) (nnI _)
  | succ N ih =>
   intro n Z J hI hm
   exact step n Z J (fun o Z' J' => match o with | .next => zbF c b N Z' J' K | .ret u => K (.ret u) Z' J') hI fun Z' J' n' hn' h => ih n' Z' J' h (by exact ltN (lit r3 V0 V1 [(1,1,V2,.add V1 N1),(1,1,V0,V2)] rfl (ltI hm) (ltI hn')))
 exact key _ n Z J h0 (kbm _)
noncomputable def zhN (rs : Rd2) (O Y : List Int) (p : Nat) : Int := zU rs p - (nb rs p (qR O) + nb rs p (qR Y))
noncomputable def brn (rs : Rd2) (g : Nat -> Int) (O Y : List Int) (p : Nat) : Bool := !decide ((p : Int) ∈ O ++ Y) && decide (zhN rs O Y p <= g p)
noncomputable def nxt (rs : Rd2) (g : Nat -> Int) (O Y : List Int) (p : Nat) : Nat := ((rt rs p (qR Y))[(g p - zhN rs O Y p).toNat]?).getD 0
theorem zkG {m : Int} {rs : Rd2} {g : Nat -> Int} {O Y : List Int} {p : Nat} (n : Net m rs) (U : Unb m rs g O Y) (hp : (p : Int) < m) (hb : brn rs g O Y p = true) :
  ∃ k : Nat, (k : Int) = g p - zhN rs O Y p /\ (rt rs p (qR Y))[k]? = some (nxt rs g O Y p) := by
 unfold brn at hb
 simp only [kaH, kbK, decide_eq_false_iff_not, decide_eq_true_eq, kau, not_or] at hb
 have h1 := U p hp hb.1.1 hb.1.2
 have h2 := zh9 p (qR Y) rs n.ne
 have h3 : zaP O = qR O := rfl
 rw [h3] at h1
 have hlt : (g p - zhN rs O Y p).toNat < (rt rs p (qR Y)).length := by unfold zhN; unfold zhN at hb; exact ltN (lit r6 V0 V1 [(1,1,.add V2 V3,V4),(2,-1,V1,V5),(2,1,V0,.sub V2 (.sub V4 (.add V3 V5)))] rfl h1 h2 (tnn (lin r4 N0 (.sub V0 (.sub V1 (.add V2 V3))) [(0,1,.sub V1 (.add V2 V3),V0)] rfl hb.2)))
 refine ⟨(g p - zhN rs O Y p).toNat, by exact (tnn (lin r2 N0 (.sub V0 V1) [(0,1,V1,V0)] rfl hb.2)), ?_⟩
 unfold nxt
 rw [kac hlt]; rfl
section
variable {T : TC} {d : Nat} {J : zb} {Q : V -> zb -> Prop} {P : Nat -> zb -> Prop}
structure zim (T : TC) : Prop extends LoFns T where
 keys : FnW T "keys_of" 2 1 (za3 T)
structure zgI (JA J : zb) (o y b : Addr) (Od Ly : List Int) : Prop where
 ext : Ext JA J
 o : J o = some (.dict (dk Od))
 y : J y = some (.dict (dk Ly))
 b : J b = some (.dict (dk (Od ++ Ly)))
theorem zgI.up {JA J J' o y b Od Ly} (t : zgI JA J o y b Od Ly) (e : Ext J J') : zgI JA J' o y b Od Ly := ⟨t.ext.trans e, e _ _ t.o, e _ _ t.y, e _ _ t.b⟩
theorem zgI.put {JA J o y b Od Ly} (t : zgI JA J o y b Od Ly) {a : Addr} (h0 : JA a = none) (h1 : a ≠ o) (h2 : a ≠ y) (h3 : a ≠ b) (x : O) : zgI JA (put J a x) o y b Od Ly :=
 ⟨t.ext.put h0 x, by rw [zY _ h1.symm]; exact t.o, by rw [zY _ h2.symm]; exact t.y, by rw [zY _ h3.symm]; exact t.b⟩
theorem zaX {J : zb} {a b : Addr} {xs : List V} {kvs : List (Int × V)} (h : J a = some (.list xs)) (h' : J b = some (.dict kvs)) : a ≠ b := by rintro rfl; rw [h] at h'; cases h'
theorem znO (F : zim T) {m : Int} {rs : Rd2} {g : Nat -> Int} {JA : zb} {r hp t o y b f : Addr} {Od Ly : List Int} {tr fs : List Nat} {p : Nat} {o9 : Option V} {K : Out -> zM -> zb -> Prop}
  (n : Net m rs) (U : Unb m rs g Od Ly) (hr : zQ JA r rs) (hh : L JA hp m.toNat g) (ht0 : JA t = none) (hf0 : JA f = none) (tu : zgI JA J o y b Od Ly) (ht : J t = some (.list (zs (qK tr)))) (hf : J f = some (.dict (dk (qK fs)))) (h1 : f ≠ o) (h2 : f ≠ y) (h3 : f ≠ b) (hp' : (p : Int) < m) (hps : p ∉ fs) (htl : tr.length <= 20) (hfl : fs.length <= 20)
  (hK : ∀ o9 J', zgI JA J' o y b Od Ly -> J' t = some (.list (zs (qK (tr ++ if brn rs g Od Ly p then [nxt rs g Od Ly p] else [])))) -> J' f = some (.dict (dk (qK (fs ++ if brn rs g Od Ly p then [p] else [])))) -> K .next [some (.int m), some (.ref r), some (.ref hp), some (.ref t), some (.ref o), some (.ref y), some (.ref b), some (.ref f), some (.int p), o9] J') :
  zbj T (d + 3) [some (.int m), some (.ref r), some (.ref hp), some (.ref t), some (.ref o), some (.ref y), some (.ref b), some (.ref f), some (.int p), o9] J K P := by
 have hm := n.m0; have hm' := n.m10
 unfold zbj
 refine zcv (d := d) F.toLoFns n hp' (hr.ext tu.ext) tu.o tu.y fun J1 e1 => ?_
 have tu1 := tu.up e1
 simp only [zp, zq, je, zby, zhQ, zv, zg, zf, zd, ze]
 refine jc tu1.b ?_
 rw [y1]
 by_cases hin : (p : Int) ∈ Od ++ Ly
 ·have hb : brn rs g Od Ly p = false := by unfold brn; simp [hin]
  rw [hb] at hK
  simp only [hin, decide_true, kbv, kad, if_false, zm, qC, kaR] at hK ⊢
  exact hK _ _ tu1 (e1 _ _ ht) (e1 _ _ hf)
 ·simp only [hin, decide_false, kb3, if_true, qH, qA, zv, zg, zf, zd, ze]
  refine (hh.ext tu1.ext).at (by exact nnI _) (by exact Mine.lt_toNat ‹_›) ?_
  simp only [zd, kai, Cmp.run, zm, ge_iff_le]
  by_cases hge : zhN rs Od Ly p <= g p
  ·have hb : brn rs g Od Ly p = true := by unfold brn; simp [hin, hge]
   rw [hb] at hK
   have hge' : zU rs p - (nb rs p (qR Od) + nb rs p (qR Ly)) <= g p := hge
   obtain ⟨k, hk1, hk2⟩ := zkG n U hp' hb
   refine qD (decide_eq_true hge') ?_
   rw [zG]
   simp only [yS, zey, qA, zav, zL, zB, zK, zv, zg, zf, ze]
   refine ⟨zE (e1 _ _ ht) trivial, ?_⟩
   refine ww (d := d + 1) F.toRtFns (hr.ext tu1.ext) tu1.y fun l J2 hl e2 hlv => ?_
   have tu2 := tu1.up e2
   simp only [ze, zd]
   refine (hh.ext tu2.ext).at (by exact nnI _) (by exact Mine.lt_toNat ‹_›) ?_
   simp only [zd, kai]
   have hsub : g p - (zU rs p - (nb rs p (qR Od) + nb rs p (qR Ly))) = (k : Int) := hk1.symm
   rw [hsub]
   refine ⟨nnI _, ?_⟩
   refine qx hlv ?_
   rw [kai, yZ (zcl (n := ((nxt rs g Od Ly p : Nat) : Int)) (by unfold qK; rw [kaJ, hk2]; rfl))]
   refine zE (e2 _ _ (e1 _ _ ht)) ?_
   rw [qc, qh]
   refine ⟨by unfold lim; exact ltN (lit r1 V0 (.num 1000000) [(0,1,V0,.num 20)] rfl (leI htl)), ?_⟩
   have ht2 := e2 _ _ (e1 _ _ ht)
   have hf2 := e2 _ _ (e1 _ _ hf)
   have tu3 := tu2.put ht0 (zaX ht2 tu2.o) (zaX ht2 tu2.y) (zaX ht2 tu2.b) (.list (zs (qK tr) ++ [.int (nxt rs g Od Ly p)]))
   have hft : f ≠ t := (zaX ht2 hf2).symm
   refine Eq.mpr (q9 (kvs := dk (qK fs)) (by rw [zY _ hft]; exact hf2)) ?_
   rw [yg, qh, y0]
   refine ⟨by unfold lim; exact ltN (lit r1 V0 (.num 1000000) [(0,1,V0,.num 20)] rfl (leI hfl)), hK _ _ (tu3.put hf0 h1 h2 h3 _) ?_ ?_⟩
   ·rw [zY _ hft.symm, zz]
    simp [zs, qK]
   ·rw [zz]
    unfold yl
    have : (p : Int) ∉ qK fs := fun h => by
     obtain ⟨q, hq, e⟩ := kat.mp h
     exact hps (by have : q = p := Int.ofNat.inj e; rw [<- this]; exact hq)
    rw [if_neg this]
    simp [qK]
  ·have hb : brn rs g Od Ly p = false := by unfold brn; simp [hge]
   rw [hb] at hK
   have hge' : ¬ zU rs p - (nb rs p (qR Od) + nb rs p (qR Ly)) <= g p := hge
   simp only [hge', decide_false, kad, if_false, qC, kaR] at hK ⊢
   exact hK _ _ tu1 (e1 _ _ ht) (e1 _ _ hf)
end
end Mine
end
section
open PySem
namespace Mine
noncomputable def zcV (m : Int) (rs : Rd2) (g : Nat -> Int) (Od Ly : List Int) : List Nat := (kaa m.toNat).filter (brn rs g Od Ly)
section
variable {m : Int} {rs : Rd2} {g : Nat -> Int}
theorem yj {l : List Nat} {p : Nat} : (p : Int) ∈ qK l ↔ p ∈ l := by
 unfold qK
 rw [kat]
 constructor
 ·rintro ⟨q, hq, e⟩; have : q = p := Int.ofNat.inj e; rw [<- this]; exact hq
 ·intro h; exact ⟨p, h, rfl⟩
theorem zbs {l : List Nat} (h : l.Nodup) : (qK l).Nodup := by
 unfold qK
 rw [kaW, kbn]
 exact h.imp fun hab e => hab (Int.ofNat.inj e)
theorem Lay.burn (n : Net m rs) {i : Nat} {Od Ly : List Int} {lev : Int -> Nat} {par : Nat -> Nat} (Y : Lay m rs g i Od Ly lev par) (U : Unb m rs g Od Ly) :
  Lay m rs g (i + 1) (Od ++ Ly) (qK (zcV m rs g Od Ly)) (zcu i lev (brn rs g Od Ly)) (fun p => if brn rs g Od Ly p then nxt rs g Od Ly p else par p) /\ Unb m rs g (Od ++ Ly) (qK (zcV m rs g Od Ly)) := by
 have hm := n.m0
 have hmem : ∀ p : Nat, p ∈ zcV m rs g Od Ly ↔ (p : Int) < m /\ brn rs g Od Ly p = true := fun p => by
  unfold zcV; rw [kbb, kan]
  constructor
  ·rintro ⟨a, b⟩; exact ⟨by exact Mine.qE ‹_› ‹_›, b⟩
  ·rintro ⟨a, b⟩; exact ⟨by exact Mine.yI ‹_›, b⟩
 refine ⟨Y.step n (brn rs g Od Ly) (fun q => ?_) (zbs ?_) (fun p hp hb => ?_) (fun _ _ _ => rfl) (fun p hp hb => ?_), fun p hp h1 h2 => ?_⟩
 ·constructor
  ·intro h
   obtain ⟨p, hp, rfl⟩ := kat.mp h
   obtain ⟨a, b⟩ := (hmem p).mp hp
   exact ⟨p, a, rfl, b⟩
  ·rintro ⟨p, a, rfl, b⟩
   exact yj.mpr ((hmem p).mpr ⟨a, b⟩)
 ·exact kbe.sublist kbM
 ·unfold brn at hb
  simp only [kaH, kbK, decide_eq_false_iff_not, kau, not_or] at hb
  exact hb.1
 ·obtain ⟨k, h1, h2⟩ := zkG n U hp hb
  refine ⟨k, h2, ?_⟩
  unfold zhN at h1
  show g p = zU rs p - (nb rs p (qR Od) + nb rs p (qR Ly)) + k
  exact liq r5 V0 (.add (.sub V1 (.add V2 V3)) V4) [(2,-1,V4,.sub V0 (.sub V1 (.add V2 V3)))] rfl h1
 ·have hb : brn rs g Od Ly p = false := by
   cases h : brn rs g Od Ly p with
   | false => rfl
   | true => exact absurd (yj.mpr ((hmem p).mpr ⟨hp, h⟩)) h2
  unfold brn at hb
  simp only [h1, decide_false, kb3, kbG, decide_eq_false_iff_not] at hb
  unfold zhN at hb
  have h3 := zpw n Y.apart (p : Int)
  have e1 : zaP Od = qR Od := rfl
  have e2 : zaP Ly = qR Ly := rfl
  rw [e1, e2] at h3
  exact lit r5 (.add V0 V1) V2 [(3,1,.sub V2 (.add V3 V4),V0),(2,1,V1,.add V3 V4)] rfl hb h3
theorem Lay.ge {i : Nat} {Od Ly : List Int} {lev : Int -> Nat} {par : Nat -> Nat} (n : Net m rs) (Y : Lay m rs g i Od Ly lev par) : (Od ++ Ly).length <= m.toNat + 1 := by
 have hm := n.m0
 refine wd m.toNat _ Y.nd fun x hx => ?_
 rw [tnn hm]
 rcases kau.mp hx with h | h
 ·have := (Y.o x).mp h; exact ⟨this.1, this.2.1⟩
 ·have := (Y.y x).mp h; exact ⟨this.1, this.2.1⟩
end
section
variable {T : TC} {d : Nat} {J : zb} {Q : V -> zb -> Prop} {P : Nat -> zb -> Prop}
theorem znN (F : zim T) {m : Int} {rs : Rd2} {g : Nat -> Int} {JA : zb} {r hp t o y : Addr} {Od Ly : List Int} {tr : List Nat} {i : Nat} {lev : Int -> Nat} {par : Nat -> Nat} {o6 o7 o8 o9 : Option V} {K : Out -> zM -> zb -> Prop}
  (n : Net m rs) (Y : Lay m rs g i Od Ly lev par) (U : Unb m rs g Od Ly) (hr : zQ JA r rs) (hh : L JA hp m.toNat g) (ht0 : JA t = none) (e0 : Ext JA J) (ho : J o = some (.dict (dk Od))) (hy : J y = some (.dict (dk Ly))) (ht : J t = some (.list (zs (qK tr)))) (htl : tr.length <= 10)
  (hK : ∀ b f o8 o9 J', Ext JA J' -> J' b = some (.dict (dk (Od ++ Ly))) -> J' f = some (.dict (dk (qK (zcV m rs g Od Ly)))) -> J' t = some (.list (zs (qK (tr ++ (zcV m rs g Od Ly).map (nxt rs g Od Ly))))) -> K .next [some (.int m), some (.ref r), some (.ref hp), some (.ref t), some (.ref b), some (.ref f), some (.ref b), some (.ref f), o8, o9] J') :
  zbi T (d + 3) [some (.int m), some (.ref r), some (.ref hp), some (.ref t), some (.ref o), some (.ref y), o6, o7, o8, o9] J K P := by
 have hm := n.m0; have hm' := n.m10
 have hlen := Y.ge n
 unfold zbi
 refine zc0 (d := d + 2) F.keys ho hy Y.nd (by exact leN (lin (@r3 (↑((Od ++ Ly).length)) _ (↑(m.toNat))) V0 (.num 20) [(0,1,V1,.num 10),(0,1,V0,.add V2 N1),(2,1,V2,V1)] rfl hm' (leI hlen) (tnn (hm)))) fun b J1 hb e1 hbv => ?_
 simp only [zp, zq]
 rw [zG]
 simp only [zV, zfx]
 refine zh fun f J2 hf e2 hfv => ?_
 have e02 := e0.trans (e1.trans e2)
 have hf0 : JA f = none := (e0.trans e1).none hf
 have h1 : f ≠ o := (jt (e1 _ _ ho) hf).symm
 have h2 : f ≠ y := (jt (e1 _ _ hy) hf).symm
 have h3 : f ≠ b := (jt hbv hf).symm
 refine zao hm hm' (y9 rfl) (fun j Z J' => X2 fun o8 o9 => A4 (Z = [some (.int m), some (.ref r), some (.ref hp), some (.ref t), some (.ref o), some (.ref y), some (.ref b), some (.ref f), o8, o9]) (zgI JA J' o y b Od Ly) (J' t = some (.list (zs (qK (tr ++ ((kaa j).filter (brn rs g Od Ly)).map (nxt rs g Od Ly)))))) (J' f = some (.dict (dk (qK ((kaa j).filter (brn rs g Od Ly)))))))
  ⟨_, _, rfl, ⟨e02, e2 _ _ (e1 _ _ ho), e2 _ _ (e1 _ _ hy), e2 _ _ hbv⟩, by rw [e2 _ _ (e1 _ _ ht)]; simp, hfv⟩ ?_ ?_
 ·intro j Z J' K' hj hI5a hK'
  obtain ⟨o8', o9', rfl, tu, ht', hf'⟩ := hI5a
  have hfl : ((kaa j).filter (brn rs g Od Ly)).length <= j := by
   have := kbC (brn rs g Od Ly) (kaa j)
   rw [kbc] at this; exact this
  refine znO (d := d) F n U hr hh ht0 hf0 tu ht' hf' h1 h2 h3 hj (fun h => by have := kan.mp (kbb.mp h).1; exact kba _ ‹_›) (by rw [kam, kaC]; exact leN (lin r4 (.add V0 V1) (.num 20) [(0,1,V0,.num 10),(0,1,V2,.num 10),(1,1,V3,V2),(0,1,V1,V3)] rfl (leI htl) hm' hj (leI hfl))) (by exact leN (lin r3 V0 (.num 20) [(0,1,V1,.num 10),(1,1,V2,V1),(0,1,V0,V2)] rfl hm' hj (leI hfl))) fun o9'' J'' tu'' ht'' hf'' => hK' _ _ ⟨_, _, rfl, tu'', ?_, ?_⟩
  ·rw [ht'', kaT, ka4, ka0, kaN]
   cases hb : brn rs g Od Ly j <;> simp [hb]
  ·rw [hf'', kaT, ka4]
   cases hb : brn rs g Od Ly j <;> simp [hb]
 ·rintro Z J' ⟨o8', o9', rfl, tu, ht', hf'⟩
  exact hK _ _ _ _ _ tu.ext tu.b hf' ht'
end
structure zjl (m : Int) (rs : Rd2) (g : Nat -> Int) (t : List Int) : Prop where
 len : (t.length : Int) = m
 up : t.Pairwise (· < ·)
 rng : ∀ x ∈ t, 0 <= x /\ x < rs.length
 corr : ∃ lev par, w6 m rs g (fun j => (j : Int) ∈ t) lev par
theorem zlc {l : List Int} (h : l.Pairwise (· <= ·)) (hn : l.Nodup) : l.Pairwise (· < ·) := by
 have := kd4.and h hn
 exact this.imp fun {x y} h => by have := h.1; have := h.2; exact (wT (h.1) h.2)
theorem zfa : ∀ {l l' : List Int}, l.Pairwise (· < ·) -> l'.Pairwise (· < ·) -> (∀ x, x ∈ l ↔ x ∈ l') -> l = l'
 | [], [], _, _, _ => rfl
 | [], b :: r, _, _, h => absurd ((h b).mpr (kaq ..)) kaM
 | a :: r, [], _, _, h => absurd ((h a).mp (kaq ..)) kaM
 | a :: r, b :: s, h1, h2, h => by
  rw [List.pairwise_cons] at h1 h2
  have hab : a = b := by
   rcases kah.mp ((h a).mp (kaq ..)) with e | e
   ·exact e
   ·rcases kah.mp ((h b).mpr (kaq ..)) with e' | e'
    ·exact e'.symm
    ·have := h1.1 b e'; have := h2.1 a e; exact lif r2 [(1,1,V0,V1),(1,1,V1,V0)] rfl ‹_› this
  subst hab
  have : r = s := zfa h1.2 h2.2 fun x => by
   have hx := h x
   simp only [kah] at hx
   constructor
   ·intro hr
    have := h1.1 x hr
    rcases hx.mp (.inr hr) with e | e
    ·exact lif r2 [(1,1,V0,V1),(2,1,V1,V0)] rfl this e
    ·exact e
   ·intro hs
    have := h2.1 x hs
    rcases hx.mpr (.inr hs) with e | e
    ·exact lif r2 [(1,1,V0,V1),(2,1,V1,V0)] rfl this e
    ·exact e
  rw [this]
section
variable {m : Int} {rs : Rd2} {g : Nat -> Int}
theorem zjl.same (n : Net m rs) {t t' : List Int} (h : zjl m rs g t) (h' : zjl m rs g t') : t = t' := by
 obtain ⟨lev, par, C⟩ := h.corr
 obtain ⟨lev', par', C'⟩ := h'.corr
 have := C.treeEq n C'
 refine zfa h.up h'.up fun x => ?_
 constructor
 ·intro hx
  obtain ⟨j, rfl⟩ := kay (h.rng x hx).1
  exact (this j).mp hx
 ·intro hx
  obtain ⟨j, rfl⟩ := kay (h'.rng x hx).1
  exact (this j).mpr hx
theorem Lay.ends (n : Net m rs) (R : Rec m rs g) {i : Nat} {Od : List Int} {lev : Int -> Nat} {par : Nat -> Nat} {ps : List Nat} {t : List Int} (Y : Lay m rs g i Od [] lev par) (U : Unb m rs g Od []) (hps : Od = m :: qK ps) (hp : t.Perm (qK (ps.map par))) (hs : t.Pairwise (· <= ·)) : zjl m rs g t := by
 have hm := n.m0
 have hO : m ∈ Od := by rw [hps]; exact kaq ..
 have hall := U.burns n R hO
 have hin : ∀ p : Nat, (p : Int) < m -> p ∈ ps := fun p hp => by
  have := hall p hp
  rw [hps] at this
  rcases kah.mp this with e | e
  ·exact lif r2 [(1,1,V0,V1),(2,-1,V0,V1)] rfl hp e
  ·exact yj.mp e
 have hnd : Od.Nodup := by have := Y.nd; rwa [kaR] at this
 have hlt : ∀ p ∈ ps, (p : Int) < m := fun p hp => by
  have h1 : (p : Int) ∈ Od := by rw [hps]; exact kal _ (yj.mpr hp)
  have h2 := (Y.o p).mp h1
  have h3 : (p : Int) ≠ m := fun e => by
   rw [hps, kaQ] at hnd
   exact hnd.1 (by rw [<- e]; exact yj.mpr hp)
  exact (wT (h2.2.1) h3)
 have C : w6 m rs g (fun j => ∃ p : Nat, (p : Int) < m /\ par p = j) lev par := Y.corr hall fun j => Iff.rfl
 have hpn : ps.Nodup := by
  rw [hps, kaQ] at hnd
  have h := hnd.2
  unfold qK at h
  rw [kaW, kbn] at h
  exact h.imp fun hab e => hab (by rw [e])
 have htn : (qK (ps.map par)).Nodup := by
  refine zbs ?_
  rw [kaW, kbn]
  exact hpn.imp_of_mem fun {a b} ha hb hab e => hab (C.inj n (hlt a ha) (hlt b hb) e)
 have hlen : (ps.length : Int) = m := by
  have h1 : Od.length <= m.toNat + 1 := by have := Y.ge n; rwa [kaR] at this
  have h2 := zbb m.toNat Od fun k h0 hk => by
   by_cases e : k = m
   ·rw [e]; exact hO
   ·obtain ⟨p, rfl⟩ := kay h0
    exact hall p (by exact (wT (lin r3 V0 V1 [(0,1,V0,V2),(2,1,V2,V1)] rfl hk (tnn (hm))) e))
  rw [hps, kag, qh] at h1 h2
  exact kav (lin (@r3 (↑(ps.length)) _ (↑(m.toNat))) V0 V1 [(0,1,.add V0 N1,.add V2 N1),(2,1,V2,V1)] rfl (leI h1) (tnn (hm))) (lin (@r3 _ (↑(ps.length)) (↑(m.toNat))) V0 V1 [(0,1,.add V2 N1,.add V1 N1),(2,-1,V2,V0)] rfl (leI h2) (tnn (hm)))
 have hmem : ∀ j : Nat, (j : Int) ∈ t ↔ ∃ p : Nat, (p : Int) < m /\ par p = j := fun j => by
  rw [hp.mem_iff, yj, kat]
  constructor
  ·rintro ⟨p, h, e⟩; exact ⟨p, hlt p h, e⟩
  ·rintro ⟨p, h, e⟩; exact ⟨p, hin p h, e⟩
 refine ⟨by rw [hp.length_eq, qh, kaC]; exact hlen, zlc hs (hp.symm.nodup htn), fun x hx => ?_, lev, par, Y.corr hall hmem⟩
 have hx' := hp.mem_iff.mp hx
 obtain ⟨j, hj, rfl⟩ := kat.mp hx'
 obtain ⟨p, hpp, e⟩ := kat.mp hj
 obtain ⟨ed, he, _⟩ := C.road (hlt p hpp)
 rw [e] at he
 have := (kae.mp he).1
 exact ⟨nnI _, kaE.mpr this⟩
end
section
variable {T : TC} {d : Nat} {J : zb} {Q : V -> zb -> Prop} {P : Nat -> zb -> Prop}
structure zk4 (T : TC) : Prop where
 N : zgJ T
 need : FnW T "need_heap" 2 1 (yG T)
 I : znI T
 again : FnW T "need_again" 3 0 (y4 T)
 R : zim T
 tree : FnW T "tree_of" 3 7 (zcd T)
theorem zhf (F : zk4 T) {m : Int} {rs : Rd2} {r hp : Addr} {g : Nat -> Int} (n : Net m rs) (hr : zQ J r rs) (hh : L J hp m.toNat g) (hg : zbP m g)
  (hq : ∀ c t J', J c = none -> Ext J J' -> Rec m rs g -> zjl m rs g t -> qM J' c t -> Q (.ref c) J') (he : ∀ J', Ext J J' -> ¬ Rec m rs g -> P 6 J') : zA T (d + 8) "tree_of" [.int m, .ref r, .ref hp] J Q P := by
 have hm := n.m0; have hm' := n.m10
 refine F.tree (d + 7) _ _ _ _ rfl ?_
 unfold zcd
 rw [zG]
 simp only [yS, zL, zB, zK, zv, qf, qi, qe, zg, zf]
 refine wx (d := d + 4) F.N n hr fun J1 e1 => ?_
 rw [zG]
 simp only [yS, zL, zB, zK, zv, zg, zf]
 refine zbT (d := d + 5) F.N.within F.need hm hm' (hh.ext e1) hg fun J2 e2 => ?_
 rw [zG]
 simp only [yS, zL, zB, zK, zv, zg, zf]
 have e12 := e1.trans e2
 refine zeu (d := d) F.I F.again n (hr.ext e12) (hh.ext e12) hg.lo (fun J3 e3 R => ?_) fun J3 e3 h => he J3 (e12.trans e3) h
 rw [zG]
 simp only [zV, qV, zK, kaB]
 refine ⟨by unfold lim; exact kak rfl, zh fun t J4 ht e4 htv => ?_⟩
 have e03 := e12.trans e3
 have e04 := e03.trans e4
 unfold zd3
 rw [zG]
 simp only [zV, zfx]
 refine zh fun o J5 ho e5 hov => ?_
 simp only [zp, zq]
 rw [zG]
 simp only [zV, wV, qo, zv, zg, zf, zd]
 refine zh fun y J6 hy e6 hyv => ?_
 have e46 := e5.trans e6
 have hr3 := hr.ext e03
 have hh3 := hh.ext e03
 refine zcc (fun k Z J' => X12 fun i Od Ly lev par ps o y o6 o7 o8 o9 => A9 (Z = [some (.int m), some (.ref r), some (.ref hp), some (.ref t), some (.ref o), some (.ref y), o6, o7, o8, o9]) (Ext J3 J') (J' o = some (.dict (dk Od))) (J' y = some (.dict (dk Ly))) (J' t = some (.list (zs (qK (kd2 par ps))))) (Lay m rs g i Od Ly lev par) (Unb m rs g Od Ly) (Od ++ Ly = m :: qK ps) (k = 2 * (m.toNat + 1 - (Od ++ Ly).length) + if Ly = [] then 0 else 1)) _
  ⟨0, [], [m], _, _, [], o, y, _, _, _, _, rfl, e4.trans e46, e6 _ _ hov, hyv, e46 _ _ htv, Lay.start g hm, Unb.start R.rest, rfl, rfl⟩ ?_
 intro k Z J' K' hI4a hK'
 obtain ⟨i, Od, Ly, lev, par, ps, o', y', o6, o7, o8, o9, rfl, e', ho', hy', ht', Y, U, hps, rfl⟩ := hI4a
 have hge := Y.ge n
 simp only [qH, qG, qo, zv, zg, zf, ze, zd]
 refine zbf hy' ?_
 rw [yg]
 by_cases hl : Ly = []
 ·subst hl
  refine ja ht' ?_
  rw [kaR] at hps hge
  refine ⟨_, rfl, ?_, fun ns hp hs => zh fun c J7 hc e7 hcv => ?_⟩
  ·rw [hps, kag, qh] at hge
   rw [qh, kaC]; exact ltN (lit (@r3 (↑(ps.length)) _ (↑(m.toNat))) V0 (.num 64) [(0,1,V1,.num 10),(0,1,.add V0 N1,.add V2 N1),(2,1,V2,V1)] rfl hm' (leI hge) (tnn (hm)))
  ·exact hq c ns J7 ((e03.trans e').none hc) (e03.trans (e'.trans e7)) R (Y.ends n R U hps hp hs) hcv
 ·have hpos : (0 : Int) < (Ly.length : Int) := by
   have : Ly.length ≠ 0 := fun h => hl (kaA h)
   exact (jW ((nnI _)) (Ne.symm this))
  refine qD (decide_eq_true hpos) ?_
  have hpl : ps.length <= 10 := by rw [hps, kag, qh] at hge; exact leN (lin (@r3 (↑(ps.length)) _ (↑(m.toNat))) V0 (.num 10) [(0,1,V1,.num 10),(0,1,.add V0 N1,.add V2 N1),(2,1,V2,V1)] rfl hm' (leI hge) (tnn (hm)))
  refine znN (d := d + 4) F.R n Y U hr3 hh3 ht e' ho' hy' ht' (by rw [kaC]; exact hpl) fun b f o8' o9' J'' e'' hb hf ht'' => ?_
  obtain ⟨Y', U'⟩ := Y.burn n U
  have hge' := Y'.ge n
  refine hK' _ _ (2 * (m.toNat + 1 - ((Od ++ Ly) ++ qK (zcV m rs g Od Ly)).length) + if qK (zcV m rs g Od Ly) = [] then 0 else 1) ?_ ⟨i + 1, Od ++ Ly, qK (zcV m rs g Od Ly), _, _, ps ++ zcV m rs g Od Ly, b, f, _, _, _, _, rfl, e'', hb, hf, ?_, Y', U', ?_, rfl⟩
  ·rw [if_neg hl, kam, qh]
   rw [kam, qh] at hge'
   by_cases hz : qK (zcV m rs g Od Ly) = []
   ·rw [if_pos hz]; lia
   ·rw [if_neg hz]
    have : (zcV m rs g Od Ly).length ≠ 0 := fun h => hz (kaA (by rw [qh]; exact h))
    lia
  ·rw [ht'', ka0]
   have h1 : ps.map (fun p => if brn rs g Od Ly p = true then nxt rs g Od Ly p else par p) = ps.map par := kbd fun p hp => by
    have : (p : Int) ∈ Od ++ Ly := by rw [hps]; exact kal _ (yj.mpr hp)
    have : brn rs g Od Ly p = false := by unfold brn; simp only [this, decide_true, kbv, kcx]
    rw [this]; rfl
   have h2 : (zcV m rs g Od Ly).map (fun p => if brn rs g Od Ly p = true then nxt rs g Od Ly p else par p) = (zcV m rs g Od Ly).map (nxt rs g Od Ly) := kbd fun p hp => by
    have := (kbb.mp hp).2
    rw [this]; rfl
   rw [h1, h2]
  ·rw [hps]; simp [qK]
end
end Mine
end
section
open PySem
namespace Mine
open PyProof.Rows in
theorem zd1 : ∀ (l acc : List Int), acc.Nodup -> ((l.foldl step_dedup acc).length <= acc.length + l.length /\ ((l.foldl step_dedup acc).length = acc.length + l.length ↔ (acc ++ l).Nodup))
 | [], acc, h => by simp [h]
 | x :: l, acc, h => by
  have e : step_dedup acc x = if x ∈ acc then acc else acc ++ [x] := by
   unfold step_dedup
   by_cases hx : x ∈ acc
   ·simp [hx]
   ·simp [hx]
  rw [kbD, e]
  by_cases hx : x ∈ acc
  ·rw [if_pos hx]
   obtain ⟨h1, h2⟩ := zd1 l acc h
   refine ⟨by rw [kag]; exact leN (lin (@r3 (↑((kdL step_dedup acc l).length)) (↑(acc.length)) (↑(l.length))) V0 (.add V1 (.add V2 N1)) [(0,1,V0,.add V1 V2)] rfl (leI h1)), ⟨fun h3 => ?_, fun h3 => ?_⟩⟩
   ·rw [kag] at h3; omega
   ·rw [kbg] at h3
    exact absurd rfl (h3.2.2 x hx x (kaq ..))
  ·rw [if_neg hx]
   have hn : (acc ++ [x]).Nodup := by
    rw [kbg]
    refine ⟨h, by simp, fun a ha b hb e => ?_⟩
    rw [kaf.mp hb] at e
    exact hx (e ▸ ha)
   obtain ⟨h1, h2⟩ := zd1 l (acc ++ [x]) hn
   rw [kam, ka3] at h1 h2
   refine ⟨by rw [kag]; exact leN (lin (@r3 (↑((kdL step_dedup (acc ++ [x]) l).length)) (↑(acc.length)) (↑(l.length))) V0 (.add V1 (.add V2 N1)) [(0,1,V0,.add (.add V1 N1) V2)] rfl (leI h1)), ?_⟩
   rw [kag, show acc.length + (l.length + 1) = acc.length + 1 + l.length by exact eqN (liq (@r2 (↑(acc.length)) (↑(l.length))) (.add V0 (.add V1 N1)) (.add (.add V0 N1) V1) [] rfl), h2, kaN]
   rfl
theorem zms (ns : List Int) : (kaa ns.length).map (fun i => ns.getD i 0) = ns := by
 apply List.ext_getElem
 ·simp
 ·intro i h1 h2
  simp only [kaC, kbc] at h1
  simp [kas, h1]
theorem zc3 (ns : List Int) : zdb ns = ns.length ↔ ns.Nodup := by
 unfold zdb PyProof.Rows.firstMet
 rw [zms]
 have := (zd1 ns [] kcv).2
 simpa using this
noncomputable def tro (rs : Rd2) (t : List Int) : Rd2 := t.map fun x => rs.getD x.toNat (0, 0)
structure zbO (m : Int) (rs : Rd2) (t : List Int) : Prop where
 len : (t.length : Int) = m
 rng : ∀ x ∈ t, 0 <= x /\ x < rs.length
 nd : t.Nodup
 conn : ∀ q, 0 <= q -> q < m -> jl (tro rs t) m q
theorem zkq {rs : Rd2} {t : List Int} {p : Int × Int} (h : ∀ x ∈ t, 0 <= x /\ x < rs.length) (hp : p ∈ tro rs t) : p ∈ rs := by
 obtain ⟨x, hx, e⟩ := kat.mp hp
 have := h x hx
 have hl : x.toNat < rs.length := by exact ltN (lit r3 V0 V1 [(1,1,V2,V1),(2,1,V0,V2)] rfl this.2 (tnn (this.1)))
 rw [kas, kac hl] at e
 rw [<- e]; exact kcj hl
theorem zjl.ok {m : Int} {rs : Rd2} {g : Nat -> Int} {t : List Int} (n : Net m rs) (h : zjl m rs g t) : zbO m rs t := by
 obtain ⟨lev, par, C⟩ := h.corr
 refine ⟨h.len, h.rng, ?_, fun q h0 hq => ?_⟩
 ·exact h.up.imp fun {a b} hab e => by exact lif r2 [(1,1,V0,V1),(2,-1,V0,V1)] rfl hab e
 ·refine C.joins n (K := fun q => jl (tro rs t) m q) .refl (fun j e hj he hk => ?_) q h0 (kaF hq)
  have hm : (e.1, e.2) ∈ tro rs t := kat.mpr ⟨(j : Int), hj, by rw [kai, kas, he]; rfl⟩
  rcases hk with h | h
  ·exact ⟨h, h.fwd hm⟩
  ·exact ⟨h.bwd hm, h⟩
end Mine
end
section
open PySem
namespace Mine
theorem Prs.snoc {J : zb} : ∀ {vs : List V} {rs : Rd2}, Prs J vs rs -> ∀ {a : Addr} {x y : Int}, J a = some (.tup [.int x, .int y]) -> Prs J (vs ++ [.ref a]) (rs ++ [(x, y)]) := by
 intro vs rs h a x y ha
 induction h with
 | nil => exact .cons ha .nil
 | cons h1 _ ih => exact .cons h1 ih
section
variable {T : TC} {d : Nat} {J : zb} {Q : V -> zb -> Prop} {P : Nat -> zb -> Prop}
structure zo7 (T : TC) : Prop where
 N : zgJ T
 need : FnW T "need_tree" 3 1 (zaH T)
theorem zeO (F : zo7 T) {m : Int} {rs : Rd2} {r tp : Addr} {t : List Int} (n : Net m rs) (hr : zQ J r rs) (ht : qM J tp t) (htl : t.length <= 100)
  (hq : ∀ J', Ext J J' -> zbO m rs t -> Q .none J') (he : ∀ J', Ext J J' -> ¬ zbO m rs t -> P 4 J') : zA T (d + 2) "need_tree" [.int m, .ref r, .ref tp] J Q P := by
 have hm := n.m0; have hm' := n.m10
 obtain ⟨vs, hr1, hr2⟩ := id hr
 unfold qM at ht
 refine F.need (d + 1) _ _ _ _ rfl ?_
 unfold zaH
 rw [zG]
 simp only [je, zgk, zcj, zdx, zfq, zv, qf, qi, qe, zg, zf, isi, ht, zm, kbv, kad, if_false, qH, qG, ze]
 refine zS ht ?_
 rw [qc]
 simp only [zd, Cmp.run, zm]
 by_cases hl : (t.length : Int) = m
 ·have hl' : ((t.length : Int) != m) = false := by simp [hl]
  simp only [hl', kad, if_false, qC]
  rw [zG]
  simp only [je, zgk, zcj, zdx, zfO, qX, jr, zv, zg, zf, ze]
  refine zO ht ?_
  refine ⟨by rw [qc]; unfold lim; exact leN (lin r2 V0 (.num 1000000) [(0,1,V1,.num 10),(2,1,V0,V1)] rfl hm' hl), ?_⟩
  refine qj (fun i acc J' => J' = J /\ acc = ((t.take i).map fun x => V.bool (decide (0 <= x /\ x <= (rs.length : Int) - 1)))) ⟨rfl, rfl⟩ ?_ ?_
  ·rintro i v acc J' K' hv ⟨rfl, rfl⟩ hK'
   refine ⟨.inl ht, ?_⟩
   obtain ⟨x, hx, rfl⟩ : ∃ x, t[i]? = some x /\ v = .int x := by
    unfold zs at hv
    rw [kaJ] at hv
    cases hti : t[i]? with
    | none => rw [hti] at hv; cases hv
    | some x => rw [hti] at hv; exact ⟨x, rfl, (Option.some.inj hv).symm⟩
   simp only [qv, if_true, zq, zp, zL, zB, zK, zav, qG, qo, zv, zg, zf, ze]
   refine zS hr1 ?_
   refine yB (d := d) F.N.within (hK' _ _ ⟨rfl, ?_⟩)
   rw [kaY, hx, hr2.length]
   simp
  ·rintro acc J' ⟨rfl, rfl⟩
   refine ⟨.inl ht, zh fun c J1 hc e1 hcv => ?_⟩
   refine zE hcv ?_
   have ht1 := e1 _ _ ht
   refine ⟨t.map fun x => decide (0 <= x /\ x <= (rs.length : Int) - 1), by rw [qc, kaL, kbB]; rfl, ?_⟩
   by_cases hrng : ∀ x ∈ t, 0 <= x /\ x < (rs.length : Int)
   ·have hall : (t.map fun x => decide (0 <= x /\ x <= (rs.length : Int) - 1)).all id = true := by
     rw [kaZ]
     intro b hb
     obtain ⟨x, hx, rfl⟩ := kat.mp hb
     have := hrng x hx
     exact decide_eq_true (by exact ⟨this.1, lin r2 V0 (.sub V1 N1) [(1,1,V0,V1)] rfl this.2⟩)
    simp only [hall, zm, kbv, kad, if_false, qH, zmm, zv, zg, zf, ze]
    refine ja ht1 ?_
    refine ⟨t, rfl, by omega, ?_⟩
    simp only [zd, Cmp.run, zm]
    by_cases hnd : t.Nodup
    ·have hdc : ((zdb t : Int) != m) = false := by rw [(zc3 t).mpr hnd]; simp [hl]
     simp only [hdc, kad, if_false, qC]
     simp only [je, qH, qG, zL, zB, zK, qX, jr, zv, zg, zf, ze]
     refine zO ht1 ?_
     refine ⟨by rw [qc]; unfold lim; exact leN (lin r2 V0 (.num 1000000) [(0,1,V1,.num 10),(2,1,V0,V1)] rfl hm' hl), ?_⟩
     refine qj (fun i acc J' => J' = J1 /\ Prs J1 acc (tro rs (t.take i))) ⟨rfl, .nil⟩ ?_ ?_
     ·rintro i v acc J' K' hv ⟨rfl, hacc⟩ hK'
      refine ⟨.inl ht1, ?_⟩
      obtain ⟨x, hx, rfl⟩ : ∃ x, t[i]? = some x /\ v = .int x := by
       unfold zs at hv
       rw [kaJ] at hv
       cases hti : t[i]? with
       | none => rw [hti] at hv; cases hv
       | some x => rw [hti] at hv; exact ⟨x, rfl, (Option.some.inj hv).symm⟩
      have hxr := hrng x (kaj hx)
      refine ⟨hxr.1, ?_⟩
      refine qx (e1 _ _ hr1) ?_
      have hlv : x.toNat < vs.length := by rw [hr2.length]; exact ltN (lit r3 V0 V1 [(1,1,V2,V1),(2,1,V0,V2)] rfl hxr.2 (tnn (hxr.1)))
      have hvg : vs[x.toNat]? = some vs[x.toNat] := kac hlv
      refine yk hvg ?_
      obtain ⟨a, u, w, hau, hrs, hta⟩ := hr2.get hvg
      rw [hau]
      refine hK' _ _ ⟨rfl, ?_⟩
      have : tro rs (t.take (i + 1)) = tro rs (t.take i) ++ [(u, w)] := by
       unfold tro
       rw [kaY, hx, ka0]
       simp [kas, hrs]
      rw [this]
      exact hacc.snoc (e1 _ _ hta)
     ·rintro acc J' ⟨rfl, hacc⟩
      refine ⟨.inl ht1, zh fun c2 J2 hc2 e2 hcv2 => ?_⟩
      rw [qc, kaL] at hacc
      have hR : zQ J2 c2 (tro rs t) := ⟨acc, hcv2, hacc.ext e2⟩
      refine zc6 (d := d) F.N.come hm hm' hR (fun p hp => by have := n.ends p (zkq hrng hp); exact ⟨this.1, this.2.1⟩) fun f J3 ks e3 hf hfd hco hcl => ?_
      simp only [ze, jf, qo, zv, zg, zf, zd]
      refine zbf hfd ?_
      rw [yg]
      have e03 := e1.trans (e2.trans e3)
      have hiff : (ks.length : Int) = m + 1 ↔ zbO m rs t := by
       constructor
       ·intro hk
        refine ⟨hl, hrng, hnd, fun q h0 hqm => hco.reach q ?_⟩
        apply kaw
        intro hn
        have := wd m.toNat (q :: ks) (kaQ.mpr ⟨hn, hco.nd⟩) fun x hx => by
         rw [tnn hm]
         rcases kah.mp hx with h | h
         ·rw [h]; exact ⟨h0, kaF hqm⟩
         ·exact hco.rng x h
        rw [kag] at this
        exact lif (@r3 (↑(ks.length)) _ (↑(m.toNat))) [(2,-1,V0,.add V1 N1),(0,1,.add V0 N1,.add V2 N1),(2,1,V2,V1)] rfl hk (leI this) (tnn (hm))
       ·intro hok
        have h1 := hco.le
        have h2 := zbb m.toNat ks fun k h0 hk => by
         by_cases e : k = m
         ·rw [e]; exact hco.pit
         ·exact hcl.all hco.pit (hok.conn k h0 (by exact (wT (lin r3 V0 V1 [(0,1,V0,V2),(2,1,V2,V1)] rfl hk (tnn (hm))) e)))
        exact kav (h1) (lin (@r3 _ (↑(ks.length)) (↑(m.toNat))) (.add V0 N1) V1 [(0,1,.add V2 N1,V1),(2,-1,V2,V0)] rfl (leI h2) (tnn (hm)))
      by_cases hk : (ks.length : Int) = m + 1
      ·have : ((ks.length : Int) != m + 1) = false := by simp [hk]
       refine qW this ?_
       exact hq _ e03 (hiff.mp hk)
      ·have : ((ks.length : Int) != m + 1) = true := by simp [hk]
       refine qD this ?_
       exact he _ e03 fun h => hk (hiff.mpr h)
    ·have hdc : ((zdb t : Int) != m) = true := by
      have : zdb t ≠ t.length := fun h => hnd ((zc3 t).mp h)
      rw [bne_iff_ne]; exact (fun h_ => lif r3 [(2,1,V0,V1),(2,-1,V2,V1),(1,1,V2,V0)] rfl hl h_ (jW (lin r3 V0 V1 [(2,-1,V1,V2),(2,1,V0,V2)] rfl hl h_) this))
     refine qD hdc ?_
     exact he _ e1 fun h => hnd h.nd
   ·have hall : (t.map fun x => decide (0 <= x /\ x <= (rs.length : Int) - 1)).all id = false := by
     cases hh : (t.map fun x => decide (0 <= x /\ x <= (rs.length : Int) - 1)).all id with
     | false => rfl
     | true =>
      rw [kaZ] at hh
      exact absurd (fun x hx => by have := of_decide_eq_true (hh _ (kat.mpr ⟨x, hx, rfl⟩)); exact ⟨this.1, lit r2 V0 V1 [(0,1,V0,.sub V1 N1)] rfl this.2⟩) hrng
    simp only [hall, zm, kb3, if_true, zn2]
    exact he _ e1 fun h => hrng h.rng
 ·have hl' : ((t.length : Int) != m) = true := by simp [hl]
  refine qD hl' ?_
  exact he _ Ext.refl fun h => hl h.len
end
theorem InV.ints {J : zb} {t : Addr} {ns : List Int} {x : Int} {k : Bool -> Prop} (ht : J t = some (.list (zs ns))) (hk : k (decide (x ∈ ns))) : InV J (.int x) (.ref t) k := by
 refine ⟨.int x, ns.map .int, .int x, .inl (.list ht (zb5 J ns)), ?_, by rfl, by simp [PyData.depth], ?_⟩
 ·clear ht hk; induction ns with
  | nil => rfl
  | cons a r ih => simp [PyData.canLayAll0, PyData.canLay0, ih]
 ·have : ((ns.map PyData.int).any fun y => PyData.eqv y (.int x)) = decide (x ∈ ns) := by
   rw [kaS, kcV, kbV, decide_eq_true_eq]
   constructor
   ·intro hI0a
    obtain ⟨y, hy, h⟩ := hI0a
    simp only [Function.comp, PyData.eqv] at h
    have : y = x := by simpa using h
    exact this ▸ hy
   ·intro h; exact ⟨x, h, by simp [PyData.eqv]⟩
  rw [this]; exact hk
noncomputable def zi3 (rs : Rd2) (t : List Int) (Ly : List Int) (p : Nat) : List Nat := (rt rs p (qR Ly)).filter fun j : Nat => decide ((j : Int) ∈ t)
noncomputable def brh (rs : Rd2) (t : List Int) (Od Ly : List Int) (p : Nat) : Bool := !decide ((p : Int) ∈ Od ++ Ly) && decide (0 < (zi3 rs t Ly p).length)
noncomputable def nxh (rs : Rd2) (t : List Int) (Ly : List Int) (p : Nat) : Nat := (zi3 rs t Ly p)[0]?.getD 0
noncomputable def ixh (rs : Rd2) (t : List Int) (Ly : List Int) (p : Nat) : Nat := (rt rs p (qR Ly)).idxOf (nxh rs t Ly p)
noncomputable def vlh (rs : Rd2) (t : List Int) (Od Ly : List Int) (p : Nat) : Int := zhN rs Od Ly p + ixh rs t Ly p
theorem zfl {rs : Rd2} {t : List Int} {Od Ly : List Int} {p : Nat} (hb : brh rs t Od Ly p = true) : (zi3 rs t Ly p)[0]? = some (nxh rs t Ly p) /\ (rt rs p (qR Ly))[ixh rs t Ly p]? = some (nxh rs t Ly p) /\ ((nxh rs t Ly p : Nat) : Int) ∈ t /\ (p : Int) ∉ Od /\ (p : Int) ∉ Ly := by
 unfold brh at hb
 simp only [kaH, kbK, decide_eq_false_iff_not, decide_eq_true_eq, kau, not_or] at hb
 have h1 : (zi3 rs t Ly p)[0]? = some (nxh rs t Ly p) := by unfold nxh; rw [kac hb.2]; rfl
 have h2 := kbb.mp (kaj h1)
 have h3 := List.idxOf_lt_length_of_mem h2.1
 refine ⟨h1, ?_, of_decide_eq_true h2.2, hb.1⟩
 unfold ixh
 rw [kac h3, List.getElem_idxOf h3]
section
variable {T : TC} {d : Nat} {J : zb} {Q : V -> zb -> Prop} {P : Nat -> zb -> Prop}
theorem zoo (F : zim T) {m : Int} {rs : Rd2} {g : Nat -> Int} {t : List Int} {JA : zb} {r tp h o y b f : Addr} {Od Ly : List Int} {fs : List Nat} {p : Nat} {o9 o10 : Option V} {K : Out -> zM -> zb -> Prop}
  (n : Net m rs) (hr : zQ JA r rs) (ht : qM JA tp t) (hh0 : JA h = none) (hf0 : JA f = none) (tu : zgI JA J o y b Od Ly) (hh : L J h m.toNat g) (hf : J f = some (.dict (dk (qK fs)))) (h1 : f ≠ o) (h2 : f ≠ y) (h3 : f ≠ b) (hp' : (p : Int) < m) (hps : p ∉ fs) (hfl : fs.length <= 20)
  (hK : ∀ o9 o10 J', zgI JA J' o y b Od Ly -> L J' h m.toNat (if brh rs t Od Ly p then upd g p (vlh rs t Od Ly p) else g) -> J' f = some (.dict (dk (qK (fs ++ if brh rs t Od Ly p then [p] else [])))) -> K .next [some (.int m), some (.ref r), some (.ref tp), some (.ref h), some (.ref o), some (.ref y), some (.ref b), some (.ref f), some (.int p), o9, o10, none] J') :
  zbl T (d + 3) [some (.int m), some (.ref r), some (.ref tp), some (.ref h), some (.ref o), some (.ref y), some (.ref b), some (.ref f), some (.int p), o9, o10, none] J K P := by
 have hm := n.m0; have hm' := n.m10
 have hrl := n.len
 unfold zbl
 refine ww (d := d + 1) F.toRtFns (hr.ext tu.ext) tu.y fun l J1 hl e1 hlv => ?_
 have tu1 := tu.up e1
 simp only [zp, zq]
 rw [zG]
 simp only [zV, qX, jr, zv, zg, zf, ze]
 refine zO hlv ?_
 have hrtl : (rt rs p (qR Ly)).length <= rs.length := by
  unfold rt
  have := kbC (fun i => (rs[i]?).any (tch (qR Ly) p)) (kaa rs.length)
  rwa [kbc] at this
 refine ⟨by rw [qc, qh]; unfold lim; exact leN (lin r2 V0 (.num 1000000) [(0,1,V1,.num 40),(0,1,V0,V1)] rfl (leI hrl) (leI hrtl)), ?_⟩
 refine qj (fun i acc J' => J' = J1 /\ acc = zs (qK (((rt rs p (qR Ly)).take i).filter fun j : Nat => decide ((j : Int) ∈ t)))) ⟨rfl, rfl⟩ ?_ ?_
 ·intro i v acc J' K' hv hI6a hK'
  obtain ⟨rfl, rfl⟩ := hI6a
  refine ⟨.inl hlv, ?_⟩
  obtain ⟨j, hj, rfl⟩ : ∃ j : Nat, (rt rs p (qR Ly))[i]? = some j /\ v = .int j := by
   unfold zs qK at hv
   rw [kbB, kaJ] at hv
   cases hti : (rt rs p (qR Ly))[i]? with
   | none => rw [hti] at hv; cases hv
   | some x => rw [hti] at hv; exact ⟨x, rfl, (Option.some.inj hv).symm⟩
  simp only [q8, zom, zv, zp, zq, zg, zf]
  refine InV.ints (ns := t) (tu1.ext _ _ ht) ?_
  have hnext : ((rt rs p (qR Ly)).take (i + 1)).filter (fun j : Nat => decide ((j : Int) ∈ t)) = ((rt rs p (qR Ly)).take i).filter (fun j : Nat => decide ((j : Int) ∈ t)) ++ if (j : Int) ∈ t then [j] else [] := by
   rw [kaY, hj, ka4]
   by_cases hjt : (j : Int) ∈ t <;> simp [hjt]
  by_cases hjt : (j : Int) ∈ t
  ·refine qD (decide_eq_true hjt) ?_
   refine hK' _ _ ⟨rfl, ?_⟩
   rw [hnext, if_pos hjt]; simp [zs, qK]
  ·refine qW (decide_eq_false hjt) ?_
   refine hK' _ _ ⟨rfl, ?_⟩
   rw [hnext, if_neg hjt, kaR]
 ·rintro acc J' ⟨rfl, rfl⟩
  rw [qc, qh, kaL]
  refine ⟨.inl hlv, zh fun w J2 hw e2 hwv => ?_⟩
  have tu2 := tu1.up e2
  have hwv' : J2 w = some (.list (zs (qK (zi3 rs t Ly p)))) := hwv
  simp only [zp, zq, je, zby, zhQ, zv, zg, zf, zd, ze]
  refine jc tu2.b ?_
  rw [y1]
  simp only [if_true, zm]
  have hh2 := (hh.ext e1).ext e2
  have hf2 := e2 _ _ (e1 _ _ hf)
  by_cases hin : (p : Int) ∈ Od ++ Ly
  ·have hb : brh rs t Od Ly p = false := by unfold brh; simp [hin]
   rw [hb] at hK
   simp only [hin, decide_true, kbv, kad, if_false, zm, qC, kaR] at hK ⊢
   exact hK _ _ _ tu2 hh2 hf2
  ·simp only [hin, decide_false, kb3, if_true, qH, qG, qo, zv, zg, zf, zd, ze]
   refine zS hwv' ?_
   rw [qc, qh]
   simp only [zd, Cmp.run, zm]
   by_cases hpos : 0 < (zi3 rs t Ly p).length
   ·have hb : brh rs t Od Ly p = true := by unfold brh; simp [hin, hpos]
    rw [hb] at hK
    obtain ⟨g1, g2, _⟩ := zfl hb
    have hpos' : (0 : Int) < ((zi3 rs t Ly p).length : Int) := by exact kaE.mpr ‹_›
    refine qD (decide_eq_true hpos') ?_
    rw [zG]
    simp only [zay, jf, zL, zB, zK, zv, zg, zf]
    refine zcv (d := d) F.toLoFns n hp' (hr.ext tu2.ext) tu2.o tu2.y fun J3 e3 => ?_
    have tu3 := tu2.up e3
    simp only [zqw, qA, qo, zv, zg, zf, ze, zd]
    have hl3 := e3 _ _ (e2 _ _ hlv)
    rw [zar hl3]
    refine ⟨trivial, by decide, ?_⟩
    refine qx (e3 _ _ hwv') ?_
    rw [show (0 : Int).toNat = 0 from rfl, yZ (zcl (n := ((nxh rs t Ly p : Nat) : Int)) (by unfold qK; rw [kaJ, g1]; rfl))]
    refine zE hl3 ?_
    refine ⟨_, ixh rs t Ly p, rfl, by unfold qK; rw [kaJ, g2]; rfl, fun m' hm' hmm => ?_, ?_⟩
    ·unfold qK at hmm
     rw [kaJ] at hmm
     cases hq' : (rt rs p (qR Ly))[m']? with
     | none => rw [hq'] at hmm; cases hmm
     | some z =>
      rw [hq'] at hmm
      have hz : z = nxh rs t Ly p := Int.ofNat.inj (Option.some.inj hmm)
      subst hz
      have a1 := kae.mp hq'
      have a2 := kae.mp g2
      have := (kck (h₀ := a1.1) (h₁ := a2.1) (ziY _ _)).mp (a1.2.trans a2.2.symm)
      exact lif r2 [(1,1,V0,V1),(2,-1,V0,V1)] rfl (ltI hm') (eqI this)
    ·have hh3 := hh2.ext e3
     have hf3 := e3 _ _ hf2
     refine hh3.set (by exact nnI _) (by exact Mine.lt_toNat ‹_›) fun J4 hJ4 => ?_
     have hhl : J3 h = some (.list (zs (lst m.toNat g))) := hh3
     have tu4 : zgI JA J4 o y b Od Ly := by rw [hJ4]; exact tu3.put hh0 (zaX hhl tu3.o) (zaX hhl tu3.y) (zaX hhl tu3.b) _
     have hfh : f ≠ h := (zaX hhl hf3).symm
     have hf4 : J4 f = some (.dict (dk (qK fs))) := by rw [hJ4, zY _ hfh]; exact hf3
     refine Eq.mpr (q9 hf4) ?_
     rw [yg, qh, y0]
     refine ⟨by unfold lim; exact ltN (lit r1 V0 (.num 1000000) [(0,1,V0,.num 20)] rfl (leI hfl)), hK _ _ _ (tu4.put hf0 h1 h2 h3 _) ?_ ?_⟩
     ·show put J4 f _ h = _
      rw [zY _ hfh.symm, hJ4, zz]
      rw [kai]; rfl
     ·rw [zz]
      unfold yl
      have : (p : Int) ∉ qK fs := fun h => hps (yj.mp h)
      rw [if_neg this]
      simp [qK]
   ·have hb : brh rs t Od Ly p = false := by unfold brh; simp [hpos]
    rw [hb] at hK
    have hpos' : ¬ (0 : Int) < ((zi3 rs t Ly p).length : Int) := by exact (fun h_ => lif r1 [(0,1,V0,N0),(1,1,N0,V0)] rfl (nuI hpos) h_)
    simp only [gt_iff_lt, hpos', decide_false, kad, if_false, qC, kaR] at hK ⊢
    exact hK _ _ _ tu2 hh2 hf2
end
end Mine
end
section
open PySem
namespace Mine
noncomputable def zfH (m : Int) (rs : Rd2) (t : List Int) (Od Ly : List Int) : List Nat := (kaa m.toNat).filter (brh rs t Od Ly)
noncomputable def nwh (rs : Rd2) (t : List Int) (Od Ly : List Int) (g : Nat -> Int) : Nat -> Int := fun p => if brh rs t Od Ly p then vlh rs t Od Ly p else g p
def Unj (m : Int) (rs : Rd2) (t : List Int) (Od Ly : List Int) : Prop := ∀ p : Nat, (p : Int) < m -> (p : Int) ∉ Od -> (p : Int) ∉ Ly -> ∀ j ∈ rt rs p (qR Od), (j : Int) ∉ t
section
variable {m : Int} {rs : Rd2} {g : Nat -> Int} {t : List Int}
theorem Lay.join (n : Net m rs) {i : Nat} {Od Ly : List Int} {lev : Int -> Nat} {par : Nat -> Nat} (Y : Lay m rs g i Od Ly lev par) (U : Unj m rs t Od Ly) (hpar : ∀ p : Nat, (p : Int) < m -> lev p <= i -> ((par p : Nat) : Int) ∈ t) :
  Lay m rs (nwh rs t Od Ly g) (i + 1) (Od ++ Ly) (qK (zfH m rs t Od Ly)) (zcu i lev (brh rs t Od Ly)) (fun p => if brh rs t Od Ly p then nxh rs t Ly p else par p) /\ Unj m rs t (Od ++ Ly) (qK (zfH m rs t Od Ly)) /\
  (∀ p : Nat, (p : Int) < m -> zcu i lev (brh rs t Od Ly) p <= i + 1 -> (((if brh rs t Od Ly p then nxh rs t Ly p else par p) : Nat) : Int) ∈ t) := by
 have hm := n.m0
 have hmem : ∀ p : Nat, p ∈ zfH m rs t Od Ly ↔ (p : Int) < m /\ brh rs t Od Ly p = true := fun p => by
  unfold zfH; rw [kbb, kan]
  constructor
  ·rintro ⟨a, b⟩; exact ⟨by exact Mine.qE ‹_› ‹_›, b⟩
  ·rintro ⟨a, b⟩; exact ⟨by exact Mine.yI ‹_›, b⟩
 refine ⟨Y.step n (brh rs t Od Ly) (fun q => ?_) (zbs ?_) (fun p hp hb => ?_) (fun p _ hb => ?_) (fun p hp hb => ?_), fun p hp h1 h2 j hj => ?_, fun p hp hl => ?_⟩
 ·constructor
  ·intro h
   obtain ⟨p, hp, rfl⟩ := kat.mp h
   obtain ⟨a, b⟩ := (hmem p).mp hp
   exact ⟨p, a, rfl, b⟩
  ·rintro ⟨p, a, rfl, b⟩
   exact yj.mpr ((hmem p).mpr ⟨a, b⟩)
 ·exact kbe.sublist kbM
 ·exact (zfl hb).2.2.2
 ·unfold nwh; rw [hb]; rfl
 ·refine ⟨ixh rs t Ly p, (zfl hb).2.1, ?_⟩
  unfold nwh; rw [hb]; rfl
 ·have hb : brh rs t Od Ly p = false := by
   cases h : brh rs t Od Ly p with
   | false => rfl
   | true => exact absurd (yj.mpr ((hmem p).mpr ⟨hp, h⟩)) h2
  unfold brh at hb
  simp only [h1, decide_false, kb3, kbG, decide_eq_false_iff_not] at hb
  have hnil : zi3 rs t Ly p = [] := kaA (by exact eqN (kav ((nuI hb)) ((nnI _))))
  obtain ⟨e, he, hpe, hs⟩ := zda.mp hj
  unfold qR at hs
  simp only [decide_eq_true_eq, kau] at hs
  rw [kau, not_or] at h1
  rcases hs with hs | hs
  ·exact U p hp h1.1 h1.2 j (zda.mpr ⟨e, he, hpe, decide_eq_true hs⟩)
  ·intro hjt
   have : j ∈ zi3 rs t Ly p := kbb.mpr ⟨zda.mpr ⟨e, he, hpe, decide_eq_true hs⟩, decide_eq_true hjt⟩
   rw [hnil] at this; cases this
 ·cases hb : brh rs t Od Ly p with
  | true => exact (zfl hb).2.2.1
  | false =>
   refine hpar p hp ?_
   unfold zcu at hl
   by_cases h : lev p <= i
   ·exact h
   ·rw [if_neg h, kai, hb] at hl
    simp at hl
theorem Lay.endh (n : Net m rs) (ok : zbO m rs t) {i : Nat} {Od : List Int} {lev : Int -> Nat} {par : Nat -> Nat} (Y : Lay m rs g i Od [] lev par) (U : Unj m rs t Od []) (hO : m ∈ Od) (hpar : ∀ p : Nat, (p : Int) < m -> lev p <= i -> ((par p : Nat) : Int) ∈ t) : ∃ lev par, w6 m rs g (fun j => (j : Int) ∈ t) lev par := by
 have hm := n.m0
 have hcl : ∀ a b, jl (tro rs t) a b -> a ∈ Od -> b ∈ Od := by
  have key : ∀ u w : Int, (u, w) ∈ tro rs t -> (u ∈ Od ↔ w ∈ Od) := fun u w huw => by
   obtain ⟨x, hx, e⟩ := kat.mp huw
   have hxr := ok.rng x hx
   obtain ⟨j, rfl⟩ := kay hxr.1
   have hj : j < rs.length := by exact ltN (hxr.2)
   have he : rs[j]? = some (u, w) := by
    rw [kai, kas, kac hj] at e
    rw [kac hj]; exact congrArg some e
   have hen := n.ends (u, w) (kaj he)
   have side : ∀ a b : Int, oth (u, w) a = b -> (u = a \/ w = a) -> 0 <= a -> a <= m -> b ∈ Od -> a ∈ Od := fun a b ho hab h0 hm' hb => by
    apply kaw
    intro hna
    obtain ⟨p, rfl⟩ := kay h0
    have hp : (p : Int) < m := by
     have : (p : Int) ≠ m := fun e => hna (e ▸ hO)
     exact (wT (hm') this)
    exact U p hp hna kaM j (zda.mpr ⟨(u, w), he, hab, decide_eq_true (ho ▸ hb)⟩) hx
   have hne : u ≠ w := hen.2.2
   constructor
   ·intro h
    exact side w u (by unfold oth; rw [if_pos rfl]) (.inr rfl) hen.2.1.1 hen.2.1.2 h
   ·intro h
    exact side u w (by unfold oth; rw [if_neg (fun e => hne e.symm)]) (.inl rfl) hen.1.1 hen.1.2 h
  intro a b hr ha
  induction hr with
  | refl => exact ha
  | fwd _ hm ih => exact (key _ _ hm).mp ih
  | bwd _ hm ih => exact (key _ _ hm).mpr ih
 have hall : ∀ p : Nat, (p : Int) < m -> (p : Int) ∈ Od := fun p hp => hcl m p (ok.conn p (nnI _) hp) hO
 have C : w6 m rs g (fun j => ∃ p : Nat, (p : Int) < m /\ par p = j) lev par := Y.corr hall fun j => Iff.rfl
 have hin : ∀ p : Nat, (p : Int) < m -> ((par p : Nat) : Int) ∈ t := fun p hp => hpar p hp (kaX ((Y.o p).mp (hall p hp)).2.2)
 refine ⟨lev, par, Y.corr hall fun j => ⟨fun hj => ?_, fun ⟨p, hp, e⟩ => e ▸ hin p hp⟩⟩
 apply kaw
 intro hno
 have hnd : (qK ((kaa m.toNat).map par)).Nodup := by
  refine zbs ?_
  rw [kaW, kbn]
  refine (kbe (n := m.toNat)).imp_of_mem fun {a b} ha hb hab e => hab (C.inj n ?_ ?_ e)
  ·have := kan.mp ha; exact Mine.qE ‹_› ‹_›
  ·have := kan.mp hb; exact Mine.qE ‹_› ‹_›
 have := zdU ((j : Int) :: qK ((kaa m.toNat).map par)) t (kaQ.mpr ⟨fun h => ?_, hnd⟩) fun x hx => ?_
 ·rw [kag, qh, kaC, kbc] at this
  have := ok.len
  exact lif r3 [(0,1,.add V0 N1,V1),(2,1,V1,V2),(2,-1,V0,V2)] rfl (leI ‹_›) this (tnn (hm))
 ·obtain ⟨p, hp, e⟩ := kat.mp (yj.mp h)
  exact hno ⟨p, by have := kan.mp hp; exact Mine.qE ‹_› ‹_›, e⟩
 ·rcases kah.mp hx with h | h
  ·rw [h]; exact hj
  ·obtain ⟨k, hk, rfl⟩ := kat.mp h
   obtain ⟨p, hp, rfl⟩ := kat.mp hk
   exact hin p (by have := kan.mp hp; exact Mine.qE ‹_› ‹_›)
end
section
variable {T : TC} {d : Nat} {J : zb} {Q : V -> zb -> Prop} {P : Nat -> zb -> Prop}
theorem zon (F : zim T) {m : Int} {rs : Rd2} {g : Nat -> Int} {t : List Int} {JA : zb} {r tp h o y : Addr} {Od Ly : List Int} {i : Nat} {lev : Int -> Nat} {par : Nat -> Nat} {o6 o7 o8 o9 o10 : Option V} {K : Out -> zM -> zb -> Prop}
  (n : Net m rs) (Y : Lay m rs g i Od Ly lev par) (hr : zQ JA r rs) (ht : qM JA tp t) (hh0 : JA h = none) (e0 : Ext JA J) (ho : J o = some (.dict (dk Od))) (hy : J y = some (.dict (dk Ly))) (hh : L J h m.toNat g)
  (hK : ∀ b f o8 o9 o10 J', Ext JA J' -> J' b = some (.dict (dk (Od ++ Ly))) -> J' f = some (.dict (dk (qK (zfH m rs t Od Ly)))) -> L J' h m.toNat (nwh rs t Od Ly g) -> K .next [some (.int m), some (.ref r), some (.ref tp), some (.ref h), some (.ref b), some (.ref f), some (.ref b), some (.ref f), o8, o9, o10, none] J') :
  zbk T (d + 3) [some (.int m), some (.ref r), some (.ref tp), some (.ref h), some (.ref o), some (.ref y), o6, o7, o8, o9, o10, none] J K P := by
 have hm := n.m0; have hm' := n.m10
 have hlen := Y.ge n
 unfold zbk
 refine zc0 (d := d + 2) F.keys ho hy Y.nd (by exact leN (lin (@r3 (↑((Od ++ Ly).length)) _ (↑(m.toNat))) V0 (.num 20) [(0,1,V1,.num 10),(0,1,V0,.add V2 N1),(2,1,V2,V1)] rfl hm' (leI hlen) (tnn (hm)))) fun b J1 hb e1 hbv => ?_
 simp only [zp, zq]
 rw [zG]
 simp only [zV, zfx]
 refine zh fun f J2 hf e2 hfv => ?_
 have e02 := e0.trans (e1.trans e2)
 have hf0 : JA f = none := (e0.trans e1).none hf
 have h1 : f ≠ o := (jt (e1 _ _ ho) hf).symm
 have h2 : f ≠ y := (jt (e1 _ _ hy) hf).symm
 have h3 : f ≠ b := (jt hbv hf).symm
 refine zao hm hm' (y9 rfl) (fun j Z J' => X3 fun o8 o9 o10 => A4 (Z = [some (.int m), some (.ref r), some (.ref tp), some (.ref h), some (.ref o), some (.ref y), some (.ref b), some (.ref f), o8, o9, o10, none]) (zgI JA J' o y b Od Ly) (L J' h m.toNat (fun q => if q < j then nwh rs t Od Ly g q else g q)) (J' f = some (.dict (dk (qK ((kaa j).filter (brh rs t Od Ly)))))))
  ⟨_, _, _, rfl, ⟨e02, e2 _ _ (e1 _ _ ho), e2 _ _ (e1 _ _ hy), e2 _ _ hbv⟩, ((hh.ext e1).ext e2).cong fun q _ => by rw [if_neg (kcp q)], hfv⟩ ?_ ?_
 ·intro j Z J' K' hj hI5a hK'
  obtain ⟨o8', o9', o10', rfl, tu, hh', hf'⟩ := hI5a
  have hfl : ((kaa j).filter (brh rs t Od Ly)).length <= j := by
   have := kbC (brh rs t Od Ly) (kaa j)
   rw [kbc] at this; exact this
  refine zoo (d := d) F n hr ht hh0 hf0 tu hh' hf' h1 h2 h3 hj (fun h => by have := kan.mp (kbb.mp h).1; exact kba _ ‹_›) (by exact leN (lin r3 V0 (.num 20) [(0,1,V1,.num 10),(1,1,V2,V1),(0,1,V0,V2)] rfl hm' hj (leI hfl))) fun o9'' o10'' J'' tu'' hh'' hf'' => hK' _ _ ⟨_, _, _, rfl, tu'', ?_, ?_⟩
  ·refine hh''.cong fun q hq => ?_
   by_cases hqj : q = j
   ·subst hqj
    rw [if_pos (kbm q)]
    unfold nwh
    cases hb : brh rs t Od Ly q with
    | true => simp only [if_true]; rw [zdf]
    | false => simp
   ·have e : (q < j + 1) = (q < j) := by apply propext; lia
    simp only [e]
    cases hb : brh rs t Od Ly j with
    | true => simp only [if_true]; rw [zj6 _ _ hqj]
    | false => simp
  ·rw [hf'', kaT, ka4]
   cases hb : brh rs t Od Ly j <;> simp [hb]
 ·rintro Z J' ⟨o8', o9', o10', rfl, tu, hh', hf'⟩
  exact hK _ _ _ _ _ _ tu.ext tu.b hf' (hh'.cong fun q hq => by rw [if_pos hq])
structure zpa (T : TC) : Prop where
 N : zo7 T
 R : zim T
 heap : FnW T "heap_of" 3 9 (zcf T)
theorem zho (F : zpa T) {m : Int} {rs : Rd2} {r tp : Addr} {t : List Int} (n : Net m rs) (hr : zQ J r rs) (ht : qM J tp t) (htl : t.length <= 100)
  (hq : ∀ c g J', J c = none -> Ext J J' -> zbO m rs t -> (∃ lev par, w6 m rs g (fun j => (j : Int) ∈ t) lev par) -> L J' c m.toNat g -> Q (.ref c) J') (he : ∀ J', Ext J J' -> ¬ zbO m rs t -> P 4 J') : zA T (d + 5) "heap_of" [.int m, .ref r, .ref tp] J Q P := by
 have hm := n.m0; have hm' := n.m10
 refine F.heap (d + 4) _ _ _ _ rfl ?_
 unfold zcf
 rw [zG]
 simp only [yS, zL, zB, zK, zv, qf, qi, qe, zg, zf]
 refine wx (d := d + 1) F.N.N n hr fun J1 e1 => ?_
 refine zeO (d := d + 2) F.N n (hr.ext e1) (ht.ext e1) htl (fun J2 e2 ok => ?_) fun J2 e2 h => he J2 (e1.trans e2) h
 refine zqQ hm hm' (y9 rfl) fun h J3 hh e3 hhl => ?_
 simp only [zp, zq]
 have e02 := e1.trans e2
 unfold zd7
 rw [zG]
 simp only [zV, zfx]
 refine zh fun o J4 ho e4 hov => ?_
 simp only [zp, zq]
 rw [zG]
 simp only [zV, wV, qo, zv, zg, zf, zd]
 refine zh fun y J5 hy e5 hyv => ?_
 have e35 := e4.trans e5
 have hr2 := hr.ext e02
 have ht2 := ht.ext e02
 refine zcc (fun k Z J' => X13 fun i Od Ly lev par g o y o6 o7 o8 o9 o10 => A10 (Z = [some (.int m), some (.ref r), some (.ref tp), some (.ref h), some (.ref o), some (.ref y), o6, o7, o8, o9, o10, none]) (Ext J2 J') (J' o = some (.dict (dk Od))) (J' y = some (.dict (dk Ly))) (L J' h m.toNat g) (Lay m rs g i Od Ly lev par) (Unj m rs t Od Ly) ((∀ p : Nat, (p : Int) < m -> lev p <= i -> ((par p : Nat) : Int) ∈ t)) (m ∈ Od ++ Ly) (k = 2 * (m.toNat + 1 - (Od ++ Ly).length) + if Ly = [] then 0 else 1)) _
  ⟨0, [], [m], _, _, _, o, y, _, _, _, _, _, rfl, e3.trans e35, e5 _ _ hov, hyv, hhl.ext e35, Lay.start _ hm, fun p hp _ _ j hj => ?_, fun p hp hl => ?_, kaf.mpr rfl, rfl⟩ ?_
 ·obtain ⟨e, _, _, hs⟩ := zda.mp hj
  exact absurd (of_decide_eq_true hs) kaM
 ·rw [if_neg (by exact (fun h_ => lif r2 [(1,1,V0,V1),(2,-1,V0,V1)] rfl hp h_))] at hl; exact lif (@r1 0) [(0,1,N1,N0)] rfl (leI hl)
 intro k Z J' K' hI4a hK'
 obtain ⟨i, Od, Ly, lev, par, g, o', y', o6, o7, o8, o9, o10, rfl, e', ho', hy', hh', Y, U, hpar, hmO, rfl⟩ := hI4a
 have hge := Y.ge n
 simp only [qH, qG, qo, zv, zg, zf, ze, zd]
 refine zbf hy' ?_
 rw [yg]
 by_cases hl : Ly = []
 ·subst hl
  rw [kaR] at hmO
  exact hq h g J' (e02.none hh) (e02.trans e') ok (Y.endh n ok U hmO hpar) hh'
 ·have hpos : (0 : Int) < (Ly.length : Int) := by
   have : Ly.length ≠ 0 := fun h => hl (kaA h)
   exact (jW ((nnI _)) (Ne.symm this))
  refine qD (decide_eq_true hpos) ?_
  refine zon (d := d + 1) F.R n Y hr2 ht2 hh e' ho' hy' hh' fun b f o8' o9' o10' J'' e'' hb hf hh'' => ?_
  obtain ⟨Y', U', hpar'⟩ := Y.join n U hpar
  have hge' := Y'.ge n
  refine hK' _ _ (2 * (m.toNat + 1 - ((Od ++ Ly) ++ qK (zfH m rs t Od Ly)).length) + if qK (zfH m rs t Od Ly) = [] then 0 else 1) ?_ ⟨i + 1, Od ++ Ly, qK (zfH m rs t Od Ly), _, _, _, b, f, _, _, _, _, _, rfl, e'', hb, hf, hh'', Y', U', hpar', kbp _ hmO, rfl⟩
  rw [if_neg hl, kam, qh]
  rw [kam, qh] at hge'
  by_cases hz : qK (zfH m rs t Od Ly) = []
  ·rw [if_pos hz]; lia
  ·rw [if_neg hz]
   have : (zfH m rs t Od Ly).length ≠ 0 := fun h => hz (kaA (by rw [qh]; exact h))
   lia
end
end Mine
end
section
open PySem
namespace Mine
structure Mt (m : Int) (R : Rd2) (ks : List Int) : Prop where
 nd : ks.Nodup
 pit : m ∈ ks
 rng : ∀ k ∈ ks, 0 <= k /\ k <= m
 reach : ∀ k ∈ ks, jl R m k
noncomputable def mtS (ks : List Int) (e : Int × Int) : List Int := if e.1 ∈ ks \/ e.2 ∈ ks then yl (yl ks e.1) e.2 else ks
theorem zjj {ks : List Int} {k x : Int} (h : x ∈ ks) : x ∈ yl ks k := (jD ks k x).mpr (.inl h)
theorem zbg {ks : List Int} {k : Int} : ks.length <= (yl ks k).length /\ (k ∉ ks -> ks.length < (yl ks k).length) := by
 unfold yl
 split
 ·rename_i h; exact ⟨kao _, fun h' => absurd h h'⟩
 ·rw [kam, ka3]; exact ⟨by exact kce _, fun _ => by exact kao _⟩
theorem zob (ks : List Int) (e : Int × Int) : ks.length <= (mtS ks e).length := by
 unfold mtS; split
 ·exact kap zbg.1 zbg.1
 ·exact kao _
theorem zmh {ks : List Int} {e : Int × Int} (h : ¬ (e.1 ∈ ks ↔ e.2 ∈ ks)) : ks.length < (mtS ks e).length := by
 unfold mtS
 by_cases h1 : e.1 ∈ ks
 ·have h2 : e.2 ∉ ks := fun h2 => h ⟨fun _ => h2, fun _ => h1⟩
  rw [if_pos (.inl h1)]
  refine kaI zbg.1 (zbg.2 ?_)
  rw [jD]
  rintro (h3 | h3)
  ·exact h2 h3
  ·exact h2 (h3 ▸ h1)
 ·have h2 : e.2 ∈ ks := kaw fun h2 => h ⟨fun x => absurd x h1, fun x => absurd x h2⟩
  rw [if_pos (.inr h2)]
  exact kaU (zbg.2 h1) zbg.1
theorem zfY {ks : List Int} {e : Int × Int} (h : e.1 ∈ ks ↔ e.2 ∈ ks) : mtS ks e = ks := by
 unfold mtS
 by_cases h1 : e.1 ∈ ks
 ·have h2 := h.mp h1
  rw [if_pos (.inl h1)]
  unfold yl
  rw [if_pos h1, if_pos h2]
 ·have h2 : e.2 ∉ ks := fun x => h1 (h.mpr x)
  rw [if_neg (by rintro (h | h); exact h1 h; exact h2 h)]
theorem Mt.step {m : Int} {R : Rd2} {ks : List Int} {e : Int × Int} (M : Mt m R ks) (he : e ∈ R) (hr : (0 <= e.1 /\ e.1 <= m) /\ (0 <= e.2 /\ e.2 <= m)) : Mt m R (mtS ks e) := by
 unfold mtS
 split
 ·rename_i h
  refine ⟨zbz (zbz M.nd _) _, zjj (zjj M.pit), fun k hk => ?_, fun k hk => ?_⟩
  ·rcases (jD _ _ _).mp hk with hk | rfl
   ·rcases (jD _ _ _).mp hk with hk | rfl
    ·exact M.rng k hk
    ·exact hr.1
   ·exact hr.2
  ·rcases (jD _ _ _).mp hk with hk | rfl
   ·rcases (jD _ _ _).mp hk with hk | rfl
    ·exact M.reach k hk
    ·rcases h with h | h
     ·exact M.reach _ h
     ·exact (M.reach _ h).bwd he
   ·rcases h with h | h
    ·exact (M.reach _ h).fwd he
    ·exact M.reach _ h
 ·exact M
noncomputable def mtL (ks : List Int) (es : Rd2) : List Int := es.foldl mtS ks
theorem zoc (es : Rd2) : ∀ ks, ks.length <= (mtL ks es).length := by
 induction es with
 | nil => intro ks; exact kao _
 | cons e es ih => intro ks; exact kap (zob ks e) (ih _)
theorem zi5 (es : Rd2) : ∀ ks, (mtL ks es = ks /\ zbh es ks) \/ ks.length < (mtL ks es).length := by
 induction es with
 | nil => intro ks; exact .inl ⟨rfl, fun p hp => by cases hp⟩
 | cons e es ih =>
  intro ks
  by_cases h : e.1 ∈ ks ↔ e.2 ∈ ks
  ·have hs := zfY h
   rcases ih ks with ⟨h1, h2⟩ | h1
   ·refine .inl ⟨by show mtL (mtS ks e) es = ks; rw [hs, h1], fun p hp => ?_⟩
    rcases kah.mp hp with rfl | hp
    ·exact h
    ·exact h2 p hp
   ·refine .inr ?_
    show ks.length < (mtL (mtS ks e) es).length
    rw [hs]; exact h1
  ·exact .inr (kaU (zmh h) (zoc es _))
theorem znz {t : List Int} {i : Nat} {v : V} (hv : (zs t)[i]? = some v) : ∃ x, t[i]? = some x /\ v = .int x := by
 unfold zs at hv
 rw [kaJ] at hv
 cases hti : t[i]? with
 | none => rw [hti] at hv; cases hv
 | some x => rw [hti] at hv; exact ⟨x, rfl, (Option.some.inj hv).symm⟩
theorem zl3 {rs : Rd2} {t : List Int} {i : Nat} {x : Int} {e : Int × Int} (hx : t[i]? = some x) (he : rs[x.toNat]? = some e) : tro rs (t.take (i + 1)) = tro rs (t.take i) ++ [e] := by
 unfold tro
 rw [kaY, hx, ka0]
 simp [kas, he]
theorem zfZ (ks : List Int) (es : Rd2) (e : Int × Int) : mtL ks (es ++ [e]) = mtS (mtL ks es) e := by unfold mtL; rw [kcA]; rfl
theorem Mt.turn {m : Int} {R : Rd2} (hr : ∀ e ∈ R, (0 <= e.1 /\ e.1 <= m) /\ (0 <= e.2 /\ e.2 <= m)) : ∀ (es : Rd2), (∀ e ∈ es, e ∈ R) -> ∀ {ks : List Int}, Mt m R ks -> Mt m R (mtL ks es)
 | [], _, _, M => M
 | e :: es, h, _, M => Mt.turn hr es (fun x hx => h x (kal _ hx)) (M.step (h e (kaq ..)) (hr e (h e (kaq ..))))
theorem Mt.le {m : Int} {R : Rd2} {ks : List Int} (M : Mt m R ks) : (ks.length : Int) <= m + 1 := by
 have h0 := M.rng m M.pit
 have := wd m.toNat ks M.nd fun k hk => by have := M.rng k hk; exact ⟨this.1, lin r3 V0 V1 [(0,1,V0,V2),(2,-1,V1,V2)] rfl this.2 (tnn (h0.1))⟩
 exact lin (@r3 (↑(ks.length)) _ (↑(m.toNat))) V0 (.add V1 N1) [(0,1,V0,.add V2 N1),(2,1,V2,V1)] rfl (leI this) (tnn (h0.1))
section
variable {T : TC} {d : Nat} {J : zb} {Q : V -> zb -> Prop} {P : Nat -> zb -> Prop}
end
end Mine
end
section
namespace Mine
def OkR (m : Int) (l : Rd2) : Prop := ∀ p ∈ l, (0 <= p.1 /\ p.1 <= m) /\ (0 <= p.2 /\ p.2 <= m) /\ p.1 ≠ p.2
def JJ (m : Int) (F : Rd2) : Prop := ∀ q, 0 <= q -> q < m -> jl F m q
noncomputable def jj (m : Int) (F : Rd2) : Bool := @decide (JJ m F) (kb6 _)
theorem zke {m F} : jj m F = true ↔ JJ m F := by
 unfold jj; exact @decide_eq_true_iff _ (kb6 _)
noncomputable def Df (f : Rd2 -> Int) : Rd2 -> Rd2 -> Int
 | [], l => f l
 | e :: F, l => Df f F (l ++ [e]) - Df f F l
noncomputable def sets (K : Nat) : Nat -> List (List Int)
 | 0 => [[]]
 | n + 1 => sets K n ++ ((sets K n).filter fun t => decide (t.length < K)).map (· ++ [(n : Int)])
noncomputable def cE (m : Int) (rs : Rd2) (K k : Nat) (F : Rd2) (n : Nat) : Nat := (sets K n).countP fun t => decide (t.length = k) && jj m (tro rs t ++ F)
theorem zoE {m rs K F n} : cE m rs K 0 F (n + 1) = cE m rs K 0 F n := by
 unfold cE
 rw [sets, kdC, kdU, kdB]
 refine (congrArg _ (List.countP_eq_zero.mpr fun t _ => ?_)).trans (Nat.add_zero _)
 simp
theorem zoF {m rs K k F} {n : Nat} {e : Int × Int} (hk : k < K) (he : rs[n]? = some e) : cE m rs K (k + 1) F (n + 1) = cE m rs K (k + 1) F n + cE m rs K k (e :: F) n := by
 unfold cE
 rw [sets, kdC, kdU, kdB]
 congr 1
 refine kdN fun t _ => ?_
 have h1 : tro rs (t ++ [(n : Int)]) ++ F = tro rs t ++ e :: F := by
  unfold tro
  rw [ka0, kaO, kdk, kai, kas, he]
  simp
 show ((decide ((t ++ [(n : Int)]).length = k + 1) && jj m (tro rs (t ++ [(n : Int)]) ++ F)) && decide (t.length < K)) = true ↔ _
 rw [h1, kam, ka3]
 simp only [kaH, decide_eq_true_eq]
 constructor
 ·rintro ⟨⟨a, b⟩, c⟩; exact ⟨Nat.succ.inj a, b⟩
 ·rintro ⟨a, b⟩; exact ⟨⟨congrArg Nat.succ a, b⟩, a ▸ hk⟩
theorem zmD {m : Int} {rs : Rd2} {K : Nat} (hrs : OkR m rs) {f : Rd2 -> Int} (H0 : ∀ F, OkR m F -> F.length < K -> Df f F [] = 0) (H1 : ∀ F l, OkR m F -> OkR m l -> F.length = K -> Df f F l = if jj m F then 1 else 0) :
  ∀ n, n <= rs.length -> ∀ F k, OkR m F -> k + F.length = K -> (cE m rs K k F n : Int) = Df f F (rs.take n) := by
 intro n
 induction n with
 | zero =>
  intro _ F k hF hk
  have e : cE m rs K k F 0 = if k = 0 /\ jj m F = true then 1 else 0 := by
   show List.countP _ [[]] = _
   rw [List.countP_singleton]
   simp only [tro, kdk, kbf, kaB, kaH, decide_eq_true_eq]
   by_cases h : k = 0
   ·simp [h]
   ·have h' : ¬ 0 = k := fun e => h e.symm
    simp [h, h']
  rw [e, List.take_zero]
  by_cases h : k = 0
  ·rw [H1 F [] hF (fun p hp => by cases hp) (by exact eqN (liq (@r3 (↑(kby F)) (↑(K)) (↑(k))) V0 V1 [(2,1,.add V2 V0,V1),(2,-1,V2,N0)] rfl (eqI hk) (eqI h)))]
   by_cases hj : jj m F = true <;> simp [h, hj]
  ·rw [H0 F hF (by exact ltN (lit (@r3 (↑(kby F)) (↑(K)) (↑(k))) V0 V1 [(2,1,.add V2 V0,V1),(1,1,N0,V2)] rfl (eqI hk) (jW ((nnI _)) (Ne.symm h)))), if_neg (by simp [h])]; rfl
 | succ n ih =>
  intro hn F k hF hk
  have hn' : n < rs.length := hn
  have he : rs[n]? = some rs[n] := kac hn'
  have ht : rs.take (n + 1) = rs.take n ++ [rs[n]] := by rw [kaY, he]; rfl
  have hok : ∀ k, OkR m (rs.take k) := fun k p hp => hrs p (kbw hp)
  cases k with
  | zero =>
   rw [zoE, ih (by exact kaX ‹_›) F 0 hF hk, H1 F _ hF (hok _) (by exact eqN (liq r2 V0 V1 [(2,1,.add N0 V0,V1)] rfl (eqI hk))), H1 F _ hF (hok _) (by exact eqN (liq r2 V0 V1 [(2,1,.add N0 V0,V1)] rfl (eqI hk)))]
  | succ k =>
   have hF' : OkR m (rs[n] :: F) := fun p hp => by
    rcases kah.mp hp with rfl | hp
    ·exact hrs _ (kcj hn')
    ·exact hF p hp
   have := ih (by exact kaX ‹_›) (rs[n] :: F) k hF' (by rw [kag]; exact eqN (liq (@r3 (↑(k)) (↑(kby F)) (↑(K))) (.add V0 (.add V1 N1)) V2 [(2,1,.add (.add V0 N1) V1,V2)] rfl (eqI hk)))
   rw [zoF (by exact ltN (lit (@r3 (↑(k)) (↑(K)) (↑(kby F))) V0 V1 [(2,1,.add (.add V0 N1) V2,V1),(0,1,N0,V2)] rfl (eqI hk) (nnI _))) he, kdY, ih (by exact kaX ‹_›) F (k + 1) hF hk, this, ht]
   simp only [Df]
   exact liq r2 (.add V0 (.sub V1 V0)) V1 [] rfl
noncomputable def bss : Nat -> List (List Bool)
 | 0 => [[]]
 | n + 1 => (bss n).flatMap fun l => [false :: l, true :: l]
noncomputable def bit (bs : List Bool) (x : Int) : Bool := bs.getD x.toNat false
noncomputable def jb (K : Nat) (F : Rd2) : Bool := (bss K).all fun bs => !bs.any id || F.any fun e => bit bs e.1 != bit bs e.2
theorem zkK : ∀ {n : Nat} {bs : List Bool}, bs ∈ bss n ↔ bs.length = n := by
 intro n
 induction n with
 | zero => intro bs; simp [bss]
 | succ n ih =>
  intro bs
  simp only [bss, kci, kah, kaM, or_false]
  constructor
  ·rintro ⟨l, h, rfl | rfl⟩ <;> simp [ih.mp h]
  ·intro h
   cases bs with
   | nil => simp at h
   | cons b l => exact ⟨l, ih.mpr (by simpa using h), by cases b <;> simp⟩
theorem zqu {K : Nat} {F : Rd2} (hF : OkR K F) : jj K F = jb K F := by
 rw [kaS, zke]
 unfold jb
 simp only [kaZ, kbt, kbK, kbV, bne_iff_ne, ne_eq]
 constructor
 ·intro h bs hbs
  by_cases hc : ∃ e ∈ F, ¬ bit bs e.1 = bit bs e.2
  ·exact .inr hc
  ·left
   have key : ∀ {a b}, jl F a b -> bit bs a = false -> bit bs b = false := by
    intro a b hr
    induction hr with
    | refl => exact id
    | @fwd x y _ hm ih => exact fun ha => (kaw fun hn => hc ⟨_, hm, fun e => hn (e.symm.trans (ih ha))⟩)
    | @bwd x y _ hm ih => exact fun ha => (kaw fun hn => hc ⟨_, hm, fun e => hn (e.trans (ih ha))⟩)
   have hl := zkK.mp hbs
   have h0 : bit bs K = false := by simp [bit, hl]
   rw [kdP]
   intro ha
   obtain ⟨b, hb, hbt⟩ := kbV.mp ha
   obtain ⟨i, hi, rfl⟩ := kaV hb
   have := key (h i (nnI _) (by exact lit r3 V0 V1 [(2,1,V2,V1),(1,1,V0,V2)] rfl (eqI hl) (ltI hi))) h0
   simp [bit, hi] at this
   rw [this] at hbt
   cases hbt
 ·intro h q h0 hq
  apply kaw
  intro hn
  have dd : ∀ p : Prop, ∃ b : Bool, b = true ↔ p := fun p => by
   by_cases hp : p
   ·exact ⟨true, by simp [hp]⟩
   ·exact ⟨false, by simp [hp]⟩
  have hb : ∃ b : Nat -> Bool, ∀ i : Nat, b i = true ↔ ¬ jl F K i := ⟨fun i => kcP (dd (¬ jl F K i)), fun i => kcG (dd (¬ jl F K i))⟩
  obtain ⟨b, hb⟩ := hb
  have hbit : ∀ x : Int, 0 <= x -> x <= K -> (bit ((kaa K).map b) x = true ↔ ¬ jl F K x) := fun x hx0 hx => by
   obtain ⟨i, rfl⟩ := kay hx0
   unfold bit
   rw [kai, kas]
   by_cases hi : i < K
   ·simp only [kaJ, kcn hi, kbY, Option.getD_some]
    exact hb i
   ·have : i = K := by exact eqN (kav (hx) ((nuI hi)))
    subst this
    simp [jl.refl]
  rcases h ((kaa K).map b) (zkK.mpr (by simp)) with h1 | ⟨e, he, h1⟩
  ·have : b q.toNat = true := (hb _).mpr (by rw [tnn h0]; exact hn)
   have h2 : ((kaa K).map b).any id = true := kbV.mpr ⟨true, kat.mpr ⟨q.toNat, kan.mpr (by exact ltN (lit r3 V0 V1 [(1,1,V2,V1),(2,1,V0,V2)] rfl hq (tnn (h0)))), this⟩, rfl⟩
   rw [h2] at h1; cases h1
  ·apply h1
   have ho := hF e he
   rw [kaS, hbit _ ho.1.1 ho.1.2, hbit _ ho.2.1.1 ho.2.1.2]
   constructor
   ·exact fun hx hy => hx (hy.bwd he)
   ·exact fun hx hy => hx (hy.fwd he)
theorem zl6 (l : Rd2) (e : Int × Int) (v : Nat) : yF (l ++ [e]) v = fun u => yF l v u + yF [e] v u := funext fun u => by
 unfold yF
 rw [show qL (l ++ [e]) = qL l ++ qL [e] by simp [qL], zaE]
noncomputable def prs (K : Nat) : Rd2 := (kaa (K + 1)).flatMap fun x => ((kaa (K + 1)).filter fun y => x != y).map fun y : Nat => ((x : Int), (y : Int))
theorem zkJ {K : Nat} {e : Int × Int} (h : (0 <= e.1 /\ e.1 <= K) /\ (0 <= e.2 /\ e.2 <= K) /\ e.1 ≠ e.2) : e ∈ prs K := by
 obtain ⟨⟨a, b⟩, ⟨c, d⟩, f⟩ := h
 obtain ⟨x, y⟩ := e
 obtain ⟨x, rfl⟩ := kay a
 obtain ⟨y, rfl⟩ := kay c
 unfold prs
 simp only [kci, kat, kbb, kan, bne_iff_ne]
 exact ⟨x, by simp only at b; exact ltN (lit r2 V0 (.add V1 N1) [(0,1,V0,V1)] rfl b), y, ⟨by simp only at d; exact ltN (lit r2 V0 (.add V1 N1) [(0,1,V0,V1)] rfl d), fun e => f (by rw [e])⟩, rfl⟩
noncomputable def nr (e : Int × Int) : Int × Int := if e.1 <= e.2 then e else (e.2, e.1)
noncomputable def zpV (K : Nat) : Rd2 := (prs K).filter fun e => decide (e.1 <= e.2)
theorem zmj {K : Nat} {e : Int × Int} (h : (0 <= e.1 /\ e.1 <= K) /\ (0 <= e.2 /\ e.2 <= K) /\ e.1 ≠ e.2) : nr e ∈ zpV K := by
 unfold zpV nr
 rw [kbb]
 by_cases he : e.1 <= e.2
 ·rw [if_pos he]; exact ⟨zkJ h, decide_eq_true he⟩
 ·rw [if_neg he]; exact ⟨zkJ ⟨h.2.1, h.1, fun e => h.2.2 e.symm⟩, decide_eq_true (by exact lin r2 V0 V1 [(3,1,V1,V0)] rfl he)⟩
theorem zps (e : Int × Int) : yF [nr e] = yF [e] := by
 unfold nr
 by_cases he : e.1 <= e.2
 ·rw [if_pos he]
 ·rw [if_neg he]; funext v u; simp only [yF, qL, kcU, List.flatMap_nil, kaG, kbf, jh]; exact liq r2 (.add V0 (.add V1 N0)) (.add V1 (.add V0 N0)) [] rfl
theorem zqg (K : Nat) (F : Rd2) : jb K (F.map nr) = jb K F := by
 unfold jb
 congr 1; funext bs
 rw [kcV]
 congr 2; funext e
 show (bit bs (nr e).1 != bit bs (nr e).2) = _
 unfold nr
 by_cases he : e.1 <= e.2
 ·rw [if_pos he]
 ·rw [if_neg he]; exact Bool.xor_comm _ _
noncomputable def Deg : Nat -> (Rd2 -> Int) -> Prop
 | 0, f => ∀ l e, f (l ++ [e]) = f l
 | k + 1, f => ∀ e, Deg k fun l => f (l ++ [e]) - f l
theorem Deg.up {k : Nat} : ∀ {f}, Deg k f -> Deg (k + 1) f := by
 induction k with
 | zero => exact fun {f} h e l e' => by dsimp only; rw [h, h, h]
 | succ k ih => exact fun h e => ih (h e)
theorem Deg.le {f} {k n : Nat} (h : Deg k f) (hn : k <= n) : Deg n f := by
 induction hn with
 | refl => exact h
 | step _ ih => exact ih.up
theorem Deg.lin {k : Nat} (a b : Int) : ∀ {f g}, Deg k f -> Deg k g -> Deg k fun l => a * f l + b * g l := by
 induction k with
 | zero => exact fun {f g} h1 h2 l e => by dsimp only; rw [h1, h2]
 | succ k ih =>
  intro f g h1 h2 e
  have := ih (h1 e) (h2 e)
  refine cast (congrArg (Deg k) (funext fun l => ?_)) this
  grind
theorem Deg.sh {k : Nat} (e : Int × Int) : ∀ {f}, Deg k f -> Deg k fun l => f (l ++ [e]) := fun {f} h => by
 cases k with
 | zero => exact fun l e' => by dsimp only; rw [h, h, h]
 | succ k =>
  have := (h e).up.lin 1 1 h
  refine cast (congrArg (Deg (k + 1)) (funext fun l => ?_)) this
  show 1 * (f (l ++ [e]) - f l) + 1 * f l = _
  exact liq r2 (.add (.mulL 1 (.sub V0 V1)) (.mulL 1 V1)) V0 [] rfl
theorem Deg.mul {n : Nat} : ∀ {i j : Nat} {f g}, i + j = n -> Deg i f -> Deg j g -> Deg n fun l => f l * g l := by
 induction n with
 | zero =>
  intro i j f g h h1 h2
  cases i <;> cases j <;> first | lia | exact fun l e => by dsimp only; rw [h1, h2]
 | succ n ih =>
  intro i j f g h h1 h2 e
  have l1 : Deg n fun l => (f (l ++ [e]) - f l) * g (l ++ [e]) := by
   cases i with
   | zero => exact (show Deg 0 _ from fun l e' => by simp only [h1 _ e, kc1, kc0]).le (kbl _)
   | succ i => exact ih (by exact eqN (liq (@r3 (↑(i)) (↑(j)) (↑(n))) (.add V0 V1) V2 [(2,1,.add (.add V0 N1) V1,.add V2 N1)] rfl (eqI h))) (h1 e) (h2.sh e)
  have l2 : Deg n fun l => f l * (g (l ++ [e]) - g l) := by
   cases j with
   | zero => exact (show Deg 0 _ from fun l e' => by simp only [h2 _ e, kc1, kca]).le (kbl _)
   | succ j => exact ih (by exact eqN (liq (@r3 (↑(i)) (↑(j)) (↑(n))) (.add V0 V1) V2 [(2,1,.add V0 (.add V1 N1),.add V2 N1)] rfl (eqI h))) h1 (h2 e)
  refine cast (congrArg (Deg n) (funext fun l => ?_)) (l1.lin 1 1 l2)
  grind
theorem Deg.ex {k : Nat} (c : Nat) : ∀ (Z : List (Rd2 -> Row)) {g : Rd2 -> List Row -> Int}, (∀ r ∈ Z, Deg 1 fun l => r l c) -> (∀ Z' : List (Rd2 -> Row), (∀ r ∈ Z', r ∈ Z) -> Deg k fun l => g l (Z'.map (· l))) -> Deg (k + 1) fun l => Ex (ev c) (g l) (Z.map (· l)) := by
 intro Z
 induction Z with
 | nil => exact fun _ _ => (show Deg 0 _ from fun _ _ => rfl).le (kbl _)
 | cons r Z ih =>
  intro g h1 h2
  have a := (h1 r (kaq ..)).mul (kdo 1 k) (h2 Z fun r' h => kal _ h)
  have b := ih (g := fun l t => g l (r l :: t)) (fun r' h => h1 r' (kal _ h)) fun Z' h => h2 (r :: Z') fun r' h' => by
   rcases kah.mp h' with rfl | h'
   ·exact kaq ..
   ·exact kal _ (h r' h')
  refine cast (congrArg (Deg (k + 1)) (funext fun l => ?_)) (a.lin 1 (-1) b)
  show _ = ev c (r l) * _ - _
  simp only [ev]
  exact liq r2 (.add (.mulL 1 V0) (.mulL (-1) V1)) (.sub V0 V1) [] rfl
theorem Deg.det : ∀ (cs : List Nat) (Z : List (Rd2 -> Row)), (∀ r ∈ Z, ∀ c, Deg 1 fun l => r l c) -> Deg cs.length fun l => Mine.det cs (Z.map (· l)) := by
 intro cs
 induction cs with
 | nil => intro Z _ l e; cases Z <;> rfl
 | cons c cs ih =>
  intro Z h
  have := Deg.ex c Z (g := fun _ => Mine.det cs) (fun r hr => h r hr c) fun Z' h' => ih Z' fun r hr => h r (h' r hr)
  refine cast (congrArg (Deg (cs.length + 1)) (funext fun l => ?_)) this
  rw [qr]
theorem zqF (m : Int) : Deg m.toNat (D m) := by
 have := Deg.det (kaa m.toNat) ((kaa m.toNat).map fun v l => yF l v) fun r hr c => by
  obtain ⟨v, _, rfl⟩ := kat.mp hr
  intro e l e'
  simp only [zl6]
  exact liq r3 (.sub (.add (.add V0 V1) V2) (.add V0 V1)) (.sub (.add V0 V2) V0) [] rfl
 rw [kbc] at this
 refine cast (congrArg (Deg m.toNat) (funext fun l => ?_)) this
 unfold D qm
 rw [kbB]; rfl
theorem Deg.const {f} (h : Deg 0 f) (l : Rd2) : f l = f [] := by
 rw [<- kcl l]
 induction l.reverse with
 | nil => rfl
 | cons e l ih => rw [kcy, h, ih]
theorem Deg.df {f} : ∀ (F : Rd2) {k : Nat}, Deg (F.length + k) f -> Deg k fun l => Df f F l := by
 intro F
 induction F with
 | nil => exact fun h => by simpa [Df] using h
 | cons e F ih =>
  intro k h
  have := @ih (k + 1) (by rw [kag] at h; rwa [show F.length + (k + 1) = F.length + 1 + k by exact eqN (liq (@r2 (↑(F.length)) (↑(k))) (.add V0 (.add V1 N1)) (.add (.add V0 N1) V1) [] rfl)])
  exact this e
theorem znn {m : Int} {f : Rd2 -> Int} {K : Nat} (h : ∀ F, OkR m F -> F.length < K -> f F = 0) : ∀ (F l : Rd2), OkR m F -> OkR m l -> (F.length + l.length < K -> Df f F l = 0) /\ (F.length + l.length = K -> Df f F l = f (l ++ F)) := by
 intro F
 induction F with
 | nil => exact fun l _ hl => ⟨fun hk => h l hl (by simpa using hk), fun hk => by rw [kaR]; rfl⟩
 | cons e F ih =>
  intro l hF hl
  have hF' : OkR m F := fun p hp => hF p (kal _ hp)
  have hl' : OkR m (l ++ [e]) := fun p hp => by
   rcases kau.mp hp with hp | hp
   ·exact hl p hp
   ·rw [kaf.mp hp]; exact hF e (kaq ..)
  have h1 := ih (l ++ [e]) hF' hl'
  have h2 := ih l hF' hl
  rw [kam, ka3] at h1
  rw [kag]
  simp only [Df]
  refine ⟨fun hk => ?_, fun hk => ?_⟩
  ·rw [h1.1 (by exact ltN (lit (@r3 (↑(F.length)) (↑(kby l)) (↑(K))) (.add V0 (.add V1 N1)) V2 [(1,1,.add (.add V0 N1) V1,V2)] rfl (ltI hk))), h2.1 (by exact ltN (lit (@r3 (↑(F.length)) (↑(kby l)) (↑(K))) (.add V0 V1) V2 [(1,1,.add (.add V0 N1) V1,V2)] rfl (ltI hk)))]; rfl
  ·rw [h1.2 (by exact eqN (liq (@r3 (↑(F.length)) (↑(kby l)) (↑(K))) (.add V0 (.add V1 N1)) V2 [(2,1,.add (.add V0 N1) V1,V2)] rfl (eqI hk))), h2.1 (by exact ltN (lit (@r3 (↑(F.length)) (↑(kby l)) (↑(K))) (.add V0 V1) V2 [(2,1,.add (.add V0 N1) V1,V2)] rfl (eqI hk))), kaN]; exact kdr _
noncomputable def zpY (K : Nat) : Nat -> List Rd2
 | 0 => [[]]
 | n + 1 => (zpY K n).flatMap fun l => (zpV K).map (· :: l)
theorem zmk {K : Nat} : ∀ (F : Rd2), OkR K F -> F.map nr ∈ zpY K F.length := by
 intro F
 induction F with
 | nil => exact fun _ => kaf.mpr rfl
 | cons e F ih =>
  intro h
  exact kci.mpr ⟨_, ih fun p hp => h p (kal _ hp), kat.mpr ⟨_, zmj (h e (kaq ..)), rfl⟩⟩
theorem zqU (m : Int) (F : Rd2) : D m (F.map nr) = D m F := by
 have : ∀ v, yF (F.map nr) v = yF F v := fun v => by
  funext u
  induction F with
  | nil => rfl
  | cons e F ih =>
   have hc : ∀ (e : Int × Int) (l : Rd2), yF (e :: l) v u = yF [e] v u + yF l v u := fun e l => by
    unfold yF
    rw [show qL (e :: l) = qL [e] ++ qL l by simp [qL], zaE]
   rw [kaO, hc, hc e, ih, zps]
 unfold D qm
 simp only [this]
noncomputable def chk (K : Nat) : Bool := (kaa (K + 1)).all fun n => (zpY K n).all fun F => D K F == if n == K && jb K F then 1 else 0
theorem zoy : ∀ K, K <= 3 -> chk K = true
 | 0, _ => by decide +kernel
 | 1, _ => by decide +kernel
 | 2, _ => by decide +kernel
 | 3, _ => by decide +kernel
 | _ + 4, h => by lia
theorem zpc {K : Nat} (hK : K <= 3) {F : Rd2} (hF : OkR K F) (hl : F.length <= K) : D K F = if F.length = K /\ jj K F = true then 1 else 0 := by
 have h1 := kaZ.mp (kaZ.mp (zoy K hK) F.length (kan.mpr (Nat.lt_succ_of_le hl))) _ (zmk F hF)
 rw [zqU, zqg, beq_iff_eq, <- zqu hF] at h1
 rw [h1]
 simp only [kaH, beq_iff_eq]
theorem ziI {K : Nat} (hK : K <= 3) {rs : Rd2} (hrs : OkR K rs) : ((sets K rs.length).countP fun t => decide (t.length = K) && jj K (tro rs t) : Int) = D K rs := by
 have low : ∀ F, OkR K F -> F.length < K -> D K F = 0 := fun F hF h => by
  rw [zpc hK hF (kaX h), if_neg (by exact (fun h_ => lif r2 [(1,1,V0,V1),(2,-1,V0,V1)] rfl (ltI h) (eqI h_.1)))]
 have := zmD (m := K) (K := K) hrs (f := D K) (fun F hF h => (znn low F [] hF fun p hp => by cases hp).1 (by simpa using h)) (fun F l hF hl h => by
  have h1 := ((zqF K).le (kcY (by rw [kai, <- h]; rfl))).df F (k := 0)
  rw [Deg.const h1 l, (znn low F [] hF fun p hp => by cases hp).2 (by simpa using h), kbf, zpc hK hF (kcY h)]
  simp [h]) rs.length (kao _) [] K (fun p hp => by cases hp) rfl
 rw [kaL] at this
 rw [<- show Df (D K) [] rs = D K rs from rfl, <- this]
 unfold cE
 simp only [kaR]
noncomputable def zr (d : Int) : List Int := (kaa d.toNat).map Int.ofNat
theorem zpx {d x : Int} : x ∈ zr d ↔ 0 <= x /\ x < d := by
 unfold zr
 rw [kat]
 constructor
 ·rintro ⟨i, hi, rfl⟩; have := kan.mp hi; exact ⟨nnI _, by show (i : Int) < d; exact (kbj.mp this)⟩
 ·rintro ⟨h0, h1⟩; exact ⟨x.toNat, kan.mpr (by exact ltN (lit r4 V0 V1 [(1,1,V2,V3),(2,1,V0,V2),(2,-1,V1,V3)] rfl h1 (tnn (h0)) (tnn (lin r2 N0 V0 [(0,1,N0,V1),(1,1,V1,V0)] rfl h0 h1)))), tnn h0⟩
theorem zl1 (d) : (zr d).Nodup := by
 unfold zr
 rw [kaW, kbn]
 exact kbe.imp fun h e => h (Int.ofNat.inj e)
noncomputable def zbt (F : List (List Int)) (d : Int) : List (List Int) := F.flatMap fun h => (zr d).map fun g => h ++ [g]
noncomputable def hps (l : List Int) : List (List Int) := l.foldl zbt [[]]
theorem zf3 (l d) : hps (l ++ [d]) = zbt (hps l) d := by unfold hps; rw [kcA]; rfl
theorem zlp {F d x} : x ∈ zbt F d ↔ ∃ h g, h ∈ F /\ 0 <= g /\ g < d /\ x = h ++ [g] := by
 unfold zbt
 simp only [kci, kat, zpx]
 constructor
 ·rintro ⟨h, hh, g, ⟨h0, h1⟩, rfl⟩; exact ⟨h, g, hh, h0, h1, rfl⟩
 ·rintro ⟨h, g, hh, h0, h1, rfl⟩; exact ⟨h, hh, g, ⟨h0, h1⟩, rfl⟩
theorem ziE {F d} (h : F.Nodup) : (zbt F d).Nodup := by
 unfold zbt
 rw [kaW, List.pairwise_flatMap]
 refine ⟨fun a _ => ?_, h.imp fun {a b} hab x hx y hy e => ?_⟩
 ·rw [kbn]
  exact (zl1 d).imp fun hg e => hg (List.singleton_inj.mp (List.append_cancel_left e))
 ·obtain ⟨g, _, rfl⟩ := kat.mp hx
  obtain ⟨g', _, rfl⟩ := kat.mp hy
  exact hab (List.append_inj_left' e rfl)
theorem zgX (F : List (List Int)) (d : Int) : (zbt F d).length = F.length * d.toNat := by
 unfold zbt
 rw [List.length_flatMap]
 simp only [kaC, zr, kbc]
 induction F with
 | nil => simp
 | cons h F ih => rw [kaO, List.sum_cons, ih, kag, Nat.succ_mul, kdo]
theorem zku {α : Type} {l : List α} (h : l ≠ []) : ∃ y g, l = y ++ [g] := ⟨_, _, (kc4 h).symm⟩
def zqL (l h : List Int) : Prop := h.length = l.length /\ ∀ (i : Nat) (x d : Int), h[i]? = some x -> l[i]? = some d -> 0 <= x /\ x < d
theorem zhR : ∀ l : List Int, (hps l).Nodup /\ ∀ h, h ∈ hps l ↔ zqL l h := by
 intro l
 rw [<- kcl l]
 induction l.reverse with
 | nil =>
  refine ⟨by simp [hps], fun h => ?_⟩
  show h ∈ [[]] ↔ _
  rw [kaf]
  constructor
  ·rintro rfl; exact ⟨rfl, fun i x d hx => by simp at hx⟩
  ·exact fun h => kaA h.1
 | cons d l ih =>
  rw [kcy]
  generalize l.reverse = l at ih
  rw [zf3]
  refine ⟨ziE ih.1, fun x => ?_⟩
  rw [zlp]
  constructor
  ·rintro ⟨h, g, hh, h0, h1, rfl⟩
   obtain ⟨hl, hi⟩ := (ih.2 h).mp hh
   refine ⟨by simp [hl], fun i x e hx he => ?_⟩
   by_cases hil : i < l.length
   ·rw [ka6 (by (first | assumption | exact ltN (lit r3 V0 V1 [(2,-1,V1,V2),(1,1,V0,V2)] rfl (eqI hl) (ltI hil))))] at hx he
    exact hi i x e hx he
   ·rw [kbx (by (first | exact kbW.mp ‹_› | exact leN (lin r3 V0 V1 [(2,1,V0,V2),(0,1,V2,V1)] rfl (eqI hl) (nuI hil))))] at hx he
    rw [hl] at hx
    cases hj : i - l.length with
    | zero => rw [hj] at hx he; cases hx; cases he; exact ⟨h0, h1⟩
    | succ j => rw [hj] at hx; simp at hx
  ·rintro ⟨hl, hi⟩
   rw [kam, ka3] at hl
   obtain ⟨y, g, rfl⟩ := zku (l := x) fun e => by rw [e] at hl; simp at hl
   rw [kam, ka3] at hl
   have hl' := Nat.succ.inj hl
   have hg := hi l.length g d (by rw [<- hl']; simp) (by simp)
   refine ⟨y, g, (ih.2 _).mpr ⟨hl', fun i z e hz he => ?_⟩, hg.1, hg.2, rfl⟩
   have hil : i < l.length := (kae.mp he).1
   exact hi i z e (by rw [ka6 (by exact ltN (lit (@r3 (↑(i)) (↑(y.length)) (↑(l.length))) V0 V1 [(2,-1,.add V1 N1,.add V2 N1),(1,1,V0,V2)] rfl (eqI hl) (ltI hil)))]; exact hz) (by rw [ka6 hil]; exact he)
noncomputable def zci (l : List Int) : Nat := l.foldl (fun a d => a * d.toNat) 1
theorem zfs : ∀ l : List Int, (hps l).length = zci l := by
 intro l
 rw [<- kcl l]
 induction l.reverse with
 | nil => rfl
 | cons d l ih =>
  rw [kcy, zf3, zgX, ih]
  unfold zci
  rw [kcA]; rfl
structure zo5 (K n : Nat) (t : List Int) : Prop where
 len : t.length <= K
 up : t.Pairwise (· < ·)
 rng : ∀ x ∈ t, 0 <= x /\ x < n
theorem zfU (K : Nat) : ∀ n, (sets K n).Nodup /\ ∀ t, t ∈ sets K n ↔ zo5 K n t := by
 intro n
 induction n with
 | zero =>
  refine ⟨by simp [sets], fun t => ?_⟩
  show t ∈ [[]] ↔ _
  rw [kaf]
  constructor
  ·rintro rfl; exact ⟨kbl _, .nil, fun x hx => by cases hx⟩
  ·intro h
   cases t with
   | nil => rfl
   | cons x t => have := h.rng x (kaq ..); exact lif r1 [(0,1,N0,V0),(1,1,V0,N0)] rfl this.1 this.2
 | succ n ih =>
  have hm : ∀ t, t ∈ ((sets K n).filter fun t => decide (t.length < K)).map (· ++ [(n : Int)]) ↔ ∃ s, zo5 K n s /\ s.length < K /\ t = s ++ [(n : Int)] := fun t => by
   simp only [kat, kbb, decide_eq_true_eq, ih.2]
   constructor
   ·rintro ⟨s, ⟨h1, h2⟩, rfl⟩; exact ⟨s, h1, h2, rfl⟩
   ·rintro ⟨s, h1, h2, rfl⟩; exact ⟨s, ⟨h1, h2⟩, rfl⟩
  unfold sets
  constructor
  ·rw [kbg]
   refine ⟨ih.1, ?_, fun a ha b hb e => ?_⟩
   ·rw [kaW, kbn]
    exact (ih.1.sublist kbM).imp fun hg e => hg (List.append_cancel_right e)
   ·obtain ⟨s, _, _, rfl⟩ := (hm b).mp hb
    subst e
    have := ((ih.2 _).mp ha).rng n (kcI _ (kaf.mpr rfl))
    exact lif r1 [(1,1,V0,V0)] rfl this.2
  ·intro t
   rw [kau, ih.2, hm]
   constructor
   ·rintro (h | ⟨s, h, hl, rfl⟩)
    ·exact ⟨h.len, h.up, fun x hx => by have := h.rng x hx; exact ⟨this.1, lit r2 V0 (.add V1 N1) [(1,1,V0,V1)] rfl this.2⟩⟩
    ·refine ⟨by simp; assumption, ?_, fun x hx => ?_⟩
     ·rw [kdq]
      exact ⟨h.up, List.pairwise_singleton .., fun a ha b hb => by rw [kaf.mp hb]; exact (h.rng a ha).2⟩
     ·rcases kau.mp hx with hx | hx
      ·have := h.rng x hx; exact ⟨this.1, lit r2 V0 (.add V1 N1) [(1,1,V0,V1)] rfl this.2⟩
      ·rw [kaf.mp hx]; exact ⟨(nnI _), lit r1 V0 (.add V0 N1) [] rfl⟩
   ·intro h
    by_cases hn : (n : Int) ∈ t
    ·right
     obtain ⟨y, g, rfl⟩ := zku (l := t) fun e => by rw [e] at hn; cases hn
     have hu := h.up
     rw [kdq] at hu
     have hg : g = n := by
      rcases kau.mp hn with hn | hn
      ·have := hu.2.2 _ hn _ (kaf.mpr rfl)
       have := h.rng g (kcI _ (kaf.mpr rfl)); exact lif (@r2 (↑(n)) _) [(1,1,V0,V1),(1,1,V1,.add V0 N1)] rfl ‹_› this.2
      ·exact (kaf.mp hn).symm
     subst hg
     have := h.len
     rw [kam, ka3] at this
     exact ⟨y, ⟨by exact kaX ‹_›, hu.1, fun x hx => ⟨(h.rng x (kbp _ hx)).1, hu.2.2 x hx n (kaf.mpr rfl)⟩⟩, by assumption, rfl⟩
    ·left
     refine ⟨h.len, h.up, fun x hx => ?_⟩
     have := h.rng x hx
     have : x ≠ n := fun e => hn (e ▸ hx)
     lia
theorem zjE {α β : Type} {H : List α} {T : List β} {M : List β} {Y : List α} (R : α -> β -> Prop) (hH : H.Nodup) (hT : T.Nodup) (lM : M.length = H.length) (lY : Y.length = T.length)
  (hM : ∀ (i : Nat) (h : α) (t : β), H[i]? = some h -> M[i]? = some t -> R h t) (hY : ∀ (i : Nat) (h : α) (t : β), Y[i]? = some h -> T[i]? = some t -> R h t)
  (inT : ∀ h t, R h t -> t ∈ T) (inH : ∀ h t, R h t -> h ∈ H) (f1 : ∀ h t t', R h t -> R h t' -> t = t') (f2 : ∀ h h' t, R h t -> R h' t -> h = h') : M.Perm T /\ Y.Perm H := by
 have half : ∀ {α β : Type} {H : List α} {T M : List β} (R : α -> β -> Prop), H.Nodup -> T.Nodup -> M.length = H.length -> (∀ (i : Nat) (h : α) (t : β), H[i]? = some h -> M[i]? = some t -> R h t) -> (∀ t, t ∈ T -> ∃ h, R h t) -> (∀ h t, R h t -> t ∈ T) -> (∀ h t, R h t -> h ∈ H) -> (∀ h t t', R h t -> R h t' -> t = t') -> (∀ h h' t, R h t -> R h' t -> h = h') -> M.Perm T := by
  intro α β H T M R hH hT lM hM hY inT inH f1 f2
  have nd : M.Nodup := by
   rw [kaW, kcu]
   intro i j hi hj hij e
   have h1 := hM i _ _ (kac (by exact ltN (lit r3 V0 V1 [(2,1,V2,V1),(1,1,V0,V2)] rfl (eqI lM) (ltI hi)))) (kac hi)
   have h2 := hM j _ _ (kac (by exact ltN (lit r3 V0 V1 [(2,1,V2,V1),(1,1,V0,V2)] rfl (eqI lM) (ltI hj)))) (kac hj)
   rw [e] at h1
   have := (kck (h₀ := by exact ltN (lit r3 V0 V1 [(2,1,V2,V1),(1,1,V0,V2)] rfl (eqI lM) (ltI hi))) (h₁ := by exact ltN (lit r3 V0 V1 [(2,1,V2,V1),(1,1,V0,V2)] rfl (eqI lM) (ltI hj))) hH).mp (f2 _ _ _ h1 h2)
   exact lif r2 [(1,1,V0,V1),(2,-1,V0,V1)] rfl (ltI hij) (eqI this)
  refine (List.perm_ext_iff_of_nodup nd hT).mpr fun t => ⟨fun ht => ?_, fun ht => ?_⟩
  ·obtain ⟨i, hi, rfl⟩ := kaV ht
   exact inT _ _ (hM i _ _ (kac (by exact ltN (lit r3 V0 V1 [(2,1,V2,V1),(1,1,V0,V2)] rfl (eqI lM) (ltI hi)))) (kac hi))
  ·obtain ⟨h, hr⟩ := hY t ht
   obtain ⟨i, hi, rfl⟩ := kaV (inH _ _ hr)
   have := hM i _ _ (kac hi) (kac (by exact ltN (lit r3 V0 V1 [(2,-1,V1,V2),(1,1,V0,V2)] rfl (eqI lM) (ltI hi))))
   rw [f1 _ _ _ hr this]
   exact kcj _
 have get : ∀ {α β : Type} {T : List β} {Y : List α} {R : α -> β -> Prop}, Y.length = T.length -> (∀ (i : Nat) (h : α) (t : β), Y[i]? = some h -> T[i]? = some t -> R h t) -> ∀ t, t ∈ T -> ∃ h, R h t := fun lY hY t ht => by
  obtain ⟨i, hi, rfl⟩ := kaV ht
  exact ⟨_, hY i _ _ (kac (by exact ltN (lit r3 V0 V1 [(2,-1,V1,V2),(1,1,V0,V2)] rfl (eqI lY) (ltI hi)))) (kac hi)⟩
 exact ⟨half R hH hT lM hM (get lY hY) inT inH f1 f2, half (fun t h => R h t) hT hH lY (fun i t h a b => hY i h t b a) (get lM fun i t h a b => hM i h t b a) (fun t h => inH h t) (fun t h => inT h t) (fun t h h' => f2 h h' t) fun t t' h => f1 h t t'⟩
end Mine
end
section
open PySem
namespace Mine
section
variable {T : TC} {d : Nat} {J : zb} {Q : V -> zb -> Prop} {P : Nat -> zb -> Prop}
theorem zeQ (h : FnW T "_law_table" 2 6 (wq T)) {m : Int} {r : Addr} {rs : Rd2} (n : Net m rs) (hr : zQ J r rs)
  (hq : ∀ a as J', Ext J J' -> Tab J' a m.toNat as (yF rs) -> Q (.ref a) J') : zA T (d + 1) "_law_table" [.int m, .ref r] J Q P :=
 h d _ _ _ _ rfl (zgP (T := T) (d := d) n hr (fun _ => rfl) fun a as _ J' e t _ _ _ => hq a as J' e t)
structure zk5 (T : TC) : Prop where
 N : zgJ T
 D : zdd T
 table : FnW T "table_of" 2 5 (zas T)
 many : FnW T "how_many" 2 0 (zbr T)
theorem zcB (F : zk5 T) {m : Int} {r : Addr} {rs : Rd2} (n : Net m rs) (hr : zQ J r rs) (hq : ∀ J', Ext J J' -> Q (.int (D m rs)) J') : zA T (d + 5) "how_many" [.int m, .ref r] J Q P := by
 refine F.many (d + 4) _ _ _ _ rfl ?_
 unfold zbr
 simp only [zG, yS, j3, zL, zB, zK, zv, qf, qi, qe, zg, zf]
 refine wx (d := d + 1) F.N n hr fun J1 e1 => ?_
 refine zcp (d := d + 3) F.table n (hr.ext e1) fun a as J2 e2 ht nd _ _ => ?_
 exact zk9 (d := d + 2) F.D n ht fun J3 e3 => hq J3 (e1.trans (e2.trans e3))
theorem zlt {m : Int} {rs : Rd2} {JA : zb} {r tp me : Addr} {ks : List Int} {x : Int} {e : Int × Int} {o4 o6 o7 : Option V} {K : Out -> zM -> zb -> Prop} (hr : zQ JA r rs) (e0 : Ext JA J) (hme0 : JA me = none) (hme : J me = some (.dict (dk ks))) (hx0 : 0 <= x) (he : rs[x.toNat]? = some e) (hks : ks.length <= 50)
  (hK : ∀ o6 o7 J', Ext JA J' -> J' me = some (.dict (dk (mtS ks e))) -> K .next [some (.int m), some (.ref r), some (.ref tp), some (.ref me), o4, some (.int x), o6, o7] J') :
  y3 T d [some (.int m), some (.ref r), some (.ref tp), some (.ref me), o4, some (.int x), o6, o7] J K P := by
 obtain ⟨vs, hr1, hr2⟩ := hr
 unfold y3
 rw [zG]
 simp only [zcH, qA, zv, zg, zf, ze, zd]
 refine ⟨hx0, ?_⟩
 refine qx (e0 _ _ hr1) ?_
 have hlv : x.toNat < vs.length := by rw [hr2.length]; exact (kae.mp he).1
 have hvg : vs[x.toNat]? = some vs[x.toNat] := kac hlv
 refine yk hvg ?_
 obtain ⟨a, u, w, hau, hrs, hta⟩ := hr2.get hvg
 rw [he] at hrs
 cases hrs
 rw [hau]
 refine wW (e0 _ _ hta) ?_
 refine ⟨rfl, ?_⟩
 simp only [yy, yx, zp, zq, je, zgk, zhQ, zv, zg, zf, zd, ze]
 refine jc hme ?_
 rw [y1]
 have yes : (u ∈ ks \/ w ∈ ks) -> (zy (zaG (loc 3) (loc 6) (val (.bool true))) (zaG (loc 3) (loc 7) (val (.bool true)))) [some (.int m), some (.ref r), some (.ref tp), some (.ref me), o4, some (.int x), some (.int u), some (.int w)] J K P := fun h => by
  rw [zG]
  simp only [zay, qo, zv, zg, zf, ze, zd]
  refine Eq.mpr (q9 hme) ?_
  rw [y0, yg]
  refine ⟨by unfold lim; exact ltN (lit r1 V0 (.num 1000000) [(0,1,V0,.num 50)] rfl (leI hks)), ?_⟩
  refine Eq.mpr (q9 (zz _ _ _)) ?_
  rw [y0, yg]
  refine ⟨?_, hK _ _ _ ((e0.put hme0 _).put hme0 _) ?_⟩
  ·have : (yl ks u).length <= ks.length + 1 := by unfold yl; split <;> simp
   unfold lim; exact ltN (lit r2 V0 (.num 1000000) [(0,1,V1,.num 50),(0,1,V0,.add V1 N1)] rfl (leI hks) (leI this))
  ·rw [zz]
   unfold mtS
   rw [if_pos h]
 by_cases h1 : u ∈ ks
 ·refine qD (decide_eq_true h1) ?_
  exact yes (.inl h1)
 ·refine qW (decide_eq_false h1) ?_
  refine jc hme ?_
  rw [y1]
  by_cases h2 : w ∈ ks
  ·refine qD (decide_eq_true h2) ?_
   exact yes (.inr h2)
  ·refine qW (decide_eq_false h2) ?_
   refine hK _ _ _ e0 ?_
   unfold mtS
   rw [if_neg (by rintro (h | h); exact h1 h; exact h2 h)]
   exact hme
theorem zcP {ks : List Int} : ∀ es : Rd2, zbh es ks -> mtL ks es = ks
 | [], _ => rfl
 | e :: es, h => by
  show mtL (mtS ks e) es = ks
  rw [zfY (h e (kaq ..))]
  exact zcP es fun p hp => h p (kal _ hp)
theorem ziD (h : FnW T "_law_joined" 3 5 (j4 T)) {m : Int} {rs : Rd2} {r tp : Addr} {t : List Int} (n : Net m rs) (hr : zQ J r rs) (ht : qM J tp t) (hrng : ∀ x ∈ t, 0 <= x /\ x < rs.length)
  (hq : ∀ J', Ext J J' -> Q (.bool (jj m (tro rs t))) J') : zA T (d + 1) "_law_joined" [.int m, .ref r, .ref tp] J Q P := by
 have hm := n.m0; have hm' := n.m10
 have htz : J tp = some (.list (zs t)) := ht
 refine h d _ _ _ _ rfl ?_
 unfold j4
 rw [zG]
 simp only [zV, wV, qo, zv, qf, qi, qe, zg, zf, zd]
 refine zh fun me J1 hme e1 hmev => ?_
 have hends : ∀ e ∈ tro rs t, (0 <= e.1 /\ e.1 <= m) /\ (0 <= e.2 /\ e.2 <= m) := fun e he => by have := n.ends e (zkq hrng he); exact ⟨this.1, this.2.1⟩
 refine zao hm hm' (y9 rfl) (fun i Z J'' => X5 fun ks o4 o5 o6 o7 => A5 (Z = [some (.int m), some (.ref r), some (.ref tp), some (.ref me), o4, o5, o6, o7]) (Ext J J'') (J'' me = some (.dict (dk ks))) (Mt m (tro rs t) ks) ((i + 1 <= ks.length \/ zbh (tro rs t) ks))) ⟨[m], _, _, _, _, rfl, e1, hmev, ⟨by simp, kaf.mpr rfl, fun k hk => by rw [kaf.mp hk]; exact ⟨hm, kaK _⟩, fun k hk => by rw [kaf.mp hk]; exact .refl⟩, .inl (kao _)⟩ ?_ ?_
 ·intro i Z J'' K' hi hI5a hK'
  obtain ⟨ks, o4, o5, o6, o7, rfl, e2, hks, M, hc⟩ := hI5a
  unfold zaF
  simp only [zp, zq, jz, jr, zv, zg, zf, ze]
  refine zO (e2 _ _ htz) ?_
  refine zI (fun j Z J3 => X3 fun o5 o6 o7 => A3 (Z = [some (.int m), some (.ref r), some (.ref tp), some (.ref me), some (.int i), o5, o6, o7]) (Ext J J3) (J3 me = some (.dict (dk (mtL ks (tro rs (t.take j))))))) ⟨_, _, _, rfl, e2, hks⟩ ?_ ?_
  ·intro j v Z J3 K'' hv hI6b hK''
   obtain ⟨o6', o7', o8', rfl, e3, hme3⟩ := hI6b
   obtain ⟨x, hx, rfl⟩ := znz hv
   have hxr := hrng x (kaj hx)
   have hxl : x.toNat < rs.length := by exact ltN (lit r3 V0 V1 [(1,1,V2,V1),(2,1,V0,V2)] rfl hxr.2 (tnn (hxr.1)))
   have hxe : rs[x.toNat]? = some rs[x.toNat] := kac hxl
   refine ⟨.inl (e3 _ _ htz), ?_⟩
   have Mj : Mt m (tro rs t) (mtL ks (tro rs (t.take j))) := M.turn hends _ fun e he => by
    obtain ⟨y, hy, e'⟩ := kat.mp he
    exact kat.mpr ⟨y, kbw hy, e'⟩
   have hle := Mj.le
   simp only [ql, zp, zq]
   refine zlt hr e3 hme hme3 hxr.1 hxe (by exact leN (lin r2 V0 (.num 50) [(0,1,V1,.num 10),(0,1,V0,.add V1 N1)] rfl hm' hle)) fun o7 o8 J4 e4 hme4 => hK'' .next _ _ ⟨_, _, _, rfl, e4, ?_⟩
   rw [zl3 hx hxe, zfZ]; exact hme4
  ·rintro Z J3 ⟨o6', o7', o8', rfl, e3, hme3⟩
   refine ⟨.inl (e3 _ _ htz), hK' _ _ ⟨_, _, _, _, _, rfl, e3, hme3, ?_, ?_⟩⟩
   ·rw [qc, kaL]; exact M.turn hends _ fun e he => he
   ·rw [qc, kaL]
    rcases zi5 (tro rs t) ks with ⟨h1, h2⟩ | h1
    ·rw [h1]; exact .inr h2
    ·rcases hc with h3 | h3
     ·exact .inl (by exact kaI ‹_› ‹_›)
     ·rw [zcP _ h3]; exact .inr h3
 ·rintro Z J'' ⟨ks, o4, o5, o6, o7, rfl, e2, hks, M, hc⟩
  simp only [j3, qH, qG, jf, qo, zv, zg, zf, ze]
  refine zbf hks ?_
  rw [yg]
  simp only [zd, Cmp.run]
  rw [show (((ks.length : Int)) == m + 1) = jj m (tro rs t) from ?_]
  ·exact hq _ e2
  rw [kaS, zke, beq_iff_eq]
  refine ⟨fun hk q h0 hqm => M.reach q ?_, fun hok => ?_⟩
  ·apply kaw
   intro hn
   have := wd m.toNat (q :: ks) (kaQ.mpr ⟨hn, M.nd⟩) fun x hx => by
    rw [tnn hm]
    rcases kah.mp hx with h | h
    ·rw [h]; exact ⟨h0, kaF hqm⟩
    ·exact M.rng x h
   rw [kag] at this
   exact lif (@r3 (↑(ks.length)) _ (↑(m.toNat))) [(2,-1,V0,.add V1 N1),(0,1,.add V0 N1,.add V2 N1),(2,1,V2,V1)] rfl hk (leI this) (tnn (hm))
  ·have hle := M.le
   have hge : m + 1 <= (ks.length : Int) := by
    rcases hc with h1 | h1
    ·exact lin (@r3 _ (↑(ks.length)) (↑(m.toNat))) (.add V0 N1) V1 [(0,1,.add V2 N1,V1),(2,-1,V2,V0)] rfl (leI h1) (tnn (hm))
    ·have := zbb m.toNat ks fun k h0 hk => by
      by_cases e : k = m
      ·rw [e]; exact M.pit
      ·exact h1.all M.pit (hok k h0 (by exact (wT (lin r3 V0 V1 [(0,1,V0,V2),(2,1,V2,V1)] rfl hk (tnn (hm))) e)))
     exact lin (@r3 _ (↑(ks.length)) (↑(m.toNat))) (.add V0 N1) V1 [(0,1,.add V2 N1,V1),(2,-1,V2,V0)] rfl (leI this) (tnn (hm))
   exact kav (hle) (hge)
end
end Mine
end
section
open PySem
namespace Mine
inductive Lls (J : zb) : List V -> List (List Int) -> Prop
 | nil : Lls J [] []
 | cons {a n vs ns} : qM J a n -> Lls J vs ns -> Lls J (.ref a :: vs) (n :: ns)
theorem Lls.ext {J J' : zb} {vs ns} (h : Lls J vs ns) (e : Ext J J') : Lls J' vs ns := by
 induction h with
 | nil => exact .nil
 | cons h1 _ ih => exact .cons (h1.ext e) ih
theorem Lls.length {J : zb} {vs ns} (h : Lls J vs ns) : vs.length = ns.length := by
 induction h with
 | nil => rfl
 | cons h1 _ ih => rw [kag, kag, ih]
theorem Lls.app {J : zb} {vs ns vs' ns'} (h : Lls J vs ns) (h' : Lls J vs' ns') : Lls J (vs ++ vs') (ns ++ ns') := by
 induction h with
 | nil => exact h'
 | cons h1 _ ih => exact .cons h1 ih
inductive AtL (J : zb) (v : V) (ns : List (List Int)) (i : Nat) : Prop
 | mk (a : Addr) (n : List Int) (e : v = .ref a) (h : ns[i]? = some n) (at_ : qM J a n) : AtL J v ns i
theorem Lls.get {J : zb} {vs ns} (h : Lls J vs ns) : ∀ {i : Nat} {v : V}, vs[i]? = some v -> AtL J v ns i := by
 induction h with
 | nil => intro i v hv; simp at hv
 | @cons a n vs ns h1 _ ih =>
  intro i v hv
  cases i with
  | zero => cases hv; exact ⟨a, n, rfl, rfl, h1⟩
  | succ i =>
   obtain ⟨a', n', e, h, ha⟩ := ih hv
   exact ⟨a', n', e, h, ha⟩
structure LL (J : zb) (c : Addr) (vs : List V) (ns : List (List Int)) : Prop where
 head : J c = some (.list vs)
 all : Lls J vs ns
theorem LL.ext {J J' : zb} {c vs ns} (h : LL J c vs ns) (e : Ext J J') : LL J' c vs ns := ⟨e _ _ h.head, h.all.ext e⟩
theorem qT {α : Type} {l : List α} {i : Nat} {x : α} (h : l[i]? = some x) : l.take (i + 1) = l.take i ++ [x] := by rw [kaY, h]; rfl
noncomputable def zlZ (d : Int) (h : List Int) : List (List Int) := (zr d).map fun g => h ++ [g]
theorem zph (d : Int) : (zr d).length = d.toNat := by simp [zr]
theorem zpi {d : Int} {i : Nat} (h : i < d.toNat) : (zr d)[i]? = some (i : Int) := by simp [zr, h]
section
variable {T : TC} {d : Nat} {J : zb} {Q : V -> zb -> Prop} {P : Nat -> zb -> Prop}
theorem zk2 {Z : zM} {i j : Nat} {a : Addr} {l : List Int} {x : Int} (hl : qM J a l) (hs : l.length <= 1000) (hi : jC Z i = some (.ref a)) (hj : jC Z j = some (.int x)) (hq : ∀ c J', Ext J J' -> qM J' c (l ++ [x]) -> Q (.ref c) J') : zhd (loc i) (qF (zi (loc j) zF)) Z J Q P := by
 simp only [zcX, qV, zB, zK, zv, hi, hj, kag, kaB]
 refine ⟨by unfold lim; exact kak rfl, zh fun b J1 hb e1 hbv => ?_⟩
 simp only [ze]
 refine zE (e1 _ _ hl) (zE hbv ⟨?_, zh fun c J2 hc e2 hcv => hq c J2 (e1.trans e2) ?_⟩)
 ·rw [qc]; unfold lim; simp; exact leN (lin r1 V0 (.num 999999) [(0,1,V0,.num 1000)] rfl (leI hs))
 ·unfold qM; rw [hcv, <- zc7]; rfl
theorem zmr {mo fo lp hp : Addr} {dd : Int} {h : List Int} {vs : List V} {X : List (List Int)} {o5 : Option V} {K : Out -> zM -> zb -> Prop} (hd0 : 0 <= dd) (hd : dd <= 1000) (hL : LL J lp vs X) (hh : qM J hp h) (hs : h.length <= 1000) (hX : X.length <= 20000)
  (hK : ∀ lp' vs' J', Ext J J' -> LL J' lp' vs' (X ++ zlZ dd h) -> K .next [some (.ref mo), some (.ref fo), some (.int dd), some (.ref lp'), some (.ref hp), o5] J') :
  wk T d [some (.ref mo), some (.ref fo), some (.int dd), some (.ref lp), some (.ref hp), o5] J K P := by
 unfold wk
 simp only [zV, zcX, qX, jL, zv, zg, zf, zd]
 refine ⟨by unfold small; exact ⟨lin r1 (.neg (.num 4611686018427387904)) V0 [(0,1,N0,V0)] rfl hd0, lit r1 V0 (.num 4611686018427387904) [(0,1,V0,.num 1000)] rfl hd⟩, by rw [z9]; unfold lim; exact leN (lin r2 V0 (.num 1000000) [(0,1,V1,.num 1000),(2,1,V0,V1)] rfl hd (tnn (hd0))), ?_⟩
 refine qj (fun i acc J' => Ext J J' /\ Lls J' acc ((zlZ dd h).take i)) ⟨.refl, .nil⟩ ?_ ?_
 ·rintro i v acc J' K' hv ⟨e1, ha⟩ hK'
  obtain ⟨hi, rfl⟩ := qI hv
  refine ⟨trivial, ?_⟩
  simp only [qv, if_true, kbi]
  refine zk2 (hh.ext e1) hs (zf ..) rfl fun c J1 e2 hc => hK' _ _ ⟨e1.trans e2, ?_⟩
  rw [qT (x := h ++ [(i : Int)]) (by unfold zlZ; rw [kaJ, zpi hi]; rfl)]
  exact (ha.ext e2).app (.cons hc .nil)
 ·rintro acc J' ⟨e1, ha⟩
  refine ⟨trivial, zh fun c J1 hc e2 hcv => ?_⟩
  simp only [ze]
  have e12 := e1.trans e2
  refine zE (e12 _ _ hL.head) (zE hcv ⟨?_, zh fun c' J2 hc' e3 hcv' => ?_⟩)
  ·have h1 := hL.all.length
   have h2 := ha.length
   have h3 := kcM (rng 0 dd.toNat).length (zlZ dd h)
   rw [z9] at h2 h3
   unfold lim
   exact leN (lin r6 (.add V0 V1) (.num 1000000) [(0,1,V2,.num 1000),(0,1,V3,.num 20000),(2,1,V0,V3),(2,1,V1,V4),(0,1,V4,V5),(2,1,V5,V2)] rfl hd (leI hX) (eqI h1) (eqI h2) (leI h3) (tnn (hd0)))
  ·simp only [zq, zp]
   refine hK c' _ J2 (e12.trans e3) ⟨hcv', ?_⟩
   rw [z9, kbX (by unfold zlZ; rw [kaC, zph]; exact kao _)] at ha
   exact (hL.all.ext (e12.trans e3)).app (ha.ext (e2.trans e3))
theorem zjI (h : FnW T "_law_heaps" 1 5 (yr T)) {mo : Addr} {ds : List Int} (hm : qM J mo ds) (hl : ds.length <= 100) (h0 : ∀ x ∈ ds, 0 <= x /\ x <= 40) (hB : ∀ i, (hps (ds.take i)).length <= 400)
  (hq : ∀ c vs J', Ext J J' -> LL J' c vs (hps ds) -> Q (.ref c) J') : zA T (d + 1) "_law_heaps" [.ref mo] J Q P := by
 refine h d _ _ _ _ rfl ?_
 unfold yr
 simp only [zG, zV, qV, zB, zK, qf, qi, qe, kag, kaB]
 refine ⟨by unfold lim; exact kak rfl, zh fun a J1 ha e1 hav => ⟨by unfold lim; exact kak rfl, zh fun b J2 hb e2 hbv => ?_⟩⟩
 simp only [zq, zp, jz, jr, zv, zg, zf, ze]
 have e12 := e1.trans e2
 refine zO (e12 _ _ hm) ?_
 refine zI (fun i Z J' => X6 fun c vs o2 o3 o4 o5 => A3 (Z = [some (.ref mo), some (.ref c), o2, o3, o4, o5]) (Ext J J') (LL J' c vs (hps (ds.take i)))) ⟨b, _, _, _, _, _, rfl, e12, hbv, .cons (e2 _ _ hav) .nil⟩ ?_ ?_
 ·intro i v Z J' K' hv hI hK
  obtain ⟨c, vs, o2, o3, o4, o5, rfl, e3, hL⟩ := hI
  obtain ⟨x, hx, rfl⟩ := znz hv
  have hx0 := h0 x (kaj hx)
  have hBi := hB i
  refine ⟨.inl (e3 _ _ hm), ?_⟩
  unfold zaU
  simp only [ql, zq, zp, zG, zV, qV, zK, kaB]
  refine ⟨by unfold lim; exact kak rfl, zh fun lp J3 hlp e4 hlpv => ?_⟩
  simp only [zq, zp, jz, jr, zv, zg, zf, ze]
  refine zO (e4 _ _ hL.head) ?_
  have hd : ∀ y ∈ hps (ds.take i), y.length <= 1000 := fun y hy => by
   have := ((zhR _).2 y).mp hy
   rw [this.1, ka2]; lia
  refine zI (fun j Z J4 => X4 fun lp' ws o4 o5 => A3 (Z = [some (.ref mo), some (.ref c), some (.int x), some (.ref lp'), o4, o5]) (Ext J3 J4) (LL J4 lp' ws (((hps (ds.take i)).take j).flatMap (zlZ x)))) ⟨lp, _, _, _, rfl, .refl, hlpv, .nil⟩ ?_ ?_
  ·intro j u Z J4 K'' hu hI hK'
   obtain ⟨lp', ws, o4, o5, rfl, e5, hL'⟩ := hI
   obtain ⟨y, n, rfl, hn, hy⟩ := hL.all.get hu
   refine ⟨.inl (e5 _ _ (e4 _ _ hL.head)), ?_⟩
   simp only [ql, zq, zp]
   refine zmr hx0.1 (by exact lin r1 V0 (.num 1000) [(0,1,V0,.num 40)] rfl hx0.2) hL' (hy.ext (e4.trans e5)) (hd n (kaj hn)) ?_ fun lp'' vs'' J5 e6 hL'' => hK' .next _ _ ⟨lp'', vs'', _, _, rfl, e5.trans e6, ?_⟩
   ·have h1 : ∀ F : List (List Int), (F.flatMap (zlZ x)).length = F.length * x.toNat := fun F => zgX F x
    rw [h1, ka2]
    have : min j (hps (ds.take i)).length * x.toNat <= 400 * 40 := kd0 (by lia) (by exact leN (lin r2 V0 (.num 40) [(0,1,V1,.num 40),(2,1,V0,V1)] rfl hx0.2 (tnn (hx0.1))))
    exact leN (lin r1 V0 (.num 20000) [(0,1,V0,.mulL 400 (.num 40))] rfl (leI this))
   ·rw [qT hn, List.flatMap_append, List.flatMap_singleton]; exact hL''
  ·rintro Z J4 ⟨lp', ws, o4, o5, rfl, e5, hL'⟩
   refine ⟨.inl (e5 _ _ (e4 _ _ hL.head)), ?_⟩
   simp only [zV, zv, zg, zf, zp, zq]
   refine hK .next _ _ ⟨lp', ws, _, _, _, _, rfl, e3.trans (e4.trans e5), ?_⟩
   rw [qT hx, zf3]
   rw [hL.all.length, kaL] at hL'
   exact hL'
 ·rintro Z J' ⟨c, vs, o2, o3, o4, o5, rfl, e3, hL⟩
  refine ⟨.inl (e3 _ _ hm), ?_⟩
  simp only [j3, zv, zg, zf]
  rw [qc, kaL] at hL
  exact hq c vs J' e3 hL
theorem zli (h : FnW T "_law_sets" 2 3 (y7 T)) {K n : Nat} (hK : K <= 10) (hn : n <= 50) (hB : ∀ i, i <= n -> (sets K i).length <= 100000)
  (hq : ∀ c vs J', Ext J J' -> LL J' c vs ((sets K n).filter fun t => decide (t.length = K)) -> Q (.ref c) J') : zA T (d + 1) "_law_sets" [.int K, .int n] J Q P := by
 refine h d _ _ _ _ rfl ?_
 unfold y7
 simp only [zG, zV, qV, zB, zK, qf, qi, qe, kag, kaB]
 refine ⟨by unfold lim; exact kak rfl, zh fun a J1 ha e1 hav => ⟨by unfold lim; exact kak rfl, zh fun b J2 hb e2 hbv => ?_⟩⟩
 simp only [zq, zp, jz, jL, zv, zg, zf, zd]
 refine ⟨by unfold small; exact ⟨lin r1 (.neg (.num 4611686018427387904)) V0 [(0,1,N0,V0)] rfl (nnI _), lit r1 V0 (.num 4611686018427387904) [(0,1,V0,.num 50)] rfl (leI hn)⟩, ?_⟩
 rw [kai]
 refine zI (fun i Z J' => X4 fun c vs o3 o4 => A3 (Z = [some (.int K), some (.int n), some (.ref c), o3, o4]) (Ext J J') (LL J' c vs (sets K i))) ⟨b, _, _, _, rfl, e1.trans e2, hbv, .cons (e2 _ _ hav) .nil⟩ ?_ ?_
 ·intro i v Z J' K' hv hI hK'
  obtain ⟨c, vs, o3, o4, rfl, e3, hL⟩ := hI
  obtain ⟨hi, rfl⟩ := qI hv
  have hBi := hB i (kaX hi)
  refine ⟨trivial, ?_⟩
  have hvl := hL.all.length
  simp only [ql, zq, zp, zV, zcX, qX, jr, zv, zg, zf, ze, kbi]
  refine zO hL.head ⟨by unfold lim; exact leN (lin r2 V0 (.num 1000000) [(0,1,V1,.num 100000),(2,1,V0,V1)] rfl (leI hBi) (eqI hvl)), ?_⟩
  refine qj (fun j acc J3 => Ext J' J3 /\ Lls J3 acc ((((sets K i).take j).filter fun t => decide (t.length < K)).map (· ++ [(i : Int)]))) ⟨.refl, .nil⟩ ?_ ?_
  ·rintro j u acc J3 K'' hu ⟨e4, hA⟩ hK''
   obtain ⟨y, t, rfl, ht, hy⟩ := hL.all.get hu
   refine ⟨.inl (e4 _ _ hL.head), ?_⟩
   have hy' := hy.ext e4
   simp only [q8, zq, zp, qH, qG, zv, zg, zf, ze]
   refine zS hy' ?_
   simp only [zd, Cmp.run, zm, qc]
   by_cases hl : t.length < K
   ·refine qD (decide_eq_true (kaE.mpr hl)) ?_
    refine zk2 hy' (by exact leN (lin r2 V0 (.num 1000) [(0,1,V1,.num 10),(1,1,V0,V1)] rfl (leI hK) (ltI hl))) (zf ..) rfl fun c' J4 e5 hc => hK'' _ _ ⟨e4.trans e5, ?_⟩
    rw [qT ht, ka4, kbO, if_pos (decide_eq_true hl), ka0]
    exact (hA.ext e5).app (.cons hc .nil)
   ·refine qW (decide_eq_false fun h => hl (kaE.mp h)) (hK'' _ _ ⟨e4, ?_⟩)
    rw [qT ht, ka4, kbO, if_neg (by rw [decide_eq_true_eq]; exact hl), kc7, kaR]
    exact hA
  ·rintro acc J3 ⟨e4, hA⟩
   refine ⟨.inl (e4 _ _ hL.head), zh fun c' J4 hc' e5 hcv => ?_⟩
   simp only [ze]
   have e45 := e4.trans e5
   rw [hvl, kaL] at hA
   refine zE (e45 _ _ hL.head) (zE hcv ⟨?_, zh fun c'' J5 hc'' e6 hcv' => ?_⟩)
   ·have h1 := hA.length
    rw [kaC] at h1
    have h2 := kbC (fun t : List Int => decide (t.length < K)) (sets K i)
    unfold lim
    exact leN (lin r4 (.add V0 V1) (.num 1000000) [(0,2,V2,.num 100000),(2,1,V0,V2),(2,1,V1,V3),(0,1,V3,V2)] rfl (leI hBi) (eqI hvl) (eqI h1) (leI h2))
   ·refine hK' .next _ _ ⟨c'', _, _, _, rfl, e3.trans (e45.trans e6), hcv', ?_⟩
    exact (hL.all.ext (e45.trans e6)).app (hA.ext (e5.trans e6))
 ·rintro Z J' ⟨c, vs, o3, o4, rfl, e3, hL⟩
  rw [z9] at hL
  have hBn := hB n (kao _)
  have hvl := hL.all.length
  refine ⟨trivial, ?_⟩
  simp only [j3, qX, jr, zv, zg, zf, ze]
  refine zO hL.head ⟨by unfold lim; exact leN (lin r2 V0 (.num 1000000) [(0,1,V1,.num 100000),(2,1,V0,V1)] rfl (leI hBn) (eqI hvl)), ?_⟩
  refine qj (fun j acc J3 => J3 = J' /\ Lls J' acc (((sets K n).take j).filter fun t => decide (t.length = K))) ⟨rfl, .nil⟩ ?_ ?_
  ·rintro j u acc J3 K'' hu ⟨rfl, hA⟩ hK''
   obtain ⟨y, t, rfl, ht, hy⟩ := hL.all.get hu
   refine ⟨.inl hL.head, ?_⟩
   simp only [q8, zq, zp, qH, qG, zv, zg, zf, ze]
   refine zS hy ?_
   simp only [zd, Cmp.run, zm, qc]
   by_cases hl : t.length = K
   ·refine qD (beq_iff_eq.mpr (congrArg Int.ofNat hl)) (hK'' _ _ ⟨rfl, ?_⟩)
    rw [qT ht, ka4, kbO, if_pos (decide_eq_true hl)]
    exact hA.app (.cons hy .nil)
   ·refine qW (beq_false_of_ne fun h => hl (Int.ofNat.inj h)) (hK'' _ _ ⟨rfl, ?_⟩)
    rw [qT ht, ka4, kbO, if_neg (by rw [decide_eq_true_eq]; exact hl), kc7, kaR]
    exact hA
  ·rintro acc J3 ⟨rfl, hA⟩
   refine ⟨.inl hL.head, zh fun c' J4 hc' e5 hcv => ?_⟩
   rw [hvl, kaL] at hA
   exact hq c' acc J4 (e3.trans e5) ⟨hcv, hA.ext e5⟩
noncomputable def zjx (l : List Int) : Int := l.foldl (· * ·) 1
theorem zn3 {l : List Int} (h : ∀ x ∈ l, 0 <= x) : zjx l = zci l := by
 have key : ∀ (l : List Int) (a : Nat), (∀ x ∈ l, 0 <= x) -> l.foldl (· * ·) (a : Int) = ((l.foldl (fun a d => a * d.toNat) a : Nat) : Int) := by
  intro l
  induction l with
  | nil => intro a _; rfl
  | cons x l ih =>
   intro a h
   rw [kbD, kbD, <- ih _ fun y hy => h y (kal _ hy), Int.natCast_mul, tnn (h x (kaq ..))]
 exact key l 1 h
theorem zgS (hd : FnW T "_law_degrees" 2 4 (jm T)) (h : FnW T "_law_room" 2 2 (y8 T)) {m : Int} {rs : Rd2} {r : Addr} (n : Net m rs) (hr : zQ J r rs) (hq : ∀ J', Ext J J' -> Q (.int (zci (degs m rs))) J') : zA T (d + 2) "_law_room" [.int m, .ref r] J Q P := by
 have hm := n.m0; have hm' := n.m10
 have nn : ∀ p ∈ rs, 0 <= p.1 /\ 0 <= p.2 := fun p hp => ⟨(n.ends p hp).1.1, (n.ends p hp).2.1.1⟩
 refine h (d + 1) _ _ _ _ rfl ?_
 unfold y8
 simp only [zG, zV, qo, qf, qi, qe, zq, zp, jz, jr, zL, zB, zK, zv, zg, zf]
 refine j8 (d := d) hd hm hm' hr nn fun c J1 e1 hc hcv => ?_
 have hdg : ∀ x ∈ degs m rs, 0 <= x /\ x <= 40 := fun x hx => by
  rw [jZ hm nn] at hx
  obtain ⟨v, _, rfl⟩ := kat.mp hx
  exact ⟨zfA v, zeG n v⟩
 simp only [ze]
 refine zO hcv ?_
 refine zI (fun i Z J' => ∃ o3, Z = [some (.int m), some (.ref r), some (.int (zjx ((degs m rs).take i))), o3] /\ J' = J1) ⟨_, rfl, rfl⟩ ?_ ?_
 ·intro i v Z J' K' hv hI hK
  obtain ⟨o3, rfl, rfl⟩ := hI
  obtain ⟨x, hx, rfl⟩ := znz hv
  have := hdg x (kaj hx)
  refine ⟨.inl hcv, ?_⟩
  simp only [ql, zq, zp, zV, zdr, zv, zg, zf, zd]
  have e : zjx ((degs m rs).take (i + 1)) = zjx ((degs m rs).take i) * x := by
   rw [qT hx]
   unfold zjx
   rw [kcA]; rfl
  exact ⟨zaz (by exact lit r1 (.neg (.num 18446744073709551616)) V0 [(0,1,N0,V0)] rfl this.1) (by exact lit r1 V0 (.num 18446744073709551616) [(0,1,V0,.num 40)] rfl this.2), hK .next _ _ ⟨some (.int x), by rw [e], rfl⟩⟩
 ·rintro Z J' ⟨o3, rfl, rfl⟩
  refine ⟨.inl hcv, ?_⟩
  simp only [j3, zv, zg, zf]
  rw [qc, kaL, zn3 fun x hx => (hdg x hx).1]
  exact hq _ e1
end
structure Sm (m : Int) (W : Rd2) (ks : List Int) (qs : Rd2) : Prop where
 mt : Mt m qs ks
 len : ks.length = qs.length + 1
 sub : ∀ e ∈ qs, e ∈ W
noncomputable def nw (ks : List Int) (e : Int × Int) : Bool := decide (e.1 ∈ ks) != decide (e.2 ∈ ks)
inductive One (ks : List Int) (e : Int × Int) : Prop
 | mk (x : Int) (h : mtS ks e = ks ++ [x]) (hx : x ∉ ks) (ho : (x = e.2 /\ e.1 ∈ ks) \/ (x = e.1 /\ e.2 ∈ ks)) : One ks e
theorem zkI {ks : List Int} {e : Int × Int} (h : nw ks e = true) : One ks e := by
 unfold nw at h
 by_cases h1 : e.1 ∈ ks
 ·have h2 : e.2 ∉ ks := fun h2 => by simp [h1, h2] at h
  refine ⟨e.2, ?_, h2, .inl ⟨rfl, h1⟩⟩
  unfold mtS
  rw [if_pos (.inl h1), show yl ks e.1 = ks from if_pos h1]
  exact if_neg h2
 ·have h2 : e.2 ∈ ks := kaw fun h2 => by simp [h1, h2] at h
  refine ⟨e.1, ?_, h1, .inr ⟨rfl, h2⟩⟩
  unfold mtS
  rw [if_pos (.inr h2), show yl ks e.1 = ks ++ [e.1] from if_neg h1]
  exact if_pos (kbp _ h2)
theorem zn6 {ks : List Int} {e : Int × Int} (h : nw ks e = false) : mtS ks e = ks := zfY (by
 unfold nw at h
 have := bne_eq_false_iff_eq.mp h
 exact decide_eq_decide.mp this)
theorem Sm.step {m : Int} {W : Rd2} {ks : List Int} {qs : Rd2} {e : Int × Int} (S : Sm m W ks qs) (hw : nw ks e = true) (he : e ∈ W) (hr : (0 <= e.1 /\ e.1 <= m) /\ (0 <= e.2 /\ e.2 <= m)) : Sm m W (mtS ks e) (qs ++ [e]) := by
 obtain ⟨x, hm, hx, ho⟩ := zkI hw
 have hin : e ∈ qs ++ [e] := kcI _ (kaf.mpr rfl)
 have mono : ∀ k ∈ ks, jl (qs ++ [e]) m k := fun k hk => (S.mt.reach k hk).mono fun p hp => kbp _ hp
 rw [hm]
 refine ⟨⟨?_, kbp _ S.mt.pit, fun k hk => ?_, fun k hk => ?_⟩, ?_, fun p hp => ?_⟩
 ·rw [kbg]
  exact ⟨S.mt.nd, by simp, fun a ha b hb e => hx (by rw [<- kaf.mp hb, <- e]; exact ha)⟩
 ·rcases kau.mp hk with hk | hk
  ·exact S.mt.rng k hk
  ·rw [kaf.mp hk]
   rcases ho with ⟨rfl, _⟩ | ⟨rfl, _⟩
   ·exact hr.2
   ·exact hr.1
 ·rcases kau.mp hk with hk | hk
  ·exact mono k hk
  ·rw [kaf.mp hk]
   rcases ho with ⟨rfl, h⟩ | ⟨rfl, h⟩
   ·exact (mono _ h).fwd hin
   ·exact (mono _ h).bwd hin
 ·rw [kam, kam, S.len]; rfl
 ·rcases kau.mp hp with hp | hp
  ·exact S.sub p hp
  ·rw [kaf.mp hp]; exact he
theorem Sm.done {m : Int} {W : Rd2} {ks : List Int} {qs : Rd2} (n : Net m W) (S : Sm m W ks qs) (h : m.toNat + 1 <= ks.length \/ zbh W ks) : (qs.length : Int) = m /\ ∀ q, 0 <= q -> q < m -> jl qs m q := by
 have hm := n.m0
 have hle := S.mt.le
 have hl := S.len
 have hge : m.toNat + 1 <= ks.length := by
  rcases h with h | h
  ·exact h
  ·exact zbb m.toNat ks fun k h0 hk => by
    by_cases e : k = m
    ·rw [e]; exact S.mt.pit
    ·exact h.all S.mt.pit (n.conn k h0 (by exact (wT (lin r3 V0 V1 [(0,1,V0,V2),(2,1,V2,V1)] rfl hk (tnn (hm))) e)))
 refine ⟨by exact kav (lin (@r3 (↑(kby qs)) _ (↑(ks.length))) V0 V1 [(0,1,V2,.add V1 N1),(2,-1,V2,.add V0 N1)] rfl hle (eqI hl)) (lin (@r4 _ (↑(kby qs)) (↑(ks.length)) (↑(m.toNat))) V0 V1 [(2,1,V2,.add V1 N1),(0,1,.add V3 N1,V2),(2,-1,V3,V0)] rfl (eqI hl) (leI hge) (tnn (hm))), fun q h0 hq => S.mt.reach q ?_⟩
 apply kaw
 intro hn
 have := wd m.toNat (q :: ks) (kaQ.mpr ⟨hn, S.mt.nd⟩) fun x hx => by
  rw [tnn hm]
  rcases kah.mp hx with h | h
  ·rw [h]; exact ⟨h0, kaF hq⟩
  ·exact S.mt.rng x h
 rw [kag] at this
 exact (kba _ (kaU ‹_› ‹_›)).elim
theorem Net.of {m : Int} {W qs rs : Rd2} (n : Net m W) (hl : rs.length <= 40) (hs : ∀ e ∈ rs, e ∈ W) (hq : ∀ e ∈ qs, e ∈ rs) (hc : ∀ q, 0 <= q -> q < m -> jl qs m q) : Net m rs :=
 ⟨n.m0, n.m10, hl, fun p hp => n.ends p (hs p hp), fun k h0 hk => (hc k h0 hk).mono hq⟩
theorem zje (a b : Rd2) (v : Nat) : zU (a ++ b) v = zU a v + zU b v := by
 unfold zU
 rw [show qL (a ++ b) = qL a ++ qL b by simp [qL], zaE]
theorem zi0 {c : Nat} : ∀ l : List Int, (∀ x ∈ l, x <= c) -> zci l <= c ^ l.length := by
 have key : ∀ (l : List Int) (a : Nat), (∀ x ∈ l, x <= c) -> l.foldl (fun a d => a * d.toNat) a <= a * c ^ l.length := by
  intro l
  induction l with
  | nil => intro a _; simp
  | cons x l ih =>
   intro a h
   rw [kbD, kag, kdm, kdn (c ^ l.length), <- Nat.mul_assoc]
   refine kap (ih _ fun y hy => h y (kal _ hy)) (kdv _ (Nat.mul_le_mul_left _ ?_))
   have := h x (kaq ..)
   lia
 intro l h
 have := key l 1 h
 rwa [Nat.one_mul] at this
theorem zQ.keepD {J : zb} {g b : Addr} {kvs : List (Int × V)} {o : O} {qs} (h : zQ J b qs) (h1 : J g = some (.dict kvs)) : zQ (put J g o) b qs := by
 obtain ⟨vs, h2, h3⟩ := h
 refine ⟨vs, by rw [zY _ (by rintro rfl; rw [h1] at h2; cases h2)]; exact h2, ?_⟩
 clear h2
 induction h3 with
 | nil => exact .nil
 | cons h _ ih => exact .cons (by rw [zY _ (by rintro rfl; rw [h1] at h; cases h)]; exact h) ih
section
variable {T : TC} {d : Nat} {J : zb} {Q : V -> zb -> Prop} {P : Nat -> zb -> Prop}
theorem zl8 {m : Int} {W : Rd2} {JA : zb} {s ro me wh : Addr} {ks : List Int} {qs : Rd2} {e : Int × Int} {o3 o4 : Option V} {K : Out -> zM -> zb -> Prop} (e0 : Ext JA J) (hme0 : JA me = none) (hro0 : JA ro = none) (hme : J me = some (.dict (dk ks))) (hro : zQ J ro qs) (S : Sm m W ks qs) (he : e ∈ W) (hr : (0 <= e.1 /\ e.1 <= m) /\ (0 <= e.2 /\ e.2 <= m)) (hm : m <= 10)
  (hK : ∀ qs' J', Ext JA J' -> J' me = some (.dict (dk (mtS ks e))) -> zQ J' ro qs' -> Sm m W (mtS ks e) qs' -> K .next [some (.ref s), some (.ref ro), some (.ref me), o3, o4, some (.int m), some (.ref wh), some (.int e.1), some (.int e.2)] J') :
  wj T d [some (.ref s), some (.ref ro), some (.ref me), o3, o4, some (.int m), some (.ref wh), some (.int e.1), some (.int e.2)] J K P := by
 unfold wj
 simp only [je, zgM, zhQ, zv, zg, zf, zd, ze]
 refine jc hme (jc hme ?_)
 rw [y1, y1]
 simp only [kad, if_false, zm, if_true]
 have hle := S.mt.le
 have hl := S.len
 have hlim : ks.length < 50 := by exact ltN (lit r2 V0 (.num 50) [(0,1,V1,.num 10),(0,1,V0,.add V1 N1)] rfl hm hle)
 show (if nw ks e = true then _ else _)
 cases hw : nw ks e with
 | false =>
  simp only [kad, if_false, qC]
  rw [<- zn6 hw] at hme S
  exact hK qs J e0 hme hro S
 | true =>
  simp only [if_true, zG, zay, qo, zv, zg, zf, ze, zd]
  refine Eq.mpr (q9 hme) ?_
  rw [y0, yg]
  refine ⟨by unfold lim; exact ltN (lit r1 V0 (.num 1000000) [(1,1,V0,.num 50)] rfl (ltI hlim)), ?_⟩
  refine Eq.mpr (q9 (zz _ _ _)) ?_
  rw [y0, yg]
  have ha : (yl ks e.1).length <= ks.length + 1 := by unfold yl; split <;> simp
  refine ⟨by unfold lim; exact ltN (lit r2 V0 (.num 1000000) [(1,1,V1,.num 50),(0,1,V0,.add V1 N1)] rfl (ltI hlim) (leI ha)), ?_⟩
  have hin : e.1 ∈ ks \/ e.2 ∈ ks := by
   obtain ⟨x, _, _, ho⟩ := zkI hw
   exact ho.elim (fun h => .inl h.2) fun h => .inr h.2
  have hm1 : yl (yl ks e.1) e.2 = mtS ks e := by unfold mtS; rw [if_pos hin]
  rw [hm1]
  have hro1 : zQ (put J me (.dict (dk (yl ks e.1)))) ro qs := hro.keepD hme
  have hro2 : zQ (put (put J me (.dict (dk (yl ks e.1)))) me (.dict (dk (mtS ks e)))) ro qs := hro1.keepD (zz _ _ _)
  have e2 := ((e0.put hme0 (.dict (dk (yl ks e.1)))).put hme0 (.dict (dk (mtS ks e))))
  have hme2 : put (put J me (.dict (dk (yl ks e.1)))) me (.dict (dk (mtS ks e))) me = some (.dict (dk (mtS ks e))) := zz _ _ _
  generalize put (put J me (.dict (dk (yl ks e.1)))) me (.dict (dk (mtS ks e))) = J2 at hro2 e2 hme2
  obtain ⟨vs, hv1, hv2⟩ := hro2
  simp only [yS, zey, zcM, zB, zK, zv, zg, zf, ze, kag, kaB]
  rw [zar hv1]
  refine ⟨trivial, by unfold lim; exact kak rfl, zh fun t J3 ht e3 htv => zE (e3 _ _ hv1) ⟨?_, hK (qs ++ [e]) _ ((e2.trans e3).put hro0 _) ?_ (zQ.push (e3 _ _ hv1) (hv2.ext e3) htv) (S.step hw he hr)⟩⟩
  ·rw [hv2.length]; unfold lim; exact ltN (lit r2 V0 (.num 1000000) [(2,-1,V1,.add V0 N1),(1,1,V1,.num 50)] rfl (eqI hl) (ltI hlim))
  ·rw [zY _ (by rintro rfl; rw [hv1] at hme2; cases hme2)]; exact e3 _ _ hme2
end
end Mine
end
section
open PySem
namespace Mine
section
variable {T : TC} {d : Nat} {J : zb} {Q : V -> zb -> Prop} {P : Nat -> zb -> Prop}
structure zlV (T : TC) : Prop where
 L : zcK T
 room : FnW T "_law_room" 2 2 (y8 T)
 small : FnW T "_law_small" 1 8 (wt T)
structure Few (m : Int) (rs : Rd2) : Prop where
 n : Net m rs
 m3 : m <= 3
 len : rs.length <= 7
 room : zci (degs m rs) <= 63
def smQ (J : zb) (K : Out -> zM -> zb -> Prop) : Prop := ∀ t c J' m rs Z, Ext J J' -> J' t = some (.tup [.int m, .ref c]) -> zQ J' c rs -> Few m rs -> K (.ret (.ref t)) Z J'
theorem Net.nn {m : Int} {rs : Rd2} (n : Net m rs) : ∀ p ∈ rs, 0 <= p.1 /\ 0 <= p.2 := fun p hp => ⟨(n.ends p hp).1.1, (n.ends p hp).2.1.1⟩
theorem qN.lst {J a ns} {k : List V -> Prop} (h : qN J a ns) (hk : k (zs ns)) : wg J a k := h.1.elim (fun h => by rw [zmM h]; exact hk) fun h => ja h hk
theorem znV (F : zlV T) {JA : zb} {m : Int} {s rp : Addr} {ns : List Int} {B : Rd2} {o2 o3 o4 o6 o7 o8 : Option V} {K : Out -> zM -> zb -> Prop} (e0 : Ext JA J) (hs : qN J s ns) (hr : zQ J rp B) (W : Few m B) (hq : smQ JA K) :
  yD T (d + 1) [some (.ref s), some (.ref rp), o2, o3, o4, some (.int m), o6, o7, o8] J K P := by
 have n := W.n
 unfold yD
 simp only [zG, zV, wf, zaM, jf, qG, zL, zB, zK, zv, qo, zg, zf]
 refine qq F.L.cell hs (by decide) (by decide) fun J1 e1 => ?_
 simp only [zd, ze]
 obtain ⟨vs, hv1, hv2⟩ := hr.ext e1
 refine ⟨⟨by decide, zjy (by decide)⟩, zS hv1 ?_⟩
 rw [hv2.length]
 have hne : (B.length : Int) + 1 ≠ 0 := by exact (fun h_ => lif r1 [(2,1,.add V0 N1,N0),(0,1,N0,V0)] rfl h_ (nnI _))
 have a0 := ka1 ((qw ns 19).fdiv 5) (b := (B.length : Int) + 1) (by exact lit r1 N0 (.add V0 N1) [(0,1,N0,V0)] rfl (nnI _))
 refine ⟨hne, ?_⟩
 generalize ((qw ns 19).fdiv 5).fmod ((B.length : Int) + 1) = at' at a0
 simp only [zp, zq, j3, zcM, zB, zK, zcX, zbK, zc8, zv, zg, zf, ze, zd]
 refine ⟨a0, ja hv1 (zh fun c1 J2 hc1 e2 hw1 => ⟨a0, ja (e2 _ _ hv1) (zh fun c2 J3 hc2 e3 hw2 => zE (e3 _ _ hw1) (zE hw2 ⟨?_, zh fun c3 J4 hc3 e4 hw3 => ⟨by simp [lim], zh fun t J5 ht e5 htv => ?_⟩⟩))⟩)⟩
 ·rw [wF, hv2.length]
  have := W.len
  unfold lim; exact leN (lin r1 V0 (.num 1000000) [(0,1,V0,.num 7)] rfl (leI this))
 have e25 : Ext J1 J5 := (e2.trans e3).trans (e4.trans e5)
 have hmem : ∀ p, p ∈ B.drop at'.toNat ++ B.take at'.toNat ↔ p ∈ B := fun p => by
  rw [kau, or_comm, <- kau, kbA]
 have hlen : (B.drop at'.toNat ++ B.take at'.toNat).length = B.length := (kam).trans (wF B _)
 have n' : Net m (B.drop at'.toNat ++ B.take at'.toNat) := n.of (by rw [hlen]; exact n.len) (fun e he => (hmem e).mp he) (fun e he => (hmem e).mpr he) n.conn
 refine hq t c3 J5 m _ _ (e0.trans (e1.trans e25)) htv ⟨_, e5 _ _ hw3, ((hv2.drop _).append (hv2.take _)).ext e25⟩ ⟨n', W.m3, by rw [hlen]; exact W.len, ?_⟩
 have hd : degs m (B.drop at'.toNat ++ B.take at'.toNat) = degs m B := by
  rw [jZ n.m0 n.nn, jZ n'.m0 n'.nn]
  refine zaA fun v _ => ?_
  rw [zje, Int.add_comm, <- zje, kbA]
 rw [hd]; exact W.room
theorem znW (F : zlV T) {JA : zb} {m : Int} {s rp wh : Addr} {ns : List Int} {W qs : Rd2} {o2 o3 o4 o7 o8 : Option V} {K : Out -> zM -> zb -> Prop} (e0 : Ext JA J) (hs : qN J s ns) (n : Net m W) (hm3 : m <= 3) (hr : zQ J rp qs) (hw : zQ J wh W) (hl : (qs.length : Int) = m) (hsub : ∀ e ∈ qs, e ∈ W) (hc : ∀ q, 0 <= q -> q < m -> jl qs m q) (hq : smQ JA K) :
  wN T (d + 2) [some (.ref s), some (.ref rp), o2, o3, o4, some (.int m), some (.ref wh), o7, o8] J K P := by
 have hm := n.m0
 unfold wN
 simp only [zG, zV, zcX, zc8, wf, zL, zB, zK, zv, qo, zg, zf]
 refine qq F.L.cell hs (by decide) (by decide) fun J1 e1 => ?_
 simp only [zd, ze]
 obtain ⟨vs, hv1, hv2⟩ := hr.ext e1
 obtain ⟨us, hu1, hu2⟩ := hw.ext e1
 have z5 := jE (a := qw ns 19) (b := 5) (by decide)
 generalize (qw ns 19).fmod 5 = k at z5
 refine ⟨by decide, z5.1, ja hu1 (zh fun c1 J2 hc1 e2 hw1 => zE (e2 _ _ hv1) (zE hw1 ⟨?_, zh fun c2 J3 hc2 e3 hw2 => ?_⟩))⟩
 ·have := kcM k.toNat us
  rw [hv2.length]; unfold lim; exact leN (lin r5 (.add V0 V1) (.num 1000000) [(0,1,V2,.num 3),(2,1,V0,V2),(1,1,V3,.num 5),(0,1,V1,V4),(2,1,V4,V3)] rfl hm3 hl z5.2 (leI this) (tnn (z5.1)))
 simp only [zp, zq, zbC]
 have e23 := e2.trans e3
 have e13 := e1.trans e23
 have hB : zQ J3 c2 (qs ++ W.take k.toNat) := ⟨_, hw2, (hv2.append (hu2.take _)).ext e23⟩
 have hBl : (qs ++ W.take k.toNat).length <= 7 := by
  have := kcM k.toNat W
  rw [kam]; exact leN (lin r5 (.add V0 V1) (.num 7) [(0,1,V2,.num 3),(2,1,V0,V2),(1,1,V3,.num 5),(0,1,V1,V4),(2,1,V4,V3)] rfl hm3 hl z5.2 (leI this) (tnn (z5.1)))
 have hBq : qs.length <= (qs ++ W.take k.toNat).length := by rw [kam]; exact leN (lin r2 V0 (.add V0 V1) [(0,1,N0,V1)] rfl (nnI _))
 have hsubB : ∀ e ∈ qs ++ W.take k.toNat, e ∈ W := fun e he => by
  rcases kau.mp he with h | h
  ·exact hsub e h
  ·exact kbw h
 have hnet : ∀ l, qs.length <= l -> Net m ((qs ++ W.take k.toNat).take l) := fun l hl' => n.of (qs := qs) (by rw [ka2]; lia) (fun e he => hsubB e (kbw he)) (fun e he => by
  rw [List.take_append, kbX hl']; exact kbp _ he) hc
 generalize hBe : qs ++ W.take k.toNat = B at hB hBl hBq hnet
 have fin : ∀ l rp' J', Ext J J' -> qs.length <= l -> zQ J' rp' (B.take l) -> zci (degs m (B.take l)) <= 63 -> yD T (d + 1 + 1) [some (.ref s), some (.ref rp'), o2, o3, o4, some (.int m), some (.ref wh), o7, o8] J' K P := fun l rp' J' e' hl' hr' hp =>
  znV F (e0.trans e') (hs.ext e') hr' ⟨hnet l hl', hm3, by rw [ka2]; lia, hp⟩ hq
 refine zcc (fun l Z J' => X2 fun rp' (_ : Unit) => A5 (Z = [some (.ref s), some (.ref rp'), o2, o3, o4, some (.int m), some (.ref wh), o7, o8]) (Ext J J') (zQ J' rp' (B.take l)) (qs.length <= l) (l <= B.length)) B.length ⟨c2, (), rfl, e13, by rw [kaL]; exact hB, hBq, kao _⟩ ?_
 intro l Z J' K' hI hK'
 obtain ⟨rp', _, rfl, e', hr', hl1, hl2⟩ := hI
 have hll : (B.take l).length = l := by rw [ka2]; lia
 obtain ⟨ws, hx1, hx2⟩ := id hr'
 simp only [zby, qH, qG, zv, qo, zL, zB, zK, zg, zf, ze, zd]
 refine zS hx1 ?_
 rw [hx2.length, hll]
 simp only [Cmp.run, zm]
 by_cases hgt : (l : Int) > m
 ·refine qD (decide_eq_true hgt) ?_
  refine zgS (d := d) F.L.degs F.room (hnet l hl1) hr' fun J'' e'' => ?_
  simp only [zd, zm]
  by_cases h48 : ((zci (degs m (B.take l)) : Nat) : Int) > 48
  ·refine qD (decide_eq_true h48) ?_
   unfold zaT
   simp only [zV, zlH, zv, zg, zf, ze]
   refine ja (e'' _ _ hx1) (zh fun c J5 hc' e5 hcv => ?_)
   simp only [zp, zq]
   refine hK' _ _ (l - 1) (by lia) ⟨c, (), rfl, e'.trans (e''.trans e5), ⟨_, hcv, ?_⟩, by lia, by lia⟩
   rw [show ws.length = l from hx2.length.trans hll]
   have := (hx2.take (l - 1)).ext (e''.trans e5)
   rwa [List.take_take, kc9 (kdf _ _)] at this
  ·refine qW (decide_eq_false h48) ?_
   exact fin l rp' J'' (e'.trans e'') hl1 (hr'.ext e'') (by exact leN (lin r1 V0 (.num 63) [(4,1,.num 48,V0)] rfl h48))
 ·refine qW (decide_eq_false hgt) ?_
  refine fin l rp' J' e' hl1 hr' ?_
  have hN := hnet l hl1
  have := zi0 (c := 3) (degs m (B.take l)) fun x hx => by
   rw [jZ hN.m0 hN.nn] at hx
   obtain ⟨v, _, rfl⟩ := kat.mp hx
   have := zf6 v (B.take l) fun p hp => (hN.ends p hp).2.2
   rw [hll] at this
   exact lin r3 V0 (.num 3) [(0,1,V1,.num 3),(4,1,V1,V2),(0,1,V0,V2)] rfl hm3 hgt this
  rw [jZ hN.m0 hN.nn, qy] at this
  rw [jZ hN.m0 hN.nn]
  have h3 : 3 ^ m.toNat <= 3 ^ 3 := kbh (by decide) (by exact leN (lin r2 V0 (.num 3) [(0,1,V1,.num 3),(2,1,V0,V1)] rfl hm3 (tnn (lin r2 N0 V0 [(4,1,V0,V1),(0,1,N0,V1)] rfl hgt (nnI _)))))
  exact leN (lin r2 V0 (.num 63) [(0,1,V0,V1),(0,1,V1,.num 27)] rfl (leI this) (leI h3))
theorem zjr (F : zlV T) {s : Addr} {ns : List Int} (hs : qN J s ns) (hq : ∀ t c J' m rs, Ext J J' -> J' t = some (.tup [.int m, .ref c]) -> zQ J' c rs -> Few m rs -> Q (.ref t) J') : zA T (d + 3) "_law_small" [.ref s] J Q P := by
 refine F.small (d + 2) _ _ _ _ rfl ?_
 unfold wt
 simp only [zG, zcH, zL, zB, zK, zcX, qV, wf, zbK, zv, qo, qf, qi, qe, zg, zf]
 refine qq F.L.cell hs (by decide) (by decide) fun J1 e1 => ?_
 have z4 := jE (a := qw ns 0) (b := 4) (by decide)
 simp only [zd, ze, kag, kaB]
 refine ⟨by decide, by simp [lim], zh fun l1 J2 hl1 e2 hv1 => ⟨by decide, ?_⟩⟩
 have e12 := e1.trans e2
 refine (hs.ext e12).lst (zh fun c J3 hc e3 hcv => zE (e3 _ _ hv1) (zE hcv ⟨?_, zh fun s' J4 hs' e4 hsv => ?_⟩))
 ·have := hs.2
  rw [kbN, qc]; simp [lim]; lia
 have e14 : Ext J J4 := e12.trans (e3.trans e4)
 have hS : qN J4 s' ((qw ns 0).fmod 4 :: ns.drop 1) := by
  refine ⟨.inr ?_, ?_⟩
  ·rw [hsv]; simp [zs]
  ·have := hs.2
   rw [kag, kbN]; lia
 refine zgV (d := d) F.L hS (kaK _) (by decide) fun t cw J5 m W e5 htv hW n hmB hm0 hcw => ?_
 have hm := n.m0
 have hm10 := n.m10
 have hm3 : m <= 3 := by
  have h1 : qw ((qw ns 0).fmod 4 :: ns.drop 1) 0 = (qw ns 0).fmod 4 := by
   unfold qw
   rw [if_pos (by rw [kag]; exact lit r1 N0 (.add V0 N1) [(0,1,N0,V0)] rfl (nnI _))]; rfl
  rw [hm0 rfl, h1]
  generalize (qw ns 0).fmod 4 = c at z4
  rw [kbo _ (by decide), kcF z4.1 (by exact lit r1 V0 (.num 6) [(1,1,V0,.num 4)] rfl z4.2)]
  exact lin r1 V0 (.num 3) [(1,1,V0,.num 4)] rfl z4.2
 have e15 := e14.trans e5
 refine wW htv ⟨rfl, ?_⟩
 simp only [yy, yx, zp, zq, zV, qV, zK, kaB, wV, qo, zv, zg, zf, zd]
 refine ⟨by simp [lim], zh fun ro J6 hro e6 hrov => zh fun me J7 hme e7 hmev => ?_⟩
 have e67 := e6.trans e7
 obtain ⟨ws, hw1, hw2⟩ := id hW
 have hme5 := e6.none hme
 refine zao hm hm10 (y9 rfl) (fun i Z J' => X6 fun ks qs o3 o4 o7 o8 => A6 (Z = [some (.ref s), some (.ref ro), some (.ref me), o3, o4, some (.int m), some (.ref cw), o7, o8]) (Ext J5 J') (J' me = some (.dict (dk ks))) (zQ J' ro qs) (Sm m W ks qs) (i + 1 <= ks.length \/ zbh W ks)) ⟨[m], [], _, _, _, _, rfl, e67, hmev, ⟨_, e7 _ _ hrov, .nil⟩, ⟨⟨by simp, kaf.mpr rfl, fun k hk => by rw [kaf.mp hk]; exact ⟨hm, kaK _⟩, fun k hk => by rw [kaf.mp hk]; exact .refl⟩, rfl, fun e he => by cases he⟩, .inl (kao _)⟩ ?_ ?_
 ·intro i Z J' K' hi hI hK'
  obtain ⟨ks, qs, o3, o4, o7, o8, rfl, e', hks, hqs, S, hcl⟩ := hI
  unfold zaS
  simp only [zp, zq, jz, jr, zv, zg, zf, ze]
  refine zO (e' _ _ hw1) ?_
  refine zI (fun j Z J'' => X3 fun qs o7 o8 => A5 (Z = [some (.ref s), some (.ref ro), some (.ref me), some (.int i), o4, some (.int m), some (.ref cw), o7, o8]) (Ext J5 J'') (J'' me = some (.dict (dk (mtL ks (W.take j))))) (zQ J'' ro qs) (Sm m W (mtL ks (W.take j)) qs)) ⟨qs, _, _, rfl, e', hks, hqs, S⟩ ?_ ?_
  ·intro j v Z J'' K'' hv hI hK''
   obtain ⟨qs', o7, o8, rfl, e'', hks', hqs', S'⟩ := hI
   obtain ⟨a, u, w, rfl, hrs, hta⟩ := hw2.get hv
   have hin := kaj hrs
   have hends := n.ends _ hin
   refine ⟨.inl (e'' _ _ hw1), ?_⟩
   simp only [y2, ze]
   refine wW (e'' _ _ hta) ⟨rfl, ?_⟩
   simp only [yy, yx, zp, zq]
   refine zl8 (e := (u, w)) e'' hme5 hro hks' hqs' S' hin ⟨hends.1, hends.2.1⟩ hm10 fun qs'' J8 e8 hk8 hq8 S8 => hK'' .next _ _ ⟨qs'', _, _, rfl, e8, ?_, hq8, ?_⟩
   ·rw [qT hrs, zfZ]; exact hk8
   ·rw [qT hrs, zfZ]; exact S8
  ·rintro Z J'' ⟨qs', o7, o8, rfl, e'', hks', hqs', S'⟩
   rw [hw2.length, kaL] at hks' S'
   refine ⟨.inl (e'' _ _ hw1), hK' _ _ ⟨_, qs', _, _, _, _, rfl, e'', hks', hqs', S', ?_⟩⟩
   rcases zi5 W ks with ⟨h1, h2⟩ | h1
   ·rw [h1]; exact .inr h2
   ·rcases hcl with h3 | h3
    ·exact .inl (by exact kaI ‹_› ‹_›)
    ·rw [zcP _ h3]; exact .inr h3
 ·rintro Z J' ⟨ks, qs, o3, o4, o7, o8, rfl, e', hks, hqs, S, hcl⟩
  obtain ⟨h1, h2⟩ := S.done n hcl
  exact znW (JA := J) (d := d) F (e15.trans e') (hs.ext (e15.trans e')) n hm3 hqs (hW.ext e') h1 S.sub h2 fun t c J' m rs _ => hq t c J' m rs
end
noncomputable def dL (n : List Int) : PyData := .list (n.map .int)
theorem Lls.rd {J vs ns} (h : Lls J vs ns) : Rds J vs (ns.map dL) := by
 induction h with
 | nil => exact .nil
 | cons h1 _ ih => exact .cons h1.rd ih
theorem zkf (a b : List Int) : PyData.eqv (dL a) (dL b) = decide (a = b) := by
 simp only [dL, PyData.eqv]; exact zaL a b
theorem zg2 : ∀ ns ms : List (List Int), PyData.eqvAll (ns.map dL) (ms.map dL) = decide (ns = ms)
 | [], [] => rfl
 | [], _ :: _ => rfl
 | _ :: _, [] => rfl
 | a :: r, b :: q => by
  simp only [kaO, PyData.eqvAll, zkf, zg2 r q]
  rw [kaS]; simp
theorem zd2 : ∀ ns : List (List Int), PyData.canLayAll0 (ns.map dL) = true
 | [] => rfl
 | a :: r => by simp [PyData.canLayAll0, PyData.canLay0, dL, zb2, zd2 r]
theorem zf5 : ∀ ns : List (List Int), PyData.depthAll (ns.map dL) <= 60
 | [] => by simp [PyData.depthAll]
 | a :: r => by
  have := zf5 r
  simp only [kaO, PyData.depthAll, dL, PyData.depth, zfz]
  lia
theorem zgR (ns : List (List Int)) : SeqAt.shaped (.list (ns.map dL)) = true := by
 have := zf5 ns
 simp [SeqAt.shaped, PyData.canLay0, PyData.depth, zd2]
 exact leN (lin r1 V0 (.num 63) [(0,1,V0,.num 60)] rfl (leI this))
theorem Eqv.ll {J a b vs ns ws ms} {k : Bool -> Prop} (ha : J a = some (.list vs)) (hv : Lls J vs ns) (hb : J b = some (.list ws)) (hw : Lls J ws ms) (hk : k (decide (ns = ms))) : Eqv J (.ref a) (.ref b) k :=
 ⟨_, _, .list ha hv.rd, .list hb hw.rd, zgR _, zgR _, by simpa [PyData.eqv, zg2] using hk⟩
noncomputable def tb (s : Nat) (f : Nat -> Nat -> Int) : List (List Int) := (kaa s).map fun i => lst s (f i)
theorem zm2 {s : Nat} {f : Nat -> Nat -> Int} {i : Nat} (h : i < s) : (tb s f)[i]? = some (lst s (f i)) := by simp [tb, h]
theorem zf9 (s f) : (tb s f).length = s := by simp [tb]
theorem zoe {s k : Nat} (hk : k <= s) (g : Nat -> Int) : (lst (s + 1) g).take k ++ (lst (s + 1) g).drop (k + 1) = lst s fun j => g (skp k j) := by
 obtain ⟨q, e1, e2⟩ := zgT hk
 have h1 : lst (s + 1) g = (kaa k).map g ++ g k :: q.map g := by unfold lst; rw [e1, ka0, kaO]
 have h2 : (lst s fun j => g (skp k j)) = (kaa k).map g ++ q.map g := by
  unfold lst
  rw [<- ka0, <- e2, kbB]; rfl
 have hl : ((kaa k).map g).length = k := by simp
 rw [h1, h2, List.take_append_of_le_length (by rw [hl]; exact kao _), kbX (by rw [hl]; exact kao _), List.drop_append, hl, List.drop_of_length_le (by rw [hl]; exact kce _), Nat.add_sub_cancel_left]
 rfl
theorem zkr (s : Nat) (f : Nat -> Nat -> Int) : (tb (s + 1) f).drop 1 = (kaa s).map fun i => lst (s + 1) (f (i + 1)) := by
 unfold tb
 rw [kdi, kaO, List.drop_one, List.tail_cons, kbB]; rfl
theorem Lls.drop {J vs ns} (h : Lls J vs ns) (k : Nat) : Lls J (vs.drop k) (ns.drop k) := by
 induction h generalizing k with
 | nil => rw [kcQ, kcQ]; exact .nil
 | cons h1 h2 ih =>
  cases k with
  | zero => exact .cons h1 h2
  | succ k => exact ih k
theorem znb : 2 ^ 120 < 2 ^ 700 := by decide +kernel
theorem zqT : 2 ^ 500 < 2 ^ 700 := by decide +kernel
theorem zqS : 1 < 2 ^ 700 := by decide +kernel
def Sml (s : Nat) (f : Nat -> Nat -> Int) : Prop := ∀ i j, i < s -> j < s -> (f i j).natAbs <= 2 ^ 120
theorem zmw {s : Nat} {f : Nat -> Nat -> Int} (hs : s <= 4) (h : Sml s f) : (dt s f).natAbs < 2 ^ 500 := by
 have h1 := zap (B := 2 ^ 120) (N := 4) (kaa s) ((kaa s).map f) (fun r hr c hc => by
  obtain ⟨i, hi, rfl⟩ := kat.mp hr
  exact h i c (kan.mp hi) (kan.mp hc)) (by simpa using hs)
 rw [kbc] at h1
 have h2 : (4 * 2 ^ 120) ^ s <= (4 * 2 ^ 120) ^ 4 := kbh (by decide) hs
 have h3 : (4 * 2 ^ 120) ^ 4 < 2 ^ 500 := by decide +kernel
 exact kaI (kap h1 h2) h3
theorem zm4 {k s j : Nat} (h : j < s) : skp k j < s + 1 := by unfold skp; split <;> (first | exact ltN (lit r2 V0 (.add V1 N1) [(1,1,V0,V1)] rfl (ltI h)) | exact ltN (lit r2 (.add V0 N1) (.add V1 N1) [(1,1,V0,V1)] rfl (ltI h)))
section
variable {T : TC} {d : Nat} {J : zb} {Q : V -> zb -> Prop} {P : Nat -> zb -> Prop}
noncomputable def zh6 (s : Nat) (f : Nat -> Nat -> Int) (k : Nat) : Int := sgn k * f 0 k * dt s fun i j => f (i + 1) (skp k j)
theorem zpD {s : Nat} (hs : s + 1 <= 4) {a : Addr} {vs : List V} {f : Nat -> Nat -> Int} {k : Nat} (hk : k <= s) {x : Int} {o3 o4 : Option V} {K : Out -> zM -> zb -> Prop} (hL : LL J a vs (tb (s + 1) f)) (hB : Sml (s + 1) f)
  (ih : ∀ {J : zb} {Q : V -> zb -> Prop} {a : Addr} {vs : List V}, LL J a vs (tb s fun i j => f (i + 1) (skp k j)) -> (∀ J', Ext J J' -> Q (.int (dt s fun i j => f (i + 1) (skp k j))) J') -> zA T d "_law_expanded" [.ref a] J Q P)
  (hK : ∀ o3 o4 J', Ext J J' -> K .next [some (.ref a), some (.int (x + zh6 s f k)), some (.int k), o3, o4] J') :
  yi T d [some (.ref a), some (.int x), some (.int k), o3, o4] J K P := by
 have hvl := hL.all.length
 rw [zf9] at hvl
 have h0 : vs[0]? = some vs[0] := kac (by exact ltN (lit (@r2 (↑(vs.length)) (↑(s))) N0 V0 [(2,-1,V0,.add V1 N1),(0,1,N0,V1)] rfl (eqI hvl) (nnI _)))
 obtain ⟨r0, n0, hr0, hn0, hr0i⟩ := hL.all.get h0
 rw [zm2 (kdl _)] at hn0
 cases hn0
 have hb0 := hB 0 k (kdl _) (by exact ltN (lit r2 V0 (.add V1 N1) [(0,1,V0,V1)] rfl (leI hk)))
 unfold yi
 simp only [je, qH, qA, zv, qo, zg, zf, ze, zd]
 refine ⟨kaK _, qx hL.head (yk (i := 0) h0 ?_)⟩
 rw [hr0]
 have hrow : ∀ {J' : zb} {k' : V -> Prop}, Ext J J' -> k' (.int (f 0 k)) -> (0 : Int) <= k /\ yE J' r0 fun xs => yR xs (k : Int).toNat k' := fun e hk' => L.at (hr0i.ext e : L _ r0 (s + 1) (f 0)) (nnI _) (by exact lit r2 V0 (.add V1 N1) [(0,1,V0,V1)] rfl (leI hk)) (by rw [kai]; exact hk')
 refine hrow .refl ?_
 simp only [Cmp.run, zd, zm]
 by_cases hz : f 0 k = 0
 ·refine qW (by rw [hz]; rfl) ?_
  refine cast (congrArg (fun y => K .next [some (.ref a), some (.int y), some (.int k), o3, o4] J) ?_) (hK o3 o4 J .refl)
  unfold zh6
  rw [hz, kca, kc0, kbJ]
 ·refine qD (bne_iff_ne.mpr hz) ?_
  simp only [zG, zV, qX, jr, zbK, zv, qo, zg, zf, ze, zd]
  refine ⟨by decide, ja hL.head (zh fun t J1 ht e1 htv => ?_)⟩
  simp only [ze]
  refine zO htv ⟨?_, ?_⟩
  ·rw [kbN]; unfold lim; lia
  have hD := (hL.all.drop 1).ext e1
  rw [zkr] at hD
  refine qj (fun i acc J' => Ext J1 J' /\ Lls J' acc ((kaa i).map fun i => lst s fun j => f (i + 1) (skp k j))) ⟨.refl, .nil⟩ ?_ ?_
  ·rintro i v acc J' K' hv ⟨e2, hA⟩ hK'
   refine ⟨.inl (e2 _ _ htv), ?_⟩
   obtain ⟨b, n, rfl, hn, hb⟩ := hD.get hv
   have hi : i < s := by
    have := (kae.mp hn).1
    simpa using this
   rw [kaJ, kcn hi] at hn
   cases hn
   have hb' : J' b = some (.list (zs (lst (s + 1) (f (i + 1))))) := hb.ext e2
   simp only [qv, if_true, zp, zq, zcX, zc8, zbK, jf, zv, qo, zg, zf, ze, zd]
   refine ⟨nnI _, ja hb' (zh fun c1 J2 hc1 e3 hw1 => ⟨by exact nnI _, ja (e3 _ _ hb') (zh fun c2 J3 hc2 e4 hw2 => zE (e4 _ _ hw1) (zE hw2 ⟨?_, zh fun c3 J4 hc3 e5 hw3 => hK' _ _ ⟨e2.trans ((e3.trans e4).trans e5), ?_⟩⟩))⟩)⟩
   ·refine kap (Nat.add_le_add (List.length_take_le' ..) (kbN .. ▸ kdf ..)) ?_
    rw [qc, qy]; unfold lim; omega
   ·rw [kaT, ka0]
    refine (hA.ext ((e3.trans e4).trans e5)).app (.cons ?_ .nil)
    show J4 c3 = some (.list (zs (lst s fun j => f (i + 1) (skp k j))))
    rw [hw3, show ((k : Int) + 1).toNat = k + 1 by rfl, kai, <- zoe hk]
    unfold zs
    rw [ka0, List.map_take, List.map_drop]
  ·rintro acc J' ⟨e2, hA⟩
   refine ⟨.inl (e2 _ _ htv), zh fun le J2 hle e3 hlev => ?_⟩
   have e13 := e1.trans (e2.trans e3)
   have hlen : (vs.drop (kcE 1)).length = s := by rw [kbN]; show vs.length - 1 = s; lia
   rw [hlen] at hA
   simp only [zp, zq, jf, zdr, qA, qV, zB, zjA, zK, wf, zL, zv, qo, zg, zf, ze, zd, kag, kaB]
   refine ⟨by simp [lim], zh fun l2 J3 hl2 e4 hl2v => ⟨by decide, ?_⟩⟩
   have hk2 : ((k : Int)).fmod 2 = ((k % 2 : Nat) : Int) := by rw [kbo _ (by decide)]; rfl
   have hsg : ([V.int 1, V.int (-1)] : List V)[(((k : Int)).fmod 2).toNat]? = some (.int (sgn k)) := by
    rw [hk2, kai]
    unfold sgn
    rcases kdb k with h | h <;> rw [h] <;> rfl
   refine ⟨by rw [hk2]; exact nnI _, qx hl2v (yk hsg ?_)⟩
   have e14 := e13.trans e4
   refine ⟨kaK _, qx (e14 _ _ hL.head) (yk (i := 0) h0 ?_)⟩
   rw [hr0]
   refine hrow e14 ?_
   simp only [zd]
   have hsg1 : (sgn k).natAbs = 1 := by unfold sgn; split <;> rfl
   refine ⟨zaf (by rw [hsg1]; exact zqS) (kaI hb0 znb), ?_⟩
   refine ih ⟨e4 _ _ hlev, hA.ext (e3.trans e4)⟩ fun J4 e5 => ?_
   simp only [zd]
   have hbd := zmw (s := s) (f := fun i j => f (i + 1) (skp k j)) (by exact kaX ‹_›) fun i j hi hj => hB (i + 1) (skp k j) (by exact ltN (lit r2 (.add V0 N1) (.add V1 N1) [(1,1,V0,V1)] rfl (ltI hi))) (zm4 hj)
   refine ⟨zaf (by rw [kd5, hsg1, Nat.one_mul]; exact kaI hb0 znb) (kcX hbd zqT), ?_⟩
   exact hK _ _ _ (e14.trans e5)
theorem zgs (h : FnW T "_law_expanded" 1 4 (qO T)) : ∀ (s : Nat) {J : zb} {Q : V -> zb -> Prop} {P : Nat -> zb -> Prop} {a : Addr} {vs : List V} {f : Nat -> Nat -> Int}, s <= 4 -> LL J a vs (tb s f) -> Sml s f -> (∀ J', Ext J J' -> Q (.int (dt s f)) J') -> zA T (d + s + 1) "_law_expanded" [.ref a] J Q P := by
 intro s
 induction s with
 | zero =>
  intro J Q P a vs f _ hL hB hq
  refine h (d + 0) _ _ _ _ rfl ?_
  unfold qO
  simp only [zG, je, zjM, qV, zK, zv, qf, qi, qe, zg, zf, kaB]
  refine ⟨by simp [lim], zh fun c J1 hc e1 hcv => Eqv.ll (e1 _ _ hL.head) (hL.all.ext e1) hcv .nil ?_⟩
  simp only [kad, if_false, zm]
  refine qD (decide_eq_true rfl) ?_
  simp only [j3, qo]
  exact hq J1 e1
 | succ s ih =>
  intro J Q P a vs f hs hL hB hq
  refine h (d + (s + 1)) _ _ _ _ rfl ?_
  unfold qO
  have hvl := hL.all.length
  rw [zf9] at hvl
  simp only [zG, je, zjM, qV, zK, zv, qf, qi, qe, zg, zf, kaB]
  refine ⟨by simp [lim], zh fun c J1 hc e1 hcv => Eqv.ll (e1 _ _ hL.head) (hL.all.ext e1) hcv .nil ?_⟩
  simp only [kad, if_false, zm]
  refine qW (decide_eq_false fun e => ?_) ?_
  ·have := congrArg kby e
   rw [zf9] at this; simp at this
  simp only [qC, zV, qo, zp, zq, jz, jL, qG, zv, zg, zf, ze]
  refine zS (e1 _ _ hL.head) ?_
  rw [hvl]
  simp only [zd]
  refine ⟨by unfold small; omega, ?_⟩
  rw [kai]
  refine zI (fun k Z J' => X3 fun o2 o3 o4 => Z = [some (.ref a), some (.int (zZ (kaa k) (zh6 s f))), o2, o3, o4] /\ Ext J J') ⟨_, _, _, rfl, e1⟩ ?_ ?_
  ·intro k v Z J' K' hv hI hK
   obtain ⟨o2, o3, o4, rfl, e'⟩ := hI
   obtain ⟨hk, rfl⟩ := qI hv
   refine ⟨trivial, ?_⟩
   simp only [ql, zp, zq, kbi]
   have e : zZ (kaa (k + 1)) (zh6 s f) = zZ (kaa k) (zh6 s f) + zh6 s f k := by
    rw [kaT, zb3]
    simp only [zZ, kbJ]
   refine zpD hs (kbz hk) (hL.ext e') hB (fun {J Q a vs} hL' hq' => ih (by exact kaX ‹_›) hL' (fun i j hi hj => hB (i + 1) (skp k j) (by exact ltN (lit r2 (.add V0 N1) (.add V1 N1) [(1,1,V0,V1)] rfl (ltI hi))) (zm4 hj)) hq') fun o3 o4 J'' e'' => hK .next _ _ ⟨some (.int k), o3, o4, by rw [e], e'.trans e''⟩
  ·rintro Z J' ⟨o2, o3, o4, rfl, e'⟩
   refine ⟨trivial, ?_⟩
   simp only [j3, zv, zg, zf]
   rw [z9]
   have := hq J' e'
   rw [zpF] at this
   exact this
end
end Mine
end
section
open PySem
namespace Mine
noncomputable def Ek (R : List Row) (k i j : Nat) : Int := Vk k R (R.getD (k + i) fun _ => 0) (k + j)
theorem zoO (R : List Row) (i j : Nat) : Ek R 0 i j = R.getD i (fun _ => 0) j := by
 unfold Ek
 rw [zk3, kb8, kb8]
theorem zkS {R : List Row} {k : Nat} (h : k < R.length) : R[k]? = some (R.getD k fun _ => 0) := by
 rw [kas, kac h]; rfl
theorem zqE {R : List Row} {k : Nat} (h : k < R.length) : Ek R k 0 0 = pk (k + 1) R := (zhG (zkS h)).symm
theorem zoP {R : List Row} {k : Nat} (h : k < R.length) (hp : 0 < pk k R) (i j : Nat) : (Ek R k (i + 1) (j + 1) * Ek R k 0 0 - Ek R k (i + 1) 0 * Ek R k 0 (j + 1)).fdiv (pk k R) = Ek R (k + 1) i j := by
 have := zgQ (zkS h) (R.getD (k + (i + 1)) fun _ => 0) (k + (j + 1)) (kbR hp)
 show (Vk k R _ _ * Vk k R _ _ - Vk k R _ _ * Vk k R _ _).fdiv _ = _
 rw [show k + 0 = k from rfl, <- this, kdF _ (kbR hp)]
 unfold Ek
 rw [show k + (i + 1) = k + 1 + i by exact eqN (liq (@r2 (↑(k)) (↑(i))) (.add V0 (.add V1 N1)) (.add (.add V0 N1) V1) [] rfl), show k + (j + 1) = k + 1 + j by exact eqN (liq (@r2 (↑(k)) (↑(j))) (.add V0 (.add V1 N1)) (.add (.add V0 N1) V1) [] rfl)]
theorem zm0 {R : List Row} {k : Nat} (hk : k <= 9) (hR : ∀ i j, ((R.getD i fun _ => 0) j).natAbs <= 80) (i j : Nat) : (Ek R k i j).natAbs <= 2 ^ 120 := by
 have hm : ∀ r ∈ R, ∀ c, (r c).natAbs <= 80 := fun r hr c => by
  obtain ⟨u, hu, rfl⟩ := kaV hr
  have := hR u c
  rwa [kas, kac hu] at this
 have h1 := zap (B := 80) (N := 10) (kaa k ++ [k + j]) (R.take k ++ [R.getD (k + i) fun _ => 0]) (fun r hr c _ => by
  rcases kau.mp hr with hr | hr
  ·exact hm r (kbw hr) c
  ·rw [kaf.mp hr]; exact hR _ _) (by rw [kam, ka2, ka3]; lia)
 rw [kam, kbc, ka3] at h1
 have h2 : (10 * 80) ^ (k + 1) <= (10 * 80) ^ 10 := kbh (by decide) (by exact leN (lin r1 (.add V0 N1) (.num 10) [(0,1,V0,.num 9)] rfl (leI hk)))
 exact kap h1 (kap h2 (by decide +kernel))
theorem Lls.keep {J : zb} {le : Addr} {o : O} : ∀ {bs : List Addr} {ns : List (List Int)}, Lls J (bs.map V.ref) ns -> le ∉ bs -> Lls (put J le o) (bs.map V.ref) ns := by
 intro bs
 induction bs with
 | nil => intro ns h _; cases h; exact .nil
 | cons b bs ih =>
  intro ns h hn
  cases h with
  | cons h1 h2 =>
   refine .cons ?_ (ih h2 fun h => hn (kal _ h))
   show put J le o b = _
   rw [zY _ (by rintro rfl; exact hn (kaq ..))]
   exact h1
section
variable {T : TC} {d : Nat} {J : zb} {Q : V -> zb -> Prop} {P : Nat -> zb -> Prop}
theorem zmB {JA : zb} {R : List Row} {k s i : Nat} {rp tp le rw' : Addr} {bs : List Addr} {o5 : Option V} {K : Out -> zM -> zb -> Prop} (hk : k < R.length) (hp : 0 < pk k R) (hpb : pk k R < 2 ^ 63) (hs : s <= 10) (hB : ∀ i j, (Ek R k i j).natAbs <= 2 ^ 120) (e0 : Ext JA J) (hle0 : JA le = none)
  (htp : L JA tp (s + 1) (Ek R k 0)) (hrw : L JA rw' (s + 1) (Ek R k (i + 1))) (hle : J le = some (.list (bs.map V.ref))) (hbs : bs.length = i) (hi : i <= 10) (hn : le ∉ bs) (hl : Lls J (bs.map V.ref) ((kaa i).map fun i => lst s (Ek R (k + 1) i)))
  (hK : ∀ (bs' : List Addr) (o5 : Option V) J', Ext JA J' -> (∀ x o, x ≠ le -> J x = some o -> J' x = some o) -> J' le = some (.list (bs'.map V.ref)) -> bs'.length = i + 1 -> le ∉ bs' -> Lls J' (bs'.map V.ref) ((kaa (i + 1)).map fun i => lst s (Ek R (k + 1) i)) -> K .next [some (.ref rp), some (.int (pk k R)), some (.ref tp), some (.ref le), some (.ref rw'), o5] J') :
  jB T d [some (.ref rp), some (.int (pk k R)), some (.ref tp), some (.ref le), some (.ref rw'), o5] J K P := by
 unfold jB
 simp only [yS, zey, qX, zcq, qG, zv, qo, zg, zf, ze]
 rw [zar hle]
 have htp' := htp.ext e0
 have hrw' := hrw.ext e0
 refine ⟨trivial, zS htp' ?_⟩
 rw [qc, qy]
 simp only [zd]
 refine ⟨by unfold small; decide, by unfold small; omega, by rw [z9]; unfold lim; exact leN (lin r2 V0 (.num 1000000) [(0,1,V1,.num 10),(2,1,V0,.sub (.add V1 N1) N1)] rfl (leI hs) (tnn (lin r1 N0 (.sub (.add V0 N1) N1) [(0,1,N0,V0)] rfl (nnI _)))), ?_⟩
 rw [show (((s + 1 : Nat) : Int) - 1).toNat = s by exact eqN (liq r2 V0 V1 [(2,1,V0,.sub (.add V1 N1) N1)] rfl (tnn (lin r1 N0 (.sub (.add V0 N1) N1) [(0,1,N0,V0)] rfl (nnI _))))]
 refine qj (fun j acc J' => acc = zs (lst j (Ek R (k + 1) i)) /\ J' = J) ⟨rfl, rfl⟩ ?_ ?_
 ·rintro j v acc J' K' hv ⟨rfl, rfl⟩ hK'
  obtain ⟨hj, rfl⟩ := qI hv
  refine ⟨trivial, ?_⟩
  have hj1 : (1 + (j : Int)).toNat = j + 1 := by exact eqN (liq r2 V0 (.add V1 N1) [(2,1,V0,.add N1 V1)] rfl (tnn (lin r1 N0 (.add N1 V0) [(0,1,N0,V0)] rfl (nnI _))))
  have b1 := kaI (hB (i + 1) (j + 1)) znb
  have b2 := kaI (hB 0 0) znb
  have b3 := kaI (hB (i + 1) 0) znb
  have b4 := kaI (hB 0 (j + 1)) znb
  simp only [qv, if_true, zp, zq, zaM, zav, zdr, qA, zv, qo, zg, zf, ze, zd]
  refine hrw'.at (by exact nnI _) (by exact lit r2 (.add N1 V0) (.add V1 N1) [(1,1,V0,V1)] rfl (ltI hj)) ?_
  refine htp'.at (kaK _) (by exact lit r1 N0 (.add V0 N1) [(0,1,N0,V0)] rfl (nnI _)) ?_
  refine ⟨zaf (by rw [hj1]; exact b1) b2, ?_⟩
  refine hrw'.at (kaK _) (by exact lit r1 N0 (.add V0 N1) [(0,1,N0,V0)] rfl (nnI _)) ?_
  refine htp'.at (by exact nnI _) (by exact lit r2 (.add N1 V0) (.add V1 N1) [(1,1,V0,V1)] rfl (ltI hj)) ?_
  rw [hj1]
  refine ⟨zaf b3 b4, ⟨kbR hp, zdq (kcX (show (pk k R).natAbs < 2 ^ 63 by lia) (by decide +kernel))⟩, ?_⟩
  refine hK' _ _ ⟨?_, rfl⟩
  rw [zb7, <- zc7, <- zoP hk hp i j]; rfl
 ·rintro acc J' ⟨rfl, rfl⟩
  refine ⟨trivial, zh fun c J1 hc e1 hcv => zE (e1 _ _ hle) ?_⟩
  rw [z9] at hcv
  have hcle : c ≠ le := Ne.symm (jt hle hc)
  refine ⟨by rw [kaC, hbs]; unfold lim; exact ltN (lit r1 V0 (.num 1000000) [(0,1,V0,.num 10)] rfl (leI hi)), ?_⟩
  have hb : bs.map V.ref ++ [V.ref c] = (bs ++ [c]).map V.ref := by rw [ka0]; rfl
  have hn' : le ∉ bs ++ [c] := fun h => by
   rcases kau.mp h with h | h
   ·exact hn h
   ·exact hcle (kaf.mp h).symm
  rw [hb]
  refine hK (bs ++ [c]) _ _ ((e0.trans e1).put hle0 _) (fun x o hx hxo => by rw [zY _ hx]; exact e1 _ _ hxo) (zz _ _ _) (by rw [kam, hbs]; rfl) hn' ?_
  refine Lls.keep ?_ hn'
  rw [<- hb, kaT, ka0]
  exact (hl.ext e1).app (.cons hcv .nil)
structure znK (T : TC) : Prop where
 exp : FnW T "_law_expanded" 1 4 (qO T)
 det : FnW T "_law_determinant" 1 5 (jo T)
theorem zly (F : znK T) {R : List Row} {k s : Nat} {rp : Addr} {vs : List V} {o2 o3 o4 o5 : Option V} {K : Out -> zM -> zb -> Prop} (hs : s <= 4) (hR : k + s = R.length) (hk : k <= 9) (hp : 0 < pk k R) (hpb : pk k R < 2 ^ 63) (h0 : s = 0 -> k = 0) (hB : ∀ i j, (Ek R k i j).natAbs <= 2 ^ 120) (hL : LL J rp vs (tb s (Ek R k)))
  (hK : ∀ Z J', Ext J J' -> K (.ret (.int (det (kaa R.length) R))) Z J') :
  ji (zdF (zD T (d + 5) "_law_expanded" (zi (loc 0) zF)) (z8 (qF (zi (val (.int 1)) (zi (loc 1) (zi (zna (loc 1) (val (.int 2))) (zi (zna (loc 1) (val (.int 3))) zF))))) (zjD (val (.int 0)) (zbR (j5 (loc 0)) (val (.int 1))))))
   [some (.ref rp), some (.int (pk k R)), o2, o3, o4, o5] J K P := by
 have hvl := hL.all.length
 rw [zf9] at hvl
 simp only [j3, zaM, zL, zB, zK, zv, zg, zf]
 rw [show d + 5 = d + (4 - s) + s + 1 by lia]
 refine zgs (d := d + (4 - s)) F.exp s hs hL (fun i j _ _ => hB i j) fun J1 e1 => ?_
 simp only [qA, qV, zB, zK, zqb, qo, zv, zg, zf, zd, ze, zeC, zav, qG, kag, kaB]
 have pow : ∀ b : Int, 0 < b -> b <= 3 -> zkk (pk k R) b := fun b hb hb3 => by
  refine ⟨hb, ?_⟩
  by_cases h1 : pk k R = 1
  ·exact .inl h1
  ·refine .inr ⟨hb, by exact (wT (lin r1 N1 V0 [(1,1,N0,V0)] rfl hp) (Ne.symm h1)), ?_⟩
   have h2 := zhZ (x := pk k R) (k := 63) (by lia)
   have h3 : ((Builtin.Int.intBits (pk k R) : Nat) : Int) * b <= 63 * 3 := kd6 (by exact (leI h2)) hb3 (kaF hb) (by decide)
   unfold Builtin.Int.intTooBig
   have h4 : (63 * 3 : Int) <= bitsLine := by decide +kernel
   simp only [decide_eq_true_eq]
   exact (fun h_ => lif r2 [(0,1,V0,.mulL 63 (.num 3)),(0,1,.mulL 63 (.num 3),V1),(1,1,V1,V0)] rfl h3 h4 h_)
 refine ⟨pow 2 (by decide) (by decide), pow 3 (by decide) (by decide), by simp [lim], zh fun l J2 hl e2 hlv => ?_⟩
 refine zS (e2 _ _ (e1 _ _ hL.head)) ?_
 rw [hvl]
 have hget : ([V.int 1, V.int (pk k R), V.int (pk k R ^ kcE 2), V.int (pk k R ^ kcE 3)] : List V)[(if (s : Int) - 1 > 0 then (s : Int) - 1 else 0).toNat]? = some (.int (pk k R ^ (s - 1))) := by
  have : s = 0 \/ s = 1 \/ s = 2 \/ s = 3 \/ s = 4 := by lia
  rcases this with rfl | rfl | rfl | rfl | rfl
  ·show some (V.int 1) = some (.int (pk k R ^ 0)); rw [kds]
  ·show some (V.int 1) = some (.int (pk k R ^ 0)); rw [kds]
  ·show some (V.int (pk k R)) = some (.int (pk k R ^ 1)); rw [kbI, kds, kb0]
  ·rfl
  ·rfl
 refine ⟨by split <;> (first | exact kaF ‹_› | decide), qx hlv (yk hget ?_)⟩
 simp only [zd]
 have hpp : 0 < pk k R ^ (s - 1) := kcO hp
 have hq : (dt s (Ek R k)).fdiv (pk k R ^ (s - 1)) = det (kaa R.length) R := by
  by_cases hs0 : s = 0
  ·have hk0 := h0 hs0
   subst hs0; subst hk0
   have : R = [] := kaA (by exact Eq.symm ‹_›)
   subst this
   rfl
  ·exact zmv rfl hR (by exact Nat.pos_of_ne_zero ‹_›) hp
 rw [hq]
 refine ⟨⟨kbR hpp, zdq ?_⟩, hK _ _ (e1.trans e2)⟩
 have h1 : (pk k R ^ (s - 1)).natAbs <= (2 ^ 63) ^ 3 := by
  rw [Int.natAbs_pow]
  exact kap (Nat.pow_le_pow_left (by lia) _) (kbh (by decide) (by lia))
 exact kaI h1 (by decide +kernel)
theorem Tab.ll {a : Addr} {n : Nat} {as : List Addr} {f : Nat -> Nat -> Int} (h : Tab J a n as f) : LL J a (as.map V.ref) (tb n f) := by
 refine ⟨h.head, ?_⟩
 have key : ∀ l : List Addr, (∀ (i : Nat) b, l[i]? = some b -> L J b n (f i)) -> Lls J (l.map V.ref) ((kaa l.length).map fun i => lst n (f i)) := by
  intro l
  rw [<- kcl l]
  induction l.reverse with
  | nil => exact fun _ => .nil
  | cons b l ih =>
   rw [kcy]
   generalize l.reverse = l at ih
   intro hh
   rw [ka0, kam, ka3, kaT, ka0]
   refine (ih fun i c hc => hh i c ?_).app (.cons (hh l.length b ?_) .nil)
   ·rw [ka6 (kae.mp hc).1]; exact hc
   ·rw [kbx (kao _), Nat.sub_self]; rfl
 have := key as h.row
 rwa [h.len] at this
theorem zl4 {s : Nat} {f g : Nat -> Nat -> Int} (h : ∀ i j, i < s -> j < s -> f i j = g i j) : tb s f = tb s g := by
 unfold tb
 exact kbd fun i hi => zaA fun j hj => h i j (kan.mp hi) hj
theorem zbI (F : znK T) {m : Int} {rs : Rd2} {a : Addr} {as : List Addr} (n : Net m rs) (ht : Tab J a m.toNat as (yF rs)) (hq : ∀ J', Ext J J' -> Q (.int (D m rs)) J') : zA T (d + 6) "_law_determinant" [.ref a] J Q P := by
 have hm := n.m0; have hm' := n.m10
 have hlen : (qm m rs).length = m.toNat := by simp [qm]
 have hget : ∀ i, i < m.toNat -> (qm m rs).getD i (fun _ => 0) = yF rs i := fun i hi => by
  rw [kas]; simp [qm, hi]
 have hR : ∀ i j, (((qm m rs).getD i fun _ => 0) j).natAbs <= 80 := fun i j => by
  by_cases hi : i < m.toNat
  ·rw [hget i hi]; exact wP n i j
  ·rw [kas, kbk (by exact leN (lin r3 V0 V1 [(2,1,V0,V2),(0,1,V2,V1)] rfl (eqI hlen) (nuI hi)))]; simp
 have hpk := fun k hk => zkb n k hk
 have hD : D m rs = det (kaa (qm m rs).length) (qm m rs) := by rw [hlen]; rfl
 rw [hD] at hq
 have hL0 : LL J a (as.map V.ref) (tb m.toNat (Ek (qm m rs) 0)) := by
  have := ht.ll
  rwa [zl4 (g := Ek (qm m rs) 0) fun i j hi hj => by rw [zoO, hget i hi]] at this
 generalize qm m rs = R at *
 have hp0 : (1 : Int) = pk 0 R := (zhF R).symm
 have hpb : ∀ k, k <= m.toNat -> pk k R < 2 ^ 63 := fun k hk => by
  have h1 := (hpk k hk).2
  have h2 : (40 : Int) ^ k <= 40 ^ 10 := by
   have := kbh (n := 40) (by decide) (show k <= 10 by exact leN (lin r3 V0 (.num 10) [(0,1,V1,.num 10),(0,1,V0,V2),(2,1,V2,V1)] rfl hm' (leI hk) (tnn (hm))))
   exact_mod_cast this
  exact kcd (kbS h1 h2) (by decide)
 refine F.det (d + 5) _ _ _ _ rfl ?_
 unfold jo
 simp only [zG, zV, qo, qf, qi, qe, zp, zq, zbC]
 rw [hp0]
 refine zcc (fun s Z J' => X7 fun k rp vs o2 o3 o4 o5 => A6 (Z = [some (.ref rp), some (.int (pk k R)), o2, o3, o4, o5]) (Ext J J') (LL J' rp vs (tb s (Ek R k))) (k + s = m.toNat) (k <= 6) (s <= 3 -> k = 0)) m.toNat ⟨0, a, _, _, _, _, _, rfl, .refl, hL0, by exact eqN (liq (@r1 (↑(m.toNat))) (.add N0 V0) V0 [] rfl), by exact kak rfl, fun _ => rfl⟩ ?_
 intro s Z J' K' hI hK'
 obtain ⟨k, rp, vs, o2, o3, o4, o5, rfl, e', hL, hks, hk6, hk0⟩ := hI
 have hvl := hL.all.length
 rw [zf9] at hvl
 have hpk' := hpk k (by exact leN (lin (@r3 (↑(k)) (↑(m.toNat)) (↑(s))) V0 V1 [(2,1,.add V0 V2,V1),(0,1,N0,V2)] rfl (eqI hks) (nnI _)))
 have hB := fun i j => zm0 (R := R) (k := k) (by exact leN (lin r1 V0 (.num 9) [(0,1,V0,.num 6)] rfl (leI hk6))) hR i j
 simp only [qH, qG, qo, zv, zg, zf, ze]
 refine zS hL.head ?_
 rw [hvl]
 simp only [zd, Cmp.run, zm]
 by_cases hgt : (s : Int) > 4
 ·refine qD (decide_eq_true hgt) ?_
  obtain ⟨s, rfl⟩ : ∃ s', s = s' + 1 := ⟨s - 1, by lia⟩
  have h0 : vs[0]? = some vs[0] := kac (by exact ltN (lit (@r2 (↑(vs.length)) (↑(s))) N0 V0 [(2,-1,V0,.add V1 N1),(1,1,.num 4,.add V1 N1)] rfl (eqI hvl) hgt))
  obtain ⟨tp, n0, hr0, hn0, htp⟩ := hL.all.get h0
  rw [zm2 (kdl _)] at hn0
  cases hn0
  unfold yU
  simp only [zG, zV, qA, qo, zv, zg, zf, ze, zd]
  refine ⟨kaK _, qx hL.head (yk (i := 0) h0 ?_)⟩
  rw [hr0]
  simp only [zp, zq, qV, zK, kaB, jz, jr, zbK, zv, qo, zg, zf, ze, zd]
  refine ⟨by simp [lim], zh fun le J1 hle e1 hlev => ⟨by decide, ja (e1 _ _ hL.head) (zh fun c J2 hc e2 hcv => ?_)⟩⟩
  simp only [ze]
  refine zO hcv ?_
  have e12 := e1.trans e2
  have hle' : J' le = none := hle
  have hDr := (hL.all.drop 1)
  rw [zkr] at hDr
  have hlen1 : (vs.drop (kcE 1)).length = s := by rw [kbN]; show vs.length - 1 = s; lia
  have hcle : c ≠ le := Ne.symm (jt hlev hc)
  refine zI (fun i Z J3 => X4 fun bs o4 o5 (_ : Unit) => A6 (Z = [some (.ref rp), some (.int (pk k R)), some (.ref tp), some (.ref le), o4, o5]) (Ext J' J3) (J3 c = some (.list (vs.drop (kcE 1)))) (J3 le = some (.list (bs.map V.ref))) (bs.length = i /\ le ∉ bs) (Lls J3 (bs.map V.ref) ((kaa i).map fun i => lst s (Ek R (k + 1) i)))) ⟨[], _, _, (), rfl, e12, hcv, e2 _ _ hlev, ⟨rfl, kaM⟩, .nil⟩ ?_ ?_
  ·intro i v Z J3 K'' hv hI hK''
   obtain ⟨bs, o4, o5, _, rfl, e3, hc3, hle3, ⟨hbl, hbn⟩, hl3⟩ := hI
   obtain ⟨b, nn, rfl, hnn, hb⟩ := hDr.get hv
   have hi : i < s := by
    have := (kae.mp hnn).1
    simpa using this
   rw [kaJ, kcn hi] at hnn
   cases hnn
   refine ⟨.inl hc3, ?_⟩
   simp only [ql, zp, zq]
   refine zmB (JA := J') (i := i) (by exact ltN (lit (@r4 (↑(k)) (↑(R.length)) (↑(m.toNat)) (↑(s))) V0 V1 [(2,-1,V1,V2),(2,1,.add V0 (.add V3 N1),V2),(1,1,.num 4,.add V3 N1)] rfl (eqI hlen) (eqI hks) hgt)) hpk'.1 (hpb k (by exact leN (lin (@r3 (↑(k)) (↑(m.toNat)) (↑(s))) V0 V1 [(2,1,.add V0 (.add V2 N1),V1),(1,1,.num 4,.add V2 N1)] rfl (eqI hks) hgt))) (by exact leN (lin (@r4 (↑(s)) _ (↑(k)) (↑(m.toNat))) V0 (.num 10) [(0,1,V1,.num 10),(2,1,.add V2 (.add V0 N1),V3),(0,1,N0,V2),(2,1,V3,V1)] rfl hm' (eqI hks) (nnI _) (tnn (hm)))) hB e3 hle' htp hb hle3 hbl (by exact leN (lin (@r5 (↑(i)) _ (↑(k)) (↑(s)) (↑(m.toNat))) V0 (.num 10) [(0,1,V1,.num 10),(2,1,.add V2 (.add V3 N1),V4),(1,1,V0,V3),(0,1,N0,V2),(2,1,V4,V1)] rfl hm' (eqI hks) (ltI hi) (nnI _) (tnn (hm)))) hbn hl3 fun bs' o5 J4 e4 h0 h1 h2 h3 h4 => hK'' .next _ _ ⟨bs', _, o5, (), rfl, e4, h0 _ _ hcle hc3, h1, ⟨h2, h3⟩, h4⟩
  ·rintro Z J3 ⟨bs, o4, o5, _, rfl, e3, hc3, hle3, ⟨hbl, hbn⟩, hl3⟩
   refine ⟨.inl hc3, ?_⟩
   rw [hlen1] at hl3
   simp only [zV, qA, qo, zv, zg, zf, ze, zd]
   refine L.at (htp.ext e3 : L J3 tp (s + 1) (Ek R k 0)) (kaK _) (by exact lit (@r1 (↑(s))) N0 (.add V0 N1) [(1,1,.num 4,.add V0 N1)] rfl hgt) ?_
   simp only [zp, zq]
   rw [show Ek R k 0 (kcE 0) = pk (k + 1) R from zqE (by exact ltN (lit (@r4 (↑(k)) (↑(R.length)) (↑(m.toNat)) (↑(s))) V0 V1 [(2,-1,V1,V2),(2,1,.add V0 (.add V3 N1),V2),(1,1,.num 4,.add V3 N1)] rfl (eqI hlen) (eqI hks) hgt))]
   exact hK' _ _ s (kbm s) ⟨k + 1, le, _, _, _, _, _, rfl, e'.trans e3, ⟨hle3, hl3⟩, by exact eqN (liq (@r3 (↑(k)) (↑(s)) (↑(m.toNat))) (.add (.add V0 N1) V1) V2 [(2,1,.add V0 (.add V1 N1),V2)] rfl (eqI hks)), by exact leN (lin (@r4 (↑(k)) _ (↑(s)) (↑(m.toNat))) (.add V0 N1) (.num 6) [(0,1,V1,.num 10),(2,1,.add V0 (.add V2 N1),V3),(1,1,.num 4,.add V2 N1),(2,1,V3,V1)] rfl hm' (eqI hks) hgt (tnn (hm))), by lia⟩
 ·refine qW (decide_eq_false hgt) ?_
  exact zly (d := d) F (by exact leN (lin r1 V0 (.num 4) [(4,1,.num 4,V0)] rfl hgt)) (by exact eqN (liq (@r4 (↑(k)) (↑(s)) (↑(R.length)) (↑(m.toNat))) (.add V0 V1) V2 [(2,-1,V2,V3),(2,1,.add V0 V1,V3)] rfl (eqI hlen) (eqI hks))) (by exact leN (lin r1 V0 (.num 9) [(0,1,V0,.num 6)] rfl (leI hk6))) hpk'.1 (hpb k (by exact leN (lin (@r3 (↑(k)) (↑(m.toNat)) (↑(s))) V0 V1 [(2,1,.add V0 V2,V1),(0,1,N0,V2)] rfl (eqI hks) (nnI _)))) (fun h => hk0 (by exact leN (lin r1 V0 (.num 3) [(2,1,V0,N0)] rfl (eqI h)))) hB hL fun Z J'' e'' => hq J'' (e'.trans e'')
end
section
variable {m : Int} {rs : Rd2}
theorem ziH (n : Net m rs) {g : Nat -> Int} (R : Rec m rs g) : ∃ t, zjl m rs g t := by
 have key : ∀ (k i : Nat) (Od Ly : List Int) (lev : Int -> Nat) (par : Nat -> Nat) (ps : List Nat), Lay m rs g i Od Ly lev par -> Unb m rs g Od Ly -> Od ++ Ly = m :: qK ps -> 2 * (m.toNat + 1) + (if Ly = [] then 0 else 1) < k + 2 * (Od ++ Ly).length -> ∃ t, zjl m rs g t := by
  intro k
  induction k with
  | zero => intro i Od Ly lev par ps Y _ _ h; have := Y.ge n; lia
  | succ k ih =>
   intro i Od Ly lev par ps Y U hps hk
   by_cases hl : Ly = []
   ·subst hl
    rw [kaR] at hps
    refine ⟨(qK (ps.map par)).mergeSort fun a b => decide (a <= b), Y.ends n R U hps (List.mergeSort_perm _ _) ?_⟩
    exact (List.pairwise_mergeSort (fun a b c h1 h2 => by simp at *; exact kbS ‹_› ‹_›) (fun a b => by simp; lia) _).imp fun h => of_decide_eq_true h
   ·obtain ⟨Y', U'⟩ := Y.burn n U
    refine ih _ _ _ _ _ (ps ++ zcV m rs g Od Ly) Y' U' (by rw [hps]; simp [qK]) ?_
    rw [if_neg hl] at hk
    rw [kam, qh]
    by_cases hz : qK (zcV m rs g Od Ly) = []
    ·rw [if_pos hz]; exact ltN (lit (@r4 (↑(m.toNat)) (↑(k)) (↑((Od ++ Ly).length)) (↑((zcV m rs g Od Ly).length))) (.add (.mulL 2 (.add V0 N1)) N0) (.add V1 (.mulL 2 (.add V2 V3))) [(1,1,.add (.mulL 2 (.add V0 N1)) N1,.add (.add V1 N1) (.mulL 2 V2)),(0,2,N0,V3)] rfl (ltI hk) (nnI _))
    ·rw [if_neg hz]
     have : (zcV m rs g Od Ly).length ≠ 0 := fun h => hz (kaA (by rw [qh]; exact h))
     exact ltN (lit (@r4 (↑(m.toNat)) (↑(k)) (↑((Od ++ Ly).length)) (↑((zcV m rs g Od Ly).length))) (.add (.mulL 2 (.add V0 N1)) N1) (.add V1 (.mulL 2 (.add V2 V3))) [(1,1,.add (.mulL 2 (.add V0 N1)) N1,.add (.add V1 N1) (.mulL 2 V2)),(1,2,N0,V3)] rfl (ltI hk) (jW ((nnI _)) (Ne.symm this)))
 exact key _ 0 [] [m] _ _ [] (Lay.start g n.m0) (Unb.start R.rest) rfl (kaU (kbm _) (kc3 _ _))
theorem zeh (n : Net m rs) {t : List Int} (ok : zbO m rs t) : ∃ g lev par, w6 m rs g (fun j => (j : Int) ∈ t) lev par := by
 have key : ∀ (k i : Nat) (Od Ly : List Int) (lev : Int -> Nat) (par : Nat -> Nat) (g : Nat -> Int), Lay m rs g i Od Ly lev par -> Unj m rs t Od Ly -> (∀ p : Nat, (p : Int) < m -> lev p <= i -> ((par p : Nat) : Int) ∈ t) -> m ∈ Od ++ Ly -> 2 * (m.toNat + 1) + (if Ly = [] then 0 else 1) < k + 2 * (Od ++ Ly).length -> ∃ g lev par, w6 m rs g (fun j => (j : Int) ∈ t) lev par := by
  intro k
  induction k with
  | zero => intro i Od Ly lev par g Y _ _ _ h; have := Y.ge n; lia
  | succ k ih =>
   intro i Od Ly lev par g Y U hpar hO hk
   by_cases hl : Ly = []
   ·subst hl
    rw [kaR] at hO
    exact ⟨g, Y.endh n ok U hO hpar⟩
   ·obtain ⟨Y', U', hpar'⟩ := Y.join n U hpar
    refine ih _ _ _ _ _ _ Y' U' hpar' (kbp _ hO) ?_
    rw [if_neg hl] at hk
    rw [kam, qh]
    by_cases hz : qK (zfH m rs t Od Ly) = []
    ·rw [if_pos hz]; exact ltN (lit (@r4 (↑(m.toNat)) (↑(k)) (↑((Od ++ Ly).length)) (↑((zfH m rs t Od Ly).length))) (.add (.mulL 2 (.add V0 N1)) N0) (.add V1 (.mulL 2 (.add V2 V3))) [(1,1,.add (.mulL 2 (.add V0 N1)) N1,.add (.add V1 N1) (.mulL 2 V2)),(0,2,N0,V3)] rfl (ltI hk) (nnI _))
    ·rw [if_neg hz]
     have : (zfH m rs t Od Ly).length ≠ 0 := fun h => hz (kaA (by rw [qh]; exact h))
     exact ltN (lit (@r4 (↑(m.toNat)) (↑(k)) (↑((Od ++ Ly).length)) (↑((zfH m rs t Od Ly).length))) (.add (.mulL 2 (.add V0 N1)) N1) (.add V1 (.mulL 2 (.add V2 V3))) [(1,1,.add (.mulL 2 (.add V0 N1)) N1,.add (.add V1 N1) (.mulL 2 V2)),(1,2,N0,V3)] rfl (ltI hk) (jW ((nnI _)) (Ne.symm this)))
 exact key _ 0 [] [m] _ _ (fun _ => 0) (Lay.start _ n.m0) (fun p hp _ _ j hj => by
  obtain ⟨e, _, _, hs⟩ := zda.mp hj
  exact absurd (of_decide_eq_true hs) kaM) (fun p hp hl => by rw [if_neg (by exact (fun h_ => lif r2 [(1,1,V0,V1),(2,-1,V0,V1)] rfl hp h_))] at hl; exact lif (@r1 0) [(0,1,N1,N0)] rfl (leI hl)) (kaf.mpr rfl) (kaU (kbm _) (kc3 _ _))
noncomputable def hF (h : List Int) : Nat -> Int := fun i => h.getD i 0
noncomputable def zm8 (m : Int) (rs : Rd2) (h : List Int) : Bool := @decide (Rec m rs (hF h)) (kb6 _)
theorem zdp {h : List Int} : zm8 m rs h = true ↔ Rec m rs (hF h) := @decide_eq_true_iff _ (kb6 _)
noncomputable def HH (m : Int) (rs : Rd2) : List (List Int) := (hps (degs m rs)).filter (zm8 m rs)
noncomputable def TT (m : Int) (rs : Rd2) : List (List Int) := ((sets m.toNat rs.length).filter fun t => decide (t.length = m.toNat)).filter fun t => jj m (tro rs t)
def Rel (m : Int) (rs : Rd2) (h t : List Int) : Prop := h.length = m.toNat /\ zjl m rs (hF h) t
theorem zqx {h h' : List Int} {k : Nat} (hl : h.length = k) (hl' : h'.length = k) (e : ∀ i, i < k -> hF h i = hF h' i) : h = h' := by
 rw [zkd h, zkd h', hl, hl']
 exact zaA e
theorem zeA (n : Net m rs) {t : List Int} : t ∈ TT m rs ↔ zbO m rs t /\ t.Pairwise (· < ·) := by
 have hm := n.m0
 unfold TT
 rw [kbb, kbb, (zfU _ _).2, decide_eq_true_eq, zke]
 constructor
 ·rintro ⟨⟨S, hl⟩, hj⟩
  exact ⟨⟨by exact liq r3 V0 V1 [(2,1,V0,V2),(2,1,V2,V1)] rfl (eqI hl) (tnn (hm)), S.rng, S.up.imp fun {a b} hab e => by exact lif r2 [(1,1,V0,V1),(2,-1,V0,V1)] rfl hab e, hj⟩, S.up⟩
 ·rintro ⟨ok, up⟩
  have := ok.len
  exact ⟨⟨⟨by exact leN (lin r3 V0 V1 [(2,1,V0,V2),(2,-1,V1,V2)] rfl this (tnn (hm))), up, ok.rng⟩, by exact eqN (liq r3 V0 V1 [(2,1,V0,V2),(2,-1,V1,V2)] rfl this (tnn (hm)))⟩, ok.conn⟩
theorem zhI (n : Net m rs) {h : List Int} : h ∈ hps (degs m rs) ↔ h.length = m.toNat /\ ∀ v : Nat, (v : Int) < m -> 0 <= hF h v /\ hF h v < zU rs v := by
 have hm := n.m0
 rw [(zhR _).2, jZ hm n.nn]
 unfold zqL
 rw [qy]
 refine and_congr_right fun hl => ?_
 constructor
 ·intro hh v hv
  have hv' : v < m.toNat := by exact Mine.yI ‹_›
  exact hh v (hF h v) (zU rs v) (by unfold hF; rw [kas, kac (by exact ltN (lit r3 V0 V1 [(2,-1,V1,V2),(1,1,V0,V2)] rfl (eqI hl) (ltI hv')))]; rfl) (yA _ hv')
 ·intro hh i x d hx hd
  have hi : i < m.toNat := by
   have := (kae.mp hd).1
   rwa [qy] at this
  rw [yA _ hi] at hd
  cases hd
  have hxe : hF h i = x := by unfold hF; rw [kas, hx]; rfl
  rw [<- hxe]
  exact hh i (qE hm hi)
theorem zeB (n : Net m rs) {h : List Int} : h ∈ HH m rs ↔ h.length = m.toNat /\ Rec m rs (hF h) := by
 unfold HH
 rw [kbb, zdp, zhI n]
 constructor
 ·rintro ⟨⟨a, _⟩, b⟩; exact ⟨a, b⟩
 ·rintro ⟨a, b⟩; exact ⟨⟨a, fun v hv => ⟨b.nn v hv, b.rest v hv⟩⟩, b⟩
theorem zmW (m rs) : (HH m rs).Nodup := (zhR _).1.sublist kbM
theorem zmV (m rs) : (TT m rs).Nodup := ((zfU _ _).1.sublist kbM).sublist kbM
theorem zoY (n : Net m rs) {M Y : List (List Int)} (lM : M.length = (HH m rs).length) (lY : Y.length = (TT m rs).length)
  (hM : ∀ (i : Nat) h t, (HH m rs)[i]? = some h -> M[i]? = some t -> Rel m rs h t) (hY : ∀ (i : Nat) h t, Y[i]? = some h -> (TT m rs)[i]? = some t -> Rel m rs h t) : M.Perm (TT m rs) /\ Y.Perm (HH m rs) := by
 refine zjE (Rel m rs) (zmW m rs) (zmV m rs) lM lY hM hY (fun h t r => (zeA n).mpr ⟨r.2.ok n, r.2.up⟩) (fun h t r => ?_) (fun h t t' r r' => r.2.same n r'.2) fun h h' t r r' => ?_
 ·obtain ⟨lev, par, C⟩ := r.2.corr
  exact (zeB n).mpr ⟨r.1, C.again n⟩
 ·obtain ⟨lev, par, C⟩ := r.2.corr
  obtain ⟨lev', par', C'⟩ := r'.2.corr
  exact zqx r.1 r'.1 fun i hi => C.heapEq n C' i (qE n.m0 hi)
theorem ziZ (n : Net m rs) {h : List Int} (hh : h ∈ HH m rs) : ∃ t, Rel m rs h t := by
 obtain ⟨hl, R⟩ := (zeB n).mp hh
 obtain ⟨t, ht⟩ := ziH n R
 exact ⟨t, hl, ht⟩
theorem zm6 (n : Net m rs) {t : List Int} (ht : t ∈ TT m rs) {g : Nat -> Int} (hC : ∃ lev par, w6 m rs g (fun j => (j : Int) ∈ t) lev par) : Rel m rs (lst m.toNat g) t := by
 obtain ⟨ok, up⟩ := (zeA n).mp ht
 obtain ⟨lev, par, C⟩ := hC
 have hg : ∀ v : Nat, (v : Int) < m -> hF (lst m.toNat g) v = g v := fun v hv => by
  unfold hF; rw [kas, yA g (by exact Mine.yI ‹_›)]; rfl
 refine ⟨qy _ _, ok.len, up, ok.rng, lev, par, C.l0, C.lp, C.mem, fun p hp => ?_⟩
 rw [hg p hp]; exact C.val p hp
theorem counts (n : Net m rs) (hm3 : m <= 3) : ((HH m rs).length : Int) = D m rs /\ ((TT m rs).length : Int) = D m rs := by
 have hm := n.m0
 have e : (m.toNat : Int) = m := tnn hm
 have hT : ((TT m rs).length : Int) = D m rs := by
  have := ziI (K := m.toNat) (by exact leN (lin r2 V0 (.num 3) [(0,1,V1,.num 3),(2,1,V0,V1)] rfl hm3 e)) (rs := rs) (fun p hp => by rw [e]; exact n.ends p hp)
  rw [e] at this
  rw [<- this]
  unfold TT
  rw [List.filter_filter, <- List.countP_eq_length_filter]
  congr 1
  refine kdN fun t _ => ?_
  rw [Bool.and_comm]
 refine ⟨?_, hT⟩
 have hp := zoY n (M := (HH m rs).map fun h => if hh : h ∈ HH m rs then kcP (ziZ n hh) else []) (Y := (TT m rs).map fun t => if ht : t ∈ TT m rs then lst m.toNat (kcP (zeh n ((zeA n).mp ht).1)) else []) (by rw [kaC]) (by rw [kaC]) (fun i h t h1 h2 => ?_) fun i h t h1 h2 => ?_
 ·rw [<- hT, <- hp.1.length_eq, kaC]
 ·have hin := kaj h1
  rw [kaJ, h1] at h2
  cases h2
  simp only [dif_pos hin]
  exact kcG (ziZ n hin)
 ·have hin := kaj h2
  rw [kaJ, h2] at h1
  cases h1
  simp only [dif_pos hin]
  exact zm6 n hin (kcG (zeh n ((zeA n).mp hin).1))
theorem ziB {K : Nat} {A B : List (List Int)} (h : A.Perm B) (hl : ∀ x ∈ A, x.length = K /\ Dig x) (hA : A.Pairwise fun a b => num a <= num b) (hB : B.Pairwise fun a b => num a <= num b) : A = B :=
 h.eq_of_pairwise (fun a b ha hb h1 h2 => zn7 ((hl a ha).1.trans (hl b (h.mem_iff.mpr hb)).1.symm) (hl a ha).2 (hl b (h.mem_iff.mpr hb)).2 (kav h1 h2)) hA hB
end
end Mine
end
section
open PySem
namespace Mine
structure F12 (T : TC) : Prop where
 S : zlV T
 heaps : FnW T "_law_heaps" 1 5 (yr T)
 again : FnW T "_law_again" 3 6 (wJ T)
 sets : FnW T "_law_sets" 2 3 (y7 T)
 joined : FnW T "_law_joined" 3 5 (j4 T)
 M : zk5 T
 whole : FnW T "_law_whole" 1 0 (wH T)
 tree : zk4 T
 heap : zpa T
 comes : zjn T
 table : FnW T "_law_table" 2 6 (wq T)
 det : znK T
section
variable {T : TC} {d : Nat} {J : zb} {Q : V -> zb -> Prop} {P : Nat -> zb -> Prop} {K : Out -> zM -> zb -> Prop}
def Fin (K : Out -> zM -> zb -> Prop) : Prop := ∀ Z J', K (.ret (.bool true)) Z J'
theorem zqn (F : F12 T) {s : Addr} {ns : List Int} {o1 o2 o3 o4 o5 o6 o7 o8 o9 o10 : Option V} (hs : qN J s ns) (hK : Fin K) : zdK T (d + 8) [some (.ref s), o1, o2, o3, o4, o5, o6, o7, o8, o9, o10] J K P := by
 unfold zdK
 simp only [zG, zcH, zL, zB, zK, qo, zv, zg, zf]
 refine zmf (d := d + 6) F.S.L hs (by decide) (by decide) fun t c J1 m rs e1 ht hc n hmB hcn => ?_
 refine wW ht ⟨rfl, ?_⟩
 simp only [yy, yx, zp, zq, j3, qH, zL, zB, zK, zv, zg, zf]
 refine zcB (d := d + 3) F.M n hc fun J2 e2 => ?_
 refine zeQ (d := d + 7) F.table n (hc.ext e2) fun a as J3 e3 hta => ?_
 refine zbI (d := d + 2) F.det n hta fun J4 e4 => ?_
 simp only [zd, Cmp.run, beq_self_eq_true]
 exact hK _ _
structure Ctx (J : zb) (m : Int) (rs : Rd2) (ns : List Int) (s r hp tp : Addr) (hv tv : List V) : Prop where
 W : Few m rs
 s : qN J s ns
 r : zQ J r rs
 H : LL J hp hv (HH m rs)
 T : LL J tp tv (TT m rs)
theorem Ctx.ext {J' : zb} {m rs ns s r hp tp hv tv} (c : Ctx J m rs ns s r hp tp hv tv) (e : Ext J J') : Ctx J' m rs ns s r hp tp hv tv := ⟨c.W, c.s.ext e, c.r.ext e, c.H.ext e, c.T.ext e⟩
theorem zQ.copy {r : Addr} {rs : Rd2} {Z : zM} {i : Nat} (hr : zQ J r rs) (hi : jC Z i = some (.ref r)) (hq : ∀ c J', Ext J J' -> zQ J' c rs -> Q (.ref c) J') : za1 (loc i) Z J Q P := by
 obtain ⟨vs, h1, h2⟩ := hr
 rw [zbM, zv, hi]
 exact qx h1 (zh fun c J1 hc e1 hcv => hq c J1 e1 ⟨vs, hcv, h2.ext e1⟩)
theorem qM.copy {a : Addr} {l : List Int} {Z : zM} {i : Nat} (h : qM J a l) (hi : jC Z i = some (.ref a)) (hq : ∀ c J', Ext J J' -> qM J' c l -> Q (.ref c) J') : za1 (loc i) Z J Q P := by
 rw [zbM, zv, hi]
 exact qx h (zh fun c J1 hc e1 hcv => hq c J1 e1 hcv)
theorem Few.deg {m rs} (W : Few m rs) : ∀ x ∈ degs m rs, 0 < x /\ x <= 7 := fun x hx => by
 rw [jZ W.n.m0 W.n.nn] at hx
 obtain ⟨v, hv, rfl⟩ := kat.mp hx
 have := zf6 v rs fun p hp => (W.n.ends p hp).2.2
 have := W.len
 exact ⟨zb8 W.n (qE W.n.m0 (kan.mp hv)), by exact lin r2 V0 (.num 7) [(0,1,V0,V1),(0,1,V1,.num 7)] rfl ‹_› (leI this)⟩
theorem Few.dlen {m rs} (W : Few m rs) : (degs m rs).length <= 3 := by
 rw [jZ W.n.m0 W.n.nn, qy]
 have := W.m3; lia
theorem zln : ∀ l : List Int, (∀ x ∈ l, 0 < x) -> 0 < zci l := by
 have key : ∀ (l : List Int) (a : Nat), 0 < a -> (∀ x ∈ l, 0 < x) -> 0 < l.foldl (fun a d => a * d.toNat) a := by
  intro l
  induction l with
  | nil => exact fun a h _ => h
  | cons x l ih =>
   intro a h hl
   refine ih _ (Nat.mul_pos h ?_) fun y hy => hl y (kal _ hy)
   have := hl x (kaq ..)
   exact Mine.yI ‹_›
 exact fun l => key l 1 (by decide)
theorem zgY (F : F12 T) {m : Int} {rs : Rd2} {mo : Addr} (W : Few m rs) (hm : qM J mo (degs m rs)) (hq : ∀ c vs J', Ext J J' -> LL J' c vs (hps (degs m rs)) -> Q (.ref c) J') : zA T (d + 1) "_law_heaps" [.ref mo] J Q P := by
 have hl := W.dlen
 refine zjI F.heaps hm (by exact leN (lin r1 V0 (.num 100) [(0,1,V0,.num 3)] rfl (leI hl))) (fun x hx => by have := W.deg x hx; exact ⟨lin r1 N0 V0 [(1,1,N0,V0)] rfl this.1, lin r1 V0 (.num 40) [(0,1,V0,.num 7)] rfl this.2⟩) (fun i => ?_) hq
 have h1 := zi0 (c := 7) ((degs m rs).take i) fun x hx => (W.deg x (kbw hx)).2
 have h2 : 7 ^ ((degs m rs).take i).length <= 7 ^ 3 := kbh (by decide) (by rw [ka2]; lia)
 rw [zfs]
 exact leN (lin r2 V0 (.num 400) [(0,1,V0,V1),(0,1,V1,.num 343)] rfl (leI h1) (leI h2))
theorem Rec.heapIs {m : Int} {rs : Rd2} {g : Nat -> Int} (n : Net m rs) (h : ∀ v : Nat, (v : Int) < m -> 0 <= g v /\ g v < zU rs v) : zbP m g :=
 ⟨fun v hv => (h v hv).1, fun v hv => by have := (h v hv).2; have := zeG n v; exact lin r2 V0 (.num 1000000000) [(1,1,V0,V1),(0,1,V1,.num 40)] rfl ‹_› this⟩
theorem qM.L {a : Addr} {h : List Int} {k : Nat} (hi : qM J a h) (hl : h.length = k) : L J a k (hF h) := by
 unfold Mine.L
 rw [zkd h, hl] at hi
 exact hi
theorem zqo (F : F12 T) {m : Int} {rs : Rd2} {ns : List Int} {s r hp tp : Addr} {hv tv : List V} {o3 o4 o5 o6 o9 o10 : Option V} (C : Ctx J m rs ns s r hp tp hv tv) (hK : Fin K) :
  zdL T (d + 8) [some (.ref s), some (.ref hp), some (.ref tp), o3, o4, o5, o6, some (.int m), some (.ref r), o9, o10] J K P := by
 have n := C.W.n
 have hm := n.m0; have hm' := n.m10
 unfold zdL
 simp only [zG, zV, qA, wf, zL, zB, zK, qo, zv, zg, zf]
 refine j8 (d := d + 7) F.S.L.degs hm hm' C.r n.nn fun mo J1 e1 _ hmo => ?_
 refine zgY (d := d + 7) F C.W hmo fun c vs J2 e2 hL => ?_
 have e12 := e1.trans e2
 refine qq (d := d + 7) F.S.L.cell (C.s.ext e12) (by decide) (by decide) fun J3 e3 => ?_
 have e13 := e12.trans e3
 refine zgS (d := d + 6) F.S.L.degs F.S.room n (C.r.ext e13) fun J4 e4 => ?_
 simp only [zd, ze]
 have hpos := zln (degs m rs) fun x hx => (C.W.deg x hx).1
 have a0 := ka1 (qw ns 19) (b := ((zci (degs m rs) : Nat) : Int)) (by exact kaE.mpr ‹_›)
 have a1 := kbr (qw ns 19) (b := ((zci (degs m rs) : Nat) : Int)) (by exact kaE.mpr ‹_›)
 refine ⟨by exact (fun h_ => lif r1 [(1,1,N0,V0),(2,1,V0,N0)] rfl (ltI hpos) h_), a0, ?_⟩
 generalize (qw ns 19).fmod ((zci (degs m rs) : Nat) : Int) = ix at a0 a1
 have e24 := e3.trans e4
 have hvl := hL.all.length
 rw [zfs] at hvl
 have hg : vs[ix.toNat]? = some vs[ix.toNat] := kac (by lia)
 refine qx (e24 _ _ hL.head) (yk hg ?_)
 obtain ⟨la, l, hla, hl, hlai⟩ := hL.all.get hg
 rw [hla]
 have hlm := (zhI n).mp (kaj hl)
 have e14 := e12.trans e24
 have C4 := C.ext e14
 simp only [zp, zq, je, zgM, zL, zB, zK, zv, zg, zf]
 refine C4.r.copy rfl fun r' J5 e5 hr' => ?_
 have hl4 := (hlai.ext e24)
 refine qM.copy (hl4.ext e5) rfl fun l' J6 e6 hl' => ?_
 refine zdG (d := d + 1) F.comes n (hr'.ext e6) (hl'.L hlm.1) (Rec.heapIs n hlm.2) fun b J7 e7 hb => ?_
 have e57 := e5.trans (e6.trans e7)
 simp only [zom, zv, zg, zf]
 have hb' : b = zm8 m rs l := by
  rw [kaS, hb, zdp]
  exact zhc n fun v hv => (hlm.2 v hv).1
 have H7 := C4.H.ext e57
 refine ⟨dL l, (HH m rs).map dL, (hl4.ext e57).rd, .inl (.list H7.head H7.all.rd), zd2 _, ?_, kap (Nat.min_le_left _ _) (zf5 _), ?_⟩
 ·simp [dL, PyData.canLay0, zb2]
 have hany : ((HH m rs).map dL).any (fun y => PyData.eqv y (dL l)) = zm8 m rs l := by
  rw [kaS, kbV, zdp]
  constructor
  ·rintro ⟨y, hy, he⟩
   obtain ⟨h, hh, rfl⟩ := kat.mp hy
   rw [zkf, decide_eq_true_eq] at he
   rw [<- he]
   exact ((zeB n).mp hh).2
  ·intro hR
   exact ⟨dL l, kat.mpr ⟨l, (zeB n).mpr ⟨hlm.1, hR⟩, rfl⟩, by rw [zkf]; exact decide_eq_true rfl⟩
 rw [hany, hb']
 simp only [kad, if_false, zm, bne_self_eq_false, if_true, qC]
 exact zqn F (C4.ext e57).s hK
noncomputable def zqP : V -> Int
 | .int i => i
 | _ => 0
noncomputable def cnt (J : zb) (b : Addr) : List Int := match J b with
 | some (.list xs) => xs.map zqP
 | _ => []
theorem zpK {b : Addr} {l : List Int} (h : qM J b l) : cnt J b = l := by
 unfold cnt
 rw [show J b = some (.list (zs l)) from h]
 simp only [zs, kbB]
 exact (kbd fun _ _ => rfl).trans (kc5 _)
inductive Adr (J : zb) (vs : List V) (ns : List (List Int)) : Prop
 | mk (bs : List Addr) (e : vs = bs.map V.ref) (c : bs.map (cnt J) = ns) (i : ∀ b ∈ bs, qM J b (cnt J b)) : Adr J vs ns
theorem Lls.adr {vs ns} (h : Lls J vs ns) : Adr J vs ns := by
 induction h with
 | nil => exact ⟨[], rfl, rfl, fun b hb => by cases hb⟩
 | @cons a n vs ns h1 _ ih =>
  obtain ⟨bs, e, c, i⟩ := ih
  have hc := zpK h1
  refine ⟨a :: bs, by rw [e]; rfl, by rw [kaO, hc, c], fun b hb => ?_⟩
  rcases kah.mp hb with rfl | hb
  ·rw [hc]; exact h1
  ·exact i b hb
theorem zpz {J' : zb} (e : Ext J J') : ∀ bs : List Addr, (∀ b ∈ bs, qM J b (cnt J b)) -> Lls J' (bs.map V.ref) (bs.map (cnt J)) := by
 intro bs
 induction bs with
 | nil => exact fun _ => .nil
 | cons b bs ih => exact fun h => .cons ((h b (kaq ..)).ext e) (ih fun c hc => h c (kal _ hc))
def zoQ (k : Nat) (ns : List (List Int)) : Prop := ∀ x ∈ ns, x.length = k /\ Dig x
theorem zoV {Z : zM} {i k : Nat} {a : Addr} {vs ns} (h : LL J a vs ns) (hk : zoQ k ns) (hl : ns.length < 64) (hi : jC Z i = some (.ref a)) (hq : ∀ c vs' ns' J', Ext J J' -> LL J' c vs' ns' -> ns'.Perm ns -> (ns'.Pairwise fun a b => num a <= num b) -> Q (.ref c) J') : zbG (loc i) Z J Q P := by
 rw [znU, zv, hi]
 obtain ⟨bs, rfl, rfl, hb⟩ := h.all.adr
 rw [kaC] at hl
 have hk' : ∀ b ∈ bs, (cnt J b).length = k /\ Dig (cnt J b) := fun b hb' => hk _ (kat.mpr ⟨b, hb', rfl⟩)
 refine ja h.head ⟨bs, cnt J, k, rfl, ⟨hl, hb, fun b hb' => (hk' b hb').1, fun b hb' => (hk' b hb').2⟩, fun bs' hp hs => zh fun c J1 hc e1 hcv => ?_⟩
 refine hq c _ (bs'.map (cnt J)) J1 e1 ⟨hcv, zpz e1 bs' fun b hb' => hb b (hp.mem_iff.mp hb')⟩ (hp.map _) ?_
 rw [kbn] at hs ⊢
 exact hs
theorem zoU {Z : zM} {i j k : Nat} {a b : Addr} {vs ns ws ms} (ha : LL J a vs ns) (hb : LL J b ws ms) (hp : ns.Perm ms) (hk : zoQ k ms) (hl : ms.length < 64) (hi : jC Z i = some (.ref a)) (hj : jC Z j = some (.ref b)) (hq : ∀ J', Ext J J' -> Q (.bool false) J') : eqW true (zbG (loc i)) (zbG (loc j)) Z J Q P := by
 have hk1 : zoQ k ns := fun x hx => hk x (hp.mem_iff.mp hx)
 simp only [zjM]
 refine zoV ha hk1 (by rw [hp.length_eq]; exact hl) hi fun c vs' ns' J1 e1 hc p1 s1 => ?_
 refine zoV (hb.ext e1) hk hl hj fun c' ws' ms' J2 e2 hc' p2 s2 => ?_
 refine Eqv.ll (e2 _ _ hc.head) (hc.all.ext e2) hc'.head hc'.all ?_
 have : ns' = ms' := ziB (K := k) (p1.trans (hp.trans p2.symm)) (fun x hx => hk1 x (p1.mem_iff.mp hx)) s1 s2
 rw [decide_eq_true this]
 exact hq J2 (e1.trans e2)
theorem zpO {m : Int} {rs : Rd2} (W : Few m rs) : zoQ m.toNat (TT m rs) := fun x hx => by
 obtain ⟨ok, _⟩ := (zeA W.n).mp hx
 have h1 := ok.len
 have h2 := W.len
 exact ⟨by exact eqN (liq r3 V0 V1 [(2,1,V0,V2),(2,-1,V1,V2)] rfl h1 (tnn (lin r2 N0 V0 [(2,1,V1,V0),(0,1,N0,V1)] rfl h1 (nnI _)))), fun y hy => by have := ok.rng y hy; exact ⟨this.1, lit r2 V0 (.num 64) [(0,1,V1,.num 7),(1,1,V0,V1)] rfl (leI h2) this.2⟩⟩
theorem zpP {m : Int} {rs : Rd2} (W : Few m rs) : zoQ m.toNat (HH m rs) := fun x hx => by
 obtain ⟨hl, R⟩ := (zeB W.n).mp hx
 refine ⟨hl, fun y hy => ?_⟩
 obtain ⟨i, hi, rfl⟩ := kaV hy
 have hi' : (i : Int) < m := qE W.n.m0 (by exact ltN (lit r3 V0 V1 [(2,1,V2,V1),(1,1,V0,V2)] rfl (eqI hl) (ltI hi)))
 have e : hF x i = x[i] := by unfold hF; rw [kas, kac hi]; rfl
 have h1 := R.nn i hi'
 have h2 := R.rest i hi'
 have h3 := zeG W.n i
 rw [e] at h1 h2
 exact ⟨h1, lit r2 V0 (.num 64) [(1,1,V0,V1),(0,1,V1,.num 40)] rfl h2 h3⟩
theorem zhT {m : Int} {rs : Rd2} (W : Few m rs) : (HH m rs).length < 64 /\ (TT m rs).length < 64 := by
 have h1 : (HH m rs).length <= (hps (degs m rs)).length := kbC _ _
 rw [zfs] at h1
 have h2 := W.room
 obtain ⟨h3, h4⟩ := counts W.n W.m3
 exact ⟨ltN (lit r2 V0 (.num 64) [(0,1,V0,V1),(0,1,V1,.num 63)] rfl (leI h1) (leI h2)), ltN (lit r4 V0 (.num 64) [(0,1,V1,V2),(0,1,V2,.num 63),(2,-1,V1,V3),(2,1,V0,V3)] rfl (leI h1) (leI h2) h3 h4)⟩
theorem zqp (F : F12 T) {m : Int} {rs : Rd2} {ns : List Int} {s r hp tp mi yo : Addr} {hv tv mv yv : List V} {M Y : List (List Int)} {o3 o6 o9 o10 : Option V} (C : Ctx J m rs ns s r hp tp hv tv) (hM : LL J mi mv M) (hY : LL J yo yv Y) (pM : M.Perm (TT m rs)) (pY : Y.Perm (HH m rs)) (hK : Fin K) :
  zdM T (d + 8) [some (.ref s), some (.ref hp), some (.ref tp), o3, some (.ref mi), some (.ref yo), o6, some (.int m), some (.ref r), o9, o10] J K P := by
 obtain ⟨l1, l2⟩ := zhT C.W
 unfold zdM
 simp only [zG, je, zgk]
 refine zoU hM C.T pM (zpO C.W) l2 rfl rfl fun J1 e1 => ?_
 simp only [zm, kad, if_false]
 refine zoU (hY.ext e1) (C.H.ext e1) pY (zpP C.W) l1 rfl rfl fun J2 e2 => ?_
 simp only [zm, kad, if_false, qC]
 exact zqo F (C.ext (e1.trans e2)) hK
structure zny (R : List Int -> List Int -> Prop) (A M : List (List Int)) : Prop where
 len : M.length = A.length
 rel : ∀ (i : Nat) x y, A[i]? = some x -> M[i]? = some y -> R x y
theorem zny.snoc {R : List Int -> List Int -> Prop} {A M : List (List Int)} {i : Nat} {x y : List Int} (h : zny R (A.take i) M) (hx : A[i]? = some x) (r : R x y) : zny R (A.take (i + 1)) (M ++ [y]) := by
 have hi := (kae.mp hx).1
 have hl := h.len
 rw [ka2] at hl
 rw [qT hx]
 refine ⟨by rw [kam, kam, h.len]; rfl, fun j u v hu hv => ?_⟩
 by_cases hj : j < M.length
 ·rw [ka6 hj] at hv
  rw [ka6 (by rw [ka2]; exact ltN (lit r3 V0 V1 [(2,1,V2,V1),(1,1,V0,V2)] rfl (eqI hl) (ltI hj)))] at hu
  exact h.rel j u v hu hv
 ·rw [kbx (by exact kbW.mp ‹_›)] at hv
  rw [kbx (by rw [ka2]; exact leN (lin r3 V0 V1 [(2,-1,V2,V0),(0,1,V2,V1)] rfl (eqI hl) (nuI hj))), ka2] at hu
  cases hk : j - M.length with
  | zero =>
   rw [hk] at hv
   rw [show j - min i A.length = 0 by lia] at hu
   cases hv; cases hu; exact r
  | succ k => rw [hk] at hv; simp at hv
theorem zg6 {Z : zM} {i j : Nat} {e : EW} {a : Addr} {vs : List V} {A : List (List Int)} (R : List Int -> List Int -> Prop) (h : LL J a vs A) (hl : A.length < 64) (hi : jC Z i = some (.ref a))
  (step : ∀ (b : Addr) (x : List Int) J' (K : V -> zb -> Prop), Ext J J' -> x ∈ A -> qM J' b x -> (∀ c y J'', Ext J' J'' -> qM J'' c y -> R x y -> K (.ref c) J'') -> e (yz Z j (.ref b)) J' K noP)
  (hq : ∀ c ws M J', Ext J J' -> LL J' c ws M -> zny R A M -> Q (.ref c) J') : ju j (yW (loc i)) none e Z J Q P := by
 have hvl := h.all.length
 simp only [qX, jr, zv, hi, ze]
 refine zO h.head ⟨by unfold lim; exact leN (lin r2 V0 (.num 1000000) [(1,1,V1,.num 64),(2,1,V0,V1)] rfl (ltI hl) (eqI hvl)), ?_⟩
 refine qj (fun k acc J' => ∃ M, Ext J J' /\ Lls J' acc M /\ zny R (A.take k) M) ⟨[], .refl, .nil, rfl, fun i x y hx => by simp at hx⟩ ?_ ?_
 ·rintro k v acc J' K' hv ⟨M, e1, hA, hE⟩ hK'
  obtain ⟨b, x, rfl, hx, hb⟩ := h.all.get hv
  refine ⟨.inl (e1 _ _ h.head), ?_⟩
  simp only [qv, if_true]
  exact step b x J' _ e1 (kaj hx) (hb.ext e1) fun c y J'' e2 hc r => hK' _ _ ⟨M ++ [y], e1.trans e2, (hA.ext e2).app (.cons hc .nil), hE.snoc hx r⟩
 ·rintro acc J' ⟨M, e1, hA, hE⟩
  refine ⟨.inl (e1 _ _ h.head), zh fun c J1 hc e2 hcv => ?_⟩
  rw [hvl, kaL] at hE
  exact hq c acc M J1 (e1.trans e2) ⟨hcv, hA.ext e2⟩ hE
theorem zei {Z : zM} {j : Nat} {c : EW} {a : Addr} {vs : List V} {A : List (List Int)} (f : List Int -> Bool) (h : LL J a vs A) (hl : A.length <= 1000)
  (hj : ∀ v, jC (yz Z j v) j = some v)
  (step : ∀ (b : Addr) (x : List Int) J' (K : V -> zb -> Prop), Ext J J' -> x ∈ A -> qM J' b x -> (∀ J'', Ext J' J'' -> K (.bool (f x)) J'') -> c (yz Z j (.ref b)) J' K noP)
  (hq : ∀ p ws J', Ext J J' -> LL J' p ws (A.filter f) -> Q (.ref p) J') : zbN J a fun xs chk => xs.length <= lim /\ zbx chk j (some c) (loc j) Z xs [] J Q := by
 have hvl := h.all.length
 refine zO h.head ⟨by unfold lim; exact leN (lin r2 V0 (.num 1000000) [(0,1,V1,.num 1000),(2,1,V0,V1)] rfl (leI hl) (eqI hvl)), ?_⟩
 refine qj (fun k acc J' => Ext J J' /\ Lls J' acc ((A.take k).filter f)) ⟨.refl, .nil⟩ ?_ ?_
 ·rintro k v acc J' K' hv ⟨e1, hA⟩ hK'
  obtain ⟨b, x, rfl, hx, hb⟩ := h.all.get hv
  refine ⟨.inl (e1 _ _ h.head), ?_⟩
  simp only [q8]
  refine step b x J' _ e1 (kaj hx) (hb.ext e1) fun J'' e2 => ?_
  simp only [zm]
  cases hf : f x with
  | true =>
   simp only [if_true, zv, hj]
   refine hK' _ _ ⟨e1.trans e2, ?_⟩
   rw [qT hx, ka4, kbO, if_pos hf]
   exact (hA.ext e2).app (.cons (hb.ext (e1.trans e2)) .nil)
  | false =>
   simp only [kad, if_false]
   refine hK' _ _ ⟨e1.trans e2, ?_⟩
   rw [qT hx, ka4, kbO, if_neg (by rw [hf]; exact kct), kc7, kaR]
   exact hA.ext e2
 ·rintro acc J' ⟨e1, hA⟩
  refine ⟨.inl (e1 _ _ h.head), zh fun p J1 hp e2 hpv => ?_⟩
  rw [hvl, kaL] at hA
  exact hq p acc J1 (e1.trans e2) ⟨hpv, hA.ext e2⟩
theorem zqq (F : F12 T) {m : Int} {rs : Rd2} {ns : List Int} {s r hp tp mi : Addr} {hv tv mv : List V} {M : List (List Int)} {o3 o5 o6 o9 o10 : Option V} (C : Ctx J m rs ns s r hp tp hv tv) (hM : LL J mi mv M) (E : zny (Rel m rs) (HH m rs) M) (hK : Fin K) :
  zdN T (d + 8) [some (.ref s), some (.ref hp), some (.ref tp), o3, some (.ref mi), o5, o6, some (.int m), some (.ref r), o9, o10] J K P := by
 have n := C.W.n
 unfold zdN
 simp only [zG, zV]
 refine zg6 (fun t h => Rel m rs h t) C.T (zhT C.W).2 rfl (fun b t J' K' e1 ht hb hK' => ?_) fun c ws Y J1 e1 hY E' => ?_
 ·simp only [zL, zB, zK, zv, zp, zq, zg, zf]
  refine qM.copy hb rfl fun b' J'' e2 hb' => ?_
  have ok := ((zeA n).mp ht).1
  have h1 := ok.len
  have h2 := n.m10
  refine zho (d := d + 3) F.heap n (C.r.ext (e1.trans e2)) hb' (by exact leN (lin r2 V0 (.num 100) [(2,1,V0,V1),(0,1,V1,.num 10)] rfl h1 h2)) (fun c g J3 hc e3 _ hC hg => ?_) fun J3 e3 h => absurd ok h
  exact hK' c (lst m.toNat g) J3 (e2.trans e3) hg (zm6 n ht hC)
 ·simp only [zp, zq]
  obtain ⟨pM, pY⟩ := zoY n E.len E'.len E.rel fun i h t hh ht => E'.rel i t h ht hh
  exact zqp F (C.ext e1) (hM.ext e1) hY pM pY hK
theorem zqr (F : F12 T) {m : Int} {rs : Rd2} {ns : List Int} {s r hp tp : Addr} {hv tv : List V} {o3 o4 o5 o6 o9 o10 : Option V} (C : Ctx J m rs ns s r hp tp hv tv) (hK : Fin K) :
  zdO T (d + 8) [some (.ref s), some (.ref hp), some (.ref tp), o3, o4, o5, o6, some (.int m), some (.ref r), o9, o10] J K P := by
 have n := C.W.n
 unfold zdO
 simp only [zG, zV]
 refine zg6 (Rel m rs) C.H (zhT C.W).1 rfl (fun b h J' K' e1 hh hb hK' => ?_) fun c ws M J1 e1 hM E => ?_
 ·simp only [zL, zB, zK, zv, zp, zq, zg, zf]
  obtain ⟨hl, R⟩ := (zeB n).mp hh
  refine (C.r.ext e1).copy rfl fun r' J2 e2 hr' => ?_
  refine qM.copy (hb.ext e2) rfl fun b' J3 e3 hb' => ?_
  refine zhf (d := d) F.tree n (hr'.ext e3) (hb'.L hl) (Rec.heapIs n fun v hv => ⟨R.nn v hv, R.rest v hv⟩) (fun c t J4 hc e4 _ hT ht => ?_) fun J4 e4 h => absurd R h
  exact hK' c t J4 ((e2.trans e3).trans e4) ht ⟨hl, hT⟩
 ·simp only [zp, zq]
  exact zqq F (C.ext e1) hM E hK
theorem zqs (F : F12 T) {m : Int} {rs : Rd2} {ns : List Int} {s r hp tp : Addr} {hv tv : List V} {o3 o4 o5 o6 o9 o10 : Option V} (C : Ctx J m rs ns s r hp tp hv tv) (hK : Fin K) :
  zdP T (d + 8) [some (.ref s), some (.ref hp), some (.ref tp), o3, o4, o5, o6, some (.int m), some (.ref r), o9, o10] J K P := by
 have n := C.W.n
 obtain ⟨c1, c2⟩ := counts n C.W.m3
 unfold zdP
 simp only [zG, zV, zL, zB, zK, zv, zg, zf]
 refine C.r.copy rfl fun r' J1 e1 hr' => ?_
 refine zcB (d := d + 3) F.M n hr' fun J2 e2 => ?_
 have C2 := C.ext (e1.trans e2)
 simp only [zp, zq, je, zgk, zcj, zdx, zL, zB, zK, zv, zg, zf]
 refine zgm (d := d + 7) F.whole ?_
 simp only [zm, kbv, kad, if_false, qH, qG, zv, zg, zf, ze]
 refine zS C2.H.head ?_
 rw [C2.H.all.length, c1]
 simp only [zd, Cmp.run, bne_self_eq_false, zm, kad, if_false]
 refine zS C2.T.head ?_
 rw [C2.T.all.length, c2]
 simp only [zd, bne_self_eq_false, zm, kad, if_false, qC]
 exact zqr F C2 hK
theorem zqt (F : F12 T) {m : Int} {rs : Rd2} {ns : List Int} {s r hp : Addr} {hv : List V} {o2 o3 o4 o5 o6 o9 o10 : Option V} (W : Few m rs) (hs : qN J s ns) (hr : zQ J r rs) (hH : LL J hp hv (HH m rs)) (hK : Fin K) :
  zdQ T (d + 8) [some (.ref s), some (.ref hp), o2, o3, o4, o5, o6, some (.int m), some (.ref r), o9, o10] J K P := by
 have n := W.n
 have hm := n.m0
 have hlen := W.len
 have hm3 := W.m3
 obtain ⟨k, rfl⟩ := kay hm
 obtain ⟨us, hu1, hu2⟩ := id hr
 unfold zdQ
 simp only [zG, zV, qX, jr, zL, zB, zK, qG, zv, zg, zf, ze]
 refine zS hu1 ?_
 rw [hu2.length]
 have hset : ∀ i, i <= rs.length -> (sets k i).length <= 128 := by
  have key : ∀ i, (sets k i).length <= 2 ^ i := by
   intro i
   induction i with
   | zero => exact kao 1
   | succ i ih =>
    have h1 := kbC (fun t : List Int => decide (t.length < k)) (sets k i)
    unfold sets
    rw [kam, kaC, kdm]
    exact leN (lin r3 (.add V0 V1) (.mulR V2 2) [(0,2,V0,V2),(0,1,V1,V0)] rfl (leI ih) (leI h1))
  intro i hi
  exact kap (key i) (kap (kbh (by decide) (kap hi hlen)) (by decide))
 refine zli (d := d + 7) F.sets (by exact leN (lin r1 V0 (.num 10) [(0,1,V0,.num 3)] rfl hm3)) (by exact leN (lin r1 V0 (.num 50) [(0,1,V0,.num 7)] rfl (leI hlen))) (fun i hi => kap (hset i hi) (by decide)) fun c vs J1 e1 hL => ?_
 simp only [ze]
 refine zei (fun t => jj (k : Int) (tro rs t)) hL ?_ (fun _ => rfl) (fun b t J' K' e2 ht hb hK' => ?_) fun p ws J2 e2 hT => ?_
 ·exact kap (kbC _ _) (kap (hset _ (kao _)) (by decide))
 ·simp only [zdx, zL, zB, zK, zv, zp, zq, zg, zf]
  have hS := ((zfU _ _).2 t).mp (kbb.mp ht).1
  exact ziD (d := d + 7) F.joined n (hr.ext (e1.trans e2)) hb hS.rng hK'
 ·simp only [zp, zq]
  have e12 := e1.trans e2
  exact zqs F ⟨W, hs.ext e12, hr.ext e12, hH.ext e12, hT⟩ hK
theorem zjF (F : F12 T) (h : FnW T "law" 1 10 (ze3 T)) {s : Addr} {ns : List Int} (hs : qN J s ns) (hq : ∀ J', Q (.bool true) J') : zA T (d + 9) "law" [.ref s] J Q P := by
 refine h (d + 8) _ _ _ _ rfl ?_
 unfold ze3
 simp only [zG, zcH, zL, zB, zK, zv, qf, qi, qe, zg, zf]
 refine zjr (d := d + 5) F.S hs fun t r J1 m rs e1 ht hr W => ?_
 have n := W.n
 refine wW ht ⟨rfl, ?_⟩
 simp only [yy, yx, zp, zq, zV, qX, jr, zL, zB, zK, zv, zg, zf]
 refine j8 (d := d + 7) F.S.L.degs n.m0 n.m10 hr n.nn fun mo J2 e2 _ hmo => ?_
 refine zgY (d := d + 7) F W hmo fun c vs J3 e3 hL => ?_
 simp only [ze]
 have e23 := e2.trans e3
 have hr3 := hr.ext e23
 refine zei (zm8 m rs) hL ?_ (fun _ => rfl) (fun b x J' K' e4 hx hb hK' => ?_) fun p ws J4 e4 hH => ?_
 ·have := W.room
  rw [zfs]; exact leN (lin r1 V0 (.num 1000) [(0,1,V0,.num 63)] rfl (leI this))
 ·simp only [zdx, zL, zB, zK, zv, zp, zq, zg, zf]
  have hl := ((zhI n).mp hx).1
  refine zeR (d := d + 6) ⟨F.S.L.degs, F.again⟩ n (hr3.ext e4) (hb.L hl) fun b' J'' e5 hb' => ?_
  rw [show b' = zm8 m rs x from kaS.mpr (hb'.trans zdp.symm)]
  exact hK' J'' e5
 ·exact zqt F W (hs.ext (e1.trans (e23.trans e4))) (hr3.ext e4) hH fun _ J' => hq J'
end
end Mine
end
section
open PySem
namespace Mine
open PySem.W PySem.Calls PyProof.Rows
theorem zk7 {vs : List Value} {ns : List Int} (h : IntsAre vs ns) : yn (zs ns) vs := by
 induction h with
 | nil => exact .nil
 | cons n t _ ih => exact .cons (.int n t) ih
noncomputable def J0 (scr : Addr) (ns : List Int) : zb := fun a => if a = scr then some (.ro (zs ns)) else none
theorem J0_script (scr : Addr) (ns : List Int) (h : ns.length <= 63) : qN (J0 scr ns) scr ns := ⟨.inl (by simp [J0]), h⟩
section
variable {view prog : Program} {loose : List Str} {mean : ExcName -> Option Value} {mg mb : Str -> Option Value} {w : World} {sB : Shared} {scr : Addr}
theorem zqZ (Tp : Top view loose mean mg mb sB.heap) : ∃ o, sB.heap.get? ka8 = some o := let ⟨o, _, _, ho, _⟩ := Tp.g; ⟨o, ho⟩
noncomputable def zgO (prog : Program) (w : World) (scr : Addr) (Tp : Top view loose mean mg mb sB.heap) : TC := ⟨prog, w, sB, sB.heap, scr, mg, mb, zqZ Tp, [], true⟩
theorem zqd (Tp : Top view loose mean mg mb sB.heap) (hi : importsNone view = true) : (zgO prog w scr Tp).Ok := ⟨Tp.g, Tp.b, Tp.nolimit, Tp.builtins, let ⟨_, ⟨o, _, _, ho, _⟩, _⟩ := (Tp.seer hi).mods; ⟨o, ho⟩⟩
theorem TC.Ok.at {T : TC} (ok : T.Ok) (fr : List Env) : (T.at fr).Ok := ⟨ok.g, ok.b, ok.nolimit, ok.builtins, ok.sysm⟩
theorem Blt.at {T : TC} (B : Blt T) (fr : List Env) : Blt (T.at fr) := ⟨B.none⟩
theorem zp7 (Tp : Top view loose mean mg mb sB.heap) {vs : List Value} {ns : List Int} (hL : sB.heap.IsList scr vs.toArray) (hI : IntsAre vs ns) (hl : ns.length <= 63) : St (zgO prog w scr Tp) (J0 scr ns) sB := by
 have only : ∀ a, (J0 scr ns a).isSome -> a = scr := fun a h => by
  unfold J0 at h; split at h
  ·assumption
  ·cases h
 refine ⟨⟨sB.heap, sB.toks, rfl⟩, fun b o h => h, fun a so h => ?_, fun a h hn => absurd (only a h) hn, fun a h hn => absurd (only a h) hn, ⟨zs ns, by simp [J0, zgO]⟩, fun env he => by cases he⟩
 have := only a (by rw [h]; rfl)
 subst this
 simp only [J0, if_true] at h
 cases h
 obtain ⟨o, ho, hc, n, hd⟩ := hL
 exact ⟨o, ho, by rw [qc]; unfold lim; exact leN (lin r1 V0 (.num 1000000) [(0,1,V0,.num 63)] rfl (leI hl)), hc, _, n, hd, by simpa using zk7 hI⟩
noncomputable def zmJ : List Str := ["len", "isinstance", "list", "int", "bool", "tuple", "range", "all", "any", "sum", "max", "min", "sorted", "set", "dict", "enumerate", "reversed", "ValueError"]
noncomputable def zpM (view : Program) (loose : List Str) : Bool := zmJ.all fun x =>
 !startupNames.contains x && !loose.contains x && !((recsOf view).map (·.name)).contains x && !((litsOf view).map (·.1)).contains x && !((clssOf view loose).map (·.name)).contains x
theorem zpL (Tp : Top view loose mean mg mb sB.heap) (h : zpM view loose = true) : Blt (zgO prog w scr Tp) := by
 refine ⟨fun x hx => ?_⟩
 have := kaZ.mp h x hx
 simp only [kaH, kbK] at this
 obtain ⟨⟨⟨⟨h1, h2⟩, h3⟩, h4⟩, h5⟩ := this
 have no : ∀ {l : List Str}, l.contains x = false -> x ∉ l := fun hc hm => by rw [kbQ.mpr hm] at hc; cases hc
 exact Tp.free x (no h1) (no h2) (no h3) (no h4) (no h5)
theorem zhS (Tp : Top view loose mean mg mb sB.heap) {x : Str} {i : Int} (h : valOf view x = some (.int i)) : ∃ t, (zgO prog w scr Tp).mg x = some (.int i t) := by
 obtain ⟨v, hv, hr⟩ := Tp.const x _ h
 have := hr sB.heap
 cases this with
 | int _ t => exact ⟨t, hv⟩
theorem zH (Tp : Top view loose mean mg mb sB.heap) {f : Str} {st : Stmt} (j : Nat) (h : ((recsOf view)[j]?).map (fun d => (d.name, d.params, d.body, d.scope)) = some (f, zw st, zt st, zo st)) :
  jK (zgO prog w scr Tp) f (zw st) (zt st) (zo st) := by
 cases e : (recsOf view)[j]? with
 | none => rw [e] at h; cases h
 | some d =>
  rw [e] at h
  simp only [kbY, Option.some.injEq, Prod.mk.injEq] at h
  obtain ⟨h1, h2, h3, h4⟩ := h
  obtain ⟨a, o, pm, code, doc, q1, q2, q3, q4⟩ := Tp.fn d (kaj e)
  refine ⟨a, o, _, by rw [<- h1]; exact q1, q2, q3, h2, by rw [<- h3]; rfl, h4, rfl, rfl, rfl, rfl, rfl, q4⟩
theorem zpC {T : TC} (ok : T.Ok) {f : Str} {st : Stmt} {ctx : List Str} {n k : Nat} {w : Nat -> SW} (fa : jK T f (zw st) (zt st) (zo st)) (fo : zlS (zw st) (zo st) ctx n = true) (hk : ctx.length - n = k)
  (hb : ∀ fd us, fd.params = zw st -> fd.defaults = .none -> fd.kwdefaults = .none -> us.length = n -> bindArgs fd ⟨us, []⟩ = pure (((zw st).args.map (·.arg)).zip us))
  (hs : ∀ d fr, jn (T.at fr) d (zo st) ctx (zt st) (w d)) : FnW T f n k w := fun d vs J Q P hn hw => zoq ok fa (zop fo) hb (fun fr => (hs d fr).own) hn (by rw [hk]; exact hw)
theorem zfI {fd : FuncData} {params : Arguments} {us : List Value} {r : Sem (List (Str × Value))} (h1 : fd.params = params) (h2 : fd.defaults = .none) (h3 : fd.kwdefaults = .none)
  (h : ∀ fd : FuncData, bindArgs { fd with params := params, defaults := .none, kwdefaults := .none } ⟨us, []⟩ = r) : bindArgs fd ⟨us, []⟩ = r := by
 have := h fd
 cases fd
 simp only at h1 h2 h3
 subst h1 h2 h3
 exact this
theorem zhM {us : List Value} {n : Nat} (h : us.length = n + 1) : ∃ a r, us = a :: r /\ r.length = n := by
 cases us with
 | nil => cases h
 | cons a r => exact ⟨a, r, rfl, Nat.succ.inj h⟩
theorem zqB {fd : FuncData} {params : Arguments} {us : List Value} {names : List Str} (h1 : fd.params = params) (h2 : fd.defaults = .none) (h3 : fd.kwdefaults = .none) (hn : us.length = 1)
  (h : ∀ (fd : FuncData) a0, bindArgs { fd with params := params, defaults := .none, kwdefaults := .none } ⟨[a0], []⟩ = pure (names.zip [a0])) : bindArgs fd ⟨us, []⟩ = pure (names.zip us) := by
 obtain ⟨a0, u0, rfl, k0⟩ := zhM hn
 obtain rfl := kaA k0
 exact zfI h1 h2 h3 fun fd => h fd a0
theorem zqA {fd : FuncData} {params : Arguments} {us : List Value} {names : List Str} (h1 : fd.params = params) (h2 : fd.defaults = .none) (h3 : fd.kwdefaults = .none) (hn : us.length = 2)
  (h : ∀ (fd : FuncData) a0 a1, bindArgs { fd with params := params, defaults := .none, kwdefaults := .none } ⟨[a0, a1], []⟩ = pure (names.zip [a0, a1])) : bindArgs fd ⟨us, []⟩ = pure (names.zip us) := by
 obtain ⟨a0, u0, rfl, k0⟩ := zhM hn
 obtain ⟨a1, u1, rfl, k1⟩ := zhM k0
 obtain rfl := kaA k1
 exact zfI h1 h2 h3 fun fd => h fd a0 a1
theorem zqz {fd : FuncData} {params : Arguments} {us : List Value} {names : List Str} (h1 : fd.params = params) (h2 : fd.defaults = .none) (h3 : fd.kwdefaults = .none) (hn : us.length = 3)
  (h : ∀ (fd : FuncData) a0 a1 a2, bindArgs { fd with params := params, defaults := .none, kwdefaults := .none } ⟨[a0, a1, a2], []⟩ = pure (names.zip [a0, a1, a2])) : bindArgs fd ⟨us, []⟩ = pure (names.zip us) := by
 obtain ⟨a0, u0, rfl, k0⟩ := zhM hn
 obtain ⟨a1, u1, rfl, k1⟩ := zhM k0
 obtain ⟨a2, u2, rfl, k2⟩ := zhM k1
 obtain rfl := kaA k2
 exact zfI h1 h2 h3 fun fd => h fd a0 a1 a2
theorem zqy {fd : FuncData} {params : Arguments} {us : List Value} {names : List Str} (h1 : fd.params = params) (h2 : fd.defaults = .none) (h3 : fd.kwdefaults = .none) (hn : us.length = 5)
  (h : ∀ (fd : FuncData) a0 a1 a2 a3 a4, bindArgs { fd with params := params, defaults := .none, kwdefaults := .none } ⟨[a0, a1, a2, a3, a4], []⟩ = pure (names.zip [a0, a1, a2, a3, a4])) : bindArgs fd ⟨us, []⟩ = pure (names.zip us) := by
 obtain ⟨a0, u0, rfl, k0⟩ := zhM hn
 obtain ⟨a1, u1, rfl, k1⟩ := zhM k0
 obtain ⟨a2, u2, rfl, k2⟩ := zhM k1
 obtain ⟨a3, u3, rfl, k3⟩ := zhM k2
 obtain ⟨a4, u4, rfl, k4⟩ := zhM k3
 obtain rfl := kaA k4
 exact zfI h1 h2 h3 fun fd => h fd a0 a1 a2 a3 a4
theorem zos (Tp : Top view loose mean mg mb sB.heap) {vs : List Value} {ns : List Int} {fa : Addr} {d : Nat} (hL : sB.heap.IsList scr vs.toArray) (hI : IntsAre vs ns) (hl : ns.length <= 63) (hmg : mg "law" = some (.ref fa)) (hd : d <= 600)
  (hc : zA (zgO prog w scr Tp) d "law" [.ref scr] (J0 scr ns) (fun v _ => v = .bool true) (fun _ _ => False)) {Q : Value -> Shared -> Prop} {E : Value -> Shared -> Prop}
  (hq : ∀ s', (∀ b o, sB.heap.get? b = some o -> s'.heap.get? b = some o) -> s'.os = sB.os -> s'.gens = sB.gens -> Q (.bool true) s') :
  wpAny (model prog w) callerA (call (.ref fa) [.ref scr]) Q E sB := by
 obtain ⟨fa', o, fd, h1, h2, h3, h⟩ := hc
 have e : fa' = fa := by
  have : (zgO prog w scr Tp).mg "law" = some (.ref fa) := hmg
  rw [h1] at this; cases this; rfl
 subst e
 have st := zp7 (prog := prog) (w := w) Tp hL hI hl
 have ro : zaR ((zgO prog w scr Tp).at []) callerA d := ⟨fun _ => rfl, rfl, by show 1 + claimMargin + d < recursionLimit; have : claimMargin = 300 := rfl; have : recursionLimit = 1000 := rfl; (first | lia | omega), by show 4 + 4 * d + 100 < cLine; have : cLine > 3000 := (by decide +kernel); (first | lia | omega)⟩
 refine kaz (h [] callerA sB [.ref scr] ro st (.cons (.ref scr) .nil)) (fun v s' hp => ?_) fun e s' hp => ?_
 ·obtain ⟨v', J', hv, st', p, rfl⟩ := hp
  cases hv
  obtain ⟨h', tk, rfl⟩ := st'.rest
  refine hq _ (fun b o hb => p.keepX ?_ (by simp) (fun h => by cases h) hb) rfl rfl
  unfold zpb J0
  by_cases hbs : b = scr
  ·exact .inr hbs
  ·exact .inl (by simp [hbs])
 ·obtain ⟨_, _, _, _, _, f⟩ := hp; exact f.elim
end
noncomputable def zcG (x : Nat) : List Str := if x = 0 then [] else ["YardError"]
noncomputable def zig (h : Heap) (name : Str) : Bool := match h.clsAt ka8 name with
 | some (_, _, cd) => zo1.all fun n => (h.nsMap cd.ns n).isNone
 | none => false
noncomputable def znL (xs : List Nat) (h : Heap) : Bool := h.isNs ka8 && xs.contains 0 && xs.all fun x => h.ownExcOk (qS x) (zcG x) bmV "ValueError.__new__" && zig h (qS x) && xs.all fun y => decide (h.nsMap ka8 (qS x) = h.nsMap ka8 (qS y)) == (x == y)
theorem znc {h : Heap} {x : Nat} (a : h.ownExcOk (qS x) (zcG x) bmV "ValueError.__new__" = true) (b : zig h (qS x) = true) :
  ∃ (C : Addr) (p : CP), h.nsMap ka8 (qS x) = some (.ref C) /\
   p.bm = ((zcG x).map fun n => (h.nsMap ka8 n).getD .none) ++ bmV /\ h.get? C = some (p.obj C "ValueError.__new__") /\ h.Ns p.N (h.nsMap p.N) /\ ∀ n ∈ zo1, h.nsMap p.N n = none := by
 obtain ⟨C, N, nm, q, bs, hdct, sn, sub, ab, col, dd, k0, k1, k2, k3, k5, hb, hC, hN, _⟩ := Heap.ownExc_of_ok a
 refine ⟨C, ⟨nm, q, N, bs, _, hdct, sn, sub, ab, col, dd, k0, k1, k2, k3, k5⟩, hb, rfl, hC, hN, fun n hn => ?_⟩
 unfold zig at b
 cases hf : h.clsAt ka8 (qS x) with
 | none => rw [hf] at b; cases b
 | some z =>
  obtain ⟨C', o', cd'⟩ := z
  rw [hf] at b
  obtain ⟨hn', ho', hd'⟩ := Heap.clsAt_spec hf
  rw [hb] at hn'
  obtain rfl : C = C' := by injection hn' with q1; injection q1
  rw [hC] at ho'
  obtain rfl := Option.some.inj ho'
  obtain rfl : _ = cd' := by injection hd'
  exact Option.isNone_iff_eq_none.mp (kaZ.mp b n hn)
theorem zp4 {xs : List Nat} {h : Heap} (e : znL xs h = true) : XG (h.nsMap ka8) h xs := by
 unfold znL at e
 rw [kaH, kaH] at e
 obtain ⟨⟨_, e0⟩, e⟩ := e
 have h0 : 0 ∈ xs := kbQ.mp e0
 have each : ∀ x ∈ xs, (h.ownExcOk (qS x) (zcG x) bmV "ValueError.__new__" = true /\ zig h (qS x) = true) /\ ∀ y ∈ xs, (h.nsMap ka8 (qS x) = h.nsMap ka8 (qS y) ↔ x = y) := by
  intro x hx
  have := kaZ.mp e x hx
  rw [kaH, kaH] at this
  refine ⟨this.1, fun y hy => ?_⟩
  have := kaZ.mp this.2 y hy
  rw [beq_iff_eq] at this
  rw [<- decide_eq_true_iff (p := h.nsMap ka8 (qS x) = h.nsMap ka8 (qS y)), this, beq_iff_eq]
 intro x hx
 obtain ⟨C, p, hb, hbm, hC, hN, hq⟩ := znc (each x hx).1.1 (each x hx).1.2
 obtain ⟨C', p', hb', hbm', hC', hN', hq'⟩ := znc (each 0 h0).1.1 (each 0 h0).1.2
 have hb0 : h.nsMap ka8 "YardError" = some (.ref C') := hb'
 have ref_eq : ∀ y ∈ xs, ∀ Cy, h.nsMap ka8 (qS y) = some (.ref Cy) -> (Value.ref Cy == Value.ref C) = (x == y) /\ (Value.ref Cy == Value.ref C') = (y == 0) := by
  intro y hy Cy hCy
  have a1 := (each x hx).2 y hy
  have a2 := (each y hy).2 0 h0
  rw [hb, hCy] at a1
  rw [hb', hCy] at a2
  constructor
  ·rw [kaS, beq_iff_eq, beq_iff_eq, <- a1]
   exact ⟨fun q => by rw [q], fun q => (Option.some.inj q).symm⟩
  ·rw [kaS, beq_iff_eq, beq_iff_eq, <- a2]
   exact ⟨fun q => by rw [q], fun q => Option.some.inj q⟩
 have bmN : ∀ Cy : Addr, bmV.contains (Value.ref Cy) = false := fun Cy => rfl
 refine ⟨C, hb, p, _, hC, hN, hq, ?_, fun y hy Cy hCy => ?_⟩ <;> rw [hbm]
 ·by_cases hx0 : x = 0
  ·subst hx0; exact .base
  ·unfold zcG
   rw [if_neg hx0]
   show zjk h ((h.nsMap ka8 "YardError").getD .none :: bmV)
   rw [hb0]
   exact .own hC' hN' hq' .base
 ·obtain ⟨r1, r2⟩ := ref_eq y hy Cy hCy
  by_cases hx0 : x = 0
  ·subst hx0
   show (Value.ref C :: bmV).contains (Value.ref Cy) = _
   rw [kcR, bmN, r1, kdg, zpU, kaS, kbt, beq_iff_eq, beq_iff_eq]
   exact ⟨.inl, fun q => q.elim id Eq.symm⟩
  ·unfold zcG
   rw [if_neg hx0]
   show (Value.ref C :: (h.nsMap ka8 "YardError").getD .none :: bmV).contains (Value.ref Cy) = _
   rw [hb0]
   show (Value.ref C :: Value.ref C' :: bmV).contains (Value.ref Cy) = _
   rw [kcR, kcR, bmN, r1, r2, kdg, zpU]
theorem XG.keeps {mg : Str -> Option Value} {h h' : Heap} {xs : List Nat} (X : XG mg h xs) (hk : ∀ b o, h.get? b = some o -> h'.get? b = some o) : XG mg h' xs := fun x hx => by
 obtain ⟨C, hm, p, mN, hC, hN, hq, hT, hs⟩ := X x hx
 exact ⟨C, hm, p, mN, hk _ _ hC, hN.keeps hk, hq, hT.keeps hk, hs⟩
noncomputable def zoR (xs : List Nat) : Hook := ⟨Bool, fun s => znL xs s.heap, fun _ => true, fun _ h => ∃ m, h.Ns ka8 m /\ XG m h xs,
 fun _ s e => ⟨_, .of_isNs (by have e' : znL xs s.heap = true := e; unfold znL at e'; rw [kaH, kaH] at e'; exact e'.1.1), zp4 e⟩,
 fun _ h h' ⟨m, a, b⟩ hk => ⟨m, a.keeps hk, b.keeps hk⟩⟩
theorem zp5 {view prog : Program} {loose : List Str} {mean : ExcName -> Option Value} {mg mb : Str -> Option Value} {w : World} {sB : Shared} {scr : Addr} (Tp : Top view loose mean mg mb sB.heap) {xs : List Nat} (Y : (zoR xs).says w sB.heap) : XF (zgO prog w scr Tp) xs := by
 obtain ⟨m, hm, X⟩ := Y
 obtain rfl : m = mg := funext fun n => hm.agree Tp.g n
 exact X
end Mine
end
section
open PySem
set_option maxRecDepth 100000
set_option maxHeartbeats 2000000
namespace Mine
open PySem.Calls PyProof.Rows
noncomputable def zeD : List Str := "is_within" :: "is_road" :: "come_to" :: "need_net" :: "need_heap" :: "need_tree" :: "other_end" :: "counts_at" :: "pit_counts" :: "table_of" :: "swapped" :: "first_other" :: "determinant" :: "solved" :: "after" :: "least_times" :: "fallen" :: "rests" :: "is_again" :: "need_again" :: "comes_again" :: "roads_to" :: "least_of" :: "keys_of" :: "tree_of" :: "heap_of" :: "how_many" :: "_law_cell_at" :: "_law_whole" :: "_law_mixed" :: "_law_turned" :: "_law_net" :: "_law_degrees" :: "_law_again" :: "_law_joined" :: "_law_room" :: "_law_small" :: "_law_heaps" :: "_law_sets" :: "_law_expanded" :: "_law_determinant" :: "_law_table" :: "law" :: []
noncomputable def zlQ : List (Str × Int) := [("MOST_PLACES", 10), ("MOST_ROADS", 40), ("MOST_GRAINS", 1000000000)]
theorem sC {T : TC} {fr : List Env} {d : Nat} {sc : Scope} {ctx : List Str} (ok : (T.at fr).Ok) (F : ∀ f ∈ zeD, zdJ T f) {f : Str} {p pos e r} {ws : EWs} (h : zgN (T.at fr) d sc ctx (e :: r) ws) (hx : sc.names.lookup f = some .globalImplicit := by decide +kernel) (hm : f ∈ zeD := by decide +kernel) (hd : (f == ("__debug__" : Str)) = false := by decide) (he : ∀ env, starEach (e :: r) env = (false, eval e env) :: starEach r env := by intro _; rfl) : zC (T.at fr) d sc ctx (.Call (.Name f p) (e :: r) [] pos) (zD T d f ws) := znZ ok h hx hd he (F _ hm)
theorem sA {T : TC} {d : Nat} {sc : Scope} {ctx : List Str} {x e p pos} {a : EW} (i : Nat) (h : zC T d sc ctx e a) (hx : ctx[i]? = some x := by rfl) (hk : zck (sc.names.lookup x) = true := by decide +kernel) (hs : ∀ env, swapsWith e (some (.Name x p)) pos.line env = pure false := by intro _; rfl) : zbA T d sc ctx (.Assign [.Name x p] e pos) (zW i a) := zpp i hx hk h hs
theorem tN {sc : Scope} {ctx : List Str} {x : Str} {p i} (h : ctx[i]? = some x := by rfl) (hk : zck (sc.names.lookup x) = true := by decide +kernel) : zj1 sc ctx false (.Name x p) (.nm i) := .nm h hk (by intro h; cases h)
theorem tC {sc : Scope} {ctx : List Str} {x : Str} {p i r is} (n : jX sc ctx false r is) (h : ctx[i]? = some x := by rfl) (hk : zck (sc.names.lookup x) = true := by decide +kernel) : jX sc ctx false (.Name x p :: r) (i :: is) := .cons h hk (by intro h; cases h) n
section
variable {T : TC} {fr : List Env} {d : Nat} (ok : (T.at fr).Ok) (B : Blt (T.at fr)) (C : (T.at fr).calm = true) (F : ∀ f ∈ zeD, zdJ T f) (G : ∀ p ∈ zlQ, ∃ t, T.mg p.1 = some (.int p.2 t)) (X : XF (T.at fr) [0, 1, 2, 4, 6])
include ok B C F G X
noncomputable abbrev yP : Stmt := z1 kab 10
theorem zgh : jn (T.at fr) d (zo yP) ziP (zt yP) (yH T d) :=
 (zk (zN (zch (zad (zcs ok B .int (za 0) (by decide +kernel) (by decide +kernel) rfl) (zad (zm5 (zcs ok B .bool (za 0) (by decide +kernel) (by decide +kernel) rfl)) (zfd (zmb .le .le rfl rfl (za 1) (za 0) (za 2))))))))
noncomputable abbrev zal : Stmt := z1 kab 11
theorem ziv : jn (T.at fr) d (zo zal) zlE (zt zal) (za4 T d) :=
 (zj (z7 (zP (qU (jY (qb (zcs ok B .tuple (za 1) (by decide +kernel) (by decide +kernel) rfl))) (q0 (zx .ne rfl (qd ok B (za 1)) zl)))) (zk (zN qp)) zJ)
  (zk (zN (zch (zad (sC ok F (zc (zu (za 1) zl) (zc zl (zc (za 0) zn)))) (zad (sC ok F (zc (zu (za 1) zl) (zc zl (zc (za 0) zn)))) (zfd (zaw .ne rfl (zu (za 1) zl) (zu (za 1) zl)))))))))
noncomputable abbrev zan : Stmt := z1 kab 12
theorem zix : jn (T.at fr) d (zo zan) zlG (zt zan) (za5 T d) :=
 (zj (sA 2 (zba (za 0) qp))
  (zj (sA 3 qp)
  (zj (za9 (qb (za 3)) (zj (sA 3 qp)
  (zk (qn (.tup (tC (tC .nil))) (z2 (za 1)) (zk (z7 (zfT true rfl (zh8 false rfl (za 4) (za 2)) (zh8 false rfl (za 5) (za 2))) (zj (jd (za 2) (za 4) qp)
  (zj (jd (za 2) (za 5) qp)
  (zk (sA 3 qp)))) zJ))))))
  (zk (zN (za 2))))))
noncomputable abbrev wB : Stmt := z1 kab 13
theorem zhj : jn (T.at fr) d (zo wB) zjS (zt wB) (zbp T d) :=
 (zj (z7 (zP (qU (jY (qb (sC ok F (zc (za 0) (zc zl (zc (zhE ok (G ("MOST_PLACES", 10) (by decide +kernel)) (by decide +kernel) (by decide +kernel)) zn)))))) (qU (jY (qb (zcs ok B .list (za 1) (by decide +kernel) (by decide +kernel) rfl))) (q0 (zx .gt rfl (qd ok B (za 1)) (zhE ok (G ("MOST_ROADS", 40) (by decide +kernel)) (by decide +kernel) (by decide +kernel))))))) (zk zfc) zJ)
  (zk (z7 (zP (qU (jY (qb (zfg ok B (yX (zX (by decide +kernel)) (z2 (za 1)) trivial (sC ok F (zc (za 0) (zc (za 2) zn))))))) (q0 (zx .ne rfl (qd ok B (sC ok F (zc (za 0) (zc (za 1) zn)))) (zT (za 0) zl))))) (zk zfc) zJ)))
noncomputable abbrev yL : Stmt := z1 kab 14
theorem zgd : jn (T.at fr) d (zo yL) ziM (zt yL) (yG T d) :=
 (zj (z7 (zP (qU (jY (qb (zcs ok B .list (za 1) (by decide +kernel) (by decide +kernel) rfl))) (q0 (zx .ne rfl (qd ok B (za 1)) (za 0))))) (zk zfc) zJ)
  (zk (z7 (jY (qb (zfg ok B (yX (zX (by decide +kernel)) (z2 (za 1)) trivial (sC ok F (zc (za 2) (zc zl (zc (zhE ok (G ("MOST_GRAINS", 1000000000) (by decide +kernel)) (by decide +kernel) (by decide +kernel)) zn)))))))) (zk zfc) zJ)))
noncomputable abbrev yK : Stmt := z1 kab 15
theorem zgc : jn (T.at fr) d (zo yK) ziL (zt yK) (zaH T d) :=
 (zj (z7 (zP (qU (jY (qb (zcs ok B .list (za 2) (by decide +kernel) (by decide +kernel) rfl))) (q0 (zx .ne rfl (qd ok B (za 2)) (za 0))))) (zk (zdl ok X (x := 4) (by decide) rfl (by decide +kernel) (by decide +kernel))) zJ)
  (zj (z7 (zP (qU (jY (qb (zfg ok B (yX (zX (by decide +kernel)) (z2 (za 2)) trivial (sC ok F (zc (za 3) (zc zl (zc (jx (qd ok B (za 1)) zl) zn)))))))) (q0 (zx .ne rfl (zlh ok B (za 2) (by decide +kernel) (by decide +kernel)) (za 0))))) (zk (zdl ok X (x := 4) (by decide) rfl (by decide +kernel) (by decide +kernel))) zJ)
  (zk (z7 (zx .ne rfl (qd ok B (sC ok F (zc (za 0) (zc (yX (zX (by decide +kernel)) (z2 (za 2)) trivial (zu (za 1) (za 3))) zn)))) (zT (za 0) zl)) (zk (zdl ok X (x := 4) (by decide) rfl (by decide +kernel) (by decide +kernel))) zJ))))
noncomputable abbrev yJ : Stmt := z1 kab 17
theorem zgb : jn (T.at fr) d (zo yJ) ziK (zt yJ) (jF T d) :=
 (zk (zN (zp8 (zx .eq rfl (zu (za 0) zl) (za 1)) (zu (za 0) zl) (zu (za 0) zl))))
noncomputable abbrev yQ : Stmt := z1 kab 18
theorem zgi : jn (T.at fr) d (zo yQ) ziQ (zt yQ) (jG T d) :=
 (zj (sA 2 (zbD (qa (zc zl zn)) (za 0)))
  (zj (qn tN (z2 (za 1)) (zk (qn tN (z2 (za 3)) (zk (z7 (zx .lt rfl (za 4) (za 0)) (zk (jd (za 2) (za 4) (zT (zu (za 2) (za 4)) zl))) zJ)))))
  (zk (zN (za 2)))))
noncomputable abbrev yb : Stmt := z1 kab 19
theorem zeJ : jn (T.at fr) d (zo yb) zhv (zt yb) (ya T d) :=
 (zj (sA 2 (zbD (qa (zc zl zn)) (za 0)))
  (zj (qn tN (z2 (za 1)) (zk (z7 (zdn false rfl (za 0) (za 3)) (zj (sA 4 (sC ok F (zc (za 3) (zc (za 0) zn))))
  (zk (jd (za 2) (za 4) (zT (zu (za 2) (za 4)) zl)))) zJ)))
  (zk (zN (za 2)))))
noncomputable abbrev wz : Stmt := z1 kab 20
theorem zhh : jn (T.at fr) d (zo wz) zjQ (zt wz) (zas T d) :=
 (zj (qz (i := 2) rfl (by decide +kernel) (zX (by decide +kernel)) (qk ok B (za 0)) trivial (zbD (qa (zc zl zn)) (za 0)))
  (zj (qn (.tup (tC (tC .nil))) (z2 (za 1)) (zk (qn (.tup (tC (tC .nil))) (z2 (qa (zc (zac (zc (za 3) (zc (za 4) zn))) (zc (zac (zc (za 4) (zc (za 3) zn))) zn)))) (zk (z7 (zx .lt rfl (za 5) (za 0)) (zj (jd (zu (za 2) (za 5)) (za 5) (zT (zu (zu (za 2) (za 5)) (za 5)) zl))
  (zk (z7 (zx .lt rfl (za 6) (za 0)) (zk (jd (zu (za 2) (za 5)) (za 6) (jx (zu (zu (za 2) (za 5)) (za 6)) zl))) zJ))) zJ)))))
  (zk (zN (za 2)))))
noncomputable abbrev zai : Stmt := z1 kab 22
theorem zis : jn (T.at fr) d (zo zai) zlB (zt zai) (za2 T d) :=
 (zj (sA 3 (wQ ok B (za 0)))
  (zj (jd (za 3) (za 1) (zu (za 0) (za 2)))
  (zj (jd (za 3) (za 2) (zu (za 0) (za 1)))
  (zk (zN (za 3))))))
noncomputable abbrev jT : Stmt := z1 kab 23
theorem zep : jn (T.at fr) d (zo jT) zgC (zt jT) (yu T d) :=
 (zj (qn tN (zdj ok B (za 1) (qd ok B (za 0))) (zk (z7 (zx .ne rfl (zu (zu (za 0) (za 2)) (za 1)) zl) (zk (zN (za 2))) zJ)))
  (zk (zN zkw)))
noncomputable abbrev jU : Stmt := z1 kab 24
theorem zeq : jn (T.at fr) d (zo jU) zgD (zt jU) (wu T d) :=
 (zj (qz (i := 0) rfl (by decide +kernel) (zX (by decide +kernel)) (z2 (za 0)) trivial (wQ ok B (za 6)))
  (zj (sA 1 zl)
  (zj (sA 2 zl)
  (zj (qn tN (qk ok B (qd ok B (za 0))) (zj (sA 4 (sC ok F (zc (za 0) (zc (za 3) zn))))
  (zj (z7 (ziy false rfl (za 4)) (zk (zN zl)) zJ)
  (zj (z7 (zx .ne rfl (za 4) (za 3)) (zj (sA 0 (sC ok F (zc (za 0) (zc (za 3) (zc (za 4) zn)))))
  (zk (sA 1 (jx zl (za 1))))) zJ)
  (zj (qn tN (zdj ok B (zT (za 3) zl) (qd ok B (za 0))) (zk (qn tN (zdj ok B (zT (za 3) zl) (qd ok B (za 0))) (zj (sA 8 (jx (qZ (zu (zu (za 0) (za 5)) (za 7)) (zu (zu (za 0) (za 3)) (za 3))) (qZ (zu (zu (za 0) (za 5)) (za 3)) (zu (zu (za 0) (za 3)) (za 7)))))
  (zk (jd (zu (za 0) (za 5)) (za 7) (yw (za 8) (za 2))))))))
  (zk (sA 2 (zu (zu (za 0) (za 3)) (za 3)))))))))
  (zk (zN (qZ (za 1) (za 2))))))))
noncomputable abbrev zbd : Stmt := z1 kab 25
theorem zjs : jn (T.at fr) d (zo zbd) zmH (zt zbd) (za7 T d) :=
 (zj (sA 2 (qa zn))
  (zj (qn tN (qk ok B (qd ok B (za 0))) (zj (qz (i := 4) rfl (by decide +kernel) (zX (by decide +kernel)) (z2 (za 0)) trivial (wQ ok B (za 6)))
  (zj (qn tN (qk ok B (qd ok B (za 0))) (zk (jd (zu (za 4) (za 5)) (za 3) (zu (za 1) (za 5)))))
  (zk (jH (zc9 (za 2) (sC ok F (zc (za 4) zn))))))))
  (zk (zN (za 2)))))
noncomputable abbrev zcz : Stmt := z1 kab 27
theorem zlg : jn (T.at fr) d (zo zcz) zoD (zt zcz) (zdv T d) :=
 (zj (sA 3 (wQ ok B (za 1)))
  (zj (qn tN (qk ok B (qd ok B (za 1))) (zk (qn tN (qk ok B (qd ok B (za 1))) (zk (jd (za 3) (za 5) (jx (zu (za 3) (za 5)) (qZ (zu (zu (za 0) (za 4)) (za 5)) (zu (za 2) (za 4)))))))))
  (zk (zN (za 3)))))
noncomputable abbrev jN : Stmt := z1 kab 28
theorem zej : jn (T.at fr) d (zo jN) zgw (zt jN) (yq T d) :=
 (zj (sA 2 (sC ok F (zc (za 0) zn)))
  (zj (qz (i := 3) rfl (by decide +kernel) (zX (by decide +kernel)) (qk ok B (qd ok B (za 1))) trivial (zT (jx (zu (za 1) (za 4)) (zu (zu (za 0) (za 4)) (za 4))) zl))
  (zk (zN (yX (zX (by decide +kernel)) (z2 (sC ok F (zc (za 0) (zc (za 3) zn)))) trivial (zky ok B zl (jx zl (yw (jx zl (za 5)) (za 2)))))))))
noncomputable abbrev zbe : Stmt := z1 kab 29
theorem zjt : jn (T.at fr) d (zo zbe) zmI (zt zbe) (zde T d) :=
 (zj (sA 3 (sC ok F (zc (za 0) (zc (za 1) zn))))
  (zj (sA 4 (sC ok F (zc (za 3) (zc (za 2) zn))))
  (zj (sA 5 (sC ok F (zc (za 3) (zc (za 2) (zc (za 4) zn)))))
  (zj (sA 6 qp)
  (zj (za9 (qb (za 6)) (zj (sA 6 qp)
  (zk (qn tN (qk ok B (za 0)) (zk (z7 (zx .ge rfl (zu (za 5) (za 7)) (zu (zu (za 3) (za 7)) (za 7))) (zj (sA 8 (zbD (qa (zc zl zn)) (za 0)))
  (zj (jd (za 8) (za 7) (yw (zu (za 5) (za 7)) (zu (zu (za 3) (za 7)) (za 7))))
  (zj (sA 5 (sC ok F (zc (za 3) (zc (za 5) (zc (za 8) zn)))))
  (zj (jd (za 4) (za 7) (zT (zu (za 4) (za 7)) (zu (za 8) (za 7))))
  (zk (sA 6 qp)))))) zJ))))))
  (zk (zN (zac (zc (za 5) (zc (za 4) zn))))))))))
noncomputable abbrev zcx : Stmt := z1 kab 30
theorem zle : jn (T.at fr) d (zo zcx) zoB (zt zcx) (zcn T d) :=
 (zj (sA 3 (sC ok F (zc (za 0) (zc (za 1) zn))))
  (zk (zN (zfg ok B (yX (zX (by decide +kernel)) (qk ok B (za 0)) trivial (zaw .lt rfl (zu (za 2) (za 4)) (zu (za 3) (za 4))))))))
noncomputable abbrev wD : Stmt := z1 kab 32
theorem zhl : jn (T.at fr) d (zo wD) zjU (zt wD) (zat T d) :=
 (zj (z7 (jY (qb (sC ok F (zc (za 0) (zc (za 1) (zc (za 2) zn)))))) (zk (zN qp)) zJ)
  (zj (sA 3 (sC ok F (zc (za 0) (zc (za 1) zn))))
  (zj (qz (i := 4) rfl (by decide +kernel) (zX (by decide +kernel)) (qk ok B (za 0)) trivial (zT (zu (za 2) (za 5)) (zu (za 3) (za 5))))
  (zk (zN (zp9 false rfl (zu (sC ok F (zc (za 0) (zc (za 1) (zc (za 4) zn)))) zl) (za 2)))))))
noncomputable abbrev yc : Stmt := z1 kab 33
theorem zeK : jn (T.at fr) d (zo yc) zhw (zt yc) (y4 T d) :=
 (zk (z7 (jY (qb (sC ok F (zc (za 0) (zc (za 1) (zc (za 2) zn)))))) (zk (zdl ok X (x := 6) (by decide) rfl (by decide +kernel) (by decide +kernel))) zJ))
noncomputable abbrev jV : Stmt := z1 kab 34
theorem zer : jn (T.at fr) d (zo jV) zgE (zt jV) (wv T d) :=
 (zj (jH (sC ok F (zc (za 0) (zc (za 1) zn))))
  (zj (jH (sC ok F (zc (za 0) (zc (za 2) zn))))
  (zk (zN (sC ok F (zc (za 0) (zc (za 1) (zc (za 2) zn))))))))
noncomputable abbrev wA : Stmt := z1 kab 36
theorem zhi : jn (T.at fr) d (zo wA) zjR (zt wA) (zbn T d) :=
 (zk (zN (zma ok B (zmF (by decide +kernel)) (za 0) (by decide +kernel) (zP (js (zdn false rfl (za 1) (za 4)) (jk (wR false rfl (sC ok F (zc (za 4) (zc (za 1) zn))) (za 2))))) (za 3))))
noncomputable abbrev wC : Stmt := z1 kab 37
theorem zhk : jn (T.at fr) d (zo wC) zjT (zt wC) (zbq T d) :=
 (zj (sA 5 (zT (qd ok B (sC ok F (zc (za 1) (zc (za 2) (zc (za 3) zn))))) (qd ok B (sC ok F (zc (za 1) (zc (za 2) (zc (za 4) zn)))))))
  (zk (zN (jx (zu (sC ok F (zc (za 0) (zc (za 1) zn))) (za 2)) (za 5)))))
noncomputable abbrev zak : Stmt := z1 kab 38
theorem ziu : jn (T.at fr) d (zo zak) zlD (zt zak) (za3 T d) :=
 (zj (sA 2 (zl9 ok B (za 0)))
  (zj (jH (zpm (za 2) (za 1)))
  (zk (zN (za 2)))))
noncomputable abbrev zah : Stmt := z1 kab 39
theorem zir : jn (T.at fr) d (zo zah) zlA (zt zah) (zcd T d) :=
 (zj (jH (sC ok F (zc (za 0) (zc (za 1) zn))))
  (zj (jH (sC ok F (zc (za 0) (zc (za 2) zn))))
  (zj (jH (sC ok F (zc (za 0) (zc (za 1) (zc (za 2) zn)))))
  (zj (sA 3 (qa zn))
  (zj (sA 4 zdm)
  (zj (sA 5 (zba (za 0) qp))
  (zj (za9 (zx .gt rfl (qd ok B (za 5)) zl) (zj (sA 6 (sC ok F (zc (za 4) (zc (za 5) zn))))
  (zj (sA 7 zdm)
  (zj (qn tN (qk ok B (za 0)) (zj (sA 9 (sC ok F (zc (za 0) (zc (za 1) (zc (za 8) (zc (za 4) (zc (za 5) zn)))))))
  (zk (z7 (zP (js (wR true rfl (za 8) (za 6)) (jk (zx .ge rfl (zu (za 2) (za 8)) (za 9))))) (zj (jH (zc9 (za 3) (zu (sC ok F (zc (za 1) (zc (za 8) (zc (za 5) zn)))) (jx (zu (za 2) (za 8)) (za 9)))))
  (zk (jd (za 7) (za 8) qp))) zJ))))
  (zj (sA 4 (za 6))
  (zk (sA 5 (za 7))))))))
  (zk (zN (znY ok B (za 3)))))))))))
noncomputable abbrev zam : Stmt := z1 kab 40
theorem ziw : jn (T.at fr) d (zo zam) zlF (zt zam) (zcf T d) :=
 (zj (jH (sC ok F (zc (za 0) (zc (za 1) zn))))
  (zj (jH (sC ok F (zc (za 0) (zc (za 1) (zc (za 2) zn)))))
  (zj (sA 3 (zbD (qa (zc zl zn)) (za 0)))
  (zj (sA 4 zdm)
  (zj (sA 5 (zba (za 0) qp))
  (zj (za9 (zx .gt rfl (qd ok B (za 5)) zl) (zj (sA 6 (sC ok F (zc (za 4) (zc (za 5) zn))))
  (zj (sA 7 zdm)
  (zj (qn tN (qk ok B (za 0)) (zj (sA 9 (sC ok F (zc (za 1) (zc (za 8) (zc (za 5) zn)))))
  (zj (qz (i := 10) rfl (by decide +kernel) (zX (by decide +kernel)) (z2 (za 9)) (zdn false rfl (za 11) (za 2)) (za 11))
  (zk (z7 (zP (js (wR true rfl (za 8) (za 6)) (jk (zx .gt rfl (qd ok B (za 10)) zl)))) (zj (jd (za 3) (za 8) (zT (sC ok F (zc (za 0) (zc (za 1) (zc (za 8) (zc (za 4) (zc (za 5) zn)))))) (zpo (za 9) (zu (za 10) zl))))
  (zk (jd (za 7) (za 8) qp))) zJ)))))
  (zj (sA 4 (za 6))
  (zk (sA 5 (za 7))))))))
  (zk (zN (za 3)))))))))
noncomputable abbrev wE : Stmt := z1 kab 41
theorem zhm : jn (T.at fr) d (zo wE) zjV (zt wE) (zbr T d) :=
 (zj (jH (sC ok F (zc (za 0) (zc (za 1) zn))))
  (zk (zN (sC ok F (zc (sC ok F (zc (za 0) (zc (za 1) zn))) zn)))))
noncomputable abbrev jS : Stmt := z1 kab 43
theorem zeo : jn (T.at fr) d (zo jS) zgB (zt jS) (yt T d) :=
 (zj (z7 (zx .lt rfl (za 1) (qd ok B (za 0))) (zk (zN (zu (za 0) (za 1)))) zJ)
  (zj (z7 (zdz false rfl (za 0) (qa zn)) (zk (zN zl)) zJ)
  (zj (sA 2 (qg (zT (qZ (zu (za 0) (qg (za 1) (qd ok B (za 0)))) zl) (qZ (za 1) zl)) zl))
  (zk (zN (qg (zT (qZ (za 2) (za 2)) (qZ zl (za 1))) zl))))))
noncomputable abbrev yM : Stmt := z1 kab 44
theorem zge : jn (T.at fr) d (zo yM) ziN (zt yM) (wH T d) :=
 (zk (zN (zch (zad (zcs ok B .int (za 0) (by decide +kernel) (by decide +kernel) rfl) (zfd (zm5 (zcs ok B .bool (za 0) (by decide +kernel) (by decide +kernel) rfl)))))))
noncomputable abbrev yN : Stmt := z1 kab 45
theorem zgf : jn (T.at fr) d (zo yN) ziO (zt yN) (wI T d) :=
 (zj (sA 2 (qg (zT (qZ (za 0) zl) (qZ (qZ (zT (za 1) zl) zl) (zT (qg (za 0) zl) zl))) zl))
  (zk (zN (qg (zT (qZ (za 2) (za 2)) (qZ zl (za 1))) zl))))
noncomputable abbrev yd : Stmt := z1 kab 46
theorem zeL : jn (T.at fr) d (zo yd) zhx (zt yd) (y5 T d) :=
 (zj (z7 (zx .eq rfl (za 0) (za 1)) (zk (zN (za 1))) zJ)
  (zj (z7 (zx .eq rfl (qg (yw (za 2) zl) zl) zl) (zk (zN (jx (jx (za 1) zl) (qg (zT (za 0) (za 2)) (za 1))))) zJ)
  (zk (zN (qg (zT (za 0) (za 2)) (za 1))))))
noncomputable abbrev zaj : Stmt := z1 kab 47
theorem zit : jn (T.at fr) d (zo zaj) zlC (zt zaj) (zce T d) :=
 (zj (sA 2 (sC ok F (zc (za 0) (zc zl zn))))
  (zj (sA 3 (qg (za 2) zl))
  (zj (sA 4 (zch (zad (zaw .eq rfl (qg (yw (za 2) zl) zl) zl) (zfd (zaw .gt rfl (za 1) zl)))))
  (zj (z7 (qb (za 4)) (zk (sA 3 (zT zl (qg (yw (za 2) zl) (zu (qa (zc zl (zc zl (zc zl (zc zl zn))))) (za 1)))))) zJ)
  (zj (sA 5 (qa zn))
  (zj (qn tN (qk ok B (za 3)) (zj (sA 11 (sC ok F (zc (za 0) (zc (zT zl (za 6)) zn))))
  (zj (sA 12 (qg (za 11) (zT (za 6) zl)))
  (zj (z7 (zP (js (qb (za 4)) (js (zx .gt rfl (qg (za 11) zl) zl) (jk (zx .eq rfl (qg (yw (za 2) zl) zl) zl))))) (zk (sA 12 (za 6))) zJ)
  (zk (jH (zc9 (za 5) (zac (zc (za 6) (zc (zu (qa (zc (za 3) (zc (jx (za 12) zl) zn))) (zkz ok B (zaw .gt rfl (za 12) zl))) zn))))))))))
  (zj (sA 7 (qg (sC ok F (zc (za 0) (zc zl zn))) zl))
  (zj (z7 (zP (js (qb (za 4)) (jk (zx .lt rfl (za 1) zl)))) (zk (sA 7 (qg (za 7) zl))) zJ)
  (zj (z7 (zP (js (zx .eq rfl (qg (yw (sC ok F (zc (za 0) (zc zl zn))) zl) zl) zl) (jk (zP (qU (zx .lt rfl (za 3) zl) (q0 (zx .eq rfl (za 1) zl))))))) (zk (sA 7 (jx zl (za 3)))) zJ)
  (zj (qn tN (qk ok B (qZ (za 7) (zkz ok B (zaw .gt rfl (za 3) zl)))) (zj (sA 11 (sC ok F (zc (sC ok F (zc (za 0) (zc (zT zl (qg (za 6) zl)) zn))) (zc (za 6) zn))))
  (zj (sA 13 (qg (za 11) (zT (za 3) zl)))
  (zk (jH (zc9 (za 5) (zac (zc (za 13) (zc (qg (zT (zT (za 13) zl) (qg (yw (za 11) zl) (za 3))) (zT (za 3) zl)) zn)))))))))
  (zj (sA 8 (qg (sC ok F (zc (za 0) (zc zl zn))) zl))
  (zj (sA 9 (qg (sC ok F (zc (za 0) (zc zl zn))) (zT (qd ok B (za 5)) zl)))
  (zj (sA 10 (qa zn))
  (zj (qn (.tup (tC (tC .nil))) (z2 (zax (zct (za 5) (za 9)) (zfb (za 5) (za 9)))) (zj (sA 15 (zac (zc (sC ok F (zc (za 13) (zc (za 3) (zc (za 8) zn)))) (zc (sC ok F (zc (za 14) (zc (za 3) (zc (za 8) zn)))) zn))))
  (zj (z7 (zx .eq rfl (qg (zT (yw (sC ok F (zc (za 0) (zc zl zn))) zl) (qd ok B (za 10))) zl) zl) (zk (sA 15 (zac (zc (zu (za 15) zl) (zc (zu (za 15) zl) zn))))) zJ)
  (zk (jH (zc9 (za 10) (za 15)))))))
  (zk (zN (zac (zc (za 3) (zc (za 10) zn)))))))))))))))))))
noncomputable abbrev jR : Stmt := z1 kab 48
theorem zen : jn (T.at fr) d (zo jR) zgA (zt jR) (jm T d) :=
 (zj (sA 2 (zbD (qa (zc zl zn)) (za 0)))
  (zj (qn (.tup (tC (tC .nil))) (z2 (za 1)) (zk (qn tN (z2 (qa (zc (za 3) (zc (za 4) zn)))) (zk (z7 (zx .lt rfl (za 5) (za 0)) (zk (jd (za 2) (za 5) (zT (zu (za 2) (za 5)) zl))) zJ)))))
  (zk (zN (za 2)))))
noncomputable def ze0 : List Str := "_law_many" :: "_law_roads" :: "_law_heap" :: "_law_most" :: "_law_burnt" :: "_law_turn" :: "_law_k" :: "_law_fire" :: "_law_road" :: []
noncomputable abbrev yO : Stmt := z1 kab 49
theorem zgg : jn (T.at fr) d (zo yO) ze0 (zt yO) (wJ T d) :=
 (zj (sA 3 (sC ok F (zc (za 0) (zc (za 1) zn))))
  (zj (z7 (zdz true rfl (yX (zX (by decide +kernel)) (qk ok B (za 0)) (jY (zjv .le .lt rfl rfl zl (zu (za 2) (za 6)) (zu (za 3) (za 6)))) (za 6)) (qa zn)) (zk (zN qp)) zJ)
  (zj (sA 4 (zba (za 0) qp))
  (zj (qn tN (qk ok B (za 0)) (zk (qn tN (qk ok B (za 0)) (zj (qz (i := 7) rfl (by decide +kernel) (zX (by decide +kernel)) (z2 (za 1)) (zP (js (zdn false rfl (za 6) (za 8)) (jk (zP (qU (wR false rfl (zu (za 8) zl) (za 4)) (q0 (wR false rfl (zu (za 8) zl) (za 4)))))))) (za 8))
  (zk (z7 (zP (js (wR true rfl (za 6) (za 4)) (jk (zx .ge rfl (zT (zu (za 2) (za 6)) (qd ok B (za 7))) (zu (za 3) (za 6)))))) (zk (jd (za 4) (za 6) qp)) zJ))))))
  (zk (zN (zaw .eq rfl (qd ok B (za 4)) (zT (za 0) zl))))))))
noncomputable abbrev jy : Stmt := z1 kab 50
theorem zdy : jn (T.at fr) d (zo jy) zeZ (zt jy) (j4 T d) :=
 (zj (sA 3 (zba (za 0) qp))
  (zj (qn tN (qk ok B (za 0)) (zk (qn tN (z2 (za 2)) (zj (zff (tC (tC .nil)) (zu (za 1) (za 5)))
  (zk (z7 (zP (qU (wR false rfl (za 6) (za 3)) (q0 (wR false rfl (za 7) (za 3))))) (zj (jd (za 3) (za 6) qp)
  (zk (jd (za 3) (za 7) qp))) zJ))))))
  (zk (zN (zaw .eq rfl (qd ok B (za 3)) (zT (za 0) zl))))))
noncomputable abbrev yf : Stmt := z1 kab 51
theorem zeN : jn (T.at fr) d (zo yf) zhz (zt yf) (y8 T d) :=
 (zj (sA 2 zl)
  (zj (qn tN (z2 (sC ok F (zc (za 0) (zc (za 1) zn)))) (zk (sA 2 (qZ (za 2) (za 3)))))
  (zk (zN (za 2)))))
noncomputable abbrev jP : Stmt := z1 kab 52
theorem zel : jn (T.at fr) d (zo jP) zgy (zt jP) (wt T d) :=
 (zj (zff (tC (tC .nil)) (sC ok F (zc (zax (qa (zc (qg (sC ok F (zc (za 0) (zc zl zn))) zl) zn)) (zct (za 0) zl)) (zc zl zn))))
  (zj (sA 1 (qa zn))
  (zj (sA 2 (zba (za 5) qp))
  (zj (qn tN (qk ok B (za 5)) (zk (qn (.tup (tC (tC .nil))) (z2 (za 6)) (zk (z7 (zfT true rfl (zh8 false rfl (za 7) (za 2)) (zh8 false rfl (za 8) (za 2))) (zj (jd (za 2) (za 7) qp)
  (zj (jd (za 2) (za 8) qp)
  (zk (jH (zc9 (za 1) (zac (zc (za 7) (zc (za 8) zn)))))))) zJ)))))
  (zj (sA 1 (zax (za 1) (zfb (za 6) (qg (sC ok F (zc (za 0) (zc zl zn))) zl))))
  (zj (za9 (zP (js (zx .gt rfl (qd ok B (za 1)) (za 5)) (jk (zx .gt rfl (sC ok F (zc (za 5) (zc (za 1) zn))) zl)))) (zk (sA 1 (zju (za 1)))))
  (zj (sA 4 (qg (yw (sC ok F (zc (za 0) (zc zl zn))) zl) (zT (qd ok B (za 1)) zl)))
  (zk (zN (zac (zc (za 5) (zc (zax (zct (za 1) (za 4)) (zfb (za 1) (za 4))) zn))))))))))))
noncomputable abbrev jQ : Stmt := z1 kab 53
theorem zem : jn (T.at fr) d (zo jQ) zgz (zt jQ) (yr T d) :=
 (zj (sA 1 (qa (zc (qa zn) zn)))
  (zj (qn tN (z2 (za 0)) (zj (sA 3 (qa zn))
  (zj (qn tN (z2 (za 1)) (zk (sA 3 (zax (za 3) (yX (zX (by decide +kernel)) (qk ok B (za 2)) trivial (zax (za 4) (qa (zc (za 5) zn))))))))
  (zk (sA 1 (za 3))))))
  (zk (zN (za 1)))))
noncomputable abbrev ye : Stmt := z1 kab 54
theorem zeM : jn (T.at fr) d (zo ye) zhy (zt ye) (y7 T d) :=
 (zj (sA 2 (qa (zc (qa zn) zn)))
  (zj (qn tN (qk ok B (za 1)) (zk (sA 2 (zax (za 2) (yX (zX (by decide +kernel)) (z2 (za 2)) (zx .lt rfl (qd ok B (za 4)) (za 0)) (zax (za 4) (qa (zc (za 3) zn))))))))
  (zk (zN (yX (zX (by decide +kernel)) (z2 (za 2)) (zx .eq rfl (qd ok B (za 4)) (za 0)) (za 4))))))
noncomputable abbrev qQ : Stmt := z1 kab 55
theorem zcL : jn (T.at fr) d (zo qQ) zdI (zt qQ) (qO T d) :=
 (zj (z7 (zdz false rfl (za 0) (qa zn)) (zk (zN zl)) zJ)
  (zj (sA 1 zl)
  (zj (qn tN (qk ok B (qd ok B (za 0))) (zk (z7 (zx .ne rfl (zu (zu (za 0) zl) (za 2)) zl) (zj (qz (i := 3) rfl (by decide +kernel) (zX (by decide +kernel)) (z2 (zct (za 0) zl)) trivial (zax (zfb (za 4) (za 2)) (zct (za 4) (zT (za 2) zl))))
  (zk (sA 1 (zT (za 1) (qZ (qZ (zu (qa (zc zl (zc (zkx zl) zn))) (qg (za 2) zl)) (zu (zu (za 0) zl) (za 2))) (sC ok F (zc (za 3) zn))))))) zJ)))
  (zk (zN (za 1))))))
noncomputable abbrev qt : Stmt := z1 kab 56
theorem zbB : jn (T.at fr) d (zo qt) zca (zt qt) (jo T d) :=
 (zj (sA 1 zl)
  (zj (za9 (zx .gt rfl (qd ok B (za 0)) zl) (zj (sA 2 (zu (za 0) zl))
  (zj (sA 3 (qa zn))
  (zj (qn tN (z2 (zct (za 0) zl)) (zk (jH (zc9 (za 3) (yX (zX (by decide +kernel)) (zdj ok B zl (qd ok B (za 2))) trivial (yw (jx (qZ (zu (za 4) (za 5)) (zu (za 2) zl)) (qZ (zu (za 4) zl) (zu (za 2) (za 5)))) (za 1)))))))
  (zj (sA 1 (zu (za 2) zl))
  (zk (sA 0 (za 3))))))))
  (zk (zN (yw (sC ok F (zc (za 0) zn)) (zu (qa (zc zl (zc (za 1) (zc (zkv (za 1) zl) (zc (zkv (za 1) zl) zn))))) (zky ok B zl (jx (qd ok B (za 0)) zl))))))))
noncomputable abbrev jO : Stmt := z1 kab 57
theorem zek : jn (T.at fr) d (zo jO) zgx (zt jO) (wq T d) :=
 (zj (qz (i := 2) rfl (by decide +kernel) (zX (by decide +kernel)) (qk ok B (za 0)) trivial (zbD (qa (zc zl zn)) (za 0)))
  (zj (qn (.tup (tC (tC .nil))) (z2 (za 1)) (zk (qn (.tup (tC (tC .nil))) (z2 (qa (zc (zac (zc (za 3) (zc (za 4) zn))) (zc (zac (zc (za 4) (zc (za 3) zn))) zn)))) (zk (z7 (zx .lt rfl (za 5) (za 0)) (zj (jd (zu (za 2) (za 5)) (za 5) (zT (zu (zu (za 2) (za 5)) (za 5)) zl))
  (zk (z7 (zx .lt rfl (za 6) (za 0)) (zk (jd (zu (za 2) (za 5)) (za 6) (jx (zu (zu (za 2) (za 5)) (za 6)) zl))) zJ))) zJ)))))
  (zk (zN (za 2)))))
noncomputable abbrev zcy : Stmt := z1 kab 58
theorem zlf : jn (T.at fr) d (zo zcy) zoC (zt zcy) (ze3 T d) :=
 (zj (zff (tC (tC .nil)) (sC ok F (zc (za 0) zn)))
  (zj (qz (i := 1) rfl (by decide +kernel) (zX (by decide +kernel)) (z2 (sC ok F (zc (sC ok F (zc (za 7) (zc (za 8) zn))) zn))) (qb (sC ok F (zc (za 7) (zc (za 8) (zc (za 9) zn))))) (za 9))
  (zj (qz (i := 2) rfl (by decide +kernel) (zX (by decide +kernel)) (z2 (sC ok F (zc (za 7) (zc (qd ok B (za 8)) zn)))) (qb (sC ok F (zc (za 7) (zc (za 8) (zc (za 10) zn))))) (za 10))
  (zj (sA 3 (sC ok F (zc (za 7) (zc (wQ ok B (za 8)) zn))))
  (zj (z7 (zP (qU (jY (qb (sC ok F (zc (za 3) zn)))) (qU (zx .ne rfl (za 3) (qd ok B (za 1))) (q0 (zx .ne rfl (za 3) (qd ok B (za 2))))))) (zk (zN qp)) zJ)
  (zj (qz (i := 4) rfl (by decide +kernel) (zX (by decide +kernel)) (z2 (za 1)) trivial (sC ok F (zc (za 7) (zc (wQ ok B (za 8)) (zc (wQ ok B (za 9)) zn)))))
  (zj (qz (i := 5) rfl (by decide +kernel) (zX (by decide +kernel)) (z2 (za 2)) trivial (sC ok F (zc (za 7) (zc (za 8) (zc (wQ ok B (za 10)) zn)))))
  (zj (z7 (zP (qU (zdz true rfl (zdk ok B (za 4)) (zdk ok B (za 2))) (q0 (zdz true rfl (zdk ok B (za 5)) (zdk ok B (za 1)))))) (zk (zN qp)) zJ)
  (zj (sA 6 (zu (sC ok F (zc (sC ok F (zc (za 7) (zc (za 8) zn))) zn)) (qg (sC ok F (zc (za 0) (zc zl zn))) (sC ok F (zc (za 7) (zc (za 8) zn))))))
  (zj (z7 (zfT true rfl (sC ok F (zc (za 7) (zc (wQ ok B (za 8)) (zc (wQ ok B (za 6)) zn)))) (zpn false rfl (za 6) (za 1))) (zk (zN qp)) zJ)
  (zj (zff (tC (tC .nil)) (sC ok F (zc (za 0) (zc zl zn))))
  (zk (zN (zaw .eq rfl (sC ok F (zc (za 7) (zc (za 8) zn))) (sC ok F (zc (sC ok F (zc (za 7) (zc (za 8) zn))) zn))))))))))))))))
end
structure Fns (T : TC) : Prop where
 a_is_within : jK T "is_within" (zw yP) (zt yP) (zo yP)
 a_is_road : jK T "is_road" (zw zal) (zt zal) (zo zal)
 a_come_to : jK T "come_to" (zw zan) (zt zan) (zo zan)
 a_need_net : jK T "need_net" (zw wB) (zt wB) (zo wB)
 a_need_heap : jK T "need_heap" (zw yL) (zt yL) (zo yL)
 a_need_tree : jK T "need_tree" (zw yK) (zt yK) (zo yK)
 a_other_end : jK T "other_end" (zw yJ) (zt yJ) (zo yJ)
 a_counts_at : jK T "counts_at" (zw yQ) (zt yQ) (zo yQ)
 a_pit_counts : jK T "pit_counts" (zw yb) (zt yb) (zo yb)
 a_table_of : jK T "table_of" (zw wz) (zt wz) (zo wz)
 a_swapped : jK T "swapped" (zw zai) (zt zai) (zo zai)
 a_first_other : jK T "first_other" (zw jT) (zt jT) (zo jT)
 a_determinant : jK T "determinant" (zw jU) (zt jU) (zo jU)
 a_solved : jK T "solved" (zw zbd) (zt zbd) (zo zbd)
 a_after : jK T "after" (zw zcz) (zt zcz) (zo zcz)
 a_least_times : jK T "least_times" (zw jN) (zt jN) (zo jN)
 a_fallen : jK T "fallen" (zw zbe) (zt zbe) (zo zbe)
 a_rests : jK T "rests" (zw zcx) (zt zcx) (zo zcx)
 a_is_again : jK T "is_again" (zw wD) (zt wD) (zo wD)
 a_need_again : jK T "need_again" (zw yc) (zt yc) (zo yc)
 a_comes_again : jK T "comes_again" (zw jV) (zt jV) (zo jV)
 a_roads_to : jK T "roads_to" (zw wA) (zt wA) (zo wA)
 a_least_of : jK T "least_of" (zw wC) (zt wC) (zo wC)
 a_keys_of : jK T "keys_of" (zw zak) (zt zak) (zo zak)
 a_tree_of : jK T "tree_of" (zw zah) (zt zah) (zo zah)
 a_heap_of : jK T "heap_of" (zw zam) (zt zam) (zo zam)
 a_how_many : jK T "how_many" (zw wE) (zt wE) (zo wE)
 a_law_cell_at : jK T "_law_cell_at" (zw jS) (zt jS) (zo jS)
 a_law_whole : jK T "_law_whole" (zw yM) (zt yM) (zo yM)
 a_law_mixed : jK T "_law_mixed" (zw yN) (zt yN) (zo yN)
 a_law_turned : jK T "_law_turned" (zw yd) (zt yd) (zo yd)
 a_law_net : jK T "_law_net" (zw zaj) (zt zaj) (zo zaj)
 a_law_degrees : jK T "_law_degrees" (zw jR) (zt jR) (zo jR)
 a_law_again : jK T "_law_again" (zw yO) (zt yO) (zo yO)
 a_law_joined12 : jK T "_law_joined" (zw jy) (zt jy) (zo jy)
 a_law_room12 : jK T "_law_room" (zw yf) (zt yf) (zo yf)
 a_law_small12 : jK T "_law_small" (zw jP) (zt jP) (zo jP)
 a_law_heaps12 : jK T "_law_heaps" (zw jQ) (zt jQ) (zo jQ)
 a_law_sets12 : jK T "_law_sets" (zw ye) (zt ye) (zo ye)
 a_law_expanded12 : jK T "_law_expanded" (zw qQ) (zt qQ) (zo qQ)
 a_law_determinant12 : jK T "_law_determinant" (zw qt) (zt qt) (zo qt)
 a_law_table12 : jK T "_law_table" (zw jO) (zt jO) (zo jO)
 a_law12 : jK T "law" (zw zcy) (zt zcy) (zo zcy)
 g : ∀ p ∈ zlQ, ∃ t, T.mg p.1 = some (.int p.2 t)
theorem Fns.known {T : TC} (h : Fns T) : ∀ f ∈ zeD, zdJ T f := by
 intro f hf
 simp only [zeD, kah, kaM, or_false] at hf
 rcases hf with rfl | rfl | rfl | rfl | rfl | rfl | rfl | rfl | rfl | rfl | rfl | rfl | rfl | rfl | rfl | rfl | rfl | rfl | rfl | rfl | rfl | rfl | rfl | rfl | rfl | rfl | rfl | rfl | rfl | rfl | rfl | rfl | rfl | rfl | rfl | rfl | rfl | rfl | rfl | rfl | rfl | rfl | rfl
 ·exact h.a_is_within.known
 ·exact h.a_is_road.known
 ·exact h.a_come_to.known
 ·exact h.a_need_net.known
 ·exact h.a_need_heap.known
 ·exact h.a_need_tree.known
 ·exact h.a_other_end.known
 ·exact h.a_counts_at.known
 ·exact h.a_pit_counts.known
 ·exact h.a_table_of.known
 ·exact h.a_swapped.known
 ·exact h.a_first_other.known
 ·exact h.a_determinant.known
 ·exact h.a_solved.known
 ·exact h.a_after.known
 ·exact h.a_least_times.known
 ·exact h.a_fallen.known
 ·exact h.a_rests.known
 ·exact h.a_is_again.known
 ·exact h.a_need_again.known
 ·exact h.a_comes_again.known
 ·exact h.a_roads_to.known
 ·exact h.a_least_of.known
 ·exact h.a_keys_of.known
 ·exact h.a_tree_of.known
 ·exact h.a_heap_of.known
 ·exact h.a_how_many.known
 ·exact h.a_law_cell_at.known
 ·exact h.a_law_whole.known
 ·exact h.a_law_mixed.known
 ·exact h.a_law_turned.known
 ·exact h.a_law_net.known
 ·exact h.a_law_degrees.known
 ·exact h.a_law_again.known
 ·exact h.a_law_joined12.known
 ·exact h.a_law_room12.known
 ·exact h.a_law_small12.known
 ·exact h.a_law_heaps12.known
 ·exact h.a_law_sets12.known
 ·exact h.a_law_expanded12.known
 ·exact h.a_law_determinant12.known
 ·exact h.a_law_table12.known
 ·exact h.a_law12.known
theorem b1_ {params : Arguments} {names : List Str} (h : ∀ (fd : FuncData) a0, bindArgs { fd with params := params, defaults := .none, kwdefaults := .none } ⟨[a0], []⟩ = pure (names.zip [a0])) : ∀ (fd : FuncData) (us : List Value), fd.params = params -> fd.defaults = .none -> fd.kwdefaults = .none -> us.length = 1 -> bindArgs fd ⟨us, []⟩ = pure (names.zip us) := fun _ _ x y z u => zqB x y z u h
theorem b2_ {params : Arguments} {names : List Str} (h : ∀ (fd : FuncData) a0 a1, bindArgs { fd with params := params, defaults := .none, kwdefaults := .none } ⟨[a0, a1], []⟩ = pure (names.zip [a0, a1])) : ∀ (fd : FuncData) (us : List Value), fd.params = params -> fd.defaults = .none -> fd.kwdefaults = .none -> us.length = 2 -> bindArgs fd ⟨us, []⟩ = pure (names.zip us) := fun _ _ x y z u => zqA x y z u h
theorem b3_ {params : Arguments} {names : List Str} (h : ∀ (fd : FuncData) a0 a1 a2, bindArgs { fd with params := params, defaults := .none, kwdefaults := .none } ⟨[a0, a1, a2], []⟩ = pure (names.zip [a0, a1, a2])) : ∀ (fd : FuncData) (us : List Value), fd.params = params -> fd.defaults = .none -> fd.kwdefaults = .none -> us.length = 3 -> bindArgs fd ⟨us, []⟩ = pure (names.zip us) := fun _ _ x y z u => zqz x y z u h
theorem b5_ {params : Arguments} {names : List Str} (h : ∀ (fd : FuncData) a0 a1 a2 a3 a4, bindArgs { fd with params := params, defaults := .none, kwdefaults := .none } ⟨[a0, a1, a2, a3, a4], []⟩ = pure (names.zip [a0, a1, a2, a3, a4])) : ∀ (fd : FuncData) (us : List Value), fd.params = params -> fd.defaults = .none -> fd.kwdefaults = .none -> us.length = 5 -> bindArgs fd ⟨us, []⟩ = pure (names.zip us) := fun _ _ x y z u => zqy x y z u h
section
variable {T : TC} (ok : T.Ok) (B : Blt T) (C : T.calm = true) (X : XF T [0, 1, 2, 4, 6]) (h : Fns T)
include ok B C X h
theorem fW {f : Str} {st : Stmt} {ctx : List Str} {n k : Nat} {w : Nat -> SW} (fa : jK T f (zw st) (zt st) (zo st)) (S : ∀ {fr : List Env} {d : Nat}, (T.at fr).Ok -> Blt (T.at fr) -> (T.at fr).calm = true -> (∀ f ∈ zeD, zdJ T f) -> (∀ p ∈ zlQ, ∃ t, T.mg p.1 = some (.int p.2 t)) -> XF (T.at fr) [0, 1, 2, 4, 6] -> jn (T.at fr) d (zo st) ctx (zt st) (w d)) (hb : ∀ fd us, fd.params = zw st -> fd.defaults = .none -> fd.kwdefaults = .none -> us.length = n -> bindArgs fd ⟨us, []⟩ = pure (((zw st).args.map (·.arg)).zip us)) (fo : zlS (zw st) (zo st) ctx n = true := by decide +kernel) (hk : ctx.length - n = k := by rfl) : FnW T f n k w := zpC ok fa fo hk hb fun d fr => S (ok.at fr) (B.at fr) C h.known h.g X
theorem wY : FnW T "is_within" 3 0 (yH T) := fW ok B C X h h.a_is_within zgh (b3_ fun _ _ _ _ => rfl)
theorem zbv : FnW T "is_road" 2 0 (za4 T) := fW ok B C X h h.a_is_road ziv (b2_ fun _ _ _ => rfl)
theorem zbw : FnW T "come_to" 2 4 (za5 T) := fW ok B C X h h.a_come_to zix (b2_ fun _ _ _ => rfl)
theorem zaK : FnW T "need_net" 2 1 (zbp T) := fW ok B C X h h.a_need_net zhj (b2_ fun _ _ _ => rfl)
theorem zc2 : FnW T "need_heap" 2 1 (yG T) := fW ok B C X h h.a_need_heap zgd (b2_ fun _ _ _ => rfl)
theorem zhp : FnW T "need_tree" 3 1 (zaH T) := fW ok B C X h h.a_need_tree zgc (b3_ fun _ _ _ _ => rfl)
theorem wX : FnW T "other_end" 2 0 (jF T) := fW ok B C X h h.a_other_end zgb (b2_ fun _ _ _ => rfl)
theorem wZ : FnW T "counts_at" 2 3 (jG T) := fW ok B C X h h.a_counts_at zgi (b2_ fun _ _ _ => rfl)
theorem zcD : FnW T "pit_counts" 2 3 (ya T) := fW ok B C X h h.a_pit_counts zeJ (b2_ fun _ _ _ => rfl)
theorem zb1 : FnW T "table_of" 2 5 (zas T) := fW ok B C X h h.a_table_of zhh (b2_ fun _ _ _ => rfl)
theorem zcR : FnW T "swapped" 3 1 (za2 T) := fW ok B C X h h.a_swapped zis (b3_ fun _ _ _ _ => rfl)
theorem w8 : FnW T "first_other" 2 1 (yu T) := fW ok B C X h h.a_first_other zep (b2_ fun _ _ _ => rfl)
theorem w9 : FnW T "determinant" 1 8 (wu T) := fW ok B C X h h.a_determinant zeq (b1_ fun _ _ => rfl)
theorem zg0 : FnW T "solved" 2 5 (za7 T) := fW ok B C X h h.a_solved zjs (b2_ fun _ _ _ => rfl)
theorem zjb : FnW T "after" 3 3 (zdv T) := fW ok B C X h h.a_after zlg (b3_ fun _ _ _ _ => rfl)
theorem zbV : FnW T "least_times" 2 4 (yq T) := fW ok B C X h h.a_least_times zej (b2_ fun _ _ _ => rfl)
theorem zg1 : FnW T "fallen" 3 6 (zde T) := fW ok B C X h h.a_fallen zjt (b3_ fun _ _ _ _ => rfl)
theorem zja : FnW T "rests" 3 2 (zcn T) := fW ok B C X h h.a_rests zle (b3_ fun _ _ _ _ => rfl)
theorem zef : FnW T "is_again" 3 3 (zat T) := fW ok B C X h h.a_is_again zhl (b3_ fun _ _ _ _ => rfl)
theorem zgo : FnW T "need_again" 3 0 (y4 T) := fW ok B C X h h.a_need_again zeK (b3_ fun _ _ _ _ => rfl)
theorem zeY : FnW T "comes_again" 3 0 (wv T) := fW ok B C X h h.a_comes_again zer (b3_ fun _ _ _ _ => rfl)
theorem zed : FnW T "roads_to" 3 2 (zbn T) := fW ok B C X h h.a_roads_to zhi (b3_ fun _ _ _ _ => rfl)
theorem zee : FnW T "least_of" 5 1 (zbq T) := fW ok B C X h h.a_least_of zhk (b5_ fun _ _ _ _ _ _ => rfl)
theorem zft : FnW T "keys_of" 2 1 (za3 T) := fW ok B C X h h.a_keys_of ziu (b2_ fun _ _ _ => rfl)
theorem zjJ : FnW T "tree_of" 3 7 (zcd T) := fW ok B C X h h.a_tree_of zir (b3_ fun _ _ _ _ => rfl)
theorem zjL : FnW T "heap_of" 3 9 (zcf T) := fW ok B C X h h.a_heap_of ziw (b3_ fun _ _ _ _ => rfl)
theorem ziF : FnW T "how_many" 2 0 (zbr T) := fW ok B C X h h.a_how_many zhm (b2_ fun _ _ _ => rfl)
theorem zeX : FnW T "_law_cell_at" 2 1 (yt T) := fW ok B C X h h.a_law_cell_at zeo (b2_ fun _ _ _ => rfl)
theorem zhq : FnW T "_law_whole" 1 0 (wH T) := fW ok B C X h h.a_law_whole zge (b1_ fun _ _ => rfl)
theorem zhr : FnW T "_law_mixed" 2 1 (wI T) := fW ok B C X h h.a_law_mixed zgf (b2_ fun _ _ _ => rfl)
theorem zgp : FnW T "_law_turned" 3 0 (y5 T) := fW ok B C X h h.a_law_turned zeL (b3_ fun _ _ _ _ => rfl)
theorem zjK : FnW T "_law_net" 2 14 (zce T) := fW ok B C X h h.a_law_net zit (b2_ fun _ _ _ => rfl)
theorem zeW : FnW T "_law_degrees" 2 4 (jm T) := fW ok B C X h h.a_law_degrees zen (b2_ fun _ _ _ => rfl)
theorem zhs : FnW T "_law_again" 3 6 (wJ T) := fW ok B C X h h.a_law_again zgg (b3_ fun _ _ _ _ => rfl)
theorem zew : FnW T "_law_joined" 3 5 (j4 T) := fW ok B C X h h.a_law_joined12 zdy (b3_ fun _ _ _ _ => rfl)
theorem zgr : FnW T "_law_room" 2 2 (y8 T) := fW ok B C X h h.a_law_room12 zeN (b2_ fun _ _ _ => rfl)
theorem zeU : FnW T "_law_small" 1 8 (wt T) := fW ok B C X h h.a_law_small12 zel (b1_ fun _ _ => rfl)
theorem zeV : FnW T "_law_heaps" 1 5 (yr T) := fW ok B C X h h.a_law_heaps12 zem (b1_ fun _ _ => rfl)
theorem zgq : FnW T "_law_sets" 2 3 (y7 T) := fW ok B C X h h.a_law_sets12 zeM (b2_ fun _ _ _ => rfl)
theorem zcZ : FnW T "_law_expanded" 1 4 (qO T) := fW ok B C X h h.a_law_expanded12 zcL (b1_ fun _ _ => rfl)
theorem zbJ : FnW T "_law_determinant" 1 5 (jo T) := fW ok B C X h h.a_law_determinant12 zbB (b1_ fun _ _ => rfl)
theorem zeT : FnW T "_law_table" 2 6 (wq T) := fW ok B C X h h.a_law_table12 zek (b2_ fun _ _ _ => rfl)
theorem zmt : FnW T "law" 1 10 (ze3 T) := fW ok B C X h h.a_law12 zlf (b1_ fun _ _ => rfl)
end
end Mine
end
open PySem PySem.W PyProof.Rows
set_option maxRecDepth 100000
namespace Mine
theorem zmn {T : TC} {J : zb} {s : Addr} {ns : List Int} (ok : T.Ok) (B : Blt T) (C : T.calm = true) (X : XF T [0, 1, 2, 4, 6]) (h : Fns T) (hs : qN J s ns) : zA T 300 "law" [.ref s] J (fun v _ => v = .bool true) (fun _ _ => False) :=
 zjF (d := 291) ⟨⟨⟨(zeX ok B C X h), (zhr ok B C X h), (zgp ok B C X h), (zjK ok B C X h), (zeW ok B C X h)⟩, (zgr ok B C X h), (zeU ok B C X h)⟩, (zeV ok B C X h), (zhs ok B C X h), (zgq ok B C X h), (zew ok B C X h), ⟨⟨(wY ok B C X h), (zbv ok B C X h), (zbw ok B C X h), (zaK ok B C X h)⟩, ⟨(w8 ok B C X h), (zcR ok B C X h), (w9 ok B C X h)⟩, (zb1 ok B C X h), (ziF ok B C X h)⟩, (zhq ok B C X h), ⟨⟨(wY ok B C X h), (zbv ok B C X h), (zbw ok B C X h), (zaK ok B C X h)⟩, (zc2 ok B C X h), ⟨⟨⟨(w8 ok B C X h), (zcR ok B C X h), (w9 ok B C X h)⟩, (zg0 ok B C X h), (zbV ok B C X h), (zb1 ok B C X h), (zjb ok B C X h), (zg1 ok B C X h)⟩, (wZ ok B C X h), (zja ok B C X h), (wX ok B C X h), (zcD ok B C X h), (zef ok B C X h)⟩, (zgo ok B C X h), ⟨⟨⟨(wX ok B C X h), (zed ok B C X h)⟩, (wZ ok B C X h), (zee ok B C X h)⟩, (zft ok B C X h)⟩, (zjJ ok B C X h)⟩, ⟨⟨⟨(wY ok B C X h), (zbv ok B C X h), (zbw ok B C X h), (zaK ok B C X h)⟩, (zhp ok B C X h)⟩, ⟨⟨⟨(wX ok B C X h), (zed ok B C X h)⟩, (wZ ok B C X h), (zee ok B C X h)⟩, (zft ok B C X h)⟩, (zjL ok B C X h)⟩, ⟨⟨(wY ok B C X h), (zbv ok B C X h), (zbw ok B C X h), (zaK ok B C X h)⟩, ⟨⟨(w8 ok B C X h), (zcR ok B C X h), (w9 ok B C X h)⟩, (zg0 ok B C X h), (zbV ok B C X h), (zb1 ok B C X h), (zjb ok B C X h), (zg1 ok B C X h)⟩, (zc2 ok B C X h), (wZ ok B C X h), (zja ok B C X h), (wX ok B C X h), (zcD ok B C X h), (zef ok B C X h), (zeY ok B C X h)⟩, (zeT ok B C X h), ⟨(zcZ ok B C X h), (zbJ ok B C X h)⟩⟩ (zmt ok B C X h) hs fun _ => rfl
end Mine
namespace Mine
noncomputable def main12.tw14959479113655860749 : PySem.Program := kab
theorem main12.te14959479113655860749 : kab = main12.tw14959479113655860749 := rfl
end Mine
set_option maxHeartbeats 8000000 in
set_option Elab.async true in
theorem Mine.main12 : PySem.Challenge.rw_uf020031_12.Holds := by
 w_on
 o_law
 o_head (Mine.zoR [0, 1, 2, 4, 6])
 case hw => w_witness2
 intro w sa sB mg mb G Y fa o pm cd doc dV kV ho hd hcd hD hmg hg args vals as hpre hlay hrd hwl hlo
 clear hd hcd hD
 refine Ground.open G ?_
 intro T B D TE TW
 wrow_args hpre hlay hrd hwl hlo
 rename_i ns _ _ _ _ _ _ _ scr vs _ hL _ _ _ hI _ hlen _
 have hl : ns.length <= 63 := by
  simp only [kb9] at hlen
  omega
 have fns : Mine.Fns (Mine.zgO PySem.Challenge.rw_uf020031_12.row.prog w scr T) := ⟨Mine.zH (st := Mine.yP) T 0 (by kernel_rfl), Mine.zH (st := Mine.zal) T 1 (by kernel_rfl), Mine.zH (st := Mine.zan) T 2 (by kernel_rfl), Mine.zH (st := Mine.wB) T 3 (by kernel_rfl), Mine.zH (st := Mine.yL) T 4 (by kernel_rfl), Mine.zH (st := Mine.yK) T 5 (by kernel_rfl), Mine.zH (st := Mine.yJ) T 6 (by kernel_rfl), Mine.zH (st := Mine.yQ) T 7 (by kernel_rfl), Mine.zH (st := Mine.yb) T 8 (by kernel_rfl), Mine.zH (st := Mine.wz) T 9 (by kernel_rfl), Mine.zH (st := Mine.zai) T 10 (by kernel_rfl), Mine.zH (st := Mine.jT) T 11 (by kernel_rfl), Mine.zH (st := Mine.jU) T 12 (by kernel_rfl), Mine.zH (st := Mine.zbd) T 13 (by kernel_rfl), Mine.zH (st := Mine.zcz) T 14 (by kernel_rfl), Mine.zH (st := Mine.jN) T 15 (by kernel_rfl), Mine.zH (st := Mine.zbe) T 16 (by kernel_rfl), Mine.zH (st := Mine.zcx) T 17 (by kernel_rfl), Mine.zH (st := Mine.wD) T 18 (by kernel_rfl), Mine.zH (st := Mine.yc) T 19 (by kernel_rfl), Mine.zH (st := Mine.jV) T 20 (by kernel_rfl), Mine.zH (st := Mine.wA) T 21 (by kernel_rfl), Mine.zH (st := Mine.wC) T 22 (by kernel_rfl), Mine.zH (st := Mine.zak) T 23 (by kernel_rfl), Mine.zH (st := Mine.zah) T 24 (by kernel_rfl), Mine.zH (st := Mine.zam) T 25 (by kernel_rfl), Mine.zH (st := Mine.wE) T 26 (by kernel_rfl), Mine.zH (st := Mine.jS) T 27 (by kernel_rfl), Mine.zH (st := Mine.yM) T 28 (by kernel_rfl), Mine.zH (st := Mine.yN) T 29 (by kernel_rfl), Mine.zH (st := Mine.yd) T 30 (by kernel_rfl), Mine.zH (st := Mine.zaj) T 31 (by kernel_rfl), Mine.zH (st := Mine.jR) T 32 (by kernel_rfl), Mine.zH (st := Mine.yO) T 33 (by kernel_rfl), Mine.zH (st := Mine.jy) T 34 (by kernel_rfl), Mine.zH (st := Mine.yf) T 35 (by kernel_rfl), Mine.zH (st := Mine.jP) T 36 (by kernel_rfl), Mine.zH (st := Mine.jQ) T 37 (by kernel_rfl), Mine.zH (st := Mine.ye) T 38 (by kernel_rfl), Mine.zH (st := Mine.qQ) T 39 (by kernel_rfl), Mine.zH (st := Mine.qt) T 40 (by kernel_rfl), Mine.zH (st := Mine.jO) T 41 (by kernel_rfl), Mine.zH (st := Mine.zcy) T 42 (by kernel_rfl), by
  intro p hp
  simp only [Mine.zlQ, kah, kaM, or_false] at hp
  rcases hp with rfl | rfl | rfl
  ·exact Mine.zhS T (by kernel_rfl)
  ·exact Mine.zhS T (by kernel_rfl)
  ·exact Mine.zhS T (by kernel_rfl)⟩
 have ok := Mine.zqd (prog := PySem.Challenge.rw_uf020031_12.row.prog) (w := w) (scr := scr) T (by decide +kernel)
 have bl : Mine.Blt (Mine.zgO PySem.Challenge.rw_uf020031_12.row.prog w scr T) := Mine.zpL T (by decide +kernel)
 refine Mine.zos T hL hI hl hmg (d := 300) (by omega) (Mine.zmn ok bl rfl (Mine.zp5 T Y) fns (Mine.J0_script scr ns hl)) fun s' hk hos hgen => ?_
 exact GoodW.toG ⟨.inl ⟨_, .bool true, [], rfl, raisesW_false (by wrow_none_raised), .bool true, by wrow_post, unshared_nil⟩, hk, hos, hgen.trans hg⟩

theorem PySem.Challenge.cw_uf020031_12_holds : PySem.Challenge.rw_uf020031_12.Holds :=
  Mine.main12
