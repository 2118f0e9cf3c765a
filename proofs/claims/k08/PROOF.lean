import PyProof.Rows.All
import Wide.All
import OpenK.AllK
import Wide.FinOn
import HandS.ForMost
import HandS.Evl
import HandS.IsInst
import HandS.WordsExc
import HandS.TryOnly
import HandS.ExcOwn
import HandS.Steps
import HandS.More
import HandS.Conv
import KE.Datum
import HandS.ExcIs
import HandS.Flt
import HandS.HotCalls
import HandS.SetFor
import HandS.SortKw
import HandS.Text
import KE.DataCmp
import KE.DataMinMax
import KE.SortData
import PyProof.NeData
import PyProof.NeKinds
import PyProof.SeqRoads2
import PySem.Challenge.RW_nearword_k08_what_is_refused
set_option Elab.async false
set_option linter.all false
set_option maxRecDepth 100000
set_option Elab.async false
set_option linter.all false
set_option maxRecDepth 100000
/-! Nw.Base: texts as lists of codes, named operations, and what expressions evaluate to. -/
namespace Nw
open PySem L2 Evl

/-! ### texts as lists of codes -/
abbrev tx (w : List Nat) : V := .str ⟨w.toArray⟩
theorem tx_len (w : List Nat) : (⟨w.toArray⟩ : Str).length = w.length := by simp [Str.length]
theorem tx_app (a b : List Nat) : (⟨a.toArray⟩ : Str) ++ ⟨b.toArray⟩ = ⟨(a ++ b).toArray⟩ := TL.ext_tl (by rw [TL.tl_append])
theorem tx_inj {a b : List Nat} : (tx a = tx b) ↔ a = b := by
  constructor
  · intro h
    have h1 : (⟨a.toArray⟩ : Str) = ⟨b.toArray⟩ := V.str.inj h
    have h2 : a.toArray = b.toArray := congrArg Str.cps h1
    exact List.toArray_inj h2
  · intro h; rw [h]
theorem line1 {n : Nat} (h : n ≤ 100000) : n ≤ sizeLine := Evl.sz_of h

/-- the letters a to z -/
def abc : List Nat := (List.range 26).map (· + 97)
def Low (w : List Nat) : Prop := ∀ c ∈ w, 97 ≤ c ∧ c < 123
instance (w : List Nat) : Decidable (Low w) := by unfold Low; infer_instance
theorem mem_abc {c : Nat} : c ∈ abc ↔ 97 ≤ c ∧ c < 123 := by
  unfold abc
  rw [List.mem_map]
  constructor
  · rintro ⟨a, ha, rfl⟩
    rw [List.mem_range] at ha
    omega
  · intro h
    exact ⟨c - 97, List.mem_range.mpr (by omega), by omega⟩
theorem abc_at {i : Nat} (h : i < 26) : abc[i]? = some (i + 97) := by
  unfold abc
  rw [List.getElem?_map, List.getElem?_range h]
  rfl
theorem low_nil : Low [] := fun c h => by cases h
theorem low_app {a b : List Nat} (ha : Low a) (hb : Low b) : Low (a ++ b) := fun c h => (List.mem_append.mp h).elim (ha c) (hb c)
theorem low_take {a : List Nat} (n : Nat) (ha : Low a) : Low (a.take n) := fun c h => ha c (List.mem_of_mem_take h)
theorem low_drop {a : List Nat} (n : Nat) (ha : Low a) : Low (a.drop n) := fun c h => ha c (List.mem_of_mem_drop h)
theorem low_one {c : Nat} (h : 97 ≤ c ∧ c < 123) : Low [c] := fun d hd => by
  rw [List.mem_singleton] at hd
  subst hd
  exact h

/-! ### operations by name -/
def nAdd : R2 := rI0 fun i j => .int (i + j)
def nSub : R2 := rI0 fun i j => .int (i - j)
def nMul : R2 := rI CMul fun i j => .int (i * j)
def nDiv : R2 := rI CDiv fun i j => .int (i / j)
def nMod : R2 := rI (fun _ j => 0 < j) fun i j => .int (i % j)
def nCat : R2 := fun x y H Q => ∃ i j, x = .str i ∧ y = .str j ∧ i.length + j.length ≤ sizeLine ∧ Q (.str (i ++ j)) H
def nLt : R2 := rI0 fun i j => .bl (decide (i < j))
def nLe : R2 := rI0 fun i j => .bl (decide (i ≤ j))
def nGt : R2 := rI0 fun i j => .bl (decide (j < i))
def nGe : R2 := rI0 fun i j => .bl (decide (j ≤ i))
def nEq : R2 := rEq
def nNe : R2 := rNe
def nIsN : R2 := fun x y H Q => y = .non ∧ Q (.bl (decide (x = .non))) H
def nNotN : R2 := fun x y H Q => y = .non ∧ Q (.bl (!decide (x = .non))) H
def nInS : R2 := fun x y H Q => ∃ (c : Nat) (z : Str), x = .str ⟨#[c]⟩ ∧ y = .str z ∧ Q (.bl (decide (c ∈ z.cps.toList))) H
def nNotInS : R2 := fun x y H Q => ∃ (c : Nat) (z : Str), x = .str ⟨#[c]⟩ ∧ y = .str z ∧ Q (.bl (!decide (c ∈ z.cps.toList))) H
def nInL (K : PySem.W.Frag) : R2 := rIn K false
def nNotInL (K : PySem.W.Frag) : R2 := rIn K true
def nIxL (K : PySem.W.Frag) : R2 := rIxL K
def nIxT (K : PySem.W.Frag) : R2 := rIxT K
def nIxS : R2 := rIxS
def nSlS : V → Option Int → Option Int → Hp → VK → Prop := rSlS
def nSlL (K : PySem.W.Frag) : V → Option Int → Option Int → Hp → VK → Prop := rSlL K
def nLenS : List V → Hp → VK → Prop := fun xs H Q => ∃ z, xs = [.str z] ∧ z.length ≤ sizeLine ∧ Q (.int z.length) H
def nLenL (K : PySem.W.Frag) : List V → Hp → VK → Prop := fun xs H Q => ∃ p ys, xs = [.ref p] ∧ (SqL K H p ys ∨ SqT K H p ys) ∧ Q (.int ys.length) H
def nLenA (K : PySem.W.Frag) : List V → Hp → VK → Prop := fun xs H Q => ∃ x n, xs = [x] ∧ LenV K x H n ∧ Q (.int n) H
def nLenD : List V → Hp → VK → Prop := fun xs H Q => ∃ a kvs, xs = [V.ref a] ∧ H a = some (.dK kvs) ∧ Q (.int kvs.length) H
def nIsi (K : PySem.W.Frag) : List V → Hp → VK → Prop := rIsi K
def nLcat : R2 := rCat
section
variable {X : Cx}
theorem o_add : OpR X (binaryOp .Add) nAdd := op_add
theorem o_sub : OpR X (binaryOp .Sub) nSub := op_sub
theorem o_mul : OpR X (binaryOp .Mult) nMul := op_mul
theorem o_div : OpR X (binaryOp .FloorDiv) nDiv := op_fdiv
theorem o_mod : OpR X (binaryOp .Mod) nMod := op_mod
theorem o_cat : OpR X (binaryOp .Add) nCat := op_add_str
theorem o_lcat : OpR X (binaryOp .Add) nLcat := op_cat
theorem o_lt : OpR X (compareOp .Lt) nLt := op_lt
theorem o_le : OpR X (compareOp .LtE) nLe := op_le
theorem o_gt : OpR X (compareOp .Gt) nGt := op_gt
theorem o_ge : OpR X (compareOp .GtE) nGe := op_ge
theorem o_eq : OpR X (compareOp .Eq) nEq := op_eq
theorem o_ne : OpR X (compareOp .NotEq) nNe := op_ne
theorem o_isN : OpR X (compareOp .Is) nIsN := op_isN
theorem o_notN : OpR X (compareOp .IsNot) nNotN := op_notN
theorem o_inS : OpR X (compareOp .In) nInS := op_in_sign
theorem o_notInS : OpR X (compareOp .NotIn) nNotInS := op_notIn_sign
theorem o_inL : OpR X (compareOp .In) (nInL X.K) := op_in_seq
theorem o_notInL : OpR X (compareOp .NotIn) (nNotInL X.K) := op_notIn_seq
theorem x_list : IxR X (nIxL X.K) := ix_list
theorem x_tup : IxR X (nIxT X.K) := ix_tup
theorem x_str : IxR X nIxS := ix_str
theorem l_str : SlR X nSlS := sl_str
theorem l_list : SlR X (nSlL X.K) := sl_list
theorem c_lenS : CallR X (.builtin "len") nLenS := call_len_str
theorem c_lenL : CallR X (.builtin "len") (nLenL X.K) := call_len_seq
theorem c_lenA : CallR X (.builtin "len") (nLenA X.K) := call_len
theorem c_lenD : CallR X (.builtin "len") nLenD := call_lenD
theorem c_isi : CallR X (.builtin "isinstance") (nIsi X.K) := call_isi
theorem pe_tx {x : Str} {w : List Nat} {j : Nat} {pos : Pos} (h : x = ⟨w.toArray⟩) : PE X (.Constant (.str x) j pos) (tC (tx w)) := by
  subst h
  exact pe_str
end

/-! ### what evaluates to what -/
section
variable {K : PySem.W.Frag} {σ : L2.St} {H H' : Hp} {ta tb te tx' : TE} {t u : TT} {x y z v : V} {r : R2} {i j : Int} {a b : List Nat}
/-- a value of which P holds -/
def EvP (te : TE) (σ : L2.St) (H : Hp) (P : V → Prop) : Prop := ∀ H1, Ex H H1 → ∀ Q : VK, (∀ v H2, Ex H1 H2 → P v → Q v H2) → te σ H1 Q
theorem EvP.mono {P : V → Prop} (e : Ex H H') (h : EvP te σ H P) : EvP te σ H' P := fun H1 a Q q => h H1 (e.trans a) Q q
theorem e_add (ha : Ev ta σ H (.int i)) (hb : Ev tb σ H (.int j)) : Ev (tOp nAdd ta tb) σ H (.int (i + j)) := ev_op ha hb fun H1 e Q q => ⟨i, j, rfl, rfl, q H1 (Ex.refl H1)⟩
theorem e_sub (ha : Ev ta σ H (.int i)) (hb : Ev tb σ H (.int j)) : Ev (tOp nSub ta tb) σ H (.int (i - j)) := ev_op ha hb fun H1 e Q q => ⟨i, j, rfl, rfl, q H1 (Ex.refl H1)⟩
theorem e_mul (ha : Ev ta σ H (.int i)) (hb : Ev tb σ H (.int j)) (h : CMul i j) : Ev (tOp nMul ta tb) σ H (.int (i * j)) := ev_op ha hb fun H1 e Q q => ⟨i, j, rfl, rfl, h, q H1 (Ex.refl H1)⟩
theorem e_div (ha : Ev ta σ H (.int i)) (hb : Ev tb σ H (.int j)) (h : 0 < j ∧ j < 1073741824) : Ev (tOp nDiv ta tb) σ H (.int (i / j)) := ev_op ha hb fun H1 e Q q => ⟨i, j, rfl, rfl, h, q H1 (Ex.refl H1)⟩
theorem e_mod (ha : Ev ta σ H (.int i)) (hb : Ev tb σ H (.int j)) (h : 0 < j) : Ev (tOp nMod ta tb) σ H (.int (i % j)) := ev_op ha hb fun H1 e Q q => ⟨i, j, rfl, rfl, h, q H1 (Ex.refl H1)⟩
theorem e_cat (ha : Ev ta σ H (tx a)) (hb : Ev tb σ H (tx b)) (h : a.length + b.length ≤ 100000) : Ev (tOp nCat ta tb) σ H (tx (a ++ b)) := ev_op ha hb fun H1 e Q q =>
  ⟨_, _, rfl, rfl, by rw [tx_len, tx_len]; exact line1 h, by
    have q1 := q H1 (Ex.refl H1)
    rw [tx_app]
    exact q1⟩
theorem e_lt (ha : Ev ta σ H (.int i)) (hb : Ev tb σ H (.int j)) : Ev (tOp nLt ta tb) σ H (.bl (decide (i < j))) := ev_op ha hb fun H1 e Q q => ⟨i, j, rfl, rfl, q H1 (Ex.refl H1)⟩
theorem e_le (ha : Ev ta σ H (.int i)) (hb : Ev tb σ H (.int j)) : Ev (tOp nLe ta tb) σ H (.bl (decide (i ≤ j))) := ev_op ha hb fun H1 e Q q => ⟨i, j, rfl, rfl, q H1 (Ex.refl H1)⟩
theorem e_gt (ha : Ev ta σ H (.int i)) (hb : Ev tb σ H (.int j)) : Ev (tOp nGt ta tb) σ H (.bl (decide (j < i))) := ev_op ha hb fun H1 e Q q => ⟨i, j, rfl, rfl, q H1 (Ex.refl H1)⟩
theorem e_ge (ha : Ev ta σ H (.int i)) (hb : Ev tb σ H (.int j)) : Ev (tOp nGe ta tb) σ H (.bl (decide (j ≤ i))) := ev_op ha hb fun H1 e Q q => ⟨i, j, rfl, rfl, q H1 (Ex.refl H1)⟩
/-- == of scalars -/
inductive EqB : V → V → Bool → Prop where
  | ii {i j : Int} : EqB (.int i) (.int j) (decide (i = j))
  | ss {a b : List Nat} : EqB (tx a) (tx b) (decide (a = b))
  | bb {a b : Bool} : EqB (.bl a) (.bl b) (decide (a = b))
  | is {i : Int} {b : Str} : EqB (.int i) (.str b) false
  | si {i : Int} {b : Str} : EqB (.str b) (.int i) false
  | bs {i : Bool} {b : Str} : EqB (.bl i) (.str b) false
  | sb {i : Bool} {b : Str} : EqB (.str b) (.bl i) false
  | ns {b : Str} : EqB .non (.str b) false
  | sn {b : Str} : EqB (.str b) .non false
  | ni {b : Int} : EqB .non (.int b) false
  | in_ {b : Int} : EqB (.int b) .non false
  | nn : EqB .non .non true
theorem dec_eq {p q : Prop} [Decidable p] [Decidable q] (h : p ↔ q) : decide p = decide q := by
  by_cases hp : p
  · rw [decide_eq_true hp, decide_eq_true (h.mp hp)]
  · rw [decide_eq_false hp, decide_eq_false (fun z => hp (h.mpr z))]
theorem EqB.sc {x y : V} {b : Bool} (h : EqB x y b) : scal x y = true ∧ decide (x = y) = b := by
  cases h with
  | ii => exact ⟨rfl, dec_eq ⟨fun h => V.int.inj h, fun h => by rw [h]⟩⟩
  | ss => exact ⟨rfl, dec_eq tx_inj⟩
  | bb => exact ⟨rfl, dec_eq ⟨fun h => V.bl.inj h, fun h => by rw [h]⟩⟩
  | is => exact ⟨rfl, decide_eq_false (fun z => nomatch z)⟩
  | si => exact ⟨rfl, decide_eq_false (fun z => nomatch z)⟩
  | bs => exact ⟨rfl, decide_eq_false (fun z => nomatch z)⟩
  | sb => exact ⟨rfl, decide_eq_false (fun z => nomatch z)⟩
  | ns => exact ⟨rfl, decide_eq_false (fun z => nomatch z)⟩
  | sn => exact ⟨rfl, decide_eq_false (fun z => nomatch z)⟩
  | ni => exact ⟨rfl, decide_eq_false (fun z => nomatch z)⟩
  | in_ => exact ⟨rfl, decide_eq_false (fun z => nomatch z)⟩
  | nn => exact ⟨rfl, decide_eq_true rfl⟩
theorem e_eq {b : Bool} (ha : Ev ta σ H x) (hb : Ev tb σ H y) (h : EqB x y b) : Ev (tOp nEq ta tb) σ H (.bl b) := ev_op ha hb fun H1 e Q q => ⟨h.sc.1, by
  rw [h.sc.2]
  exact q H1 (Ex.refl H1)⟩
theorem e_ne {b : Bool} (ha : Ev ta σ H x) (hb : Ev tb σ H y) (h : EqB x y b) : Ev (tOp nNe ta tb) σ H (.bl (!b)) := ev_op ha hb fun H1 e Q q => ⟨h.sc.1, by
  rw [h.sc.2]
  exact q H1 (Ex.refl H1)⟩
theorem e_isN (ha : Ev ta σ H x) : Ev (tOp nIsN ta (tC .non)) σ H (.bl (decide (x = .non))) := ev_op ha ev_c fun H1 e Q q => ⟨rfl, q H1 (Ex.refl H1)⟩
theorem e_notN (ha : Ev ta σ H x) : Ev (tOp nNotN ta (tC .non)) σ H (.bl (!decide (x = .non))) := ev_op ha ev_c fun H1 e Q q => ⟨rfl, q H1 (Ex.refl H1)⟩
theorem e_inS {c : Nat} (ha : Ev ta σ H (tx [c])) (hb : Ev tb σ H (tx b)) : Ev (tOp nInS ta tb) σ H (.bl (decide (c ∈ b))) := ev_op ha hb fun H1 e Q q => ⟨c, _, rfl, rfl, q H1 (Ex.refl H1)⟩
theorem e_notInS {c : Nat} (ha : Ev ta σ H (tx [c])) (hb : Ev tb σ H (tx b)) : Ev (tOp nNotInS ta tb) σ H (.bl (!decide (c ∈ b))) := ev_op ha hb fun H1 e Q q => ⟨c, _, rfl, rfl, q H1 (Ex.refl H1)⟩
theorem e_lenS (ha : Ev ta σ H (tx a)) (h : a.length ≤ 100000) : Ev (tCB nLenS (tCons ta tNil)) σ H (.int (a.length : Int)) := ev_cb (ea_cons ha ea_nil) fun H1 e Q q => ⟨_, rfl, by rw [tx_len]; exact line1 h, by
  rw [tx_len]
  exact q H1 (Ex.refl H1)⟩
theorem e_lenL {p : Addr} {xs : List V} (ha : Ev ta σ H (.ref p)) (h : SqL K H p xs) : Ev (tCB (nLenL K) (tCons ta tNil)) σ H (.int (xs.length : Int)) := ev_cb (ea_cons ha ea_nil) fun H1 e Q q => ⟨p, xs, rfl, .inl (ex_l e h), q H1 (Ex.refl H1)⟩
theorem e_lenT {p : Addr} {xs : List V} (ha : Ev ta σ H (.ref p)) (h : SqT K H p xs) : Ev (tCB (nLenL K) (tCons ta tNil)) σ H (.int (xs.length : Int)) := ev_cb (ea_cons ha ea_nil) fun H1 e Q q => ⟨p, xs, rfl, .inr (ex_t e h), q H1 (Ex.refl H1)⟩
theorem atI_in {α : Type} {xs : List α} {i : Int} {v : α} (h0 : 0 ≤ i) (h : xs[i.toNat]? = some v) : atI xs i = some v := by
  have e : i = ((i.toNat : Nat) : Int) := by omega
  rw [e]
  exact atI_nat h
theorem e_ixS {c : Nat} (ha : Ev ta σ H (tx a)) (hb : Ev tb σ H (.int i)) (hl : a.length ≤ 100000) (h : atI a i = some c) : Ev (tOp nIxS ta tb) σ H (tx [c]) := ev_op ha hb fun H1 e Q q =>
  ⟨_, i, c, rfl, rfl, by rw [tx_len]; exact line1 hl, h, q H1 (Ex.refl H1)⟩
theorem e_ixL {p : Addr} {xs : List V} (ha : Ev ta σ H (.ref p)) (hb : Ev tb σ H (.int i)) (hs : SqL K H p xs) (h : atI xs i = some v) : Ev (tOp (nIxL K) ta tb) σ H v := ev_op ha hb fun H1 e Q q =>
  ⟨p, xs, i, v, rfl, rfl, ex_l e hs, h, q H1 (Ex.refl H1)⟩
theorem e_ixT {p : Addr} {xs : List V} (ha : Ev ta σ H (.ref p)) (hb : Ev tb σ H (.int i)) (hs : SqT K H p xs) (h : atI xs i = some v) : Ev (tOp (nIxT K) ta tb) σ H v := ev_op ha hb fun H1 e Q q =>
  ⟨p, xs, i, v, rfl, rfl, ex_t e hs, h, q H1 (Ex.refl H1)⟩
/-- [a, b, ..][i], the list made on the way -/
theorem e_ixN {xs : List V} (ha : EvL ta σ H xs) (hb : Ev tb σ H (.int i)) (h : atI xs i = some v) : Ev (tOp (nIxL K) ta tb) σ H v := ev_opL1 ha (fun H1 e => hb.mono e) fun p H1 hp e H2 e2 Q q =>
  ⟨p, xs, i, v, rfl, rfl, sq_of (e2 _ _ hp), h, q H2 (Ex.refl H2)⟩
theorem cut_eq (a : List Nat) (lo hi : Option Int) : cutS ⟨a.toArray⟩ lo hi = ⟨((a.drop (HT.sIx a.length 0 lo)).take (HT.sIx a.length a.length hi - HT.sIx a.length 0 lo)).toArray⟩ := by
  unfold cutS
  rw [tx_len]
theorem six {n d : Nat} {i : Int} (h0 : 0 ≤ i) : HT.sIx n d (some i) = min i.toNat n := by
  have e : i = ((i.toNat : Nat) : Int) := by omega
  rw [e, HT.sIx_nat]
  rfl
theorem e_take {ti : TE} (ha : Ev ta σ H (tx a)) (hb : Ev ti σ H (.int i)) (hl : a.length ≤ 100000) (h0 : 0 ≤ i) : Ev (tSl nSlS ta tNoPart (tPart ti)) σ H (tx (a.take i.toNat)) := fun H1 e Q q =>
  ha H1 e _ fun H2 e2 => hb H2 (e.trans e2) _ fun H3 e3 => ⟨i, rfl, _, rfl, by rw [tx_len]; exact line1 hl, by
    have q1 := q H3 (e2.trans e3)
    rw [cut_eq, six h0]
    show Q (.str ⟨((a.drop 0).take (min i.toNat a.length - 0)).toArray⟩) H3
    rw [List.drop_zero, Nat.sub_zero]
    have e4 : a.take (min i.toNat a.length) = a.take i.toNat := by
      rw [List.take_eq_take_iff]
      omega
    rw [e4]
    exact q1⟩
theorem e_drop {ti : TE} (ha : Ev ta σ H (tx a)) (hb : Ev ti σ H (.int i)) (hl : a.length ≤ 100000) (h0 : 0 ≤ i) : Ev (tSl nSlS ta (tPart ti) tNoPart) σ H (tx (a.drop i.toNat)) := fun H1 e Q q =>
  ha H1 e _ fun H2 e2 => hb H2 (e.trans e2) _ fun H3 e3 => ⟨i, rfl, _, rfl, by rw [tx_len]; exact line1 hl, by
    have q1 := q H3 (e2.trans e3)
    rw [cut_eq, six h0]
    show Q (.str ⟨((a.drop (min i.toNat a.length)).take (a.length - min i.toNat a.length)).toArray⟩) H3
    have e4 : (a.drop (min i.toNat a.length)).take (a.length - min i.toNat a.length) = a.drop i.toNat := by
      rw [List.take_of_length_le (by rw [List.length_drop]; omega)]
      by_cases h : i.toNat ≤ a.length
      · rw [Nat.min_eq_left h]
      · rw [Nat.min_eq_right (by omega), List.drop_of_length_le (Nat.le_refl _), List.drop_of_length_le (by omega)]
    rw [e4]
    exact q1⟩
/-- isinstance(x, T) -/
theorem e_isi {T : String} {t : Value} {b : Bool} (ha : Ev ta σ H x) (ht : TyX K H x t) (hs : ∀ H1, Ex H H1 → TyX K H1 x t) (hk : PySem.W.kitOne K t (.type T) = some b) : Ev (tCB (nIsi K) (tCons ta (tCons (tC (.ty T)) tNil))) σ H (.bl b) :=
  ev_cb (ea_cons ha (ea_cons ev_c ea_nil)) fun H1 e Q q => ⟨x, .ty T, t, .type T, b, rfl, .ty T, hs H1 e, hk, q H1 (Ex.refl H1)⟩
end

/-! ### what evaluates to something of which P holds, with the heap -/
def EvG (te : TE) (σ : L2.St) (H : Hp) (P : V → Hp → Prop) : Prop := ∀ H1, Ex H H1 → ∀ Q : VK, (∀ v H2, Ex H1 H2 → P v H2 → Q v H2) → te σ H1 Q
def EvAll (ta : TA) (σ : L2.St) (H : Hp) (P : V → Hp → Prop) (n : Nat) : Prop := ∀ H1, Ex H H1 → ∀ Q : List V → Hp → Prop, (∀ vs H2, Ex H1 H2 → (∀ v ∈ vs, P v H2) → vs.length = n → Q vs H2) → ta σ H1 Q
/-- P stays while the heap grows -/
def Up (P : V → Hp → Prop) : Prop := ∀ v H H', Ex H H' → P v H → P v H'
def RetG (P : V → Hp → Prop) (H : Hp) (Q : VK) : Prop := ∀ v H2, Ex H H2 → P v H2 → Q v H2
def SpG (sp : Sp) (vs : List V) (H : Hp) (P : V → Hp → Prop) : Prop := ∀ H1, Ex H H1 → ∀ Q : VK, RetG P H1 Q → ∀ E : XK, sp vs H1 Q E
section
variable {K : PySem.W.Frag} {σ : L2.St} {H H' : Hp} {ta tb te : TE} {tr : TA} {t : TT} {x y z v : V} {P P' : V → Hp → Prop} {n : Nat} {i : Int} {D : Ends} {tu tw tz : TS} {g : TG}
theorem EvG.mono (e : Ex H H') (h : EvG te σ H P) : EvG te σ H' P := fun H1 a Q q => h H1 (e.trans a) Q q
theorem EvG.imp (h : EvG te σ H P) (k : ∀ v H2, Ex H H2 → P v H2 → P' v H2) : EvG te σ H P' := fun H1 a Q q => h H1 a Q fun v H2 e p => q v H2 e (k v H2 (a.trans e) p)
theorem g_ev (hP : Up P) (h : Ev te σ H v) (p : P v H) : EvG te σ H P := fun H1 e Q q => h H1 e Q fun H2 e2 => q v H2 e2 (hP v H H2 (e.trans e2) p)
theorem ev_g (h : EvG te σ H fun v' _ => v' = v) : Ev te σ H v := fun H1 e Q q => h H1 e Q fun v' H2 e2 p => by
  subst p
  exact q H2 e2
theorem g_lst {xs : List V} (h : EvL te σ H xs) (p : ∀ a H2, Ex H H2 → H2 a = some (.lst xs) → P (.ref a) H2) : EvG te σ H P := fun H1 e Q q => h H1 e Q fun a H2 _ e2 h2 => q _ H2 e2 (p a H2 (e.trans e2) h2)
theorem g_tup {xs : List V} (h : EvU te σ H xs) (p : ∀ a H2, Ex H H2 → H2 a = some (.tup xs) → P (.ref a) H2) : EvG te σ H P := fun H1 e Q q => h H1 e Q fun a H2 _ e2 h2 => q _ H2 e2 (p a H2 (e.trans e2) h2)
theorem g_dnew (p : ∀ a H2, Ex H H2 → H2 a = some (.dK []) → P (.ref a) H2) : EvG tDNewK σ H P := fun H1 e Q q a ha => q _ _ (Ex.new ha) (p a _ (e.trans (Ex.new ha)) upd_same)
theorem all_nil : EvAll tNil σ H P 0 := fun H1 _ Q q => q [] H1 (Ex.refl H1) (fun v h => by cases h) rfl
theorem all_cons (hP : Up P) (h : EvG te σ H P) (hr : EvAll tr σ H P n) : EvAll (tCons te tr) σ H P (n + 1) := fun H1 e Q q =>
  h H1 e _ fun v H2 e2 p => hr H2 (e.trans e2) _ fun vs H3 e3 ps hl => q (v :: vs) H3 (e2.trans e3) (fun u hu => by
    rcases List.mem_cons.mp hu with rfl | hu
    · exact hP _ H2 H3 e3 p
    · exact ps u hu) (by rw [List.length_cons, hl])
/-- [a, b, ..][i] -/
theorem g_pick (hP : Up P) (h : EvAll tr σ H P n) (hi : Ev tb σ H (.int i)) (h0 : 0 ≤ i) (h1 : i < (n : Int)) (hn : n ≤ 100000) : EvG (tOp (nIxL K) (tLst tr) tb) σ H P := fun H1 e Q q =>
  h H1 e _ fun vs H2 e2 ps hl => ⟨by rw [hl]; exact line1 hn, fun p hp => hi _ ((e.trans e2).trans (Ex.new hp)) _ fun H3 e3 => by
    have hlt : i.toNat < vs.length := by omega
    refine ⟨p, vs, i, vs[i.toNat], rfl, rfl, sq_of (e3 _ _ upd_same), atI_in h0 (List.getElem?_eq_getElem hlt), ?_⟩
    exact q _ H3 (e2.trans ((Ex.new hp).trans e3)) (hP _ H2 H3 ((Ex.new hp).trans e3) (ps _ (List.getElem_mem hlt)))⟩
theorem g_call {sp : Sp} {dvs vs : List V} {E : XK} {ta : TA} (h : EvA ta σ H vs) (hs : SpG sp (vs ++ dvs) H P) : EvG (tCall sp dvs E ta) σ H P := fun H1 e Q q =>
  h H1 e _ fun H2 e2 => hs H2 (e.trans e2) Q (fun v H3 e3 p => q v H3 (e2.trans e3) p) E
/-- a call one of whose arguments is only known by what holds of it: raw -/
theorem q_asgG {j : Nat} (h : EvG te σ H P) (k : ∀ v H1, Ex H H1 → P v H1 → tz D (σ.set j (some v)) H1) : tSeq (tAsg te (gName j)) tz D σ H := h H (Ex.refl H) _ k
theorem s_asgG {j : Nat} (h : EvG te σ H P) (k : ∀ v H1, Ex H H1 → P v H1 → D.nx (σ.set j (some v)) H1) : tAsg te (gName j) D σ H := h H (Ex.refl H) _ k
theorem s_retG (h : EvG te σ H P) (k : ∀ v H1, Ex H H1 → P v H1 → D.rt v H1) : tRet te D σ H := h H (Ex.refl H) _ k
theorem q_ret (h : Ev te σ H v) (k : ∀ H1, Ex H H1 → D.rt v H1) : tSeq (tRet te) tz D σ H := h H (Ex.refl H) _ k
theorem RetG.go {Q : VK} (k : RetG P H Q) (e : Ex H H') (p : P v H') : Q v H' := k v H' e p
/-- for c in s: c in slot j -/
theorem s_forS {j : Nat} {w : List Nat} (h : Ev te σ H (tx w)) (Pv : Nat → L2.St → Hp → Prop) (h0 : ∀ H1, Ex H H1 → Pv 0 σ H1)
    (hs : ∀ i c σ' H', w[i]? = some c → Pv i σ' H' → tu { D with nx := Pv (i + 1), ct := Pv (i + 1), bk := D.nx } (σ'.set j (some (tx [c]))) H') (hd : ∀ σ' H', Pv w.length σ' H' → D.nx σ' H') : tFor (iStr te) (gName j) tu D σ H :=
  h H (Ex.refl H) _ fun H1 e => ⟨_, rfl, fun i m σ' H' => m = w.length - i ∧ i ≤ w.length ∧ Pv i σ' H', ⟨w.length, by simp, Nat.zero_le _, h0 H1 e⟩, fun i m σ' H' hw => by
    obtain ⟨rfl, hi, p⟩ := hw
    by_cases hlt : i < w.length
    · refine .inr ⟨by show i < (w.toArray).size; simpa using hlt, Pv (i + 1), fun σ2 H2 p' => ⟨w.length - (i + 1), by omega, rfl, hlt, p'⟩, fun x H2 y => ?_⟩
      obtain ⟨e1, c, hc, e2⟩ := y
      subst e1
      subst e2
      exact hs i c σ' _ (by
        have hc' : (w.toArray)[i]? = some c := hc
        rw [List.getElem?_toArray] at hc'
        exact hc') p
    · have e1 : i = w.length := by omega
      subst e1
      exact .inl ⟨by show (w.toArray).size ≤ w.length; simp, hd σ' H' p⟩⟩
theorem q_forS {j : Nat} {w : List Nat} (h : Ev te σ H (tx w)) (Pv : Nat → L2.St → Hp → Prop) (h0 : ∀ H1, Ex H H1 → Pv 0 σ H1)
    (hs : ∀ i c σ' H', w[i]? = some c → Pv i σ' H' → tu { D with nx := Pv (i + 1), ct := Pv (i + 1), bk := tz D } (σ'.set j (some (tx [c]))) H') (hd : ∀ σ' H', Pv w.length σ' H' → tz D σ' H') : tSeq (tFor (iStr te) (gName j) tu) tz D σ H :=
  s_forS (D := { D with nx := tz D }) h Pv h0 hs hd
end
/-- what a body is read with -/
abbrev fin (Q : VK) : Ends := { nx := fun _ H' => Q .non H', rt := Q }
abbrev slots (n : Nat) (vs : List V) : L2.St := vs.map some ++ List.replicate (n - vs.length) none
/-- things that are no texts -/
def Odd (v : V) (H : Hp) : Prop := v = .non ∨ (∃ i, v = .int i) ∨ (∃ b, v = .bl b) ∨ ∃ p, v = .ref p ∧ ((∃ xs, H p = some (.lst xs)) ∨ (∃ xs, H p = some (.tup xs)) ∨ ∃ kvs, H p = some (.dK kvs))
theorem odd_up : Up Odd := fun v H H' e h => by
  rcases h with h | h | h | ⟨p, hp, h⟩
  · exact .inl h
  · exact .inr (.inl h)
  · exact .inr (.inr (.inl h))
  · refine .inr (.inr (.inr ⟨p, hp, ?_⟩))
    rcases h with ⟨xs, h⟩ | ⟨xs, h⟩ | ⟨xs, h⟩
    · exact .inl ⟨xs, e _ _ h⟩
    · exact .inr (.inl ⟨xs, e _ _ h⟩)
    · exact .inr (.inr ⟨xs, e _ _ h⟩)
theorem odd_ty {K : PySem.W.Frag} {v : V} {H : Hp} (h : Odd v H) : ∃ t, TyX K H v t ∧ PySem.W.kitOne K t (.type "str") = some false := by
  rcases h with rfl | ⟨i, rfl⟩ | ⟨b, rfl⟩ | ⟨p, rfl, h⟩
  · exact ⟨_, .base .non, kit_ty (by decide +kernel)⟩
  · exact ⟨_, .base (.int i), kit_ty (by decide +kernel)⟩
  · exact ⟨_, .base (.bl b), kit_ty (by decide +kernel)⟩
  · rcases h with ⟨xs, h⟩ | ⟨xs, h⟩ | ⟨xs, h⟩
    · exact ⟨_, .base (.lst h), kit_ty (by decide +kernel)⟩
    · exact ⟨_, .base (.tup h), kit_ty (by decide +kernel)⟩
    · exact ⟨_, .base (.dK h), kit_ty (by decide +kernel)⟩
section
variable {K : PySem.W.Frag} {σ : L2.St} {H : Hp} {ta : TE}
theorem e_isStr {w : List Nat} (ha : Ev ta σ H (tx w)) : Ev (tCB (nIsi K) (tCons ta (tCons (tC (.ty "str")) tNil))) σ H (.bl true) :=
  e_isi (t := .type "str") ha (.base (.str _)) (fun _ _ => .base (.str _)) (kit_ty (by decide +kernel))
theorem e_isOdd {v : V} (ha : Ev ta σ H v) (h : Odd v H) : Ev (tCB (nIsi K) (tCons ta (tCons (tC (.ty "str")) tNil))) σ H (.bl false) :=
  ev_cb (ea_cons ha (ea_cons ev_c ea_nil)) fun H1 e Q q => by
    obtain ⟨t, h1, h2⟩ := odd_ty (K := K) (odd_up v H H1 e h)
    exact ⟨v, .ty "str", t, .type "str", false, rfl, .ty "str", h1, h2, q H1 (Ex.refl H1)⟩
theorem e_isBool {b : Bool} (ha : Ev ta σ H (.bl b)) : Ev (tCB (nIsi K) (tCons ta (tCons (tC (.ty "bool")) tNil))) σ H (.bl true) :=
  e_isi (t := .type "bool") ha (.base (.bl _)) (fun _ _ => .base (.bl _)) (kit_ty (by decide +kernel))
theorem e_lenA {w : List Nat} (ha : Ev ta σ H (tx w)) (h : w.length ≤ 100000) : Ev (tCB (nLenA K) (tCons ta tNil)) σ H (.int (w.length : Int)) := ev_cb (ea_cons ha ea_nil) fun H1 e Q q => ⟨_, _, rfl, ⟨by rw [tx_len]; exact line1 h, rfl⟩, by
  rw [tx_len]
  exact q H1 (Ex.refl H1)⟩
end

/-! ### == of data -/
section
variable {K : PySem.W.Frag} {H H' : Hp}
open PySem.W (Datum)
mutual
theorem dp_up (e : Ex H H') : ∀ (d : PyData) (v : V), Dp K H v d → Dp K H' v d
  | .none, _, h => by cases h; exact .non
  | .bool _, _, h => by cases h; exact .bl _
  | .int _, _, h => by cases h; exact .int _
  | .str _, _, h => by cases h; exact .str _
  | .list ds, _, h => by
    cases h with
    | lst hs ha => exact .lst (ex_l e hs) (dp_upAll e ds _ ha)
  | .tuple ds, _, h => by
    cases h with
    | tup hs ha => exact .tup (ex_t e hs) (dp_upAll e ds _ ha)
  | .dict _, _, h => by cases h
theorem dp_upAll (e : Ex H H') : ∀ (ds : List PyData) (vs : List V), DpAll K H vs ds → DpAll K H' vs ds
  | [], _, h => by cases h; exact .nil
  | d :: ds, _, h => by
    cases h with
    | cons h1 h2 => exact .cons (dp_up e d _ h1) (dp_upAll e ds _ h2)
end
def nEqD (K : PySem.W.Frag) : R2 := fun x y H Q => ∃ d e, Dp K H x d ∧ Dp K H y e ∧ d.plain = true ∧ e.plain = true ∧ min d.depth e.depth ≤ 64 ∧ Q (.bl (PyData.eqv d e)) H
def nNeD (K : PySem.W.Frag) : R2 := fun x y H Q => ∃ d e, Dp K H x d ∧ Dp K H y e ∧ d.plain = true ∧ e.plain = true ∧ min d.depth e.depth ≤ 64 ∧ Q (.bl (!PyData.eqv d e)) H
theorem o_eqD {X : Cx} (hu : X.A.units + 64 < cLine) : OpR X (compareOp .Eq) (nEqD X.K) := by
  intro pins s σ H x y v u Q I rx ry h
  obtain ⟨d, e, hd, he, sd, se, hm, q⟩ := h
  obtain ⟨as, r1⟩ := Dp.reads I d x v hd rx
  obtain ⟨bs, r2⟩ := Dp.reads I e y u he ry
  exact PySem.SeqAt.eq_plain r1 r2 sd se (by omega) ⟨.bl _, H, I, rfl, q⟩
theorem o_neD {X : Cx} (hu : X.A.units + 64 < cLine) : OpR X (compareOp .NotEq) (nNeD X.K) := by
  intro pins s σ H x y v u Q I rx ry h
  obtain ⟨d, e, hd, he, sd, se, hm, q⟩ := h
  obtain ⟨as, r1⟩ := Dp.reads I d x v hd rx
  obtain ⟨bs, r2⟩ := Dp.reads I e y u he ry
  exact PySem.SeqAt.ne_plain r1 r2 sd se (by omega) ⟨.bl _, H, I, rfl, q⟩
/-- v is x's value -/
def Is {α : Type} [DecidableEq α] [Datum α] (K : PySem.W.Frag) (H : Hp) (v : V) (x : α) : Prop := Dp K H v (Datum.toD x)
section
variable {α : Type} [DecidableEq α] [Datum α] {σ : L2.St} {ta tb : TE} {v w : V} {x y : α}
theorem Is.up (e : Ex H H') (h : Is K H v x) : Is K H' v x := dp_up e _ _ h
theorem n_eq {Q : VK} (h1 : Is K H v x) (h2 : Is K H w y) (hd : Datum.depth α ≤ 64) (q : Q (.bl (decide (x = y))) H) : nEqD K v w H Q :=
  ⟨_, _, h1, h2, Datum.plain x, Datum.plain y, Nat.le_trans (Nat.min_le_left _ _) (Nat.le_trans (Datum.depth_le x) hd), by rw [Datum.eqv]; exact q⟩
theorem n_ne {Q : VK} (h1 : Is K H v x) (h2 : Is K H w y) (hd : Datum.depth α ≤ 64) (q : Q (.bl (!decide (x = y))) H) : nNeD K v w H Q :=
  ⟨_, _, h1, h2, Datum.plain x, Datum.plain y, Nat.le_trans (Nat.min_le_left _ _) (Nat.le_trans (Datum.depth_le x) hd), by rw [Datum.eqv]; exact q⟩
end
/-- a list of flat values -/
theorem dpAll_map {α β : Type} (f : β → V) (g : β → PyData) (h : ∀ b, Dp K H (f b) (g b)) : ∀ bs : List β, DpAll K H (bs.map f) (bs.map g)
  | [] => .nil
  | b :: bs => .cons (h b) (dpAll_map (α := α) f g h bs)
theorem is_strs {p : Addr} {xs : List Str} (h : SqL K H p (xs.map V.str)) : Is K H (.ref p) xs := .lst h (dpAll_map (α := Unit) V.str PyData.str (fun b => .str b) xs)
theorem is_ints {p : Addr} {xs : List Int} (h : SqL K H p (xs.map V.int)) : Is K H (.ref p) xs := .lst h (dpAll_map (α := Unit) V.int PyData.int (fun b => .int b) xs)
theorem is_bls {p : Addr} {xs : List Bool} (h : SqL K H p (xs.map V.bl)) : Is K H (.ref p) xs := .lst h (dpAll_map (α := Unit) V.bl PyData.bool (fun b => .bl b) xs)
end
/-! over a text's signs, in a comprehension -/
section
variable {K : PySem.W.Frag} {σ : L2.St} {H : Hp} {tl te : TE} {t : TT}
theorem el_lcS {w : List Nat} {j : Nat} {vs : List Nat} (f : Nat → Bool) (v : Nat → V) (h : Ev tl σ H (tx w)) (hz : w.length ≤ 40000) (hw : ∀ x, wipe ((wipe σ vs).set j (some x)) vs = wipe σ vs)
    (ht : ∀ (i c : Nat) H1, Ex H H1 → w[i]? = some c → EvT t ((wipe σ vs).set j (some (tx [c]))) H1 (f i)) (he : ∀ (i c : Nat) H1, Ex H H1 → w[i]? = some c → f i = true → Ev te ((wipe σ vs).set j (some (tx [c]))) H1 (v i)) :
    EvL (tLc (iStr tl) (gName j) t te vs) σ H (given w.length f v) := fun H0 e Q q => h H0 e _ fun H1 e1 => ⟨_, rfl, fun Dl hD =>
  ⟨fun i m H' => m = w.length - i ∧ i ≤ w.length ∧ Cw H1 f v Dl i H', ⟨w.length, by simp, Nat.zero_le _, hD, Ex.new hD, upd_same⟩, fun i m H' hw' => by
    obtain ⟨rfl, hi, p⟩ := hw'
    by_cases hlt : i < w.length
    · refine .inr ⟨by show i < (w.toArray).size; simpa using hlt, Cw H1 f v Dl (i + 1), fun H2 p' => ⟨w.length - (i + 1), by omega, rfl, hlt, p'⟩, fun x H2 y => ?_⟩
      obtain ⟨e1', c, hc, e2⟩ := y
      subst e1'
      subst e2
      have hc' : w[i]? = some c := by
        have hc' : (w.toArray)[i]? = some c := hc
        rw [List.getElem?_toArray] at hc'
        exact hc'
      exact ⟨hw _, cw_turn p (by omega) (ht i c H1 (e.trans e1) hc') (fun hf => he i c H1 (e.trans e1) hc' hf)⟩
    · have e1' : i = w.length := by omega
      subst e1'
      exact .inl ⟨by show (w.toArray).size ≤ w.length; simp, q Dl H' (fresh_back e1 p.1) (e1.trans p.2.1) p.2.2⟩⟩⟩
end

/-! ### -x, join -/
def nNeg : V → Hp → VK → Prop := rU fun i => .int (-i)
def nJoin (K : PySem.W.Frag) : V → List V → Hp → VK → Prop := fun x xs H Q => ∃ a p, ∃ ys : List Str, x = .str a ∧ xs = [.ref p] ∧ (SqL K H p (ys.map V.str) ∨ SqT K H p (ys.map V.str)) ∧
    (ys.map (·.length)).sum + ys.length * a.length ≤ 16777216 ∧ Q (.str (Txt.join a ys)) H
section
variable {X : Cx}
theorem o_neg : UnR X (unaryOp .USub) nNeg := un_neg
end
theorem given_all (n : Nat) (v : Nat → V) : given n (fun _ => true) v = (List.range n).map v := by
  unfold given
  rw [List.filter_eq_self.mpr (fun _ _ => rfl)]
theorem joinL_nil : ∀ ps : List (List Nat), TL.joinL [] ps = ps.flatten
  | [] => rfl
  | [p] => by simp [TL.joinL]
  | p :: q :: r => by
    show p ++ ([] ++ TL.joinL [] (q :: r)) = (p :: q :: r).flatten
    rw [joinL_nil (q :: r)]
    simp
theorem join_signs (cs : List Nat) : Txt.join ⟨#[]⟩ (cs.map fun c => (⟨#[c]⟩ : Str)) = ⟨cs.toArray⟩ := by
  rw [TL.join_eq]
  apply TL.ext_tl
  rw [TL.tl_join]
  show TL.joinL [] _ = cs
  rw [joinL_nil, List.map_map]
  induction cs with
  | nil => rfl
  | cons c r ih => rw [List.map_cons, List.flatten_cons, ih]; rfl
section
variable {K : PySem.W.Frag} {σ : L2.St} {H : Hp} {tl ta : TE} {i : Int}
theorem e_neg (ha : Ev ta σ H (.int i)) : Ev (tUn nNeg ta) σ H (.int (-i)) := ev_un ha fun H1 e Q q => ⟨i, rfl, q H1 (Ex.refl H1)⟩
theorem sum_ones : ∀ cs : List Nat, ((cs.map fun c => (⟨#[c]⟩ : Str)).map (·.length)).sum = cs.length
  | [] => rfl
  | c :: r => by
    rw [List.map_cons, List.map_cons, List.sum_cons, sum_ones r, List.length_cons]
    show 1 + r.length = r.length + 1
    omega
theorem e_join {cs : List Nat} (h : EvL tl σ H (cs.map fun c => tx [c])) (hl : cs.length ≤ 100000) : Ev (tM1 (nJoin K) (tC (tx [])) tl) σ H (tx cs) := fun H1 e Q q =>
  ⟨⟨_, rfl⟩, h H1 e _ fun p H2 _ e2 hp => ⟨_, p, cs.map fun c => (⟨#[c]⟩ : Str), rfl, rfl, .inl (sq_of (by rw [hp, List.map_map]; rfl)), by
    rw [sum_ones]
    show cs.length + _ * 0 ≤ 16777216
    omega, by
    have q1 := q H2 e2
    show Q (.str (Txt.join ⟨#[]⟩ (cs.map fun c => (⟨#[c]⟩ : Str)))) H2
    rw [join_signs]
    exact q1⟩⟩
end

/-! ### a def of the module, to be called -/
structure Cal (P : Program) (w : World) (K : PySem.W.Frag) (mg : Str → Option Value) (base : Heap) (CX : CXT) (k : Nat) (x : Str) (ps : List Str) (sp : Sp) : Prop where
  ex : ∃ (f : Addr) (fd : FuncData), FnOk P w K mg base CX k f fd ps sp ∧ mg x = some (.ref f) ∧ PySem.W.keepIn K (.ref f) = true ∧ Binds K fd ps []

/-! ### try: .. except C: (or C as n:) -/
def tTryOnly (K : PySem.W.Frag) (c : Value) (tb : WX → TS) (ts : Addr → Value → Option Addr → TS) : TS := fun D σ H => tb (wOnly K c ts (fun _ _ _ _ => False) D) D σ H
def tTryAs (K : PySem.W.Frag) (c : Value) (i : Nat) (tb : WX → TS) (ts : Addr → Value → Option Addr → TS) : TS := fun D σ H => tb (wAs K c i ts (fun _ _ _ _ => False) D) D σ H

/-! ### list(xs), xs.insert(i, y) -/
def nList (K : PySem.W.Frag) : List V → Hp → VK → Prop := fun xs H Q => ∃ p ys, xs = [.ref p] ∧ (SqL K H p ys ∨ SqT K H p ys) ∧ ∀ l, H l = none → Q (.ref l) (upd H l (.lst ys))
theorem c_list {X : Cx} : CallR X (.type "list") (nList X.K) := call_list_of
def rInsertN : V → List V → Hp → VK → Prop := fun x vs H Q => ∃ (l : Addr) (xs : List V) (i : Int) (y : V), x = .ref l ∧ vs = [.int i, y] ∧ H l = some (.lst xs) ∧ xs.length < sizeLine ∧ 0 ≤ i ∧ i < 2 ^ 63 ∧
    Q .non (upd H l (.lst (xs.take i.toNat ++ [y] ++ xs.drop i.toNat)))
theorem mt_insertN {X : Cx} : MtR X "list.insert" rInsertN := mt_insert
theorem el_listN {K : PySem.W.Frag} {σ : L2.St} {H : Hp} {ta : TE} {p : Addr} {xs : List V} (ha : Ev ta σ H (.ref p)) (h : SqL K H p xs) : EvL (tCB (nList K) (tCons ta tNil)) σ H xs := el_list ha h

/-! ### a heap without one place: what is known of all else stays where that one changes -/
def del (H : Hp) (l : Addr) : Hp := fun b => if b = l then none else H b
section
variable {H H' H0 : Hp} {l q : Addr} {o : HO}
theorem del_ne (h : q ≠ l) : del H l q = H q := by unfold del; rw [if_neg h]
theorem del_same : del H l l = none := by unfold del; rw [if_pos rfl]
theorem del_ex : Ex (del H l) H := fun b u h => by
  by_cases hb : b = l
  · rw [hb, del_same] at h; cases h
  · rw [del_ne hb] at h; exact h
theorem del_mono (e : Ex H H') : Ex (del H l) (del H' l) := fun b u h => by
  by_cases hb : b = l
  · rw [hb, del_same] at h; cases h
  · rw [del_ne hb] at h ⊢; exact e b u h
theorem del_upd : del (upd H l o) l = del H l := by
  funext b
  by_cases hb : b = l
  · rw [hb, del_same, del_same]
  · rw [del_ne hb, del_ne hb, upd_ne hb]
theorem ex_del (h0 : H0 l = none) (e : Ex H0 H) : Ex H0 (del H l) := fun b u h => by
  rw [del_ne (ne_of_none h h0)]
  exact e b u h
end
/-! ### slices of lists -/
section
variable {K : PySem.W.Frag} {σ : L2.St} {H : Hp} {te : TE} {tl th : TO} {a : Addr} {xs : List V} {lo hi : Option Int}
theorem el_slN (h : Ev te σ H (.ref a)) (h1 : EvO tl σ H lo) (h2 : EvO th σ H hi) (hs : SqL K H a xs) : EvL (tSl (nSlL K) te tl th) σ H (cutV xs lo hi) := el_sl h h1 h2 hs
theorem cut_from {i : Int} (h : 0 ≤ i) : cutV xs (some i) none = xs.drop i.toNat := by
  unfold cutV
  rw [six h]
  show (xs.drop (min i.toNat xs.length)).take (xs.length - min i.toNat xs.length) = xs.drop i.toNat
  rw [List.take_of_length_le (by rw [List.length_drop]; omega)]
  by_cases h : i.toNat ≤ xs.length
  · rw [Nat.min_eq_left h]
  · rw [Nat.min_eq_right (by omega), List.drop_of_length_le (Nat.le_refl _), List.drop_of_length_le (by omega)]
theorem cut_to {i : Int} (h : 0 ≤ i) : cutV xs none (some i) = xs.take i.toNat := by
  unfold cutV
  rw [six h]
  show (xs.drop 0).take (min i.toNat xs.length - 0) = xs.take i.toNat
  rw [List.drop_zero, Nat.sub_zero, List.take_eq_take_iff]
  omega
theorem cut_mid {i j : Int} (h : 0 ≤ i) (h' : 0 ≤ j) : cutV xs (some i) (some j) = (xs.drop i.toNat).take (j.toNat - i.toNat) := by
  unfold cutV
  rw [six h, six h']
  by_cases hi : i.toNat ≤ xs.length
  · rw [Nat.min_eq_left hi, List.take_eq_take_iff, List.length_drop]
    omega
  · rw [Nat.min_eq_right (show xs.length ≤ i.toNat by omega), List.drop_of_length_le (Nat.le_refl _), List.drop_of_length_le (show xs.length ≤ i.toNat by omega), List.take_nil, List.take_nil]
theorem ints_get {ns : List Int} {i : Nat} {x : V} (h : (ns.map V.int)[i]? = some x) : ∃ z, ns[i]? = some z ∧ x = .int z := by
  rw [List.getElem?_map] at h
  cases e : ns[i]? with
  | none => rw [e] at h; cases h
  | some z => rw [e] at h; exact ⟨z, rfl, (Option.some.inj h).symm⟩
end

section
variable {K : PySem.W.Frag} {σ : L2.St} {H : Hp} {ta tb te : TE} {tr : TA} {P : V → Hp → Prop} {n : Nat} {D : Ends} {tz : TS} {v : V}
/-- x = [..]: a new list of which P holds item by item -/
theorem q_asgAll {j : Nat} (hP : Up P) (h : EvAll tr σ H P n) (hn : n ≤ 100000) (k : ∀ vs p H1, H p = none → Ex H H1 → H1 p = some (.lst vs) → (∀ v ∈ vs, P v H1) → vs.length = n → tz D (σ.set j (some (.ref p))) H1) : tSeq (tAsg (tLst tr) (gName j)) tz D σ H :=
  h H (Ex.refl H) _ fun vs H1 e1 ps hl => ⟨by rw [hl]; exact line1 hn, fun p hp => k vs p _ (fresh_back e1 hp) (e1.trans (Ex.new hp)) upd_same (fun v hv => hP v H1 _ (Ex.new hp) (ps v hv)) hl⟩
/-- xs.insert(i, e) -/
theorem s_insert {l : Addr} {xs : List V} {i : Int} (hl : H l = some (.lst xs)) (ha : Ev ta σ H (.ref l)) (hi : Ev tb σ H (.int i)) (h : Ev te σ H v) (hz : xs.length < 100000) (h0 : 0 ≤ i) (h1 : i < 2 ^ 63)
    (k : ∀ H1, Ex H H1 → D.nx σ (upd H1 l (.lst (xs.take i.toNat ++ [v] ++ xs.drop i.toNat)))) : tDrop (tBM K "list" rInsertN ta (tCons tb (tCons te tNil))) D σ H :=
  ha H (Ex.refl H) _ fun H1 e1 => ⟨.inl ⟨rfl, xs, sq_of (e1 l _ hl)⟩, hi H1 e1 _ fun H2 e2 => h H2 (e1.trans e2) _ fun H3 e3 => ⟨l, xs, i, v, rfl, rfl, e3 _ _ (e2 _ _ (e1 _ _ hl)), Evl.sz_lt hz, h0, h1, k H3 ((e1.trans e2).trans e3)⟩⟩
end

/-- whether an error of the class at C is one of the class at D -/
theorem exm_by {K : PySem.W.Frag} {C D : Addr} {r : Bool} (p1 : PySem.W.subIn K (.ref D) (.type "BaseException") = some true) (p2 : PySem.W.isClsIn K D = true) (p3 : PySem.W.typeIn K (.ref D) = some (.type "type")) (p4 : PySem.W.subIn K (.ref C) (.ref D) = some r) :
    PySem.W.exmOne K (.ref C) (.ref D) = some r := by
  have q2 : (PySem.W.clsIn K D).isSome = true := p2
  unfold PySem.W.exmOne PySem.W.kitCls
  simp [p1, p3, q2, p4]
end Nw

set_option Elab.async false
set_option linter.all false
set_option maxRecDepth 100000
/-! Nw.Eq: == and != of any thing and a text. -/
namespace Nw
open PySem L2 Evl PyProof.Rows PySem.SeqAt PySem.MeetsSeq
set_option maxHeartbeats 1000000
theorem sub_sd : isSubtype (.type "str") (.type "dict") = pure false := by rw [isSubtype_type]; kernel_rfl
theorem d_eq_s (l : Addr) (o : Obj) (b : Str) (u : Tok) :
    PySem.Meets (Builtin.«dict.__eq__» ⟨[.ref l, .str b u], []⟩) (fun _ R s => s.heap.get? l = some o ∧ R (.ok (.ret .notImplemented)) s) :=
  .of_wp fun prog w A R s h => by obtain ⟨hp, g, d, tk, os⟩ := s; obtain ⟨hl, h⟩ := h; have f1 := sub_sd; wp_walk; exact ⟨_, rfl, h⟩
theorem d_ne_s (l : Addr) (o : Obj) (b : Str) (u : Tok) :
    PySem.Meets (Builtin.«dict.__ne__» ⟨[.ref l, .str b u], []⟩) (fun _ R s => s.heap.get? l = some o ∧ R (.ok (.ret .notImplemented)) s) :=
  .of_wp fun prog w A R s h => by obtain ⟨hp, g, d, tk, os⟩ := s; obtain ⟨hl, h⟩ := h; have f1 := sub_sd; wp_walk; exact ⟨_, rfl, h⟩
theorem s_eq_d (b : Str) (u : Tok) (l : Addr) (c : Value) (es : Array DictEntry) (ep : Nat) (dd : Option Addr) (sl : Array (Option Value)) :
    PySem.Meets (Builtin.«str.__eq__» ⟨[.str b u, .ref l], []⟩) (fun _ R s => s.heap.get? l = some { cls := c, dict := dd, data := .dict es ep, slots := sl } ∧ R (.ok (.ret .notImplemented)) s) :=
  .of_wp fun prog w A R s h => by obtain ⟨hp, g, d, tk, os⟩ := s; obtain ⟨hl, h⟩ := h; wp_walk using AutoSeq1.wpAny_loadPart' hl, wpAny_load hl; exact ⟨_, rfl, h⟩
theorem s_ne_d (b : Str) (u : Tok) (l : Addr) (c : Value) (es : Array DictEntry) (ep : Nat) (dd : Option Addr) (sl : Array (Option Value)) :
    PySem.Meets (Builtin.«str.__ne__» ⟨[.str b u, .ref l], []⟩) (fun _ R s => s.heap.get? l = some { cls := c, dict := dd, data := .dict es ep, slots := sl } ∧ R (.ok (.ret .notImplemented)) s) :=
  .of_wp fun prog w A R s h => by obtain ⟨hp, g, d, tk, os⟩ := s; obtain ⟨hl, h⟩ := h; wp_walk using AutoSeq1.wpAny_loadPart' hl, wpAny_load hl; exact ⟨_, rfl, h⟩
section
variable {A : Around} {s : Shared}
theorem rc_ds {l : Addr} {o : Obj} {es : Array DictEntry} {ep : Nat} (b : Str) (u : Tok) (ho : s.heap.get? l = some o) (hc : o.cls = .type "dict") (hd : o.data = .dict es ep) (hu : A.units < cLine) : RcAt A s (.ref l) (.str b u) false := fun prog w E Q h => by
  obtain ⟨cls, dd, data, sl⟩ := o
  simp only at hc hd
  subst hc hd
  exact rc_eq_decline_or (k := false) ⟨_, ho, rfl⟩ (typeIs_str s b u) (by decide) sub_sd F.slot_dict_eq F.slot_str_eq_refl
    (fun _ hq => call_meets F.slot_dict_eq ⟨_, ho, rfl⟩ F.entry_dict_eq (F.args_dict_eq_2 _ _) (d_eq_s l _ b u) ⟨ho, hq⟩)
    (fun _ hq => call_meets F.slot_str_eq_refl (typeIs_str s b u) F.entry_str_eq (F.args_str_eq_2 _ _) (s_eq_d b u l (.type "dict") es ep dd sl) ⟨ho, hq⟩)
    (fun _ hq => wpAny_of_eq (rfl : isSame (.ref l) (.str b u) = pure false) hq) (.inr hu) h
theorem rcne_ds {l : Addr} {o : Obj} {es : Array DictEntry} {ep : Nat} (b : Str) (u : Tok) (ho : s.heap.get? l = some o) (hc : o.cls = .type "dict") (hd : o.data = .dict es ep) (hu : A.units < cLine) : RcNeAt A s (.ref l) (.str b u) true := fun prog w E Q h => by
  obtain ⟨cls, dd, data, sl⟩ := o
  simp only at hc hd
  subst hc hd
  exact rc_ne_decline_or (k := false) ⟨_, ho, rfl⟩ (typeIs_str s b u) (by decide) sub_sd F.slot_dict_ne F.slot_str_ne_refl
    (fun _ hq => call_meets F.slot_dict_ne ⟨_, ho, rfl⟩ F.entry_dict_ne (F.args_dict_ne_2 _ _) (d_ne_s l _ b u) ⟨ho, hq⟩)
    (fun _ hq => call_meets F.slot_str_ne_refl (typeIs_str s b u) F.entry_str_ne (F.args_str_ne_2 _ _) (s_ne_d b u l (.type "dict") es ep dd sl) ⟨ho, hq⟩)
    (fun _ hq => wpAny_of_eq (rfl : isSame (.ref l) (.str b u) = pure false) hq) (.inr hu) h
end
/-- a text, or another thing -/
def Any (v : V) (H : Hp) : Prop := (∃ w, v = tx w ∧ w.length ≤ 1000) ∨ Odd v H
theorem any_up : Up Any := fun v H H' e h => h.elim .inl fun h => .inr (odd_up v H H' e h)
/-- thing == text, thing != text -/
def nEqS : R2 := fun x y H Q => ∃ b, y = tx b ∧ Any x H ∧ Q (.bl (decide (x = y))) H
def nNeS : R2 := fun x y H Q => ∃ b, y = tx b ∧ Any x H ∧ Q (.bl (!decide (x = y))) H
theorem no_ref_str {p : Addr} {b : Str} : decide (V.ref p = V.str b) = false := decide_eq_false fun z => nomatch z
theorem o_eqS {X : Cx} (hu : X.A.units + 64 < cLine) : OpR X (compareOp .Eq) nEqS := by
  intro pins s σ H x y v u Q I rx ry h
  obtain ⟨b, rfl, ha, q⟩ := h
  have sc : ∀ {x : V}, scal x (tx b) = true → RelV x v → Q (.bl (decide (x = tx b))) H → wpAny (model X.prog X.w) X.A (compareOp .Eq v u) (EP X pins σ Q) X.xe s := fun hs r q => op_eq pins s σ H _ _ v u Q I r ry ⟨hs, q⟩
  rcases ha with ⟨w, rfl, _⟩ | rfl | ⟨i, rfl⟩ | ⟨i, rfl⟩ | ⟨p, rfl, h⟩
  · exact sc rfl rx q
  · exact sc rfl rx q
  · exact sc rfl rx q
  · exact sc rfl rx q
  · rw [no_ref_str] at q
    cases rx
    obtain ⟨t, rfl⟩ := ry
    rcases h with ⟨xs, h⟩ | ⟨xs, h⟩ | ⟨xs, h⟩
    · obtain ⟨_, its, n, _, h1⟩ := (show ObjOk X.prog X.w H s.heap p (.lst xs) from I.hok p _ h)
      exact RcAt.list_str _ t (items := its.toArray) ⟨_, h1, rfl, n, rfl⟩ (by omega) _ _ _ _ ⟨.bl false, H, I, rfl, q⟩
    · obtain ⟨_, its, _, o, h1, h2, n, h3⟩ := (show ObjOk X.prog X.w H s.heap p (.tup xs) from I.hok p _ h)
      exact RcAt.tuple_str _ t (items := its.toArray) ⟨o, h1, h2, n, h3⟩ (by omega) _ _ _ _ ⟨.bl false, H, I, rfl, q⟩
    · obtain ⟨_, _, vs, _, o, es, ep, h1, h2, h3, _⟩ := (show ObjOk X.prog X.w H s.heap p (.dK xs) from I.hok p _ h)
      exact rc_ds _ t h1 h2.1 h3 (by omega) _ _ _ _ ⟨.bl false, H, I, rfl, q⟩
theorem o_neS {X : Cx} (hu : X.A.units + 64 < cLine) : OpR X (compareOp .NotEq) nNeS := by
  intro pins s σ H x y v u Q I rx ry h
  obtain ⟨b, rfl, ha, q⟩ := h
  have sc : ∀ {x : V}, scal x (tx b) = true → RelV x v → Q (.bl (!decide (x = tx b))) H → wpAny (model X.prog X.w) X.A (compareOp .NotEq v u) (EP X pins σ Q) X.xe s := fun hs r q => op_ne pins s σ H _ _ v u Q I r ry ⟨hs, q⟩
  rcases ha with ⟨w, rfl, _⟩ | rfl | ⟨i, rfl⟩ | ⟨i, rfl⟩ | ⟨p, rfl, h⟩
  · exact sc rfl rx q
  · exact sc rfl rx q
  · exact sc rfl rx q
  · exact sc rfl rx q
  · rw [no_ref_str] at q
    cases rx
    obtain ⟨t, rfl⟩ := ry
    rcases h with ⟨xs, h⟩ | ⟨xs, h⟩ | ⟨xs, h⟩
    · obtain ⟨_, its, n, _, h1⟩ := (show ObjOk X.prog X.w H s.heap p (.lst xs) from I.hok p _ h)
      exact RcNeAt.list_str _ t (items := its.toArray) ⟨_, h1, rfl, n, rfl⟩ (by omega) _ _ _ _ ⟨.bl true, H, I, rfl, q⟩
    · obtain ⟨_, its, _, o, h1, h2, n, h3⟩ := (show ObjOk X.prog X.w H s.heap p (.tup xs) from I.hok p _ h)
      exact RcNeAt.tuple_str _ t (items := its.toArray) ⟨o, h1, h2, n, h3⟩ (by omega) _ _ _ _ ⟨.bl true, H, I, rfl, q⟩
    · obtain ⟨_, _, vs, _, o, es, ep, h1, h2, h3, _⟩ := (show ObjOk X.prog X.w H s.heap p (.dK xs) from I.hok p _ h)
      exact rcne_ds _ t h1 h2.1 h3 (by omega) _ _ _ _ ⟨.bl true, H, I, rfl, q⟩
section
variable {K : PySem.W.Frag} {σ : L2.St} {H : Hp} {ta tb : TE} {x : V} {b : List Nat}
theorem e_eqS (ha : Ev ta σ H x) (hb : Ev tb σ H (tx b)) (h : Any x H) : Ev (tOp nEqS ta tb) σ H (.bl (decide (x = tx b))) := ev_op ha hb fun H1 e Q q => ⟨b, rfl, any_up _ _ _ e h, q H1 (Ex.refl H1)⟩
theorem e_neS (ha : Ev ta σ H x) (hb : Ev tb σ H (tx b)) (h : Any x H) : Ev (tOp nNeS ta tb) σ H (.bl (!decide (x = tx b))) := ev_op ha hb fun H1 e Q q => ⟨b, rfl, any_up _ _ _ e h, q H1 (Ex.refl H1)⟩
end
end Nw

set_option Elab.async false
set_option linter.all false
set_option maxRecDepth 100000
/-! k01: what is a word -/
namespace Nw
open PySem L2 Evl
/-- a word -/
def isW (w : List Nat) : Bool := decide (w.length ≤ 24 ∧ Low w)
/-- a text of at most 27 signs, or no text -/
def Thing (v : V) (H : Hp) : Prop := (∃ w, v = tx w ∧ w.length ≤ 27) ∨ Odd v H
theorem thing_up : Up Thing := fun v H H' e h => h.elim .inl fun h => .inr (odd_up v H H' e h)
def sp_is_word (K : PySem.W.Frag) : Sp := fun vs H Q _ => ∃ v, vs = [v] ∧ ((∃ w, v = tx w ∧ w.length ≤ 1000 ∧ RetV (.bl (isW w)) H Q) ∨ (Odd v H ∧ RetV (.bl false) H Q))
def sp_law_is_word (K : PySem.W.Frag) : Sp := sp_is_word K
def sp_law_sign (K : PySem.W.Frag) : Sp := fun vs H Q _ => ∃ c : Int, vs = [.int c] ∧ RetG (fun v _ => ∃ a, v = tx [a]) H Q
def sp_law_thing (K : PySem.W.Frag) : Sp := fun vs H Q _ => ∃ c : Int, vs = [.int c] ∧ RetG Thing H Q
/- is_word(thing): slots 0:thing 1:letter -/
def T_is_word (K : PySem.W.Frag) : TS :=
 (tSeq (tIfS (tOr (tNot (tB (tCB (nIsi K) (tCons (tVar 0) (tCons (tC (.ty "str")) tNil))))) (tTest (tOp nGt (tCB nLenS (tCons (tVar 0) tNil)) (tC (.int 24)))))
 (tRet (tC (.bl false))) tNext)
 (tSeq (tFor (iStr (tVar 0)) (gName 1)
 (tIfS (tTest (tOp nNotInS (tVar 1) (tC (tx abc))))
 (tRet (tC (.bl false))) tNext))
 (tRet (tC (.bl true)))))
def n_is_word : Nat := 2
/- _law_sign(_law_cell): slots 0:_law_cell 1:_law_signs -/
def T_law_sign (K : PySem.W.Frag) : TS :=
 (tSeq (tAsg (tC (tx [32, 33, 34, 35, 36, 38, 39, 40, 41, 42, 43, 44, 45, 46, 47, 48, 49, 50, 51, 52, 53, 54, 55, 56, 57, 58, 59, 60, 61, 62, 63, 64, 65, 66, 67, 68, 69, 70, 71, 72, 73, 74, 75, 76, 77, 78, 79, 80, 81, 82, 83, 84, 85, 86, 87, 88, 89, 90, 91, 92, 93, 94, 95, 96, 123, 124, 125, 126, 10, 9])) (gName 1))
 (tRet (tOp nIxS (tVar 1) (tOp nMod (tVar 0) (tCB nLenS (tCons (tVar 1) tNil))))))
def n_law_sign : Nat := 2
/- _law_thing(_law_cell): slots 0:_law_cell 1:_law_letters 2:_law_text 3:_law_k 4:_law_at -/
def T_law_thing (K : PySem.W.Frag) : TS :=
 (tSeq (tAsg (tC (tx abc)) (gName 1))
 (tSeq (tAsg (tM1 (nJoin K) (tC (tx [])) (tLc (iRng1 (tCons (tOp nMod (tOp nDiv (tVar 0) (tC (.int 7))) (tC (.int 27))) tNil)) (gName 3) tYes (tOp nIxS (tVar 1) (tOp nMod (tOp nAdd (tOp nDiv (tVar 0) (tC (.int 7))) (tOp nMul (tOp nMul (tC (.int 5)) (tVar 3)) (tOp nMod (tVar 0) (tC (.int 3))))) (tC (.int 26)))) [3])) (gName 2))
 (tSeq (tIfS (tTest (tOp nLt (tOp nMod (tVar 0) (tC (.int 7))) (tC (.int 3))))
 (tRet (tVar 2)) tNext)
 (tSeq (tIfS (tTest (tOp nLt (tOp nMod (tVar 0) (tC (.int 7))) (tC (.int 5))))
 (tSeq (tAsg (tOp nMod (tOp nDiv (tVar 0) (tC (.int 189))) (tOp nAdd (tCB nLenS (tCons (tVar 2) tNil)) (tC (.int 1)))) (gName 4))
 (tRet (tOp nCat (tOp nCat (tSl nSlS (tVar 2) tNoPart (tPart (tVar 4))) (tCall (sp_law_sign K) [] E0 (tCons (tOp nDiv (tVar 0) (tC (.int 77))) tNil))) (tSl nSlS (tVar 2) (tPart (tVar 4)) tNoPart)))) tNext)
 (tRet (tOp (nIxL K) (tLst (tCons (tC .non) (tCons (tC (.int 5)) (tCons (tC (.bl true)) (tCons (tTup (tCons (tC (tx [97])) tNil)) (tCons (tLst (tCons (tC (tx [97])) tNil)) (tCons tDNewK (tCons (tLst tNil) (tCons (tTup (tCons (tC (tx [97])) (tCons (tC (tx [98])) tNil))) (tCons (tC (.int 0)) (tCons (tUn nNeg (tC (.int 1))) (tCons (tC (.bl false)) (tCons (tDisp [((tC (tx [97])), (tC (.int 1)))]) tNil))))))))))))) (tOp nMod (tOp nDiv (tVar 0) (tC (.int 7))) (tC (.int 12)))))))))
def n_law_thing : Nat := 5
/- _law_is_word(_law_thing_here): slots 0:_law_thing_here 1:_law_letter -/
def T_law_is_word (K : PySem.W.Frag) : TS :=
 (tSeq (tIfS (tOr (tNot (tB (tCB (nIsi K) (tCons (tVar 0) (tCons (tC (.ty "str")) tNil))))) (tTest (tOp nGt (tCB nLenS (tCons (tVar 0) tNil)) (tC (.int 24)))))
 (tRet (tC (.bl false))) tNext)
 (tRet (tOp (nEqD K) (tLc (iStr (tVar 0)) (gName 1) (tTest (tOp nNotInS (tVar 1) (tC (tx abc)))) (tVar 1) [1]) (tLst tNil))))
def n_law_is_word : Nat := 2
theorem l_is_word {K vs H Q E} (h : sp_is_word K vs H Q E) : vs.length = 1 := by obtain ⟨v, rfl, _⟩ := h; rfl
theorem l_law_is_word {K vs H Q E} (h : sp_law_is_word K vs H Q E) : vs.length = 1 := l_is_word h
theorem l_law_sign {K vs H Q E} (h : sp_law_sign K vs H Q E) : vs.length = 1 := by obtain ⟨v, rfl, _⟩ := h; rfl
theorem l_law_thing {K vs H Q E} (h : sp_law_thing K vs H Q E) : vs.length = 1 := by obtain ⟨v, rfl, _⟩ := h; rfl
section
variable {K : PySem.W.Frag} {vs : List V} {H : Hp} {Q : VK} {E : XK}
theorem isW_long {w : List Nat} (h : 24 < w.length) : isW w = false := decide_eq_false fun z => by omega
theorem isW_bad {w : List Nat} {c : Nat} (h : c ∈ w) (hc : ¬ c ∈ abc) : isW w = false := decide_eq_false fun z => hc (mem_abc.mpr (z.2 c h))
theorem isW_good {w : List Nat} (h : w.length ≤ 24) (hl : Low w) : isW w = true := decide_eq_true ⟨h, hl⟩
theorem R_is_word (h : sp_is_word K vs H Q E) : T_is_word K (fin Q) (slots n_is_word vs) H := by
  obtain ⟨v, rfl, h⟩ := h
  show T_is_word K (fin Q) [some v, none] H
  unfold T_is_word
  rcases h with ⟨w, rfl, hl, k⟩ | ⟨ho, k⟩
  · refine q_when (b := decide (24 < w.length)) (et_is (et_or (et_not (et_B (e_isStr (ev_var rfl)))) (fun _ => et_test (e_gt (e_lenS (ev_var rfl) (by omega)) ev_c))) (by simp [dec_eq (show (24 : Int) < (w.length : Int) ↔ 24 < w.length by omega)])) (fun hb H1 e1 => ?_) (fun hb H1 e1 => ?_)
    · have hb' := of_decide_eq_true hb
      rw [isW_long hb'] at k
      exact s_ret ev_c fun H2 e2 => k _ (e1.trans e2)
    · have hb' := of_decide_eq_false hb
      refine q_forS (ev_var rfl) (fun i σ H' => (∃ x, σ = [some (tx w), x]) ∧ Ex H H' ∧ Low (w.take i)) (fun H2 e2 => ⟨⟨_, rfl⟩, e1.trans e2, by rw [List.take_zero]; exact low_nil⟩) (fun i c σ H' hc hp => ?_) (fun σ H' hp => ?_)
      · obtain ⟨⟨x, rfl⟩, e, lo⟩ := hp
        refine s_when (b := !decide (c ∈ abc)) (et_test (e_notInS (ev_var rfl) ev_c)) (fun hb H1 e1 => ?_) (fun hb H1 e1 => ?_)
        · have hn : ¬ c ∈ abc := by simpa using hb
          rw [isW_bad (List.mem_of_getElem? hc) hn] at k
          exact s_ret ev_c fun H2 e2 => k _ ((e.trans e1).trans e2)
        · have hn : c ∈ abc := by simpa using hb
          refine ⟨⟨_, rfl⟩, e.trans e1, ?_⟩
          rw [List.take_add_one, hc]
          exact low_app lo (low_one (mem_abc.mp hn))
      · obtain ⟨⟨x, rfl⟩, e, lo⟩ := hp
        rw [List.take_length] at lo
        rw [isW_good (by omega) lo] at k
        exact s_ret ev_c fun H2 e2 => k _ (e.trans e2)
  · refine q_when (b := true) (et_is (et_or (et_not (et_B (e_isOdd (ev_var rfl) ho))) (b := true) (fun hh => by cases hh)) (by simp)) (fun hb H1 e1 => ?_) (fun hb => by cases hb)
    exact s_ret ev_c fun H2 e2 => k _ (e1.trans e2)
theorem R_law_sign (h : sp_law_sign K vs H Q E) : T_law_sign K (fin Q) (slots n_law_sign vs) H := by
  obtain ⟨c, rfl, k⟩ := h
  show T_law_sign K (fin Q) [some (.int c), none] H
  unfold T_law_sign
  refine q_asg ev_c fun H1 e1 => ?_
  generalize hw : [32, 33, 34, 35, 36, 38, 39, 40, 41, 42, 43, 44, 45, 46, 47, 48, 49, 50, 51, 52, 53, 54, 55, 56, 57, 58, 59, 60, 61, 62, 63, 64, 65, 66, 67, 68, 69, 70, 71, 72, 73, 74, 75, 76, 77, 78, 79, 80, 81, 82, 83, 84, 85, 86, 87, 88, 89, 90, 91, 92, 93, 94, 95, 96, 123, 124, 125, 126, 10, 9] = w
  have hl : w.length = 70 := by rw [← hw]; rfl
  have h0 : 0 ≤ c % (w.length : Int) := Int.emod_nonneg _ (by omega)
  have h1 : c % (w.length : Int) < 70 := by have := Int.emod_lt_of_pos c (show (0 : Int) < (w.length : Int) by omega); omega
  have hlt : (c % (w.length : Int)).toNat < w.length := by omega
  refine s_ret (e_ixS (ev_var rfl) (e_mod (ev_var rfl) (e_lenS (ev_var rfl) (by omega)) (by omega)) (by omega) (atI_in h0 (List.getElem?_eq_getElem hlt))) fun H2 e2 => ?_
  exact k _ _ (e1.trans e2) ⟨_, rfl⟩
theorem g_sign {σ : L2.St} {te : TE} {j : Int} (h : Ev te σ H (.int j)) : EvG (tCall (sp_law_sign K) [] E0 (tCons te tNil)) σ H (fun v _ => ∃ a, v = tx [a]) :=
  g_call (ea_cons h ea_nil) fun H1 e Q q E => ⟨j, rfl, q⟩
theorem e_letter {σ : L2.St} {ta tb : TE} {i : Int} (ha : Ev ta σ H (tx abc)) (hb : Ev tb σ H (.int i)) (h0 : 0 ≤ i) (h1 : i < 26) : Ev (tOp nIxS ta tb) σ H (tx [i.toNat + 97]) :=
  e_ixS ha hb (by decide) (atI_in h0 (abc_at (by omega)))
theorem odd_non {H : Hp} : Odd .non H := .inl rfl
theorem odd_int {H : Hp} {i : Int} : Odd (.int i) H := .inr (.inl ⟨i, rfl⟩)
theorem odd_bl {H : Hp} {b : Bool} : Odd (.bl b) H := .inr (.inr (.inl ⟨b, rfl⟩))
theorem odd_l {H : Hp} {p : Addr} {xs : List V} (h : H p = some (.lst xs)) : Odd (.ref p) H := .inr (.inr (.inr ⟨p, rfl, .inl ⟨xs, h⟩⟩))
theorem odd_t {H : Hp} {p : Addr} {xs : List V} (h : H p = some (.tup xs)) : Odd (.ref p) H := .inr (.inr (.inr ⟨p, rfl, .inr (.inl ⟨xs, h⟩)⟩))
theorem odd_d {H : Hp} {p : Addr} {xs : List (Key × V)} (h : H p = some (.dK xs)) : Odd (.ref p) H := .inr (.inr (.inr ⟨p, rfl, .inr (.inr ⟨xs, h⟩)⟩))
theorem g_odd {σ : L2.St} {te : TE} {v : V} (h : Ev te σ H v) (o : ∀ H', Odd v H') : EvG te σ H Thing := g_ev thing_up h (.inr (o H))
theorem g_disp {σ : L2.St} {tk tv : TE} {k v : V} {kk : Key} (hk : Ev tk σ H k) (hv : Ev tv σ H v) (e1 : k = kV kk) : EvG (tDisp [(tk, tv)]) σ H Thing := fun H1 e Q q p hp =>
  hk _ (e.trans (Ex.new hp)) _ fun H2 e2 => hv H2 ((e.trans (Ex.new hp)).trans e2) _ fun H3 e3 =>
    ⟨e3 _ _ (e2 _ _ upd_same), [(kk, v)], by rw [e1]; rfl, (by show 1 ≤ 15; decide), q _ _ (Ex.mut (((Ex.new hp).trans e2).trans e3) hp) (.inr (odd_d upd_same))⟩
theorem R_law_thing (h : sp_law_thing K vs H Q E) : T_law_thing K (fin Q) (slots n_law_thing vs) H := by
  obtain ⟨c, rfl, k⟩ := h
  show T_law_thing K (fin Q) [some (.int c), none, none, none, none] H
  unfold T_law_thing
  refine q_asg ev_c fun H1 e1 => ?_
  have n0 : 0 ≤ c / 7 % 27 := Int.emod_nonneg _ (by omega)
  have n1 : c / 7 % 27 < 27 := Int.emod_lt_of_pos _ (by omega)
  have m0 : 0 ≤ c % 3 := Int.emod_nonneg _ (by omega)
  have m1 : c % 3 < 3 := Int.emod_lt_of_pos _ (by omega)
  let cs : List Nat := (List.range (c / 7 % 27).toNat).map fun (i : Nat) => ((c / 7 + 5 * (i : Int) * (c % 3)) % 26).toNat + 97
  have hl : cs.length ≤ 26 := by
    show ((List.range (c / 7 % 27).toNat).map _).length ≤ 26
    rw [List.length_map, List.length_range]; omega
  refine q_asg (v := tx cs) (e_join ?_ (by omega)) fun H2 e2 => ?_
  · have hg : cs.map (fun c => tx [c]) = given (c / 7 % 27).toNat (fun _ => true) (fun i => tx [((c / 7 + 5 * (i : Int) * (c % 3)) % 26).toNat + 97]) := by
      rw [given_all]
      show ((List.range (c / 7 % 27).toNat).map _).map _ = _
      rw [List.map_map]
      rfl
    rw [hg]
    refine el_lcR1 _ _ (ea_cons (e_mod (e_div (ev_var rfl) ev_c (by decide)) ev_c (by decide)) ea_nil) (by omega) (fun x => rfl) (fun i H2 e2 hi => ?_) (fun i H2 e2 hi _ => ?_)
    · exact fun H1 _ Q q => q H1 (Ex.refl H1)
    · exact e_letter (ev_var rfl) (e_mod (e_add (e_div (ev_var rfl) ev_c (by decide)) (e_mul (e_mul ev_c (ev_var rfl) (.inl (by decide))) (e_mod (ev_var rfl) ev_c (by decide)) (.inl (by omega)))) ev_c (by decide)) (Int.emod_nonneg _ (by omega)) (Int.emod_lt_of_pos _ (by omega))
  refine q_when (et_test (e_lt (e_mod (ev_var rfl) ev_c (by decide)) ev_c)) (fun hb H3 e3 => ?_) (fun hb H3 e3 => ?_)
  · exact s_ret (ev_var rfl) fun H4 e4 => k _ _ (((e1.trans e2).trans e3).trans e4) (.inl ⟨cs, rfl, by omega⟩)
  refine q_when (et_test (e_lt (e_mod (ev_var rfl) ev_c (by decide)) ev_c)) (fun hb H4 e4 => ?_) (fun hb H4 e4 => ?_)
  · have a0 : 0 ≤ c / 189 % ((cs.length : Int) + 1) := Int.emod_nonneg _ (by omega)
    refine q_asg (e_mod (e_div (ev_var rfl) ev_c (by decide)) (e_add (e_lenS (ev_var rfl) (by omega)) ev_c) (by omega)) fun H5 e5 => ?_
    generalize c / 189 % ((cs.length : Int) + 1) = a at a0
    have ht : (cs.take a.toNat).length ≤ 26 := by rw [List.length_take]; omega
    have hd : (cs.drop a.toNat).length ≤ 26 - a.toNat := by rw [List.length_drop]; omega
    have hd0 : (cs.take a.toNat).length + (cs.drop a.toNat).length = cs.length := by rw [← List.length_append, List.take_append_drop]
    -- text[:at] + sign(..) + text[at:]
    refine e_take (ev_var rfl) (ev_var rfl) (by omega) a0 H5 (Ex.refl H5) _ fun H6 e6 => ?_
    refine g_sign (e_div (ev_var rfl) ev_c (by decide)) H6 (Ex.refl H6) _ fun v H7 e7 hv => ?_
    obtain ⟨s, rfl⟩ := hv
    refine ⟨_, _, rfl, rfl, by rw [tx_len, tx_len]; exact line1 (by simp; omega), ?_⟩
    rw [tx_app]
    refine e_drop (ev_var rfl) (ev_var rfl) (by omega) a0 H7 (Ex.refl H7) _ fun H8 e8 => ?_
    refine ⟨_, _, rfl, rfl, by rw [tx_len, tx_len]; exact line1 (by simp; omega), ?_⟩
    rw [tx_app]
    exact k _ _ (((((((e1.trans e2).trans e3).trans e4).trans e5).trans e6).trans e7).trans e8) (.inl ⟨_, rfl, by simp only [List.length_append, List.length_cons, List.length_nil]; omega⟩)
  · refine s_retG (P := Thing) (g_pick (n := 12) thing_up ?_ (e_mod (e_div (ev_var rfl) ev_c (by decide)) ev_c (by decide)) (Int.emod_nonneg _ (by omega)) (Int.emod_lt_of_pos _ (by omega)) (by decide)) fun v H5 e5 p => k _ _ ((((e1.trans e2).trans e3).trans e4).trans e5) p
    refine all_cons thing_up (g_odd ev_c fun _ => odd_non) <| all_cons thing_up (g_odd ev_c fun _ => odd_int) <| all_cons thing_up (g_odd ev_c fun _ => odd_bl) <|
      all_cons thing_up (g_tup (eu_tup (ea_cons ev_c ea_nil) (by decide)) fun a H2 _ h => .inr (odd_t h)) <| all_cons thing_up (g_lst (el_lst (ea_cons ev_c ea_nil) (by decide)) fun a H2 _ h => .inr (odd_l h)) <|
      all_cons thing_up (g_dnew fun a H2 _ h => .inr (odd_d h)) <| all_cons thing_up (g_lst (el_lst ea_nil (by decide)) fun a H2 _ h => .inr (odd_l h)) <|
      all_cons thing_up (g_tup (eu_tup (ea_cons ev_c (ea_cons ev_c ea_nil)) (by decide)) fun a H2 _ h => .inr (odd_t h)) <| all_cons thing_up (g_odd ev_c fun _ => odd_int) <|
      all_cons thing_up (g_odd (e_neg ev_c) fun _ => odd_int) <| all_cons thing_up (g_odd ev_c fun _ => odd_bl) <| all_cons thing_up (g_disp (kk := .inr ⟨#[97]⟩) ev_c ev_c rfl) all_nil
theorem R_law_is_word (h : sp_law_is_word K vs H Q E) : T_law_is_word K (fin Q) (slots n_law_is_word vs) H := by
  obtain ⟨v, rfl, h⟩ := h
  show T_law_is_word K (fin Q) [some v, none] H
  unfold T_law_is_word
  rcases h with ⟨w, rfl, hl, k⟩ | ⟨ho, k⟩
  · refine q_when (b := decide (24 < w.length)) (et_is (et_or (et_not (et_B (e_isStr (ev_var rfl)))) (fun _ => et_test (e_gt (e_lenS (ev_var rfl) (by omega)) ev_c))) (by simp [dec_eq (show (24 : Int) < (w.length : Int) ↔ 24 < w.length by omega)])) (fun hb H1 e1 => ?_) (fun hb H1 e1 => ?_)
    · have hb' := of_decide_eq_true hb
      rw [isW_long hb'] at k
      exact s_ret ev_c fun H2 e2 => k _ (e1.trans e2)
    · have hb' := of_decide_eq_false hb
      let f : Nat → Bool := fun i => !decide ((w[i]?).getD 0 ∈ abc)
      have hf : given w.length f (fun i => tx [(w[i]?).getD 0]) = (((List.range w.length).filter f).map fun i => (⟨#[(w[i]?).getD 0]⟩ : Str)).map V.str := by
        unfold given
        rw [List.map_map]
        rfl
      have hE : EvL (tLc (iStr (tVar 0)) (gName 1) (tTest (tOp nNotInS (tVar 1) (tC (tx abc)))) (tVar 1) [1]) [some (tx w), none] H1 (given w.length f (fun i => tx [(w[i]?).getD 0])) := by
        refine el_lcS f _ (ev_var rfl) (by omega) (fun x => rfl) (fun i c H2 e2 hc => ?_) (fun i c H2 e2 hc _ => ?_)
        · refine et_is (et_test (e_notInS (ev_var rfl) ev_c)) ?_
          show _ = !decide ((w[i]?).getD 0 ∈ abc)
          rw [hc]; rfl
        · rw [hc]
          exact ev_var rfl
      refine s_ret (v := .bl (isW w)) (ev_opLL hE (el_lst ea_nil (by decide)) fun p q H2 hp hq e2 => fun H3 e3 Q3 q3 => ?_) fun H2 e2 => k _ (e1.trans e2)
      refine n_eq (x := (((List.range w.length).filter f).map fun i => (⟨#[(w[i]?).getD 0]⟩ : Str))) (y := ([] : List Str)) (is_strs (sq_of ?_)) (is_strs (sq_of (e3 _ _ hq))) (by decide) ?_
      · rw [← hf]
        exact e3 _ _ hp
      · have hk : decide ((((List.range w.length).filter f).map fun i => (⟨#[(w[i]?).getD 0]⟩ : Str)) = []) = isW w := by
            unfold isW
            refine dec_eq ⟨fun hn => ⟨by omega, fun c hc => ?_⟩, fun hw => ?_⟩
            · obtain ⟨i, hi⟩ := List.mem_iff_getElem?.mp hc
              rw [List.map_eq_nil_iff, List.filter_eq_nil_iff] at hn
              have h3 := hn i (List.mem_range.mpr (List.getElem?_eq_some_iff.mp hi).1)
              have h4 : (w[i]?).getD 0 ∈ abc := by simpa [f] using h3
              rw [hi] at h4
              exact mem_abc.mp h4
            · rw [List.map_eq_nil_iff, List.filter_eq_nil_iff]
              intro i hi
              have hi' := List.mem_range.mp hi
              have h4 : (w[i]?).getD 0 ∈ abc := by
                rw [List.getElem?_eq_getElem hi']
                exact mem_abc.mpr (hw.2 _ (List.getElem_mem hi'))
              simp only [f, h4, decide_true, Bool.not_true]
              exact Bool.false_ne_true
        rw [hk]
        exact q3 _ (Ex.refl _)
  · refine q_when (b := true) (et_is (et_or (et_not (et_B (e_isOdd (ev_var rfl) ho))) (b := true) (fun hh => by cases hh)) (by simp)) (fun hb H1 e1 => ?_) (fun hb => by cases hb)
    exact s_ret ev_c fun H2 e2 => k _ (e1.trans e2)
/-! ### the law -/
def sp_law1 (K : PySem.W.Frag) : Sp := fun vs H Q _ => ∃ (a : Addr) (ns : List Int), vs = [.ref a] ∧ SqL K H a (ns.map V.int) ∧ ns.length ≤ 63 ∧ ∀ H', Q (.bl true) H'
end
theorem l_law1 {K vs H Q E} (h : sp_law1 K vs H Q E) : vs.length = 1 := by obtain ⟨v, _, rfl, _⟩ := h; rfl
/- law(_law_script): slots 0:_law_script 1:_law_k 2:_law_thing_here 3:_law_found -/
def T_law1 (K : PySem.W.Frag) : TS :=
 (tSeq (tIfS (tOr (tTest (tOp nNe (tC (tx abc)) (tC (tx abc)))) (tOr (tTest (tOp nNe (tC (.int 24)) (tC (.int 24)))) (tTest (tOp nNe (tC (.int 400)) (tC (.int 400))))))
 (tRet (tC (.bl false))) tNext)
 (tSeq (tFor (iRng1 (tCons (tCB (nLenL K) (tCons (tVar 0) tNil)) tNil)) (gName 1)
 (tSeq (tAsg (tCall (sp_law_thing K) [] E0 (tCons (tOp nAdd (tOp (nIxL K) (tVar 0) (tVar 1)) (tOp nMul (tC (.int 1001)) (tVar 1))) tNil)) (gName 2))
 (tSeq (tAsg (tCall (sp_is_word K) [] E0 (tCons (tVar 2) tNil)) (gName 3))
 (tIfS (tOr (tNot (tB (tCB (nIsi K) (tCons (tVar 3) (tCons (tC (.ty "bool")) tNil))))) (tTest (tOp nNe (tVar 3) (tCall (sp_law_is_word K) [] E0 (tCons (tVar 2) tNil)))))
 (tRet (tC (.bl false))) tNext))))
 (tRet (tC (.bl true)))))
def n_law1 : Nat := 4
section
variable {K : PySem.W.Frag} {vs : List V} {H : Hp} {Q : VK} {E : XK}
theorem ints_at {ns : List Int} {i : Nat} (h : i < ns.length) : atI (ns.map V.int) (i : Int) = some (.int ns[i]) := atI_nat (by rw [List.getElem?_map, List.getElem?_eq_getElem h]; rfl)
theorem thing_isw {v : V} (h : Thing v H) : ∃ b, (∀ H1, Ex H H1 → ∀ Q E, RetV (.bl b) H1 Q → sp_is_word K [v] H1 Q E) := by
  rcases h with ⟨w, rfl, hl⟩ | h
  · exact ⟨isW w, fun H1 e Q E k => ⟨_, rfl, .inl ⟨w, rfl, by omega, k⟩⟩⟩
  · exact ⟨false, fun H1 e Q E k => ⟨_, rfl, .inr ⟨odd_up _ _ _ e h, k⟩⟩⟩
theorem R_law1 (h : sp_law1 K vs H Q E) : T_law1 K (fin Q) (slots n_law1 vs) H := by
  obtain ⟨a, ns, rfl, hS, hn, k⟩ := h
  show T_law1 K (fin Q) [some (.ref a), none, none, none] H
  unfold T_law1
  refine q_when (b := false) (et_is (et_or (et_test (e_ne ev_c ev_c .ss)) fun _ => et_or (et_test (e_ne ev_c ev_c .ii)) fun _ => et_test (e_ne ev_c ev_c .ii)) (by simp)) (fun hb => by cases hb) (fun _ H1 e1 => ?_)
  refine q_forR1 (n := (ns.length : Int)) (ea_cons (ev_is (e_lenL (ev_var rfl) (ex_l e1 hS)) (by rw [List.length_map])) ea_nil) (by omega) (fun i σ H' => (∃ x y z, σ = [some (.ref a), x, y, z]) ∧ Ex H H') (fun H2 e2 => ⟨⟨_, _, _, rfl⟩, e1.trans e2⟩) (fun i σ H' hi hp => ?_) (fun σ H' hp => ?_)
  · obtain ⟨⟨x, y, z, rfl⟩, e⟩ := hp
    have hi' : i < ns.length := by omega
    refine q_asgG (P := Thing) (g_call (ea_cons (e_add (e_ixL (ev_var rfl) (ev_var rfl) (ex_l e hS) (ints_at hi')) (e_mul ev_c (ev_var rfl) (.inl (by decide)))) ea_nil) fun H1 e Q q E => ⟨_, rfl, q⟩) fun v H2 e2 hv => ?_
    obtain ⟨b, hb⟩ := thing_isw (K := K) hv
    refine q_asg (v := .bl b) (ev_call (ea_cons (ev_var rfl) ea_nil) fun H1 e Q q E => hb H1 e Q E fun H2 e2 => q H2 e2) fun H3 e3 => ?_
    refine s_when (b := false) (et_is (et_or (et_not (et_B (e_isBool (ev_var rfl)))) fun _ => et_test (e_ne (ev_var rfl) (ev_call (z := .bl b) (ea_cons (ev_var rfl) ea_nil) fun H1 e4 Q q E => hb H1 (e3.trans e4) Q E fun H2 e2 => q H2 e2) .bb)) (by simp)) (fun hb => by cases hb) (fun _ H4 e4 => ?_)
    exact ⟨⟨_, _, _, rfl⟩, ((e.trans e2).trans e3).trans e4⟩
  · obtain ⟨⟨x, y, z, rfl⟩, e⟩ := hp
    exact s_ret ev_c fun H2 e2 => k _
end
end Nw

set_option Elab.async false
set_option linter.all false
set_option maxRecDepth 100000
/-! changes of texts: is_letter, is_whole, need_change, done, led; the law's own _law_whole, _law_step -/
namespace Nw
open PySem L2 Evl
theorem nd {p : Prop} [Decidable p] (h : (!decide p) = true) : ¬ p := by simpa using h
theorem nd' {p : Prop} [Decidable p] (h : (!decide p) = false) : p := by simpa using h
/-! ### things by their types -/
section
variable {K : PySem.W.Frag} {σ : L2.St} {H H' : Hp} {ta : TE} {v : V}
def isI : V → Bool
  | .int _ => true
  | _ => false
/-- v's type is n, and stays so -/
def HasTy (n : String) (v : V) (H : Hp) : Prop := ∀ (K : PySem.W.Frag) (H1 : Hp), Ex H H1 → TyX K H1 v (.type n)
theorem ht_str {w : Str} : HasTy "str" (.str w) H := fun _ _ _ => .base (.str _)
theorem ht_non : HasTy "NoneType" .non H := fun _ _ _ => .base .non
theorem ht_int {i : Int} : HasTy "int" (.int i) H := fun _ _ _ => .base (.int _)
theorem ht_bl {i : Bool} : HasTy "bool" (.bl i) H := fun _ _ _ => .base (.bl _)
theorem ht_lst {p : Addr} {xs : List V} (h : H p = some (.lst xs)) : HasTy "list" (.ref p) H := fun _ _ e => .base (.lst (e _ _ h))
theorem ht_tup {p : Addr} {xs : List V} (h : H p = some (.tup xs)) : HasTy "tuple" (.ref p) H := fun _ _ e => .base (.tup (e _ _ h))
theorem ht_dK {p : Addr} {xs : List (Key × V)} (h : H p = some (.dK xs)) : HasTy "dict" (.ref p) H := fun _ _ e => .base (.dK (e _ _ h))
/-- isinstance(v, T) -/
theorem e_is {n T : String} {b : Bool} (ha : Ev ta σ H v) (h : HasTy n v H) (hk : kitB n T = some b) : Ev (tCB (nIsi K) (tCons ta (tCons (tC (.ty T)) tNil))) σ H (.bl b) :=
  ev_cb (ea_cons ha (ea_cons ev_c ea_nil)) fun H1 e Q q => ⟨v, .ty T, .type n, .type T, b, rfl, .ty T, h K H1 e, kit_ty hk, q H1 (Ex.refl H1)⟩
/-- no tuple -/
def NoTup (v : V) (H : Hp) : Prop := (∃ w, v = tx w ∧ w.length ≤ 1000) ∨ v = .non ∨ (∃ i, v = .int i) ∨ (∃ b, v = .bl b) ∨ ∃ p, v = .ref p ∧ ((∃ xs, H p = some (.lst xs)) ∨ ∃ kvs, H p = some (.dK kvs))
def Tup (v : V) (xs : List V) (H : Hp) : Prop := ∃ p, v = .ref p ∧ H p = some (.tup xs)
theorem noTup_up : Up NoTup := fun v H H' e h => by
  rcases h with h | h | h | h | ⟨p, hp, ⟨xs, h⟩ | ⟨xs, h⟩⟩
  · exact .inl h
  · exact .inr (.inl h)
  · exact .inr (.inr (.inl h))
  · exact .inr (.inr (.inr (.inl h)))
  · exact .inr (.inr (.inr (.inr ⟨p, hp, .inl ⟨xs, e _ _ h⟩⟩)))
  · exact .inr (.inr (.inr (.inr ⟨p, hp, .inr ⟨xs, e _ _ h⟩⟩)))
theorem tup_up (xs : List V) : Up (fun v H => Tup v xs H) := fun v H H' e ⟨p, hp, h⟩ => ⟨p, hp, e _ _ h⟩
theorem e_isTup {xs : List V} (ha : Ev ta σ H v) (h : Tup v xs H) : Ev (tCB (nIsi K) (tCons ta (tCons (tC (.ty "tuple")) tNil))) σ H (.bl true) := by
  obtain ⟨p, rfl, h⟩ := h
  exact e_is ha (ht_tup h) (by decide +kernel)
theorem e_noTup (ha : Ev ta σ H v) (h : NoTup v H) : Ev (tCB (nIsi K) (tCons ta (tCons (tC (.ty "tuple")) tNil))) σ H (.bl false) := by
  rcases h with ⟨w, rfl, _⟩ | rfl | ⟨i, rfl⟩ | ⟨b, rfl⟩ | ⟨p, rfl, ⟨xs, h⟩ | ⟨xs, h⟩⟩
  · exact e_is ha ht_str (by decide +kernel)
  · exact e_is ha ht_non (by decide +kernel)
  · exact e_is ha ht_int (by decide +kernel)
  · exact e_is ha ht_bl (by decide +kernel)
  · exact e_is ha (ht_lst h) (by decide +kernel)
  · exact e_is ha (ht_dK h) (by decide +kernel)
theorem e_isInt (ha : Ev ta σ H v) (h : Any v H) : ∃ b c, Ev (tCB (nIsi K) (tCons ta (tCons (tC (.ty "int")) tNil))) σ H (.bl b) ∧ Ev (tCB (nIsi K) (tCons ta (tCons (tC (.ty "bool")) tNil))) σ H (.bl c) ∧ (b && !c) = isI v := by
  rcases h with ⟨w, rfl, _⟩ | rfl | ⟨i, rfl⟩ | ⟨b, rfl⟩ | ⟨p, rfl, ⟨xs, h⟩ | ⟨xs, h⟩ | ⟨xs, h⟩⟩
  · exact ⟨false, false, e_is ha ht_str (by decide +kernel), e_is ha ht_str (by decide +kernel), rfl⟩
  · exact ⟨false, false, e_is ha ht_non (by decide +kernel), e_is ha ht_non (by decide +kernel), rfl⟩
  · exact ⟨true, false, e_is ha ht_int (by decide +kernel), e_is ha ht_int (by decide +kernel), rfl⟩
  · exact ⟨true, true, e_is ha ht_bl (by decide +kernel), e_is ha ht_bl (by decide +kernel), rfl⟩
  · exact ⟨false, false, e_is ha (ht_lst h) (by decide +kernel), e_is ha (ht_lst h) (by decide +kernel), rfl⟩
  · exact ⟨false, false, e_is ha (ht_tup h) (by decide +kernel), e_is ha (ht_tup h) (by decide +kernel), rfl⟩
  · exact ⟨false, false, e_is ha (ht_dK h) (by decide +kernel), e_is ha (ht_dK h) (by decide +kernel), rfl⟩
end
/-! ### changes -/
abbrev wPut : List Nat := [112, 117, 116]
abbrev wCut : List Nat := [99, 117, 116]
abbrev wTurn : List Nat := [116, 117, 114, 110]
inductive Good (w : List Nat) : List V → List Nat → Prop
  | put {i : Int} {c : Nat} (h0 : 0 ≤ i) (h1 : i ≤ (w.length : Int)) (hc : 97 ≤ c ∧ c < 123) : Good w [tx wPut, .int i, tx [c]] (w.take i.toNat ++ [c] ++ w.drop i.toNat)
  | cut {i : Int} (h0 : 0 ≤ i) (h1 : i < (w.length : Int)) : Good w [tx wCut, .int i] (w.take i.toNat ++ w.drop (i + 1).toNat)
  | turn {i : Int} {c : Nat} (h0 : 0 ≤ i) (h1 : i < (w.length : Int)) (hc : 97 ≤ c ∧ c < 123) (hn : w[i.toNat]? ≠ some c) : Good w [tx wTurn, .int i, tx [c]] (w.take i.toNat ++ [c] ++ w.drop (i + 1).toNat)
def GoodV (w : List Nat) (v : V) (H : Hp) (w' : List Nat) : Prop := ∃ xs, Tup v xs H ∧ Good w xs w'
def Chg (v : V) (H : Hp) : Prop := (∃ xs, Tup v xs H ∧ xs.length ≤ 4 ∧ ∀ x ∈ xs, Any x H) ∨ NoTup v H
theorem chg_up : Up Chg := fun v H H' e h => by
  rcases h with ⟨xs, ht, hl, ha⟩ | h
  · exact .inl ⟨xs, tup_up xs v H H' e ht, hl, fun x hx => any_up x H H' e (ha x hx)⟩
  · exact .inr (noTup_up v H H' e h)
theorem tup_inj {v : V} {xs ys : List V} {H H' : Hp} (e : Ex H H') (h : Tup v xs H) (h' : Tup v ys H') : xs = ys := by
  obtain ⟨p, rfl, h⟩ := h
  obtain ⟨q, hq, h'⟩ := h'
  have hpq : p = q := V.ref.inj hq
  subst hpq
  rw [e _ _ h] at h'
  exact HO.tup.inj (Option.some.inj h')
theorem noTup_not {v : V} {xs : List V} {H H' : Hp} (e : Ex H H') (h : NoTup v H) (h' : Tup v xs H') : False := by
  obtain ⟨q, rfl, h'⟩ := h'
  rcases h with ⟨w, hw, _⟩ | hw | ⟨i, hw⟩ | ⟨b, hw⟩ | ⟨p, hp, ⟨xs, h⟩ | ⟨xs, h⟩⟩
  · cases hw
  · cases hw
  · cases hw
  · cases hw
  · cases hp; rw [e _ _ h] at h'; cases h'
  · cases hp; rw [e _ _ h] at h'; cases h'
theorem goodV_up {w : List Nat} {v : V} {H H' : Hp} {w' : List Nat} (e : Ex H H') (h : GoodV w v H w') : GoodV w v H' w' := by
  obtain ⟨xs, ht, hg⟩ := h
  exact ⟨xs, tup_up xs v H H' e ht, hg⟩
theorem goodV_down {w : List Nat} {v : V} {H H' : Hp} {w' : List Nat} (e : Ex H H') (hc : Chg v H) (h : GoodV w v H' w') : GoodV w v H w' := by
  obtain ⟨xs, ht, hg⟩ := h
  rcases hc with ⟨ys, ht', _⟩ | hn
  · rw [← tup_inj e ht' ht] at hg
    exact ⟨ys, ht', hg⟩
  · exact (noTup_not e hn ht).elim
/-- what a change makes is a text of letters, at most one longer -/
theorem good_len {w w' : List Nat} {xs : List V} (h : Good w xs w') : w'.length ≤ w.length + 1 := by
  cases h with
  | put h0 h1 hc => simp only [List.length_append, List.length_take, List.length_drop, List.length_cons, List.length_nil]; omega
  | cut h0 h1 => simp only [List.length_append, List.length_take, List.length_drop]; omega
  | turn h0 h1 hc hn => simp only [List.length_append, List.length_take, List.length_drop, List.length_cons, List.length_nil]; omega
theorem good_low {w w' : List Nat} {xs : List V} (h : Good w xs w') (hl : Low w) : Low w' := by
  cases h with
  | put h0 h1 hc => exact low_app (low_app (low_take _ hl) (low_one hc)) (low_drop _ hl)
  | cut h0 h1 => exact low_app (low_take _ hl) (low_drop _ hl)
  | turn h0 h1 hc hn => exact low_app (low_app (low_take _ hl) (low_one hc)) (low_drop _ hl)
def RetE (C : Addr) (H : Hp) (E : XK) : Prop := ∀ H2, Ex H H2 → E (.ref C) none H2
def IsL (v : V) : Prop := ∃ c, v = tx [c] ∧ 97 ≤ c ∧ c < 123
def sp_is_letter (K : PySem.W.Frag) : Sp := fun vs H Q _ => ∃ v, vs = [v] ∧ Any v H ∧ (IsL v → RetV (.bl true) H Q) ∧ (¬ IsL v → RetV (.bl false) H Q)
def sp_is_whole (K : PySem.W.Frag) : Sp := fun vs H Q _ => ∃ v, vs = [v] ∧ Any v H ∧ RetV (.bl (isI v)) H Q
def sp_law_whole (K : PySem.W.Frag) : Sp := sp_is_whole K
def sp_need_change (K : PySem.W.Frag) (C : Addr) : Sp := fun vs H Q E => ∃ w v, vs = [tx w, v] ∧ w.length ≤ 900 ∧ Chg v H ∧ ((∃ w', GoodV w v H w') → RetV .non H Q) ∧ ((¬ ∃ w', GoodV w v H w') → RetE C H E)
def sp_done (K : PySem.W.Frag) (C : Addr) : Sp := fun vs H Q E => ∃ w v, vs = [tx w, v] ∧ w.length ≤ 900 ∧ Chg v H ∧ (∀ w', GoodV w v H w' → RetV (tx w') H Q) ∧ ((¬ ∃ w', GoodV w v H w') → RetE C H E)
def sp_law_step (K : PySem.W.Frag) : Sp := fun vs H Q _ => ∃ w v, vs = [tx w, v] ∧ w.length ≤ 900 ∧ Chg v H ∧ (∀ w', GoodV w v H w' → RetV (tx w') H Q) ∧ ((¬ ∃ w', GoodV w v H w') → RetV .non H Q)
/- is_letter(thing): slots 0:thing -/
def T_is_letter (K : PySem.W.Frag) : TS :=
 (tRet (tAndV (tCB (nIsi K) (tCons (tVar 0) (tCons (tC (.ty "str")) tNil))) (tAndV (tOp nEq (tCB nLenS (tCons (tVar 0) tNil)) (tC (.int 1))) (tOp nInS (tVar 0) (tC (tx abc))))))
def n_is_letter : Nat := 1
/- is_whole(thing): slots 0:thing -/
def T_is_whole (K : PySem.W.Frag) : TS :=
 (tRet (tAndV (tCB (nIsi K) (tCons (tVar 0) (tCons (tC (.ty "int")) tNil))) (tNotV (tCB (nIsi K) (tCons (tVar 0) (tCons (tC (.ty "bool")) tNil))))))
def n_is_whole : Nat := 1
/- need_change(text, change): slots 0:text 1:change 2:beyond -/
def T_need_change (K : PySem.W.Frag) (C_BadChange : Addr) (E : XK) : TS :=
 (tSeq (tIfS (tOr (tNot (tB (tCB (nIsi K) (tCons (tVar 1) (tCons (tC (.ty "tuple")) tNil))))) (tOr (tTest (tOp nLt (tCB (nLenL K) (tCons (tVar 1) tNil)) (tC (.int 2)))) (tNot (tB (tCB (nIsi K) (tCons (tOp (nIxT K) (tVar 1) (tC (.int 0))) (tCons (tC (.ty "str")) tNil)))))))
 (tRaise E (.ref C_BadChange)) tNext)
 (tSeq (tIfS (tTest (tOp nNe (tCB (nLenL K) (tCons (tVar 1) tNil)) (tDGet2 (tDisp [((tC (tx [112, 117, 116])), (tC (.int 3))), ((tC (tx [99, 117, 116])), (tC (.int 2))), ((tC (tx [116, 117, 114, 110])), (tC (.int 3)))]) (tOp (nIxT K) (tVar 1) (tC (.int 0))) (tC (.int 0)))))
 (tRaise E (.ref C_BadChange)) tNext)
 (tSeq (tAsg (tCB nLenS (tCons (tVar 0) tNil)) (gName 2))
 (tSeq (tIfS (tTest (tOp nEq (tOp (nIxT K) (tVar 1) (tC (.int 0))) (tC (tx [112, 117, 116]))))
 (tAug 2 (tC (.int 1)) (ipI (fun i j => i + j))) tNext)
 (tSeq (tIfS (tOr (tNot (tB (tCall (sp_is_whole K) [] E0 (tCons (tOp (nIxT K) (tVar 1) (tC (.int 1))) tNil)))) (tNot (tTest (tChain nLe nLt (tC (.int 0)) (tOp (nIxT K) (tVar 1) (tC (.int 1))) (tVar 2)))))
 (tRaise E (.ref C_BadChange)) tNext)
 (tSeq (tIfS (tAnd (tTest (tOp nNe (tOp (nIxT K) (tVar 1) (tC (.int 0))) (tC (tx [99, 117, 116])))) (tNot (tB (tCall (sp_is_letter K) [] E0 (tCons (tOp (nIxT K) (tVar 1) (tC (.int 2))) tNil)))))
 (tRaise E (.ref C_BadChange)) tNext)
 (tIfS (tAnd (tTest (tOp nEq (tOp (nIxT K) (tVar 1) (tC (.int 0))) (tC (tx [116, 117, 114, 110])))) (tTest (tOp nEq (tOp (nIxT K) (tVar 1) (tC (.int 2))) (tOp nIxS (tVar 0) (tOp (nIxT K) (tVar 1) (tC (.int 1)))))))
 (tRaise E (.ref C_BadChange)) tNext)))))))
def n_need_change : Nat := 3
/- done(text, change): slots 0:text 1:change 2:place -/
def T_done (K : PySem.W.Frag) (C_BadChange : Addr) (E : XK) : TS :=
 (tSeq (tDrop (tCall (sp_need_change K C_BadChange) [] E (tCons (tVar 0) (tCons (tVar 1) tNil))))
 (tSeq (tAsg (tOp (nIxT K) (tVar 1) (tC (.int 1))) (gName 2))
 (tSeq (tIfS (tTest (tOp nEq (tOp (nIxT K) (tVar 1) (tC (.int 0))) (tC (tx [112, 117, 116]))))
 (tRet (tOp nCat (tOp nCat (tSl nSlS (tVar 0) tNoPart (tPart (tVar 2))) (tOp (nIxT K) (tVar 1) (tC (.int 2)))) (tSl nSlS (tVar 0) (tPart (tVar 2)) tNoPart))) tNext)
 (tSeq (tIfS (tTest (tOp nEq (tOp (nIxT K) (tVar 1) (tC (.int 0))) (tC (tx [99, 117, 116]))))
 (tRet (tOp nCat (tSl nSlS (tVar 0) tNoPart (tPart (tVar 2))) (tSl nSlS (tVar 0) (tPart (tOp nAdd (tVar 2) (tC (.int 1)))) tNoPart))) tNext)
 (tRet (tOp nCat (tOp nCat (tSl nSlS (tVar 0) tNoPart (tPart (tVar 2))) (tOp (nIxT K) (tVar 1) (tC (.int 2)))) (tSl nSlS (tVar 0) (tPart (tOp nAdd (tVar 2) (tC (.int 1)))) tNoPart)))))))
def n_done : Nat := 3
/- _law_whole(_law_thing): slots 0:_law_thing -/
def T_law_whole (K : PySem.W.Frag) : TS :=
 (tRet (tAndV (tCB (nIsi K) (tCons (tVar 0) (tCons (tC (.ty "int")) tNil))) (tNotV (tCB (nIsi K) (tCons (tVar 0) (tCons (tC (.ty "bool")) tNil))))))
def n_law_whole : Nat := 1
/- _law_step(_law_text, _law_change_here): slots 0:_law_text 1:_law_change_here 2:_law_place 3:_law_letter_here -/
def T_law_step (K : PySem.W.Frag) : TS :=
 (tSeq (tIfS (tOr (tNot (tB (tCB (nIsi K) (tCons (tVar 1) (tCons (tC (.ty "tuple")) tNil))))) (tOr (tTest (tOp nLt (tCB (nLenL K) (tCons (tVar 1) tNil)) (tC (.int 2)))) (tOr (tTest (tOp nGt (tCB (nLenL K) (tCons (tVar 1) tNil)) (tC (.int 3)))) (tNot (tB (tCall (sp_law_whole K) [] E0 (tCons (tOp (nIxT K) (tVar 1) (tC (.int 1))) tNil)))))))
 (tRet (tC .non)) tNext)
 (tSeq (tAsg (tOp (nIxT K) (tVar 1) (tC (.int 1))) (gName 2))
 (tSeq (tIfS (tTest (tOp nEq (tCB (nLenL K) (tCons (tVar 1) tNil)) (tC (.int 2))))
 (tSeq (tIfS (tOr (tTest (tOp nNeS (tOp (nIxT K) (tVar 1) (tC (.int 0))) (tC (tx [99, 117, 116])))) (tNot (tTest (tChain nLe nLt (tC (.int 0)) (tVar 2) (tCB nLenS (tCons (tVar 0) tNil))))))
 (tRet (tC .non)) tNext)
 (tRet (tOp nCat (tSl nSlS (tVar 0) tNoPart (tPart (tVar 2))) (tSl nSlS (tVar 0) (tPart (tOp nAdd (tVar 2) (tC (.int 1)))) tNoPart)))) tNext)
 (tSeq (tAsg (tOp (nIxT K) (tVar 1) (tC (.int 2))) (gName 3))
 (tSeq (tIfS (tOr (tNot (tB (tCB (nIsi K) (tCons (tVar 3) (tCons (tC (.ty "str")) tNil))))) (tOr (tTest (tOp nNe (tCB nLenS (tCons (tVar 3) tNil)) (tC (.int 1)))) (tTest (tOp nNotInS (tVar 3) (tC (tx abc))))))
 (tRet (tC .non)) tNext)
 (tSeq (tIfS (tAnd (tTest (tOp nEqS (tOp (nIxT K) (tVar 1) (tC (.int 0))) (tC (tx [112, 117, 116])))) (tTest (tChain nLe nLe (tC (.int 0)) (tVar 2) (tCB nLenS (tCons (tVar 0) tNil)))))
 (tRet (tOp nCat (tOp nCat (tSl nSlS (tVar 0) tNoPart (tPart (tVar 2))) (tVar 3)) (tSl nSlS (tVar 0) (tPart (tVar 2)) tNoPart))) tNext)
 (tSeq (tIfS (tAnd (tTest (tOp nEqS (tOp (nIxT K) (tVar 1) (tC (.int 0))) (tC (tx [116, 117, 114, 110])))) (tAnd (tTest (tChain nLe nLt (tC (.int 0)) (tVar 2) (tCB nLenS (tCons (tVar 0) tNil)))) (tTest (tOp nNe (tOp nIxS (tVar 0) (tVar 2)) (tVar 3)))))
 (tRet (tOp nCat (tOp nCat (tSl nSlS (tVar 0) tNoPart (tPart (tVar 2))) (tVar 3)) (tSl nSlS (tVar 0) (tPart (tOp nAdd (tVar 2) (tC (.int 1)))) tNoPart))) tNext)
 (tRet (tC .non)))))))))
def n_law_step : Nat := 4
theorem l_is_letter {K vs H Q E} (h : sp_is_letter K vs H Q E) : vs.length = 1 := by obtain ⟨v, rfl, _⟩ := h; rfl
theorem l_is_whole {K vs H Q E} (h : sp_is_whole K vs H Q E) : vs.length = 1 := by obtain ⟨v, rfl, _⟩ := h; rfl
theorem l_law_whole {K vs H Q E} (h : sp_law_whole K vs H Q E) : vs.length = 1 := l_is_whole h
theorem l_need_change {K C vs H Q E} (h : sp_need_change K C vs H Q E) : vs.length = 2 := by obtain ⟨w, v, rfl, _⟩ := h; rfl
theorem l_done {K C vs H Q E} (h : sp_done K C vs H Q E) : vs.length = 2 := by obtain ⟨w, v, rfl, _⟩ := h; rfl
theorem l_law_step {K vs H Q E} (h : sp_law_step K vs H Q E) : vs.length = 2 := by obtain ⟨w, v, rfl, _⟩ := h; rfl
section
variable {K : PySem.W.Frag} {vs : List V} {H : Hp} {Q : VK} {E : XK} {C : Addr}
theorem R_is_whole (h : sp_is_whole K vs H Q E) : T_is_whole K (fin Q) (slots n_is_whole vs) H := by
  obtain ⟨v, rfl, ha, k⟩ := h
  show T_is_whole K (fin Q) [some v] H
  unfold T_is_whole
  obtain ⟨b, c, h1, h2, h3⟩ := e_isInt (K := K) (σ := [some v]) (ta := tVar 0) (ev_var rfl) ha
  exact s_ret (ev_is (ev_andV h1 fun _ => ev_notV h2) (by rw [h3])) k
theorem R_law_whole (h : sp_law_whole K vs H Q E) : T_law_whole K (fin Q) (slots n_law_whole vs) H := R_is_whole h
theorem R_is_letter (h : sp_is_letter K vs H Q E) : T_is_letter K (fin Q) (slots n_is_letter vs) H := by
  obtain ⟨v, rfl, ha, k1, k2⟩ := h
  show T_is_letter K (fin Q) [some v] H
  unfold T_is_letter
  rcases ha with ⟨w, rfl, hl⟩ | ho
  · by_cases h1 : w.length = 1
    · obtain ⟨c, rfl⟩ := List.length_eq_one_iff.mp h1
      refine s_ret (ev_andV (e_isStr (ev_var rfl)) fun _ => ev_andV (e_eq (e_lenS (ev_var rfl) (by omega)) ev_c .ii) fun _ => e_inS (ev_var rfl) ev_c) fun H2 e2 => ?_
      by_cases hc : c ∈ abc
      · have h := k1 ⟨c, rfl, mem_abc.mp hc⟩ H2 e2
        simpa [hc] using h
      · have h := k2 (fun ⟨d, hd, hm⟩ => hc (by
          have e := tx_inj.mp hd
          injection e with e1 _
          subst e1
          exact mem_abc.mpr hm)) H2 e2
        simpa [hc] using h
    · refine s_ret (ev_is (ev_andV (e_isStr (ev_var rfl)) fun _ => ev_andV (b := false) (e_eq (e_lenS (ev_var rfl) (by omega)) ev_c .ii) fun hh => absurd (of_decide_eq_true hh) (by omega)) (by simp)) (k2 fun ⟨d, hd, _⟩ => h1 (by rw [tx_inj.mp hd]; rfl))
  · refine s_ret (ev_is (ev_andV (b := false) (e_isOdd (ev_var rfl) ho) fun hh => by cases hh) (by rfl)) (k2 fun ⟨d, hd, _⟩ => ?_)
    subst hd
    rcases ho with h | ⟨i, h⟩ | ⟨b, h⟩ | ⟨p, h, _⟩ <;> cases h
/-! ### need_change -/
def nOf (w : List Nat) : Int := if w = wPut then 3 else if w = wCut then 2 else if w = wTurn then 3 else 0
def kinds : List (Key × V) := [(.inr ⟨wPut.toArray⟩, .int 3), (.inr ⟨wCut.toArray⟩, .int 2), (.inr ⟨wTurn.toArray⟩, .int 3)]
theorem key_ne {a b : List Nat} (h : ¬ b = a) : ¬ (Sum.inr ⟨a.toArray⟩ : Key) = Sum.inr ⟨b.toArray⟩ := fun z => h (tx_inj.mp (congrArg V.str (Sum.inr.inj z))).symm
theorem kinds_at (w : List Nat) : (valV kinds (.inr ⟨w.toArray⟩)).getD (.int 0) = .int (nOf w) := by
  unfold kinds nOf
  by_cases h1 : w = wPut
  · rw [if_pos h1, h1, valV_pos rfl]; rfl
  rw [if_neg h1, valV_neg (key_ne h1)]
  by_cases h2 : w = wCut
  · rw [if_pos h2, h2, valV_pos rfl]; rfl
  rw [if_neg h2, valV_neg (key_ne h2)]
  by_cases h3 : w = wTurn
  · rw [if_pos h3, h3, valV_pos rfl]; rfl
  rw [if_neg h3, valV_neg (key_ne h3), valV_nil]; rfl
theorem kinds_merge : mergeK [] kinds = kinds := by decide +kernel
theorem e_kinds {σ : L2.St} {tk : TE} {w : List Nat} (h : Ev tk σ H (tx w)) :
    Ev (tDGet2 (tDisp [((tC (tx [112, 117, 116])), (tC (.int 3))), ((tC (tx [99, 117, 116])), (tC (.int 2))), ((tC (tx [116, 117, 114, 110])), (tC (.int 3)))]) tk (tC (.int 0))) σ H (.int (nOf w)) := fun H1 e Q q p hp => by
  refine ⟨upd_same, kinds, rfl, by decide, p, rfl, .inl ⟨_, .inl upd_same⟩, ?_⟩
  rw [upd_upd]
  refine h _ (e.trans (Ex.new hp)) _ fun H2 e2 => ⟨_, DGet.k (k := .inr ⟨w.toArray⟩) (e2 _ _ upd_same), ?_⟩
  rw [kinds_merge, kinds_at]
  exact q H2 ((Ex.new hp).trans e2)
theorem raise_ok {σ : L2.St} {H' : Hp} {D : Ends} (k : RetE C H E) (e : Ex H H') : tRaise E (.ref C) D σ H' := k H' e
theorem sq_tup {p : Addr} {xs : List V} {H H' : Hp} (e : Ex H H') (h : H p = some (.tup xs)) : SqT K H' p xs := .inl (.inl (e _ _ h))
theorem e_item {σ : L2.St} {ta : TE} {p : Addr} {xs : List V} {v : V} {k : Int} (ha : Ev ta σ H (.ref p)) (h : H p = some (.tup xs)) (hv : atI xs k = some v) : Ev (tOp (nIxT K) ta (tC (.int k))) σ H v :=
  e_ixT ha ev_c (sq_tup (Ex.refl H) h) hv
/-- 0 <= a < b -/
theorem e_chain {σ : L2.St} {ta tb tc : TE} {i j m : Int} (ha : Ev ta σ H (.int i)) (hb : Ev tb σ H (.int j)) (hc : Ev tc σ H (.int m)) : Ev (tChain nLe nLt ta tb tc) σ H (.bl (decide (i ≤ j ∧ j < m))) := fun H1 e Q q =>
  ha H1 e _ fun H2 e2 => hb H2 (e.trans e2) _ fun H3 e3 => ⟨i, j, rfl, rfl, _, rfl, by
    by_cases h : i ≤ j
    · rw [decide_eq_true h, if_pos rfl]
      refine hc H3 ((e.trans e2).trans e3) _ fun H4 e4 => ⟨j, m, rfl, rfl, ?_⟩
      have q1 := q H4 ((e2.trans e3).trans e4)
      rw [dec_eq (show i ≤ j ∧ j < m ↔ j < m from ⟨fun z => z.2, fun z => ⟨h, z⟩⟩)] at q1
      exact q1
    · rw [decide_eq_false h, if_neg (by decide)]
      have q1 := q H3 (e2.trans e3)
      rw [decide_eq_false (fun z => h z.1)] at q1
      exact q1⟩
theorem e_chain2 {σ : L2.St} {ta tb tc : TE} {i j m : Int} (ha : Ev ta σ H (.int i)) (hb : Ev tb σ H (.int j)) (hc : Ev tc σ H (.int m)) : Ev (tChain nLe nLe ta tb tc) σ H (.bl (decide (i ≤ j ∧ j ≤ m))) := fun H1 e Q q =>
  ha H1 e _ fun H2 e2 => hb H2 (e.trans e2) _ fun H3 e3 => ⟨i, j, rfl, rfl, _, rfl, by
    by_cases h : i ≤ j
    · rw [decide_eq_true h, if_pos rfl]
      refine hc H3 ((e.trans e2).trans e3) _ fun H4 e4 => ⟨j, m, rfl, rfl, ?_⟩
      have q1 := q H4 ((e2.trans e3).trans e4)
      rw [dec_eq (show i ≤ j ∧ j ≤ m ↔ j ≤ m from ⟨fun z => z.2, fun z => ⟨h, z⟩⟩)] at q1
      exact q1
    · rw [decide_eq_false h, if_neg (by decide)]
      have q1 := q H3 (e2.trans e3)
      rw [decide_eq_false (fun z => h z.1)] at q1
      exact q1⟩
theorem good_head {w w' : List Nat} {xs : List V} (h : Good w xs w') : ∃ a i r, xs = tx a :: .int i :: r ∧ 0 ≤ i ∧ (xs.length : Int) = nOf a := by
  cases h with
  | put h0 h1 hc => exact ⟨_, _, _, rfl, h0, rfl⟩
  | cut h0 h1 => exact ⟨_, _, _, rfl, h0, rfl⟩
  | turn h0 h1 hc hn => exact ⟨_, _, _, rfl, h0, rfl⟩
theorem no_good {w : List Nat} {v : V} {xs : List V} {H1 : Hp} (e : Ex H H1) (ht : Tup v xs H) (h : ∀ w', ¬ Good w xs w') : ¬ ∃ w', GoodV w v H w' := fun ⟨w', ys, ht', hg⟩ => h w' (by
  rw [tup_inj (Ex.refl H) ht ht']
  exact hg)
theorem isI_int {v : V} (h : isI v = true) : ∃ i, v = .int i := by
  cases v <;> first | exact ⟨_, rfl⟩ | cases h
/-- the last tests, from the place's on: m is how many places there are -/
theorem R_change_end {w : List Nat} {a : List Nat} {b : V} {r : List V} {p : Addr} {m : Int} {D : Ends} (hw : w.length ≤ 900) (hp : H p = some (.tup (tx a :: b :: r))) (hlen : ((tx a :: b :: r).length : Int) = nOf a) (hany : ∀ x ∈ (tx a :: b :: r), Any x H)
    (hm : m = (w.length : Int) + (if a = wPut then 1 else 0)) (kQ : (∃ w', Good w (tx a :: b :: r) w') → ∀ H2, Ex H H2 → D.nx [some (tx w), some (.ref p), some (.int m)] H2) (kE : (¬ ∃ w', Good w (tx a :: b :: r) w') → RetE C H E) :
    (tSeq (tIfS (tOr (tNot (tB (tCall (sp_is_whole K) [] E0 (tCons (tOp (nIxT K) (tVar 1) (tC (.int 1))) tNil)))) (tNot (tTest (tChain nLe nLt (tC (.int 0)) (tOp (nIxT K) (tVar 1) (tC (.int 1))) (tVar 2)))))
 (tRaise E (.ref C)) tNext)
 (tSeq (tIfS (tAnd (tTest (tOp nNe (tOp (nIxT K) (tVar 1) (tC (.int 0))) (tC (tx [99, 117, 116])))) (tNot (tB (tCall (sp_is_letter K) [] E0 (tCons (tOp (nIxT K) (tVar 1) (tC (.int 2))) tNil)))))
 (tRaise E (.ref C)) tNext)
 (tIfS (tAnd (tTest (tOp nEq (tOp (nIxT K) (tVar 1) (tC (.int 0))) (tC (tx [116, 117, 114, 110])))) (tTest (tOp nEq (tOp (nIxT K) (tVar 1) (tC (.int 2))) (tOp nIxS (tVar 0) (tOp (nIxT K) (tVar 1) (tC (.int 1)))))))
 (tRaise E (.ref C)) tNext))) D [some (tx w), some (.ref p), some (.int m)] H := by
  have hb : Any b H := hany b (by simp)
  have g0 : atI (tx a :: b :: r) 0 = some (tx a) := atI_nat (j := 0) rfl
  have g1 : atI (tx a :: b :: r) 1 = some b := atI_nat (j := 1) rfl
  have ew : ∀ H', Ex H H' → Ev (tCall (sp_is_whole K) [] E0 (tCons (tOp (nIxT K) (tVar 1) (tC (.int 1))) tNil)) [some (tx w), some (.ref p), some (.int m)] H' (.bl (isI b)) := fun H' e' =>
    ev_call (ea_cons (e_item (ev_var rfl) (e' _ _ hp) g1) ea_nil) fun H1 e Q q E => ⟨b, rfl, any_up _ _ _ (e'.trans e) hb, fun H2 e2 => q H2 e2⟩
  -- not is_whole(change[1]) or not 0 <= change[1] < beyond
  cases hI : isI b with
  | false =>
    refine q_when (b := true) (et_is (et_or (b := true) (et_not (et_B (ew H (Ex.refl H)))) fun hh => by rw [hI] at hh; cases hh) (by simp)) (fun _ H1 e1 => ?_) (fun hh => by cases hh)
    refine raise_ok (kE fun ⟨w', hg⟩ => ?_) e1
    obtain ⟨a', i, r', he, _⟩ := good_head hg
    injection he with h1 h2
    injection h2 with h3 h4
    rw [h3] at hI
    cases hI
  | true =>
  obtain ⟨i, rfl⟩ := isI_int hI
  refine q_when (b := !decide (0 ≤ i ∧ i < m)) (et_is (et_or (et_not (et_B (ew H (Ex.refl H)))) fun _ => et_not (et_test (e_chain ev_c (e_item (ev_var rfl) hp g1) (ev_var rfl)))) (by rw [hI]; rfl)) (fun hh H1 e1 => ?_) (fun hh H1 e1 => ?_)
  · have hno : ¬ (0 ≤ i ∧ i < m) := nd hh
    refine raise_ok (kE fun ⟨w', hg⟩ => hno ?_) e1
    rw [hm]
    cases hg with
    | put h0 h1 hc => exact ⟨h0, by rw [if_pos rfl]; omega⟩
    | cut h0 h1 => exact ⟨h0, by rw [if_neg (by decide)]; omega⟩
    | turn h0 h1 hc hn => exact ⟨h0, by rw [if_neg (by decide)]; omega⟩
  have him : 0 ≤ i ∧ i < m := by simpa using hh
  obtain ⟨hi0, him⟩ := him
  have hp1 := e1 _ _ hp
  -- change[0] != "cut" and not is_letter(change[2])
  by_cases hcut : a = wCut
  · subst hcut
    have hr : r = [] := by
      have e : ((tx wCut :: V.int i :: r).length : Int) = 2 := hlen
      simp only [List.length_cons] at e
      exact List.length_eq_zero_iff.mp (by omega)
    subst hr
    rw [if_neg (by decide)] at hm
    refine q_when (b := false) (et_is (et_and (b := false) (et_test (e_ne (e_item (ev_var rfl) hp1 g0) ev_c .ss)) fun hh => by simp at hh) (by simp)) (fun hh => by cases hh) (fun _ H2 e2 => ?_)
    refine s_when (b := false) (et_is (et_and (b := false) (et_test (e_eq (e_item (ev_var rfl) (e2 _ _ hp1) g0) ev_c .ss)) fun hh => by simp at hh) (by simp)) (fun hh => by cases hh) (fun _ H3 e3 => ?_)
    exact kQ ⟨_, .cut hi0 (by omega)⟩ _ ((e1.trans e2).trans e3)
  -- a third item
  have h3 : a = wPut ∨ a = wTurn := by
    unfold nOf at hlen
    by_cases hp' : a = wPut
    · exact .inl hp'
    · rw [if_neg hp', if_neg hcut] at hlen
      by_cases ht' : a = wTurn
      · exact .inr ht'
      · rw [if_neg ht'] at hlen
        simp only [List.length_cons] at hlen
        omega
  have hl3 : nOf a = 3 := by rcases h3 with rfl | rfl <;> rfl
  obtain ⟨c, rfl⟩ : ∃ c, r = [c] := List.length_eq_one_iff.mp (by
    rw [hl3] at hlen
    simp only [List.length_cons] at hlen
    omega)
  have hc : Any c H := hany c (by simp)
  have g2 : atI (tx a :: V.int i :: [c]) 2 = some c := atI_nat (j := 2) rfl
  by_cases hL : IsL c
  · have el : Ev (tCall (sp_is_letter K) [] E0 (tCons (tOp (nIxT K) (tVar 1) (tC (.int 2))) tNil)) [some (tx w), some (.ref p), some (.int m)] H1 (.bl true) :=
      ev_call (ea_cons (e_item (ev_var rfl) hp1 g2) ea_nil) fun H2 e Q q E => ⟨c, rfl, any_up _ _ _ (e1.trans e) hc, fun _ H3 e3 => q H3 e3, fun hn => absurd hL hn⟩
    refine q_when (b := false) (et_is (et_and (et_test (e_ne (e_item (ev_var rfl) hp1 g0) ev_c .ss)) fun hh => et_not (et_B el)) (by simp)) (fun hh => by cases hh) (fun _ H2 e2 => ?_)
    obtain ⟨l, rfl, hl⟩ := hL
    have hp2 := e2 _ _ hp1
    rcases h3 with rfl | rfl
    · rw [if_pos rfl] at hm
      refine s_when (b := false) (et_is (et_and (b := false) (et_test (e_eq (e_item (ev_var rfl) hp2 g0) ev_c .ss)) fun hh => by simp at hh) (by simp)) (fun hh => by cases hh) (fun _ H3 e3 => ?_)
      exact kQ ⟨_, .put hi0 (by omega) hl⟩ _ ((e1.trans e2).trans e3)
    · rw [if_neg (by decide)] at hm
      have hlt : i.toNat < w.length := by omega
      refine s_when (b := decide (l = w[i.toNat])) (et_is (et_and (et_test (e_eq (e_item (ev_var rfl) hp2 g0) ev_c .ss)) fun _ => et_test (e_eq (e_item (ev_var rfl) hp2 g2) (e_ixS (ev_var rfl) (e_item (ev_var rfl) hp2 g1) (by omega) (atI_in hi0 (List.getElem?_eq_getElem hlt))) .ss)) (by simp)) (fun hh H3 e3 => ?_) (fun hh H3 e3 => ?_)
      · have e := of_decide_eq_true hh
        refine raise_ok (kE fun ⟨w', hg⟩ => ?_) ((e1.trans e2).trans e3)
        cases hg with
        | turn h0 h1 hc hn => exact hn (by rw [e, List.getElem?_eq_getElem hlt])
      · have e := of_decide_eq_false hh
        exact kQ ⟨_, .turn hi0 (by omega) hl (by rw [List.getElem?_eq_getElem hlt]; exact fun z => e (Option.some.inj z).symm)⟩ _ ((e1.trans e2).trans e3)
  · have el : Ev (tCall (sp_is_letter K) [] E0 (tCons (tOp (nIxT K) (tVar 1) (tC (.int 2))) tNil)) [some (tx w), some (.ref p), some (.int m)] H1 (.bl false) :=
      ev_call (ea_cons (e_item (ev_var rfl) hp1 g2) ea_nil) fun H2 e Q q E => ⟨c, rfl, any_up _ _ _ (e1.trans e) hc, fun hn => absurd hn hL, fun _ H3 e3 => q H3 e3⟩
    refine q_when (b := true) (et_is (et_and (et_test (e_ne (e_item (ev_var rfl) hp1 g0) ev_c .ss)) fun hh => et_not (et_B el)) (by simp [hcut])) (fun _ H2 e2 => ?_) (fun hh => by cases hh)
    refine raise_ok (kE fun ⟨w', hg⟩ => hL ?_) (e1.trans e2)
    cases hg with
    | put h0 h1 hcc => exact ⟨_, rfl, hcc⟩
    | turn h0 h1 hcc hn => exact ⟨_, rfl, hcc⟩
theorem R_need_change (h : sp_need_change K C vs H Q E) : T_need_change K C E (fin Q) (slots n_need_change vs) H := by
  obtain ⟨w, v, rfl, hw, hc, kQ, kE⟩ := h
  show T_need_change K C E (fin Q) [some (tx w), some v, none] H
  unfold T_need_change
  rcases hc with ⟨xs, ht, hl, ha⟩ | hn
  · have hgood : (∃ w', Good w xs w') → ∃ w', GoodV w v H w' := fun ⟨w', hg⟩ => ⟨w', xs, ht, hg⟩
    have kE' : (∀ w', ¬ Good w xs w') → RetE C H E := fun hno => kE (no_good (Ex.refl H) ht hno)
    obtain ⟨p, rfl, hp⟩ := ht
    have elen : ∀ {H' : Hp} {σ : L2.St}, Ex H H' → σ[1]? = some (some (.ref p)) → Ev (tCB (nLenL K) (tCons (tVar 1) tNil)) σ H' (.int (xs.length : Int)) := fun e hσ => e_lenT (ev_var hσ) (sq_tup e hp)
    -- not isinstance(change, tuple) or len(change) < 2 or not isinstance(change[0], str)
    by_cases h2 : xs.length < 2
    · refine q_when (b := true) (et_is (et_or (et_not (et_B (e_isTup (ev_var rfl) ⟨p, rfl, hp⟩))) fun _ => et_or (b := true) (et_test (e_lt (elen (Ex.refl H) rfl) ev_c)) fun hh => absurd (of_decide_eq_false hh) (by omega)) (by simp)) (fun _ H1 e1 => ?_) (fun hh => by cases hh)
      refine raise_ok (kE' fun w' hg => ?_) e1
      obtain ⟨a, i, r, rfl, _⟩ := good_head hg
      simp only [List.length_cons] at h2
      omega
    obtain ⟨a0, b, r, rfl⟩ : ∃ a0 b r, xs = a0 :: b :: r := by
      match xs, h2 with
      | a0 :: b :: r, _ => exact ⟨a0, b, r, rfl⟩
      | [_], h => exact absurd (by simp) h
      | [], h => exact absurd (by simp) h
    have g0 : atI (a0 :: b :: r) 0 = some a0 := atI_nat (j := 0) rfl
    rcases ha a0 (by simp) with ⟨a, rfl, hla⟩ | ho
    · refine q_when (b := false) (et_is (et_or (et_not (et_B (e_isTup (ev_var rfl) ⟨p, rfl, hp⟩))) fun _ => et_or (et_test (e_lt (elen (Ex.refl H) rfl) ev_c)) fun _ => et_not (et_B (e_isStr (e_item (ev_var rfl) hp g0)))) (by simp; omega)) (fun hh => by cases hh) (fun _ H1 e1 => ?_)
      -- len(change) != {..}.get(change[0], 0)
      refine q_when (b := !decide (((tx a :: b :: r).length : Int) = nOf a)) (et_test (e_ne (elen e1 rfl) (e_kinds (e_item (ev_var rfl) (e1 _ _ hp) g0)) .ii)) (fun hh H2 e2 => ?_) (fun hh H2 e2 => ?_)
      · have hne : ¬ ((tx a :: b :: r).length : Int) = nOf a := by simpa using hh
        refine raise_ok (kE' fun w' hg => hne ?_) (e1.trans e2)
        obtain ⟨a', i, r', he, _, hlen⟩ := good_head hg
        injection he with h1 h2
        rw [tx_inj.mp h1]
        exact hlen
      have hlen : ((tx a :: b :: r).length : Int) = nOf a := by simpa using hh
      have e12 := e1.trans e2
      refine q_asg (e_lenS (ev_var rfl) (by omega)) fun H3 e3 => ?_
      have e13 := e12.trans e3
      by_cases hpt : a = wPut
      · refine q_when (b := true) (et_is (et_test (e_eq (e_item (ev_var rfl) (e13 _ _ hp) g0) ev_c .ss)) (by simp [hpt])) (fun _ H4 e4 => ?_) (fun hh => by cases hh)
        refine s_aug rfl ev_c fun H5 e5 => ?_
        have e15 := (e13.trans e4).trans e5
        exact R_change_end hw (e15 _ _ hp) hlen (fun x hx => any_up _ _ _ e15 (ha x hx)) (by rw [if_pos hpt]) (fun hg H6 e6 => kQ (hgood hg) _ (e15.trans e6)) (fun hno H6 e6 => kE' (fun w' hg => hno ⟨w', hg⟩) _ (e15.trans e6))
      · refine q_when (b := false) (et_is (et_test (e_eq (e_item (ev_var rfl) (e13 _ _ hp) g0) ev_c .ss)) (by simp [hpt])) (fun hh => by cases hh) (fun _ H4 e4 => ?_)
        have e15 := e13.trans e4
        exact R_change_end hw (e15 _ _ hp) hlen (fun x hx => any_up _ _ _ e15 (ha x hx)) (by rw [if_neg hpt]; omega) (fun hg H6 e6 => kQ (hgood hg) _ (e15.trans e6)) (fun hno H6 e6 => kE' (fun w' hg => hno ⟨w', hg⟩) _ (e15.trans e6))
    · refine q_when (b := true) (et_is (et_or (et_not (et_B (e_isTup (ev_var rfl) ⟨p, rfl, hp⟩))) fun _ => et_or (b := true) (et_test (e_lt (elen (Ex.refl H) rfl) ev_c)) fun hh => et_not (et_B (e_isOdd (e_item (ev_var rfl) hp g0) ho))) (by simp)) (fun _ H1 e1 => ?_) (fun hh => by cases hh)
      refine raise_ok (kE' fun w' hg => ?_) e1
      obtain ⟨a', i, r', he, _⟩ := good_head hg
      injection he with h1 h2
      rw [h1] at ho
      rcases ho with h | ⟨i, h⟩ | ⟨b, h⟩ | ⟨p, h, _⟩ <;> cases h
  · refine q_when (b := true) (et_is (et_or (et_not (et_B (e_noTup (ev_var rfl) hn))) (b := true) fun hh => by cases hh) (by simp)) (fun _ H1 e1 => ?_) (fun hh => by cases hh)
    exact raise_ok (kE fun ⟨w', xs, ht, hg⟩ => noTup_not (Ex.refl H) hn ht) e1
/-! ### done -/
theorem good_of {w : List Nat} {v : V} {H' : Hp} (e : Ex H H') (hc : Chg v H) : (∃ w', GoodV w v H' w') ↔ ∃ w', GoodV w v H w' :=
  ⟨fun ⟨w', h⟩ => ⟨w', goodV_down e hc h⟩, fun ⟨w', h⟩ => ⟨w', goodV_up e h⟩⟩
/-- text[:place] + letter + text[from:] -/
theorem e_glue {σ : L2.St} {tw ti tc tj : TE} {w : List Nat} {i j : Int} {c : Nat} (hw : w.length ≤ 900) (h1 : Ev tw σ H (tx w)) (h2 : Ev ti σ H (.int i)) (h3 : Ev tc σ H (tx [c])) (h4 : Ev tj σ H (.int j)) (hi : 0 ≤ i) (hj : 0 ≤ j) :
    Ev (tOp nCat (tOp nCat (tSl nSlS tw tNoPart (tPart ti)) tc) (tSl nSlS tw (tPart tj) tNoPart)) σ H (tx (w.take i.toNat ++ [c] ++ w.drop j.toNat)) :=
  e_cat (e_cat (e_take h1 h2 (by omega) hi) h3 (by simp only [List.length_take, List.length_cons, List.length_nil]; omega)) (e_drop h1 h4 (by omega) hj) (by simp only [List.length_append, List.length_take, List.length_drop, List.length_cons, List.length_nil]; omega)
theorem e_glue2 {σ : L2.St} {tw ti tj : TE} {w : List Nat} {i j : Int} (hw : w.length ≤ 900) (h1 : Ev tw σ H (tx w)) (h2 : Ev ti σ H (.int i)) (h4 : Ev tj σ H (.int j)) (hi : 0 ≤ i) (hj : 0 ≤ j) :
    Ev (tOp nCat (tSl nSlS tw tNoPart (tPart ti)) (tSl nSlS tw (tPart tj) tNoPart)) σ H (tx (w.take i.toNat ++ w.drop j.toNat)) :=
  e_cat (e_take h1 h2 (by omega) hi) (e_drop h1 h4 (by omega) hj) (by simp only [List.length_append, List.length_take, List.length_drop]; omega)
theorem R_done (h : sp_done K C vs H Q E) : T_done K C E (fin Q) (slots n_done vs) H := by
  obtain ⟨w, v, rfl, hw, hc, kQ, kE⟩ := h
  show T_done K C E (fin Q) [some (tx w), some v, none] H
  unfold T_done
  refine ⟨_, rfl, _, rfl, w, v, rfl, hw, hc, fun ⟨w', hg⟩ H1 e1 => ?_, kE⟩
  have kQ' := kQ w' hg
  obtain ⟨xs, ⟨p, rfl, hp⟩, hg⟩ := hg
  have hp1 := e1 _ _ hp
  show tSeq _ _ (fin Q) [some (tx w), some (.ref p), none] H1
  cases hg with
  | @put i c h0 h1 hcc =>
    refine q_asg (e_item (ev_var rfl) hp1 (atI_nat (j := 1) rfl)) fun H2 e2 => ?_
    refine q_when (b := true) (et_is (et_test (e_eq (e_item (ev_var rfl) (e2 _ _ hp1) (atI_nat (j := 0) rfl)) ev_c .ss)) (by simp)) (fun _ H3 e3 => ?_) (fun hh => by cases hh)
    have hp3 := e3 _ _ (e2 _ _ hp1)
    exact s_ret (e_glue hw (ev_var rfl) (ev_var rfl) (e_item (ev_var rfl) hp3 (atI_nat (j := 2) rfl)) (ev_var rfl) h0 h0) fun H4 e4 => kQ' _ (((e1.trans e2).trans e3).trans e4)
  | @cut i h0 h1 =>
    refine q_asg (e_item (ev_var rfl) hp1 (atI_nat (j := 1) rfl)) fun H2 e2 => ?_
    refine q_when (b := false) (et_is (et_test (e_eq (e_item (ev_var rfl) (e2 _ _ hp1) (atI_nat (j := 0) rfl)) ev_c .ss)) (by simp)) (fun hh => by cases hh) (fun _ H3 e3 => ?_)
    have hp3 := e3 _ _ (e2 _ _ hp1)
    refine q_when (b := true) (et_is (et_test (e_eq (e_item (ev_var rfl) hp3 (atI_nat (j := 0) rfl)) ev_c .ss)) (by simp)) (fun _ H4 e4 => ?_) (fun hh => by cases hh)
    exact s_ret (e_glue2 hw (ev_var rfl) (ev_var rfl) (e_add (ev_var rfl) ev_c) h0 (by omega)) fun H5 e5 => kQ' _ ((((e1.trans e2).trans e3).trans e4).trans e5)
  | @turn i c h0 h1 hcc hn =>
    refine q_asg (e_item (ev_var rfl) hp1 (atI_nat (j := 1) rfl)) fun H2 e2 => ?_
    refine q_when (b := false) (et_is (et_test (e_eq (e_item (ev_var rfl) (e2 _ _ hp1) (atI_nat (j := 0) rfl)) ev_c .ss)) (by simp)) (fun hh => by cases hh) (fun _ H3 e3 => ?_)
    have hp3 := e3 _ _ (e2 _ _ hp1)
    refine q_when (b := false) (et_is (et_test (e_eq (e_item (ev_var rfl) hp3 (atI_nat (j := 0) rfl)) ev_c .ss)) (by simp)) (fun hh => by cases hh) (fun _ H4 e4 => ?_)
    have hp4 := e4 _ _ hp3
    exact s_ret (e_glue hw (ev_var rfl) (ev_var rfl) (e_item (ev_var rfl) hp4 (atI_nat (j := 2) rfl)) (e_add (ev_var rfl) ev_c) h0 (by omega)) fun H5 e5 => kQ' _ ((((e1.trans e2).trans e3).trans e4).trans e5)
/-! ### the law's own step -/
theorem R_law_step (h : sp_law_step K vs H Q E) : T_law_step K (fin Q) (slots n_law_step vs) H := by
  obtain ⟨w, v, rfl, hw, hc, kQ, kN⟩ := h
  show T_law_step K (fin Q) [some (tx w), some v, none, none] H
  unfold T_law_step
  rcases hc with ⟨xs, ht, hl, ha⟩ | hn
  · have kN' : (∀ w', ¬ Good w xs w') → RetV .non H Q := fun hno => kN (no_good (Ex.refl H) ht hno)
    have kQ' : ∀ w', Good w xs w' → RetV (tx w') H Q := fun w' hg => kQ w' ⟨xs, ht, hg⟩
    have lenG : ∀ {w'}, Good w xs w' → xs.length = 2 ∨ xs.length = 3 := fun hg => by
      cases hg
      · exact .inr rfl
      · exact .inl rfl
      · exact .inr rfl
    obtain ⟨p, rfl, hp⟩ := ht
    have elen : ∀ {H' : Hp} {σ : L2.St}, Ex H H' → σ[1]? = some (some (.ref p)) → Ev (tCB (nLenL K) (tCons (tVar 1) tNil)) σ H' (.int (xs.length : Int)) := fun e hσ => e_lenT (ev_var hσ) (sq_tup e hp)
    have eT : EvT (tNot (tB (tCB (nIsi K) (tCons (tVar 1) (tCons (tC (.ty "tuple")) tNil))))) [some (tx w), some (.ref p), none, none] H (!true) := et_not (et_B (e_isTup (ev_var rfl) ⟨p, rfl, hp⟩))
    by_cases h2 : xs.length < 2
    · refine q_when (b := true) (et_is (et_or eT fun _ => et_or (b := true) (et_test (e_lt (elen (Ex.refl H) rfl) ev_c)) fun hh => absurd (of_decide_eq_false hh) (by omega)) (by simp)) (fun _ H1 e1 => ?_) (fun hh => by cases hh)
      exact s_ret ev_c fun H2 e2 => kN' (fun w' hg => by rcases lenG hg with h | h <;> omega) _ (e1.trans e2)
    by_cases h3 : 3 < xs.length
    · refine q_when (b := true) (et_is (et_or eT fun _ => et_or (et_test (e_lt (elen (Ex.refl H) rfl) ev_c)) fun _ => et_or (b := true) (et_test (e_gt (elen (Ex.refl H) rfl) ev_c)) fun hh => absurd (of_decide_eq_false hh) (by omega)) (by simp)) (fun _ H1 e1 => ?_) (fun hh => by cases hh)
      exact s_ret ev_c fun H2 e2 => kN' (fun w' hg => by rcases lenG hg with h | h <;> omega) _ (e1.trans e2)
    obtain ⟨a0, b, r, rfl⟩ : ∃ a0 b r, xs = a0 :: b :: r := by
      match xs, h2 with
      | a0 :: b :: r, _ => exact ⟨a0, b, r, rfl⟩
      | [_], h => exact absurd (by simp) h
      | [], h => exact absurd (by simp) h
    have hb : Any b H := ha b (by simp)
    have hA : Any a0 H := ha a0 (by simp)
    have g0 : atI (a0 :: b :: r) 0 = some a0 := atI_nat (j := 0) rfl
    have g1 : atI (a0 :: b :: r) 1 = some b := atI_nat (j := 1) rfl
    have ew : Ev (tCall (sp_law_whole K) [] E0 (tCons (tOp (nIxT K) (tVar 1) (tC (.int 1))) tNil)) [some (tx w), some (.ref p), none, none] H (.bl (isI b)) :=
      ev_call (ea_cons (e_item (ev_var rfl) hp g1) ea_nil) fun H1 e Q q E => ⟨b, rfl, any_up _ _ _ e hb, fun H2 e2 => q H2 e2⟩
    have d2 : decide (((a0 :: b :: r).length : Int) < 2) = false := decide_eq_false (by omega)
    have d3 : decide ((3 : Int) < ((a0 :: b :: r).length : Int)) = false := decide_eq_false (by omega)
    refine q_when (b := !isI b) (et_is (et_or eT fun _ => et_or (et_test (e_lt (elen (Ex.refl H) rfl) ev_c)) fun _ => et_or (et_test (e_gt (elen (Ex.refl H) rfl) ev_c)) fun _ => et_not (et_B ew)) (by rw [d2, d3]; rfl)) (fun hI H1 e1 => ?_) (fun hI H1 e1 => ?_)
    · refine s_ret ev_c fun H2 e2 => kN' (fun w' hg => ?_) _ (e1.trans e2)
      obtain ⟨a', i, r', he, _⟩ := good_head hg
      injection he with h1 h2
      injection h2 with h3 h4
      rw [h3] at hI
      cases hI
    obtain ⟨i, rfl⟩ := isI_int (by simpa using hI)
    refine q_asg (e_item (ev_var rfl) (e1 _ _ hp) g1) fun H2 e2 => ?_
    have e12 := e1.trans e2
    match r, h3 with
    | [], _ =>
      refine q_when (b := true) (et_is (et_test (e_eq (elen e12 rfl) ev_c .ii)) (by simp)) (fun _ H3 e3 => ?_) (fun hh => by cases hh)
      have e13 := e12.trans e3
      refine q_when (b := !decide (a0 = tx wCut) || !decide (0 ≤ i ∧ i < (w.length : Int))) (et_or (et_test (e_neS (e_item (ev_var rfl) (e13 _ _ hp) g0) ev_c (any_up _ _ _ e13 hA))) fun _ => et_not (et_test (e_chain ev_c (ev_var rfl) (e_lenS (ev_var rfl) (by omega))))) (fun hh H4 e4 => ?_) (fun hh H4 e4 => ?_)
      · refine s_ret ev_c fun H5 e5 => kN' (fun w' hg => ?_) _ ((e13.trans e4).trans e5)
        cases hg with
        | cut h0 h1 => simp [h0, h1] at hh
      · have hh' : a0 = tx wCut ∧ 0 ≤ i ∧ i < (w.length : Int) := by simpa using hh
        obtain ⟨rfl, h0, h1⟩ := hh'
        exact s_ret (e_glue2 hw (ev_var rfl) (ev_var rfl) (e_add (ev_var rfl) ev_c) h0 (by omega)) fun H5 e5 => kQ' _ (.cut h0 h1) _ ((e13.trans e4).trans e5)
    | [c], _ =>
      have hc : Any c H := ha c (by simp)
      have g2 : atI [a0, .int i, c] 2 = some c := atI_nat (j := 2) rfl
      refine q_when (b := false) (et_is (et_test (e_eq (elen e12 rfl) ev_c .ii)) (by simp)) (fun hh => by cases hh) (fun _ H3 e3 => ?_)
      have e13 := e12.trans e3
      refine q_asg (e_item (ev_var rfl) (e13 _ _ hp) g2) fun H4 e4 => ?_
      have e14 := e13.trans e4
      have noL : ¬ IsL c → ∀ w', ¬ Good w [a0, .int i, c] w' := fun hn w' hg => hn (by
        cases hg with
        | put h0 h1 hcc => exact ⟨_, rfl, hcc⟩
        | turn h0 h1 hcc hn => exact ⟨_, rfl, hcc⟩)
      rcases hc with ⟨l, rfl, hll⟩ | ho
      · by_cases h1 : l.length = 1
        · obtain ⟨c, rfl⟩ := List.length_eq_one_iff.mp h1
          refine q_when (b := !decide (c ∈ abc)) (et_is (et_or (et_not (et_B (e_isStr (ev_var rfl)))) fun _ => et_or (et_test (e_ne (e_lenS (ev_var rfl) (by omega)) ev_c .ii)) fun _ => et_test (e_notInS (ev_var rfl) ev_c)) (by simp)) (fun hh H5 e5 => ?_) (fun hh H5 e5 => ?_)
          · exact s_ret ev_c fun H6 e6 => kN' (noL fun ⟨d, hd, hm⟩ => nd hh (by
              have e := tx_inj.mp hd
              injection e with e1 _
              subst e1
              exact mem_abc.mpr hm)) _ ((e14.trans e5).trans e6)
          have hcc := mem_abc.mp (nd' hh)
          have e15 := e14.trans e5
          -- put
          refine q_when (b := decide (a0 = tx wPut) && decide (0 ≤ i ∧ i ≤ (w.length : Int))) (et_and (et_test (e_eqS (e_item (ev_var rfl) (e15 _ _ hp) g0) ev_c (any_up _ _ _ e15 hA))) fun _ => et_test (e_chain2 ev_c (ev_var rfl) (e_lenS (ev_var rfl) (by omega)))) (fun hh H6 e6 => ?_) (fun hh1 H6 e6 => ?_)
          · have hh' : a0 = tx wPut ∧ 0 ≤ i ∧ i ≤ (w.length : Int) := by simpa using hh
            obtain ⟨rfl, h0, h1⟩ := hh'
            exact s_ret (e_glue hw (ev_var rfl) (ev_var rfl) (ev_var rfl) (ev_var rfl) h0 h0) fun H7 e7 => kQ' _ (.put h0 h1 hcc) _ ((e15.trans e6).trans e7)
          have e16 := e15.trans e6
          -- turn
          by_cases hT : a0 = tx wTurn ∧ 0 ≤ i ∧ i < (w.length : Int)
          · obtain ⟨rfl, h0, h1⟩ := hT
            have hlt : i.toNat < w.length := by omega
            refine q_when (b := !decide (w[i.toNat] = c)) (et_is (et_and (et_test (e_eqS (e_item (ev_var rfl) (e16 _ _ hp) g0) ev_c (any_up _ _ _ e16 hA))) fun _ => et_and (et_test (e_chain ev_c (ev_var rfl) (e_lenS (ev_var rfl) (by omega)))) fun _ => et_test (e_ne (e_ixS (ev_var rfl) (ev_var rfl) (by omega) (atI_in h0 (List.getElem?_eq_getElem hlt))) (ev_var rfl) .ss)) (by simp [h0, h1])) (fun hh H7 e7 => ?_) (fun hh H7 e7 => ?_)
            · have hne := nd hh
              exact s_ret (e_glue hw (ev_var rfl) (ev_var rfl) (ev_var rfl) (e_add (ev_var rfl) ev_c) h0 (by omega)) fun H8 e8 => kQ' _ (.turn h0 h1 hcc (by rw [List.getElem?_eq_getElem hlt]; exact fun z => hne (Option.some.inj z))) _ ((e16.trans e7).trans e8)
            · have heq := nd' hh
              refine s_ret ev_c fun H8 e8 => kN' (fun w' hg => ?_) _ ((e16.trans e7).trans e8)
              cases hg with
              | turn h0 h1 hcc hn => exact hn (by rw [List.getElem?_eq_getElem hlt, heq])
          · refine q_when (b := false) (et_is (et_and (b := false) (et_test (e_eqS (e_item (ev_var rfl) (e16 _ _ hp) g0) ev_c (any_up _ _ _ e16 hA))) fun hh => et_is (et_and (b := false) (et_test (e_chain ev_c (ev_var rfl) (e_lenS (ev_var rfl) (by omega)))) fun h2 => absurd ⟨of_decide_eq_true hh, of_decide_eq_true h2⟩ hT) (by simp)) (by simp)) (fun hh => by cases hh) (fun _ H7 e7 => ?_)
            refine s_ret ev_c fun H8 e8 => kN' (fun w' hg => ?_) _ ((e16.trans e7).trans e8)
            cases hg with
            | put h0 h1 hcc => simp [h0, h1] at hh1
            | turn h0 h1 hcc hn => exact hT ⟨rfl, h0, h1⟩
        · refine q_when (b := true) (et_is (et_or (et_not (et_B (e_isStr (ev_var rfl)))) fun _ => et_or (b := true) (et_test (e_ne (e_lenS (ev_var rfl) (by omega)) ev_c .ii)) fun hh => absurd (nd' hh) (by omega)) (by simp)) (fun _ H5 e5 => ?_) (fun hh => by cases hh)
          exact s_ret ev_c fun H6 e6 => kN' (noL fun ⟨d, hd, hm⟩ => h1 (by rw [tx_inj.mp hd]; rfl)) _ ((e14.trans e5).trans e6)
      · refine q_when (b := true) (et_is (et_or (b := true) (et_not (et_B (e_isOdd (ev_var rfl) (odd_up _ _ _ e14 ho)))) fun hh => by cases hh) (by simp)) (fun _ H5 e5 => ?_) (fun hh => by cases hh)
        exact s_ret ev_c fun H6 e6 => kN' (noL fun ⟨d, hd, hm⟩ => by
          subst hd
          rcases ho with h | ⟨i, h⟩ | ⟨b, h⟩ | ⟨p, h, _⟩ <;> cases h) _ ((e14.trans e5).trans e6)
    | c :: d :: r', h => exact absurd (by simp only [List.length_cons]; omega) h
  · refine q_when (b := true) (et_is (et_or (b := true) (et_not (et_B (e_noTup (ev_var rfl) hn))) fun hh => by cases hh) (by simp)) (fun _ H1 e1 => ?_) (fun hh => by cases hh)
    exact s_ret ev_c fun H2 e2 => kN (fun ⟨w', xs, ht, hg⟩ => noTup_not (Ex.refl H) hn ht) _ (e1.trans e2)
end
end Nw

set_option Elab.async false
set_option linter.all false
set_option maxRecDepth 100000
/-! the laws' own small defs: _law_at, _law_letter, _law_word, _law_bent -/
namespace Nw
open PySem L2 Evl
def Word (n : Nat) (v : V) : Prop := ∃ w, v = tx w ∧ Low w ∧ w.length ≤ n
def cellAt (ns : List Int) (k : Int) : Int := (ns[k.toNat]?).getD 0
def sp_law_at (K : PySem.W.Frag) : Sp := fun vs H Q _ => ∃ (a : Addr) (ns : List Int) (k : Int), vs = [.ref a, .int k] ∧ SqL K H a (ns.map V.int) ∧ 0 ≤ k ∧ ns.length ≤ 63 ∧ RetV (.int (cellAt ns k)) H Q
def sp_law_letter (K : PySem.W.Frag) : Sp := fun vs H Q _ => ∃ m n : Int, vs = [.int m, .int n] ∧ RetG (fun v _ => IsL v) H Q
def sp_law_word (K : PySem.W.Frag) : Sp := fun vs H Q _ => ∃ m c most : Int, vs = [.int m, .int c, .int most] ∧ 0 ≤ most ∧ most ≤ 60 ∧ RetG (fun v _ => Word most.toNat v) H Q
def sp_law_bent (K : PySem.W.Frag) : Sp := fun vs H Q _ => ∃ (m : Int) (w : List Nat) (c : Int), vs = [.int m, tx w, .int c] ∧ Low w ∧ w.length ≤ 24 ∧ RetG (fun v _ => Word 24 v) H Q
/- _law_at(_law_script, _law_k): slots 0:_law_script 1:_law_k -/
def T_law_at (K : PySem.W.Frag) : TS :=
 (tSeq (tIfS (tTest (tOp nLt (tVar 1) (tCB (nLenL K) (tCons (tVar 0) tNil))))
 (tRet (tOp (nIxL K) (tVar 0) (tVar 1))) tNext)
 (tRet (tC (.int 0))))
def n_law_at : Nat := 2
/- _law_letter(_law_mode, _law_number): slots 0:_law_mode 1:_law_number 2:_law_span 3:_law_step -/
def T_law_letter (K : PySem.W.Frag) : TS :=
 (tSeq (tAsg (tOp (nIxL K) (tLst (tCons (tC (.int 2)) (tCons (tC (.int 3)) (tCons (tC (.int 26)) tNil)))) (tOp nMod (tVar 0) (tC (.int 3)))) (gName 2))
 (tSeq (tAsg (tOp (nIxL K) (tLst (tCons (tC (.int 1)) (tCons (tC (.int 3)) (tCons (tC (.int 5)) (tCons (tC (.int 7)) tNil))))) (tOp nMod (tOp nDiv (tVar 0) (tC (.int 78))) (tC (.int 4)))) (gName 3))
 (tRet (tOp nIxS (tC (tx abc)) (tOp nMod (tOp nAdd (tOp nDiv (tVar 0) (tC (.int 3))) (tOp nMul (tOp nMod (tVar 1) (tVar 2)) (tVar 3))) (tC (.int 26)))))))
def n_law_letter : Nat := 4
/- _law_word(_law_mode, _law_cell_here, _law_most): slots 0:_law_mode 1:_law_cell_here 2:_law_most 3:_law_size 4:_law_found 5:_law_k -/
def T_law_word (K : PySem.W.Frag) : TS :=
 (tSeq (tAsg (tOp nMod (tVar 1) (tOp nAdd (tVar 2) (tC (.int 1)))) (gName 3))
 (tSeq (tAsg (tOp nDiv (tVar 1) (tOp nAdd (tVar 2) (tC (.int 1)))) (gName 1))
 (tSeq (tAsg (tC (tx [])) (gName 4))
 (tSeq (tFor (iRng1 (tCons (tVar 3) tNil)) (gName 5)
 (tSeq (tAsg (tOp nCat (tVar 4) (tCall (sp_law_letter K) [] E0 (tCons (tVar 0) (tCons (tOp nAdd (tVar 1) (tOp nMul (tC (.int 3)) (tVar 5))) tNil)))) (gName 4))
 (tAsg (tOp nDiv (tVar 1) (tC (.int 26))) (gName 1))))
 (tRet (tVar 4))))))
def n_law_word : Nat := 6
/- _law_bent(_law_mode, _law_word_here, _law_cell_here): slots 0:_law_mode 1:_law_word_here 2:_law_cell_here 3:_law_k 4:_law_more 5:_law_at_here 6:_law_letter_here -/
def T_law_bent (K : PySem.W.Frag) : TS :=
 (tSeq (tFor (iRng1 (tCons (tOp nMod (tVar 2) (tC (.int 4))) tNil)) (gName 3)
 (tSeq (tAsg (tOp nAdd (tOp nDiv (tVar 2) (tC (.int 4))) (tOp nMul (tC (.int 11)) (tVar 3))) (gName 4))
 (tSeq (tAsg (tOp nMod (tOp nDiv (tVar 4) (tC (.int 3))) (tOp nAdd (tCB nLenS (tCons (tVar 1) tNil)) (tC (.int 1)))) (gName 5))
 (tSeq (tAsg (tCall (sp_law_letter K) [] E0 (tCons (tVar 0) (tCons (tOp nDiv (tVar 4) (tC (.int 75))) tNil))) (gName 6))
 (tSeq (tIfS (tAnd (tTest (tOp nEq (tOp nMod (tVar 4) (tC (.int 3))) (tC (.int 0)))) (tTest (tOp nLt (tCB nLenS (tCons (tVar 1) tNil)) (tC (.int 24)))))
 (tAsg (tOp nCat (tOp nCat (tSl nSlS (tVar 1) tNoPart (tPart (tVar 5))) (tVar 6)) (tSl nSlS (tVar 1) (tPart (tVar 5)) tNoPart)) (gName 1)) (tIfS (tTest (tOp nEq (tOp nMod (tVar 4) (tC (.int 3))) (tC (.int 1))))
 (tAsg (tOp nCat (tSl nSlS (tVar 1) tNoPart (tPart (tVar 5))) (tSl nSlS (tVar 1) (tPart (tOp nAdd (tVar 5) (tC (.int 1)))) tNoPart)) (gName 1)) (tIfS (tTest (tOp nLt (tVar 5) (tCB nLenS (tCons (tVar 1) tNil))))
 (tAsg (tOp nCat (tOp nCat (tSl nSlS (tVar 1) tNoPart (tPart (tVar 5))) (tVar 6)) (tSl nSlS (tVar 1) (tPart (tOp nAdd (tVar 5) (tC (.int 1)))) tNoPart)) (gName 1)) tNext)))
 (tAsg (tOp nDiv (tVar 2) (tC (.int 5))) (gName 2)))))))
 (tRet (tVar 1)))
def n_law_bent : Nat := 7
theorem l_law_at {K vs H Q E} (h : sp_law_at K vs H Q E) : vs.length = 2 := by obtain ⟨_, _, _, rfl, _⟩ := h; rfl
theorem l_law_letter {K vs H Q E} (h : sp_law_letter K vs H Q E) : vs.length = 2 := by obtain ⟨_, _, rfl, _⟩ := h; rfl
theorem l_law_word {K vs H Q E} (h : sp_law_word K vs H Q E) : vs.length = 3 := by obtain ⟨_, _, _, rfl, _⟩ := h; rfl
theorem l_law_bent {K vs H Q E} (h : sp_law_bent K vs H Q E) : vs.length = 3 := by obtain ⟨_, _, _, rfl, _⟩ := h; rfl
section
variable {K : PySem.W.Frag} {vs : List V} {H : Hp} {Q : VK} {E : XK} {σ : L2.St} {ta tb tc : TE}
theorem R_law_at (h : sp_law_at K vs H Q E) : T_law_at K (fin Q) (slots n_law_at vs) H := by
  obtain ⟨a, ns, k, rfl, hs, h0, hl, kQ⟩ := h
  show T_law_at K (fin Q) [some (.ref a), some (.int k)] H
  unfold T_law_at
  refine q_when (et_test (e_lt (ev_var rfl) (e_lenL (ev_var rfl) hs))) (fun hh H1 e1 => ?_) (fun hh H1 e1 => ?_)
  · have hlt := of_decide_eq_true hh
    rw [List.length_map] at hlt
    have hlt' : k.toNat < ns.length := by omega
    refine s_ret (e_ixL (ev_var rfl) (ev_var rfl) (ex_l e1 hs) (atI_in h0 (by rw [List.getElem?_map, List.getElem?_eq_getElem hlt']; rfl))) fun H2 e2 => ?_
    have e : cellAt ns k = ns[k.toNat] := by unfold cellAt; rw [List.getElem?_eq_getElem hlt']; rfl
    rw [← e]
    exact kQ _ (e1.trans e2)
  · have hlt := of_decide_eq_false hh
    rw [List.length_map] at hlt
    have e : cellAt ns k = 0 := by unfold cellAt; rw [List.getElem?_eq_none (by omega)]; rfl
    rw [e] at kQ
    exact s_ret ev_c fun H2 e2 => kQ _ (e1.trans e2)
theorem e_law_at {a : Addr} {ns : List Int} {k : Int} (ha : Ev ta σ H (.ref a)) (hb : Ev tb σ H (.int k)) (hs : SqL K H a (ns.map V.int)) (h0 : 0 ≤ k) (hl : ns.length ≤ 63) : Ev (tCall (sp_law_at K) [] E0 (tCons ta (tCons tb tNil))) σ H (.int (cellAt ns k)) :=
  ev_call (ea_cons ha (ea_cons hb ea_nil)) fun H1 e Q q E => ⟨a, ns, k, rfl, ex_l e hs, h0, hl, fun H2 e2 => q H2 e2⟩
/-- [a, b, ..][i] of written ints -/
def IntIn (P : Int → Prop) (v : V) (_ : Hp) : Prop := ∃ i, v = .int i ∧ P i
theorem intIn_up (P : Int → Prop) : Up (IntIn P) := fun _ _ _ _ h => h
theorem R_law_letter (h : sp_law_letter K vs H Q E) : T_law_letter K (fin Q) (slots n_law_letter vs) H := by
  obtain ⟨m, n, rfl, kQ⟩ := h
  show T_law_letter K (fin Q) [some (.int m), some (.int n), none, none] H
  unfold T_law_letter
  have g : ∀ {i : Int} {P : Int → Prop} {σ : L2.St} {H : Hp}, P i → EvG (tC (.int i)) σ H (IntIn P) := fun h => g_ev (intIn_up _) ev_c ⟨_, rfl, h⟩
  refine q_asgG (g_pick (n := 3) (intIn_up fun i => 0 < i ∧ i ≤ 26) (all_cons (intIn_up _) (g (by decide)) <| all_cons (intIn_up _) (g (by decide)) <| all_cons (intIn_up _) (g (by decide)) all_nil)
    (e_mod (ev_var rfl) ev_c (by decide)) (Int.emod_nonneg _ (by omega)) (Int.emod_lt_of_pos _ (by omega)) (by decide)) fun v H1 e1 hv => ?_
  obtain ⟨sp, rfl, hs0, hs1⟩ := hv
  refine q_asgG (g_pick (n := 4) (intIn_up fun i => 0 < i ∧ i ≤ 7) (all_cons (intIn_up _) (g (by decide)) <| all_cons (intIn_up _) (g (by decide)) <| all_cons (intIn_up _) (g (by decide)) <| all_cons (intIn_up _) (g (by decide)) all_nil)
    (e_mod (e_div (ev_var rfl) ev_c (by decide)) ev_c (by decide)) (Int.emod_nonneg _ (by omega)) (Int.emod_lt_of_pos _ (by omega)) (by decide)) fun v H2 e2 hv => ?_
  obtain ⟨st, rfl, ht0, ht1⟩ := hv
  refine s_ret (e_ixS ev_c (e_mod (e_add (e_div (ev_var rfl) ev_c (by decide)) (e_mul (e_mod (ev_var rfl) (ev_var rfl) hs0) (ev_var rfl) (.inr (by omega)))) ev_c (by decide)) (by decide)
    (atI_in (Int.emod_nonneg _ (by omega)) (abc_at (by have := Int.emod_lt_of_pos (m / 3 + n % sp * st) (show (0 : Int) < 26 by omega); have := Int.emod_nonneg (m / 3 + n % sp * st) (show (26 : Int) ≠ 0 by omega); omega)))) fun H3 e3 => ?_
  refine kQ _ _ ((e1.trans e2).trans e3) ⟨_, rfl, by omega, ?_⟩
  have := Int.emod_lt_of_pos (m / 3 + n % sp * st) (show (0 : Int) < 26 by omega)
  have := Int.emod_nonneg (m / 3 + n % sp * st) (show (26 : Int) ≠ 0 by omega)
  omega
theorem g_letter {i j : Int} (ha : Ev ta σ H (.int i)) (hb : Ev tb σ H (.int j)) : EvG (tCall (sp_law_letter K) [] E0 (tCons ta (tCons tb tNil))) σ H (fun v _ => IsL v) :=
  g_call (ea_cons ha (ea_cons hb ea_nil)) fun H1 e Q q E => ⟨i, j, rfl, q⟩
/-- a + a letter -/
theorem g_cat1 {a : List Nat} (ha : Ev ta σ H (tx a)) (hb : EvG tb σ H fun v _ => IsL v) (hl : a.length ≤ 1000) : EvG (tOp nCat ta tb) σ H (fun v _ => ∃ c, v = tx (a ++ [c]) ∧ 97 ≤ c ∧ c < 123) := fun H1 e Q q =>
  ha H1 e _ fun H2 e2 => hb H2 (e.trans e2) _ fun v H3 e3 hv => by
    obtain ⟨c, rfl, hc⟩ := hv
    refine ⟨_, _, rfl, rfl, by rw [tx_len, tx_len]; exact line1 (by simp; omega), ?_⟩
    rw [tx_app]
    exact q _ H3 (e2.trans e3) ⟨c, rfl, hc⟩
theorem R_law_word (h : sp_law_word K vs H Q E) : T_law_word K (fin Q) (slots n_law_word vs) H := by
  obtain ⟨m, c, most, rfl, h0, h1, kQ⟩ := h
  show T_law_word K (fin Q) [some (.int m), some (.int c), some (.int most), none, none, none] H
  unfold T_law_word
  refine q_asg (e_mod (ev_var rfl) (e_add (ev_var rfl) ev_c) (by omega)) fun H1 e1 => ?_
  refine q_asg (e_div (ev_var rfl) (e_add (ev_var rfl) ev_c) (by omega)) fun H2 e2 => ?_
  refine q_asg ev_c fun H3 e3 => ?_
  have s0 : 0 ≤ c % (most + 1) := Int.emod_nonneg _ (by omega)
  have s1 : c % (most + 1) < most + 1 := Int.emod_lt_of_pos _ (by omega)
  generalize c % (most + 1) = sz at s0 s1
  refine q_forR1 (n := sz) (ea_cons (ev_var rfl) ea_nil) (by omega) (fun i σ H' => (∃ c' w x, σ = [some (.int m), some (.int c'), some (.int most), some (.int sz), some (tx w), x] ∧ Low w ∧ w.length = i) ∧ Ex H H') (fun H4 e4 => ⟨⟨_, [], _, rfl, low_nil, rfl⟩, ((e1.trans e2).trans e3).trans e4⟩) (fun i σ H' hi hp => ?_) (fun σ H' hp => ?_)
  · obtain ⟨⟨c', w, x, rfl, lo, hl⟩, e⟩ := hp
    refine q_asgG (g_cat1 (ev_var rfl) (g_letter (ev_var rfl) (e_add (ev_var rfl) (e_mul ev_c (ev_var rfl) (.inl (by decide))))) (by omega)) fun v H5 e5 hv => ?_
    obtain ⟨d, rfl, hd⟩ := hv
    refine s_asg (e_div (ev_var rfl) ev_c (by decide)) fun H6 e6 => ?_
    exact ⟨⟨_, _, _, rfl, low_app lo (low_one hd), by simp [hl]⟩, (e.trans e5).trans e6⟩
  · obtain ⟨⟨c', w, x, rfl, lo, hl⟩, e⟩ := hp
    exact s_ret (ev_var rfl) fun H5 e5 => kQ _ _ (e.trans e5) ⟨w, rfl, lo, by omega⟩
theorem g_word {i j : Int} {n : Int} (ha : Ev ta σ H (.int i)) (hb : Ev tb σ H (.int j)) (hc : Ev tc σ H (.int n)) (h0 : 0 ≤ n) (h1 : n ≤ 60) : EvG (tCall (sp_law_word K) [] E0 (tCons ta (tCons tb (tCons tc tNil)))) σ H (fun v _ => Word n.toNat v) :=
  g_call (ea_cons ha (ea_cons hb (ea_cons hc ea_nil))) fun H1 e Q q E => ⟨i, j, n, rfl, h0, h1, q⟩
theorem R_law_bent (h : sp_law_bent K vs H Q E) : T_law_bent K (fin Q) (slots n_law_bent vs) H := by
  obtain ⟨m, w, c, rfl, lo, hl, kQ⟩ := h
  show T_law_bent K (fin Q) [some (.int m), some (tx w), some (.int c), none, none, none, none] H
  unfold T_law_bent
  have s0 : 0 ≤ c % 4 := Int.emod_nonneg _ (by omega)
  have s1 : c % 4 < 4 := Int.emod_lt_of_pos _ (by omega)
  refine q_forR1 (n := c % 4) (ea_cons (e_mod (ev_var rfl) ev_c (by decide)) ea_nil) (by omega) (fun i σ H' => (∃ c' w x y z t, σ = [some (.int m), some (tx w), some (.int c'), x, y, z, t] ∧ Low w ∧ w.length ≤ 24) ∧ Ex H H') (fun H4 e4 => ⟨⟨_, w, _, _, _, _, rfl, lo, hl⟩, e4⟩) (fun i σ H' hi hp => ?_) (fun σ H' hp => ?_)
  · obtain ⟨⟨c', w, x, y, z, t, rfl, lo, hl⟩, e⟩ := hp
    refine q_asg (e_add (e_div (ev_var rfl) ev_c (by decide)) (e_mul ev_c (ev_var rfl) (.inl (by decide)))) fun H1 e1 => ?_
    generalize c' / 4 + 11 * (i : Int) = more
    refine q_asg (e_mod (e_div (ev_var rfl) ev_c (by decide)) (e_add (e_lenS (ev_var rfl) (by omega)) ev_c) (by omega)) fun H2 e2 => ?_
    have a0 : 0 ≤ more / 3 % ((w.length : Int) + 1) := Int.emod_nonneg _ (by omega)
    have a1 : more / 3 % ((w.length : Int) + 1) < (w.length : Int) + 1 := Int.emod_lt_of_pos _ (by omega)
    generalize more / 3 % ((w.length : Int) + 1) = at_ at a0 a1
    refine q_asgG (g_letter (ev_var rfl) (e_div (ev_var rfl) ev_c (by decide))) fun v H3 e3 hv => ?_
    obtain ⟨d, rfl, hd⟩ := hv
    have e123 := ((e.trans e1).trans e2).trans e3
    -- behind the three ways the word is one again
    refine Evl.q_if (b := decide (more % 3 = 0) && decide ((w.length : Int) < 24)) (et_and (et_test (e_eq (e_mod (ev_var rfl) ev_c (by decide)) ev_c .ii)) fun _ => et_test (e_lt (e_lenS (ev_var rfl) (by omega)) ev_c)) (fun hh H4 e4 => ?_) (fun hh H4 e4 => ?_)
    · have hlt : (w.length : Int) < 24 := by simp at hh; omega
      refine s_asg (e_glue (by omega) (ev_var rfl) (ev_var rfl) (ev_var rfl) (ev_var rfl) a0 a0) fun H5 e5 => ?_
      refine s_asg (e_div (ev_var rfl) ev_c (by decide)) fun H6 e6 => ?_
      exact ⟨⟨_, _, _, _, _, _, rfl, low_app (low_app (low_take _ lo) (low_one hd)) (low_drop _ lo), by simp only [List.length_append, List.length_take, List.length_drop, List.length_cons, List.length_nil]; omega⟩, ((e123.trans e4).trans e5).trans e6⟩
    · refine s_if (b := decide (more % 3 = 1)) (et_test (e_eq (e_mod (ev_var rfl) ev_c (by decide)) ev_c .ii)) (fun hh H5 e5 => ?_) (fun hh H5 e5 => ?_)
      · refine s_asg (e_glue2 (by omega) (ev_var rfl) (ev_var rfl) (e_add (ev_var rfl) ev_c) a0 (by omega)) fun H6 e6 => ?_
        refine s_asg (e_div (ev_var rfl) ev_c (by decide)) fun H7 e7 => ?_
        exact ⟨⟨_, _, _, _, _, _, rfl, low_app (low_take _ lo) (low_drop _ lo), by simp only [List.length_append, List.length_take, List.length_drop]; omega⟩, (((e123.trans e4).trans e5).trans e6).trans e7⟩
      · refine s_when (b := decide (at_ < (w.length : Int))) (et_test (e_lt (ev_var rfl) (e_lenS (ev_var rfl) (by omega)))) (fun hh H6 e6 => ?_) (fun hh H6 e6 => ?_)
        · have hlt := of_decide_eq_true hh
          refine s_asg (e_glue (by omega) (ev_var rfl) (ev_var rfl) (ev_var rfl) (e_add (ev_var rfl) ev_c) a0 (by omega)) fun H7 e7 => ?_
          refine s_asg (e_div (ev_var rfl) ev_c (by decide)) fun H8 e8 => ?_
          exact ⟨⟨_, _, _, _, _, _, rfl, low_app (low_app (low_take _ lo) (low_one hd)) (low_drop _ lo), by simp only [List.length_append, List.length_take, List.length_drop, List.length_cons, List.length_nil]; omega⟩, ((((e123.trans e4).trans e5).trans e6).trans e7).trans e8⟩
        · refine s_asg (e_div (ev_var rfl) ev_c (by decide)) fun H8 e8 => ?_
          exact ⟨⟨_, _, _, _, _, _, rfl, lo, hl⟩, (((e123.trans e4).trans e5).trans e6).trans e8⟩
  · obtain ⟨⟨c', w, x, y, z, t, rfl, lo, hl⟩, e⟩ := hp
    exact s_ret (ev_var rfl) fun H5 e5 => kQ _ _ (e.trans e5) ⟨w, rfl, lo, hl⟩
end
end Nw

set_option Elab.async false
set_option linter.all false
set_option maxRecDepth 100000
/-! Nw.Led: several changes -/
namespace Nw
open PySem L2 Evl
/-! ### several changes -/
inductive LedV (H : Hp) : List Nat → List V → List Nat → Prop
  | nil {w} : LedV H w [] w
  | cons {w w1 w2 c cs} (h : GoodV w c H w1) (r : LedV H w1 cs w2) : LedV H w (c :: cs) w2
theorem good_inj {w a b : List Nat} {xs : List V} (h : Good w xs a) (h' : Good w xs b) : a = b := by
  cases h with
  | put h0 h1 hc => cases h'; rfl
  | cut h0 h1 => cases h'; rfl
  | turn h0 h1 hc hn => cases h'; rfl
theorem goodV_inj {w a b : List Nat} {v : V} {H H' : Hp} (e : Ex H H') (h : GoodV w v H a) (h' : GoodV w v H' b) : a = b := by
  obtain ⟨xs, ht, hg⟩ := h
  obtain ⟨ys, ht', hg'⟩ := h'
  rw [← tup_inj e ht ht'] at hg'
  exact good_inj hg hg'
theorem ledV_up {H H' : Hp} (e : Ex H H') {w w' : List Nat} {cs : List V} (h : LedV H w cs w') : LedV H' w cs w' := by
  induction h with
  | nil => exact .nil
  | cons h r ih => exact .cons (goodV_up e h) ih
theorem ledV_snoc {H : Hp} {w w1 w2 : List Nat} {cs : List V} {c : V} (h : LedV H w cs w1) (g : GoodV w1 c H w2) : LedV H w (cs ++ [c]) w2 := by
  induction h with
  | nil => exact .cons g .nil
  | cons h r ih => exact .cons h (ih g)
theorem ledV_inj {H : Hp} {w a b : List Nat} {cs : List V} (h : LedV H w cs a) (h' : LedV H w cs b) : a = b := by
  induction h with
  | nil => cases h'; rfl
  | cons h r ih =>
    cases h' with
    | cons k s =>
      rw [← goodV_inj (Ex.refl H) h k] at s
      exact ih s
theorem ledV_app {H : Hp} {w' : List Nat} : ∀ {as bs : List V} {w : List Nat}, LedV H w (as ++ bs) w' → ∃ w1, LedV H w as w1 ∧ LedV H w1 bs w'
  | [], bs, w, h => ⟨w, .nil, h⟩
  | a :: as, bs, w, h => by
    cases h with
    | cons h r =>
      obtain ⟨w1, h1, h2⟩ := ledV_app r
      exact ⟨w1, .cons h h1, h2⟩
theorem ledV_len {H : Hp} {w w' : List Nat} {cs : List V} (h : LedV H w cs w') : w'.length ≤ w.length + cs.length := by
  induction h with
  | nil => exact Nat.le_refl _
  | cons h r ih =>
    obtain ⟨xs, _, hg⟩ := h
    have := good_len hg
    simp only [List.length_cons]
    omega
theorem ledV_take {H : Hp} {w w' : List Nat} {cs : List V} {i : Nat} {c : V} (h : LedV H w cs w') (hc : cs[i]? = some c) {wi : List Nat} (hi : LedV H w (cs.take i) wi) : ∃ w2, GoodV wi c H w2 := by
  have e : cs = cs.take i ++ (c :: cs.drop (i + 1)) := by
    obtain ⟨hlt, rfl⟩ := List.getElem?_eq_some_iff.mp hc
    rw [← List.drop_eq_getElem_cons hlt, List.take_append_drop]
  rw [e] at h
  obtain ⟨w1, h1, h2⟩ := ledV_app h
  rw [ledV_inj hi h1]
  cases h2 with
  | cons g r => exact ⟨_, g⟩
theorem ledV_down {H H' : Hp} (e : Ex H H') {w w' : List Nat} {cs : List V} (hc : ∀ c ∈ cs, Chg c H) (h : LedV H' w cs w') : LedV H w cs w' := by
  induction h with
  | nil => exact .nil
  | cons h r ih => exact .cons (goodV_down e (hc _ (by simp)) h) (ih fun c h => hc c (by simp [h]))
/-- data of tuples of ints and texts -/
def DataC (c : V) (H : Hp) : Prop := ∀ K : PySem.W.Frag, ∃ d : PyData, Dp K H c d ∧ d.plain = true ∧ d.depth ≤ 5
theorem dataC_up : Up DataC := fun v H H' e h K => by
  obtain ⟨d, h1, h2, h3⟩ := h K
  exact ⟨d, dp_up e _ _ h1, h2, h3⟩
theorem data_non {H : Hp} : DataC .non H := fun K => ⟨_, .non, rfl, by decide⟩
theorem data_t2 {H : Hp} {p : Addr} {a : List Nat} {i : Int} (h : H p = some (.tup [tx a, .int i])) : DataC (.ref p) H := fun K => ⟨_, .tup (SqT.of h) (.cons (.str _) (.cons (.int _) .nil)), rfl, by simp [PyData.depth, PyData.depthAll]⟩
theorem data_t3 {H : Hp} {p : Addr} {a b : List Nat} {i : Int} (h : H p = some (.tup [tx a, .int i, tx b])) : DataC (.ref p) H := fun K => ⟨_, .tup (SqT.of h) (.cons (.str _) (.cons (.int _) (.cons (.str _) .nil))), rfl, by simp [PyData.depth, PyData.depthAll]⟩
theorem good_data {w w' : List Nat} {xs : List V} {p : Addr} {H : Hp} (h : H p = some (.tup xs)) (g : Good w xs w') : DataC (.ref p) H := by
  cases g with
  | put h0 h1 hc => exact data_t3 h
  | cut h0 h1 => exact data_t2 h
  | turn h0 h1 hc hn => exact data_t3 h
theorem any_tx {a : List Nat} {H : Hp} (h : a.length ≤ 1000) : Any (tx a) H := .inl ⟨a, rfl, h⟩
theorem any_int {i : Int} {H : Hp} : Any (.int i) H := .inr odd_int
theorem chg_t2 {H : Hp} {p : Addr} {a : List Nat} {i : Int} (h : H p = some (.tup [tx a, .int i])) (ha : a.length ≤ 1000) : Chg (.ref p) H := .inl ⟨_, ⟨p, rfl, h⟩, by simp, fun x hx => by
  rcases List.mem_cons.mp hx with rfl | hx
  · exact any_tx ha
  · rw [List.mem_singleton] at hx; subst hx; exact any_int⟩
theorem chg_t3 {H : Hp} {p : Addr} {a b : List Nat} {i : Int} (h : H p = some (.tup [tx a, .int i, tx b])) (ha : a.length ≤ 1000) (hb : b.length ≤ 1000) : Chg (.ref p) H := .inl ⟨_, ⟨p, rfl, h⟩, by simp, fun x hx => by
  rcases List.mem_cons.mp hx with rfl | hx
  · exact any_tx ha
  · rcases List.mem_cons.mp hx with rfl | hx
    · exact any_int
    · rw [List.mem_singleton] at hx; subst hx; exact any_tx hb⟩
theorem good_chg {w w' : List Nat} {xs : List V} {p : Addr} {H : Hp} (h : H p = some (.tup xs)) (g : Good w xs w') : Chg (.ref p) H := by
  cases g with
  | put h0 h1 hc => exact chg_t3 h (by decide) (by simp)
  | cut h0 h1 => exact chg_t2 h (by decide)
  | turn h0 h1 hc hn => exact chg_t3 h (by decide) (by simp)
end Nw

/-! Nw.Dist: the table of two words, and what its numbers are: plain Lean. -/
namespace Nw
/-- the number of the table at i, j -/
def cell (a b : List Nat) : Nat → Nat → Nat
  | 0, j => j
  | i + 1, 0 => i + 1
  | i + 1, j + 1 => min (min (cell a b i j + if a[i]? = b[j]? then 0 else 1) (cell a b i (j + 1) + 1)) (cell a b (i + 1) j + 1)
termination_by i j => (i, j)
theorem cell_0 (a b : List Nat) (j : Nat) : cell a b 0 j = j := by rw [cell]
theorem cell_s0 (a b : List Nat) (i : Nat) : cell a b (i + 1) 0 = i + 1 := by rw [cell]
theorem cell_i0 (a b : List Nat) (i : Nat) : cell a b i 0 = i := by
  cases i with
  | zero => exact cell_0 a b 0
  | succ i => exact cell_s0 a b i
theorem cell_ss (a b : List Nat) (i j : Nat) : cell a b (i + 1) (j + 1) = min (min (cell a b i j + if a[i]? = b[j]? then 0 else 1) (cell a b i (j + 1) + 1)) (cell a b (i + 1) j + 1) := by rw [cell]
/-- only the first i, j letters matter -/
theorem cell_congr {a a' b b' : List Nat} : ∀ (i j : Nat), (∀ k, k < i → a[k]? = a'[k]?) → (∀ k, k < j → b[k]? = b'[k]?) → cell a b i j = cell a' b' i j
  | 0, j, _, _ => by rw [cell_0, cell_0]
  | i + 1, 0, _, _ => by rw [cell_s0, cell_s0]
  | i + 1, j + 1, ha, hb => by
    rw [cell_ss, cell_ss, cell_congr i j (fun k hk => ha k (by omega)) (fun k hk => hb k (by omega)), cell_congr i (j + 1) (fun k hk => ha k (by omega)) hb, cell_congr (i + 1) j ha (fun k hk => hb k (by omega)), ha i (by omega), hb j (by omega)]
termination_by i j => (i, j)
/-- the distance -/
def dist (a b : List Nat) : Nat := cell a b a.length b.length
theorem take_get {a : List Nat} {i k : Nat} (h : k < i) : (a.take i)[k]? = a[k]? := by rw [List.getElem?_take_of_lt h]
theorem cell_take {a b : List Nat} {i j : Nat} (hi : i ≤ a.length) (hj : j ≤ b.length) : cell a b i j = dist (a.take i) (b.take j) := by
  unfold dist
  rw [List.length_take, List.length_take, Nat.min_eq_left hi, Nat.min_eq_left hj]
  exact cell_congr i j (fun k hk => (take_get hk).symm) (fun k hk => (take_get hk).symm)
/-! ### rows of changes, letter by letter -/
inductive Edit : List Nat → List Nat → Nat → Prop
  | nil : Edit [] [] 0
  | keep {a b n} (x : Nat) (h : Edit a b n) : Edit (x :: a) (x :: b) n
  | sub {a b n} (x y : Nat) (h : Edit a b n) : Edit (x :: a) (y :: b) (n + 1)
  | del {a b n} (x : Nat) (h : Edit a b n) : Edit (x :: a) b (n + 1)
  | ins {a b n} (y : Nat) (h : Edit a b n) : Edit a (y :: b) (n + 1)
theorem Edit.symm {a b : List Nat} {n : Nat} (h : Edit a b n) : Edit b a n := by
  induction h with
  | nil => exact .nil
  | keep x _ ih => exact .keep x ih
  | sub x y _ ih => exact .sub y x ih
  | del x _ ih => exact .ins x ih
  | ins y _ ih => exact .del y ih
theorem Edit.append {a b c d : List Nat} {m n : Nat} (h : Edit a b m) (h' : Edit c d n) : Edit (a ++ c) (b ++ d) (m + n) := by
  induction h with
  | nil => rw [Nat.zero_add]; exact h'
  | keep x _ ih => exact .keep x ih
  | sub x y _ ih => rw [Nat.add_right_comm]; exact .sub x y ih
  | del x _ ih => rw [Nat.add_right_comm]; exact .del x ih
  | ins y _ ih => rw [Nat.add_right_comm]; exact .ins y ih
theorem Edit.rev {a b : List Nat} {n : Nat} (h : Edit a b n) : Edit a.reverse b.reverse n := by
  induction h with
  | nil => exact .nil
  | keep x _ ih => rw [List.reverse_cons, List.reverse_cons]; exact ih.append (.keep x .nil)
  | sub x y _ ih => rw [List.reverse_cons, List.reverse_cons]; exact ih.append (.sub x y .nil)
  | del x _ ih =>
    rw [List.reverse_cons]
    have := ih.append (.del x .nil)
    rw [List.append_nil] at this
    exact this
  | ins y _ ih =>
    rw [List.reverse_cons]
    have := ih.append (.ins y .nil)
    rw [List.append_nil] at this
    exact this
theorem Edit.self (a : List Nat) : Edit a a 0 := by
  induction a with
  | nil => exact .nil
  | cons x a ih => exact .keep x ih
theorem Edit.zero {a b : List Nat} {n : Nat} (h : Edit a b n) (h0 : n = 0) : a = b := by
  induction h with
  | nil => rfl
  | keep x _ ih => rw [ih h0]
  | sub x y _ ih => cases h0
  | del x _ ih => cases h0
  | ins y _ ih => cases h0
theorem Edit.len {a b : List Nat} {n : Nat} (h : Edit a b n) : a.length ≤ b.length + n ∧ b.length ≤ a.length + n := by
  induction h with
  | nil => exact ⟨Nat.le_refl _, Nat.le_refl _⟩
  | keep x _ ih => simp only [List.length_cons]; omega
  | sub x y _ ih => simp only [List.length_cons]; omega
  | del x _ ih => simp only [List.length_cons]; omega
  | ins y _ ih => simp only [List.length_cons]; omega
theorem Edit.all_ins : ∀ b : List Nat, Edit [] b b.length
  | [] => .nil
  | y :: b => .ins y (Edit.all_ins b)
theorem Edit.top : ∀ a b : List Nat, ∃ n, n ≤ max a.length b.length ∧ Edit a b n
  | [], b => ⟨b.length, Nat.le_max_right _ _, Edit.all_ins b⟩
  | a, [] => ⟨a.length, Nat.le_max_left _ _, (Edit.all_ins a).symm⟩
  | x :: a, y :: b => by
    obtain ⟨n, h1, h2⟩ := Edit.top a b
    exact ⟨n + 1, by simp only [List.length_cons]; omega, .sub x y h2⟩
theorem Edit.trans {a b : List Nat} {m : Nat} (h : Edit a b m) : ∀ {c : List Nat} {n : Nat}, Edit b c n → ∃ k, k ≤ m + n ∧ Edit a c k := by
  induction h with
  | nil => exact fun h' => ⟨_, by omega, h'⟩
  | @keep a b m x h ih =>
    intro c n h'
    generalize hb : x :: b = b' at h'
    induction h' with
    | nil => cases hb
    | keep y h2 _ => cases hb; obtain ⟨k, hk, e⟩ := ih h2; exact ⟨k, hk, .keep _ e⟩
    | sub y z h2 _ => cases hb; obtain ⟨k, hk, e⟩ := ih h2; exact ⟨k + 1, by omega, .sub _ _ e⟩
    | del y h2 _ => cases hb; obtain ⟨k, hk, e⟩ := ih h2; exact ⟨k + 1, by omega, .del _ e⟩
    | ins y h2 ih2 => obtain ⟨k, hk, e⟩ := ih2 hb; exact ⟨k + 1, by omega, .ins _ e⟩
  | @sub a b m x y h ih =>
    intro c n h'
    generalize hb : y :: b = b' at h'
    induction h' with
    | nil => cases hb
    | keep z h2 _ => cases hb; obtain ⟨k, hk, e⟩ := ih h2; exact ⟨k + 1, by omega, .sub _ _ e⟩
    | sub z w h2 _ => cases hb; obtain ⟨k, hk, e⟩ := ih h2; exact ⟨k + 1, by omega, .sub _ _ e⟩
    | del z h2 _ => cases hb; obtain ⟨k, hk, e⟩ := ih h2; exact ⟨k + 1, by omega, .del _ e⟩
    | ins z h2 ih2 => obtain ⟨k, hk, e⟩ := ih2 hb; exact ⟨k + 1, by omega, .ins _ e⟩
  | del x h ih =>
    intro c n h'
    obtain ⟨k, hk, e⟩ := ih h'
    exact ⟨k + 1, by omega, .del _ e⟩
  | @ins a b m y h ih =>
    intro c n h'
    generalize hb : y :: b = b' at h'
    induction h' with
    | nil => cases hb
    | keep z h2 _ => cases hb; obtain ⟨k, hk, e⟩ := ih h2; exact ⟨k + 1, by omega, .ins _ e⟩
    | sub z w h2 _ => cases hb; obtain ⟨k, hk, e⟩ := ih h2; exact ⟨k + 1, by omega, .ins _ e⟩
    | del z h2 _ => cases hb; obtain ⟨k, hk, e⟩ := ih h2; exact ⟨k, by omega, e⟩
    | ins z h2 ih2 => obtain ⟨k, hk, e⟩ := ih2 hb; exact ⟨k + 1, by omega, .ins _ e⟩
theorem Edit.tail {x : Nat} {a b : List Nat} {n : Nat} (h : Edit (x :: a) (x :: b) n) : ∃ k, k ≤ n ∧ Edit a b k := by
  generalize ha : x :: a = a' at h
  generalize hb : x :: b = b' at h
  cases h with
  | nil => cases ha
  | keep y h => cases ha; cases hb; exact ⟨_, Nat.le_refl _, h⟩
  | sub y z h => cases ha; cases hb; exact ⟨_, Nat.le_succ _, h⟩
  | del y h =>
    cases ha
    subst hb
    obtain ⟨k, hk, e⟩ := h.trans (.del x (Edit.self b))
    exact ⟨k, by omega, e⟩
  | ins y h =>
    cases hb
    subst ha
    obtain ⟨k, hk, e⟩ := (Edit.ins x (Edit.self a)).trans h
    exact ⟨k, by omega, e⟩
/-! ### the distance is the fewest -/
theorem take_snoc {a : List Nat} {i : Nat} {x : Nat} (h : a[i]? = some x) : a.take (i + 1) = a.take i ++ [x] := by
  rw [List.take_add_one, h]
  rfl
theorem cell_edit (a b : List Nat) : ∀ (i j : Nat), i ≤ a.length → j ≤ b.length → Edit (a.take i) (b.take j) (cell a b i j)
  | 0, j, _, hj => by
    rw [cell_0, List.take_zero]
    have := Edit.all_ins (b.take j)
    rw [List.length_take, Nat.min_eq_left hj] at this
    exact this
  | i + 1, 0, hi, _ => by
    rw [cell_s0, List.take_zero]
    have := (Edit.all_ins (a.take (i + 1))).symm
    rw [List.length_take, Nat.min_eq_left hi] at this
    exact this
  | i + 1, j + 1, hi, hj => by
    have h1 := cell_edit a b i j (by omega) (by omega)
    have h2 := cell_edit a b i (j + 1) (by omega) hj
    have h3 := cell_edit a b (i + 1) j hi (by omega)
    have ea : a[i]? = some a[i] := List.getElem?_eq_getElem (by omega)
    have eb : b[j]? = some b[j] := List.getElem?_eq_getElem (by omega)
    rw [cell_ss]
    by_cases m1 : cell a b (i + 1) j + 1 ≤ min (cell a b i j + if a[i]? = b[j]? then 0 else 1) (cell a b i (j + 1) + 1)
    · rw [Nat.min_eq_right m1, take_snoc eb]
      have := h3.append (.ins b[j] .nil)
      rw [List.append_nil] at this
      exact this
    rw [Nat.min_eq_left (by omega)]
    by_cases m2 : cell a b i (j + 1) + 1 ≤ cell a b i j + if a[i]? = b[j]? then 0 else 1
    · rw [Nat.min_eq_right m2, take_snoc ea]
      have := h2.append (.del a[i] .nil)
      rw [List.append_nil] at this
      exact this
    rw [Nat.min_eq_left (by omega), take_snoc ea, take_snoc eb]
    by_cases e : a[i]? = b[j]?
    · rw [if_pos e]
      rw [ea, eb] at e
      rw [Option.some.inj e]
      exact h1.append (.keep _ .nil)
    · rw [if_neg e]
      exact h1.append (.sub _ _ .nil)
termination_by i j => (i, j)
/-- what stands at the end of a row of changes -/
theorem Edit.snoc {a b : List Nat} {x y : Nat} {n : Nat} (h : Edit (a ++ [x]) (b ++ [y]) n) : (x = y ∧ Edit a b n) ∨ (∃ m, n = m + 1 ∧ (Edit a b m ∨ Edit a (b ++ [y]) m ∨ Edit (a ++ [x]) b m)) := by
  have h := h.rev
  rw [List.reverse_append, List.reverse_append] at h
  generalize ha : [x].reverse ++ a.reverse = a' at h
  generalize hb : [y].reverse ++ b.reverse = b' at h
  have back : ∀ {u v : List Nat} {k}, Edit u.reverse v.reverse k → Edit u v k := fun h => by
    have := h.rev
    rw [List.reverse_reverse, List.reverse_reverse] at this
    exact this
  cases h with
  | nil => cases ha
  | keep z h =>
    injection ha with e1 e2
    injection hb with e3 e4
    subst e2 e4
    exact .inl ⟨e1.trans e3.symm, back h⟩
  | sub z w h =>
    injection ha with e1 e2
    injection hb with e3 e4
    subst e2 e4
    exact .inr ⟨_, rfl, .inl (back h)⟩
  | del z h =>
    injection ha with e1 e2
    subst e2 hb
    refine .inr ⟨_, rfl, .inr (.inl (back ?_))⟩
    rw [List.reverse_append]
    exact h
  | ins z h =>
    injection hb with e1 e2
    subst e2 ha
    refine .inr ⟨_, rfl, .inr (.inr (back ?_))⟩
    rw [List.reverse_append]
    exact h
theorem cell_least (a b : List Nat) : ∀ (i j : Nat), i ≤ a.length → j ≤ b.length → ∀ n, Edit (a.take i) (b.take j) n → cell a b i j ≤ n
  | 0, j, _, hj, n, h => by
    have := h.len
    rw [cell_0]
    rw [List.length_take, List.length_take, Nat.min_eq_left hj] at this
    omega
  | i + 1, 0, hi, _, n, h => by
    have := h.len
    rw [cell_s0]
    rw [List.length_take, List.length_take, Nat.min_eq_left hi] at this
    omega
  | i + 1, j + 1, hi, hj, n, h => by
    have ea : a[i]? = some a[i] := List.getElem?_eq_getElem (by omega)
    have eb : b[j]? = some b[j] := List.getElem?_eq_getElem (by omega)
    rw [take_snoc ea, take_snoc eb] at h
    rw [cell_ss]
    rcases h.snoc with ⟨e, h1⟩ | ⟨m, rfl, h1 | h1 | h1⟩
    · have := cell_least a b i j (by omega) (by omega) n h1
      rw [if_pos (by rw [ea, eb, e])]
      omega
    · have := cell_least a b i j (by omega) (by omega) m h1
      have : (if a[i]? = b[j]? then 0 else 1) ≤ 1 := by split <;> omega
      omega
    · rw [← take_snoc eb] at h1
      have := cell_least a b i (j + 1) (by omega) hj m h1
      omega
    · rw [← take_snoc ea] at h1
      have := cell_least a b (i + 1) j hi (by omega) m h1
      omega
termination_by i j => (i, j)
theorem dist_edit (a b : List Nat) : Edit a b (dist a b) := by
  have := cell_edit a b a.length b.length (Nat.le_refl _) (Nat.le_refl _)
  rw [List.take_length, List.take_length] at this
  exact this
theorem dist_least {a b : List Nat} {n : Nat} (h : Edit a b n) : dist a b ≤ n := cell_least a b a.length b.length (Nat.le_refl _) (Nat.le_refl _) n (by rw [List.take_length, List.take_length]; exact h)
theorem dist_zero {a b : List Nat} : dist a b = 0 ↔ a = b := ⟨fun h => (dist_edit a b).zero h, fun h => by subst h; exact Nat.le_zero.mp (dist_least (Edit.self a))⟩
theorem dist_symm (a b : List Nat) : dist a b = dist b a := Nat.le_antisymm (dist_least (dist_edit b a).symm) (dist_least (dist_edit a b).symm)
theorem dist_rev (a b : List Nat) : dist a.reverse b.reverse = dist a b := Nat.le_antisymm (dist_least (dist_edit a b).rev) (dist_least (by
  have := (dist_edit a.reverse b.reverse).rev
  rw [List.reverse_reverse, List.reverse_reverse] at this
  exact this))
theorem dist_tri (a b c : List Nat) : dist a b ≤ dist a c + dist c b := by
  obtain ⟨k, hk, e⟩ := (dist_edit a c).trans (dist_edit c b)
  exact Nat.le_trans (dist_least e) hk
theorem dist_low (a b : List Nat) : a.length ≤ b.length + dist a b ∧ b.length ≤ a.length + dist a b := (dist_edit a b).len
theorem dist_high (a b : List Nat) : dist a b ≤ max a.length b.length := by
  obtain ⟨n, h1, h2⟩ := Edit.top a b
  exact Nat.le_trans (dist_least h2) h1
theorem dist_cons (x : Nat) (a b : List Nat) : dist (x :: a) (x :: b) = dist a b := by
  refine Nat.le_antisymm (dist_least (.keep x (dist_edit a b))) ?_
  obtain ⟨k, hk, e⟩ := (dist_edit (x :: a) (x :: b)).tail
  exact Nat.le_trans (dist_least e) hk
theorem dist_snoc (x : Nat) (a b : List Nat) : dist (a ++ [x]) (b ++ [x]) = dist a b := by
  rw [← dist_rev (a ++ [x]), List.reverse_append, List.reverse_append]
  show dist (x :: a.reverse) (x :: b.reverse) = dist a b
  rw [dist_cons, dist_rev]
end Nw

set_option Elab.async false
set_option linter.all false
set_option maxRecDepth 100000
/-! Nw.Tab: need_word, first_row, next_row, rows_of, table -/
namespace Nw
open PySem L2 Evl
/-! ### min of three, min(xs, default=d) -/
def nMin3 : List V → Hp → VK → Prop := fun xs H Q => ∃ i j k : Int, xs = [.int i, .int j, .int k] ∧ Q (.int (min (min i j) k)) H
theorem min2_int (i j : Int) : nuMin2 (.int i) (.int j) = some (.int (min i j)) := by
  show Option.map _ (some (decide (j < i))) = _
  by_cases h : j < i
  · rw [decide_eq_true h, Int.min_eq_right (by omega)]; rfl
  · rw [decide_eq_false h, Int.min_eq_left (by omega)]; rfl
theorem min3_int (i j k : Int) : nuMin3 (.int i) (.int j) (.int k) = some (.int (min (min i j) k)) := by
  unfold nuMin3
  rw [min2_int]
  exact min2_int _ _
theorem c_min3 {X : Cx} (hc : X.calm = true) : CallR X (.builtin "min") nMin3 := by
  intro pins s σ H xs us Q I r h
  obtain ⟨i, j, k, rfl, q⟩ := h
  exact call_min3Nu hc pins s σ H _ us Q I r ⟨_, _, _, _, rfl, min3_int i j k, q⟩
def minI (d : Int) : List Int → Int
  | [] => d
  | n :: r => r.foldl min n
def nMinD (K : PySem.W.Frag) : List V → List V → Hp → VK → Prop := fun vs zs H Q => ∃ (a : Addr) (ns : List Int) (d : Int), vs = [.ref a] ∧ zs = [.int d] ∧ SqL K H a (ns.map V.int) ∧ Q (.int (minI d ns)) H
theorem c_minD {X : Cx} (hc : X.calm = true) (hu : X.A.units + 64 < cLine) : CallRK X (.builtin "min") [Str.ofString "default"] (nMinD X.K) := by
  intro pins s σ H vs zs us ws Q I r rz h
  obtain ⟨a, ns, d, rfl, rfl, hs, q⟩ := h
  obtain ⟨its, rv, hl, hz⟩ := I.list hs
  obtain rfl := Vals.ref1 r
  obtain ⟨w1, rfl, t, rfl⟩ := vals1 rz
  obtain ⟨as, hr⟩ := Dp.readsAll I (ns.map PyData.int) (ns.map V.int) its (dpAll_map (α := Unit) V.int PyData.int (fun b => .int b) ns) rv
  refine PySem.W.min_list_default (I.ok.hd hc) hl.isList (xs := ns.map PyData.int) (as := as) (by simpa using hr) ⟨fun x hx y hy => ?_, fun x hx => ?_⟩ (by rw [PySem.W.depth_ints]; omega) (fun h0 h' tk k => ⟨.int d, H, I.kept k, ⟨_, rfl⟩, ?_⟩) (fun y ys i v h' tk bs e hv hr k => ?_)
  · obtain ⟨i, _, rfl⟩ := List.mem_map.mp hx
    obtain ⟨j, _, rfl⟩ := List.mem_map.mp hy
    rfl
  · obtain ⟨i, _, rfl⟩ := List.mem_map.mp hx
    exact fun z => nomatch z
  · rw [List.map_eq_nil_iff.mp h0] at q
    exact q
  · cases ns with
    | nil => cases e
    | cons n ns =>
      injection e with e1 e2
      subst e1 e2
      rw [PySem.W.minD_ints] at hr
      cases hr with
      | int _ t => exact ⟨.int _, H, I.kept k, ⟨_, rfl⟩, q⟩
section
variable {K : PySem.W.Frag} {σ : L2.St} {H : Hp} {ta tb tc : TE} {i j k : Int}
theorem e_min3 (ha : Ev ta σ H (.int i)) (hb : Ev tb σ H (.int j)) (hc : Ev tc σ H (.int k)) : Ev (tCB nMin3 (tCons ta (tCons tb (tCons tc tNil)))) σ H (.int (min (min i j) k)) :=
  ev_cb (ea_cons ha (ea_cons hb (ea_cons hc ea_nil))) fun H1 e Q q => ⟨i, j, k, rfl, q H1 (Ex.refl H1)⟩
theorem e_minD {a : Addr} {ns : List Int} (ha : Ev ta σ H (.ref a)) (hs : SqL K H a (ns.map V.int)) (hb : Ev tb σ H (.int k)) : Ev (tCKw (nMinD K) (tCons ta tNil) (tCons tb tNil)) σ H (.int (minI k ns)) := fun H1 e Q q =>
  ea_cons ha ea_nil H1 e _ fun H2 e2 => ea_cons hb ea_nil H2 (e.trans e2) _ fun H3 e3 => ⟨a, ns, k, rfl, rfl, ex_l ((e.trans e2).trans e3) hs, q H3 (e2.trans e3)⟩
end
/-! ### [f(x) for x in xs], each a new list -/
section
variable {K : PySem.W.Frag} {σ : L2.St} {H : Hp} {tl te : TE} {Q : VK}
theorem lc_new {a : Addr} {xs : List V} {j : Nat} {vs : List Nat} (f : Nat → List V) (h : Ev tl σ H (.ref a)) (hx : SqL K H a xs) (hz : xs.length ≤ 40000) (hw : ∀ x, wipe ((wipe σ vs).set j (some x)) vs = wipe σ vs)
    (he : ∀ (i : Nat) (x : V) H1, Ex H H1 → xs[i]? = some x → EvL te ((wipe σ vs).set j (some x)) H1 (f i))
    (k : ∀ (l : Addr) (rs : List Addr) (H2 : Hp), H l = none → Ex H H2 → H2 l = some (.lst (rs.map V.ref)) → rs.length = xs.length → (∀ i r, rs[i]? = some r → H r = none ∧ H2 r = some (.lst (f i))) → Q (.ref l) H2) :
    tLc (iList K tl) (gName j) tYes te vs σ H Q := h H (Ex.refl H) _ fun H1 e1 => ⟨a, rfl, ⟨xs, ex_l e1 hx⟩, fun Dl hD =>
  lc_list (xs := xs) (fun i H' => Ex H1 H' ∧ ∃ rs : List Addr, H' Dl = some (.lst (rs.map V.ref)) ∧ rs.length = i ∧ ∀ k r, rs[k]? = some r → H1 r = none ∧ del H' Dl r = some (.lst (f k)))
    ⟨Ex.new hD, [], upd_same, rfl, fun k r hk => by simp at hk⟩ (fun i H' _ p => ex_l (e1.trans p.1) hx)
    (fun i x H' hi p => ⟨hw x, by
      obtain ⟨e, rs, hl, hlen, hr⟩ := p
      have hlt := (List.getElem?_eq_some_iff.mp hi).1
      refine he i x H' (e1.trans e) hi H' (Ex.refl H') _ fun r H3 hr0 e3 h3 => ?_
      have hne : r ≠ Dl := fun z => by rw [z, hl] at hr0; cases hr0
      refine ⟨rs.map V.ref, e3 _ _ hl, by rw [List.length_map, hlen]; exact sz_lt (by omega), Ex.mut (e.trans e3) hD, rs ++ [r], by rw [upd_same, List.map_append]; rfl, by rw [List.length_append, hlen]; rfl, fun k q hk => ?_⟩
      rw [del_upd]
      rcases Nat.lt_or_ge k rs.length with h | h
      · rw [List.getElem?_append_left h] at hk
        obtain ⟨p1, p2⟩ := hr k q hk
        exact ⟨p1, del_mono e3 _ _ p2⟩
      · rw [List.getElem?_append_right h] at hk
        have hk0 : k = rs.length := by
          rcases Nat.lt_or_ge (k - rs.length) 1 with h | h
          · omega
          · rw [List.getElem?_eq_none (by simpa using h)] at hk; cases hk
        subst hk0
        rw [Nat.sub_self] at hk
        injection hk with hk
        subst hk
        exact ⟨fresh_back e hr0, by rw [del_ne hne, h3, hlen]⟩⟩)
    (fun H' p => by
      obtain ⟨e, rs, hl, hlen, hr⟩ := p
      exact k Dl rs H' (fresh_back e1 hD) (e1.trans e) hl hlen fun i r hi => ⟨fresh_back e1 (hr i r hi).1, del_ex _ _ (hr i r hi).2⟩)⟩
theorem q_lcNew {D : Ends} {tz : TS} {m : Nat} {a : Addr} {xs : List V} {j : Nat} {vs : List Nat} (f : Nat → List V) (h : Ev tl σ H (.ref a)) (hx : SqL K H a xs) (hz : xs.length ≤ 40000) (hw : ∀ x, wipe ((wipe σ vs).set j (some x)) vs = wipe σ vs)
    (he : ∀ (i : Nat) (x : V) H1, Ex H H1 → xs[i]? = some x → EvL te ((wipe σ vs).set j (some x)) H1 (f i))
    (k : ∀ (l : Addr) (rs : List Addr) (H2 : Hp), H l = none → Ex H H2 → H2 l = some (.lst (rs.map V.ref)) → rs.length = xs.length → (∀ i r, rs[i]? = some r → H r = none ∧ H2 r = some (.lst (f i))) → tz D (σ.set m (some (.ref l))) H2) :
    tSeq (tAsg (tLc (iList K tl) (gName j) tYes te vs) (gName m)) tz D σ H := lc_new (Q := fun v H2 => tz D (σ.set m (some v)) H2) f h hx hz hw he k
/-- xs.clear() -/
theorem q_clear {l : Addr} {xs : List V} {ta : TE} {D : Ends} {tz : TS} (ha : Ev ta σ H (.ref l)) (hl : H l = some (.lst xs)) (k : ∀ H1, Ex H H1 → tz D σ (upd H1 l (.lst []))) : tSeq (tDrop (tBM0 K "list" rClear ta)) tz D σ H :=
  ha H (Ex.refl H) _ fun H1 e1 => ⟨.inl ⟨rfl, xs, sq_of (e1 _ _ hl)⟩, l, xs, rfl, rfl, e1 _ _ hl, k H1 e1⟩
theorem dpAll_of : ∀ {xs : List V} {ds : List PyData}, xs.length = ds.length → (∀ (i : Nat) x d, xs[i]? = some x → ds[i]? = some d → Dp K H x d) → DpAll K H xs ds
  | [], [], _, _ => .nil
  | [], _ :: _, h, _ => by simp at h
  | _ :: _, [], h, _ => by simp at h
  | x :: xs, d :: ds, h, f => .cons (f 0 x d rfl rfl) (dpAll_of (by simpa using h) fun i y e h1 h2 => f (i + 1) y e (by simpa using h1) (by simpa using h2))
theorem is_rows {p : Addr} {rs : List Addr} {m : Nat} (f : Nat → List Int) (hp : H p = some (.lst (rs.map V.ref))) (hm : rs.length = m) (hr : ∀ i r, rs[i]? = some r → H r = some (.lst ((f i).map V.int))) : Is K H (.ref p) ((List.range m).map f) := by
  refine .lst (sq_of hp) (dpAll_of (by simp [hm]) fun i x d h1 h2 => ?_)
  rw [List.getElem?_map] at h1 h2
  cases e : rs[i]? with
  | none => rw [e] at h1; cases h1
  | some r =>
    rw [e] at h1
    injection h1 with h1
    subst h1
    have hi := (List.getElem?_eq_some_iff.mp e).1
    rw [List.getElem?_map, List.getElem?_range (by omega)] at h2
    injection h2 with h2
    subst h2
    exact is_ints (sq_of (hr i r e))
end
/-! ### rows -/
def rowV (f : Nat → Nat) (n : Nat) : List V := (List.range n).map fun j => V.int (f j : Int)
theorem rowV_len (f : Nat → Nat) (n : Nat) : (rowV f n).length = n := by unfold rowV; rw [List.length_map, List.length_range]
theorem rowV_snoc (f : Nat → Nat) (n : Nat) : rowV f (n + 1) = rowV f n ++ [V.int (f n : Int)] := by unfold rowV; rw [List.range_succ, List.map_append]; rfl
theorem rowV_get {f : Nat → Nat} {n j : Nat} (h : j < n) : (rowV f n)[j]? = some (.int (f j : Int)) := by unfold rowV; rw [List.getElem?_map, List.getElem?_range h]; rfl
theorem rowV_at {f : Nat → Nat} {n j : Nat} {z : Int} (e : z = (j : Int)) (h : j < n) : atI (rowV f n) z = some (.int (f j : Int)) := by subst e; exact atI_nat (rowV_get h)
theorem rowV_congr {f g : Nat → Nat} {n : Nat} (h : ∀ j, j < n → f j = g j) : rowV f n = rowV g n := by
  unfold rowV
  exact List.map_congr_left fun j hj => by rw [h j (List.mem_range.mp hj)]
theorem at_end {α : Type} {xs : List α} {v : α} {n : Nat} (hl : xs.length = n + 1) (h : xs[n]? = some v) : atI xs (-1) = some v := by
  have e : xs = xs.take n ++ [v] := by
    have e1 := List.take_length (l := xs)
    rw [hl, List.take_add_one, h] at e1
    exact e1.symm
  rw [e]
  exact atI_last _ _
theorem rowV_last {f : Nat → Nat} {n : Nat} : atI (rowV f (n + 1)) (-1) = some (.int (f n : Int)) := at_end (rowV_len _ _) (rowV_get (Nat.lt_succ_self n))
def nxt (f : Nat → Nat) (c : Nat) (w : List Nat) : Nat → Nat
  | 0 => f 0 + 1
  | j + 1 => min (min (f j + if w[j]? = some c then 0 else 1) (f (j + 1) + 1)) (nxt f c w j + 1)
theorem cell_nxt {a b : List Nat} {i c : Nat} (h : a[i]? = some c) : ∀ j, cell a b (i + 1) j = nxt (cell a b i) c b j
  | 0 => by rw [cell_s0, nxt, cell_i0]
  | j + 1 => by
    rw [cell_ss, nxt, cell_nxt h j, h]
    have e : (some c = b[j]?) = (b[j]? = some c) := propext ⟨Eq.symm, Eq.symm⟩
    simp only [e]
/-! ### the defs -/
def IsWd (v : V) : Prop := ∃ w, v = tx w ∧ isW w = true
def Rws (H : Hp) (rs : List Addr) (n : Nat) (a b : List Nat) : Prop := rs.length = n + 1 ∧ ∀ i r, rs[i]? = some r → H r = some (.lst (rowV (cell a b i) (b.length + 1)))
def RowsAt (a b : List Nat) (v : V) (H : Hp) : Prop := ∃ p rs, v = .ref p ∧ H p = some (.lst (rs.map V.ref)) ∧ Rws H rs a.length a b
theorem rws_up {H H' : Hp} {rs : List Addr} {n : Nat} {a b : List Nat} (e : Ex H H') (h : Rws H rs n a b) : Rws H' rs n a b := ⟨h.1, fun i r hr => e _ _ (h.2 i r hr)⟩
theorem rowsAt_up (a b : List Nat) : Up (RowsAt a b) := fun _ _ _ e ⟨p, rs, hv, hp, h⟩ => ⟨p, rs, hv, e _ _ hp, rws_up e h⟩
def sp_need_word (K : PySem.W.Frag) (C : Addr) : Sp := fun vs H Q E => ∃ v, vs = [v] ∧ Any v H ∧ (IsWd v → RetV .non H Q) ∧ (¬ IsWd v → RetE C H E)
def sp_first_row (K : PySem.W.Frag) : Sp := fun vs H Q _ => ∃ w, vs = [tx w] ∧ w.length ≤ 1000 ∧ RetL (rowV id (w.length + 1)) H Q
def sp_next_row (K : PySem.W.Frag) : Sp := fun vs H Q _ => ∃ p f c w, vs = [.ref p, tx [c], tx w] ∧ SqL K H p (rowV f (w.length + 1)) ∧ w.length ≤ 1000 ∧ RetL (rowV (nxt f c w) (w.length + 1)) H Q
def sp_rows_of (K : PySem.W.Frag) : Sp := fun vs H Q _ => ∃ a b, vs = [tx a, tx b] ∧ a.length ≤ 1000 ∧ b.length ≤ 1000 ∧ RetG (RowsAt a b) H Q
def sp_table (K : PySem.W.Frag) (C : Addr) : Sp := fun vs H Q E => ∃ x y, vs = [x, y] ∧ Any x H ∧ Any y H ∧ (∀ a b, x = tx a → y = tx b → isW a = true → isW b = true → RetG (RowsAt a b) H Q) ∧ (¬ (IsWd x ∧ IsWd y) → RetE C H E)
/- need_word(thing): slots 0:thing -/
def T_need_word (K : PySem.W.Frag) (C_BadWord : Addr) (E : XK) : TS :=
 (tIfS (tNot (tB (tCall (sp_is_word K) [] E0 (tCons (tVar 0) tNil))))
 (tRaise E (.ref C_BadWord)) tNext)
def n_need_word : Nat := 1
/- first_row(word): slots 0:word -/
def T_first_row (K : PySem.W.Frag) : TS :=
 (tRet (tLstRg (tRg1 (tOp nAdd (tCB nLenS (tCons (tVar 0) tNil)) (tC (.int 1))))))
def n_first_row : Nat := 1
/- next_row(row, letter, word): slots 0:row 1:letter 2:word 3:found 4:at 5:straight -/
def T_next_row (K : PySem.W.Frag) : TS :=
 (tSeq (tAsg (tLst (tCons (tOp nAdd (tOp (nIxL K) (tVar 0) (tC (.int 0))) (tC (.int 1))) tNil)) (gName 3))
 (tSeq (tFor (iRng1 (tCons (tCB nLenS (tCons (tVar 2) tNil)) tNil)) (gName 4)
 (tSeq (tAsg (tOp (nIxL K) (tVar 0) (tVar 4)) (gName 5))
 (tSeq (tIfS (tTest (tOp nNe (tOp nIxS (tVar 2) (tVar 4)) (tVar 1)))
 (tAug 5 (tC (.int 1)) (ipI (fun i j => i + j))) tNext)
 (tDrop (tBM K "list" rAppend (tVar 3) (tCons (tCB nMin3 (tCons (tVar 5) (tCons (tOp nAdd (tOp (nIxL K) (tVar 0) (tOp nAdd (tVar 4) (tC (.int 1)))) (tC (.int 1))) (tCons (tOp nAdd (tOp (nIxL K) (tVar 3) (tVar 4)) (tC (.int 1))) tNil)))) tNil))))))
 (tRet (tVar 3))))
def n_next_row : Nat := 6
/- rows_of(one, other): slots 0:one 1:other 2:found 3:letter -/
def T_rows_of (K : PySem.W.Frag) : TS :=
 (tSeq (tAsg (tLst (tCons (tCall (sp_first_row K) [] E0 (tCons (tVar 1) tNil)) tNil)) (gName 2))
 (tSeq (tFor (iStr (tVar 0)) (gName 3)
 (tDrop (tBM K "list" rAppend (tVar 2) (tCons (tCall (sp_next_row K) [] E0 (tCons (tOp (nIxL K) (tVar 2) (tUn nNeg (tC (.int 1)))) (tCons (tVar 3) (tCons (tVar 1) tNil)))) tNil))))
 (tRet (tVar 2))))
def n_rows_of : Nat := 4
/- table(one, other): slots 0:one 1:other -/
def T_table (K : PySem.W.Frag) (C_BadWord : Addr) (E : XK) : TS :=
 (tSeq (tDrop (tCall (sp_need_word K C_BadWord) [] E (tCons (tVar 0) tNil)))
 (tSeq (tDrop (tCall (sp_need_word K C_BadWord) [] E (tCons (tVar 1) tNil)))
 (tRet (tCall (sp_rows_of K) [] E0 (tCons (tVar 0) (tCons (tVar 1) tNil))))))
def n_table : Nat := 2
theorem l_need_word {K C vs H Q E} (h : sp_need_word K C vs H Q E) : vs.length = 1 := by obtain ⟨v, rfl, _⟩ := h; rfl
theorem l_first_row {K vs H Q E} (h : sp_first_row K vs H Q E) : vs.length = 1 := by obtain ⟨v, rfl, _⟩ := h; rfl
theorem l_next_row {K vs H Q E} (h : sp_next_row K vs H Q E) : vs.length = 3 := by obtain ⟨_, _, _, _, rfl, _⟩ := h; rfl
theorem l_rows_of {K vs H Q E} (h : sp_rows_of K vs H Q E) : vs.length = 2 := by obtain ⟨_, _, rfl, _⟩ := h; rfl
theorem l_table {K C vs H Q E} (h : sp_table K C vs H Q E) : vs.length = 2 := by obtain ⟨_, _, rfl, _⟩ := h; rfl
section
variable {K : PySem.W.Frag} {vs : List V} {H : Hp} {Q : VK} {E : XK} {C : Addr} {σ : L2.St} {ta tb tc : TE}
theorem e_is_word {v : V} (h : Ev ta σ H v) (hv : Any v H) : ∃ b, Ev (tCall (sp_is_word K) [] E0 (tCons ta tNil)) σ H (.bl b) ∧ (b = true ↔ IsWd v) := by
  rcases hv with ⟨w, rfl, hw⟩ | ho
  · refine ⟨isW w, ev_call (ea_cons h ea_nil) fun H1 e Q q E => ⟨_, rfl, .inl ⟨w, rfl, hw, fun H2 e2 => q H2 e2⟩⟩, fun hh => ⟨w, rfl, hh⟩, ?_⟩
    rintro ⟨u, e, hu⟩
    rw [tx_inj.mp e]
    exact hu
  · refine ⟨false, ev_call (ea_cons h ea_nil) fun H1 e Q q E => ⟨_, rfl, .inr ⟨odd_up _ _ _ e ho, fun H2 e2 => q H2 e2⟩⟩, fun hh => (by cases hh), ?_⟩
    rintro ⟨u, rfl, hu⟩
    rcases ho with h | ⟨i, h⟩ | ⟨b, h⟩ | ⟨p, h, _⟩ <;> cases h
theorem R_need_word (h : sp_need_word K C vs H Q E) : T_need_word K C E (fin Q) (slots n_need_word vs) H := by
  obtain ⟨v, rfl, hv, kQ, kE⟩ := h
  show T_need_word K C E (fin Q) [some v] H
  unfold T_need_word
  obtain ⟨b, hb, hi⟩ := e_is_word (K := K) (ta := tVar 0) (σ := [some v]) (ev_var rfl) hv
  refine s_when (et_not (et_B hb)) (fun hh H1 e1 => ?_) (fun hh H1 e1 => ?_)
  · exact raise_ok (kE fun hw => by rw [hi.mpr hw] at hh; cases hh) e1
  · exact kQ (hi.mp (by simpa using hh)) _ e1
theorem rgV_row (n : Nat) : rgV 0 ((n : Int) + 1) = rowV id (n + 1) := by
  unfold rgV rowV
  have e : ((n : Int) + 1 - 0).toNat = n + 1 := by omega
  rw [e]
  exact List.map_congr_left fun j _ => by rw [Int.zero_add]; rfl
theorem R_first_row (h : sp_first_row K vs H Q E) : T_first_row K (fin Q) (slots n_first_row vs) H := by
  obtain ⟨w, rfl, hw, k⟩ := h
  show T_first_row K (fin Q) [some (tx w)] H
  unfold T_first_row
  refine s_retL (xs := rowV id (w.length + 1)) (fun H0 e Q q => ?_) fun p H1 hp e h1 => k p H1 hp e h1
  exact e_add (e_lenS (ev_var rfl) (by omega)) ev_c H0 e _ fun H1 e1 => ⟨_, rfl, RgOk.of_le (by decide) (by omega) (by decide) (by omega), fun p hp => by
    rw [rgV_row]
    exact q p _ (fresh_back e1 hp) (e1.trans (Ex.new hp)) upd_same⟩
theorem R_next_row (h : sp_next_row K vs H Q E) : T_next_row K (fin Q) (slots n_next_row vs) H := by
  obtain ⟨p, f, c, w, rfl, hp, hw, k⟩ := h
  show T_next_row K (fin Q) [some (.ref p), some (tx [c]), some (tx w), none, none, none] H
  unfold T_next_row
  refine q_asgL (el_lst (ea_cons (e_add (e_ixL (ev_var rfl) ev_c hp (rowV_at (j := 0) rfl (by omega))) ev_c) ea_nil) (by simp)) fun l H1 hl e1 hl1 => ?_
  refine q_forR1 (n := (w.length : Int)) (ea_cons (e_lenS (ev_var rfl) (by omega)) ea_nil) (by omega) (fun i σ H' => (∃ x4 x5, σ = [some (.ref p), some (tx [c]), some (tx w), some (.ref l), x4, x5]) ∧ Ex H H' ∧ H' l = some (.lst (rowV (nxt f c w) (i + 1)))) (fun H2 e2 => ⟨⟨_, _, rfl⟩, e1.trans e2, e2 _ _ hl1⟩) (fun i σ H' hi hp' => ?_) (fun σ H' hp' => ?_)
  · obtain ⟨⟨x4, x5, rfl⟩, e, hl'⟩ := hp'
    have hi' : i < w.length := by omega
    refine q_asg (e_ixL (ev_var rfl) (ev_var rfl) (ex_l e hp) (rowV_at (j := i) rfl (by omega))) fun H2 e2 => ?_
    have last : ∀ (s : Int) H3, Ex H H3 → H3 l = some (.lst (rowV (nxt f c w) (i + 1))) → s = ((f i + if w[i]? = some c then 0 else 1 : Nat) : Int) →
        (tDrop (tBM K "list" rAppend (tVar 3) (tCons (tCB nMin3 (tCons (tVar 5) (tCons (tOp nAdd (tOp (nIxL K) (tVar 0) (tOp nAdd (tVar 4) (tC (.int 1)))) (tC (.int 1))) (tCons (tOp nAdd (tOp (nIxL K) (tVar 3) (tVar 4)) (tC (.int 1))) tNil)))) tNil)))
        { nx := fun σ H' => (∃ x4 x5, σ = [some (.ref p), some (tx [c]), some (tx w), some (.ref l), x4, x5]) ∧ Ex H H' ∧ H' l = some (.lst (rowV (nxt f c w) (i + 1 + 1))), rt := Q, ct := fun σ H' => (∃ x4 x5, σ = [some (.ref p), some (tx [c]), some (tx w), some (.ref l), x4, x5]) ∧ Ex H H' ∧ H' l = some (.lst (rowV (nxt f c w) (i + 1 + 1))), bk := (tRet (tVar 3)) (fin Q) }
        [some (.ref p), some (tx [c]), some (tx w), some (.ref l), some (.int (i : Int)), some (.int s)] H3 := by
      intro s H3 e3 h3 hs
      refine s_app h3 (ev_var rfl) (e_min3 (ev_var rfl) (e_add (e_ixL (ev_var rfl) (e_add (ev_var rfl) ev_c) (ex_l e3 hp) (rowV_at (j := i + 1) (by omega) (by omega))) ev_c) (e_add (e_ixL (ev_var rfl) (ev_var rfl) (sq_of h3) (rowV_at (j := i) rfl (by omega))) ev_c)) (by rw [rowV_len]; omega) fun H4 e4 => ?_
      refine ⟨⟨_, _, rfl⟩, Ex.mut (e3.trans e4) hl, ?_⟩
      rw [upd_same, rowV_snoc _ (i + 1), hs]
      have en : min (min ((f i + if w[i]? = some c then 0 else 1 : Nat) : Int) ((f (i + 1) : Int) + 1)) ((nxt f c w i : Int) + 1) = ((nxt f c w (i + 1) : Nat) : Int) := by rw [nxt]; omega
      rw [en]
    have hc : w[i]? = some w[i] := List.getElem?_eq_getElem hi'
    refine Evl.q_when (b := !decide (w[i] = c)) (et_test (e_ne (e_ixS (ev_var rfl) (ev_var rfl) (by omega) (atI_nat hc)) (ev_var rfl) (by
      have e : decide (w[i] = c) = decide ([w[i]] = [c]) := dec_eq (by simp)
      rw [e]
      exact .ss))) (fun hh H3 e3 => ?_) (fun hh H3 e3 => ?_)
    · have hne : ¬ w[i] = c := by simpa using hh
      refine s_aug rfl ev_c fun H4 e4 => ?_
      exact last _ H4 (((e.trans e2).trans e3).trans e4) (e4 _ _ (e3 _ _ (e2 _ _ hl'))) (by rw [hc, if_neg (fun z => hne (Option.some.inj z))]; omega)
    · have he : w[i] = c := by simpa using hh
      exact last _ H3 ((e.trans e2).trans e3) (e3 _ _ (e2 _ _ hl')) (by rw [hc, if_pos (by rw [he])]; omega)
  · obtain ⟨⟨x4, x5, rfl⟩, e, hl'⟩ := hp'
    exact s_ret (ev_var rfl) fun H2 e2 => k l _ hl (e.trans e2) (e2 _ _ hl')
theorem el_first_row {w : List Nat} (h : Ev ta σ H (tx w)) (hw : w.length ≤ 1000) : EvL (tCall (sp_first_row K) [] E0 (tCons ta tNil)) σ H (rowV id (w.length + 1)) := el_call (ea_cons h ea_nil) fun H1 e Q q E => ⟨w, rfl, hw, q⟩
theorem el_next_row {p : Addr} {f : Nat → Nat} {c : Nat} {w : List Nat} (ha : Ev ta σ H (.ref p)) (hb : Ev tb σ H (tx [c])) (hc : Ev tc σ H (tx w)) (hp : SqL K H p (rowV f (w.length + 1))) (hw : w.length ≤ 1000) :
    EvL (tCall (sp_next_row K) [] E0 (tCons ta (tCons tb (tCons tc tNil)))) σ H (rowV (nxt f c w) (w.length + 1)) := el_call (ea_cons ha (ea_cons hb (ea_cons hc ea_nil))) fun H1 e Q q E => ⟨p, f, c, w, rfl, ex_l e hp, hw, q⟩
def IsRow (f : Nat → Nat) (n : Nat) (v : V) (H : Hp) : Prop := ∃ r, v = .ref r ∧ H r = some (.lst (rowV f n))
theorem isRow_up (f : Nat → Nat) (n : Nat) : Up (IsRow f n) := fun _ _ _ e ⟨r, hv, h⟩ => ⟨r, hv, e _ _ h⟩
theorem R_rows_of (h : sp_rows_of K vs H Q E) : T_rows_of K (fin Q) (slots n_rows_of vs) H := by
  obtain ⟨a, b, rfl, ha, hb, k⟩ := h
  show T_rows_of K (fin Q) [some (tx a), some (tx b), none, none] H
  unfold T_rows_of
  refine q_asgAll (isRow_up id (b.length + 1)) (all_cons (isRow_up _ _) (g_lst (el_first_row (ev_var rfl) hb) fun r H2 _ h => ⟨r, rfl, h⟩) all_nil) (by decide) fun vs l H1 hl e1 hl1 hall hlen => ?_
  obtain ⟨v, rfl⟩ := List.length_eq_one_iff.mp hlen
  obtain ⟨r0, rfl, hr0⟩ := hall v (by simp)
  have hrl : r0 ≠ l := fun z => by
    rw [z, hl1] at hr0
    have e := congrArg (fun xs => xs[0]?) (HO.lst.inj (Option.some.inj hr0))
    have e2 : (rowV id (b.length + 1))[0]? = some (.int ((id 0 : Nat) : Int)) := rowV_get (by omega)
    rw [show ([V.ref r0] : List V)[0]? = some (.ref r0) from rfl, e2] at e
    cases e
  refine q_forS (ev_var rfl) (fun i σ H' => (∃ x3, σ = [some (tx a), some (tx b), some (.ref l), x3]) ∧ ∃ rs, H' l = some (.lst (rs.map V.ref)) ∧ Ex H (del H' l) ∧ Rws (del H' l) rs i a b)
    (fun H2 e2 => ⟨⟨_, rfl⟩, [r0], e2 _ _ hl1, ex_del hl (e1.trans e2), rfl, fun i r hr => ?_⟩) (fun i c σ H' hc hp => ?_) (fun σ H' hp => ?_)
  · cases i with
    | zero =>
      injection hr with hr
      subst hr
      rw [del_ne hrl, e2 _ _ hr0, rowV_congr (f := cell a b 0) (g := id) fun j _ => cell_0 a b j]
    | succ i => simp at hr
  · obtain ⟨⟨x3, rfl⟩, rs, hl', e, hr⟩ := hp
    have hi : i < a.length := (List.getElem?_eq_some_iff.mp hc).1
    obtain ⟨r, hri⟩ : ∃ r, rs[i]? = some r := ⟨_, List.getElem?_eq_getElem (by rw [hr.1]; omega)⟩
    have hrow := del_ex _ _ (hr.2 i r hri)
    have hat : atI (rs.map V.ref) (-1) = some (.ref r) := at_end (n := i) (by rw [List.length_map, hr.1]) (by rw [List.getElem?_map, hri]; rfl)
    refine s_appL hl' (ev_var rfl) (el_next_row (e_ixL (ev_var rfl) (e_neg ev_c) (sq_of hl') hat) (ev_var rfl) (ev_var rfl) (sq_of hrow) hb) (by rw [List.length_map, hr.1]; omega) fun p H2 hp e2 hp2 => ?_
    have hpl : p ≠ l := fun z => by
      rw [z, hl'] at hp
      cases hp
    refine ⟨⟨_, rfl⟩, rs ++ [p], by rw [upd_same, List.map_append]; rfl, ?_⟩
    rw [del_upd]
    have e' := del_mono (l := l) e2
    refine ⟨e.trans e', by rw [List.length_append, hr.1]; rfl, fun k q hk => ?_⟩
    rcases Nat.lt_or_ge k rs.length with hlt | hge
    · rw [List.getElem?_append_left hlt] at hk
      exact e' _ _ (hr.2 k q hk)
    · rw [List.getElem?_append_right hge] at hk
      have hk0 : k = rs.length := by
        rcases Nat.lt_or_ge (k - rs.length) 1 with h | h
        · omega
        · rw [List.getElem?_eq_none (by simpa using h)] at hk; cases hk
      subst hk0
      rw [Nat.sub_self] at hk
      injection hk with hk
      subst hk
      rw [del_ne hpl, hp2, hr.1, rowV_congr fun j _ => (cell_nxt hc j).symm]
  · obtain ⟨⟨x3, rfl⟩, rs, hl', e, hr⟩ := hp
    exact s_ret (ev_var rfl) fun H2 e2 => k _ _ ((e.trans del_ex).trans e2) ⟨l, rs, rfl, e2 _ _ hl', rws_up (del_ex.trans e2) hr⟩
theorem g_rows_of {a b : List Nat} (h1 : Ev ta σ H (tx a)) (h2 : Ev tb σ H (tx b)) (ha : a.length ≤ 1000) (hb : b.length ≤ 1000) : EvG (tCall (sp_rows_of K) [] E0 (tCons ta (tCons tb tNil))) σ H (RowsAt a b) :=
  g_call (ea_cons h1 (ea_cons h2 ea_nil)) fun H1 e Q q E => ⟨a, b, rfl, ha, hb, q⟩
theorem isW_le {w : List Nat} (h : isW w = true) : w.length ≤ 24 := (of_decide_eq_true h).1
/-- need_word(x), a statement of its own -/
theorem q_need_word {x : V} {D : Ends} {tz : TS} (h : Ev ta σ H x) (hx : Any x H) (k : IsWd x → ∀ H1, Ex H H1 → tz D σ H1) (kE : ¬ IsWd x → RetE C H E) : tSeq (tDrop (tCall (sp_need_word K C) [] E (tCons ta tNil))) tz D σ H :=
  ea_cons h ea_nil H (Ex.refl H) (fun vs H1 => sp_need_word K C (vs ++ []) H1 (fun _ H2 => tz D σ H2) E) fun H1 e1 => ⟨x, rfl, any_up _ _ _ e1 hx, fun hw H2 e2 => k hw H2 (e1.trans e2), fun hw H2 e2 => kE hw H2 (e1.trans e2)⟩
theorem R_table (h : sp_table K C vs H Q E) : T_table K C E (fin Q) (slots n_table vs) H := by
  obtain ⟨x, y, rfl, hx, hy, k, kE⟩ := h
  show T_table K C E (fin Q) [some x, some y] H
  unfold T_table
  refine q_need_word (ev_var rfl) hx (fun hxw H1 e1 => ?_) (fun hxw => kE fun z => hxw z.1)
  refine q_need_word (ev_var rfl) (any_up _ _ _ e1 hy) (fun hyw H2 e2 => ?_) (fun hyw H2 e2 => kE (fun z => hyw z.2) H2 (e1.trans e2))
  obtain ⟨a, rfl, ha⟩ := hxw
  obtain ⟨b, rfl, hb⟩ := hyw
  have := isW_le ha
  have := isW_le hb
  exact s_retG (g_rows_of (ev_var rfl) (ev_var rfl) (by omega) (by omega)) fun v H3 e3 hv => k a b rfl rfl ha hb v H3 ((e1.trans e2).trans e3) hv
/-- a call of table with two words -/
theorem g_table {a b : List Nat} (h1 : Ev ta σ H (tx a)) (h2 : Ev tb σ H (tx b)) (ha : isW a = true) (hb : isW b = true) : EvG (tCall (sp_table K C) [] E (tCons ta (tCons tb tNil))) σ H (RowsAt a b) :=
  g_call (ea_cons h1 (ea_cons h2 ea_nil)) fun H1 e Q q E => ⟨_, _, rfl, .inl ⟨a, rfl, by have := isW_le ha; omega⟩, .inl ⟨b, rfl, by have := isW_le hb; omega⟩, fun a' b' e1 e2 _ _ => by
    rw [← tx_inj.mp e1, ← tx_inj.mp e2]
    exact q, fun hn => absurd ⟨⟨a, rfl, ha⟩, ⟨b, rfl, hb⟩⟩ hn⟩
/-- rows[i] -/
theorem g_row {a b : List Nat} {v : V} {i : Nat} {z : Int} (ha : Ev ta σ H v) (hv : RowsAt a b v H) (hb : Ev tb σ H (.int z)) (e : z = (i : Int)) (hi : i ≤ a.length) : ∃ r, Ev (tOp (nIxL K) ta tb) σ H (.ref r) ∧ H r = some (.lst (rowV (cell a b i) (b.length + 1))) := by
  obtain ⟨p, rs, rfl, hp, hr⟩ := hv
  obtain ⟨r, hri⟩ : ∃ r, rs[i]? = some r := ⟨_, List.getElem?_eq_getElem (by rw [hr.1]; omega)⟩
  subst e
  exact ⟨r, e_ixL ha hb (sq_of hp) (atI_nat (by rw [List.getElem?_map, hri]; rfl)), hr.2 i r hri⟩
/-- rows[i][j] -/
theorem e_cell {a b : List Nat} {v : V} {i j : Nat} {z z' : Int} (ha : Ev ta σ H v) (hv : RowsAt a b v H) (hb : Ev tb σ H (.int z)) (e : z = (i : Int)) (hi : i ≤ a.length) (hc : Ev tc σ H (.int z')) (e' : z' = (j : Int)) (hj : j ≤ b.length) :
    Ev (tOp (nIxL K) (tOp (nIxL K) ta tb) tc) σ H (.int (cell a b i j : Int)) := by
  obtain ⟨r, h1, h2⟩ := g_row (K := K) ha hv hb e hi
  exact e_ixL h1 hc (sq_of h2) (rowV_at e' (by omega))
end
end Nw

set_option Elab.async false
set_option linter.all false
set_option maxRecDepth 100000
/-! Nw.Two: two words of a script -/
namespace Nw
open PySem L2 Evl
def TwoW (v : V) (H : Hp) : Prop := ∃ p x y, v = .ref p ∧ H p = some (.tup [tx x, tx y]) ∧ isW x = true ∧ isW y = true
def sp_law_two (K : PySem.W.Frag) : Sp := fun vs H Q _ => ∃ (a : Addr) (ns : List Int), vs = [.ref a] ∧ SqL K H a (ns.map V.int) ∧ ns.length ≤ 63 ∧ RetG TwoW H Q
/- _law_two(_law_script): slots 0:_law_script 1:_law_mode 2:_law_most 3:_law_one 4:_law_other -/
def T_law_two (K : PySem.W.Frag) : TS :=
 (tSeq (tAsg (tCall (sp_law_at K) [] E0 (tCons (tVar 0) (tCons (tC (.int 0)) tNil))) (gName 1))
 (tSeq (tAsg (tC (.int 8)) (gName 2))
 (tSeq (tIfS (tTest (tOp nEq (tOp nMod (tCall (sp_law_at K) [] E0 (tCons (tVar 0) (tCons (tC (.int 1)) tNil))) (tC (.int 9))) (tC (.int 4))))
 (tAsg (tC (.int 24)) (gName 2)) tNext)
 (tSeq (tAsg (tCall (sp_law_word K) [] E0 (tCons (tVar 1) (tCons (tCall (sp_law_at K) [] E0 (tCons (tVar 0) (tCons (tC (.int 2)) tNil))) (tCons (tVar 2) tNil)))) (gName 3))
 (tSeq (tAsg (tCall (sp_law_word K) [] E0 (tCons (tVar 1) (tCons (tCall (sp_law_at K) [] E0 (tCons (tVar 0) (tCons (tC (.int 3)) tNil))) (tCons (tVar 2) tNil)))) (gName 4))
 (tSeq (tIfS (tTest (tOp nGt (tOp nMod (tOp nDiv (tCall (sp_law_at K) [] E0 (tCons (tVar 0) (tCons (tC (.int 1)) tNil))) (tC (.int 9))) (tC (.int 3))) (tC (.int 0))))
 (tAsg (tCall (sp_law_bent K) [] E0 (tCons (tVar 1) (tCons (tCall (sp_law_bent K) [] E0 (tCons (tVar 1) (tCons (tVar 3) (tCons (tCall (sp_law_at K) [] E0 (tCons (tVar 0) (tCons (tC (.int 3)) tNil))) tNil)))) (tCons (tCall (sp_law_at K) [] E0 (tCons (tVar 0) (tCons (tC (.int 4)) tNil))) tNil)))) (gName 4)) tNext)
 (tRet (tTup (tCons (tVar 3) (tCons (tVar 4) tNil))))))))))
def n_law_two : Nat := 5
theorem l_law_two {K vs H Q E} (h : sp_law_two K vs H Q E) : vs.length = 1 := by obtain ⟨_, _, rfl, _⟩ := h; rfl
section
variable {K : PySem.W.Frag} {vs : List V} {H : Hp} {Q : VK} {E : XK} {σ : L2.St} {ta tb tc : TE}
theorem word24 (v : V) (h : Word 24 v) : ∃ w, v = tx w ∧ isW w = true := by
  obtain ⟨w, rfl, lo, hl⟩ := h
  exact ⟨w, rfl, isW_good hl lo⟩
theorem word_le {m n : Nat} {v : V} (h : Word m v) (hm : m ≤ n) : Word n v := by
  obtain ⟨w, rfl, lo, hl⟩ := h
  exact ⟨w, rfl, lo, Nat.le_trans hl hm⟩
theorem g_bent {m c : Int} (ha : Ev ta σ H (.int m)) (hw : EvG tb σ H fun v _ => Word 24 v) (hc : Ev tc σ H (.int c)) : EvG (tCall (sp_law_bent K) [] E0 (tCons ta (tCons tb (tCons tc tNil)))) σ H (fun v _ => Word 24 v) := fun H0 e Q q =>
  ha H0 e _ fun H1 e1 => hw H1 (e.trans e1) _ fun v H2 e2 hv => hc H2 ((e.trans e1).trans e2) _ fun H3 e3 => by
    obtain ⟨w, rfl, lo, hl⟩ := hv
    exact ⟨m, w, c, rfl, lo, hl, fun v H4 e4 p => q v H4 (((e1.trans e2).trans e3).trans e4) p⟩
theorem R_law_two (h : sp_law_two K vs H Q E) : T_law_two K (fin Q) (slots n_law_two vs) H := by
  obtain ⟨a, ns, rfl, hS, hn, k⟩ := h
  show T_law_two K (fin Q) [some (.ref a), none, none, none, none] H
  unfold T_law_two
  refine q_asg (e_law_at (ev_var rfl) ev_c hS (by decide) hn) fun H1 e1 => ?_
  generalize cellAt ns 0 = m
  refine q_asg ev_c fun H2 e2 => ?_
  have hS2 := ex_l (e1.trans e2) hS
  have rest : ∀ (z : Int) H3, Ex H H3 → (z = 8 ∨ z = 24) → (tSeq (tAsg (tCall (sp_law_word K) [] E0 (tCons (tVar 1) (tCons (tCall (sp_law_at K) [] E0 (tCons (tVar 0) (tCons (tC (.int 2)) tNil))) (tCons (tVar 2) tNil)))) (gName 3))
 (tSeq (tAsg (tCall (sp_law_word K) [] E0 (tCons (tVar 1) (tCons (tCall (sp_law_at K) [] E0 (tCons (tVar 0) (tCons (tC (.int 3)) tNil))) (tCons (tVar 2) tNil)))) (gName 4))
 (tSeq (tIfS (tTest (tOp nGt (tOp nMod (tOp nDiv (tCall (sp_law_at K) [] E0 (tCons (tVar 0) (tCons (tC (.int 1)) tNil))) (tC (.int 9))) (tC (.int 3))) (tC (.int 0))))
 (tAsg (tCall (sp_law_bent K) [] E0 (tCons (tVar 1) (tCons (tCall (sp_law_bent K) [] E0 (tCons (tVar 1) (tCons (tVar 3) (tCons (tCall (sp_law_at K) [] E0 (tCons (tVar 0) (tCons (tC (.int 3)) tNil))) tNil)))) (tCons (tCall (sp_law_at K) [] E0 (tCons (tVar 0) (tCons (tC (.int 4)) tNil))) tNil)))) (gName 4)) tNext)
 (tRet (tTup (tCons (tVar 3) (tCons (tVar 4) tNil))))))) (fin Q) [some (.ref a), some (.int m), some (.int z), none, none] H3 := by
    intro z H3 e3 hz
    have hz' : 0 ≤ z ∧ z ≤ 60 ∧ z.toNat ≤ 24 := by rcases hz with rfl | rfl <;> decide
    refine q_asgG (g_word (ev_var rfl) (e_law_at (ev_var rfl) ev_c (ex_l e3 hS) (by decide) hn) (ev_var rfl) hz'.1 hz'.2.1) fun v H4 e4 hv => ?_
    refine q_asgG (g_word (ev_var rfl) (e_law_at (ev_var rfl) ev_c (ex_l (e3.trans e4) hS) (by decide) hn) (ev_var rfl) hz'.1 hz'.2.1) fun u H5 e5 hu => ?_
    have h1 := word_le hv hz'.2.2
    have e35 := (e3.trans e4).trans e5
    have fin' : ∀ y H6, Ex H H6 → Word 24 y → (tRet (tTup (tCons (tVar 3) (tCons (tVar 4) tNil)))) (fin Q) [some (.ref a), some (.int m), some (.int z), some v, some y] H6 := by
      intro y H6 e6 hy
      refine s_retU (eu_tup (ea_cons (ev_var rfl) (ea_cons (ev_var rfl) ea_nil)) (by simp)) fun p H7 hp e7 h7 => ?_
      obtain ⟨x, rfl, hx⟩ := word24 v h1
      obtain ⟨u', rfl, hu'⟩ := word24 y hy
      exact k _ _ (e6.trans e7) ⟨p, x, u', rfl, h7, hx, hu'⟩
    refine Evl.q_when (et_test (e_gt (e_mod (e_div (e_law_at (ev_var rfl) ev_c (ex_l e35 hS) (by decide) hn) ev_c (by decide)) ev_c (by decide)) ev_c)) (fun _ H6 e6 => ?_) (fun _ H6 e6 => ?_)
    · have hS6 := ex_l (e35.trans e6) hS
      refine s_asgG (g_bent (ev_var rfl) (g_bent (ev_var rfl) (g_ev (fun _ _ _ _ h => h) (ev_var rfl) h1) (e_law_at (ev_var rfl) ev_c hS6 (by decide) hn)) (e_law_at (ev_var rfl) ev_c hS6 (by decide) hn)) fun y H7 e7 hy => ?_
      exact fin' y H7 ((e35.trans e6).trans e7) hy
    · exact fin' u H6 (e35.trans e6) (word_le hu hz'.2.2)
  refine q_when (et_test (e_eq (e_mod (e_law_at (ev_var rfl) ev_c hS2 (by decide) hn) ev_c (by decide)) ev_c .ii)) (fun _ H3 e3 => ?_) (fun _ H3 e3 => ?_)
  · exact s_asg ev_c fun H4 e4 => rest 24 H4 (((e1.trans e2).trans e3).trans e4) (.inr rfl)
  · exact rest 8 H3 ((e1.trans e2).trans e3) (.inl rfl)
/-- one, other = _law_two(script) -/
theorem q_two {a : Addr} {ns : List Int} {i j : Nat} {D : Ends} {tz : TS} (h : Ev ta σ H (.ref a)) (hS : SqL K H a (ns.map V.int)) (hn : ns.length ≤ 63)
    (k : ∀ x y H1, Ex H H1 → isW x = true → isW y = true → tz D ((σ.set i (some (tx x))).set j (some (tx y))) H1) : tSeq (tAsg (tCall (sp_law_two K) [] E0 (tCons ta tNil)) (gTup K 2 (gCons (gName i) (gCons (gName j) gNil)))) tz D σ H :=
  g_call (P := TwoW) (ea_cons h ea_nil) (fun H1 e Q q E => ⟨a, ns, rfl, ex_l e hS, hn, q⟩) H (Ex.refl H) _ fun v H1 e1 hv => by
    obtain ⟨p, x, y, rfl, hp, hx, hy⟩ := hv
    exact ⟨p, _, rfl, SqT.of hp, rfl, _, _, rfl, _, _, rfl, rfl, k x y H1 e1 hx hy⟩
end
end Nw

set_option Elab.async false
set_option linter.all false
set_option maxRecDepth 100000
/-! Nw.Way: distance, steps_of, way; the law's own _law_led, _law_next, _law_far -/
namespace Nw
open PySem L2 Evl
/-! ### one step backwards -/
section
variable {a b : List Nat} {h f x y : Nat}
theorem glue_h (ha : h ≤ a.length) (b : List Nat) : (a.take h ++ b).take h = a.take h := by
  rw [List.take_append_of_le_length (by rw [List.length_take]; omega), List.take_take, Nat.min_self]
theorem glue_h' (ha : h ≤ a.length) (b : List Nat) : (a.take h ++ b).drop h = b := by
  rw [List.drop_append_of_le_length (by rw [List.length_take]; omega), List.drop_of_length_le (by rw [List.length_take]; omega)]
  rfl
theorem glue_1 (ha : a[h]? = some x) (b : List Nat) : a.take (h + 1) ++ b = a.take h ++ (x :: b) := by rw [take_snoc ha, List.append_assoc]; rfl
theorem drop_at (hb : b[f]? = some y) : b.drop f = y :: b.drop (f + 1) := by
  obtain ⟨hlt, rfl⟩ := List.getElem?_eq_some_iff.mp hb
  exact List.drop_eq_getElem_cons hlt
theorem same_step (ha : a[h]? = some x) (hb : b[f]? = some x) : a.take (h + 1) ++ b.drop (f + 1) = a.take h ++ b.drop f := by rw [glue_1 ha, drop_at hb]
theorem low_get (lo : Low b) (hb : b[f]? = some y) : 97 ≤ y ∧ y < 123 := lo y (List.mem_of_getElem? hb)
theorem good_turn (ha : a[h]? = some x) (hb : b[f]? = some y) (hn : x ≠ y) (lo : Low b) : Good (a.take (h + 1) ++ b.drop (f + 1)) [tx wTurn, .int (h : Int), tx [y]] (a.take h ++ b.drop f) := by
  have hl := (List.getElem?_eq_some_iff.mp ha).1
  have g := Good.turn (w := a.take (h + 1) ++ b.drop (f + 1)) (i := (h : Int)) (c := y) (by omega) (by rw [List.length_append, List.length_take]; omega) (low_get lo hb) (by
    rw [Int.toNat_natCast, glue_1 ha, List.getElem?_append_right (by rw [List.length_take]; omega), List.length_take, Nat.min_eq_left (by omega), Nat.sub_self]
    exact fun z => hn (Option.some.inj z))
  have e1 : (h : Int).toNat = h := Int.toNat_natCast h
  have e2 : ((h : Int) + 1).toNat = h + 1 := by omega
  rw [e1, e2, glue_h' hl, glue_1 ha, glue_h (by omega), List.append_assoc] at g
  rw [drop_at hb, glue_1 ha]
  exact g
theorem good_cut (ha : a[h]? = some x) (b : List Nat) : Good (a.take (h + 1) ++ b) [tx wCut, .int (h : Int)] (a.take h ++ b) := by
  have hl := (List.getElem?_eq_some_iff.mp ha).1
  have g := Good.cut (w := a.take (h + 1) ++ b) (i := (h : Int)) (by omega) (by rw [List.length_append, List.length_take]; omega)
  have e1 : (h : Int).toNat = h := Int.toNat_natCast h
  have e2 : ((h : Int) + 1).toNat = h + 1 := by omega
  rw [e1, e2, glue_h' hl, glue_1 ha, glue_h (by omega)] at g
  rw [glue_1 ha]
  exact g
theorem good_put (ha : h ≤ a.length) (hb : b[f]? = some y) (lo : Low b) : Good (a.take h ++ b.drop (f + 1)) [tx wPut, .int (h : Int), tx [y]] (a.take h ++ b.drop f) := by
  have g := Good.put (w := a.take h ++ b.drop (f + 1)) (i := (h : Int)) (c := y) (by omega) (by rw [List.length_append, List.length_take]; omega) (low_get lo hb)
  have e1 : (h : Int).toNat = h := Int.toNat_natCast h
  rw [e1, glue_h ha, glue_h' ha, List.append_assoc] at g
  rw [drop_at hb]
  exact g
end
/-- the changes found so far -/
structure Gone (H0 : Hp) (a : List Nat) (cs : List V) (w : List Nat) (l : Addr) (H : Hp) : Prop where
  new : H0 l = none
  at_ : H l = some (.lst cs)
  ex : Ex H0 H
  led : LedV (del H l) a cs w
  chg : ∀ c ∈ cs, Chg c (del H l)
theorem Gone.up {H0 H H' : Hp} {a w : List Nat} {cs : List V} {l : Addr} (e : Ex H H') (g : Gone H0 a cs w l H) : Gone H0 a cs w l H' :=
  ⟨g.new, e _ _ g.at_, g.ex.trans e, ledV_up (del_mono e) g.led, fun c hc => chg_up _ _ _ (del_mono e) (g.chg c hc)⟩
theorem Gone.snoc {H0 H H' : Hp} {a w w' : List Nat} {cs xs : List V} {l p : Addr} (g : Gone H0 a cs w l H) (e : Ex H H') (hp : H p = none) (hp' : H' p = some (.tup xs)) (hg : Good w xs w') : Gone H0 a (cs ++ [.ref p]) w' l (upd H' l (.lst (cs ++ [.ref p]))) := by
  have g' := g.up e
  have hne : p ≠ l := fun z => by rw [z, g.at_] at hp; cases hp
  have hd : del H' l p = some (.tup xs) := by rw [del_ne hne]; exact hp'
  refine ⟨g.new, upd_same, Ex.mut g'.ex g.new, ?_, fun c hc => ?_⟩
  · rw [del_upd]
    exact ledV_snoc g'.led ⟨xs, ⟨p, rfl, hd⟩, hg⟩
  · rw [del_upd]
    rcases List.mem_append.mp hc with hc | hc
    · exact g'.chg c hc
    · rw [List.mem_singleton] at hc
      subst hc
      exact good_chg hd hg
def WayV (a b : List Nat) (v : V) (H : Hp) : Prop := ∃ p cs, v = .ref p ∧ H p = some (.lst cs) ∧ LedV H a cs b ∧ cs.length = dist a b ∧ ∀ c ∈ cs, Chg c H
theorem wayV_up (a b : List Nat) : Up (WayV a b) := fun _ _ _ e ⟨p, cs, hv, hp, hl, hn, hc⟩ => ⟨p, cs, hv, e _ _ hp, ledV_up e hl, hn, fun c h => chg_up _ _ _ e (hc c h)⟩
def sp_distance (K : PySem.W.Frag) (C : Addr) : Sp := fun vs H Q E => ∃ x y, vs = [x, y] ∧ Any x H ∧ Any y H ∧ (∀ a b, x = tx a → y = tx b → isW a = true → isW b = true → RetV (.int (dist a b : Int)) H Q) ∧ (¬ (IsWd x ∧ IsWd y) → RetE C H E)
def sp_steps_of (K : PySem.W.Frag) : Sp := fun vs H Q _ => ∃ a b, vs = [tx a, tx b] ∧ isW a = true ∧ isW b = true ∧ (∀ p H2, H p = none → Ex H H2 → WayV a b (.ref p) H2 → Q (.ref p) H2)
def sp_way (K : PySem.W.Frag) (C : Addr) : Sp := fun vs H Q E => ∃ x y, vs = [x, y] ∧ Any x H ∧ Any y H ∧ (∀ a b, x = tx a → y = tx b → isW a = true → isW b = true → ∀ p H2, H p = none → Ex H H2 → WayV a b (.ref p) H2 → Q (.ref p) H2) ∧ (¬ (IsWd x ∧ IsWd y) → RetE C H E)
def sp_law_led (K : PySem.W.Frag) : Sp := fun vs H Q _ => ∃ (w : List Nat) (p : Addr) (cs : List V) (w' : List Nat), vs = [tx w, .ref p] ∧ H p = some (.lst cs) ∧ w.length + cs.length ≤ 900 ∧ LedV H w cs w' ∧ (∀ c ∈ cs, Chg c H) ∧ RetV (tx w') H Q
def sp_law_next (K : PySem.W.Frag) : Sp := sp_next_row K
def sp_law_far (K : PySem.W.Frag) : Sp := fun vs H Q _ => ∃ a b, vs = [tx a, tx b] ∧ a.length ≤ 1000 ∧ b.length ≤ 1000 ∧ RetV (.int (dist a b : Int)) H Q
/- distance(one, other): slots 0:one 1:other -/
def T_distance (K : PySem.W.Frag) (C_BadWord : Addr) (E : XK) : TS :=
 (tRet (tOp (nIxL K) (tOp (nIxL K) (tCall (sp_table K C_BadWord) [] E (tCons (tVar 0) (tCons (tVar 1) tNil))) (tUn nNeg (tC (.int 1)))) (tUn nNeg (tC (.int 1)))))
def n_distance : Nat := 2
/- steps_of(one, other): slots 0:one 1:other 2:rows 3:high 4:far 5:found 6:here -/
def T_steps_of (K : PySem.W.Frag) : TS :=
 (tSeq (tAsg (tCall (sp_rows_of K) [] E0 (tCons (tVar 0) (tCons (tVar 1) tNil))) (gName 2))
 (tSeq (tPar 3 4 (tCons (tCB nLenS (tCons (tVar 0) tNil)) (tCons (tCB nLenS (tCons (tVar 1) tNil)) tNil)))
 (tSeq (tAsg (tLst tNil) (gName 5))
 (tSeq (tWhile (tOr (tTest (tOp nGt (tVar 3) (tC (.int 0)))) (tTest (tOp nGt (tVar 4) (tC (.int 0)))))
 (tSeq (tAsg (tOp (nIxL K) (tOp (nIxL K) (tVar 2) (tVar 3)) (tVar 4)) (gName 6))
 (tIfS (tAnd (tTest (tOp nGt (tVar 3) (tC (.int 0)))) (tAnd (tTest (tOp nGt (tVar 4) (tC (.int 0)))) (tAnd (tTest (tOp nEq (tOp nIxS (tVar 0) (tOp nSub (tVar 3) (tC (.int 1)))) (tOp nIxS (tVar 1) (tOp nSub (tVar 4) (tC (.int 1)))))) (tTest (tOp nEq (tVar 6) (tOp (nIxL K) (tOp (nIxL K) (tVar 2) (tOp nSub (tVar 3) (tC (.int 1)))) (tOp nSub (tVar 4) (tC (.int 1)))))))))
 (tPar 3 4 (tCons (tOp nSub (tVar 3) (tC (.int 1))) (tCons (tOp nSub (tVar 4) (tC (.int 1))) tNil))) (tIfS (tAnd (tTest (tOp nGt (tVar 3) (tC (.int 0)))) (tAnd (tTest (tOp nGt (tVar 4) (tC (.int 0)))) (tTest (tOp nEq (tVar 6) (tOp nAdd (tOp (nIxL K) (tOp (nIxL K) (tVar 2) (tOp nSub (tVar 3) (tC (.int 1)))) (tOp nSub (tVar 4) (tC (.int 1)))) (tC (.int 1)))))))
 (tSeq (tDrop (tBM K "list" rAppend (tVar 5) (tCons (tTup (tCons (tC (tx [116, 117, 114, 110])) (tCons (tOp nSub (tVar 3) (tC (.int 1))) (tCons (tOp nIxS (tVar 1) (tOp nSub (tVar 4) (tC (.int 1)))) tNil)))) tNil)))
 (tPar 3 4 (tCons (tOp nSub (tVar 3) (tC (.int 1))) (tCons (tOp nSub (tVar 4) (tC (.int 1))) tNil)))) (tIfS (tAnd (tTest (tOp nGt (tVar 3) (tC (.int 0)))) (tTest (tOp nEq (tVar 6) (tOp nAdd (tOp (nIxL K) (tOp (nIxL K) (tVar 2) (tOp nSub (tVar 3) (tC (.int 1)))) (tVar 4)) (tC (.int 1))))))
 (tSeq (tDrop (tBM K "list" rAppend (tVar 5) (tCons (tTup (tCons (tC (tx [99, 117, 116])) (tCons (tOp nSub (tVar 3) (tC (.int 1))) tNil))) tNil)))
 (tAug 3 (tC (.int 1)) (ipI (fun i j => i - j)))) (tSeq (tDrop (tBM K "list" rAppend (tVar 5) (tCons (tTup (tCons (tC (tx [112, 117, 116])) (tCons (tVar 3) (tCons (tOp nIxS (tVar 1) (tOp nSub (tVar 4) (tC (.int 1)))) tNil)))) tNil)))
 (tAug 4 (tC (.int 1)) (ipI (fun i j => i - j)))))))))
 (tRet (tVar 5))))))
def n_steps_of : Nat := 7
/- way(one, other): slots 0:one 1:other -/
def T_way (K : PySem.W.Frag) (C_BadWord : Addr) (E : XK) : TS :=
 (tSeq (tDrop (tCall (sp_need_word K C_BadWord) [] E (tCons (tVar 0) tNil)))
 (tSeq (tDrop (tCall (sp_need_word K C_BadWord) [] E (tCons (tVar 1) tNil)))
 (tRet (tCall (sp_steps_of K) [] E0 (tCons (tVar 0) (tCons (tVar 1) tNil))))))
def n_way : Nat := 2
/- _law_led(_law_text, _law_changes): slots 0:_law_text 1:_law_changes 2:_law_change -/
def T_law_led (K : PySem.W.Frag) : TS :=
 (tSeq (tIfS (tNot (tB (tCB (nIsi K) (tCons (tVar 1) (tCons (tC (.ty "list")) tNil)))))
 (tRet (tC .non)) tNext)
 (tSeq (tFor (iList K (tVar 1)) (gName 2)
 (tSeq (tAsg (tCall (sp_law_step K) [] E0 (tCons (tVar 0) (tCons (tVar 2) tNil))) (gName 0))
 (tIfS (tTest (tOp nIsN (tVar 0) (tC .non)))
 (tRet (tC .non)) tNext)))
 (tRet (tVar 0))))
def n_law_led : Nat := 3
/- _law_next(_law_row, _law_letter_here, _law_word_here): slots 0:_law_row 1:_law_letter_here 2:_law_word_here 3:_law_found 4:_law_at_here 5:_law_more -/
def T_law_next (K : PySem.W.Frag) : TS :=
 (tSeq (tAsg (tLst (tCons (tOp nAdd (tOp (nIxL K) (tVar 0) (tC (.int 0))) (tC (.int 1))) tNil)) (gName 3))
 (tSeq (tFor (iRng1 (tCons (tCB nLenS (tCons (tVar 2) tNil)) tNil)) (gName 4)
 (tSeq (tAsg (tC (.int 1)) (gName 5))
 (tSeq (tIfS (tTest (tOp nEq (tOp nIxS (tVar 2) (tVar 4)) (tVar 1)))
 (tAsg (tC (.int 0)) (gName 5)) tNext)
 (tDrop (tBM K "list" rAppend (tVar 3) (tCons (tCB nMin3 (tCons (tOp nAdd (tOp (nIxL K) (tVar 0) (tVar 4)) (tVar 5)) (tCons (tOp nAdd (tOp (nIxL K) (tVar 0) (tOp nAdd (tVar 4) (tC (.int 1)))) (tC (.int 1))) (tCons (tOp nAdd (tOp (nIxL K) (tVar 3) (tVar 4)) (tC (.int 1))) tNil)))) tNil))))))
 (tRet (tVar 3))))
def n_law_next : Nat := 6
/- _law_far(_law_one, _law_other): slots 0:_law_one 1:_law_other 2:_law_row 3:_law_letter_here -/
def T_law_far (K : PySem.W.Frag) : TS :=
 (tSeq (tAsg (tLstRg (tRg1 (tOp nAdd (tCB nLenS (tCons (tVar 1) tNil)) (tC (.int 1))))) (gName 2))
 (tSeq (tFor (iStr (tVar 0)) (gName 3)
 (tAsg (tCall (sp_law_next K) [] E0 (tCons (tVar 2) (tCons (tVar 3) (tCons (tVar 1) tNil)))) (gName 2)))
 (tRet (tOp (nIxL K) (tVar 2) (tUn nNeg (tC (.int 1)))))))
def n_law_far : Nat := 4
theorem l_distance {K C vs H Q E} (h : sp_distance K C vs H Q E) : vs.length = 2 := by obtain ⟨_, _, rfl, _⟩ := h; rfl
theorem l_steps_of {K vs H Q E} (h : sp_steps_of K vs H Q E) : vs.length = 2 := by obtain ⟨_, _, rfl, _⟩ := h; rfl
theorem l_way {K C vs H Q E} (h : sp_way K C vs H Q E) : vs.length = 2 := by obtain ⟨_, _, rfl, _⟩ := h; rfl
theorem l_law_led {K vs H Q E} (h : sp_law_led K vs H Q E) : vs.length = 2 := by obtain ⟨_, _, _, _, rfl, _⟩ := h; rfl
theorem l_law_next {K vs H Q E} (h : sp_law_next K vs H Q E) : vs.length = 3 := l_next_row h
theorem l_law_far {K vs H Q E} (h : sp_law_far K vs H Q E) : vs.length = 2 := by obtain ⟨_, _, rfl, _⟩ := h; rfl
section
variable {K : PySem.W.Frag} {vs : List V} {H : Hp} {Q : VK} {E : XK} {C : Addr} {σ : L2.St} {ta tb tc : TE}
/-- rows[-1][-1] -/
theorem n_last {a b : List Nat} {v : V} {Q : VK} (h : RowsAt a b v H) (q : RetV (.int (dist a b : Int)) H Q) : nIxL K v (.int (-1)) H fun u H1 => tUn nNeg (tC (.int 1)) σ H1 fun y H2 => nIxL K u y H2 Q := by
  obtain ⟨p, rs, rfl, hp, hr⟩ := h
  obtain ⟨r, hri⟩ : ∃ r, rs[a.length]? = some r := ⟨_, List.getElem?_eq_getElem (by rw [hr.1]; omega)⟩
  exact ⟨p, _, _, .ref r, rfl, rfl, sq_of hp, at_end (n := a.length) (by rw [List.length_map, hr.1]) (by rw [List.getElem?_map, hri]; rfl), 1, rfl, r, _, _, _, rfl, rfl, sq_of (hr.2 _ r hri), rowV_last, q H (Ex.refl H)⟩
theorem R_distance (h : sp_distance K C vs H Q E) : T_distance K C E (fin Q) (slots n_distance vs) H := by
  obtain ⟨x, y, rfl, hx, hy, k, kE⟩ := h
  show T_distance K C E (fin Q) [some x, some y] H
  unfold T_distance
  exact ⟨_, rfl, _, rfl, x, y, rfl, hx, hy, fun a b e1 e2 ha hb v H2 e3 hv => ⟨1, rfl, n_last hv fun H3 e4 => k a b e1 e2 ha hb H3 (e3.trans e4)⟩, kE⟩
/-- a call of distance with two words -/
theorem e_distance {a b : List Nat} (h1 : Ev ta σ H (tx a)) (h2 : Ev tb σ H (tx b)) (ha : isW a = true) (hb : isW b = true) : Ev (tCall (sp_distance K C) [] E (tCons ta (tCons tb tNil))) σ H (.int (dist a b : Int)) :=
  ev_call (ea_cons h1 (ea_cons h2 ea_nil)) fun H1 e Q q E => ⟨_, _, rfl, .inl ⟨a, rfl, by have := isW_le ha; omega⟩, .inl ⟨b, rfl, by have := isW_le hb; omega⟩, fun a' b' e1 e2 _ _ => by
    rw [← tx_inj.mp e1, ← tx_inj.mp e2]
    exact fun H2 e3 => q H2 e3, fun hn => absurd ⟨⟨a, rfl, ha⟩, ⟨b, rfl, hb⟩⟩ hn⟩
theorem R_law_next (h : sp_law_next K vs H Q E) : T_law_next K (fin Q) (slots n_law_next vs) H := by
  obtain ⟨p, f, c, w, rfl, hp, hw, k⟩ := h
  show T_law_next K (fin Q) [some (.ref p), some (tx [c]), some (tx w), none, none, none] H
  unfold T_law_next
  refine q_asgL (el_lst (ea_cons (e_add (e_ixL (ev_var rfl) ev_c hp (rowV_at (j := 0) rfl (by omega))) ev_c) ea_nil) (by simp)) fun l H1 hl e1 hl1 => ?_
  refine q_forR1 (n := (w.length : Int)) (ea_cons (e_lenS (ev_var rfl) (by omega)) ea_nil) (by omega) (fun i σ H' => (∃ x4 x5, σ = [some (.ref p), some (tx [c]), some (tx w), some (.ref l), x4, x5]) ∧ Ex H H' ∧ H' l = some (.lst (rowV (nxt f c w) (i + 1)))) (fun H2 e2 => ⟨⟨_, _, rfl⟩, e1.trans e2, e2 _ _ hl1⟩) (fun i σ H' hi hp' => ?_) (fun σ H' hp' => ?_)
  · obtain ⟨⟨x4, x5, rfl⟩, e, hl'⟩ := hp'
    have hi' : i < w.length := by omega
    refine q_asg ev_c fun H2 e2 => ?_
    have hc : w[i]? = some w[i] := List.getElem?_eq_getElem hi'
    refine q_ifAsg (b := decide (w[i] = c)) (v := .int ((if w[i]? = some c then 0 else 1 : Nat) : Int)) (et_test (e_eq (e_ixS (ev_var rfl) (ev_var rfl) (by omega) (atI_nat hc)) (ev_var rfl) (by
      have e : decide (w[i] = c) = decide ([w[i]] = [c]) := dec_eq (by simp)
      rw [e]
      exact .ss))) (fun hh => ?_) (fun hh => ?_) fun H3 e3 => ?_
    · rw [hc, of_decide_eq_true hh, if_pos rfl]
      exact ev_c
    · rw [hc, if_neg (fun z => of_decide_eq_false hh (Option.some.inj z))]
      rfl
    · have e4 := (e.trans e2).trans e3
      have h4 := e3 _ _ (e2 _ _ hl')
      refine s_app h4 (ev_var rfl) (e_min3 (e_add (e_ixL (ev_var rfl) (ev_var rfl) (ex_l e4 hp) (rowV_at (j := i) rfl (by omega))) (ev_var rfl)) (e_add (e_ixL (ev_var rfl) (e_add (ev_var rfl) ev_c) (ex_l e4 hp) (rowV_at (j := i + 1) (by omega) (by omega))) ev_c) (e_add (e_ixL (ev_var rfl) (ev_var rfl) (sq_of h4) (rowV_at (j := i) rfl (by omega))) ev_c)) (by rw [rowV_len]; omega) fun H5 e5 => ?_
      refine ⟨⟨_, _, rfl⟩, Ex.mut (e4.trans e5) hl, ?_⟩
      rw [upd_same, rowV_snoc _ (i + 1)]
      have en : min (min ((f i : Int) + ((if w[i]? = some c then 0 else 1 : Nat) : Int)) ((f (i + 1) : Int) + 1)) ((nxt f c w i : Int) + 1) = ((nxt f c w (i + 1) : Nat) : Int) := by rw [nxt]; omega
      rw [en]
  · obtain ⟨⟨x4, x5, rfl⟩, e, hl'⟩ := hp'
    exact s_ret (ev_var rfl) fun H2 e2 => k l _ hl (e.trans e2) (e2 _ _ hl')
theorem R_law_far (h : sp_law_far K vs H Q E) : T_law_far K (fin Q) (slots n_law_far vs) H := by
  obtain ⟨a, b, rfl, ha, hb, k⟩ := h
  show T_law_far K (fin Q) [some (tx a), some (tx b), none, none] H
  unfold T_law_far
  refine q_asgL (xs := rowV id (b.length + 1)) (fun H0 e Q q => e_add (e_lenS (ev_var rfl) (by omega)) ev_c H0 e _ fun H1 e1 => ⟨_, rfl, RgOk.of_le (by decide) (by omega) (by decide) (by omega), fun p hp => by
    rw [rgV_row]
    exact q p _ (fresh_back e1 hp) (e1.trans (Ex.new hp)) upd_same⟩) fun l H1 hl e1 hl1 => ?_
  refine q_forS (ev_var rfl) (fun i σ H' => (∃ r x3, σ = [some (tx a), some (tx b), some (.ref r), x3] ∧ H' r = some (.lst (rowV (cell a b i) (b.length + 1)))) ∧ Ex H H') (fun H2 e2 => ⟨⟨_, _, rfl, ?_⟩, e1.trans e2⟩) (fun i c σ H' hc hp => ?_) (fun σ H' hp => ?_)
  · rw [e2 _ _ hl1, rowV_congr (f := cell a b 0) (g := id) fun j _ => cell_0 a b j]
  · obtain ⟨⟨r, x3, rfl, hr⟩, e⟩ := hp
    refine s_asgL (xs := rowV (nxt (cell a b i) c b) (b.length + 1)) (el_call (ea_cons (ev_var rfl) (ea_cons (ev_var rfl) (ea_cons (ev_var rfl) ea_nil))) fun H1 e Q q E => ⟨r, _, c, b, rfl, ex_l e (sq_of hr), hb, q⟩) fun p H2 hp e2 h2 => ?_
    refine ⟨⟨_, _, rfl, ?_⟩, e.trans e2⟩
    rw [h2, rowV_congr fun j _ => (cell_nxt hc j).symm]
  · obtain ⟨⟨r, x3, rfl, hr⟩, e⟩ := hp
    exact s_ret (e_ixL (ev_var rfl) (e_neg ev_c) (sq_of hr) rowV_last) fun H2 e2 => k _ (e.trans e2)
theorem e_law_far {a b : List Nat} (h1 : Ev ta σ H (tx a)) (h2 : Ev tb σ H (tx b)) (ha : a.length ≤ 1000) (hb : b.length ≤ 1000) : Ev (tCall (sp_law_far K) [] E0 (tCons ta (tCons tb tNil))) σ H (.int (dist a b : Int)) :=
  ev_call (ea_cons h1 (ea_cons h2 ea_nil)) fun H1 e Q q E => ⟨a, b, rfl, ha, hb, fun H2 e2 => q H2 e2⟩
theorem R_law_led (h : sp_law_led K vs H Q E) : T_law_led K (fin Q) (slots n_law_led vs) H := by
  obtain ⟨w, p, cs, w', rfl, hp, hw, hL, hc, k⟩ := h
  show T_law_led K (fin Q) [some (tx w), some (.ref p), none] H
  unfold T_law_led
  refine q_when (b := false) (et_not (et_B (e_is (b := true) (ev_var rfl) (ht_lst hp) (by decide +kernel)))) (fun hh => by cases hh) (fun _ H1 e1 => ?_)
  refine q_forLn (ev_var rfl) (sq_of (e1 _ _ hp)) (fun i σ H' => (∃ wi x, σ = [some (tx wi), some (.ref p), x] ∧ LedV H w (cs.take i) wi) ∧ Ex H H') (fun H2 e2 => ⟨⟨w, _, rfl, .nil⟩, e1.trans e2⟩) (fun i σ H' _ hp' => sq_of (hp'.2 _ _ hp)) (fun i c σ H' hi hp' => ?_) (fun σ H' hp' => ?_)
  · obtain ⟨⟨wi, x, rfl, hwi⟩, e⟩ := hp'
    obtain ⟨w2, hg⟩ := ledV_take hL hi hwi
    have hcc := hc c (List.mem_of_getElem? hi)
    have hlen := ledV_len hwi
    rw [List.length_take] at hlen
    refine q_asg (v := tx w2) (ev_call (ea_cons (ev_var rfl) (ea_cons (ev_var rfl) ea_nil)) fun H2 e2 Q q E => ⟨wi, c, rfl, by omega, chg_up _ _ _ (e.trans e2) hcc, fun w3 hg3 => ?_, fun hn => absurd ⟨w2, goodV_up (e.trans e2) hg⟩ hn⟩) fun H2 e2 => ?_
    · rw [goodV_inj (Ex.refl _) hg3 (goodV_up (e.trans e2) hg)]
      exact fun H3 e3 => q H3 e3
    · refine s_when (b := false) (et_is (et_test (e_isN (ev_var rfl))) (decide_eq_false fun z => nomatch z)) (fun hh => by cases hh) (fun _ H3 e3 => ?_)
      refine ⟨⟨w2, _, rfl, ?_⟩, (e.trans e2).trans e3⟩
      rw [List.take_add_one, hi]
      exact ledV_snoc hwi hg
  · obtain ⟨⟨wi, x, rfl, hwi⟩, e⟩ := hp'
    rw [List.take_length] at hwi
    rw [ledV_inj hwi hL]
    exact s_ret (ev_var rfl) fun H2 e2 => k _ (e.trans e2)
theorem e_law_led {a b : List Nat} {v : V} (h1 : Ev ta σ H (tx a)) (h2 : Ev tb σ H v) (hv : WayV a b v H) (hl : a.length + dist a b ≤ 900) : Ev (tCall (sp_law_led K) [] E0 (tCons ta (tCons tb tNil))) σ H (tx b) := by
  obtain ⟨p, cs, rfl, hp, hL, hn, hc⟩ := hv
  exact ev_call (ea_cons h1 (ea_cons h2 ea_nil)) fun H1 e Q q E => ⟨a, p, cs, b, rfl, e _ _ hp, by omega, ledV_up e hL, fun c h => chg_up _ _ _ e (hc c h), fun H2 e2 => q H2 e2⟩
end
end Nw

set_option Elab.async false
set_option linter.all false
set_option maxRecDepth 100000
/-! Nw.Trie: beginnings of words, counting, sorting: plain Lean -/
namespace Nw
/-- t is a beginning of one of the words -/
def dom (W : List (List Nat)) (t : List Nat) : Prop := t = [] ∨ ∃ w ∈ W, t <+: w
instance (W : List (List Nat)) (t : List Nat) : Decidable (dom W t) := by unfold dom; infer_instance
theorem dom_nil (W : List (List Nat)) : dom W [] := .inl rfl
theorem dom_mem {W : List (List Nat)} {w : List Nat} (h : w ∈ W) : dom W w := .inr ⟨w, h, List.prefix_refl w⟩
theorem pre_trans {a b c : List Nat} (h : a <+: b) (h' : b <+: c) : a <+: c := h.trans h'
theorem dom_pre {W : List (List Nat)} {s t : List Nat} (h : s <+: t) (d : dom W t) : dom W s := by
  rcases d with rfl | ⟨w, hw, hp⟩
  · exact .inl (List.prefix_nil.mp h)
  · exact .inr ⟨w, hw, h.trans hp⟩
theorem dom_snoc {W : List (List Nat)} {t : List Nat} {c : Nat} (d : dom W (t ++ [c])) : dom W t := dom_pre (List.prefix_append t [c]) d
theorem dom_add {W : List (List Nat)} {w t : List Nat} : dom (W ++ [w]) t ↔ dom W t ∨ t <+: w := by
  unfold dom
  constructor
  · rintro (h | ⟨u, hu, hp⟩)
    · exact .inl (.inl h)
    · rcases List.mem_append.mp hu with hu | hu
      · exact .inl (.inr ⟨u, hu, hp⟩)
      · rw [List.mem_singleton] at hu
        subst hu
        exact .inr hp
  · rintro ((h | ⟨u, hu, hp⟩) | h)
    · exact .inl h
    · exact .inr ⟨u, List.mem_append_left _ hu, hp⟩
    · exact .inr ⟨w, List.mem_append_right _ (List.mem_singleton.mpr rfl), h⟩
theorem pre_take {w t : List Nat} : t <+: w ↔ ∃ i, i ≤ w.length ∧ t = w.take i := by
  constructor
  · intro h
    refine ⟨t.length, h.length_le, ?_⟩
    exact List.prefix_iff_eq_take.mp h
  · rintro ⟨i, _, rfl⟩
    exact List.take_prefix i w
theorem take_get_snoc {w : List Nat} {i c : Nat} (h : w[i]? = some c) : w.take (i + 1) = w.take i ++ [c] := by
  rw [List.take_add_one, h]
  rfl
theorem dom_take {W : List (List Nat)} {w : List Nat} (h : w ∈ W) (i : Nat) : dom W (w.take i) := .inr ⟨w, h, List.take_prefix i w⟩
/-- a longer beginning goes by one letter -/
theorem pre_cases {t x : List Nat} (h : t <+: x) : t = x ∨ ∃ c, t ++ [c] <+: x := by
  obtain ⟨s, rfl⟩ := h
  cases s with
  | nil => exact .inl (by rw [List.append_nil])
  | cons c s => exact .inr ⟨c, ⟨s, by rw [List.append_assoc]; rfl⟩⟩
theorem pre_one {t x : List Nat} {c d : Nat} (h : t ++ [c] <+: x) (h' : t ++ [d] <+: x) : c = d := by
  obtain ⟨s, hs⟩ := h
  obtain ⟨s', hs'⟩ := h'
  rw [← hs, List.append_assoc, List.append_assoc] at hs'
  have e := List.append_cancel_left hs'
  injection e with e1 _
  exact e1.symm
theorem pre_ne {t x : List Nat} {c : Nat} (h : t ++ [c] <+: x) : t ≠ x := fun z => by
  have := h.length_le
  rw [z, List.length_append] at this
  simp at this
  omega
/-! ### what is pending -/
/-- how many of the texts begin x -/
def pend (T : List (List Nat)) (x : List Nat) : Nat := T.countP fun t => decide (t <+: x)
theorem pend_nil (x : List Nat) : pend [] x = 0 := rfl
theorem pend_app (T U : List (List Nat)) (x : List Nat) : pend (T ++ U) x = pend T x + pend U x := List.countP_append
theorem pend_one (t x : List Nat) : pend [t] x = if t <+: x then 1 else 0 := by
  unfold pend
  rw [List.countP_cons]
  simp
theorem count_nodup {cs : List Nat} {c : Nat} (nd : cs.Nodup) (h : c ∈ cs) : cs.countP (fun d => decide (d = c)) = 1 := by
  induction cs with
  | nil => cases h
  | cons d r ih =>
    rw [List.nodup_cons] at nd
    rw [List.countP_cons]
    by_cases e : d = c
    · subst e
      rw [if_pos (decide_eq_true rfl), List.countP_eq_zero.mpr (fun a ha => by
        intro z
        rw [of_decide_eq_true z] at ha
        exact nd.1 ha)]
    · rw [if_neg (by simpa using e)]
      exact ih nd.2 ((List.mem_cons.mp h).resolve_left (fun z => e z.symm))
/-- a text and its letters below instead of it -/
theorem pend_kids {t x : List Nat} {cs : List Nat} (nd : cs.Nodup) (h : ∀ c, t ++ [c] <+: x → c ∈ cs) : pend [t] x = (if x = t then 1 else 0) + pend (cs.map fun c => t ++ [c]) x := by
  rw [pend_one]
  unfold pend
  rw [List.countP_map]
  by_cases hp : t <+: x
  · rw [if_pos hp]
    rcases pre_cases hp with e | ⟨c, hc⟩
    · subst e
      rw [if_pos rfl, List.countP_eq_zero.mpr]
      intro c _ z
      exact pre_ne (of_decide_eq_true z) rfl
    · rw [if_neg (fun z => pre_ne hc z.symm), Nat.zero_add]
      rw [← count_nodup nd (h c hc)]
      refine List.countP_congr fun d _ => ?_
      show decide (d = c) = true ↔ decide (t ++ [d] <+: x) = true
      rw [decide_eq_true_eq, decide_eq_true_eq]
      exact ⟨fun e => by rw [e]; exact hc, fun e => pre_one e hc⟩
  · rw [if_neg hp, if_neg (fun z => hp (by rw [z]; exact List.prefix_refl t)), List.countP_eq_zero.mpr]
    intro c _ z
    exact hp ((List.prefix_append t [c]).trans (of_decide_eq_true z))
/-- how many of L are still to be found below the pending -/
def left (L T : List (List Nat)) : Nat := (L.map (pend T)).sum
theorem left_nil (L : List (List Nat)) : left L [] = 0 := by
  unfold left
  induction L with
  | nil => rfl
  | cons x L ih => rw [List.map_cons, List.sum_cons, ih]; rfl
theorem left_app (L T U : List (List Nat)) : left L (T ++ U) = left L T + left L U := by
  unfold left
  induction L with
  | nil => rfl
  | cons x L ih =>
    rw [List.map_cons, List.map_cons, List.map_cons, List.sum_cons, List.sum_cons, List.sum_cons, ih, pend_app]
    omega
theorem left_root (L : List (List Nat)) : left L [[]] = L.length := by
  unfold left
  induction L with
  | nil => rfl
  | cons x L ih =>
    rw [List.map_cons, List.sum_cons, ih, pend_one, if_pos (List.nil_prefix), List.length_cons]
    omega
theorem left_kids {L : List (List Nat)} {t : List Nat} {cs : List Nat} (ndL : L.Nodup) (ht : t ∈ L) (nd : cs.Nodup) (h : ∀ x ∈ L, ∀ c, t ++ [c] <+: x → c ∈ cs) : left L [t] = 1 + left L (cs.map fun c => t ++ [c]) := by
  have e : ∀ M : List (List Nat), (∀ x ∈ M, x ∈ L) → left M [t] = M.countP (fun x => decide (x = t)) + left M (cs.map fun c => t ++ [c]) := by
    intro M hM
    unfold left
    induction M with
    | nil => rfl
    | cons x M ih =>
      rw [List.map_cons, List.map_cons, List.sum_cons, List.sum_cons, ih (fun y hy => hM y (List.mem_cons_of_mem _ hy)), pend_kids nd (h x (hM x List.mem_cons_self)), List.countP_cons]
      have e2 : (if decide (x = t) = true then 1 else 0) = if x = t then 1 else 0 := by simp
      rw [e2]
      omega
  rw [e L fun x hx => hx]
  congr 1
  have : ∀ M : List (List Nat), M.Nodup → t ∈ M → M.countP (fun x => decide (x = t)) = 1 := by
    intro M
    induction M with
    | nil => intro _ h; cases h
    | cons d r ih =>
      intro nd h
      rw [List.nodup_cons] at nd
      rw [List.countP_cons]
      by_cases e : d = t
      · subst e
        rw [if_pos (decide_eq_true rfl), List.countP_eq_zero.mpr (fun a ha => by
          intro z
          rw [of_decide_eq_true z] at ha
          exact nd.1 ha)]
      · rw [if_neg (by simpa using e)]
        exact ih nd.2 ((List.mem_cons.mp h).resolve_left (fun z => e z.symm))
  exact this L ndL ht
theorem left_one {L : List (List Nat)} {t : List Nat} (h : t ∈ L) : 1 ≤ left L [t] := by
  unfold left
  induction L with
  | nil => cases h
  | cons x L ih =>
    rw [List.map_cons, List.sum_cons]
    rcases List.mem_cons.mp h with rfl | h
    · rw [pend_one, if_pos (List.prefix_refl _)]; omega
    · have := ih h; omega
theorem left_len {L : List (List Nat)} : ∀ {T : List (List Nat)}, (∀ t ∈ T, t ∈ L) → T.length ≤ left L T
  | [], _ => Nat.zero_le _
  | t :: T, h => by
    have e : t :: T = [t] ++ T := rfl
    rw [e, left_app, List.length_append]
    have := left_one (h t List.mem_cons_self)
    have := left_len (L := L) (T := T) fun u hu => h u (List.mem_cons_of_mem _ hu)
    simp only [List.length_cons, List.length_nil]
    omega
theorem left_le {L : List (List Nat)} (t : List Nat) : left L [t] ≤ L.length := by
  unfold left
  induction L with
  | nil => exact Nat.le_refl _
  | cons x L ih =>
    rw [List.map_cons, List.sum_cons, List.length_cons, pend_one]
    split <;> omega
/-! ### all beginnings, in the order in which they come -/
def addNew (L : List (List Nat)) (t : List Nat) : List (List Nat) := if t ∈ L then L else L ++ [t]
def addWord (L : List (List Nat)) (w : List Nat) (n : Nat) : List (List Nat) := (List.range n).foldl (fun L i => addNew L (w.take (i + 1))) L
def begs (W : List (List Nat)) : List (List Nat) := W.foldl (fun L w => addWord L w w.length) [[]]
theorem addNew_nodup {L : List (List Nat)} {t : List Nat} (h : L.Nodup) : (addNew L t).Nodup := by
  unfold addNew
  split
  · exact h
  · next hn =>
    rw [List.nodup_append]
    refine ⟨h, by simp, fun a ha b hb z => ?_⟩
    rw [List.mem_singleton] at hb
    rw [z, hb] at ha
    exact hn ha
theorem addNew_mem {L : List (List Nat)} {t x : List Nat} : x ∈ addNew L t ↔ x ∈ L ∨ x = t := by
  unfold addNew
  split
  · next h => exact ⟨.inl, fun z => z.elim id fun z => by rw [z]; exact h⟩
  · rw [List.mem_append, List.mem_singleton]
theorem addWord_succ (L : List (List Nat)) (w : List Nat) (n : Nat) : addWord L w (n + 1) = addNew (addWord L w n) (w.take (n + 1)) := by
  unfold addWord
  rw [List.range_succ, List.foldl_append]
  rfl
theorem addWord_nodup {L : List (List Nat)} {w : List Nat} (h : L.Nodup) : ∀ n, (addWord L w n).Nodup
  | 0 => h
  | n + 1 => by
    rw [addWord_succ]
    exact addNew_nodup (addWord_nodup h n)
theorem addWord_mem {L : List (List Nat)} {w x : List Nat} : ∀ n, x ∈ addWord L w n ↔ x ∈ L ∨ ∃ i, i < n ∧ x = w.take (i + 1)
  | 0 => ⟨.inl, fun z => z.elim id fun ⟨i, hi, _⟩ => absurd hi (Nat.not_lt_zero i)⟩
  | n + 1 => by
    rw [addWord_succ, addNew_mem, addWord_mem n]
    constructor
    · rintro ((h | ⟨i, hi, h⟩) | h)
      · exact .inl h
      · exact .inr ⟨i, by omega, h⟩
      · exact .inr ⟨n, by omega, h⟩
    · rintro (h | ⟨i, hi, h⟩)
      · exact .inl (.inl h)
      · by_cases e : i = n
        · subst e
          exact .inr h
        · exact .inl (.inr ⟨i, by omega, h⟩)
theorem begs_gen (W : List (List Nat)) : ∀ L : List (List Nat), L.Nodup → (W.foldl (fun L w => addWord L w w.length) L).Nodup ∧ ∀ x, x ∈ W.foldl (fun L w => addWord L w w.length) L ↔ x ∈ L ∨ ∃ w ∈ W, ∃ i, i < w.length ∧ x = w.take (i + 1) := by
  induction W with
  | nil => exact fun L h => ⟨h, fun x => ⟨.inl, fun z => z.elim id fun ⟨w, hw, _⟩ => by cases hw⟩⟩
  | cons w W ih =>
    intro L h
    obtain ⟨h1, h2⟩ := ih (addWord L w w.length) (addWord_nodup h _)
    refine ⟨h1, fun x => ?_⟩
    rw [List.foldl_cons, h2, addWord_mem]
    constructor
    · rintro ((h | h) | ⟨u, hu, h⟩)
      · exact .inl h
      · exact .inr ⟨w, List.mem_cons_self, h⟩
      · exact .inr ⟨u, List.mem_cons_of_mem _ hu, h⟩
    · rintro (h | ⟨u, hu, h⟩)
      · exact .inl (.inl h)
      · rcases List.mem_cons.mp hu with rfl | hu
        · exact .inl (.inr h)
        · exact .inr ⟨u, hu, h⟩
theorem begs_nodup (W : List (List Nat)) : (begs W).Nodup := (begs_gen W [[]] (by simp)).1
theorem begs_mem (W : List (List Nat)) (x : List Nat) : x ∈ begs W ↔ dom W x := by
  unfold begs dom
  rw [(begs_gen W [[]] (by simp)).2 x, List.mem_singleton]
  constructor
  · rintro (h | ⟨w, hw, i, hi, rfl⟩)
    · exact .inl h
    · exact .inr ⟨w, hw, List.take_prefix _ _⟩
  · rintro (h | ⟨w, hw, hp⟩)
    · exact .inl h
    · obtain ⟨i, hi, rfl⟩ := pre_take.mp hp
      cases i with
      | zero => exact .inl List.take_zero
      | succ i => exact .inr ⟨w, hw, i, by omega, rfl⟩
theorem begs_len (W : List (List Nat)) : (begs W).length ≤ 1 + (W.map List.length).sum := by
  have a1 : ∀ (L : List (List Nat)) t, (addNew L t).length ≤ L.length + 1 := fun L t => by
    unfold addNew
    split
    · omega
    · rw [List.length_append]; exact Nat.le_refl _
  have a2 : ∀ (L : List (List Nat)) w n, (addWord L w n).length ≤ L.length + n := fun L w n => by
    induction n with
    | zero => exact Nat.le_refl _
    | succ n ih =>
      rw [addWord_succ]
      have := a1 (addWord L w n) (w.take (n + 1))
      omega
  have a3 : ∀ (W L : List (List Nat)), (W.foldl (fun L w => addWord L w w.length) L).length ≤ L.length + (W.map List.length).sum := fun W => by
    induction W with
    | nil => exact fun L => Nat.le_refl _
    | cons w W ih =>
      intro L
      rw [List.foldl_cons, List.map_cons, List.sum_cons]
      have := ih (addWord L w w.length)
      have := a2 L w w.length
      omega
  exact a3 W [[]]
theorem nodup_sub : ∀ {L M : List (List Nat)}, L.Nodup → (∀ x ∈ L, x ∈ M) → L.length ≤ M.length
  | [], _, _, _ => Nat.zero_le _
  | x :: r, M, nd, h => by
    rw [List.nodup_cons] at nd
    have hx := h x List.mem_cons_self
    have ih := nodup_sub (L := r) (M := M.erase x) nd.2 fun y hy => (List.mem_erase_of_ne fun z => nd.1 (by rw [← z]; exact hy)).mpr (h y (List.mem_cons_of_mem _ hy))
    rw [List.length_erase_of_mem hx] at ih
    have := List.length_pos_of_mem hx
    rw [List.length_cons]
    omega
/-! ### a word taken -/
/-- the way parts at t, or a word ends there -/
def Br (W : List (List Nat)) (t : List Nat) : Prop := t ∈ W ∨ ∃ c c', c ≠ c' ∧ dom W (t ++ [c]) ∧ dom W (t ++ [c'])
theorem dom_nonempty {W : List (List Nat)} {t : List Nat} {c : Nat} (h : dom W (t ++ [c])) : ∃ w ∈ W, t ++ [c] <+: w := h.resolve_left (by simp)
theorem dom_erase {W : List (List Nat)} {w s : List Nat} (nd : W.Nodup) : dom (W.erase w) s ↔ s = [] ∨ ∃ u ∈ W, u ≠ w ∧ s <+: u := by
  unfold dom
  constructor
  · rintro (h | ⟨u, hu, hp⟩)
    · exact .inl h
    · obtain ⟨h1, h2⟩ := nd.mem_erase_iff.mp hu
      exact .inr ⟨u, h2, h1, hp⟩
  · rintro (h | ⟨u, hu, hn, hp⟩)
    · exact .inl h
    · exact .inr ⟨u, nd.mem_erase_iff.mpr ⟨hn, hu⟩, hp⟩
theorem dom_of_erase {W : List (List Nat)} {w s : List Nat} (nd : W.Nodup) (h : dom (W.erase w) s) : dom W s := ((dom_erase nd).mp h).imp id fun ⟨u, hu, _, hp⟩ => ⟨u, hu, hp⟩
theorem keep_dom {W : List (List Nat)} {w : List Nat} (nd : W.Nodup) (h : w = [] ∨ ∃ c, dom W (w ++ [c])) (s : List Nat) : dom W s ↔ dom (W.erase w) s := by
  refine ⟨fun hs => (dom_erase nd).mpr ?_, dom_of_erase nd⟩
  rcases hs with rfl | ⟨u, hu, hp⟩
  · exact .inl rfl
  · by_cases e : u = w
    · subst e
      rcases h with rfl | ⟨c, hc⟩
      · exact .inl (List.prefix_nil.mp hp)
      · obtain ⟨x, hx, hpx⟩ := dom_nonempty hc
        exact .inr ⟨x, hx, fun z => pre_ne hpx z.symm, hp.trans ((List.prefix_append u [c]).trans hpx)⟩
    · exact .inr ⟨u, hu, e, hp⟩
theorem cut_dom {W : List (List Nat)} {w : List Nat} {m : Nat} (nd : W.Nodup) (hw : w ∈ W) (hm : m < w.length) (hk : ∀ c, ¬ dom W (w ++ [c])) (hb : m = 0 ∨ Br W (w.take m)) (hn : ∀ j, m < j → j < w.length → ¬ Br W (w.take j)) (s : List Nat) :
    (dom W s ∧ ¬ w.take (m + 1) <+: s) ↔ dom (W.erase w) s := by
  have gm : w[m]? = some w[m] := List.getElem?_eq_getElem hm
  constructor
  · rintro ⟨hs, hp⟩
    rw [dom_erase nd]
    rcases hs with rfl | ⟨u, hu, hsu⟩
    · exact .inl rfl
    · by_cases e : u = w
      · subst e
        obtain ⟨j, hj, rfl⟩ := pre_take.mp hsu
        have hjm : j ≤ m := by
          by_cases z : j ≤ m
          · exact z
          · exact absurd (List.take_prefix_take_left (show m + 1 ≤ j by omega)) hp
        have up : u.take j <+: u.take m := List.take_prefix_take_left hjm
        rcases hb with rfl | hb | ⟨c, c', hcc, hc, hc'⟩
        · exact .inl (by rw [Nat.le_zero.mp hjm, List.take_zero])
        · refine .inr ⟨_, hb, fun z => ?_, up⟩
          have := congrArg List.length z
          rw [List.length_take] at this
          omega
        · have other : ∃ d, d ≠ u[m] ∧ dom W (u.take m ++ [d]) := by
            by_cases z : c = u[m]
            · exact ⟨c', fun y => hcc (by rw [y, z]), hc'⟩
            · exact ⟨c, z, hc⟩
          obtain ⟨d, hd, hdd⟩ := other
          obtain ⟨x, hx, hpx⟩ := dom_nonempty hdd
          refine .inr ⟨x, hx, fun z => ?_, up.trans ((List.prefix_append _ _).trans hpx)⟩
          subst z
          have := List.take_prefix (m + 1) x
          rw [take_get_snoc gm] at this
          exact hd (pre_one hpx this)
      · exact .inr ⟨u, hu, e, hsu⟩
  · intro hs
    refine ⟨dom_of_erase nd hs, fun hp => ?_⟩
    rcases (dom_erase nd).mp hs with rfl | ⟨u, hu, hne, hsu⟩
    · have h0 := hp.length_le
      rw [List.length_take, List.length_nil] at h0
      omega
    · have go : ∀ k, m + 1 + k ≤ w.length → w.take (m + 1 + k) <+: u := fun k => by
        induction k with
        | zero => exact fun _ => hp.trans hsu
        | succ k ih =>
          intro hk'
          have h1 := ih (by omega)
          have hlt : m + 1 + k < w.length := by omega
          have nb := hn (m + 1 + k) (by omega) hlt
          have gj : w[m + 1 + k]? = some w[m + 1 + k] := List.getElem?_eq_getElem hlt
          rcases pre_cases h1 with e | ⟨c, hc⟩
          · exact absurd (.inl (by rw [e]; exact hu)) nb
          · have d1 : dom W (w.take (m + 1 + k) ++ [c]) := .inr ⟨u, hu, hc⟩
            have d2 : dom W (w.take (m + 1 + k) ++ [w[m + 1 + k]]) := by
              rw [← take_get_snoc gj]
              exact dom_take hw _
            have ec : c = w[m + 1 + k] := by
              by_cases z : c = w[m + 1 + k]
              · exact z
              · exact absurd (.inr ⟨c, _, z, d1, d2⟩) nb
            rw [show m + 1 + (k + 1) = m + 1 + k + 1 by omega, take_get_snoc gj, ← ec]
            exact hc
      have hall := go (w.length - (m + 1)) (by omega)
      rw [show m + 1 + (w.length - (m + 1)) = w.length by omega, List.take_length] at hall
      rcases pre_cases hall with e | ⟨c, hc⟩
      · exact hne e.symm
      · exact hk c (.inr ⟨u, hu, hc⟩)
/-! ### sorting -/
def leT (a b : List Nat) : Bool := decide (a ≤ b)
theorem leT_trans (a b c : List Nat) (h : leT a b = true) (h' : leT b c = true) : leT a c = true := decide_eq_true (List.le_trans (of_decide_eq_true h) (of_decide_eq_true h'))
theorem leT_total (a b : List Nat) : (leT a b || leT b a) = true := by
  rw [Bool.or_eq_true]
  exact (List.le_total a b).imp (fun h => decide_eq_true h) (fun h => decide_eq_true h)
def srt (W : List (List Nat)) : List (List Nat) := W.mergeSort leT
theorem srt_perm (W : List (List Nat)) : (srt W).Perm W := List.mergeSort_perm W leT
theorem srt_pair (W : List (List Nat)) : (srt W).Pairwise fun a b => leT a b = true := List.pairwise_mergeSort leT_trans leT_total W
theorem srt_uniq {A B : List (List Nat)} (h : A.Perm B) (ha : A.Pairwise fun a b => leT a b = true) (hb : B.Pairwise fun a b => leT a b = true) : A = B :=
  h.eq_of_pairwise (fun a b _ _ h1 h2 => List.le_antisymm (of_decide_eq_true h1) (of_decide_eq_true h2)) ha hb
theorem srt_congr {A B : List (List Nat)} (h : A.Perm B) : srt A = srt B := srt_uniq ((srt_perm A).trans (h.trans (srt_perm B).symm)) (srt_pair A) (srt_pair B)
theorem srt_filter (W : List (List Nat)) (p : List Nat → Bool) : (srt W).filter p = srt (W.filter p) := srt_uniq (((srt_perm W).filter p).trans (srt_perm _).symm) ((srt_pair W).filter p) (srt_pair _)
theorem srt_nil : srt [] = [] := List.eq_nil_of_length_eq_zero (srt_perm []).length_eq
theorem srt_len (W : List (List Nat)) : (srt W).length = W.length := (srt_perm W).length_eq
end Nw

set_option Elab.async false
set_option linter.all false
set_option maxRecDepth 100000
/-! Nw.TrS: the tree in the heap -/
namespace Nw
open PySem L2 Evl
/-! ### fields -/
theorem lk_hd {f : Str} {v : V} {r : List (Str × V)} : List.lookup f ((f, v) :: r) = some v := by simp [List.lookup]
theorem lk_tl {f g : Str} {v : V} {r : List (Str × V)} (h : (f == g) = false) : List.lookup f ((g, v) :: r) = List.lookup f r := by simp [List.lookup, h]
section
variable {K : PySem.W.Frag} {σ : L2.St} {H : Hp} {ta tb te : TE} {a d : Addr} {v : V}
theorem e_fld {C dx : Addr} {fs : List (Str × V)} {f : Str} (ha : Ev ta σ H (.ref a)) (hi : H a = some (.ins C dx fs)) (c : Cls K C) (n : NoAttr K C f) (l : fs.lookup f = some v) : Ev (tFld K ta f) σ H v := fun H1 e Q q =>
  ha H1 e _ fun H2 e2 => ⟨a, C, dx, fs, v, rfl, e2 _ _ (e _ _ hi), c, n, l, q H2 e2⟩
/-- e.f = v -/
theorem q_fld {D : Ends} {tz : TS} {C dx : Addr} {fs fs' : List (Str × V)} {f : Str} (hv : Ev tb σ H v) (ha : Ev ta σ H (.ref a)) (hi : H a = some (.ins C dx fs)) (c : Cls K C) (n : NoAttr K C f) (hl : fs.length < 1000) (hp : putF f v fs = fs') (k : ∀ H1, Ex H H1 → tz D σ (upd H1 a (.ins C dx fs'))) : tSeq (sFld K ta tb f) tz D σ H :=
  hv H (Ex.refl H) _ fun H1 e1 => ha H1 e1 _ fun H2 e2 => ⟨a, C, dx, fs, rfl, e2 _ _ (e1 _ _ hi), c, n, hl, by rw [hp]; exact k H2 (e1.trans e2)⟩
theorem s_fld {D : Ends} {C dx : Addr} {fs fs' : List (Str × V)} {f : Str} (hv : Ev tb σ H v) (ha : Ev ta σ H (.ref a)) (hi : H a = some (.ins C dx fs)) (c : Cls K C) (n : NoAttr K C f) (hl : fs.length < 1000) (hp : putF f v fs = fs') (k : ∀ H1, Ex H H1 → D.nx σ (upd H1 a (.ins C dx fs'))) : sFld K ta tb f D σ H :=
  hv H (Ex.refl H) _ fun H1 e1 => ha H1 e1 _ fun H2 e2 => ⟨a, C, dx, fs, rfl, e2 _ _ (e1 _ _ hi), c, n, hl, by rw [hp]; exact k H2 (e1.trans e2)⟩
/-! ### dicts -/
theorem e_dget {kvs : List (Key × V)} {k : Key} (ha : Ev ta σ H (.ref d)) (hd : Rd H d (.dK kvs)) (hb : Ev tb σ H (kV k)) (hv : valV kvs k = some v) : Ev (tDGet ta tb) σ H v := fun H1 e Q q =>
  ha H1 e _ fun H2 e2 => hb H2 (e.trans e2) _ fun H3 e3 => ⟨d, v, rfl, .inl ⟨kvs, k, ex_rd ((e.trans e2).trans e3) hd, rfl, hv.symm⟩, q H3 (e2.trans e3)⟩
theorem e_din {kvs : List (Key × V)} {k : Key} (ha : Ev ta σ H (kV k)) (hb : Ev tb σ H (.ref d)) (hd : Rd H d (.dK kvs)) : Ev (tDIn ta tb) σ H (.bl (valV kvs k).isSome) := fun H1 e Q q =>
  ha H1 e _ fun H2 e2 => hb H2 (e.trans e2) _ fun H3 e3 => ⟨d, valV kvs k, rfl, .inl ⟨kvs, k, ex_rd ((e.trans e2).trans e3) hd, rfl, rfl⟩, q H3 (e2.trans e3)⟩
theorem e_dnotin {kvs : List (Key × V)} {k : Key} (ha : Ev ta σ H (kV k)) (hb : Ev tb σ H (.ref d)) (hd : Rd H d (.dK kvs)) : Ev (tDNotIn ta tb) σ H (.bl (!(valV kvs k).isSome)) := fun H1 e Q q =>
  ha H1 e _ fun H2 e2 => hb H2 (e.trans e2) _ fun H3 e3 => ⟨d, valV kvs k, rfl, .inl ⟨kvs, k, ex_rd ((e.trans e2).trans e3) hd, rfl, rfl⟩, q H3 (e2.trans e3)⟩
theorem e_lenD {kvs : List (Key × V)} (ha : Ev ta σ H (.ref d)) (hd : H d = some (.dK kvs)) : Ev (tCB nLenD (tCons ta tNil)) σ H (.int (kvs.length : Int)) := ev_cb (ea_cons ha ea_nil) fun H1 e Q q => ⟨d, kvs, rfl, e _ _ hd, q H1 (Ex.refl H1)⟩
/-- d.pop(k) -/
theorem s_pop1 {D : Ends} {kvs : List (Key × V)} {k : Key} (ha : Ev ta σ H (.ref d)) (hd : H d = some (.dK kvs)) (hb : Ev tb σ H (kV k)) (hv : valV kvs k = some v) (q : ∀ H1, Ex H H1 → D.nx σ (upd H1 d (.dK (dropK kvs k)))) : tDrop (tDPop1 ta tb) D σ H :=
  ha H (Ex.refl H) _ fun H1 e1 => ⟨d, rfl, .inl ⟨kvs, .inl (e1 _ _ hd)⟩, hb H1 e1 _ fun H2 e2 => ⟨kvs, k, v, e2 _ _ (e1 _ _ hd), rfl, hv, q H2 (e1.trans e2)⟩⟩
/-- d[k] = v -/
theorem s_dput {D : Ends} {kvs : List (Key × V)} {k : Key} (hv : Ev te σ H v) (ha : Ev ta σ H (.ref d)) (hb : Ev tb σ H (kV k)) (hd : H d = some (.dK kvs)) (hl : kvs.length < 100000) (q : ∀ H1, Ex H H1 → D.nx σ (upd H1 d (.dK (putK kvs k v)))) : sDPut ta tb te D σ H :=
  hv H (Ex.refl H) _ fun H1 e1 => ha H1 e1 _ fun H2 e2 => hb H2 (e1.trans e2) _ fun H3 e3 => ⟨d, _, rfl, DPut.k (e3 _ _ (e2 _ _ (e1 _ _ hd))) (Evl.sz_lt hl), q H3 ((e1.trans e2).trans e3)⟩
/-- for k in d: -/
theorem s_forK {D : Ends} {tu : TS} {j : Nat} {kvs : List (Key × V)} (hd : H d = some (.dK kvs)) (h : ∀ od, Ev te σ (upd H d (.frz od (.dK kvs))) (.ref d)) (Pv : Obj → Nat → L2.St → Hp → Prop)
    (h0 : ∀ od H1, Ex (upd H d (.frz od (.dK kvs))) H1 → Pv od 0 σ H1) (hk : ∀ od i σ' H', Pv od i σ' H' → H' d = some (.frz od (.dK kvs)))
    (hs : ∀ od i k v σ' H', kvs[i]? = some (k, v) → Pv od i σ' H' → tu { nx := Pv od (i + 1), ct := Pv od (i + 1), bk := fun σ' H' => H' d = some (.frz od (.dK kvs)) ∧ D.nx σ' (upd H' d (.dK kvs)), rt := fun v H' => H' d = some (.frz od (.dK kvs)) ∧ D.rt v (upd H' d (.dK kvs)) } (σ'.set j (some (kV k))) H')
    (hz : ∀ od σ' H', Pv od kvs.length σ' H' → D.nx σ' (upd H' d (.dK kvs))) : tLock (tFor (iKeys te) (gName j) tu) D σ H :=
  ⟨d, .dK kvs, hd, trivial, fun od => h od _ (Ex.refl _) _ fun H1 e => ⟨d, od, rfl, .inl ⟨kvs, e _ _ upd_same, fun i m σ' H' => m = kvs.length - i ∧ i ≤ kvs.length ∧ Pv od i σ' H', ⟨kvs.length, by simp, Nat.zero_le _, h0 od H1 e⟩, fun i m σ' H' hw => by
    obtain ⟨rfl, hi, p⟩ := hw
    by_cases hlt : i < kvs.length
    · refine .inr ⟨⟨hk od i σ' H' p, hlt⟩, Pv od (i + 1), fun σ2 H2 p' => ⟨kvs.length - (i + 1), by omega, rfl, hlt, p'⟩, fun x H2 y => ?_⟩
      obtain ⟨e1, k, v, hkv, e2⟩ := y
      subst e1
      subst e2
      exact hs od i k v σ' _ hkv p
    · have e1 : i = kvs.length := by omega
      subst e1
      exact .inl ⟨⟨hk od _ σ' H' p, Nat.le_refl _⟩, hk od _ σ' H' p, hz od σ' H' p⟩⟩⟩⟩
theorem unlock {H' : Hp} {kvs : List (Key × V)} {od : Obj} (hd : H d = some (.dK kvs)) (e : Ex (upd H d (.frz od (.dK kvs))) H') : Ex H (upd H' d (.dK kvs)) := fun b o h => by
  by_cases hb : b = d
  · rw [hb, hd] at h
    rw [hb, upd_same]
    exact h
  · rw [upd_ne hb]
    exact e _ _ (by rw [upd_ne hb]; exact h)
/-- while xs: -/
theorem et_tru {p : Addr} {xs : List V} (ha : Ev ta σ H (.ref p)) (h : H p = some (.lst xs)) : EvT (tTru K ta) σ H (!xs.isEmpty) := fun H1 e Q q => ha H1 e _ fun H2 e2 => ⟨_, .inl ⟨xs, sq_of (e2 _ _ (e _ _ h)), rfl⟩, q H2 e2⟩
/-- xs.pop() -/
theorem e_pop {p : Addr} {xs : List V} {y : V} {Q : VK} (ha : Ev ta σ H (.ref p)) (h : H p = some (.lst (xs ++ [y]))) (k : ∀ H1, Ex H H1 → Q y (upd H1 p (.lst xs))) : tBM0 K "list" rPop ta σ H Q :=
  ha H (Ex.refl H) _ fun H1 e1 => ⟨.inl ⟨rfl, _, sq_of (e1 _ _ h)⟩, p, xs ++ [y], y, rfl, rfl, e1 _ _ h, by simp, by rw [List.dropLast_concat]; exact k H1 e1⟩
end
/-! ### the tree -/
structure Tx (K : PySem.W.Frag) (CT CN : Addr) : Prop where
  clT : Cls K CT
  clN : Cls K CN
  nRoot : NoAttr K CT "root"
  nCount : NoAttr K CT "count"
  nBelow : NoAttr K CN "below"
  nEnd : NoAttr K CN "is_end"
/-- a method, a class to be made -/
structure CalM (P : Program) (w : World) (K : PySem.W.Frag) (mg : Str → Option Value) (base : Heap) (CX : CXT) (k : Nat) (C : Addr) (m : Str) (ps : List Str) (sp : Sp) : Prop where
  ex : ∃ (f : Addr) (fd : FuncData), FnOk P w K mg base CX k f fd ps sp ∧ Meth K C m f ∧ Binds K fd ps []
structure CalI (P : Program) (w : World) (K : PySem.W.Frag) (mg : Str → Option Value) (base : Heap) (k : Nat) (C : Addr) (ps : List Str) (sp : Sp) : Prop where
  ex : ∃ (f : Addr) (fd : FuncData), FnOk P w K mg base CX0 k f fd ps sp ∧ Mk K C f ∧ Binds K fd ps []
abbrev fT (a : Addr) (n : Int) : List (Str × V) := [("root", .ref a), ("count", .int n)]
abbrev fN (d : Addr) (b : Bool) : List (Str × V) := [("below", .ref d), ("is_end", .bl b)]
theorem ne_TN {a d : Addr} {n : Int} {b : Bool} (z : fT a n = fN d b) : False := absurd (Prod.mk.inj (List.cons.inj z).1).1 (by decide +kernel)
def ky (c : Nat) : Key := .inr ⟨#[c]⟩
theorem kV_ky (c : Nat) : kV (ky c) = tx [c] := rfl
theorem ky_inj {c d : Nat} (h : ky c = ky d) : c = d := by
  have e : (⟨#[c]⟩ : Str) = ⟨#[d]⟩ := Sum.inr.inj h
  have e2 := congrArg Str.cps e
  simpa using e2
def kid (A : List Nat → Addr) (t : List Nat) (c : Nat) : Key × V := (ky c, .ref (A (t ++ [c])))
theorem val_kids (A : List Nat → Addr) (t : List Nat) (c : Nat) : ∀ cs : List Nat, valV (cs.map (kid A t)) (ky c) = if c ∈ cs then some (.ref (A (t ++ [c]))) else none
  | [] => rfl
  | d :: cs => by
    rw [List.map_cons]
    by_cases h : d = c
    · subst h
      rw [valV_pos (show (kid A t d).1 = ky d from rfl), if_pos List.mem_cons_self]
      rfl
    · rw [valV_neg (show ¬ (kid A t d).1 = ky c from fun z => h (ky_inj z)), val_kids A t c cs]
      have e : (c ∈ d :: cs) ↔ c ∈ cs := ⟨fun z => (List.mem_cons.mp z).resolve_left fun y => h y.symm, List.mem_cons_of_mem _⟩
      simp only [e]
theorem put_kids {A : List Nat → Addr} {t : List Nat} {c : Nat} {x : Addr} {cs : List Nat} (h : c ∉ cs) : putK (cs.map (kid A t)) (ky c) (.ref x) = cs.map (kid A t) ++ [(ky c, .ref x)] := by
  unfold putK
  rw [valV_any, val_kids, if_neg h]
  rfl
theorem drop_kids {A : List Nat → Addr} {t : List Nat} {c : Nat} : ∀ cs : List Nat, dropK (cs.map (kid A t)) (ky c) = (cs.filter fun d => decide (d ≠ c)).map (kid A t)
  | [] => rfl
  | d :: cs => by
    unfold dropK
    rw [List.map_cons, List.filter_cons, List.filter_cons]
    have ih := drop_kids (A := A) (t := t) (c := c) cs
    unfold dropK at ih
    rw [ih]
    by_cases h : d = c
    · subst h
      rw [if_neg (by simp [kid]), if_neg (by simp)]
    · rw [if_pos (decide_eq_true (show (kid A t d).1 ≠ ky c from fun z => h (ky_inj z))), if_pos (decide_eq_true h), List.map_cons]
/-- the nodes stand at S; W are the words; n is the count -/
structure TreeS (K : PySem.W.Frag) (CT CN r : Addr) (A D : List Nat → Addr) (S : List Nat → Prop) (W : List (List Nat)) (n : Int) (H : Hp) : Prop where
  tx : Tx K CT CN
  root : ∃ dx, H r = some (.ins CT dx (fT (A []) n))
  s0 : S []
  pre : ∀ t c, S (t ++ [c]) → S t
  node : ∀ t, S t → ∃ dx, H (A t) = some (.ins CN dx (fN (D t) (decide (t ∈ W))))
  dict : ∀ t, S t → ∃ cs : List Nat, cs.Nodup ∧ (∀ c, c ∈ cs ↔ S (t ++ [c])) ∧ H (D t) = some (.dK (cs.map (kid A t)))
  injA : ∀ t t', S t → S t' → A t = A t' → t = t'
  injD : ∀ t t', S t → S t' → D t = D t' → t = t'
/-- where a tree stands -/
def foot (r : Addr) (A D : List Nat → Addr) (S : List Nat → Prop) (a : Addr) : Prop := a = r ∨ ∃ t, S t ∧ (a = A t ∨ a = D t)
/-- all else stays -/
def Fr (H H' : Hp) (F : Addr → Prop) : Prop := ∀ a o, H a = some o → ¬ F a → H' a = some o
theorem Fr.ex {H H' : Hp} {F : Addr → Prop} (e : Ex H H') : Fr H H' F := fun a o h _ => e a o h
theorem Fr.trans {H H1 H2 : Hp} {F : Addr → Prop} (h : Fr H H1 F) (h' : Fr H1 H2 F) : Fr H H2 F := fun a o e n => h' a o (h a o e n) n
theorem Fr.upd {H H1 : Hp} {F : Addr → Prop} {a : Addr} {o : HO} (h : Fr H H1 F) (ha : F a) : Fr H (upd H1 a o) F := fun b u e n => by
  rw [upd_ne (fun z => n (by rw [z]; exact ha))]
  exact h b u e n
/-- objects of a tree -/
def isT : HO → Prop
  | .ins _ _ _ => True
  | .dK _ => True
  | _ => False
/-- the trees' own objects stay -/
def ExT (H H' : Hp) : Prop := ∀ a o, H a = some o → isT o → H' a = some o
theorem ExT.of {H H' : Hp} (e : Ex H H') : ExT H H' := fun a o h _ => e a o h
theorem ExT.trans {H H1 H2 : Hp} (e : ExT H H1) (e' : ExT H1 H2) : ExT H H2 := fun a o h t => e' a o (e a o h t) t
theorem ExT.upd {H H1 : Hp} {l : Addr} {xs : List V} {o : HO} (e : ExT H H1) (h : H1 l = some (.lst xs)) : ExT H (upd H1 l o) := fun a u ha t => by
  have h1 := e a u ha t
  rw [upd_ne (fun z => by rw [z, h] at h1; cases h1; exact t)]
  exact h1
section
variable {K : PySem.W.Frag} {CT CN r : Addr} {A D : List Nat → Addr} {S : List Nat → Prop} {W : List (List Nat)} {n : Int} {H H' : Hp}
theorem TreeS.upT (e : ExT H H') (h : TreeS K CT CN r A D S W n H) : TreeS K CT CN r A D S W n H' where
  tx := h.tx
  root := let ⟨dx, hr⟩ := h.root; ⟨dx, e _ _ hr trivial⟩
  s0 := h.s0
  pre := h.pre
  node := fun t ht => let ⟨dx, hn⟩ := h.node t ht; ⟨dx, e _ _ hn trivial⟩
  dict := fun t ht => let ⟨cs, h1, h2, h3⟩ := h.dict t ht; ⟨cs, h1, h2, e _ _ h3 trivial⟩
  injA := h.injA
  injD := h.injD
theorem TreeS.up (e : Ex H H') (h : TreeS K CT CN r A D S W n H) : TreeS K CT CN r A D S W n H' := h.upT (.of e)
theorem TreeS.congr {S' : List Nat → Prop} (hs : ∀ t, S t ↔ S' t) (h : TreeS K CT CN r A D S W n H) : TreeS K CT CN r A D S' W n H := by
  have e : S = S' := funext fun t => propext (hs t)
  rw [← e]
  exact h
theorem TreeS.here (h : TreeS K CT CN r A D S W n H) {a : Addr} (f : foot r A D S a) : ∃ o, H a = some o ∧ isT o := by
  rcases f with rfl | ⟨t, ht, rfl | rfl⟩
  · obtain ⟨dx, h⟩ := h.root; exact ⟨_, h, trivial⟩
  · obtain ⟨dx, h⟩ := h.node t ht; exact ⟨_, h, trivial⟩
  · obtain ⟨cs, _, _, h⟩ := h.dict t ht; exact ⟨_, h, trivial⟩
/-- a tree that another's change leaves alone -/
theorem TreeS.far {F : Addr → Prop} (h : TreeS K CT CN r A D S W n H) (f : Fr H H' F) (hn : ∀ a, foot r A D S a → ¬ F a) : TreeS K CT CN r A D S W n H' where
  tx := h.tx
  root := let ⟨dx, hr⟩ := h.root; ⟨dx, f _ _ hr (hn _ (.inl rfl))⟩
  s0 := h.s0
  pre := h.pre
  node := fun t ht => let ⟨dx, hd⟩ := h.node t ht; ⟨dx, f _ _ hd (hn _ (.inr ⟨t, ht, .inl rfl⟩))⟩
  dict := fun t ht => let ⟨cs, h1, h2, h3⟩ := h.dict t ht; ⟨cs, h1, h2, f _ _ h3 (hn _ (.inr ⟨t, ht, .inr rfl⟩))⟩
  injA := h.injA
  injD := h.injD
theorem dec_congr {p q : Prop} [Decidable p] [Decidable q] (h : p ↔ q) : decide p = decide q := dec_eq h
/-- t's end is set to b -/
theorem TreeS.setEnd {t : List Nat} {b : Bool} {dx : Addr} {W' : List (List Nat)} (h : TreeS K CT CN r A D S W n H) (ht : S t) (hi : H (A t) = some (.ins CN dx (fN (D t) (decide (t ∈ W))))) (hw : ∀ s, s ≠ t → (s ∈ W' ↔ s ∈ W)) (hb : (decide (t ∈ W')) = b) :
    TreeS K CT CN r A D S W' n (upd H (A t) (.ins CN dx (fN (D t) b))) where
  tx := h.tx
  root := by
    obtain ⟨dr, hr⟩ := h.root
    refine ⟨dr, ?_⟩
    rw [upd_ne (fun z => by
      rw [z, hi] at hr
      exact ne_TN (HO.ins.inj (Option.some.inj hr)).2.2.symm)]
    exact hr
  s0 := h.s0
  pre := h.pre
  node := fun s hs => by
    by_cases e : s = t
    · subst e
      exact ⟨dx, by rw [upd_same, hb]⟩
    · obtain ⟨d2, hd⟩ := h.node s hs
      refine ⟨d2, ?_⟩
      rw [upd_ne (fun z => e (h.injA _ _ hs ht z)), dec_congr (hw s e)]
      exact hd
  dict := fun s hs => by
    obtain ⟨cs, h1, h2, h3⟩ := h.dict s hs
    refine ⟨cs, h1, h2, ?_⟩
    rw [upd_ne (fun z => by rw [z, hi] at h3; cases h3)]
    exact h3
  injA := h.injA
  injD := h.injD
/-- the count is set -/
theorem TreeS.setCount {m : Int} {dx : Addr} (h : TreeS K CT CN r A D S W n H) (hi : H r = some (.ins CT dx (fT (A []) n))) : TreeS K CT CN r A D S W m (upd H r (.ins CT dx (fT (A []) m))) where
  tx := h.tx
  root := ⟨dx, upd_same⟩
  s0 := h.s0
  pre := h.pre
  node := fun s hs => by
    obtain ⟨d2, hd⟩ := h.node s hs
    refine ⟨d2, ?_⟩
    rw [upd_ne (fun z => by
      rw [z, hi] at hd
      exact ne_TN (HO.ins.inj (Option.some.inj hd)).2.2)]
    exact hd
  dict := fun s hs => by
    obtain ⟨cs, h1, h2, h3⟩ := h.dict s hs
    refine ⟨cs, h1, h2, ?_⟩
    rw [upd_ne (fun z => by rw [z, hi] at h3; cases h3)]
    exact h3
  injA := h.injA
  injD := h.injD
def setAt (A : List Nat → Addr) (t : List Nat) (x : Addr) : List Nat → Addr := fun s => if s = t then x else A s
theorem setAt_same {t : List Nat} {x : Addr} : setAt A t x t = x := if_pos rfl
theorem setAt_ne {s t : List Nat} {x : Addr} (h : s ≠ t) : setAt A t x s = A s := if_neg h
theorem snoc_ne {t : List Nat} {c : Nat} : t ≠ t ++ [c] := fun z => by
  have := congrArg List.length z
  simp at this
theorem snoc_inj {s t : List Nat} {c d : Nat} (h : s ++ [c] = t ++ [d]) : s = t ∧ c = d := by
  have := List.append_inj' h rfl
  exact ⟨this.1, by simpa using this.2⟩
/-- a new node x, its dict d, below t at the letter c -/
theorem TreeS.grow {t : List Nat} {c : Nat} {cs : List Nat} {x d dx : Addr} (h : TreeS K CT CN r A D S W n H) (ht : S t) (hn : ¬ S (t ++ [c])) (hw : t ++ [c] ∉ W) (hcs : cs.Nodup) (hc : ∀ c, c ∈ cs ↔ S (t ++ [c])) (hd : H (D t) = some (.dK (cs.map (kid A t))))
    (x0 : H x = none) (d0 : H d = none) (e : Ex H H') (hx : H' x = some (.ins CN dx (fN d false))) (hd' : H' d = some (.dK [])) :
    TreeS K CT CN r (setAt A (t ++ [c]) x) (setAt D (t ++ [c]) d) (fun s => S s ∨ s = t ++ [c]) W n (upd H' (D t) (.dK (cs.map (kid A t) ++ [(ky c, .ref x)]))) := by
  have ns : ∀ {s}, S s → s ≠ t ++ [c] := fun hs z => hn (by rw [← z]; exact hs)
  have dt : d ≠ D t := fun z => by rw [z, hd] at d0; cases d0
  have xt : x ≠ D t := fun z => by rw [z, hd] at x0; cases x0
  have nA : ∀ {s}, S s → A s ≠ x := fun hs z => by
    obtain ⟨_, hh⟩ := h.node _ hs
    rw [z, x0] at hh
    cases hh
  have nD : ∀ {s}, S s → D s ≠ d := fun hs z => by
    obtain ⟨_, _, _, hh⟩ := h.dict _ hs
    rw [z, d0] at hh
    cases hh
  refine ⟨h.tx, ?_, .inl h.s0, ?_, ?_, ?_, ?_, ?_⟩
  · obtain ⟨dr, hr⟩ := h.root
    refine ⟨dr, ?_⟩
    rw [upd_ne (fun z => by rw [z, hd] at hr; cases hr), setAt_ne (by simp)]
    exact e _ _ hr
  · rintro s c' (hs | hs)
    · exact .inl (h.pre s c' hs)
    · exact .inl (by rw [(snoc_inj hs).1]; exact ht)
  · rintro s (hs | rfl)
    · obtain ⟨d2, hh⟩ := h.node s hs
      refine ⟨d2, ?_⟩
      rw [setAt_ne (ns hs), setAt_ne (ns hs), upd_ne (fun z => by rw [z, hd] at hh; cases hh)]
      exact e _ _ hh
    · refine ⟨dx, ?_⟩
      rw [setAt_same, setAt_same, upd_ne xt, hx, decide_eq_false hw]
  · rintro s (hs | rfl)
    · rw [setAt_ne (ns hs)]
      by_cases est : s = t
      · subst est
        have hcn : c ∉ cs := fun z => hn ((hc c).mp z)
        refine ⟨cs ++ [c], ?_, fun c' => ?_, ?_⟩
        · rw [List.nodup_append]
          refine ⟨hcs, by simp, fun a ha b hb z => ?_⟩
          rw [List.mem_singleton] at hb
          rw [z, hb] at ha
          exact hcn ha
        · rw [List.mem_append, List.mem_singleton, hc]
          constructor
          · rintro (h | rfl)
            · exact .inl h
            · exact .inr rfl
          · rintro (h | h)
            · exact .inl h
            · exact .inr (snoc_inj h).2
        · rw [upd_same, List.map_append]
          congr 3
          · refine List.map_congr_left fun a ha => ?_
            unfold kid
            rw [setAt_ne (fun z => hcn (by rw [← (snoc_inj z).2]; exact ha))]
          · simp [kid, setAt_same]
      · obtain ⟨cs2, h1, h2, h3⟩ := h.dict s hs
        refine ⟨cs2, h1, fun c' => ?_, ?_⟩
        · rw [h2]
          exact ⟨.inl, fun z => z.resolve_right fun y => est (snoc_inj y).1⟩
        · rw [upd_ne (fun z => est (h.injD _ _ hs ht z)), e _ _ h3]
          congr 2
          refine List.map_congr_left fun a ha => ?_
          unfold kid
          rw [setAt_ne (fun z => est (snoc_inj z).1)]
    · refine ⟨[], by simp, fun c' => ⟨(fun z => by cases z), fun z => ?_⟩, ?_⟩
      · rcases z with z | z
        · exact absurd (h.pre _ _ z) hn
        · exact absurd (snoc_inj z).1.symm snoc_ne
      · rw [setAt_same, upd_ne dt, hd']
        rfl
  · rintro s s' (hs | rfl) (hs' | rfl) hh
    · rw [setAt_ne (ns hs), setAt_ne (ns hs')] at hh
      exact h.injA _ _ hs hs' hh
    · rw [setAt_ne (ns hs), setAt_same] at hh
      exact absurd hh (nA hs)
    · rw [setAt_ne (ns hs'), setAt_same] at hh
      exact absurd hh.symm (nA hs')
    · rfl
  · rintro s s' (hs | rfl) (hs' | rfl) hh
    · rw [setAt_ne (ns hs), setAt_ne (ns hs')] at hh
      exact h.injD _ _ hs hs' hh
    · rw [setAt_ne (ns hs), setAt_same] at hh
      exact absurd hh (nD hs)
    · rw [setAt_ne (ns hs'), setAt_same] at hh
      exact absurd hh.symm (nD hs')
    · rfl
/-- what is below t at the letter c is cut off -/
theorem TreeS.prune {t : List Nat} {c : Nat} {cs : List Nat} (h : TreeS K CT CN r A D S W n H) (ht : S t) (hcs : cs.Nodup) (hc : ∀ c, c ∈ cs ↔ S (t ++ [c])) (hd : H (D t) = some (.dK (cs.map (kid A t)))) :
    TreeS K CT CN r A D (fun s => S s ∧ ¬ t ++ [c] <+: s) W n (upd H (D t) (.dK ((cs.filter fun d => decide (d ≠ c)).map (kid A t)))) := by
  refine ⟨h.tx, ?_, ⟨h.s0, fun z => by have := z.length_le; simp at this⟩, ?_, ?_, ?_, fun s s' hs hs' => h.injA s s' hs.1 hs'.1, fun s s' hs hs' => h.injD s s' hs.1 hs'.1⟩
  · obtain ⟨dr, hr⟩ := h.root
    refine ⟨dr, ?_⟩
    rw [upd_ne (fun z => by rw [z, hd] at hr; cases hr)]
    exact hr
  · rintro s c' ⟨h1, h2⟩
    exact ⟨h.pre s c' h1, fun z => h2 (z.trans (List.prefix_append s [c']))⟩
  · rintro s ⟨hs, _⟩
    obtain ⟨d2, hh⟩ := h.node s hs
    refine ⟨d2, ?_⟩
    rw [upd_ne (fun z => by rw [z, hd] at hh; cases hh)]
    exact hh
  · rintro s ⟨hs, hp⟩
    by_cases est : s = t
    · subst est
      refine ⟨_, hcs.sublist (List.filter_sublist), fun c' => ?_, upd_same⟩
      rw [List.mem_filter, hc, decide_eq_true_eq]
      refine and_congr_right fun _ => ⟨fun hne z => hne ?_, fun hne z => hne (by rw [z]; exact List.prefix_refl _)⟩
      have := List.IsPrefix.eq_of_length z (by simp)
      exact (snoc_inj this).2.symm
    · obtain ⟨cs2, h1, h2, h3⟩ := h.dict s hs
      refine ⟨cs2, h1, fun c' => ?_, by rw [upd_ne (fun z => est (h.injD _ _ hs ht z))]; exact h3⟩
      rw [h2]
      refine ⟨fun z => ⟨z, fun y => ?_⟩, fun z => z.1⟩
      rcases List.prefix_concat_iff.mp y with y | y
      · exact est (snoc_inj y).1.symm
      · exact hp y
end
/-- numbers below m, each once, are at most m -/
theorem nodup_len : ∀ (m : Nat) (cs : List Nat), cs.Nodup → (∀ c ∈ cs, c < m) → cs.length ≤ m
  | 0, cs, _, h => by
    cases cs with
    | nil => exact Nat.le_refl _
    | cons c r => exact absurd (h c List.mem_cons_self) (Nat.not_lt_zero c)
  | m + 1, cs, nd, h => by
    have h1 := nodup_len m (cs.erase m) (nd.erase m) fun c hc => by
      have h2 := (nd.mem_erase_iff).mp hc
      have := h c h2.2
      omega
    have : cs.length ≤ (cs.erase m).length + 1 := by
      by_cases hm : m ∈ cs
      · rw [List.length_erase_of_mem hm]; omega
      · rw [List.erase_of_not_mem hm]; omega
    omega
end Nw

set_option Elab.async false
set_option linter.all false
set_option maxRecDepth 100000
/-! Nw.Sort: sorted of texts, of any number -/
namespace Nw
open PySem L2 Evl PySem.W
def nSortedS (K : PySem.W.Frag) : List V → Hp → VK → Prop := fun vs H Q => ∃ (a : Addr) (ws : List (List Nat)), vs = [.ref a] ∧ SqL K H a (ws.map tx) ∧ ∀ p, H p = none → Q (.ref p) (upd H p (.lst ((srt ws).map tx)))
def isTx (v : Value) (w : List Nat) : Prop := ∃ t, v = .str ⟨w.toArray⟩ t
theorem each_tx : ∀ {ws : List (List Nat)} {us : List Value}, Vals (ws.map tx) us → EachIs isTx us ws
  | [], _, r => by cases r; exact .nil
  | w :: ws, _, r => by
    cases r with
    | cons r1 r2 => exact .cons r1 (each_tx r2)
theorem tx_each : ∀ {ws : List (List Nat)} {us : List Value}, EachIs isTx us ws → Vals (ws.map tx) us
  | _, _, .nil => .nil
  | _, _, .cons r1 r2 => .cons r1 (tx_each r2)
theorem each_imp {α β : Type} {R R' : α → β → Prop} (h : ∀ a b, R a b → R' a b) : ∀ {as : List α} {bs : List β}, EachIs R as bs → EachIs R' as bs
  | _, _, .nil => .nil
  | _, _, .cons r1 r2 => .cons (h _ _ r1) (each_imp h r2)
theorem le_tx : dataLe false (fun w : List Nat => PyData.str ⟨w.toArray⟩) = leT := by
  rw [dataLe_str (fun w : List Nat => (⟨w.toArray⟩ : Str))]
  rfl
theorem c_sortedS {X : Cx} (hu : X.A.units + 64 < cLine) : CallR X (.builtin "sorted") (nSortedS X.K) := by
  rintro pins s σ H xs us Q I r ⟨a, ws, rfl, hs, q⟩
  obtain ⟨its, rv, hl, hz⟩ := I.list hs
  obtain rfl := Vals.ref1 r
  have e := each_tx rv
  rw [List.length_map] at hz
  refine sorted_data (R := isTx) (enc := fun w => PyData.str ⟨w.toArray⟩) hl.isList e (each_imp (fun v w ⟨t, h⟩ => ⟨[], by rw [h]; exact .str _ _⟩) e) (AllAlike.of fun b b' => rfl) (Sortable.others fun b => ⟨(fun z => nomatch z), fun xs z => nomatch z⟩) hz (fun b _ => by show X.A.units + 2 + 0 < cLine; omega) fun out hlen h => ?_
  rw [le_tx] at h
  obtain ⟨ep, he⟩ := PyProof.Rows.sortedAll_at s.heap its out.toArray
  have hv : Vals ((srt ws).map tx) out := tx_each h
  exact ⟨.ref _, upd H (s.heap.objs.size + 1) (.lst ((srt ws).map tx)), I.laid (t' := s.toks) (fun _ _ => PyProof.Rows.sortedAll_old) (Nat.le_succ _) ⟨by rw [List.length_map, srt_len]; exact hz, out, ep, hv, by simpa using he⟩, rfl, q _ (I.hok.fresh (Nat.le_succ _))⟩
section
variable {K : PySem.W.Frag} {σ : L2.St} {H : Hp} {ta : TE}
theorem el_sortedS {a : Addr} {ws : List (List Nat)} (ha : Ev ta σ H (.ref a)) (h : SqL K H a (ws.map tx)) : EvL (tCB (nSortedS K) (tCons ta tNil)) σ H ((srt ws).map tx) := el_cb (ea_cons ha ea_nil) fun H1 e Q q => ⟨a, ws, rfl, ex_l e h, fun p hp => q p _ hp (Ex.new hp) upd_same⟩
end
end Nw

set_option Elab.async false
set_option linter.all false
set_option maxRecDepth 100000
/-! Nw.Tree: the defs of Node and Tree -/
namespace Nw
open PySem L2 Evl
structure Tree (K : PySem.W.Frag) (CT CN r : Addr) (A D : List Nat → Addr) (W : List (List Nat)) (H : Hp) : Prop where
  s : TreeS K CT CN r A D (dom W) W (W.length : Int) H
  nd : W.Nodup
  wd : ∀ w ∈ W, isW w = true
def sp_Node_init (K : PySem.W.Frag) (CN : Addr) : Sp := fun vs H Q _ => ∃ x dx, vs = [.ref x] ∧ H x = some (.ins CN dx []) ∧
  ∀ d H2, H d = none → d ≠ x → H2 x = some (.ins CN dx (fN d false)) → H2 d = some (.dK []) → (∀ a o, a ≠ x → H a = some o → H2 a = some o) → Q .non H2
def sp_Tree_init (K : PySem.W.Frag) (CT CN : Addr) : Sp := fun vs H Q _ => ∃ r dr, vs = [.ref r] ∧ H r = some (.ins CT dr []) ∧
  ∀ x d H2, H x = none → H d = none → x ≠ d → x ≠ r → d ≠ r → H2 r = some (.ins CT dr (fT x 0)) → (∃ dx, H2 x = some (.ins CN dx (fN d false))) → H2 d = some (.dK []) → (∀ a o, a ≠ r → H a = some o → H2 a = some o) → Q .non H2
def sp_Tree_found (K : PySem.W.Frag) (CT CN : Addr) : Sp := fun vs H Q _ => ∃ r t A D W, vs = [.ref r, tx t] ∧ Tree K CT CN r A D W H ∧ t.length ≤ 1000 ∧ RetV (if dom W t then .ref (A t) else .non) H Q
def sp_Tree_has (K : PySem.W.Frag) (CT CN CB : Addr) : Sp := fun vs H Q E => ∃ r v A D W, vs = [.ref r, v] ∧ Tree K CT CN r A D W H ∧ Any v H ∧ (∀ w, v = tx w → isW w = true → RetV (.bl (decide (w ∈ W))) H Q) ∧ (¬ IsWd v → RetE CB H E)
def sp_Tree_put (K : PySem.W.Frag) (CT CN CB CF : Addr) : Sp := fun vs H Q E => ∃ r v A D W, vs = [.ref r, v] ∧ Tree K CT CN r A D W H ∧ Any v H ∧
  (∀ w, v = tx w → isW w = true → (w ∈ W → RetV (.bl false) H Q) ∧ (w ∉ W → 400 ≤ W.length → RetE CF H E) ∧
    (w ∉ W → W.length < 400 → ∀ A' D' H2, Tree K CT CN r A' D' (W ++ [w]) H2 → Fr H H2 (foot r A D (dom W)) → (∀ a, foot r A' D' (dom (W ++ [w])) a → foot r A D (dom W) a ∨ H a = none) → Q (.bl true) H2)) ∧ (¬ IsWd v → RetE CB H E)
def sp_Tree_take (K : PySem.W.Frag) (CT CN CB : Addr) : Sp := fun vs H Q E => ∃ r v A D W, vs = [.ref r, v] ∧ Tree K CT CN r A D W H ∧ Any v H ∧
  (∀ w, v = tx w → isW w = true → (w ∉ W → RetV (.bl false) H Q) ∧ (w ∈ W → ∀ H2, Tree K CT CN r A D (W.erase w) H2 → Fr H H2 (foot r A D (dom W)) → Q (.bl true) H2)) ∧ (¬ IsWd v → RetE CB H E)
def begW (W : List (List Nat)) (b : List Nat) : List (List Nat) := W.filter fun w => decide (b <+: w)
def sp_Tree_begun (K : PySem.W.Frag) (CT CN CB : Addr) : Sp := fun vs H Q E => ∃ r v A D W, vs = [.ref r, v] ∧ Tree K CT CN r A D W H ∧ W.length ≤ 1000 ∧ Any v H ∧ (∀ w, v = tx w → isW w = true → RetL ((srt (begW W w)).map tx) H Q) ∧ (¬ IsWd v → RetE CB H E)
def sp_Tree_words (K : PySem.W.Frag) (CT CN CB : Addr) : Sp := fun vs H Q E => ∃ r A D W, vs = [.ref r] ∧ Tree K CT CN r A D W H ∧ W.length ≤ 1000 ∧ RetL ((srt W).map tx) H Q
def sp_Tree_many (K : PySem.W.Frag) (CT CN : Addr) : Sp := fun vs H Q _ => ∃ r A D W, vs = [.ref r] ∧ Tree K CT CN r A D W H ∧ RetV (.int (W.length : Int)) H Q
def sp_Tree_nodes (K : PySem.W.Frag) (CT CN : Addr) : Sp := fun vs H Q _ => ∃ r A D W, vs = [.ref r] ∧ Tree K CT CN r A D W H ∧ W.length ≤ 1000 ∧ RetV (.int ((begs W).length : Int)) H Q
/- Node.__init__(self): slots 0:self -/
def T_Node_init (K : PySem.W.Frag) : TS :=
 (tSeq (sFld K (tVar 0) tDNewK "below")
 (sFld K (tVar 0) (tC (.bl false)) "is_end"))
def n_Node_init : Nat := 1
/- Tree.__init__(self): slots 0:self -/
def T_Tree_init (K : PySem.W.Frag) (C_Tree C_Node : Addr) : TS :=
 (tSeq (sFld K (tVar 0) (tMake C_Node (sp_Node_init K C_Node) [] E0 tNil) "root")
 (sFld K (tVar 0) (tC (.int 0)) "count"))
def n_Tree_init : Nat := 1
/- Tree.found(self, text): slots 0:self 1:text 2:node 3:letter -/
def T_Tree_found (K : PySem.W.Frag) : TS :=
 (tSeq (tAsg (tFld K (tVar 0) "root") (gName 2))
 (tSeq (tFor (iStr (tVar 1)) (gName 3)
 (tSeq (tIfS (tB (tDNotIn (tVar 3) (tFld K (tVar 2) "below")))
 (tRet (tC .non)) tNext)
 (tAsg (tDGet (tFld K (tVar 2) "below") (tVar 3)) (gName 2))))
 (tRet (tVar 2))))
def n_Tree_found : Nat := 4
/- Tree.has(self, word): slots 0:self 1:word 2:node -/
def T_Tree_has (K : PySem.W.Frag) (C_Tree C_Node : Addr) (C_BadWord : Addr) (E : XK) : TS :=
 (tSeq (tDrop (tCall (sp_need_word K C_BadWord) [] E (tCons (tVar 1) tNil)))
 (tSeq (tAsg (tMeth C_Tree "found" (sp_Tree_found K C_Tree C_Node) [] E0 (tVar 0) (tCons (tVar 1) tNil)) (gName 2))
 (tRet (tAndV (tOp nNotN (tVar 2) (tC .non)) (tFld K (tVar 2) "is_end")))))
def n_Tree_has : Nat := 3
/- Tree.put(self, word): slots 0:self 1:word 2:node 3:letter -/
def T_Tree_put (K : PySem.W.Frag) (C_Tree C_Node : Addr) (C_BadWord C_Full : Addr) (E : XK) : TS :=
 (tSeq (tIfS (tB (tMeth C_Tree "has" (sp_Tree_has K C_Tree C_Node C_BadWord) [] E (tVar 0) (tCons (tVar 1) tNil)))
 (tRet (tC (.bl false))) tNext)
 (tSeq (tIfS (tTest (tOp nGe (tFld K (tVar 0) "count") (tC (.int 400))))
 (tRaise E (.ref C_Full)) tNext)
 (tSeq (tAsg (tFld K (tVar 0) "root") (gName 2))
 (tSeq (tFor (iStr (tVar 1)) (gName 3)
 (tSeq (tIfS (tB (tDNotIn (tVar 3) (tFld K (tVar 2) "below")))
 (sDPut (tFld K (tVar 2) "below") (tVar 3) (tMake C_Node (sp_Node_init K C_Node) [] E0 tNil)) tNext)
 (tAsg (tDGet (tFld K (tVar 2) "below") (tVar 3)) (gName 2))))
 (tSeq (sFld K (tVar 2) (tC (.bl true)) "is_end")
 (tSeq (sFldAug K (tVar 0) (tC (.int 1)) L2.rAdd "count")
 (tRet (tC (.bl true)))))))))
def n_Tree_put : Nat := 4
/- Tree.take(self, word): slots 0:self 1:word 2:node 3:kept 4:cut 5:letter -/
def T_Tree_take (K : PySem.W.Frag) (C_Tree C_Node : Addr) (C_BadWord : Addr) (E : XK) : TS :=
 (tSeq (tIfS (tNot (tB (tMeth C_Tree "has" (sp_Tree_has K C_Tree C_Node C_BadWord) [] E (tVar 0) (tCons (tVar 1) tNil))))
 (tRet (tC (.bl false))) tNext)
 (tSeq (sFldAug K (tVar 0) (tC (.int 1)) L2.rSub "count")
 (tSeq (tAsg (tFld K (tVar 0) "root") (gName 2))
 (tSeq (tAsg (tVar 2) (gName 3))
 (tSeq (tAsg (tC (tx [])) (gName 4))
 (tSeq (tFor (iStr (tVar 1)) (gName 5)
 (tSeq (tIfS (tOr (tB (tFld K (tVar 2) "is_end")) (tOr (tTest (tOp nGt (tCB nLenD (tCons (tFld K (tVar 2) "below") tNil)) (tC (.int 1)))) (tTest (tOp nEq (tVar 4) (tC (tx []))))))
 (tSeq (tAsg (tVar 2) (gName 3))
 (tAsg (tVar 5) (gName 4))) tNext)
 (tAsg (tDGet (tFld K (tVar 2) "below") (tVar 5)) (gName 2))))
 (tSeq (sFld K (tVar 2) (tC (.bl false)) "is_end")
 (tSeq (tIfS (tAnd (tTest (tOp nNe (tVar 4) (tC (tx [])))) (tTest (tOp nEq (tCB nLenD (tCons (tFld K (tVar 2) "below") tNil)) (tC (.int 0)))))
 (tDrop (tDPop1 (tFld K (tVar 3) "below") (tVar 4))) tNext)
 (tRet (tC (.bl true)))))))))))
def n_Tree_take : Nat := 6
/- Tree.begun(self, begin): slots 0:self 1:begin 2:node 3:found 4:waiting 5:text 6:letter -/
def T_Tree_begun (K : PySem.W.Frag) (C_Tree C_Node : Addr) (C_BadWord : Addr) (E : XK) : TS :=
 (tSeq (tDrop (tCall (sp_need_word K C_BadWord) [] E (tCons (tVar 1) tNil)))
 (tSeq (tAsg (tMeth C_Tree "found" (sp_Tree_found K C_Tree C_Node) [] E0 (tVar 0) (tCons (tVar 1) tNil)) (gName 2))
 (tSeq (tIfS (tTest (tOp nIsN (tVar 2) (tC .non)))
 (tRet (tLst tNil)) tNext)
 (tSeq (tAsg (tLst tNil) (gName 3))
 (tSeq (tAsg (tLst (tCons (tTup (tCons (tVar 2) (tCons (tVar 1) tNil))) tNil)) (gName 4))
 (tSeq (tWhile (tTru K (tVar 4))
 (tSeq (tAsg (tBM0 K "list" rPop (tVar 4)) (gTup K 2 (gCons (gName 2) (gCons (gName 5) gNil))))
 (tSeq (tIfS (tB (tFld K (tVar 2) "is_end"))
 (tDrop (tBM K "list" rAppend (tVar 3) (tCons (tVar 5) tNil))) tNext)
 (tLock (tFor (iKeys (tFld K (tVar 2) "below")) (gName 6)
 (tDrop (tBM K "list" rAppend (tVar 4) (tCons (tTup (tCons (tDGet (tFld K (tVar 2) "below") (tVar 6)) (tCons (tOp nCat (tVar 5) (tVar 6)) tNil))) tNil))))))))
 (tRet (tCB (nSortedS K) (tCons (tVar 3) tNil)))))))))
def n_Tree_begun : Nat := 7
/- Tree.words(self): slots 0:self -/
def T_Tree_words (K : PySem.W.Frag) (C_Tree C_Node : Addr) (C_BadWord : Addr) (E : XK) : TS :=
 (tRet (tMeth C_Tree "begun" (sp_Tree_begun K C_Tree C_Node C_BadWord) [] E (tVar 0) (tCons (tC (tx [])) tNil)))
def n_Tree_words : Nat := 1
/- Tree.many(self): slots 0:self -/
def T_Tree_many (K : PySem.W.Frag) : TS :=
 (tRet (tFld K (tVar 0) "count"))
def n_Tree_many : Nat := 1
/- Tree.nodes(self): slots 0:self 1:total 2:waiting 3:node 4:letter -/
def T_Tree_nodes (K : PySem.W.Frag) : TS :=
 (tSeq (tAsg (tC (.int 0)) (gName 1))
 (tSeq (tAsg (tLst (tCons (tFld K (tVar 0) "root") tNil)) (gName 2))
 (tSeq (tWhile (tTru K (tVar 2))
 (tSeq (tAsg (tBM0 K "list" rPop (tVar 2)) (gName 3))
 (tSeq (tAug 1 (tC (.int 1)) (ipI (fun i j => i + j)))
 (tLock (tFor (iKeys (tFld K (tVar 3) "below")) (gName 4)
 (tDrop (tBM K "list" rAppend (tVar 2) (tCons (tDGet (tFld K (tVar 3) "below") (tVar 4)) tNil))))))))
 (tRet (tVar 1)))))
def n_Tree_nodes : Nat := 5
theorem l_Node_init {K CN vs H Q E} (h : sp_Node_init K CN vs H Q E) : vs.length = 1 := by obtain ⟨_, _, rfl, _⟩ := h; rfl
theorem l_Tree_init {K CT CN vs H Q E} (h : sp_Tree_init K CT CN vs H Q E) : vs.length = 1 := by obtain ⟨_, _, rfl, _⟩ := h; rfl
theorem l_Tree_found {K CT CN vs H Q E} (h : sp_Tree_found K CT CN vs H Q E) : vs.length = 2 := by obtain ⟨_, _, _, _, _, rfl, _⟩ := h; rfl
theorem l_Tree_has {K CT CN CB vs H Q E} (h : sp_Tree_has K CT CN CB vs H Q E) : vs.length = 2 := by obtain ⟨_, _, _, _, _, rfl, _⟩ := h; rfl
theorem l_Tree_put {K CT CN CB CF vs H Q E} (h : sp_Tree_put K CT CN CB CF vs H Q E) : vs.length = 2 := by obtain ⟨_, _, _, _, _, rfl, _⟩ := h; rfl
theorem l_Tree_take {K CT CN CB vs H Q E} (h : sp_Tree_take K CT CN CB vs H Q E) : vs.length = 2 := by obtain ⟨_, _, _, _, _, rfl, _⟩ := h; rfl
theorem l_Tree_begun {K CT CN CB vs H Q E} (h : sp_Tree_begun K CT CN CB vs H Q E) : vs.length = 2 := by obtain ⟨_, _, _, _, _, rfl, _⟩ := h; rfl
theorem l_Tree_words {K CT CN CB vs H Q E} (h : sp_Tree_words K CT CN CB vs H Q E) : vs.length = 1 := by obtain ⟨_, _, _, _, rfl, _⟩ := h; rfl
theorem l_Tree_many {K CT CN vs H Q E} (h : sp_Tree_many K CT CN vs H Q E) : vs.length = 1 := by obtain ⟨_, _, _, _, rfl, _⟩ := h; rfl
theorem l_Tree_nodes {K CT CN vs H Q E} (h : sp_Tree_nodes K CT CN vs H Q E) : vs.length = 1 := by obtain ⟨_, _, _, _, rfl, _⟩ := h; rfl
section
variable {K : PySem.W.Frag} {vs : List V} {H H' : Hp} {Q : VK} {E : XK} {CT CN CB CF r : Addr} {A D : List Nat → Addr} {W : List (List Nat)} {n : Int} {S : List Nat → Prop} {σ : L2.St} {ta tb tc : TE}
theorem Tree.up (e : Ex H H') (h : Tree K CT CN r A D W H) : Tree K CT CN r A D W H' := ⟨h.s.up e, h.nd, h.wd⟩
theorem Tree.upT (e : ExT H H') (h : Tree K CT CN r A D W H) : Tree K CT CN r A D W H' := ⟨h.s.upT e, h.nd, h.wd⟩
/-! ### making -/
theorem put_below {y : V} : putF "below" y [] = ([("below", y)] : List (Str × V)) := rfl
theorem put_end {y z : V} : putF "is_end" y [("below", z)] = ([("below", z), ("is_end", y)] : List (Str × V)) := by
  rw [putF, if_neg (by decide +kernel)]
  rfl
theorem put_end2 {y z u : V} : putF "is_end" y [("below", z), ("is_end", u)] = ([("below", z), ("is_end", y)] : List (Str × V)) := by
  rw [putF, if_neg (by decide +kernel), putF, if_pos rfl]
theorem put_root {y : V} : putF "root" y [] = ([("root", y)] : List (Str × V)) := rfl
theorem put_count {y z : V} : putF "count" y [("root", z)] = ([("root", z), ("count", y)] : List (Str × V)) := by
  rw [putF, if_neg (by decide +kernel)]
  rfl
theorem put_count2 {y z u : V} : putF "count" y [("root", z), ("count", u)] = ([("root", z), ("count", y)] : List (Str × V)) := by
  rw [putF, if_neg (by decide +kernel), putF, if_pos rfl]
theorem R_Node_init (tx : Tx K CT CN) (h : sp_Node_init K CN vs H Q E) : T_Node_init K (fin Q) (slots n_Node_init vs) H := by
  obtain ⟨x, dx, rfl, hx, k⟩ := h
  show T_Node_init K (fin Q) [some (.ref x)] H
  unfold T_Node_init
  intro p hp
  have hpx : p ≠ x := fun z => by rw [z, hx] at hp; cases hp
  refine ⟨_, rfl, x, CN, dx, [], rfl, by rw [upd_ne hpx.symm]; exact hx, tx.clN, tx.nBelow, by simp, ?_⟩
  rw [put_below]
  refine s_fld (fs' := fN p false) ev_c (ev_var rfl) upd_same tx.clN tx.nEnd (by simp) put_end fun H1 e1 => ?_
  refine k p _ hp hpx upd_same ?_ fun a o ha h => ?_
  · rw [upd_ne hpx]
    exact e1 _ _ (by rw [upd_ne hpx, upd_same])
  · have hap : a ≠ p := fun z => by rw [z, hp] at h; cases h
    rw [upd_ne ha]
    exact e1 _ _ (by rw [upd_ne ha, upd_ne hap]; exact h)
/-- Node() -/
theorem n_node {Q : VK} (k : ∀ x d dx H2, H x = none → H d = none → x ≠ d → Ex H H2 → H2 x = some (.ins CN dx (fN d false)) → H2 d = some (.dK []) → Q (.ref x) H2) : tMake CN (sp_Node_init K CN) [] E0 tNil σ H Q := fun x dx hx hdx hne =>
  ⟨x, dx, rfl, upd_same, fun d H2 hd hdx' h1 h2 h3 => ⟨rfl, by
    rw [upd_ne hdx'] at hd
    have hdd : d ≠ dx := fun z => by rw [z, upd_same] at hd; cases hd
    rw [upd_ne hdd] at hd
    refine k x d dx H2 hx hd (fun z => hdx' z.symm) (fun b o hb => h3 b o (ne_of_none hb hx) ?_) h1 h2
    rw [upd_ne (ne_of_none hb hx), upd_ne (ne_of_none hb hdx)]
    exact hb⟩⟩
theorem q_fldN {te : TE} {D : Ends} {tz : TS} {f : Str} (h : te σ H fun y H1 => ta σ H1 fun x H2 => ∃ a C dx fs, x = .ref a ∧ H2 a = some (.ins C dx fs) ∧ Cls K C ∧ NoAttr K C f ∧ fs.length < 1000 ∧ tz D σ (upd H2 a (.ins C dx (putF f y fs)))) : tSeq (sFld K ta te f) tz D σ H := h
theorem R_Tree_init (tx : Tx K CT CN) (h : sp_Tree_init K CT CN vs H Q E) : T_Tree_init K CT CN (fin Q) (slots n_Tree_init vs) H := by
  obtain ⟨r, dr, rfl, hr, k⟩ := h
  show T_Tree_init K CT CN (fin Q) [some (.ref r)] H
  unfold T_Tree_init
  refine q_fldN ?_
  refine n_node fun x d dx H2 hx hd hxd e h1 h2 => ⟨_, rfl, r, CT, dr, [], rfl, e _ _ hr, tx.clT, tx.nRoot, by simp, ?_⟩
  have hrx : x ≠ r := fun z => by rw [z, hr] at hx; cases hx
  have hrd : d ≠ r := fun z => by rw [z, hr] at hd; cases hd
  rw [put_root]
  refine s_fld (fs' := fT x 0) ev_c (ev_var rfl) upd_same tx.clT tx.nCount (by simp) put_count fun H3 e3 => ?_
  have go : ∀ {a : Addr} {o : HO}, a ≠ r → H2 a = some o → upd H3 r (.ins CT dr (fT x 0)) a = some o := fun ha h => by
    rw [upd_ne ha]
    exact e3 _ _ (by rw [upd_ne ha]; exact h)
  exact k x d _ hx hd hxd hrx hrd upd_same ⟨dx, go hrx h1⟩ (go hrd h2) fun a o ha h => go ha (e _ _ h)
/-- Tree() -/
theorem n_tree {Q : VK} (tx : Tx K CT CN) (k : ∀ r A D H2, H r = none → (∀ a, foot r A D (dom []) a → H a = none) → Ex H H2 → Tree K CT CN r A D [] H2 → Q (.ref r) H2) : tMake CT (sp_Tree_init K CT CN) [] E0 tNil σ H Q := fun r dr hr hdr hne =>
  ⟨r, dr, rfl, upd_same, fun x d H2 hx hd hxd hxr hdr' h1 h2 h3 h4 => ⟨rfl, by
    rw [upd_ne hxr] at hx
    rw [upd_ne hdr'] at hd
    have hx0 : H x = none := by
      rw [upd_ne (fun z => by rw [z, upd_same] at hx; cases hx)] at hx
      exact hx
    have hd0 : H d = none := by
      rw [upd_ne (fun z => by rw [z, upd_same] at hd; cases hd)] at hd
      exact hd
    have d0 : ∀ {t : List Nat}, dom [] t → t = [] := fun h => h.elim id fun ⟨w, hw, _⟩ => by cases hw
    have no : ∀ (t : List Nat) c, ¬ dom [] (t ++ [c]) := fun t c h => by
      have := d0 h
      simp at this
    refine k r (fun _ => x) (fun _ => d) H2 hr ?_ (fun b o hb => h4 b o (ne_of_none hb hr) ?_) ⟨⟨tx, ⟨dr, h1⟩, dom_nil _, fun t c h => absurd h (no t c), fun t ht => ?_, fun t ht => ⟨[], by simp, fun c => ⟨fun z => (by cases z), fun z => absurd z (no t c)⟩, h3⟩, fun t t' h h' _ => (d0 h).trans (d0 h').symm, fun t t' h h' _ => (d0 h).trans (d0 h').symm⟩, by simp, fun w hw => by cases hw⟩
    · rintro a (rfl | ⟨t, ht, rfl | rfl⟩)
      · exact hr
      · exact hx0
      · exact hd0
    · rw [upd_ne (ne_of_none hb hr), upd_ne (ne_of_none hb hdr)]
      exact hb
    · obtain ⟨dx, h2⟩ := h2
      exact ⟨dx, by simpa using h2⟩⟩⟩
/-! ### a node's fields -/
theorem e_root (h : TreeS K CT CN r A D S W n H) (ha : Ev ta σ H (.ref r)) : Ev (tFld K ta "root") σ H (.ref (A [])) := by
  obtain ⟨dx, hr⟩ := h.root
  exact e_fld ha hr h.tx.clT h.tx.nRoot lk_hd
theorem e_count (h : TreeS K CT CN r A D S W n H) (ha : Ev ta σ H (.ref r)) : Ev (tFld K ta "count") σ H (.int n) := by
  obtain ⟨dx, hr⟩ := h.root
  exact e_fld ha hr h.tx.clT h.tx.nCount ((lk_tl (by decide +kernel)).trans lk_hd)
theorem e_below {t : List Nat} (h : TreeS K CT CN r A D S W n H) (ht : S t) (ha : Ev ta σ H (.ref (A t))) : Ev (tFld K ta "below") σ H (.ref (D t)) := by
  obtain ⟨dx, hr⟩ := h.node t ht
  exact e_fld ha hr h.tx.clN h.tx.nBelow lk_hd
theorem e_end {t : List Nat} (h : TreeS K CT CN r A D S W n H) (ht : S t) (ha : Ev ta σ H (.ref (A t))) : Ev (tFld K ta "is_end") σ H (.bl (decide (t ∈ W))) := by
  obtain ⟨dx, hr⟩ := h.node t ht
  exact e_fld ha hr h.tx.clN h.tx.nEnd ((lk_tl (by decide +kernel)).trans lk_hd)
/-- letter not in node.below -/
theorem e_nobelow {t : List Nat} {c : Nat} (h : TreeS K CT CN r A D S W n H) (ht : S t) (ha : Ev ta σ H (.ref (A t))) (hb : Ev tb σ H (tx [c])) : ∃ b, Ev (tDNotIn tb (tFld K ta "below")) σ H (.bl b) ∧ (b = true ↔ ¬ S (t ++ [c])) := by
  obtain ⟨cs, h1, h2, h3⟩ := h.dict t ht
  refine ⟨_, e_dnotin (k := ky c) hb (e_below h ht ha) (.inl h3), ?_⟩
  rw [val_kids, ← h2]
  by_cases hc : c ∈ cs
  · rw [if_pos hc]; simp [hc]
  · rw [if_neg hc]; simp [hc]
/-- node.below[letter] -/
theorem e_child {t : List Nat} {c : Nat} (h : TreeS K CT CN r A D S W n H) (ht : S (t ++ [c])) (ha : Ev ta σ H (.ref (A t))) (hb : Ev tb σ H (tx [c])) : Ev (tDGet (tFld K ta "below") tb) σ H (.ref (A (t ++ [c]))) := by
  obtain ⟨cs, h1, h2, h3⟩ := h.dict t (h.pre _ _ ht)
  refine e_dget (k := ky c) (e_below h (h.pre _ _ ht) ha) (.inl h3) hb ?_
  rw [val_kids, if_pos ((h2 c).mpr ht)]
theorem R_Tree_found (h : sp_Tree_found K CT CN vs H Q E) : T_Tree_found K (fin Q) (slots n_Tree_found vs) H := by
  obtain ⟨r, t, A, D, W, rfl, T, hl, k⟩ := h
  show T_Tree_found K (fin Q) [some (.ref r), some (tx t), none, none] H
  unfold T_Tree_found
  refine q_asg (e_root T.s (ev_var rfl)) fun H1 e1 => ?_
  refine q_forS (ev_var rfl) (fun i σ H' => (∃ x3, σ = [some (.ref r), some (tx t), some (.ref (A (t.take i))), x3]) ∧ dom W (t.take i) ∧ Ex H H') (fun H2 e2 => ⟨⟨_, rfl⟩, .inl rfl, e1.trans e2⟩) (fun i c σ H' hc hp => ?_) (fun σ H' hp => ?_)
  · obtain ⟨⟨x3, rfl⟩, hd, e⟩ := hp
    obtain ⟨b, hb, hi⟩ := e_nobelow (c := c) (σ := [some (.ref r), some (tx t), some (.ref (A (t.take i))), some (tx [c])]) (ta := tVar 2) (tb := tVar 3) (T.s.up e) hd (ev_var rfl) (ev_var rfl)
    refine q_when (et_B hb) (fun hh H2 e2 => ?_) (fun hh H2 e2 => ?_)
    · have hn := hi.mp hh
      rw [← take_get_snoc hc] at hn
      have hn' : ¬ dom W t := fun z => hn (dom_pre (List.take_prefix _ _) z)
      rw [if_neg hn'] at k
      exact s_ret ev_c fun H3 e3 => k _ ((e.trans e2).trans e3)
    · have hy : dom W (t.take i ++ [c]) := by
        by_cases z : dom W (t.take i ++ [c])
        · exact z
        · rw [hi.mpr z] at hh; cases hh
      refine s_asg (e_child (T.s.up (e.trans e2)) hy (ev_var rfl) (ev_var rfl)) fun H3 e3 => ?_
      rw [← take_get_snoc hc] at hy ⊢
      exact ⟨⟨_, rfl⟩, hy, (e.trans e2).trans e3⟩
  · obtain ⟨⟨x3, rfl⟩, hd, e⟩ := hp
    rw [List.take_length] at hd ⊢
    rw [if_pos hd] at k
    exact s_ret (ev_var rfl) fun H2 e2 => k _ (e.trans e2)
/-- a method of the tree -/
theorem e_meth {sp : Sp} {m : Str} {E : XK} {tr : TA} {vs : List V} {z : V} (h : TreeS K CT CN r A D S W n H) (hm : ∀ a k, (fT a k).lookup m = none) (ha : Ev ta σ H (.ref r)) (hr : EvA tr σ H vs) (hs : SpV sp (.ref r :: (vs ++ [])) H z) : Ev (tMeth CT m sp [] E ta tr) σ H z := fun H1 e Q q => by
  obtain ⟨dx, hi⟩ := h.root
  exact ha H1 e _ fun H2 e2 => ⟨r, dx, _, rfl, e2 _ _ (e _ _ hi), hm _ _, hr H2 (e.trans e2) _ fun H3 e3 => hs H3 ((e.trans e2).trans e3) Q (fun H4 e4 => q H4 ((e2.trans e3).trans e4)) E⟩
theorem g_meth {sp : Sp} {m : Str} {E : XK} {tr : TA} {vs : List V} {P : V → Hp → Prop} (h : TreeS K CT CN r A D S W n H) (hm : ∀ a k, (fT a k).lookup m = none) (ha : Ev ta σ H (.ref r)) (hr : EvA tr σ H vs) (hs : SpG sp (.ref r :: (vs ++ [])) H P) : EvG (tMeth CT m sp [] E ta tr) σ H P := fun H1 e Q q => by
  obtain ⟨dx, hi⟩ := h.root
  exact ha H1 e _ fun H2 e2 => ⟨r, dx, _, rfl, e2 _ _ (e _ _ hi), hm _ _, hr H2 (e.trans e2) _ fun H3 e3 => hs H3 ((e.trans e2).trans e3) Q (fun v H4 e4 p => q v H4 ((e2.trans e3).trans e4) p) E⟩
theorem el_meth {sp : Sp} {m : Str} {E : XK} {tr : TA} {vs xs : List V} (h : TreeS K CT CN r A D S W n H) (hm : ∀ a k, (fT a k).lookup m = none) (ha : Ev ta σ H (.ref r)) (hr : EvA tr σ H vs) (hs : SpL sp (.ref r :: (vs ++ [])) H xs) : EvL (tMeth CT m sp [] E ta tr) σ H xs := fun H1 e Q q => by
  obtain ⟨dx, hi⟩ := h.root
  exact ha H1 e _ fun H2 e2 => ⟨r, dx, _, rfl, e2 _ _ (e _ _ hi), hm _ _, hr H2 (e.trans e2) _ fun H3 e3 => hs H3 ((e.trans e2).trans e3) Q (fun p H4 hp e4 h4 => q p H4 (fresh_back (e2.trans e3) hp) ((e2.trans e3).trans e4) h4) E⟩
/-- a method's call, raw -/
theorem n_meth {sp : Sp} {m : Str} {E : XK} {tr : TA} {vs : List V} {Q : VK} (h : TreeS K CT CN r A D S W n H) (hm : ∀ a k, (fT a k).lookup m = none) (ha : Ev ta σ H (.ref r)) (hr : EvA tr σ H vs) (hs : ∀ H1, Ex H H1 → sp (.ref r :: (vs ++ [])) H1 Q E) : tMeth CT m sp [] E ta tr σ H Q := by
  obtain ⟨dx, hi⟩ := h.root
  exact ha H (Ex.refl H) _ fun H2 e2 => ⟨r, dx, _, rfl, e2 _ _ hi, hm _ _, hr H2 e2 _ fun H3 e3 => hs H3 (e2.trans e3)⟩
theorem no_m {m : Str} (h1 : (m == ("root" : Str)) = false) (h2 : (m == ("count" : Str)) = false) (a : Addr) (k : Int) : (fT a k).lookup m = none := by
  rw [lk_tl h1, lk_tl h2]
  rfl
theorem R_Tree_has (h : sp_Tree_has K CT CN CB vs H Q E) : T_Tree_has K CT CN CB E (fin Q) (slots n_Tree_has vs) H := by
  obtain ⟨r, v, A, D, W, rfl, T, hv, k, kE⟩ := h
  show T_Tree_has K CT CN CB E (fin Q) [some (.ref r), some v, none] H
  unfold T_Tree_has
  refine q_need_word (ev_var rfl) hv (fun hw H1 e1 => ?_) kE
  obtain ⟨w, rfl, hw⟩ := hw
  have hl := isW_le hw
  have T1 := T.up e1
  refine q_asg (e_meth T1.s (no_m (by decide +kernel) (by decide +kernel)) (ev_var rfl) (ea_cons (ev_var rfl) ea_nil) fun H2 e2 Q q E => ⟨r, w, A, D, W, rfl, T1.up e2, by omega, fun H3 e3 => q H3 e3⟩) fun H2 e2 => ?_
  have kQ := k w rfl hw
  by_cases hd : dom W w
  · rw [if_pos hd]
    refine s_ret (ev_is (ev_andV (a := true) (b := decide (w ∈ W)) (ev_is (e_notN (ev_var rfl)) (by rw [decide_eq_false (fun z => nomatch z)]; rfl)) fun _ => e_end (T1.up e2).s hd (ev_var rfl)) (by simp)) fun H3 e3 => kQ _ ((e1.trans e2).trans e3)
  · rw [if_neg hd]
    have hn : decide (w ∈ W) = false := decide_eq_false fun z => hd (dom_mem z)
    rw [hn] at kQ
    refine s_ret (ev_is (ev_andV (a := false) (b := false) (ev_is (e_notN (ev_var rfl)) (by rw [decide_eq_true rfl]; rfl)) fun hh => by cases hh) (by simp)) fun H3 e3 => kQ _ ((e1.trans e2).trans e3)
theorem R_Tree_many (h : sp_Tree_many K CT CN vs H Q E) : T_Tree_many K (fin Q) (slots n_Tree_many vs) H := by
  obtain ⟨r, A, D, W, rfl, T, k⟩ := h
  show T_Tree_many K (fin Q) [some (.ref r)] H
  unfold T_Tree_many
  exact s_ret (e_count T.s (ev_var rfl)) k
theorem R_Tree_words (h : sp_Tree_words K CT CN CB vs H Q E) : T_Tree_words K CT CN CB E (fin Q) (slots n_Tree_words vs) H := by
  obtain ⟨r, A, D, W, rfl, T, hl, k⟩ := h
  show T_Tree_words K CT CN CB E (fin Q) [some (.ref r)] H
  unfold T_Tree_words
  have e : begW W [] = W := List.filter_eq_self.mpr fun w _ => decide_eq_true List.nil_prefix
  refine s_retL (el_meth T.s (no_m (by decide +kernel) (by decide +kernel)) (ev_var rfl) (ea_cons ev_c ea_nil) fun H2 e2 Q q E => ⟨r, _, A, D, W, rfl, T.up e2, hl, .inl ⟨[], rfl, by decide⟩, fun w hw _ => by
    rw [← tx_inj.mp hw, e]
    exact q, fun hn => absurd ⟨[], rfl, by decide⟩ hn⟩) fun p H1 hp e1 h1 => k p H1 hp e1 h1
/-! ### put -/
theorem Fr.upd' {H1 : Hp} {F : Addr → Prop} {a : Addr} {o : HO} (h : Fr H H1 F) (ha : F a ∨ H a = none) : Fr H (L2.upd H1 a o) F := fun b u e n => by
  rw [upd_ne (fun z => ha.elim (fun h => n (by rw [z]; exact h)) fun h => by rw [z, h] at e; cases e)]
  exact h b u e n
/-- what stands while w is put: at its first i letters -/
structure PutI (K : PySem.W.Frag) (CT CN r : Addr) (A D : List Nat → Addr) (W : List (List Nat)) (n : Int) (H0 : Hp) (p : List Nat) (A' D' : List Nat → Addr) (H : Hp) : Prop where
  s : TreeS K CT CN r A' D' (fun t => dom W t ∨ t <+: p) W n H
  fr : Fr H0 H (foot r A D (dom W))
  at_ : ∀ t, (dom W t ∨ t <+: p) → (A' t = A t ∧ D' t = D t ∧ dom W t) ∨ (H0 (A' t) = none ∧ H0 (D' t) = none)
theorem PutI.up {H0 : Hp} {p : List Nat} {A' D' : List Nat → Addr} (e : Ex H H') (h : PutI K CT CN r A D W n H0 p A' D' H) : PutI K CT CN r A D W n H0 p A' D' H' := ⟨h.s.up e, h.fr.trans (.ex e), h.at_⟩
theorem PutI.dict {H0 : Hp} {p : List Nat} {A' D' : List Nat → Addr} (h : PutI K CT CN r A D W n H0 p A' D' H) {t : List Nat} (ht : dom W t ∨ t <+: p) : foot r A D (dom W) (D' t) ∨ H0 (D' t) = none :=
  (h.at_ t ht).imp (fun z => .inr ⟨t, z.2.2, .inr z.2.1⟩) fun z => z.2
theorem PutI.node {H0 : Hp} {p : List Nat} {A' D' : List Nat → Addr} (h : PutI K CT CN r A D W n H0 p A' D' H) {t : List Nat} (ht : dom W t ∨ t <+: p) : foot r A D (dom W) (A' t) ∨ H0 (A' t) = none :=
  (h.at_ t ht).imp (fun z => .inr ⟨t, z.2.2, .inl z.1⟩) fun z => z.1
theorem dom_low {c : Nat} {t : List Nat} (hw : ∀ w ∈ W, isW w = true) (h : dom W (t ++ [c])) : c < 123 := by
  rcases h with h | ⟨w, hm, hp⟩
  · simp at h
  · obtain ⟨u, rfl⟩ := hp
    exact ((of_decide_eq_true (hw _ hm)).2 c (by simp)).2
theorem not_longer {p : List Nat} {c : Nat} (h : p ++ [c] <+: p) : False := by
  have := h.length_le
  simp at this
  omega
/-- node.below[letter] = Node() -/
theorem s_grow {H0 : Hp} {p : List Nat} {c : Nat} {A' D' : List Nat → Addr} {Dn : Ends} (hW : ∀ w ∈ W, isW w = true) (h : PutI K CT CN r A D W n H0 p A' D' H) (hback : ∀ a, H a = none → H0 a = none) (hn : ¬ (dom W (p ++ [c]) ∨ p ++ [c] <+: p)) (ha : Ev ta σ H (.ref (A' p))) (hb : Ev tb σ H (tx [c]))
    (k : ∀ A'' D'' H2, PutI K CT CN r A D W n H0 (p ++ [c]) A'' D'' H2 → A'' p = A' p → (∀ a, H2 a = none → H0 a = none) → (∃ H3 o, Ex H H3 ∧ H2 = L2.upd H3 (D' p) o) → Dn.nx σ H2) : sDPut (tFld K ta "below") tb (tMake CN (sp_Node_init K CN) [] E0 tNil) Dn σ H := by
  have hp : dom W p ∨ p <+: p := .inr (List.prefix_refl p)
  obtain ⟨cs, h1, h2, h3⟩ := h.s.dict p hp
  refine n_node fun x d dx H2 hx hd hxd e2 i1 i2 => ?_
  have hE := e_below (h.s.up e2) hp (ha.mono e2)
  refine hE H2 (Ex.refl H2) _ fun H3 e3 => hb H3 (e2.trans e3) _ fun H4 e4 => ?_
  have e34 := e3.trans e4
  have e4' := e2.trans e34
  have hcn : c ∉ cs := fun z => hn ((h2 c).mp z)
  have hlen : (cs.map (kid A' p)).length ≤ 123 := by
    rw [List.length_map]
    exact nodup_len 123 cs h1 fun a ha => ((h2 a).mp ha).elim (dom_low hW) fun z => (not_longer z).elim
  refine ⟨D' p, _, rfl, DPut.k (k := ky c) (e4' _ _ h3) (Nat.lt_of_le_of_lt hlen (by decide)), ?_⟩
  rw [put_kids hcn]
  have g := h.s.grow hp hn (fun z => hn (.inl (dom_mem z))) h1 h2 h3 hx hd e4' (e34 _ _ i1) (e34 _ _ i2)
  have eS : ∀ s, ((dom W s ∨ s <+: p) ∨ s = p ++ [c]) ↔ (dom W s ∨ s <+: p ++ [c]) := fun s => by
    rw [List.prefix_concat_iff]
    constructor
    · rintro ((h | h) | h)
      · exact .inl h
      · exact .inr (.inr h)
      · exact .inr (.inl h)
    · rintro (h | h | h)
      · exact .inl (.inl h)
      · exact .inr h
      · exact .inl (.inr h)
  refine k _ _ _ ⟨g.congr eS, (h.fr.trans (.ex e4')).upd' (h.dict hp), fun t ht => ?_⟩ (setAt_ne snoc_ne) (fun a ha => ?_) ⟨H4, _, e4', rfl⟩
  · rcases (eS t).mpr ht with ht | rfl
    · have hne : t ≠ p ++ [c] := fun z => hn (by rw [← z]; exact ht)
      rw [setAt_ne hne, setAt_ne hne]
      exact h.at_ t ht
    · rw [setAt_same, setAt_same]
      exact .inr ⟨hback x hx, hback d hd⟩
  · by_cases hz : a = D' p
    · rw [hz, upd_same] at ha; cases ha
    · rw [upd_ne hz] at ha
      exact hback a (fresh_back e4' ha)
theorem q_whenE {te : TE} {tu tw tz : TS} {Dn : Ends} (h : ∀ Q' : VK, te σ H Q') : tSeq (tIfS (tB te) tu tw) tz Dn σ H := h _
theorem q_whenNE {te : TE} {tu tw tz : TS} {Dn : Ends} (h : ∀ Q' : VK, te σ H Q') : tSeq (tIfS (tNot (tB te)) tu tw) tz Dn σ H := h _
theorem R_Tree_put (h : sp_Tree_put K CT CN CB CF vs H Q E) : T_Tree_put K CT CN CB CF E (fin Q) (slots n_Tree_put vs) H := by
  obtain ⟨r, v, A, D, W, rfl, T, hv, k, kE⟩ := h
  show T_Tree_put K CT CN CB CF E (fin Q) [some (.ref r), some v, none, none] H
  unfold T_Tree_put
  by_cases hvw : ¬ IsWd v
  · exact q_whenE fun Q' => n_meth T.s (no_m (by decide +kernel) (by decide +kernel)) (ev_var rfl) (ea_cons (ev_var rfl) ea_nil) fun H1 e1 => ⟨r, v, A, D, W, rfl, T.up e1, any_up _ _ _ e1 hv, fun w hw hi => absurd ⟨w, hw, hi⟩ hvw, fun hn H2 e2 => kE hn H2 (e1.trans e2)⟩
  obtain ⟨w, rfl, hw⟩ := Classical.not_not.mp hvw
  have hl := isW_le hw
  obtain ⟨k1, k2, k3⟩ := k w rfl hw
  clear k kE
  refine q_when (b := decide (w ∈ W)) (et_B (e_meth T.s (no_m (by decide +kernel) (by decide +kernel)) (ev_var rfl) (ea_cons (ev_var rfl) ea_nil) fun H2 e2 Q q E => ⟨r, _, A, D, W, rfl, T.up e2, any_up _ _ _ e2 hv, fun w' hw' _ => by
    rw [← tx_inj.mp hw']
    exact fun H3 e3 => q H3 e3, fun hn => absurd ⟨w, rfl, hw⟩ hn⟩)) (fun hh H1 e1 => ?_) (fun hh H1 e1 => ?_)
  · exact s_ret ev_c fun H2 e2 => k1 (of_decide_eq_true hh) _ (e1.trans e2)
  have hnW := of_decide_eq_false hh
  have T1 := T.up e1
  refine q_when (b := decide (400 ≤ W.length)) (et_is (et_test (e_ge (e_count T1.s (ev_var rfl)) ev_c)) (dec_eq (by omega))) (fun hh H2 e2 => ?_) (fun hh H2 e2 => ?_)
  · exact raise_ok (k2 hnW (of_decide_eq_true hh)) (e1.trans e2)
  have hcnt := of_decide_eq_false hh
  have T2 := T1.up e2
  have e12 := e1.trans e2
  clear T1 e1 e2
  refine q_asg (e_root T2.s (ev_var rfl)) fun H3 e3 => ?_
  have e13 := e12.trans e3
  have hS0 : ∀ t, dom W t ↔ (dom W t ∨ t <+: w.take 0) := fun t => ⟨.inl, fun z => z.elim id fun z => by
    rw [List.take_zero, List.prefix_nil] at z
    rw [z]; exact dom_nil W⟩
  refine q_forS (w := w) (ev_var rfl) (fun i σ H' => ∃ A' D' x3, σ = [some (.ref r), some (tx w), some (.ref (A' (w.take i))), x3] ∧ PutI K CT CN r A D W (W.length : Int) H (w.take i) A' D' H' ∧ ∀ a, H' a = none → H a = none)
    (fun H4 e4 => ⟨A, D, _, rfl, ⟨((T2.up e3).up e4).s.congr hS0, .ex (e13.trans e4), fun t ht => .inl ⟨rfl, rfl, (hS0 t).mpr ht⟩⟩, fun a ha => fresh_back (e13.trans e4) ha⟩) (fun i c σ H' hc hp => ?_) (fun σ H' hp => ?_)
  · obtain ⟨A', D', x3, rfl, hP, hb⟩ := hp
    have hp : dom W (w.take i) ∨ w.take i <+: w.take i := .inr (List.prefix_refl _)
    obtain ⟨b, eb, hi⟩ := e_nobelow (c := c) (σ := [some (.ref r), some (tx w), some (.ref (A' (w.take i))), some (tx [c])]) (ta := tVar 2) (tb := tVar 3) hP.s hp (ev_var rfl) (ev_var rfl)
    refine Evl.q_when (et_B eb) (fun hh H4 e4 => ?_) (fun hh H4 e4 => ?_)
    · refine s_grow T.wd (hP.up e4) (fun a ha => hb a (fresh_back e4 ha)) (hi.mp hh) (ev_var rfl) (ev_var rfl) fun A'' D'' H5 hP5 hA hb5 _ => ?_
      rw [← hA]
      refine s_asg (e_child (c := c) hP5.s (.inr (List.prefix_refl _)) (ev_var rfl) (ev_var rfl)) fun H6 e6 => ?_
      rw [← take_get_snoc hc] at hP5 ⊢
      exact ⟨A'', D'', _, rfl, hP5.up e6, fun a ha => hb5 a (fresh_back e6 ha)⟩
    · have hy : dom W (w.take i ++ [c]) ∨ w.take i ++ [c] <+: w.take i := by
        by_cases z : dom W (w.take i ++ [c]) ∨ w.take i ++ [c] <+: w.take i
        · exact z
        · rw [hi.mpr z] at hh; cases hh
      have hP4 := hP.up e4
      refine s_asg (e_child hP4.s hy (ev_var rfl) (ev_var rfl)) fun H6 e6 => ?_
      have hy' := hy.resolve_right not_longer
      have eS : ∀ s, (dom W s ∨ s <+: w.take i) ↔ (dom W s ∨ s <+: w.take (i + 1)) := fun s => by
        rw [take_get_snoc hc, List.prefix_concat_iff]
        constructor
        · rintro (h | h)
          · exact .inl h
          · exact .inr (.inr h)
        · rintro (h | h | h)
          · exact .inl h
          · exact .inl (by rw [h]; exact hy')
          · exact .inr h
      have hP6 := hP4.up e6
      rw [← take_get_snoc hc]
      exact ⟨A', D', _, rfl, ⟨hP6.s.congr eS, hP6.fr, fun t ht => hP6.at_ t ((eS t).mpr ht)⟩, fun a ha => hb a (fresh_back (e4.trans e6) ha)⟩
  · obtain ⟨A', D', x3, rfl, hP, hb⟩ := hp
    rw [List.take_length] at hP ⊢
    have hp : dom W w ∨ w <+: w := .inr (List.prefix_refl _)
    obtain ⟨dx, hi⟩ := hP.s.node w hp
    refine q_fld (fs' := fN (D' w) true) ev_c (ev_var rfl) hi hP.s.tx.clN hP.s.tx.nEnd (by simp) put_end2 fun H4 e4 => ?_
    have hP4 := hP.up e4
    have S5 := hP4.s.setEnd (b := true) (W' := W ++ [w]) hp (e4 _ _ hi) (fun s hs => by rw [List.mem_append, List.mem_singleton]; exact ⟨fun z => z.resolve_right hs, .inl⟩) (by simp)
    have F5 := hP4.fr.upd' (o := .ins CN dx (fN (D' w) true)) (hP4.node hp)
    have B5 : ∀ a, L2.upd H4 (A' w) (.ins CN dx (fN (D' w) true)) a = none → H a = none := fun a ha => by
      by_cases hz : a = A' w
      · rw [hz, upd_same] at ha; cases ha
      · rw [upd_ne hz] at ha
        exact hb a (fresh_back e4 ha)
    generalize L2.upd H4 (A' w) (.ins CN dx (fN (D' w) true)) = H5 at S5 F5 B5
    obtain ⟨dr, hr⟩ := S5.root
    refine ⟨_, rfl, r, CT, dr, _, .int (W.length : Int), rfl, hr, S5.tx.clT, S5.tx.nCount, (lk_tl (by decide +kernel)).trans lk_hd, _, _, rfl, rfl, dr, _, hr, by simp, ?_⟩
    rw [put_count2]
    have S6 := S5.setCount (m := (W.length : Int) + 1) hr
    have F6 := F5.upd' (a := r) (o := .ins CT dr (fT (A' []) ((W.length : Int) + 1))) (.inl (.inl rfl))
    show tRet (tC (.bl true)) (fin Q) [some (.ref r), some (tx w), some (.ref (A' w)), x3] (L2.upd H5 r (.ins CT dr (fT (A' []) ((W.length : Int) + 1))))
    refine s_ret (v := .bl true) ev_c fun H7 e7 => ?_
    refine k3 hnW (by omega) A' D' H7 ⟨?_, ?_, ?_⟩ (F6.trans (.ex e7)) ?_
    · have e : ((W ++ [w]).length : Int) = (W.length : Int) + 1 := by rw [List.length_append]; rfl
      rw [e]
      exact (S6.congr fun t => (dom_add (W := W) (w := w) (t := t)).symm).up e7
    · rw [List.nodup_append]
      refine ⟨T.nd, by simp, fun a ha b hb z => ?_⟩
      rw [List.mem_singleton] at hb
      rw [z, hb] at ha
      exact hnW ha
    · intro u hu
      rcases List.mem_append.mp hu with hu | hu
      · exact T.wd u hu
      · rw [List.mem_singleton] at hu
        rw [hu]
        exact hw
    · rintro a (rfl | ⟨t, ht, rfl | rfl⟩)
      · exact .inl (.inl rfl)
      · exact hP.node (dom_add.mp ht)
      · exact hP.dict (dom_add.mp ht)
/-! ### take -/
theorem e_kids {t : List Nat} (h : TreeS K CT CN r A D S W n H) (ht : S t) (ha : Ev ta σ H (.ref (A t))) : ∃ cs : List Nat, cs.Nodup ∧ (∀ c, c ∈ cs ↔ S (t ++ [c])) ∧ H (D t) = some (.dK (cs.map (kid A t))) ∧ Ev (tCB nLenD (tCons (tFld K ta "below") tNil)) σ H (.int (cs.length : Int)) := by
  obtain ⟨cs, h1, h2, h3⟩ := h.dict t ht
  exact ⟨cs, h1, h2, h3, ev_is (e_lenD (e_below h ht ha) h3) (by rw [List.length_map])⟩
theorem br_of {t : List Nat} {cs : List Nat} (h1 : cs.Nodup) (h2 : ∀ c, c ∈ cs ↔ dom W (t ++ [c])) : (t ∈ W ∨ 1 < cs.length) ↔ Br W t := by
  constructor
  · rintro (h | h)
    · exact .inl h
    · match cs, h1, h2, h with
      | a :: b :: r, h1, h2, _ =>
        refine .inr ⟨a, b, fun z => ?_, (h2 a).mp (by simp), (h2 b).mp (by simp)⟩
        rw [List.nodup_cons] at h1
        exact h1.1 (by rw [z]; simp)
      | [_], _, _, h => exact absurd h (by simp)
      | [], _, _, h => exact absurd h (by simp)
  · rintro (h | ⟨c, c', hne, hc, hc'⟩)
    · exact .inl h
    · refine .inr ?_
      have m1 := (h2 c).mpr hc
      have m2 := (h2 c').mpr hc'
      match cs, m1, m2 with
      | [a], m1, m2 => exact absurd ((List.mem_singleton.mp m1).trans (List.mem_singleton.mp m2).symm) hne
      | a :: b :: r, _, _ => simp
theorem R_Tree_take (h : sp_Tree_take K CT CN CB vs H Q E) : T_Tree_take K CT CN CB E (fin Q) (slots n_Tree_take vs) H := by
  obtain ⟨r, v, A, D, W, rfl, T, hv, k, kE⟩ := h
  show T_Tree_take K CT CN CB E (fin Q) [some (.ref r), some v, none, none, none, none] H
  unfold T_Tree_take
  by_cases hvw : ¬ IsWd v
  · exact q_whenNE fun Q' => n_meth T.s (no_m (by decide +kernel) (by decide +kernel)) (ev_var rfl) (ea_cons (ev_var rfl) ea_nil) fun H1 e1 => ⟨r, v, A, D, W, rfl, T.up e1, any_up _ _ _ e1 hv, fun w hw hi => absurd ⟨w, hw, hi⟩ hvw, fun hn H2 e2 => kE hn H2 (e1.trans e2)⟩
  obtain ⟨w, rfl, hw⟩ := Classical.not_not.mp hvw
  have hl := isW_le hw
  obtain ⟨k1, k2⟩ := k w rfl hw
  clear k kE
  refine q_when (b := !decide (w ∈ W)) (et_not (et_B (e_meth T.s (no_m (by decide +kernel) (by decide +kernel)) (ev_var rfl) (ea_cons (ev_var rfl) ea_nil) fun H2 e2 Q q E => ⟨r, _, A, D, W, rfl, T.up e2, any_up _ _ _ e2 hv, fun w' hw' _ => by
    rw [← tx_inj.mp hw']
    exact fun H3 e3 => q H3 e3, fun hn => absurd ⟨w, rfl, hw⟩ hn⟩))) (fun hh H1 e1 => ?_) (fun hh H1 e1 => ?_)
  · exact s_ret ev_c fun H2 e2 => k1 (nd hh) _ (e1.trans e2)
  have hW := nd' hh
  have T1 := T.up e1
  obtain ⟨dr, hr⟩ := T1.s.root
  refine ⟨_, rfl, r, CT, dr, _, .int (W.length : Int), rfl, hr, T1.s.tx.clT, T1.s.tx.nCount, (lk_tl (by decide +kernel)).trans lk_hd, _, _, rfl, rfl, dr, _, hr, by simp, ?_⟩
  rw [put_count2]
  have S2 := T1.s.setCount (m := (W.length : Int) - 1) hr
  have F2 : Fr H (L2.upd H1 r (.ins CT dr (fT (A []) ((W.length : Int) - 1)))) (foot r A D (dom W)) := (Fr.ex e1).upd (.inl rfl)
  generalize L2.upd H1 r (.ins CT dr (fT (A []) ((W.length : Int) - 1))) = H2 at S2 F2
  clear hr T1 e1
  show (tSeq (tAsg (tFld K (tVar 0) "root") (gName 2)) _) (fin Q) [some (.ref r), some (tx w), none, none, none, none] H2
  refine q_asg (e_root S2 (ev_var rfl)) fun H3 e3 => ?_
  refine q_asg (ev_var rfl) fun H4 e4 => ?_
  refine q_asg ev_c fun H5 e5 => ?_
  have e25 := (e3.trans e4).trans e5
  refine q_forS (w := w) (ev_var rfl) (fun i σ H' => (∃ m x5, σ = [some (.ref r), some (tx w), some (.ref (A (w.take i))), some (.ref (A (w.take m))), some (tx (if i = 0 then [] else (w.drop m).take 1)), x5] ∧
      (i = 0 ∨ (m < i ∧ (m = 0 ∨ Br W (w.take m)) ∧ ∀ j, m < j → j < i → ¬ Br W (w.take j)))) ∧ Ex H2 H')
    (fun H6 e6 => ⟨⟨0, _, rfl, .inl rfl⟩, e25.trans e6⟩) (fun i c σ H' hc hp => ?_) (fun σ H' hp => ?_)
  · obtain ⟨⟨m, x5, rfl, hm⟩, e⟩ := hp
    have hi := (List.getElem?_eq_some_iff.mp hc).1
    have hd := dom_take hW i
    obtain ⟨cs, h1, h2, h3, hlen⟩ := e_kids (σ := [some (.ref r), some (tx w), some (.ref (A (w.take i))), some (.ref (A (w.take m))), some (tx (if i = 0 then [] else (w.drop m).take 1)), some (tx [c])]) (ta := tVar 2) (S2.up e) hd (ev_var rfl)
    have hbr := br_of h1 h2
    have one : (w.drop i).take 1 = [c] := by
      have : w.drop i = c :: w.drop (i + 1) := by
        obtain ⟨_, rfl⟩ := List.getElem?_eq_some_iff.mp hc
        exact List.drop_eq_getElem_cons hi
      rw [this]; rfl
    have hcut : decide ((if i = 0 then ([] : List Nat) else (w.drop m).take 1) = []) = decide (i = 0) := by
      rcases hm with rfl | ⟨hmi, _⟩
      · simp
      · rw [if_neg (by omega)]
        refine dec_eq ⟨fun z => ?_, fun z => by omega⟩
        have := congrArg List.length z
        rw [List.length_take, List.length_drop] at this
        simp at this
        omega
    have child : ∀ {H6 : Hp} {σ : L2.St}, Ex H' H6 → σ[2]? = some (some (.ref (A (w.take i)))) → σ[5]? = some (some (tx [c])) → Ev (tDGet (tFld K (tVar 2) "below") (tVar 5)) σ H6 (.ref (A (w.take (i + 1)))) := fun e6 h2 h5 => by
      rw [take_get_snoc hc]
      exact e_child (S2.up (e.trans e6)) (by rw [← take_get_snoc hc]; exact dom_take hW _) (ev_var h2) (ev_var h5)
    refine Evl.q_when (b := decide (w.take i ∈ W) || (decide ((1 : Int) < cs.length) || decide (i = 0))) (et_or (et_B (e_end (S2.up e) hd (ev_var rfl))) fun _ => et_or (et_test (e_gt hlen ev_c)) fun _ => et_test (ev_is (e_eq (ev_var rfl) ev_c .ss) (by rw [hcut]))) (fun hh H6 e6 => ?_) (fun hh H6 e6 => ?_)
    · rw [Bool.or_eq_true, Bool.or_eq_true, decide_eq_true_eq, decide_eq_true_eq, decide_eq_true_eq] at hh
      refine q_asg (ev_var rfl) fun H7 e7 => ?_
      refine s_asg (ev_var rfl) fun H8 e8 => ?_
      refine s_asg (child ((e6.trans e7).trans e8) rfl rfl) fun H9 e9 => ?_
      refine ⟨⟨i, some (tx [c]), ?_, .inr ⟨Nat.lt_succ_self i, ?_, fun j h1 h2 => by omega⟩⟩, (((e.trans e6).trans e7).trans e8).trans e9⟩
      · rw [if_neg (Nat.succ_ne_zero i), one]
        rfl
      · rcases hh with h | h | h
        · exact .inr (hbr.mp (.inl h))
        · exact .inr (hbr.mp (.inr (by omega)))
        · exact .inl h
    · rw [Bool.or_eq_false_iff, Bool.or_eq_false_iff, decide_eq_false_iff_not, decide_eq_false_iff_not, decide_eq_false_iff_not] at hh
      obtain ⟨n1, n2, n3⟩ := hh
      obtain ⟨hmi, hm1, hm2⟩ := hm.resolve_left n3
      refine s_asg (child e6 rfl rfl) fun H9 e9 => ?_
      refine ⟨⟨m, some (tx [c]), ?_, .inr ⟨by omega, hm1, fun j hj1 hj2 => ?_⟩⟩, (e.trans e6).trans e9⟩
      · rw [if_neg (Nat.succ_ne_zero i), if_neg n3]
        rfl
      · by_cases z : j = i
        · subst z
          exact fun hb => (hbr.mpr hb).elim n1 fun y => n2 (by omega)
        · exact hm2 j hj1 (by omega)
  · obtain ⟨⟨m, x5, rfl, hm⟩, e⟩ := hp
    rw [List.take_length] at *
    have hd := dom_mem hW
    have S3 := S2.up e
    obtain ⟨dx, hi⟩ := S3.node w hd
    refine q_fld (fs' := fN (D w) false) ev_c (ev_var rfl) hi S3.tx.clN S3.tx.nEnd (by simp) put_end2 fun H6 e6 => ?_
    have S6 := (S3.up e6).setEnd (b := false) (W' := W.erase w) hd (e6 _ _ hi) (fun s hs => by rw [T.nd.mem_erase_iff]; exact ⟨fun z => z.2, fun z => ⟨hs, z⟩⟩) (by rw [decide_eq_false]; exact fun z => (T.nd.mem_erase_iff.mp z).1 rfl)
    have F6 : Fr H (L2.upd H6 (A w) (.ins CN dx (fN (D w) false))) (foot r A D (dom W)) := (F2.trans (.ex (e.trans e6))).upd (.inr ⟨w, hd, .inl rfl⟩)
    generalize L2.upd H6 (A w) (.ins CN dx (fN (D w) false)) = H7 at S6 F6
    have hnd : (W.erase w).Nodup := T.nd.erase w
    have hwd : ∀ u ∈ W.erase w, isW u = true := fun u hu => T.wd u (T.nd.mem_erase_iff.mp hu).2
    have hlen : ((W.erase w).length : Int) = (W.length : Int) - 1 := by
      have := List.length_pos_of_mem hW
      rw [List.length_erase_of_mem hW]
      omega
    obtain ⟨cs, h1, h2, h3, hl7⟩ := e_kids (σ := [some (.ref r), some (tx w), some (.ref (A w)), some (.ref (A (w.take m))), some (tx (if w.length = 0 then [] else (w.drop m).take 1)), x5]) (ta := tVar 2) S6 hd (ev_var rfl)
    show (tSeq (tIfS _ _ tNext) (tRet (tC (.bl true)))) (fin Q) [some (.ref r), some (tx w), some (.ref (A w)), some (.ref (A (w.take m))), some (tx (if w.length = 0 then [] else (w.drop m).take 1)), x5] H7
    have keep : (w = [] ∨ ∃ c, dom W (w ++ [c])) → ∀ H8, Ex H7 H8 → (tRet (tC (.bl true))) (fin Q) [some (.ref r), some (tx w), some (.ref (A w)), some (.ref (A (w.take m))), some (tx (if w.length = 0 then [] else (w.drop m).take 1)), x5] H8 := fun hk H8 e8 =>
      s_ret ev_c fun H9 e9 => k2 hW H9 ⟨by rw [hlen]; exact (S6.congr (keep_dom T.nd hk)).up (e8.trans e9), hnd, hwd⟩ (F6.trans (.ex (e8.trans e9)))
    rcases hm with h0 | ⟨hmw, hm1, hm2⟩
    · have w0 : w = [] := List.length_eq_zero_iff.mp h0
      refine Evl.q_when (b := false) (et_is (et_and (a := false) (b := false) (et_is (et_test (e_ne (ev_var rfl) ev_c .ss)) (by rw [if_pos h0]; rfl)) fun hh => by cases hh) rfl) (fun hh => by cases hh) (fun _ H8 e8 => keep (.inl w0) H8 e8)
    have hne : w.length ≠ 0 := by omega
    rw [if_neg hne] at *
    have gm : w[m]? = some w[m] := List.getElem?_eq_getElem hmw
    have one : (w.drop m).take 1 = [w[m]] := by
      rw [List.drop_eq_getElem_cons hmw]; rfl
    rw [one] at *
    refine Evl.q_when (b := decide (cs.length = 0)) (et_is (et_and (et_is (et_test (e_ne (ev_var rfl) ev_c .ss)) (show _ = true by simp)) fun _ => et_test (e_eq hl7 ev_c .ii)) (by rw [Bool.true_and]; exact dec_eq (by omega))) (fun hh H8 e8 => ?_) (fun hh H8 e8 => ?_)
    · have hc0 := List.length_eq_zero_iff.mp (of_decide_eq_true hh)
      have hk : ∀ c, ¬ dom W (w ++ [c]) := fun c z => by
        have := (h2 c).mpr z
        rw [hc0] at this
        cases this
      have hdm := dom_take hW m
      have S8 := S6.up e8
      obtain ⟨ds, g1, g2, g3⟩ := S8.dict _ hdm
      have hD : Ev (tFld K (tVar 3) "below") [some (.ref r), some (tx w), some (.ref (A w)), some (.ref (A (w.take m))), some (tx [w[m]]), x5] H8 (.ref (D (w.take m))) := e_below S8 hdm (ev_var rfl)
      refine s_pop1 (k := ky w[m]) hD g3 (ev_var rfl) (v := .ref (A (w.take m ++ [w[m]]))) (by rw [val_kids, if_pos ((g2 _).mpr (by rw [← take_get_snoc gm]; exact dom_take hW _))]) fun H9 e9 => ?_
      rw [drop_kids]
      have S9 := (S8.up e9).prune (c := w[m]) hdm g1 g2 (e9 _ _ g3)
      rw [← take_get_snoc gm] at S9
      have F9 : Fr H (L2.upd H9 (D (w.take m)) (.dK ((ds.filter fun d => decide (d ≠ w[m])).map (kid A (w.take m))))) (foot r A D (dom W)) := (F6.trans (.ex (e8.trans e9))).upd (.inr ⟨_, hdm, .inr rfl⟩)
      show (tRet (tC (.bl true))) (fin Q) [some (.ref r), some (tx w), some (.ref (A w)), some (.ref (A (w.take m))), some (tx [w[m]]), x5] (L2.upd H9 (D (w.take m)) (.dK ((ds.filter fun d => decide (d ≠ w[m])).map (kid A (w.take m)))))
      refine s_ret (v := .bl true) ev_c fun H10 e10 => k2 hW H10 ⟨?_, hnd, hwd⟩ (F9.trans (.ex e10))
      rw [hlen]
      exact (S9.congr (cut_dom T.nd hW hmw hk hm1 hm2)).up e10
    · refine keep (.inr ?_) H8 e8
      cases cs with
      | nil => exact absurd rfl (of_decide_eq_false hh)
      | cons c r' => exact ⟨c, (h2 c).mp List.mem_cons_self⟩
/-! ### nodes, begun -/
theorem dom_len {t : List Nat} (hw : ∀ w ∈ W, isW w = true) (h : dom W t) : t.length ≤ 24 := by
  rcases h with rfl | ⟨w, hm, hp⟩
  · simp
  · have := isW_le (hw w hm)
    have := hp.length_le
    omega
theorem begs_le (hw : ∀ w ∈ W, isW w = true) (hl : W.length ≤ 1000) : (begs W).length ≤ 24001 := by
  have h := begs_len W
  have : (W.map List.length).sum ≤ 24 * W.length := by
    clear h hl
    induction W with
    | nil => exact Nat.le_refl _
    | cons w W ih =>
      rw [List.map_cons, List.sum_cons, List.length_cons]
      have := ih fun u hu => hw u (List.mem_cons_of_mem _ hu)
      have := isW_le (hw w List.mem_cons_self)
      omega
  omega
theorem concat_of {α : Type} {xs : List α} (h : xs ≠ []) : ∃ ys y, xs = ys ++ [y] := ⟨_, _, (List.dropLast_concat_getLast h).symm⟩
theorem kids_all {t : List Nat} {cs : List Nat} (h2 : ∀ c, c ∈ cs ↔ dom W (t ++ [c])) : ∀ x ∈ begs W, ∀ c, t ++ [c] <+: x → c ∈ cs := fun x hx c hp => (h2 c).mpr (dom_pre hp ((begs_mem W x).mp hx))
theorem kid_get {t : List Nat} {cs : List Nat} {i : Nat} {k : Key} {v : V} (h : (cs.map (kid A t))[i]? = some (k, v)) : ∃ c, cs[i]? = some c ∧ k = ky c ∧ v = .ref (A (t ++ [c])) := by
  rw [List.getElem?_map] at h
  cases e : cs[i]? with
  | none => rw [e] at h; cases h
  | some c =>
    rw [e] at h
    injection h with h
    injection h with h1 h2
    exact ⟨c, rfl, h1.symm, h2.symm⟩
theorem R_Tree_nodes (h : sp_Tree_nodes K CT CN vs H Q E) : T_Tree_nodes K (fin Q) (slots n_Tree_nodes vs) H := by
  obtain ⟨r, A, D, W, rfl, T, hW, k⟩ := h
  show T_Tree_nodes K (fin Q) [some (.ref r), none, none, none, none] H
  unfold T_Tree_nodes
  have hB := begs_le T.wd hW
  refine q_asg ev_c fun H1 e1 => ?_
  refine q_asgL (el_lst (ea_cons (e_root (T.s.up e1) (ev_var rfl)) ea_nil) (by simp)) fun wl H2 hwl e2 hwl2 => ?_
  have T1 := T.up e1
  refine q_while (fun m σ' H' => ∃ (Ts : List (List Nat)) (tot : Nat) (x3 x4 : Option V), σ' = [some (.ref r), some (.int (tot : Int)), some (.ref wl), x3, x4] ∧ m = left (begs W) Ts ∧ (∀ t ∈ Ts, dom W t) ∧ tot + left (begs W) Ts = (begs W).length ∧ H' wl = some (.lst (Ts.map fun t => .ref (A t))) ∧ Ex H1 H')
    (left (begs W) [[]]) ⟨[[]], 0, _, _, rfl, rfl, fun t ht => by rw [List.mem_singleton.mp ht]; exact dom_nil W, by rw [left_root]; omega, hwl2, e2⟩ (fun m σ' H' hw => ?_)
  obtain ⟨Ts, tot, x3, x4, rfl, rfl, hd, hsum, hl, e⟩ := hw
  refine ⟨_, et_tru (ev_var rfl) hl, fun hb H3 e3 => ?_, fun hb H3 e3 => ?_⟩
  case refine_2 =>
    have h0 : Ts = [] := by
      cases Ts with
      | nil => rfl
      | cons a r' => cases hb
    rw [h0, left_nil] at hsum
    rw [← hsum] at k
    exact s_ret (ev_var rfl) fun H4 e4 => k _ (((e1.trans e).trans e3).trans e4)
  case refine_1 =>
    obtain ⟨T0, t, rfl⟩ := concat_of (xs := Ts) (fun z => by rw [z] at hb; cases hb)
    have ht := hd t (by simp)
    have hlen0 : (T0 ++ [t]).length ≤ left (begs W) (T0 ++ [t]) := left_len fun u hu => (begs_mem W u).mpr (hd u hu)
    refine ⟨fun σ2 H2 => ∃ m', m' < left (begs W) (T0 ++ [t]) ∧ ∃ (Ts : List (List Nat)) (tot : Nat) (x3 x4 : Option V), σ2 = [some (.ref r), some (.int (tot : Int)), some (.ref wl), x3, x4] ∧ m' = left (begs W) Ts ∧ (∀ t ∈ Ts, dom W t) ∧ tot + left (begs W) Ts = (begs W).length ∧ H2 wl = some (.lst (Ts.map fun t => .ref (A t))) ∧ Ex H1 H2, fun σ2 H2 hN => hN, ?_⟩
    rw [List.map_append] at hl
    refine e_pop (xs := T0.map fun t => .ref (A t)) (y := .ref (A t)) (ev_var rfl) (e3 _ _ hl) fun H4 e4 => ?_
    have e5 := Ex.mut (o := .lst (T0.map fun t => .ref (A t))) ((e.trans e3).trans e4) hwl
    have h5 : L2.upd H4 wl (.lst (T0.map fun t => .ref (A t))) wl = some (.lst (T0.map fun t => .ref (A t))) := upd_same
    generalize L2.upd H4 wl (.lst (T0.map fun t => .ref (A t))) = H5 at e5 h5
    show (tSeq (tAug 1 (tC (.int 1)) (ipI fun i j => i + j)) _) _ [some (.ref r), some (.int (tot : Int)), some (.ref wl), some (.ref (A t)), x4] H5
    refine q_aug rfl ev_c fun H6 e6 => ?_
    have e16 := e5.trans e6
    obtain ⟨cs, c1, c2, c3⟩ := T1.s.dict t ht
    obtain ⟨dx, hn⟩ := T1.s.node t ht
    have hcs : cs.length ≤ 123 := nodup_len 123 cs c1 fun a ha => dom_low T.wd ((c2 a).mp ha)
    have nAD : A t ≠ D t := fun z => by rw [z, c3] at hn; cases hn
    have below : ∀ {H' : Hp} {σ : L2.St}, (∀ a o, H1 a = some o → a ≠ D t → H' a = some o) → σ[3]? = some (some (.ref (A t))) → Ev (tFld K (tVar 3) "below") σ H' (.ref (D t)) := fun hk hσ => e_fld (ev_var hσ) (hk _ _ hn nAD) T1.s.tx.clN T1.s.tx.nBelow lk_hd
    have off : ∀ {H6 : Hp} {od : Obj} {H7 : Hp}, Ex H1 H6 → Ex (L2.upd H6 (D t) (.frz od (.dK (cs.map (kid A t))))) H7 → ∀ a o, H1 a = some o → a ≠ D t → H7 a = some o := fun e h a o ha hne => h _ _ (by rw [upd_ne hne]; exact e _ _ ha)
    refine s_forK (e16 _ _ c3) (fun od => below (off e16 (Ex.refl _)) rfl) (fun od i σ' H' => ∃ x4, σ' = [some (.ref r), some (.int ((tot : Int) + 1)), some (.ref wl), some (.ref (A t)), x4] ∧ H' (D t) = some (.frz od (.dK (cs.map (kid A t)))) ∧ H' wl = some (.lst ((T0 ++ (cs.take i).map fun c => t ++ [c]).map fun t => .ref (A t))) ∧ ∀ a o, H1 a = some o → a ≠ D t → H' a = some o)
      (fun od H7 e7 => ⟨_, rfl, e7 _ _ upd_same, ?_, off e16 e7⟩) (fun od i σ' H' hp => ?_) (fun od i ck v σ' H' hi hp => ?_) (fun od σ' H' hp => ?_)
    · rw [List.take_zero, List.map_nil, List.append_nil]
      refine e7 _ _ ?_
      rw [upd_ne (fun z => by rw [z, c3] at hwl; cases hwl)]
      exact e6 _ _ h5
    · obtain ⟨_, _, h, _⟩ := hp
      exact h
    · obtain ⟨x4, rfl, hfz, hl', hk⟩ := hp
      obtain ⟨c, hc, rfl, rfl⟩ := kid_get hi
      have hwD : wl ≠ D t := fun z => by rw [z, hfz] at hl'; cases hl'
      refine s_app hl' (ev_var rfl) (e_dget (k := ky c) (below hk rfl) (.inr ⟨od, hfz⟩) (ev_var rfl) (by rw [val_kids, if_pos (List.mem_of_getElem? hc)])) (by
        rw [List.length_map, List.length_append, List.length_map, List.length_take]
        rw [List.length_append] at hlen0
        have := left_len (L := begs W) (T := T0 ++ [t]) fun u hu => (begs_mem W u).mpr (hd u hu)
        simp only [List.length_cons, List.length_nil] at hlen0
        omega) fun H8 e8 => ?_
      refine ⟨_, rfl, ?_, ?_, fun a o ha hne => ?_⟩
      · rw [upd_ne hwD.symm]
        exact e8 _ _ hfz
      · rw [upd_same, List.take_add_one, hc, List.map_append, List.map_append, List.map_append, List.map_append, ← List.append_assoc]
        rfl
      · rw [upd_ne (ne_of_none ha hwl)]
        exact e8 _ _ (hk a o ha hne)
    · obtain ⟨x4, rfl, hfz, hl', hk⟩ := hp
      rw [List.length_map, List.take_length] at hl'
      have hwD : wl ≠ D t := fun z => by rw [z, hfz] at hl'; cases hl'
      have hkids := left_kids (L := begs W) (begs_nodup W) ((begs_mem W t).mpr ht) c1 (kids_all c2)
      rw [left_app, hkids] at hsum
      refine ⟨_, ?_, T0 ++ cs.map fun c => t ++ [c], tot + 1, _, _, rfl, rfl, fun u hu => ?_, ?_, by rw [upd_ne hwD]; exact hl', fun a o ha => ?_⟩
      · rw [left_app, left_app, hkids]; omega
      · rcases List.mem_append.mp hu with hu | hu
        · exact hd u (List.mem_append_left _ hu)
        · obtain ⟨c, hc, rfl⟩ := List.mem_map.mp hu
          exact (c2 c).mp hc
      · rw [left_app]; omega
      · by_cases hz : a = D t
        · rw [hz, upd_same, ← ha, hz, c3]
        · rw [upd_ne hz]
          exact hk a o ha hz
/-- what begun has found, what it waits for -/
structure BegI (K : PySem.W.Frag) (A : List Nat → Addr) (W : List (List Nat)) (b : List Nat) (H0 : Hp) (fl wl : Addr) (ws : List (Addr × List Nat)) (fs : List (List Nat)) (H : Hp) : Prop where
  dm : ∀ p ∈ ws, dom W p.2
  tup : ∀ p ∈ ws, H p.1 = some (.tup [.ref (A p.2), tx p.2])
  wat : H wl = some (.lst (ws.map fun p => .ref p.1))
  fnd : H fl = some (.lst (fs.map tx))
  cnt : ∀ x, x ∈ W → fs.count x + pend (ws.map (·.2)) x = pend [b] x
  inW : ∀ x ∈ fs, x ∈ W
  len : fs.length + left (begs W) (ws.map (·.2)) ≤ (begs W).length
theorem begW_perm {b : List Nat} {fs : List (List Nat)} (ndW : W.Nodup) (h1 : ∀ x, x ∈ W → fs.count x = pend [b] x) (h2 : ∀ x ∈ fs, x ∈ W) : fs.Perm (begW W b) := by
  rw [List.perm_iff_count]
  intro x
  unfold begW
  by_cases hx : x ∈ W
  · rw [h1 x hx, pend_one]
    by_cases hp : b <+: x
    · rw [if_pos hp, List.count_filter (by simpa using hp), ndW.count, if_pos hx]
    · rw [if_neg hp, List.count_eq_zero.mpr]
      intro z
      exact hp (of_decide_eq_true (List.mem_filter.mp z).2)
  · rw [List.count_eq_zero.mpr fun z => hx (h2 x z), List.count_eq_zero.mpr fun z => hx (List.mem_filter.mp z).1]
theorem R_Tree_begun (h : sp_Tree_begun K CT CN CB vs H Q E) : T_Tree_begun K CT CN CB E (fin Q) (slots n_Tree_begun vs) H := by
  obtain ⟨r, v, A, D, W, rfl, T, hW, hv, k, kE⟩ := h
  show T_Tree_begun K CT CN CB E (fin Q) [some (.ref r), some v, none, none, none, none, none] H
  unfold T_Tree_begun
  have hB := begs_le T.wd hW
  refine q_need_word (ev_var rfl) hv (fun hw H1 e1 => ?_) kE
  obtain ⟨b, rfl, hb⟩ := hw
  have lb := isW_le hb
  have kQ := k b rfl hb
  clear k kE
  refine q_asg (e_meth (T.up e1).s (no_m (by decide +kernel) (by decide +kernel)) (ev_var rfl) (ea_cons (ev_var rfl) ea_nil) fun H2 e2 Q q E => ⟨r, b, A, D, W, rfl, (T.up e1).up e2, by omega, fun H3 e3 => q H3 e3⟩) fun H2 e2 => ?_
  have e12 := e1.trans e2
  by_cases hdb : ¬ dom W b
  · rw [if_neg hdb]
    have h0 : begW W b = [] := List.filter_eq_nil_iff.mpr fun w hw z => hdb (.inr ⟨w, hw, of_decide_eq_true z⟩)
    rw [h0, srt_nil] at kQ
    refine q_when (b := true) (et_is (et_test (e_isN (ev_var rfl))) (decide_eq_true rfl)) (fun _ H3 e3 => ?_) (fun hh => by cases hh)
    exact s_retL (el_lst ea_nil (by decide)) fun p H4 hp e4 h4 => kQ p H4 (fresh_back (e12.trans e3) hp) ((e12.trans e3).trans e4) h4
  have hdb := Classical.not_not.mp hdb
  rw [if_pos hdb]
  refine q_when (b := false) (et_is (et_test (e_isN (ev_var rfl))) (decide_eq_false fun z => nomatch z)) (fun hh => by cases hh) (fun _ H3 e3 => ?_)
  refine q_asgL (el_lst ea_nil (by decide)) fun fl H4 hfl e4 hfl4 => ?_
  have upP : Up (fun v H => ∃ q, v = .ref q ∧ H q = some (.tup [.ref (A b), tx b])) := fun v H H' e ⟨q, h1, h2⟩ => ⟨q, h1, e _ _ h2⟩
  refine q_asgAll upP (all_cons upP (g_tup (eu_tup (ea_cons (ev_var rfl) (ea_cons (ev_var rfl) ea_nil)) (by simp)) fun a H2 e h => ⟨a, rfl, h⟩) all_nil) (by decide) fun vs wl H5 hwl e5 hwl5 hall hlen => ?_
  obtain ⟨v0, rfl⟩ := List.length_eq_one_iff.mp hlen
  obtain ⟨q0, rfl, hq0⟩ := hall v0 (by simp)
  have e13 := e12.trans e3
  have T3 := T.up e13
  have hne : fl ≠ wl := fun z => by rw [z, hwl] at hfl4; cases hfl4
  have hwl3 := fresh_back e4 hwl
  refine q_while (fun m σ' H' => ∃ (ws : List (Addr × List Nat)) (fs : List (List Nat)) (x2 x5 x6 : Option V), σ' = [some (.ref r), some (tx b), x2, some (.ref fl), some (.ref wl), x5, x6] ∧ m = left (begs W) (ws.map (·.2)) ∧ BegI K A W b H3 fl wl ws fs H' ∧ Ex H3 H')
    (left (begs W) [b]) ⟨[(q0, b)], [], _, _, _, rfl, rfl, ⟨fun p hp => ?_, fun p hp => ?_, hwl5, e5 _ _ hfl4, fun x hx => ?_, fun x hx => (by cases hx), ?_⟩, e4.trans e5⟩ (fun m σ' H' hw => ?_)
  · rw [List.mem_singleton.mp hp]; exact hdb
  · rw [List.mem_singleton.mp hp]; exact hq0
  · rw [List.count_nil, Nat.zero_add]; rfl
  · rw [List.length_nil, Nat.zero_add]; exact left_le b
  obtain ⟨ws, fs, x2, x5, x6, rfl, rfl, I, e⟩ := hw
  refine ⟨_, et_tru (ev_var rfl) I.wat, fun hb' H6 e6 => ?_, fun hb' H6 e6 => ?_⟩
  case refine_2 =>
    have h0 : ws = [] := by
      cases ws with
      | nil => rfl
      | cons a r' => cases hb'
    subst h0
    have hp := begW_perm T.nd (fun x hx => I.cnt x hx) I.inW
    rw [← srt_congr hp] at kQ
    refine s_retL (el_sortedS (ev_var rfl) (sq_of (e6 _ _ I.fnd))) fun p H7 hp7 e7 h7 => kQ p H7 (fresh_back ((e13.trans e).trans e6) hp7) (((e13.trans e).trans e6).trans e7) h7
  case refine_1 =>
    obtain ⟨w0, ⟨q, t⟩, rfl⟩ := concat_of (xs := ws) (fun z => by rw [z] at hb'; cases hb')
    have ht : dom W t := I.dm (q, t) (by simp)
    have htup := I.tup (q, t) (by simp)
    have lt : t.length ≤ 24 := dom_len T.wd ht
    have hdall : ∀ u ∈ (w0 ++ [(q, t)]).map (·.2), u ∈ begs W := fun u hu => by
      obtain ⟨p, hp, rfl⟩ := List.mem_map.mp hu
      exact (begs_mem W _).mpr (I.dm p hp)
    have hlen0 := left_len hdall
    rw [List.length_map, List.length_append] at hlen0
    have hIlen := I.len
    have hcnt := I.cnt
    have hwat := I.wat
    rw [List.map_append] at hwat
    obtain ⟨cs, c1, c2, c3⟩ := T3.s.dict t ht
    obtain ⟨dx, hn⟩ := T3.s.node t ht
    have hcs : cs.length ≤ 123 := nodup_len 123 cs c1 fun a ha => dom_low T.wd ((c2 a).mp ha)
    have hkids := left_kids (L := begs W) (begs_nodup W) ((begs_mem W t).mpr ht) c1 (kids_all c2)
    have emap : (w0 ++ [(q, t)]).map (·.2) = w0.map (·.2) ++ [t] := by rw [List.map_append]; rfl
    rw [emap, left_app, hkids] at hIlen hlen0
    refine ⟨fun σ2 H2 => ∃ m', m' < left (begs W) ((w0 ++ [(q, t)]).map (·.2)) ∧ ∃ (ws : List (Addr × List Nat)) (fs : List (List Nat)) (x2 x5 x6 : Option V), σ2 = [some (.ref r), some (tx b), x2, some (.ref fl), some (.ref wl), x5, x6] ∧ m' = left (begs W) (ws.map (·.2)) ∧ BegI K A W b H3 fl wl ws fs H2 ∧ Ex H3 H2, fun σ2 H2 hN => hN, ?_⟩
    refine e_pop (xs := w0.map fun p => .ref p.1) (y := .ref q) (ev_var rfl) (e6 _ _ hwat) fun H7 e7 => ?_
    have e67 := e6.trans e7
    have qwl : ∀ {q' : Addr} {xs : List V} {H' : Hp} {ys : List V}, H' q' = some (.tup xs) → H' wl = some (.lst ys) → q' ≠ wl := fun h1 h2 z => by rw [z, h2] at h1; cases h1
    have qfl : ∀ {q' : Addr} {xs : List V} {H' : Hp} {ys : List V}, H' q' = some (.tup xs) → H' fl = some (.lst ys) → q' ≠ fl := fun h1 h2 z => by rw [z, h2] at h1; cases h1
    have e8 := Ex.mut (o := .lst (w0.map fun p => .ref p.1)) (e.trans e67) hwl3
    have hall8 : ∀ p ∈ w0 ++ [(q, t)], L2.upd H7 wl (.lst (w0.map fun p => .ref p.1)) p.1 = some (.tup [.ref (A p.2), tx p.2]) := fun p hp => by
      have := e67 _ _ (I.tup p hp)
      rw [upd_ne (qwl (I.tup p hp) I.wat)]
      exact this
    have hw8 : L2.upd H7 wl (.lst (w0.map fun p => .ref p.1)) wl = some (.lst (w0.map fun p => .ref p.1)) := upd_same
    have hf8 : L2.upd H7 wl (.lst (w0.map fun p => .ref p.1)) fl = some (.lst (fs.map tx)) := by
      rw [upd_ne hne]
      exact e67 _ _ I.fnd
    generalize L2.upd H7 wl (.lst (w0.map fun p => .ref p.1)) = H8 at e8 hall8 hw8 hf8
    refine ⟨q, _, rfl, SqT.of (hall8 (q, t) (by simp)), rfl, _, _, rfl, _, _, rfl, rfl, ?_⟩
    show tSeq _ _ _ [some (.ref r), some (tx b), some (.ref (A t)), some (.ref fl), some (.ref wl), some (tx t), x6] H8
    -- the loop over the letters, whatever was found
    have rest : ∀ (fs' : List (List Nat)) (x6 : Option V) (H9 : Hp), Ex H3 H9 → (∀ p ∈ w0, H9 p.1 = some (.tup [.ref (A p.2), tx p.2])) → H9 wl = some (.lst (w0.map fun p => .ref p.1)) → H9 fl = some (.lst (fs'.map tx)) →
        (∀ x, x ∈ W → fs'.count x = fs.count x + if x = t then 1 else 0) → (∀ x ∈ fs', x ∈ W) → fs'.length ≤ fs.length + 1 → ∀ (Dn : Ends),
        (∀ σ2 H2, (∃ m', m' < left (begs W) ((w0 ++ [(q, t)]).map (·.2)) ∧ ∃ (ws : List (Addr × List Nat)) (fs : List (List Nat)) (x2 x5 x6 : Option V), σ2 = [some (.ref r), some (tx b), x2, some (.ref fl), some (.ref wl), x5, x6] ∧ m' = left (begs W) (ws.map (·.2)) ∧ BegI K A W b H3 fl wl ws fs H2 ∧ Ex H3 H2) → Dn.nx σ2 H2) →
        (tLock (tFor (iKeys (tFld K (tVar 2) "below")) (gName 6) (tDrop (tBM K "list" rAppend (tVar 4) (tCons (tTup (tCons (tDGet (tFld K (tVar 2) "below") (tVar 6)) (tCons (tOp nCat (tVar 5) (tVar 6)) tNil))) tNil))))) Dn [some (.ref r), some (tx b), some (.ref (A t)), some (.ref fl), some (.ref wl), some (tx t), x6] H9 := by
      intro fs' x6 H9 e9 ht9 hw9 hf9 hc9 hi9 hl9 Dn hDn
      have nAD : A t ≠ D t := fun z => by rw [z, c3] at hn; cases hn
      have below : ∀ {H' : Hp} {σ : L2.St}, (∀ a o, H3 a = some o → a ≠ D t → H' a = some o) → σ[2]? = some (some (.ref (A t))) → Ev (tFld K (tVar 2) "below") σ H' (.ref (D t)) := fun hk hσ => e_fld (ev_var hσ) (hk _ _ hn nAD) T3.s.tx.clN T3.s.tx.nBelow lk_hd
      have off : ∀ {H6 : Hp} {od : Obj} {H7 : Hp}, Ex H3 H6 → Ex (L2.upd H6 (D t) (.frz od (.dK (cs.map (kid A t))))) H7 → ∀ a o, H3 a = some o → a ≠ D t → H7 a = some o := fun e h a o ha hne => h _ _ (by rw [upd_ne hne]; exact e _ _ ha)
      have lD : ∀ {l : Addr} {ys : List V}, H9 l = some (.lst ys) → l ≠ D t := fun h z => by
        rw [z, e9 _ _ c3] at h; cases h
      have tD : ∀ {l : Addr} {ys : List V}, H9 l = some (.tup ys) → l ≠ D t := fun h z => by
        rw [z, e9 _ _ c3] at h; cases h
      refine s_forK (e9 _ _ c3) (fun od => below (off e9 (Ex.refl _)) rfl) (fun od i σ' H' => ∃ (x6 : Option V) (ks : List (Addr × List Nat)), σ' = [some (.ref r), some (tx b), some (.ref (A t)), some (.ref fl), some (.ref wl), some (tx t), x6] ∧ ks.map (·.2) = (cs.take i).map (fun c => t ++ [c]) ∧
          (∀ p ∈ w0 ++ ks, H' p.1 = some (.tup [.ref (A p.2), tx p.2])) ∧ H' wl = some (.lst ((w0 ++ ks).map fun p => .ref p.1)) ∧ H' fl = some (.lst (fs'.map tx)) ∧ H' (D t) = some (.frz od (.dK (cs.map (kid A t)))) ∧ ∀ a o, H3 a = some o → a ≠ D t → H' a = some o)
        (fun od H10 e10 => ⟨_, [], rfl, rfl, fun p hp => ?_, ?_, ?_, e10 _ _ upd_same, off e9 e10⟩) (fun od i σ' H' hp => ?_) (fun od i ck v σ' H' hi hp => ?_) (fun od σ' H' hp => ?_)
      · rw [List.append_nil] at hp
        exact e10 _ _ (by rw [upd_ne (tD (ht9 p hp))]; exact ht9 p hp)
      · rw [List.append_nil]
        exact e10 _ _ (by rw [upd_ne (lD hw9)]; exact hw9)
      · exact e10 _ _ (by rw [upd_ne (lD hf9)]; exact hf9)
      · obtain ⟨_, _, _, _, _, _, _, h, _⟩ := hp
        exact h
      · obtain ⟨x6, ks, rfl, hks, htp, hwl', hfl', hfz, hk⟩ := hp
        obtain ⟨c, hc, rfl, rfl⟩ := kid_get hi
        have hklen : ks.length ≤ 123 := by
          have := congrArg List.length hks
          rw [List.length_map, List.length_map, List.length_take] at this
          omega
        refine s_appU hwl' (ev_var rfl) (eu_tup (ea_cons (e_dget (k := ky c) (below hk rfl) (.inr ⟨od, hfz⟩) (ev_var rfl) (by rw [val_kids, if_pos (List.mem_of_getElem? hc)])) (ea_cons (e_cat (b := [c]) (ev_var rfl) (ev_var rfl) (by simp; omega)) ea_nil)) (by simp)) (by
          rw [List.length_map, List.length_append]
          simp only [List.length_cons, List.length_nil] at hlen0
          omega) fun p H10 hp e10 hp10 => ?_
        have hpw : p ≠ wl := fun z => by rw [z, hwl'] at hp; cases hp
        refine ⟨_, ks ++ [(p, t ++ [c])], rfl, ?_, fun u hu => ?_, ?_, ?_, ?_, fun a o ha hne' => ?_⟩
        · rw [List.map_append, hks, List.take_add_one, hc, List.map_append]
          rfl
        · rw [← List.append_assoc] at hu
          rcases List.mem_append.mp hu with hu | hu
          · have h0 := htp u hu
            rw [upd_ne (qwl h0 hwl')]
            exact e10 _ _ h0
          · rw [List.mem_singleton.mp hu, upd_ne hpw]
            exact hp10
        · rw [upd_same, ← List.append_assoc, List.map_append (l₁ := w0 ++ ks)]
          rfl
        · rw [upd_ne hne]
          exact e10 _ _ hfl'
        · rw [upd_ne (fun z => by rw [z, hwl'] at hfz; cases hfz)]
          exact e10 _ _ hfz
        · rw [upd_ne (ne_of_none ha hwl3)]
          exact e10 _ _ (hk a o ha hne')
      · obtain ⟨x6, ks, rfl, hks, htp, hwl', hfl', hfz, hk⟩ := hp
        rw [List.length_map, List.take_length] at hks
        have nD : ∀ {l : Addr} {o : HO}, H' l = some o → (∀ od u, o ≠ .frz od u) → l ≠ D t := fun h hno z => by
          rw [z, hfz] at h
          exact hno _ _ (Option.some.inj h).symm
        refine hDn _ _ ⟨_, ?_, w0 ++ ks, fs', _, _, _, rfl, rfl, ⟨fun p hp => ?_, fun p hp => ?_, ?_, ?_, fun x hx => ?_, hi9, ?_⟩, fun a o ha => ?_⟩
        · rw [emap, List.map_append, hks, left_app, left_app, hkids]; omega
        · rcases List.mem_append.mp hp with hp | hp
          · exact I.dm p (List.mem_append_left _ hp)
          · have : p.2 ∈ ks.map (·.2) := List.mem_map.mpr ⟨p, hp, rfl⟩
            rw [hks] at this
            obtain ⟨c, hc, e⟩ := List.mem_map.mp this
            rw [← e]
            exact (c2 c).mp hc
        · have h0 := htp p hp
          rw [upd_ne (nD h0 fun _ _ z => nomatch z)]
          exact h0
        · rw [upd_ne (nD hwl' fun _ _ z => nomatch z)]
          exact hwl'
        · rw [upd_ne (nD hfl' fun _ _ z => nomatch z)]
          exact hfl'
        · have h1 := hcnt x hx
          have h2 := pend_kids (t := t) (x := x) (cs := cs) c1 (fun c hp => (c2 c).mpr (dom_pre hp (dom_mem hx)))
          rw [emap, pend_app, h2] at h1
          rw [hc9 x hx, List.map_append, hks, pend_app]
          omega
        · rw [List.map_append, hks, left_app]
          omega
        · by_cases hz : a = D t
          · rw [hz, upd_same, ← ha, hz, c3]
          · rw [upd_ne hz]
            exact hk a o ha hz
    refine Evl.q_when (et_B (e_end (T3.s.up e8) ht (ev_var rfl))) (fun hh H9 e9 => ?_) (fun hh H9 e9 => ?_)
    · have htW := of_decide_eq_true hh
      refine s_app (e9 _ _ hf8) (ev_var rfl) (ev_var rfl) (by rw [List.length_map]; omega) fun H10 e10 => ?_
      have e910 := e9.trans e10
      refine rest (fs ++ [t]) _ _ (Ex.mut (e8.trans e910) (fresh_back (Ex.refl _) hfl)) (fun p hp => ?_) ?_ ?_ (fun x hx => ?_) (fun x hx => ?_) (by rw [List.length_append]; exact Nat.le_refl _) _ fun σ2 H2 hN => hN
      · have h0 := hall8 p (List.mem_append_left _ hp)
        rw [upd_ne (qfl h0 hf8)]
        exact e910 _ _ h0
      · rw [upd_ne hne.symm]
        exact e910 _ _ hw8
      · rw [upd_same, List.map_append]
        rfl
      · rw [List.count_append, List.count_singleton]
        congr 1
        by_cases z : x = t
        · rw [if_pos z, z]; simp
        · rw [if_neg z, if_neg (by simpa using fun y => z y.symm)]
      · rcases List.mem_append.mp hx with hx | hx
        · exact I.inW x hx
        · rw [List.mem_singleton.mp hx]
          exact htW
    · have htW := of_decide_eq_false hh
      refine rest fs _ _ (e8.trans e9) (fun p hp => e9 _ _ (hall8 p (List.mem_append_left _ hp))) (e9 _ _ hw8) (e9 _ _ hf8) (fun x hx => ?_) I.inW (Nat.le_succ _) _ fun σ2 H2 hN => hN
      rw [if_neg (fun z => htW (by rw [← z]; exact hx))]
      rfl
end
end Nw

set_option Elab.async false
set_option linter.all false
set_option maxRecDepth 100000
set_option maxHeartbeats 1000000
/-! Nw.Txt: xs.remove(text), text.startswith(text), text in a list of texts -/
namespace Nw
open PySem L2 Evl PySem.W
/-! ### remove -/
def isW1 (w : List Nat) : Value → Bool
  | .str x _ => x.cps.toList == w
  | _ => false
theorem first_of {w : List Nat} : ∀ {ws : List (List Nat)}, w ∈ ws → ∃ j, j < ws.length ∧ ws[j]? = some w ∧ (∀ i, i < j → ws[i]? ≠ some w) ∧ ws.eraseIdx j = ws.erase w
  | [], h => by cases h
  | a :: r, h => by
    by_cases e : a = w
    · subst e
      exact ⟨0, by simp, rfl, fun i hi => absurd hi (Nat.not_lt_zero i), by simp⟩
    · obtain ⟨j, h1, h2, h3, h4⟩ := first_of ((List.mem_cons.mp h).resolve_left fun z => e z.symm)
      refine ⟨j + 1, by simpa using h1, by simpa using h2, fun i hi => ?_, ?_⟩
      · cases i with
        | zero => simpa using e
        | succ i => simpa using h3 i (by omega)
      · rw [List.erase_cons_tail (by simpa using e), ← h4]
        rfl
theorem map_eraseIdx {α β : Type} (f : α → β) : ∀ (xs : List α) (j : Nat), (xs.map f).eraseIdx j = (xs.eraseIdx j).map f
  | [], _ => rfl
  | _ :: _, 0 => rfl
  | x :: xs, j + 1 => by
    rw [List.map_cons, List.eraseIdx_cons_succ, List.eraseIdx_cons_succ, List.map_cons, map_eraseIdx f xs j]
def rRemoveS : V → List V → Hp → VK → Prop := fun x xs H Q => ∃ (l : Addr) (ws : List (List Nat)) (w : List Nat), x = .ref l ∧ xs = [tx w] ∧ H l = some (.lst (ws.map tx)) ∧ w ∈ ws ∧ Q .non (L2.upd H l (.lst ((ws.erase w).map tx)))
theorem mt_removeS {X : Cx} : MtM X "list.remove" rRemoveS := by
  rintro pins s σ H x xs v us Q I rx rxs ⟨l, ws, w, rfl, rfl, hH, hw, q⟩
  obtain rfl : v = .ref l := rx
  obtain ⟨u, rfl, t, rfl⟩ := rxs.one
  obtain ⟨z, its, n, r, hl, e⟩ := I.lstM hH
  rw [List.length_map] at hl z
  obtain ⟨j, h1, h2, h3, h4⟩ := first_of hw
  have at_ : ∀ {i : Nat} {a : List Nat} (hi : i < its.toArray.size), ws[i]? = some a → isW1 w its.toArray[i] = (a == w) := by
    intro i a hi ha
    have ga : (ws.map tx)[i]? = some (tx a) := by rw [List.getElem?_map, ha]; rfl
    obtain ⟨u, hu, t', rfl⟩ := r.get ga
    obtain ⟨_, g2⟩ := List.getElem?_eq_some_iff.mp hu
    have e1 : its.toArray[i] = .str ⟨a.toArray⟩ t' := by simpa using g2
    rw [e1]
    rfl
  have hsz : its.toArray.size = ws.length := by rw [List.size_toArray]; exact hl.symm
  have give : ∀ y, y ∈ its.toArray → MeetsSeq.EqGives y (.str ⟨w.toArray⟩ t) (isW1 w y) := by
    intro y hy
    obtain ⟨i, hi, rfl⟩ := List.getElem_of_mem (show y ∈ its by simpa using hy)
    have hi' : i < ws.length := by omega
    have ga : (ws.map tx)[i]? = some (tx ws[i]) := by rw [List.getElem?_map, List.getElem?_eq_getElem hi']; rfl
    obtain ⟨u, hu, t', hu'⟩ := r.get ga
    obtain ⟨_, g2⟩ := List.getElem?_eq_some_iff.mp hu
    rw [g2, hu']
    exact SeqRoads2.EqGives.str _ _ _ _
  refine call_meets PySem.F.slot_list_remove ⟨_, e, rfl⟩ PySem.F.entry_list_remove (PySem.F.args_list_remove_2 _ _)
    (MeetsSeq.list_remove l its.toArray n (.str ⟨w.toArray⟩ t) (isW1 w) give j (by omega) ?_ ?_ (by omega)) ⟨e, ?_⟩
  · rw [at_ (by omega) h2]
    simp
  · intro m hm hmj
    have hm' : m < ws.length := by omega
    rw [at_ hm (List.getElem?_eq_getElem hm')]
    refine beq_eq_false_iff_ne.mpr fun z => h3 m hmj ?_
    rw [List.getElem?_eq_getElem hm', z]
  · have rr := r.eraseIdx j
    rw [map_eraseIdx, h4] at rr
    refine ⟨.non, _, I.lset (its' := its.eraseIdx j) (t' := s.toks) hH e ?_ rr ?_, rfl, q⟩
    · show its.toArray.eraseIdxIfInBounds j = (its.eraseIdx j).toArray
      rw [List.eraseIdxIfInBounds_toArray]
    · rw [List.length_map, List.length_erase_of_mem hw]
      omega
/-! ### startswith -/
def nStarts : V → List V → Hp → VK → Prop := fun x xs H Q => ∃ a b, x = .str a ∧ xs = [.str b] ∧ Q (.bl (Txt.startswith a b)) H
theorem c_starts {X : Cx} : MtR X "str.startswith" nStarts := mt_startswith
theorem starts_eq (a b : List Nat) : Txt.startswith ⟨a.toArray⟩ ⟨b.toArray⟩ = decide (b <+: a) := by
  unfold Txt.startswith
  rw [PySem.StrLaws.subAt_eq, tx_len, tx_len]
  show (decide (0 + b.length ≤ a.length) && ((a.drop 0).take b.length == b)) = _
  rw [List.drop_zero, Nat.zero_add]
  by_cases h : b <+: a
  · have h1 := h.length_le
    have h2 := List.prefix_iff_eq_take.mp h
    rw [decide_eq_true h, decide_eq_true h1, ← h2]
    simp
  · rw [decide_eq_false h, Bool.and_eq_false_iff]
    refine .inr (beq_eq_false_iff_ne.mpr fun z => h ?_)
    rw [← z]
    exact List.take_prefix _ _
section
variable {K : PySem.W.Frag} {σ : L2.St} {H : Hp} {ta tb : TE} {a b : List Nat} {D : Ends} {tz : TS}
theorem e_starts (ha : Ev ta σ H (tx a)) (hb : Ev tb σ H (tx b)) : Ev (tM1 nStarts ta tb) σ H (.bl (decide (b <+: a))) := fun H1 e Q q =>
  ha H1 e _ fun H2 e2 => ⟨⟨_, rfl⟩, hb H2 (e.trans e2) _ fun H3 e3 => ⟨_, _, rfl, rfl, by rw [starts_eq]; exact q H3 (e2.trans e3)⟩⟩
theorem s_removeS {l : Addr} {ws : List (List Nat)} {w : List Nat} (hl : H l = some (.lst (ws.map tx))) (hw : w ∈ ws) (ha : Ev ta σ H (.ref l)) (hb : Ev tb σ H (tx w)) (k : ∀ H1, Ex H H1 → D.nx σ (L2.upd H1 l (.lst ((ws.erase w).map tx)))) : tDrop (tBM K "list" rRemoveS ta (tCons tb tNil)) D σ H :=
  ha H (Ex.refl H) _ fun H1 e1 => ⟨.inl ⟨rfl, _, sq_of (e1 _ _ hl)⟩, hb H1 e1 _ fun H2 e2 => ⟨l, ws, w, rfl, rfl, e2 _ _ (e1 _ _ hl), hw, k H2 (e1.trans e2)⟩⟩
/-! ### in a list of texts -/
theorem inV_tx (w : List Nat) : ∀ ws : List (List Nat), inV (tx w) (ws.map tx) = decide (w ∈ ws) ∧ (ws.map tx).all flatV = true
  | [] => ⟨by simp [inV], rfl⟩
  | a :: r => by
    obtain ⟨h1, h2⟩ := inV_tx w r
    refine ⟨?_, by rw [List.map_cons, List.all_cons, h2]; rfl⟩
    unfold inV at h1 ⊢
    rw [List.map_cons, List.any_cons, h1]
    have e : decide (w ∈ a :: r) = (decide (w = a) || decide (w ∈ r)) := by rw [← Bool.decide_or]; exact dec_eq List.mem_cons
    rw [e]
    congr 1
    show ((⟨a.toArray⟩ : Str) == ⟨w.toArray⟩) = decide (w = a)
    by_cases z : w = a
    · rw [z, decide_eq_true rfl]; simp
    · rw [decide_eq_false z]
      refine beq_eq_false_iff_ne.mpr fun y => z ?_
      have := congrArg Str.cps y
      exact (by simpa using this : a = w).symm
theorem e_inT {p : Addr} {ws : List (List Nat)} {w : List Nat} (ha : Ev ta σ H (tx w)) (hb : Ev tb σ H (.ref p)) (h : SqL K H p (ws.map tx)) : Ev (tOp (nInL K) ta tb) σ H (.bl (decide (w ∈ ws))) := by
  have e := ev_op (r := rIn K false) ha hb (rv_isL h rfl (inV_tx w ws).2)
  rw [(inV_tx w ws).1] at e
  exact e
theorem e_notInT {p : Addr} {ws : List (List Nat)} {w : List Nat} (ha : Ev ta σ H (tx w)) (hb : Ev tb σ H (.ref p)) (h : SqL K H p (ws.map tx)) : Ev (tOp (nNotInL K) ta tb) σ H (.bl (!decide (w ∈ ws))) := by
  have e := ev_op (r := rIn K true) ha hb (rv_niL h rfl (inV_tx w ws).2)
  rw [(inV_tx w ws).1] at e
  exact e
/-- == of lists of texts -/
theorem is_txs {p : Addr} {ws : List (List Nat)} (h : SqL K H p (ws.map tx)) : Is K H (.ref p) (ws.map fun w => (⟨w.toArray⟩ : Str)) := is_strs (by rw [List.map_map]; exact h)
theorem txs_inj {a b : List (List Nat)} : (a.map fun w => (⟨w.toArray⟩ : Str)) = (b.map fun w => (⟨w.toArray⟩ : Str)) ↔ a = b := by
  constructor
  · intro h
    have inj : ∀ {a b : List (List Nat)}, (a.map fun w => (⟨w.toArray⟩ : Str)) = (b.map fun w => (⟨w.toArray⟩ : Str)) → a = b := by
      intro a
      induction a with
      | nil =>
        intro b h
        cases b with
        | nil => rfl
        | cons y b => cases h
      | cons x a ih =>
        intro b h
        cases b with
        | nil => cases h
        | cons y b =>
          rw [List.map_cons, List.map_cons] at h
          injection h with h1 h2
          have e := congrArg Str.cps h1
          rw [ih h2, show x = y by simpa using e]
    exact inj h
  · intro h; rw [h]
end
end Nw

set_option Elab.async false
set_option linter.all false
set_option maxRecDepth 100000
/-! Nw.Near: need_most, gone_through, looked -/
namespace Nw
open PySem L2 Evl
/-! ### min(row) <= most -/
def nMin1 (K : PySem.W.Frag) : List V → Hp → VK → Prop := rMin K
theorem c_min1 {X : Cx} (hc : X.calm = true) : CallR X (.builtin "min") (nMin1 X.K) := cr_min hc
def okF (f : Nat → Nat) (n m : Nat) : Bool := (List.range n).any fun j => decide (f j ≤ m)
theorem okF_iff {f : Nat → Nat} {n m : Nat} : okF f n m = true ↔ ∃ j, j < n ∧ f j ≤ m := by
  unfold okF
  rw [List.any_eq_true]
  constructor
  · rintro ⟨j, hj, h⟩
    exact ⟨j, List.mem_range.mp hj, of_decide_eq_true h⟩
  · rintro ⟨j, hj, h⟩
    exact ⟨j, List.mem_range.mpr hj, decide_eq_true h⟩
theorem okF_congr {f g : Nat → Nat} {n m : Nat} (h : ∀ j, j < n → f j = g j) : okF f n m = okF g n m := by
  rw [Bool.eq_iff_iff, okF_iff, okF_iff]
  constructor
  · rintro ⟨j, hj, hh⟩; exact ⟨j, hj, by rw [← h j hj]; exact hh⟩
  · rintro ⟨j, hj, hh⟩; exact ⟨j, hj, by rw [h j hj]; exact hh⟩
def okT (w : List Nat) (m : Nat) (t : List Nat) : Bool := okF (cell t w t.length) (w.length + 1) m
theorem okT_nil (w : List Nat) (m : Nat) : okT w m [] = true := okF_iff.mpr ⟨0, by omega, by rw [show ([] : List Nat).length = 0 from rfl, cell_0]; omega⟩
theorem nxt_low {f : Nat → Nat} {c m : Nat} {w : List Nat} : ∀ j, nxt f c w j ≤ m → ∃ i, i ≤ j ∧ f i ≤ m
  | 0, h => ⟨0, Nat.le_refl _, by rw [nxt] at h; omega⟩
  | j + 1, h => by
    rw [nxt] at h
    by_cases h1 : nxt f c w j + 1 ≤ m
    · obtain ⟨i, hi, hf⟩ := nxt_low (f := f) (c := c) (m := m) (w := w) j (by omega)
      exact ⟨i, by omega, hf⟩
    · by_cases h2 : f (j + 1) + 1 ≤ m
      · exact ⟨j + 1, Nat.le_refl _, by omega⟩
      · exact ⟨j, by omega, by omega⟩
theorem row_snoc (t : List Nat) (c : Nat) (w : List Nat) (j : Nat) : cell (t ++ [c]) w (t ++ [c]).length j = nxt (cell t w t.length) c w j := by
  have e : (t ++ [c]).length = t.length + 1 := by simp
  have f : cell (t ++ [c]) w t.length = cell t w t.length := funext fun k => cell_congr _ _ (fun i hi => List.getElem?_append_left hi) (fun _ _ => rfl)
  rw [e, cell_nxt (c := c) (by rw [List.getElem?_append_right (Nat.le_refl _)]; simp), f]
theorem okT_snoc {w : List Nat} {m : Nat} {t : List Nat} {c : Nat} (h : okT w m (t ++ [c]) = true) : okT w m t = true := by
  obtain ⟨j, hj, hh⟩ := okF_iff.mp h
  rw [row_snoc] at hh
  obtain ⟨i, hi, hf⟩ := nxt_low j hh
  exact okF_iff.mpr ⟨i, by omega, hf⟩
theorem okT_pre {w : List Nat} {m : Nat} {s : List Nat} : ∀ (k : Nat) {u : List Nat}, u.length = k → okT w m (s ++ u) = true → okT w m s = true
  | 0, u, hk, h => by
    rw [List.length_eq_zero_iff.mp hk, List.append_nil] at h
    exact h
  | k + 1, u, hk, h => by
    obtain ⟨ys, y, rfl⟩ := concat_of (xs := u) (fun z => by rw [z] at hk; cases hk)
    rw [← List.append_assoc] at h
    exact okT_pre k (by rw [List.length_append] at hk; simpa using hk) (okT_snoc h)
def vis (W : List (List Nat)) (w : List Nat) (m : Nat) : List (List Nat) := (begs W).filter (okT w m)
theorem vis_mem {W : List (List Nat)} {w : List Nat} {m : Nat} {t : List Nat} : t ∈ vis W w m ↔ dom W t ∧ okT w m t = true := by
  unfold vis
  rw [List.mem_filter, begs_mem]
theorem vis_nodup (W : List (List Nat)) (w : List Nat) (m : Nat) : (vis W w m).Nodup := (begs_nodup W).sublist List.filter_sublist
theorem vis_le {W : List (List Nat)} (w : List Nat) (m : Nat) : (vis W w m).length ≤ (begs W).length := List.length_filter_le _ _
/-! ### the defs -/
def IsM (v : V) : Prop := ∃ m : Nat, v = .int (m : Int) ∧ m ≤ 24
def sp_need_most (K : PySem.W.Frag) (C : Addr) : Sp := fun vs H Q E => ∃ v, vs = [v] ∧ Any v H ∧ (IsM v → RetV .non H Q) ∧ (¬ IsM v → RetE C H E)
/-- a node, its text, its row -/
def It3 (A : List Nat → Addr) (w : List Nat) (H : Hp) (p : Addr × List Nat) : Prop := ∃ ρ, H p.1 = some (.tup [.ref (A p.2), tx p.2, .ref ρ]) ∧ H ρ = some (.lst (rowV (cell p.2 w p.2.length) (w.length + 1)))
def GoneT (A : List Nat → Addr) (W : List (List Nat)) (w : List Nat) (m : Nat) (ts : List (Addr × List Nat)) (H : Hp) : Prop := (∀ p ∈ ts, It3 A w H p) ∧ (ts.map (·.2)).Perm (vis W w m)
def sp_gone_through (K : PySem.W.Frag) (CT CN : Addr) : Sp := fun vs H Q _ => ∃ (r : Addr) (w : List Nat) (m : Nat) (A D : List Nat → Addr) (W : List (List Nat)), vs = [.ref r, tx w, .int (m : Int)] ∧ Tree K CT CN r A D W H ∧ W.length ≤ 1000 ∧ w.length ≤ 24 ∧
  ∀ (p : Addr) (ts : List (Addr × List Nat)) (H2 : Hp), H p = none → Ex H H2 → H2 p = some (.lst (ts.map fun p => .ref p.1)) → GoneT A W w m ts H2 → Q (.ref p) H2
def sp_looked (K : PySem.W.Frag) (CT CN CB CM : Addr) : Sp := fun vs H Q E => ∃ r v u A D W, vs = [.ref r, v, u] ∧ Tree K CT CN r A D W H ∧ W.length ≤ 1000 ∧ Any v H ∧ Any u H ∧
  (∀ (w : List Nat) (m : Nat), v = tx w → isW w = true → u = .int (m : Int) → m ≤ 24 → RetV (.int ((vis W w m).length : Int)) H Q) ∧ (¬ IsWd v → RetE CB H E) ∧ (IsWd v → ¬ IsM u → RetE CM H E)
/- need_most(thing): slots 0:thing -/
def T_need_most (K : PySem.W.Frag) (C_BadMost : Addr) (E : XK) : TS :=
 (tIfS (tOr (tNot (tB (tCall (sp_is_whole K) [] E0 (tCons (tVar 0) tNil)))) (tNot (tTest (tChain nLe nLe (tC (.int 0)) (tVar 0) (tC (.int 24))))))
 (tRaise E (.ref C_BadMost)) tNext)
def n_need_most : Nat := 1
/- gone_through(tree, word, most): slots 0:tree 1:word 2:most 3:found 4:waiting 5:node 6:text 7:row 8:letter 9:below -/
def T_gone_through (K : PySem.W.Frag) : TS :=
 (tSeq (tAsg (tLst tNil) (gName 3))
 (tSeq (tAsg (tLst (tCons (tTup (tCons (tFld K (tVar 0) "root") (tCons (tC (tx [])) (tCons (tCall (sp_first_row K) [] E0 (tCons (tVar 1) tNil)) tNil)))) tNil)) (gName 4))
 (tSeq (tWhile (tTru K (tVar 4))
 (tSeq (tAsg (tBM0 K "list" rPop (tVar 4)) (gTup K 3 (gCons (gName 5) (gCons (gName 6) (gCons (gName 7) gNil)))))
 (tSeq (tDrop (tBM K "list" rAppend (tVar 3) (tCons (tTup (tCons (tVar 5) (tCons (tVar 6) (tCons (tVar 7) tNil)))) tNil)))
 (tLock (tFor (iKeys (tFld K (tVar 5) "below")) (gName 8)
 (tSeq (tAsg (tCall (sp_next_row K) [] E0 (tCons (tVar 7) (tCons (tVar 8) (tCons (tVar 1) tNil)))) (gName 9))
 (tIfS (tTest (tOp nLe (tCB (nMin1 K) (tCons (tVar 9) tNil)) (tVar 2)))
 (tDrop (tBM K "list" rAppend (tVar 4) (tCons (tTup (tCons (tDGet (tFld K (tVar 5) "below") (tVar 8)) (tCons (tOp nCat (tVar 6) (tVar 8)) (tCons (tVar 9) tNil)))) tNil))) tNext)))))))
 (tRet (tVar 3)))))
def n_gone_through : Nat := 10
/- looked(tree, word, most): slots 0:tree 1:word 2:most -/
def T_looked (K : PySem.W.Frag) (C_Tree C_Node C_BadWord C_BadMost : Addr) (E : XK) : TS :=
 (tSeq (tDrop (tCall (sp_need_word K C_BadWord) [] E (tCons (tVar 1) tNil)))
 (tSeq (tDrop (tCall (sp_need_most K C_BadMost) [] E (tCons (tVar 2) tNil)))
 (tRet (tCB (nLenL K) (tCons (tCall (sp_gone_through K C_Tree C_Node) [] E0 (tCons (tVar 0) (tCons (tVar 1) (tCons (tVar 2) tNil)))) tNil)))))
def n_looked : Nat := 3
theorem l_need_most {K C vs H Q E} (h : sp_need_most K C vs H Q E) : vs.length = 1 := by obtain ⟨_, rfl, _⟩ := h; rfl
theorem l_gone_through {K CT CN vs H Q E} (h : sp_gone_through K CT CN vs H Q E) : vs.length = 3 := by obtain ⟨_, _, _, _, _, _, rfl, _⟩ := h; rfl
theorem l_looked {K CT CN CB CM vs H Q E} (h : sp_looked K CT CN CB CM vs H Q E) : vs.length = 3 := by obtain ⟨_, _, _, _, _, _, rfl, _⟩ := h; rfl
section
variable {K : PySem.W.Frag} {vs : List V} {H H' : Hp} {Q : VK} {E : XK} {CT CN CB CM CF r : Addr} {A D : List Nat → Addr} {W : List (List Nat)} {σ : L2.St} {ta tb tc : TE} {tr : TA} {w : List Nat}
theorem e_minle {a : Addr} {f : Nat → Nat} {n m : Nat} (ha : Ev ta σ H (.ref a)) (h : H a = some (.lst (rowV f (n + 1)))) (hb : Ev tb σ H (.int (m : Int))) : Ev (tOp nLe (tCB (nMin1 K) (tCons ta tNil)) tb) σ H (.bl (okF f (n + 1) m)) := fun H1 e Q q =>
  have hm : EvG (tCB (nMin1 K) (tCons ta tNil)) σ H (fun v _ => ∃ mn : Int, v = .int mn ∧ mn ∈ (List.range (n + 1)).map (fun j => (f j : Int)) ∧ ∀ y ∈ (List.range (n + 1)).map (fun j => (f j : Int)), mn ≤ y) := fun H1 e Q q =>
    ea_cons ha ea_nil H1 e (fun xs H2 => nMin1 K xs H2 Q) fun H2 e2 => ⟨a, (List.range (n + 1)).map (fun j => (f j : Int)), rfl, by
      have er : ((List.range (n + 1)).map fun j => (f j : Int)).map V.int = rowV f (n + 1) := by rw [List.map_map]; rfl
      rw [er]
      exact sq_of (e2 _ _ (e _ _ h)), by rw [List.length_map, List.length_range]; omega, fun mn h1 h2 => q _ H2 e2 ⟨mn, rfl, h1, h2⟩⟩
  hm H1 e _ fun v H2 e2 hv => hb H2 (e.trans e2) _ fun H3 e3 => by
    obtain ⟨mn, rfl, h1, h2⟩ := hv
    have eb : decide (mn ≤ (m : Int)) = okF f (n + 1) m := by
      rw [Bool.eq_iff_iff, decide_eq_true_eq, okF_iff]
      constructor
      · intro hm
        obtain ⟨j, hj, rfl⟩ := List.mem_map.mp h1
        exact ⟨j, List.mem_range.mp hj, by omega⟩
      · rintro ⟨j, hj, hf⟩
        have := h2 (f j : Int) (List.mem_map.mpr ⟨j, List.mem_range.mpr hj, rfl⟩)
        omega
    refine ⟨mn, (m : Int), rfl, rfl, ?_⟩
    show Q (.bl (decide (mn ≤ (m : Int)))) H3
    rw [eb]
    exact q H3 (e2.trans e3)
theorem isI_iff {v : V} : isI v = true ↔ ∃ i, v = .int i := by
  constructor
  · intro h
    cases v <;> first | exact ⟨_, rfl⟩ | cases h
  · rintro ⟨i, rfl⟩; rfl
theorem R_need_most (h : sp_need_most K CM vs H Q E) : T_need_most K CM E (fin Q) (slots n_need_most vs) H := by
  obtain ⟨v, rfl, hv, k, kE⟩ := h
  show T_need_most K CM E (fin Q) [some v] H
  unfold T_need_most
  have ew : Ev (tCall (sp_is_whole K) [] E0 (tCons (tVar 0) tNil)) [some v] H (.bl (isI v)) := ev_call (ea_cons (ev_var rfl) ea_nil) fun H1 e Q q E => ⟨v, rfl, any_up _ _ _ e hv, fun H2 e2 => q H2 e2⟩
  by_cases hi : isI v = true
  · obtain ⟨i, rfl⟩ := isI_iff.mp hi
    refine s_when (b := !decide (0 ≤ i ∧ i ≤ 24)) (et_is (et_or (et_not (et_B ew)) fun _ => et_not (et_test (e_chain2 ev_c (ev_var rfl) ev_c))) (by rw [hi]; rfl)) (fun hh H1 e1 => ?_) (fun hh H1 e1 => ?_)
    · refine raise_ok (kE fun ⟨m, hm, hl⟩ => nd hh ?_) e1
      have := V.int.inj hm
      omega
    · have hh := nd' hh
      exact k ⟨i.toNat, by rw [Int.toNat_of_nonneg hh.1], by omega⟩ _ e1
  · refine s_when (b := true) (et_is (et_or (b := true) (et_not (et_B ew)) fun hh => absurd (by simpa using hh) hi) (by simp [hi])) (fun hh H1 e1 => ?_) (fun hh => by cases hh)
    exact raise_ok (kE fun ⟨m, hm, hl⟩ => hi (by rw [hm]; rfl)) e1
theorem row_ne {H : Hp} {ρ l : Addr} {f : Nat → Nat} {n : Nat} {ps : List (Addr × List Nat)} (h : H ρ = some (.lst (rowV f (n + 1)))) (hl : H l = some (.lst (ps.map fun p => .ref p.1))) : ρ ≠ l := fun z => by
  rw [z, hl] at h
  have e := congrArg (fun xs => xs[0]?) (HO.lst.inj (Option.some.inj h))
  rw [show (rowV f (n + 1))[0]? = some (.int (f 0 : Int)) from rowV_get (by omega), List.getElem?_map] at e
  cases hp : ps[0]? with
  | none => rw [hp] at e; cases e
  | some p => rw [hp] at e; cases e
theorem It3.up {p : Addr × List Nat} (e : Ex H H') (h : It3 A w H p) : It3 A w H' p := let ⟨ρ, h1, h2⟩ := h; ⟨ρ, e _ _ h1, e _ _ h2⟩
theorem It3.keep {p : Addr × List Nat} {l : Addr} {ps : List (Addr × List Nat)} {o : HO} (h : It3 A w H p) (hl : H l = some (.lst (ps.map fun p => .ref p.1))) : It3 A w (L2.upd H l o) p := by
  obtain ⟨ρ, h1, h2⟩ := h
  exact ⟨ρ, by rw [upd_ne (fun z => by rw [z, hl] at h1; cases h1)]; exact h1, by rw [upd_ne (row_ne h2 hl)]; exact h2⟩
/-- what gone_through has found, what it waits for -/
structure GonI (A : List Nat → Addr) (W : List (List Nat)) (w : List Nat) (m : Nat) (fl wl : Addr) (ws fs : List (Addr × List Nat)) (H : Hp) : Prop where
  dm : ∀ p ∈ ws, p.2 ∈ vis W w m
  iw : ∀ p ∈ ws, It3 A w H p
  jf : ∀ p ∈ fs, It3 A w H p
  wat : H wl = some (.lst (ws.map fun p => .ref p.1))
  fnd : H fl = some (.lst (fs.map fun p => .ref p.1))
  cnt : ∀ x, x ∈ vis W w m → (fs.map (·.2)).count x + pend (ws.map (·.2)) x = 1
  inV : ∀ p ∈ fs, p.2 ∈ vis W w m
  len : fs.length + left (vis W w m) (ws.map (·.2)) ≤ (vis W w m).length
theorem vis_perm {W : List (List Nat)} {m : Nat} {fs : List (List Nat)} (h1 : ∀ x, x ∈ vis W w m → fs.count x = 1) (h2 : ∀ x ∈ fs, x ∈ vis W w m) : fs.Perm (vis W w m) := by
  rw [List.perm_iff_count]
  intro x
  by_cases hx : x ∈ vis W w m
  · rw [h1 x hx, (vis_nodup W w m).count, if_pos hx]
  · rw [List.count_eq_zero.mpr fun z => hx (h2 x z), List.count_eq_zero.mpr hx]
theorem g_t3 {x y : V} {zs : List V} (ha : Ev ta σ H x) (hb : Ev tb σ H y) (hc : EvL tc σ H zs) : EvG (tTup (tCons ta (tCons tb (tCons tc tNil)))) σ H (fun v H2 => ∃ q ρ, v = .ref q ∧ H2 q = some (.tup [x, y, .ref ρ]) ∧ H2 ρ = some (.lst zs)) := fun H1 e Q k =>
  ha H1 e _ fun H2 e2 => hb H2 (e.trans e2) _ fun H3 e3 => hc H3 ((e.trans e2).trans e3) _ fun ρ H4 hρ e4 h4 => ⟨by show 3 ≤ sizeLine; decide, fun q hq => k _ _ (((e2.trans e3).trans e4).trans (Ex.new hq)) ⟨q, ρ, rfl, upd_same, by
    rw [upd_ne (ne_of_none h4 hq)]
    exact h4⟩⟩
theorem it3_ex {p : Addr × List Nat} (hp : It3 A w H p) : ∃ ρ, H p.1 = some (.tup [.ref (A p.2), tx p.2, .ref ρ]) ∧ H ρ = some (.lst (rowV (cell p.2 w p.2.length) (w.length + 1))) := hp
theorem R_gone_through (h : sp_gone_through K CT CN vs H Q E) : T_gone_through K (fin Q) (slots n_gone_through vs) H := by
  obtain ⟨r, w, m, A, D, W, rfl, T, hW, hw, k⟩ := h
  show T_gone_through K (fin Q) [some (.ref r), some (tx w), some (.int (m : Int)), none, none, none, none, none, none, none] H
  unfold T_gone_through
  have hB := begs_le T.wd hW
  have hV := vis_le (W := W) w m
  refine q_asgL (el_lst ea_nil (by decide)) fun fl H1 hfl e1 hfl1 => ?_
  have upP : Up (fun v H => ∃ q, v = .ref q ∧ It3 A w H (q, [])) := fun v H H' e ⟨q, h1, h2⟩ => ⟨q, h1, h2.up e⟩
  have first : EvG (tTup (tCons (tFld K (tVar 0) "root") (tCons (tC (tx [])) (tCons (tCall (sp_first_row K) [] E0 (tCons (tVar 1) tNil)) tNil)))) [some (.ref r), some (tx w), some (.int (m : Int)), some (.ref fl), none, none, none, none, none, none] H1 (fun v H => ∃ q, v = .ref q ∧ It3 A w H (q, [])) :=
    (g_t3 (e_root (T.s.up e1) (ev_var rfl)) ev_c (el_first_row (K := K) (w := w) (ev_var rfl) (by omega))).imp fun v H2 e hv => by
      obtain ⟨q, ρ, rfl, h1, h2⟩ := hv
      exact ⟨q, rfl, ρ, h1, by rw [h2]; exact congrArg (fun xs => some (HO.lst xs)) (rowV_congr fun j _ => (cell_0 [] w j).symm)⟩
  refine q_asgAll upP (all_cons upP first all_nil) (by decide) fun vs wl H2 hwl e2 hwl2 hall hlen => ?_
  obtain ⟨v0, rfl⟩ := List.length_eq_one_iff.mp hlen
  obtain ⟨q0, rfl, hq0⟩ := hall v0 (by simp)
  have T1 := T.up e1
  have hne : fl ≠ wl := fun z => by rw [z, hwl] at hfl1; cases hfl1
  have root_in : [] ∈ vis W w m := vis_mem.mpr ⟨dom_nil W, okT_nil w m⟩
  have hwl0 := fresh_back e1 hwl
  refine q_while (fun μ σ' H' => ∃ (ws fs : List (Addr × List Nat)) (x5 x6 x7 x8 x9 : Option V), σ' = [some (.ref r), some (tx w), some (.int (m : Int)), some (.ref fl), some (.ref wl), x5, x6, x7, x8, x9] ∧ μ = left (vis W w m) (ws.map (·.2)) ∧ GonI A W w m fl wl ws fs H' ∧ Ex H H')
    (left (vis W w m) [[]]) ⟨[(q0, [])], [], _, _, _, _, _, rfl, rfl, ⟨fun p hp => ?_, fun p hp => ?_, fun p hp => (by cases hp), hwl2, e2 _ _ hfl1, fun x hx => ?_, fun p hp => (by cases hp), ?_⟩, e1.trans e2⟩ (fun μ σ' H' hw' => ?_)
  · rw [List.mem_singleton.mp hp]; exact root_in
  · rw [List.mem_singleton.mp hp]; exact hq0
  · show ([] : List (List Nat)).count x + pend [[]] x = 1
    rw [List.count_nil, pend_one, if_pos List.nil_prefix]
  · show 0 + left (vis W w m) [[]] ≤ _
    rw [left_root]; omega
  obtain ⟨ws, fs, x5, x6, x7, x8, x9, rfl, rfl, I, e⟩ := hw'
  refine ⟨_, et_tru (ev_var rfl) I.wat, fun hb' H3 e3 => ?_, fun hb' H3 e3 => ?_⟩
  case refine_2 =>
    have h0 : ws = [] := by
      cases ws with
      | nil => rfl
      | cons a r' => cases hb'
    subst h0
    refine s_ret (ev_var rfl) fun H4 e4 => k fl fs H4 hfl ((e.trans e3).trans e4) (e4 _ _ (e3 _ _ I.fnd)) ⟨fun p hp => (I.jf p hp).up (e3.trans e4), vis_perm (fun x hx => I.cnt x hx) fun x hx => ?_⟩
    obtain ⟨p, hp, rfl⟩ := List.mem_map.mp hx
    exact I.inV p hp
  case refine_1 =>
    obtain ⟨w0, ⟨q, t⟩, rfl⟩ := concat_of (xs := ws) (fun z => by rw [z] at hb'; cases hb')
    have htV : t ∈ vis W w m := I.dm (q, t) (by simp)
    obtain ⟨htd, htk⟩ := vis_mem.mp htV
    have ht : dom W t := htd
    have lt : t.length ≤ 24 := dom_len T.wd ht
    have hdall : ∀ u ∈ (w0 ++ [(q, t)]).map (·.2), u ∈ vis W w m := fun u hu => by
      obtain ⟨p, hp, rfl⟩ := List.mem_map.mp hu
      exact I.dm p hp
    have hlen0 := left_len hdall
    rw [List.length_map, List.length_append] at hlen0
    have hIlen := I.len
    have hcnt := I.cnt
    have hwat := I.wat
    rw [List.map_append] at hwat
    obtain ⟨cs, c1, c2, c3⟩ := T.s.dict t ht
    obtain ⟨dx, hn⟩ := T.s.node t ht
    have hcs : cs.length ≤ 123 := nodup_len 123 cs c1 fun a ha => dom_low T.wd ((c2 a).mp ha)
    have okids : ∀ x ∈ vis W w m, ∀ c, t ++ [c] <+: x → c ∈ cs.filter fun c => okT w m (t ++ [c]) := fun x hx c hp => by
      obtain ⟨hx1, hx2⟩ := vis_mem.mp hx
      refine List.mem_filter.mpr ⟨(c2 c).mpr (dom_pre hp hx1), ?_⟩
      obtain ⟨u, rfl⟩ := hp
      exact okT_pre _ rfl hx2
    have ndk : (cs.filter fun c => okT w m (t ++ [c])).Nodup := c1.sublist List.filter_sublist
    have hkids := left_kids (L := vis W w m) (vis_nodup W w m) htV ndk okids
    have emap : (w0 ++ [(q, t)]).map (·.2) = w0.map (·.2) ++ [t] := by rw [List.map_append]; rfl
    rw [emap, left_app, hkids] at hIlen hlen0
    refine ⟨fun σ2 H2 => ∃ μ', μ' < left (vis W w m) ((w0 ++ [(q, t)]).map (·.2)) ∧ ∃ (ws fs : List (Addr × List Nat)) (x5 x6 x7 x8 x9 : Option V), σ2 = [some (.ref r), some (tx w), some (.int (m : Int)), some (.ref fl), some (.ref wl), x5, x6, x7, x8, x9] ∧ μ' = left (vis W w m) (ws.map (·.2)) ∧ GonI A W w m fl wl ws fs H2 ∧ Ex H H2, fun σ2 H2 hN => hN, ?_⟩
    refine e_pop (xs := w0.map fun p => .ref p.1) (y := .ref q) (ev_var rfl) (e3 _ _ hwat) fun H4 e4 => ?_
    have e34 := e3.trans e4
    have e5 := Ex.mut (o := .lst (w0.map fun p => .ref p.1)) (e.trans e34) hwl0
    have I4w : H4 wl = some (.lst ((w0 ++ [(q, t)]).map fun p => .ref p.1)) := e34 _ _ I.wat
    have iw5 : ∀ p ∈ w0 ++ [(q, t)], It3 A w (L2.upd H4 wl (.lst (w0.map fun p => .ref p.1))) p := fun p hp => ((I.iw p hp).up e34).keep I4w
    have jf5 : ∀ p ∈ fs, It3 A w (L2.upd H4 wl (.lst (w0.map fun p => .ref p.1))) p := fun p hp => ((I.jf p hp).up e34).keep I4w
    have hw5 : L2.upd H4 wl (.lst (w0.map fun p => .ref p.1)) wl = some (.lst (w0.map fun p => .ref p.1)) := upd_same
    have hf5 : L2.upd H4 wl (.lst (w0.map fun p => .ref p.1)) fl = some (.lst (fs.map fun p => .ref p.1)) := by
      rw [upd_ne hne]
      exact e34 _ _ I.fnd
    generalize L2.upd H4 wl (.lst (w0.map fun p => .ref p.1)) = H5 at e5 iw5 jf5 hw5 hf5
    obtain ⟨ρ, hq5, hρ5⟩ := it3_ex (iw5 (q, t) (by simp))
    refine ⟨q, _, rfl, SqT.of hq5, rfl, _, _, rfl, _, _, rfl, _, _, rfl, rfl, ?_⟩
    show tSeq _ _ _ [some (.ref r), some (tx w), some (.int (m : Int)), some (.ref fl), some (.ref wl), some (.ref (A t)), some (tx t), some (.ref ρ), x8, x9] H5
    have hρt : H5 ρ = some (.lst (rowV (cell t w t.length) (w.length + 1))) := hρ5
    -- found.append((node, text, row))
    refine q_appU hf5 (ev_var rfl) (eu_tup (ea_cons (ev_var rfl) (ea_cons (ev_var rfl) (ea_cons (ev_var rfl) ea_nil))) (by simp)) (by rw [List.length_map]; omega) fun p6 H6 hp6 e6 h6 => ?_
    have hfl0 : H fl = none := hfl
    have hf6 : H6 fl = some (.lst (fs.map fun p => .ref p.1)) := e6 _ _ hf5
    have n6 : p6 ≠ fl := fun z => by rw [z, hf5] at hp6; cases hp6
    have nρ : ρ ≠ fl := row_ne hρt hf5
    have e7 := Ex.mut (o := .lst ((fs ++ [(p6, t)]).map fun p => .ref p.1)) (e5.trans e6) hfl0
    have em : (fs.map fun p => V.ref p.1) ++ [V.ref p6] = (fs ++ [(p6, t)]).map fun p => .ref p.1 := by rw [List.map_append]; rfl
    rw [em]
    have iw7 : ∀ p ∈ w0, It3 A w (L2.upd H6 fl (.lst ((fs ++ [(p6, t)]).map fun p => .ref p.1))) p := fun p hp => ((iw5 p (List.mem_append_left _ hp)).up e6).keep hf6
    have jf7 : ∀ p ∈ fs ++ [(p6, t)], It3 A w (L2.upd H6 fl (.lst ((fs ++ [(p6, t)]).map fun p => .ref p.1))) p := fun p hp => by
      rcases List.mem_append.mp hp with hp | hp
      · exact ((jf5 p hp).up e6).keep hf6
      · rw [List.mem_singleton.mp hp]
        exact ⟨ρ, by rw [upd_ne n6]; exact h6, by rw [upd_ne nρ]; exact e6 _ _ hρt⟩
    have hw7 : L2.upd H6 fl (.lst ((fs ++ [(p6, t)]).map fun p => .ref p.1)) wl = some (.lst (w0.map fun p => .ref p.1)) := by rw [upd_ne hne.symm]; exact e6 _ _ hw5
    have hf7 : L2.upd H6 fl (.lst ((fs ++ [(p6, t)]).map fun p => .ref p.1)) fl = some (.lst ((fs ++ [(p6, t)]).map fun p => .ref p.1)) := upd_same
    have hρ7 : L2.upd H6 fl (.lst ((fs ++ [(p6, t)]).map fun p => .ref p.1)) ρ = some (.lst (rowV (cell t w t.length) (w.length + 1))) := by rw [upd_ne nρ]; exact e6 _ _ hρt
    generalize L2.upd H6 fl (.lst ((fs ++ [(p6, t)]).map fun p => .ref p.1)) = H7 at e7 iw7 jf7 hw7 hf7 hρ7
    clear iw5 jf5 hw5 hf5 hq5 hρ5 hρt h6 hf6 e5 e6 hp6 em
    have nAD : A t ≠ D t := fun z => by rw [z, c3] at hn; cases hn
    have below : ∀ {H' : Hp} {σ : L2.St}, (∀ a o, H a = some o → a ≠ D t → H' a = some o) → σ[5]? = some (some (.ref (A t))) → Ev (tFld K (tVar 5) "below") σ H' (.ref (D t)) := fun hk hσ => e_fld (ev_var hσ) (hk _ _ hn nAD) T.s.tx.clN T.s.tx.nBelow lk_hd
    have c7 := e7 _ _ c3
    have lD : ∀ {l : Addr} {ys : List V}, H7 l = some (.lst ys) → l ≠ D t := fun h z => by rw [z, c7] at h; cases h
    have tD : ∀ {l : Addr} {ys : List V}, H7 l = some (.tup ys) → l ≠ D t := fun h z => by rw [z, c7] at h; cases h
    have it_off : ∀ {p : Addr × List Nat} {od : Obj} {H8 : Hp}, It3 A w H7 p → Ex (L2.upd H7 (D t) (.frz od (.dK (cs.map (kid A t))))) H8 → It3 A w H8 p := fun h e8 => by
      obtain ⟨ρ', g1, g2⟩ := h
      exact ⟨ρ', e8 _ _ (by rw [upd_ne (tD g1)]; exact g1), e8 _ _ (by rw [upd_ne (lD g2)]; exact g2)⟩
    have off : ∀ {od : Obj} {H8 : Hp}, Ex (L2.upd H7 (D t) (.frz od (.dK (cs.map (kid A t))))) H8 → ∀ a o, H a = some o → a ≠ D t → H8 a = some o := fun h a o ha hne => h _ _ (by rw [upd_ne hne]; exact e7 _ _ ha)
    refine s_forK c7 (fun od => below (off (Ex.refl _)) rfl) (fun od i σ' H' => ∃ (x8 x9 : Option V) (ks : List (Addr × List Nat)), σ' = [some (.ref r), some (tx w), some (.int (m : Int)), some (.ref fl), some (.ref wl), some (.ref (A t)), some (tx t), some (.ref ρ), x8, x9] ∧ ks.map (·.2) = ((cs.take i).filter fun c => okT w m (t ++ [c])).map (fun c => t ++ [c]) ∧
        (∀ p ∈ w0 ++ ks, It3 A w H' p) ∧ (∀ p ∈ fs ++ [(p6, t)], It3 A w H' p) ∧ H' wl = some (.lst ((w0 ++ ks).map fun p => .ref p.1)) ∧ H' fl = some (.lst ((fs ++ [(p6, t)]).map fun p => .ref p.1)) ∧ H' ρ = some (.lst (rowV (cell t w t.length) (w.length + 1))) ∧ H' (D t) = some (.frz od (.dK (cs.map (kid A t)))) ∧ ∀ a o, H a = some o → a ≠ D t → H' a = some o)
      (fun od H8 e8 => ⟨_, _, [], rfl, by simp, fun p hp => ?_, fun p hp => it_off (jf7 p hp) e8, ?_, e8 _ _ (by rw [upd_ne (lD hf7)]; exact hf7), e8 _ _ (by rw [upd_ne (lD hρ7)]; exact hρ7), e8 _ _ upd_same, off e8⟩) (fun od i σ' H' hp => ?_) (fun od i ck v σ' H' hi hp => ?_) (fun od σ' H' hp => ?_)
    · rw [List.append_nil] at hp
      exact it_off (iw7 p hp) e8
    · rw [List.append_nil]
      exact e8 _ _ (by rw [upd_ne (lD hw7)]; exact hw7)
    · obtain ⟨_, _, _, _, _, _, _, _, _, _, h, _⟩ := hp
      exact h
    · obtain ⟨x8, x9, ks, rfl, hks, hi1, hi2, hwl', hfl', hρ', hfz, hk⟩ := hp
      obtain ⟨c, hc, rfl, rfl⟩ := kid_get hi
      have hcm := List.mem_of_getElem? hc
      have hklen : ks.length ≤ 123 := by
        have h1 := congrArg List.length hks
        have h2 := List.length_filter_le (fun c => okT w m (t ++ [c])) (cs.take i)
        rw [List.length_map, List.length_map] at h1
        rw [List.length_take] at h2
        omega
      have etake : (cs.take (i + 1)).filter (fun c => okT w m (t ++ [c])) = (cs.take i).filter (fun c => okT w m (t ++ [c])) ++ (if okT w m (t ++ [c]) = true then [c] else []) := by
        rw [List.take_add_one, hc, List.filter_append]
        show _ ++ List.filter _ [c] = _
        rw [List.filter_cons]
        rfl
      refine q_asgL (el_next_row (f := cell t w t.length) (c := c) (ev_var rfl) (ev_var rfl) (ev_var rfl) (sq_of hρ') (by omega)) fun β H8 hβ e8 hβ8 => ?_
      have hβ' : H8 β = some (.lst (rowV (cell (t ++ [c]) w (t ++ [c]).length) (w.length + 1))) := by
        rw [hβ8, rowV_congr fun j _ => (row_snoc t c w j).symm]
      have eok : okF (cell (t ++ [c]) w (t ++ [c]).length) (w.length + 1) m = okT w m (t ++ [c]) := rfl
      have hw8 := e8 _ _ hwl'
      refine s_when (et_test (e_minle (ev_var rfl) hβ' (ev_var rfl))) (fun hh H9 e9 => ?_) (fun hh H9 e9 => ?_)
      · rw [eok] at hh
        have e89 := e8.trans e9
        refine s_appU (e9 _ _ hw8) (ev_var rfl) (eu_tup (ea_cons (e_dget (k := ky c) (below (fun a o ha hne => e89 _ _ (hk a o ha hne)) rfl) (.inr ⟨od, e89 _ _ hfz⟩) (ev_var rfl) (by rw [val_kids, if_pos hcm])) (ea_cons (e_cat (b := [c]) (ev_var rfl) (ev_var rfl) (by simp; omega)) (ea_cons (ev_var rfl) ea_nil))) (by simp)) (by
          rw [List.length_map, List.length_append]
          simp only [List.length_cons, List.length_nil] at hlen0
          omega) fun p H10 hp10 e10 h10 => ?_
        have e810 := e89.trans e10
        have hw10 : H10 wl = some (.lst ((w0 ++ ks).map fun p => .ref p.1)) := e10 _ _ (e9 _ _ hw8)
        have hpw : p ≠ wl := fun z => by rw [z, e9 _ _ hw8] at hp10; cases hp10
        have hβ10 := e10 _ _ (e9 _ _ hβ')
        refine ⟨_, _, ks ++ [(p, t ++ [c])], rfl, ?_, fun u hu => ?_, fun u hu => ((hi2 u hu).up e810).keep hw10, ?_, ?_, ?_, ?_, fun a o ha hne' => ?_⟩
        · rw [List.map_append, hks, etake, if_pos hh, List.map_append]
          rfl
        · rw [← List.append_assoc] at hu
          rcases List.mem_append.mp hu with hu | hu
          · exact ((hi1 u hu).up e810).keep hw10
          · rw [List.mem_singleton.mp hu]
            exact ⟨β, by rw [upd_ne hpw]; exact h10, by rw [upd_ne (row_ne hβ10 hw10)]; exact hβ10⟩
        · rw [upd_same, ← List.append_assoc, List.map_append (l₁ := w0 ++ ks)]
          rfl
        · rw [upd_ne hne]
          exact e810 _ _ hfl'
        · rw [upd_ne (row_ne (e810 _ _ hρ') hw10)]
          exact e810 _ _ hρ'
        · rw [upd_ne (fun z => by rw [z, hwl'] at hfz; cases hfz)]
          exact e810 _ _ hfz
        · rw [upd_ne (ne_of_none ha hwl0)]
          exact e810 _ _ (hk a o ha hne')
      · rw [eok] at hh
        have e89 := e8.trans e9
        exact ⟨_, _, ks, rfl, by rw [hks, etake, if_neg (by rw [hh]; exact Bool.false_ne_true), List.append_nil], fun u hu => (hi1 u hu).up e89, fun u hu => (hi2 u hu).up e89, e89 _ _ hwl', e89 _ _ hfl', e89 _ _ hρ', e89 _ _ hfz, fun a o ha hne' => e89 _ _ (hk a o ha hne')⟩
    · obtain ⟨x8, x9, ks, rfl, hks, hi1, hi2, hwl', hfl', hρ', hfz, hk⟩ := hp
      rw [List.length_map, List.take_length] at hks
      have nD : ∀ {l : Addr} {o : HO}, H' l = some o → (∀ od u, o ≠ .frz od u) → l ≠ D t := fun h hno z => by
        rw [z, hfz] at h
        exact hno _ _ (Option.some.inj h).symm
      have itb : ∀ {p : Addr × List Nat}, It3 A w H' p → It3 A w (L2.upd H' (D t) (.dK (cs.map (kid A t)))) p := fun h => by
        obtain ⟨ρ', g1, g2⟩ := h
        exact ⟨ρ', by rw [upd_ne (nD g1 fun _ _ z => nomatch z)]; exact g1, by rw [upd_ne (nD g2 fun _ _ z => nomatch z)]; exact g2⟩
      refine ⟨_, ?_, w0 ++ ks, fs ++ [(p6, t)], _, _, _, _, _, rfl, rfl, ⟨fun p hp => ?_, fun p hp => itb (hi1 p hp), fun p hp => itb (hi2 p hp), ?_, ?_, fun x hx => ?_, fun p hp => ?_, ?_⟩, fun a o ha => ?_⟩
      · rw [emap, List.map_append, hks, left_app, left_app, hkids]; omega
      · rcases List.mem_append.mp hp with hp | hp
        · exact I.dm p (List.mem_append_left _ hp)
        · have : p.2 ∈ ks.map (·.2) := List.mem_map.mpr ⟨p, hp, rfl⟩
          rw [hks] at this
          obtain ⟨c, hc, e⟩ := List.mem_map.mp this
          rw [← e]
          have := List.mem_filter.mp hc
          exact vis_mem.mpr ⟨(c2 c).mp this.1, this.2⟩
      · rw [upd_ne (nD hwl' fun _ _ z => nomatch z)]
        exact hwl'
      · rw [upd_ne (nD hfl' fun _ _ z => nomatch z)]
        exact hfl'
      · have h1 := hcnt x hx
        have h2 := pend_kids (t := t) (x := x) ndk (okids x hx)
        rw [emap, pend_app, h2] at h1
        rw [List.map_append, List.count_append, List.map_append, hks, pend_app]
        have h3 : ([(p6, t)].map (·.2) : List (List Nat)).count x = if x = t then 1 else 0 := by
          show [t].count x = _
          rw [List.count_singleton]
          by_cases z : x = t
          · rw [if_pos z, z]; simp
          · rw [if_neg z, if_neg (by simpa using fun y => z y.symm)]
        rw [h3]
        omega
      · rcases List.mem_append.mp hp with hp | hp
        · exact I.inV p hp
        · rw [List.mem_singleton.mp hp]; exact htV
      · rw [List.map_append, hks, left_app, List.length_append]
        simp only [List.length_cons, List.length_nil]
        omega
      · by_cases hz : a = D t
        · rw [hz, upd_same, ← ha, hz, c3]
        · rw [upd_ne hz]
          exact hk a o ha hz
theorem e_lenG {te : TE} {n : Nat} (h : EvG te σ H fun v H => ∃ p xs, v = .ref p ∧ H p = some (.lst xs) ∧ xs.length = n) : Ev (tCB (nLenL K) (tCons te tNil)) σ H (.int (n : Int)) := fun H1 e Q q => h H1 e _ fun v H2 e2 hv => by
  obtain ⟨p, xs, rfl, hp, rfl⟩ := hv
  exact ⟨p, xs, rfl, .inl (sq_of hp), q H2 e2⟩
theorem g_gone {m : Nat} (T : Tree K CT CN r A D W H) (hW : W.length ≤ 1000) (hw : w.length ≤ 24) (ha : Ev ta σ H (.ref r)) (hb : Ev tb σ H (tx w)) (hc : Ev tc σ H (.int (m : Int))) : EvG (tCall (sp_gone_through K CT CN) [] E0 (tCons ta (tCons tb (tCons tc tNil)))) σ H (fun v H => ∃ p ts, v = .ref p ∧ H p = some (.lst (ts.map fun p => .ref p.1)) ∧ GoneT A W w m ts H) :=
  g_call (ea_cons ha (ea_cons hb (ea_cons hc ea_nil))) fun H1 e Q q E => ⟨r, w, m, A, D, W, rfl, T.up e, hW, hw, fun p ts H2 _ e2 h2 g => q _ H2 e2 ⟨p, ts, rfl, h2, g⟩⟩
/-- need_most(x), a statement of its own -/
theorem q_need_most {x : V} {Dn : Ends} {tz : TS} (h : Ev ta σ H x) (hx : Any x H) (k : IsM x → ∀ H1, Ex H H1 → tz Dn σ H1) (kE : ¬ IsM x → RetE CM H E) : tSeq (tDrop (tCall (sp_need_most K CM) [] E (tCons ta tNil))) tz Dn σ H :=
  ea_cons h ea_nil H (Ex.refl H) (fun vs H1 => sp_need_most K CM (vs ++ []) H1 (fun _ H2 => tz Dn σ H2) E) fun H1 e1 => ⟨x, rfl, any_up _ _ _ e1 hx, fun hw H2 e2 => k hw H2 (e1.trans e2), fun hw H2 e2 => kE hw H2 (e1.trans e2)⟩
theorem R_looked (h : sp_looked K CT CN CB CM vs H Q E) : T_looked K CT CN CB CM E (fin Q) (slots n_looked vs) H := by
  obtain ⟨r, v, u, A, D, W, rfl, T, hW, hv, hu, k, kE, kM⟩ := h
  show T_looked K CT CN CB CM E (fin Q) [some (.ref r), some v, some u] H
  unfold T_looked
  refine q_need_word (ev_var rfl) hv (fun hvw H1 e1 => ?_) kE
  refine q_need_most (ev_var rfl) (any_up _ _ _ e1 hu) (fun hum H2 e2 => ?_) (fun hum H2 e2 => kM hvw hum H2 (e1.trans e2))
  obtain ⟨w, rfl, hw⟩ := hvw
  obtain ⟨m, rfl, hm⟩ := hum
  have e12 := e1.trans e2
  have hl := isW_le hw
  refine s_ret (e_lenG (n := (vis W w m).length) ((g_gone (w := w) (m := m) (T.up e12) hW hl (ev_var rfl) (ev_var rfl) (ev_var rfl)).imp fun v H3 e hv => ?_)) fun H3 e3 => k w m rfl hw rfl hm _ (e12.trans e3)
  obtain ⟨p, ts, rfl, hp, g⟩ := hv
  exact ⟨p, _, rfl, hp, by rw [List.length_map, ← g.2.length_eq, List.length_map]⟩
theorem e_looked {m : Nat} (T : Tree K CT CN r A D W H) (hW : W.length ≤ 1000) (hw : isW w = true) (hm : m ≤ 24) (ha : Ev ta σ H (.ref r)) (hb : Ev tb σ H (tx w)) (hc : Ev tc σ H (.int (m : Int))) : Ev (tCall (sp_looked K CT CN CB CM) [] E (tCons ta (tCons tb (tCons tc tNil)))) σ H (.int ((vis W w m).length : Int)) :=
  ev_call (ea_cons ha (ea_cons hb (ea_cons hc ea_nil))) fun H1 e Q q E => ⟨r, _, _, A, D, W, rfl, T.up e, hW, .inl ⟨w, rfl, by have := isW_le hw; omega⟩, .inr odd_int, fun w' m' e1 _ e2 _ => by
    rw [← tx_inj.mp e1]
    have em : m' = m := by
      have := V.int.inj e2
      omega
    rw [em]
    exact fun H3 e3 => q H3 e3, fun hn => absurd ⟨w, rfl, hw⟩ hn, fun _ hn => absurd ⟨m, rfl, hm⟩ hn⟩
end
end Nw

set_option Elab.async false
set_option linter.all false
set_option maxRecDepth 100000
/-! Nw.Pair: pairs of a number and a text: their order, sorted, < -/
namespace Nw
open PySem L2 Evl PySem.W
/-- a pair's place, number, text -/
abbrev Pr := Addr × Nat × List Nat
def encP (p : Nat × List Nat) : PyData := .tuple [.int (p.1 : Int), .str ⟨p.2.toArray⟩]
def ltP (p q : Nat × List Nat) : Bool := decide (p.1 < q.1 ∨ (p.1 = q.1 ∧ p.2 < q.2))
theorem lt_enc (p q : Nat × List Nat) : dataLt (encP p) (encP q) = ltP p q := by
  obtain ⟨i, a⟩ := p
  obtain ⟨j, b⟩ := q
  unfold encP ltP
  rw [dataLt_pair rfl rfl, dataLt_int, dataLt_str]
  have e1 : PyData.eqv (.int (i : Int)) (.int (j : Int)) = decide (i = j) := by
    have : PyData.eqv (.int (i : Int)) (.int (j : Int)) = decide ((i : Int) = (j : Int)) := by first | rfl | simp [PyData.eqv]
    rw [this]
    by_cases h : i = j
    · subst h; simp
    · rw [decide_eq_false h, decide_eq_false (fun z => h (by omega))]
  have e2 : PyData.eqv (.str ⟨a.toArray⟩) (.str ⟨b.toArray⟩) = decide (a = b) := by
    have : PyData.eqv (.str ⟨a.toArray⟩) (.str ⟨b.toArray⟩) = decide ((⟨a.toArray⟩ : Str) = ⟨b.toArray⟩) := by first | rfl | simp [PyData.eqv]
    rw [this]
    by_cases h : a = b
    · subst h; simp
    · rw [decide_eq_false h, decide_eq_false (fun z => h (by simpa using congrArg Str.cps z))]
  rw [e1, e2]
  show (if decide (i = j) = true then (if decide (a = b) = true then false else decide (a < b)) else decide ((i : Int) < (j : Int))) = decide (i < j ∨ (i = j ∧ a < b))
  by_cases h : i = j
  · subst h
    rw [if_pos (decide_eq_true rfl)]
    by_cases h2 : a = b
    · subst h2
      rw [if_pos (decide_eq_true rfl), decide_eq_false]
      rintro (h | ⟨_, h⟩)
      · omega
      · exact List.lt_irrefl _ h
    · rw [if_neg (by simpa using h2)]
      by_cases h3 : a < b
      · rw [decide_eq_true h3, decide_eq_true (.inr ⟨rfl, h3⟩)]
      · rw [decide_eq_false h3, decide_eq_false]
        rintro (h | ⟨_, h⟩)
        · omega
        · exact h3 h
  · rw [if_neg (by simpa using h)]
    by_cases h3 : i < j
    · rw [decide_eq_true (show (i : Int) < (j : Int) by omega), decide_eq_true (show i < j ∨ (i = j ∧ a < b) from .inl h3)]
    · rw [decide_eq_false (by omega), decide_eq_false]
      rintro (h4 | ⟨h4, _⟩)
      · exact h3 h4
      · exact h h4
def leP (p q : Nat × List Nat) : Bool := !ltP q p
theorem leP_iff {p q : Nat × List Nat} : leP p q = true ↔ p.1 < q.1 ∨ (p.1 = q.1 ∧ p.2 ≤ q.2) := by
  unfold leP ltP
  rw [Bool.not_eq_true', decide_eq_false_iff_not]
  constructor
  · intro h
    by_cases h1 : p.1 < q.1
    · exact .inl h1
    · refine .inr ⟨?_, ?_⟩
      · refine Nat.le_antisymm (Nat.le_of_not_lt fun z => h (.inl z)) (Nat.le_of_not_lt h1)
      · refine List.not_lt.mp fun z => h (.inr ⟨?_, z⟩)
        exact Nat.le_antisymm (Nat.le_of_not_lt h1) (Nat.le_of_not_lt fun z => h (.inl z))
  · rintro (h | ⟨h1, h2⟩) (g | ⟨g1, g2⟩)
    · omega
    · omega
    · omega
    · exact List.not_lt.mpr h2 g2
theorem leP_trans (a b c : Nat × List Nat) (h : leP a b = true) (h' : leP b c = true) : leP a c = true := by
  rw [leP_iff] at *
  rcases h with h | ⟨h1, h2⟩ <;> rcases h' with g | ⟨g1, g2⟩
  · exact .inl (by omega)
  · exact .inl (by omega)
  · exact .inl (by omega)
  · exact .inr ⟨by omega, List.le_trans h2 g2⟩
theorem leP_total (a b : Nat × List Nat) : (leP a b || leP b a) = true := by
  rw [Bool.or_eq_true, leP_iff, leP_iff]
  by_cases h : a.1 < b.1
  · exact .inl (.inl h)
  by_cases h' : b.1 < a.1
  · exact .inr (.inl h')
  have e : a.1 = b.1 := by omega
  exact (List.le_total a.2 b.2).imp (fun z => .inr ⟨e, z⟩) fun z => .inr ⟨e.symm, z⟩
theorem leP_anti {a b : Nat × List Nat} (h : leP a b = true) (h' : leP b a = true) : a = b := by
  rw [leP_iff] at *
  obtain ⟨i, x⟩ := a
  obtain ⟨j, y⟩ := b
  simp only at h h'
  rcases h with h | ⟨h1, h2⟩ <;> rcases h' with g | ⟨g1, g2⟩
  · omega
  · omega
  · omega
  · rw [h1, List.le_antisymm h2 g2]
def srtP (ps : List (Nat × List Nat)) : List (Nat × List Nat) := ps.mergeSort leP
theorem srtP_perm (ps : List (Nat × List Nat)) : (srtP ps).Perm ps := List.mergeSort_perm ps leP
theorem srtP_pair (ps : List (Nat × List Nat)) : (srtP ps).Pairwise fun a b => leP a b = true := List.pairwise_mergeSort leP_trans leP_total ps
theorem srtP_uniq {A B : List (Nat × List Nat)} (h : A.Perm B) (ha : A.Pairwise fun a b => leP a b = true) (hb : B.Pairwise fun a b => leP a b = true) : A = B := h.eq_of_pairwise (fun a b _ _ h1 h2 => leP_anti h1 h2) ha hb
theorem srtP_congr {A B : List (Nat × List Nat)} (h : A.Perm B) : srtP A = srtP B := srtP_uniq ((srtP_perm A).trans (h.trans (srtP_perm B).symm)) (srtP_pair A) (srtP_pair B)
/-- the pairs' places, sorted by what they hold -/
def leA (p q : Pr) : Bool := leP p.2 q.2
def srtA (ps : List Pr) : List Pr := ps.mergeSort leA
theorem srtA_perm (ps : List Pr) : (srtA ps).Perm ps := List.mergeSort_perm ps leA
theorem srtA_map (ps : List Pr) : (srtA ps).map (·.2) = srtP (ps.map (·.2)) := by
  refine srtP_uniq (((srtA_perm ps).map _).trans (srtP_perm _).symm) ?_ (srtP_pair _)
  have h := List.pairwise_mergeSort (le := leA) (fun a b c => leP_trans a.2 b.2 c.2) (fun a b => leP_total a.2 b.2) ps
  exact List.pairwise_map.mpr h
/-- a place that holds a pair -/
def AtP (H : Hp) (p : Pr) : Prop := H p.1 = some (.tup [.int (p.2.1 : Int), tx p.2.2])
theorem AtP.dp {K : PySem.W.Frag} {H : Hp} {p : Pr} (h : AtP H p) : Dp K H (.ref p.1) (encP p.2) := .tup (SqT.of h) (.cons (.int _) (.cons (.str _) .nil))
def nSortedP (K : PySem.W.Frag) : List V → Hp → VK → Prop := fun vs H Q => ∃ (a : Addr) (ps : List Pr), vs = [.ref a] ∧ SqL K H a (ps.map fun p => .ref p.1) ∧ (∀ p ∈ ps, AtP H p) ∧ ∀ q, H q = none → Q (.ref q) (upd H q (.lst ((srtA ps).map fun p => .ref p.1)))
def isP (v : Value) (p : Pr) : Prop := v = .ref p.1
theorem each_p : ∀ {ps : List Pr} {us : List Value}, Vals (ps.map fun p => V.ref p.1) us → EachIs isP us ps
  | [], _, r => by cases r; exact .nil
  | p :: ps, _, r => by
    cases r with
    | cons r1 r2 => exact .cons r1 (each_p r2)
theorem p_each : ∀ {ps : List Pr} {us : List Value}, EachIs isP us ps → Vals (ps.map fun p => V.ref p.1) us
  | _, _, .nil => .nil
  | _, _, .cons r1 r2 => .cons r1 (p_each r2)
theorem each_memP {α β : Type} {R : α → β → Prop} : ∀ {as : List α} {bs : List β}, EachIs R as bs → EachIs (fun a b => R a b ∧ b ∈ bs) as bs
  | _, _, .nil => .nil
  | _, _, .cons r1 r2 => .cons ⟨r1, List.mem_cons_self⟩ (each_imp (fun a b h => ⟨h.1, List.mem_cons_of_mem _ h.2⟩) (each_memP r2))
theorem le_pr : dataLe false (fun p : Pr => encP p.2) = leA := by
  funext a b
  show (!dataLt (encP b.2) (encP a.2)) = leP a.2 b.2
  rw [lt_enc]
  rfl
theorem alike_p (p q : Nat × List Nat) : alike (encP p) (encP q) = true := by unfold encP; first | rfl | simp [alike, alikeAll]
theorem c_sortedP {X : Cx} (hu : X.A.units + 64 < cLine) : CallR X (.builtin "sorted") (nSortedP X.K) := by
  rintro pins s σ H xs us Q I r ⟨a, ps, rfl, hs, hp, q⟩
  obtain ⟨its, rv, hl, hz⟩ := I.list hs
  obtain rfl := Vals.ref1 r
  have e := each_p rv
  rw [List.length_map] at hz
  refine sorted_data (R := isP) (enc := fun p : Pr => encP p.2) hl.isList e (each_imp (fun v p h => Dp.reads I (encP p.2) (.ref p.1) v (hp p h.2).dp h.1) (each_memP e)) (AllAlike.of fun b b' => alike_p _ _) (Sortable.tuples fun b => ⟨_, _, rfl⟩) hz (fun b _ => ?_) fun out hlen h => ?_
  · have : (encP b.2).depth ≤ 2 := by unfold encP; simp [PyData.depth, PyData.depthAll]
    show X.A.units + 2 + (encP b.2).depth < cLine
    omega
  rw [le_pr] at h
  obtain ⟨ep, he⟩ := PyProof.Rows.sortedAll_at s.heap its out.toArray
  have hv : Vals ((srtA ps).map fun p => V.ref p.1) out := p_each h
  exact ⟨.ref _, upd H (s.heap.objs.size + 1) (.lst ((srtA ps).map fun p => .ref p.1)), I.laid (t' := s.toks) (fun _ _ => PyProof.Rows.sortedAll_old) (Nat.le_succ _) ⟨by rw [List.length_map, (srtA_perm ps).length_eq]; exact hz, out, ep, hv, by simpa using he⟩, rfl, q _ (I.hok.fresh (Nat.le_succ _))⟩
/-- (i, a) < (j, b) -/
def nLtIS (K : PySem.W.Frag) : R2 := fun x y H Q => ∃ p q : Int × List Nat, Dp K H x (.tuple [.int p.1, .str ⟨p.2.toArray⟩]) ∧ Dp K H y (.tuple [.int q.1, .str ⟨q.2.toArray⟩]) ∧ Q (.bl (dataLt (.tuple [.int p.1, .str ⟨p.2.toArray⟩]) (.tuple [.int q.1, .str ⟨q.2.toArray⟩]))) H
theorem o_ltIS {X : Cx} (hu : X.A.units + 64 < cLine) : OpR X (compareOp .Lt) (nLtIS X.K) := by
  intro pins s σ H x y v u Q I rx ry h
  obtain ⟨p, q, hd, he, k⟩ := h
  obtain ⟨as, r1⟩ := Dp.reads I _ x v hd rx
  obtain ⟨bs, r2⟩ := Dp.reads I _ y u he ry
  refine lt_data r1 r2 (by first | rfl | simp [alike, alikeAll]) (fun z => nomatch z) ?_ ⟨.bl _, H, I, rfl, k⟩
  simp [PyData.depth, PyData.depthAll]
  omega
section
variable {K : PySem.W.Frag} {σ : L2.St} {H : Hp} {ta tb : TE}
theorem el_sortedP {a : Addr} {ps : List Pr} (ha : Ev ta σ H (.ref a)) (h : SqL K H a (ps.map fun p => .ref p.1)) (hp : ∀ p ∈ ps, AtP H p) : EvL (tCB (nSortedP K) (tCons ta tNil)) σ H ((srtA ps).map fun p => .ref p.1) := el_cb (ea_cons ha ea_nil) fun H1 e Q q => ⟨a, ps, rfl, ex_l e h, fun p hm => e _ _ (hp p hm), fun p hp => q p _ hp (Ex.new hp) upd_same⟩
end
end Nw

set_option Elab.async false
set_option linter.all false
set_option maxRecDepth 100000
/-! Nw.Find: near -/
namespace Nw
open PySem L2 Evl
/-! ### a way, when other lists change -/
theorem led_chg {H : Hp} {w w' : List Nat} {cs : List V} (h : LedV H w cs w') : ∀ c ∈ cs, Chg c H := by
  induction h with
  | nil => intro c hc; cases hc
  | cons h r ih =>
    intro c hc
    rcases List.mem_cons.mp hc with rfl | hc
    · obtain ⟨xs, ⟨p, rfl, ht⟩, hg⟩ := h
      exact good_chg ht hg
    · exact ih c hc
/-- tuples stay -/
def ExU (H H' : Hp) : Prop := ∀ a xs, H a = some (.tup xs) → H' a = some (.tup xs)
theorem led_move {H H' : Hp} (e : ExU H H') {w w' : List Nat} {cs : List V} (h : LedV H w cs w') : LedV H' w cs w' := by
  induction h with
  | nil => exact .nil
  | cons h r ih =>
    obtain ⟨xs, ⟨p, hp, ht⟩, hg⟩ := h
    exact .cons ⟨xs, ⟨p, hp, e _ _ ht⟩, hg⟩ ih
theorem way_move {H H' : Hp} {a b : List Nat} {p : Addr} (e : ExU H H') (hp : ∀ cs, H p = some (.lst cs) → H' p = some (.lst cs)) (h : WayV a b (.ref p) H) : WayV a b (.ref p) H' := by
  obtain ⟨p', cs, he, h1, h2, h3, h4⟩ := h
  cases he
  exact ⟨p, cs, rfl, hp cs h1, led_move e h2, h3, led_chg (led_move e h2)⟩
/-! ### what near finds -/
def prOf (w t : List Nat) : Nat × List Nat := (dist w t, t)
def sel (W : List (List Nat)) (w : List Nat) (m : Nat) (t : List Nat) : Bool := decide (t ∈ W) && decide (dist w t ≤ m)
/-- the texts found, in their order, each with its number -/
def foundP (W : List (List Nat)) (w : List Nat) (m : Nat) : List (Nat × List Nat) := srtP ((W.filter fun t => decide (dist w t ≤ m)).map (prOf w))
theorem okT_of {w t : List Nat} {m : Nat} (h : dist w t ≤ m) : okT w m t = true := by
  show okF (cell t w t.length) (w.length + 1) m = true
  rw [okF_iff]
  refine ⟨w.length, by omega, ?_⟩
  rw [dist_symm] at h
  exact h
theorem found_of {W L : List (List Nat)} {w : List Nat} {m : Nat} (nd : W.Nodup) (h : L.Perm (vis W w m)) : srtP ((L.filter (sel W w m)).map (prOf w)) = foundP W w m := by
  refine srtP_congr (List.Perm.map _ ?_)
  have ndL : L.Nodup := h.nodup_iff.mpr (vis_nodup W w m)
  refine (List.perm_ext_iff_of_nodup (ndL.sublist List.filter_sublist) (nd.sublist List.filter_sublist)).mpr fun t => ?_
  rw [List.mem_filter, List.mem_filter, h.mem_iff, vis_mem]
  unfold sel
  rw [Bool.and_eq_true, decide_eq_true_eq, decide_eq_true_eq]
  exact ⟨fun ⟨_, h1, h2⟩ => ⟨h1, h2⟩, fun ⟨h1, h2⟩ => ⟨⟨dom_mem h1, okT_of h2⟩, h1, h2⟩⟩
/-- a pair's place, its way's place, its text -/
abbrev Fd := Addr × Addr × List Nat
def AtF (w : List Nat) (H : Hp) (e : Fd) : Prop := H e.1 = some (.tup [tx e.2.2, .ref e.2.1]) ∧ WayV w e.2.2 (.ref e.2.1) H
def NearV (H0 : Hp) (W : List (List Nat)) (w : List Nat) (m : Nat) (v : V) (H : Hp) : Prop := ∃ (p : Addr) (es : List Fd), v = .ref p ∧ H0 p = none ∧ H p = some (.lst (es.map fun e => .ref e.1)) ∧ (∀ e ∈ es, AtF w H e ∧ H0 e.2.1 = none) ∧ es.map (fun e => prOf w e.2.2) = foundP W w m
theorem AtF.up {w H H'} {e : Fd} (x : Ex H H') (h : AtF w H e) : AtF w H' e := ⟨x _ _ h.1, wayV_up _ _ _ _ _ x h.2⟩
theorem nearV_up (H0 : Hp) (W : List (List Nat)) (w : List Nat) (m : Nat) : Up (NearV H0 W w m) := fun _ _ _ x ⟨p, es, h1, h2, h3, h4, h5⟩ => ⟨p, es, h1, h2, x _ _ h3, fun e he => ⟨(h4 e he).1.up x, (h4 e he).2⟩, h5⟩
def sp_near (K : PySem.W.Frag) (CT CN CB CM : Addr) : Sp := fun vs H Q E => ∃ r v u A D W, vs = [.ref r, v, u] ∧ Tree K CT CN r A D W H ∧ W.length ≤ 1000 ∧ Any v H ∧ Any u H ∧
  (∀ (w : List Nat) (m : Nat), v = tx w → isW w = true → u = .int (m : Int) → m ≤ 24 → RetG (NearV H W w m) H Q) ∧ (¬ IsWd v → RetE CB H E) ∧ (IsWd v → ¬ IsM u → RetE CM H E)
/- near(tree, word, most): slots 0:tree 1:word 2:most 3:found 4:node 5:text 6:row 7:far -/
def T_near (K : PySem.W.Frag) (C_Tree C_Node C_BadWord C_BadMost : Addr) (E : XK) : TS :=
 (tSeq (tDrop (tCall (sp_need_word K C_BadWord) [] E (tCons (tVar 1) tNil)))
 (tSeq (tDrop (tCall (sp_need_most K C_BadMost) [] E (tCons (tVar 2) tNil)))
 (tSeq (tAsg (tLst tNil) (gName 3))
 (tSeq (tFor (iList K (tCall (sp_gone_through K C_Tree C_Node) [] E0 (tCons (tVar 0) (tCons (tVar 1) (tCons (tVar 2) tNil))))) (gTup K 3 (gCons (gName 4) (gCons (gName 5) (gCons (gName 6) gNil))))
 (tIfS (tAnd (tB (tFld K (tVar 4) "is_end")) (tTest (tOp nLe (tOp (nIxL K) (tVar 6) (tUn nNeg (tC (.int 1)))) (tVar 2))))
 (tDrop (tBM K "list" rAppend (tVar 3) (tCons (tTup (tCons (tOp (nIxL K) (tVar 6) (tUn nNeg (tC (.int 1)))) (tCons (tVar 5) tNil))) tNil))) tNext))
 (tRet (tLc (iList K (tCB (nSortedP K) (tCons (tVar 3) tNil))) (gTup K 2 (gCons (gName 7) (gCons (gName 5) gNil))) tYes (tTup (tCons (tVar 5) (tCons (tCall (sp_way K C_BadWord) [] E0 (tCons (tVar 1) (tCons (tVar 5) tNil))) tNil))) [7, 5]))))))
def n_near : Nat := 8
theorem l_near {K CT CN CB CM vs H Q E} (h : sp_near K CT CN CB CM vs H Q E) : vs.length = 3 := by obtain ⟨_, _, _, _, _, _, rfl, _⟩ := h; rfl
section
variable {K : PySem.W.Frag} {vs : List V} {H H' : Hp} {Q : VK} {E : XK} {CT CN CB CM CF r : Addr} {A D : List Nat → Addr} {W : List (List Nat)} {σ : L2.St} {ta tb tc te : TE} {tr : TA} {w : List Nat} {Dn : Ends}
theorem yes_go {X Y : Hp → Prop} (h : X H) : tYes σ H fun b H3 => if b = true then X H3 else Y H3 := by
  show if true = true then X H else Y H
  rw [if_pos rfl]
  exact h
theorem n_callW {sp : Sp} {dvs vs : List V} {E : XK} {Q : VK} (h : EvA tr σ H vs) (hs : ∀ H1, Ex H H1 → sp (vs ++ dvs) H1 Q E) : tCall sp dvs E tr σ H Q := h H (Ex.refl H) _ hs
theorem g_goneF {m : Nat} (T : Tree K CT CN r A D W H) (hW : W.length ≤ 1000) (hw : w.length ≤ 24) (ha : Ev ta σ H (.ref r)) (hb : Ev tb σ H (tx w)) (hc : Ev tc σ H (.int (m : Int))) : EvG (tCall (sp_gone_through K CT CN) [] E0 (tCons ta (tCons tb (tCons tc tNil)))) σ H (fun v H2 => ∃ p ts, v = .ref p ∧ H p = none ∧ H2 p = some (.lst (ts.map fun p => .ref p.1)) ∧ GoneT A W w m ts H2) :=
  g_call (ea_cons ha (ea_cons hb (ea_cons hc ea_nil))) fun H1 e Q q E => ⟨r, w, m, A, D, W, rfl, T.up e, hW, hw, fun p ts H2 hp e2 h2 g => q _ H2 e2 ⟨p, ts, rfl, fresh_back e hp, h2, g⟩⟩
/-- (text, way(word, text)) -/
theorem g_pair {a b : List Nat} {H0 : Hp} (e0 : Ex H0 H) (hx : Ev tb σ H (tx b)) (h1 : Ev ta σ H (tx a)) (h2 : Ev tc σ H (tx b)) (ha : isW a = true) (hb : isW b = true) :
    EvG (tTup (tCons tb (tCons (tCall (sp_way K CB) [] E0 (tCons ta (tCons tc tNil))) tNil))) σ H (fun v H2 => ∃ q y, v = .ref q ∧ H q = none ∧ H y = none ∧ H2 q = some (.tup [tx b, .ref y]) ∧ WayV a b (.ref y) H2) := fun H1 e Q k => by
  show tb σ H1 _
  refine hx H1 e _ fun H2 e2 => ?_
  show tCall (sp_way K CB) [] E0 (tCons ta (tCons tc tNil)) σ H2 _
  refine n_callW (ea_cons (h1.mono (e.trans e2)) (ea_cons (h2.mono (e.trans e2)) ea_nil)) fun H3 e3 => ?_
  refine ⟨_, _, rfl, .inl ⟨a, rfl, by have := isW_le ha; omega⟩, .inl ⟨b, rfl, by have := isW_le hb; omega⟩, fun a' b' ea eb _ _ y H4 hy e4 hw => ?_, fun hn => absurd ⟨⟨a, rfl, ha⟩, ⟨b, rfl, hb⟩⟩ hn⟩
  rw [← tx_inj.mp ea, ← tx_inj.mp eb] at hw
  have e14 := (e2.trans e3).trans e4
  exact ⟨sz_of (by show 2 ≤ 100000; decide), fun q hq => k _ _ (e14.trans (Ex.new hq)) ⟨q, y, rfl, fresh_back (e.trans e14) hq, fresh_back ((e.trans e2).trans e3) hy, upd_same, wayV_up _ _ _ _ _ (Ex.new hq) hw⟩⟩
theorem R_near (h : sp_near K CT CN CB CM vs H Q E) : T_near K CT CN CB CM E (fin Q) (slots n_near vs) H := by
  obtain ⟨r, v, u, A, D, W, rfl, T, hW, hv, hu, k, kE, kM⟩ := h
  show T_near K CT CN CB CM E (fin Q) [some (.ref r), some v, some u, none, none, none, none, none] H
  unfold T_near
  refine q_need_word (ev_var rfl) hv (fun hvw H1 e1 => ?_) kE
  refine q_need_most (ev_var rfl) (any_up _ _ _ e1 hu) (fun hum H2 e2 => ?_) (fun hum H2 e2 => kM hvw hum H2 (e1.trans e2))
  obtain ⟨w, rfl, hw⟩ := hvw
  obtain ⟨m, rfl, hm⟩ := hum
  have e12 := e1.trans e2
  have hlw := isW_le hw
  refine q_asgL (el_lst ea_nil (by simp)) fun l H3 hl e3 h3 => ?_
  have e13 := e12.trans e3
  refine g_goneF (σ := [some (.ref r), some (tx w), some (.int (m : Int)), some (.ref l), none, none, none, none]) (w := w) (m := m) (ta := tVar 0) (tb := tVar 1) (tc := tVar 2) (T.up e13) hW hlw (ev_var rfl) (ev_var rfl) (ev_var rfl) H3 (Ex.refl _) _ fun v H4 e4 hv => ?_
  obtain ⟨p, ts, rfl, hp0, hp, g⟩ := hv
  have h4 := e4 _ _ h3
  have e14 := e13.trans e4
  have T4 := T.up e14
  have hlts : ts.length ≤ 24001 := by
    have a1 := g.2.length_eq
    rw [List.length_map] at a1
    have a2 := vis_le (W := W) w m
    have a3 := begs_le T.wd hW
    omega
  have hpl : p ≠ l := fun z => by
    rw [z, h3] at hp0
    cases hp0
  show tSeq (tFor (iList K (tC (.ref p))) _ _) _ _ [some (.ref r), some (tx w), some (.int (m : Int)), some (.ref l), none, none, none, none] H4
  refine q_forL (xs := ts.map fun p => .ref p.1) ev_c (sq_of hp) (fun i σ H' => (∃ x4 x5 x6, σ = [some (.ref r), some (tx w), some (.int (m : Int)), some (.ref l), x4, x5, x6, none]) ∧ (∀ a o, H4 a = some o → a ≠ l → H' a = some o) ∧ ∃ ps : List Pr, H' l = some (.lst (ps.map fun p => .ref p.1)) ∧ (∀ p ∈ ps, AtP H' p) ∧ ps.map (·.2) = (((ts.map (·.2)).take i).filter (sel W w m)).map (prOf w))
    (fun H5 e5 => ⟨⟨_, _, _, rfl⟩, fun a o h _ => e5 _ _ h, [], e5 _ _ h4, fun p hp => (by cases hp), by simp⟩) (fun i σ H' _ hp' => sq_of (hp'.2.1 _ _ hp hpl)) (fun i x σ H' hi hp' => ?_) (fun σ H' hp' => ?_)
  · obtain ⟨⟨x4, x5, x6, rfl⟩, hk, ps, hps, hat, hmap⟩ := hp'
    rw [List.getElem?_map] at hi
    obtain ⟨⟨tp, t⟩, hti, rfl⟩ := Option.map_eq_some_iff.mp hi
    have hmem := List.mem_of_getElem? hti
    obtain ⟨ρ, ht1, hρ⟩ := g.1 _ hmem
    have hvis : t ∈ vis W w m := g.2.mem_iff.mp (List.mem_map.mpr ⟨_, hmem, rfl⟩)
    have hdom := (vis_mem.mp hvis).1
    have ht1' := hk _ _ ht1 (fun z => by rw [z, h4] at ht1; cases ht1)
    have hρ' := hk _ _ hρ (row_ne (ps := []) hρ h4)
    have T' : Tree K CT CN r A D W H' := T4.upT fun a o ha ht => hk a o ha (fun z => by rw [z, h4] at ha; cases ha; exact ht)
    refine ⟨tp, _, rfl, SqT.of ht1', rfl, _, _, rfl, _, _, rfl, _, _, rfl, rfl, ?_⟩
    show tIfS _ _ _ _ [some (.ref r), some (tx w), some (.int (m : Int)), some (.ref l), some (.ref (A t)), some (tx t), some (.ref ρ), none] H'
    have etake : (ts.map (·.2)).take (i + 1) = (ts.map (·.2)).take i ++ [t] := by
      rw [List.take_add_one, List.getElem?_map, hti]
      rfl
    have hlast : ∀ {H1}, Ex H' H1 → Ev (tOp (nIxL K) (tVar 6) (tUn nNeg (tC (.int 1)))) [some (.ref r), some (tx w), some (.int (m : Int)), some (.ref l), some (.ref (A t)), some (tx t), some (.ref ρ), none] H1 (.int (dist w t : Int)) := fun e => ev_is (e_ixL (ev_var rfl) (e_neg ev_c) (sq_of (e _ _ hρ')) rowV_last) (by rw [dist_symm]; rfl)
    refine s_when (b := sel W w m t) (et_and (et_B (e_end T'.s hdom (ev_var rfl))) fun _ => et_test (ev_is (e_le (hlast (Ex.refl _)) (ev_var rfl)) (by rw [decide_eq_decide.mpr Int.ofNat_le]))) (fun hh H5 e5 => ?_) (fun hh H5 e5 => ?_)
    · have hps5 := e5 _ _ hps
      refine s_appU hps5 (ev_var rfl) (eu_tup (ea_cons (hlast e5) (ea_cons (ev_var rfl) ea_nil)) (by simp)) (by
        have a1 := congrArg List.length hmap
        rw [List.length_map, List.length_map] at a1
        have a2 := List.length_filter_le (sel W w m) ((ts.map (·.2)).take i)
        have a3 : ((ts.map (·.2)).take i).length ≤ ts.length := by rw [List.length_take, List.length_map]; exact Nat.min_le_right _ _
        rw [List.length_map]
        omega) fun q H6 hq e6 h6 => ?_
      have hql : q ≠ l := fun z => by rw [z, hps5] at hq; cases hq
      refine ⟨⟨_, _, _, rfl⟩, fun a o ha hne => ?_, ps ++ [(q, prOf w t)], ?_, fun p hp => ?_, ?_⟩
      · rw [upd_ne hne]
        exact e6 _ _ (e5 _ _ (hk a o ha hne))
      · rw [upd_same, List.map_append]
        rfl
      · rcases List.mem_append.mp hp with hp | hp
        · have := e6 _ _ (e5 _ _ (hat p hp))
          unfold AtP
          rw [upd_ne (fun z => by rw [z, e6 _ _ hps5] at this; cases this)]
          exact this
        · rw [List.mem_singleton.mp hp]
          unfold AtP
          rw [upd_ne hql]
          exact h6
      · rw [List.map_append, hmap, etake, List.filter_append, List.map_append]
        have : List.filter (sel W w m) [t] = [t] := by rw [List.filter_cons, if_pos hh]; rfl
        rw [this]
        rfl
    · refine ⟨⟨_, _, _, rfl⟩, fun a o ha hne => e5 _ _ (hk a o ha hne), ps, e5 _ _ hps, fun p hp => e5 _ _ (hat p hp), ?_⟩
      rw [hmap, etake, List.filter_append]
      have : List.filter (sel W w m) [t] = [] := by rw [List.filter_cons, if_neg (by rw [hh]; decide)]; rfl
      rw [this, List.append_nil]
  · obtain ⟨⟨x4, x5, x6, rfl⟩, hk, ps, hps, hat, hmap⟩ := hp'
    rw [List.length_map, ← List.length_map (f := fun p : Addr × List Nat => p.2), List.take_length] at hmap
    have hfound : (srtA ps).map (·.2) = foundP W w m := by rw [srtA_map, hmap, found_of T.nd g.2]
    have hlps : (srtA ps).length ≤ 24001 := by
      have a1 := congrArg List.length hmap
      rw [List.length_map, List.length_map] at a1
      have a2 := List.length_filter_le (sel W w m) (ts.map (·.2))
      rw [List.length_map] at a2
      rw [(srtA_perm ps).length_eq]
      omega
    have e0' : Ex H H' := fun a o ha => hk _ _ (e14 _ _ ha) (fun z => by rw [z] at ha; rw [e12 _ _ ha] at hl; cases hl)
    show (tLc (iList K (tCB (nSortedP K) (tCons (tVar 3) tNil))) _ tYes _ [7, 5]) [some (.ref r), some (tx w), some (.int (m : Int)), some (.ref l), x4, x5, x6, none] H' _
    refine el_sortedP (ev_var rfl) (sq_of hps) hat H' (Ex.refl _) _ fun a H5 ha e5 h5 => ⟨a, rfl, ⟨_, sq_of h5⟩, fun Dl hD => ?_⟩
    have h5D : ∀ H', Ex H5 H' → SqL K H' a ((srtA ps).map fun p => .ref p.1) := fun H' e => sq_of (e _ _ h5)
    refine lc_list (xs := (srtA ps).map fun p => .ref p.1) (fun i H6 => Ex H5 H6 ∧ ∃ es : List Fd, H6 Dl = some (.lst (es.map fun e => .ref e.1)) ∧ (∀ e ∈ es, AtF w H6 e ∧ H5 e.2.1 = none ∧ e.2.1 ≠ Dl) ∧ es.map (fun e => prOf w e.2.2) = ((srtA ps).map (·.2)).take i) ⟨Ex.new hD, [], upd_same, fun e he => (by cases he), by simp⟩ (fun i H6 _ hp6 => h5D _ hp6.1) (fun i x H6 hi hp6 => ?_) (fun H6 hp6 => ?_)
    · obtain ⟨e6, es, h6, hes, hmp⟩ := hp6
      rw [List.getElem?_map] at hi
      obtain ⟨⟨pp, d, t⟩, hti, rfl⟩ := Option.map_eq_some_iff.mp hi
      have hpm : (pp, d, t) ∈ ps := (srtA_perm ps).mem_iff.mp (List.mem_of_getElem? hti)
      have hpa := e6 _ _ (e5 _ _ (hat _ hpm))
      have htW : t ∈ W ∧ d = dist w t := by
        have : (d, t) ∈ ps.map (·.2) := List.mem_map.mpr ⟨_, hpm, rfl⟩
        rw [hmap] at this
        obtain ⟨t', ht', e⟩ := List.mem_map.mp this
        unfold prOf at e
        obtain rfl : t' = t := congrArg Prod.snd e
        have hs := (List.mem_filter.mp ht').2
        unfold sel at hs
        rw [Bool.and_eq_true, decide_eq_true_eq] at hs
        exact ⟨hs.1, (congrArg Prod.fst e).symm⟩
      have hwt := T.wd t htW.1
      refine ⟨pp, _, rfl, SqT.of hpa, rfl, _, _, rfl, _, _, rfl, rfl, rfl, ?_⟩
      refine yes_go ?_
      show tTup _ [some (.ref r), some (tx w), some (.int (m : Int)), some (.ref l), x4, some (tx t), x6, some (.int (d : Int))] H6 _
      refine g_pair (a := w) (b := t) (Ex.refl _) (ev_var rfl) (ev_var rfl) (ev_var rfl) hw hwt H6 (Ex.refl _) _ fun v H7 e7 hv => ?_
      obtain ⟨q, y, rfl, hq, hy, h7, hway⟩ := hv
      have h6' := e7 _ _ h6
      have hqD : q ≠ Dl := fun z => by rw [z, h6] at hq; cases hq
      have hyD : y ≠ Dl := fun z => by rw [z, h6] at hy; cases hy
      have mv : ∀ {o}, ExU H7 (L2.upd H7 Dl o) := fun {o} b xs hb => by
        rw [upd_ne (fun z => by rw [z, h6'] at hb; cases hb)]
        exact hb
      refine ⟨_, h6', sz_lt ?_, Ex.mut (e6.trans e7) hD, es ++ [(q, y, t)], ?_, fun e he => ?_, ?_⟩
      · have a1 := congrArg List.length hmp
        rw [List.length_map, List.length_take, List.length_map] at a1
        rw [List.length_map]
        omega
      · rw [upd_same, List.map_append]
        rfl
      · rcases List.mem_append.mp he with he | he
        · obtain ⟨h1, h2⟩ := hes e he
          have h1' := h1.up e7
          refine ⟨⟨mv _ _ h1'.1, way_move mv (fun cs hcs => ?_) h1'.2⟩, h2⟩
          rw [upd_ne h2.2]
          exact hcs
        · rw [List.mem_singleton.mp he]
          refine ⟨⟨mv _ _ h7, way_move mv (fun cs hcs => ?_) hway⟩, fresh_back e6 hy, hyD⟩
          rw [upd_ne hyD]
          exact hcs
      · rw [List.map_append, hmp, List.take_add_one, List.getElem?_map, hti]
        show _ ++ [prOf w t] = _ ++ [(d, t)]
        rw [htW.2]
        rfl
    · obtain ⟨e6, es, h6, hes, hmp⟩ := hp6
      rw [List.length_map, ← List.length_map (f := fun p : Pr => p.2), List.take_length, hfound] at hmp
      refine k w m rfl hw rfl hm _ H6 (e0'.trans (e5.trans e6)) ⟨Dl, es, rfl, fresh_back (e0'.trans e5) hD, h6, fun e he => ⟨(hes e he).1, fresh_back (e0'.trans e5) (hes e he).2.1⟩, hmp⟩
end
end Nw

set_option Elab.async false
set_option linter.all false
set_option maxRecDepth 100000
/-! Nw.Wds: the words of a script, the word asked, the tree of words -/
namespace Nw
open PySem L2 Evl
def WsL (v : V) (H : Hp) : Prop := ∃ p ws, v = .ref p ∧ H p = some (.lst (ws.map tx)) ∧ ws ≠ [] ∧ (∀ w ∈ ws, isW w = true) ∧ ws.length ≤ 40
theorem wsL_up : Up WsL := fun _ _ _ e ⟨p, ws, h1, h2, h3⟩ => ⟨p, ws, h1, e _ _ h2, h3⟩
def sp_law_words (K : PySem.W.Frag) : Sp := fun vs H Q _ => ∃ (a : Addr) (ns : List Int), vs = [.ref a] ∧ SqL K H a (ns.map V.int) ∧ ns.length ≤ 63 ∧ RetG WsL H Q
def sp_law_asked (K : PySem.W.Frag) : Sp := fun vs H Q _ => ∃ (a p : Addr) (ns : List Int) (ws : List (List Nat)), vs = [.ref a, .ref p] ∧ SqL K H a (ns.map V.int) ∧ ns.length ≤ 63 ∧ H p = some (.lst (ws.map tx)) ∧ ws ≠ [] ∧ (∀ w ∈ ws, isW w = true) ∧ RetG (fun v _ => Word 24 v) H Q
def sp_law_tree (K : PySem.W.Frag) (CT CN : Addr) : Sp := fun vs H Q _ => ∃ (p : Addr) (ws : List (List Nat)), vs = [.ref p] ∧ H p = some (.lst (ws.map tx)) ∧ (∀ w ∈ ws, isW w = true) ∧ ws.length < 400 ∧
  ∀ r A D W H2, (∀ a, foot r A D (dom W) a → H a = none) → Ex H H2 → Tree K CT CN r A D W H2 → (∀ x, x ∈ W ↔ x ∈ ws) → W.length ≤ ws.length → Q (.ref r) H2
/- _law_words(_law_script): slots 0:_law_script 1:_law_mode 2:_law_k 3:_law_most 4:_law_cells 5:_law_words_here 6:_law_cell -/
def T_law_words (K : PySem.W.Frag) : TS :=
 (tSeq (tAsg (tCall (sp_law_at K) [] E0 (tCons (tVar 0) (tCons (tC (.int 0)) tNil))) (gName 1))
 (tSeq (tIfS (tTest (tOp nEq (tOp nMod (tCall (sp_law_at K) [] E0 (tCons (tVar 0) (tCons (tC (.int 1)) tNil))) (tC (.int 9))) (tC (.int 4))))
 (tRet (tLc (iRng1 (tCons (tC (.int 40)) tNil)) (gName 2) tYes (tCall (sp_law_word K) [] E0 (tCons (tVar 1) (tCons (tOp nAdd (tCall (sp_law_at K) [] E0 (tCons (tVar 0) (tCons (tC (.int 2)) tNil))) (tOp nMul (tC (.int 7919)) (tVar 2))) (tCons (tC (.int 3)) tNil)))) [2])) tNext)
 (tSeq (tAsg (tC (.int 6)) (gName 3))
 (tSeq (tAsg (tSl (nSlL K) (tVar 0) (tPart (tC (.int 4))) (tPart (tC (.int 16)))) (gName 4))
 (tSeq (tIfS (tTest (tOp nEq (tOp nMod (tCall (sp_law_at K) [] E0 (tCons (tVar 0) (tCons (tC (.int 1)) tNil))) (tC (.int 9))) (tC (.int 5))))
 (tSeq (tAsg (tC (.int 24)) (gName 3))
 (tAsg (tSl (nSlL K) (tVar 0) (tPart (tC (.int 4))) (tPart (tC (.int 8)))) (gName 4))) tNext)
 (tSeq (tAsg (tLst (tCons (tCall (sp_law_word K) [] E0 (tCons (tVar 1) (tCons (tCall (sp_law_at K) [] E0 (tCons (tVar 0) (tCons (tC (.int 3)) tNil))) (tCons (tVar 3) tNil)))) tNil)) (gName 5))
 (tSeq (tFor (iList K (tVar 4)) (gName 6)
 (tIfS (tTest (tOp nEq (tOp nMod (tVar 6) (tC (.int 3))) (tC (.int 0))))
 (tDrop (tBM K "list" rAppend (tVar 5) (tCons (tCall (sp_law_word K) [] E0 (tCons (tVar 1) (tCons (tOp nDiv (tVar 6) (tC (.int 3))) (tCons (tVar 3) tNil)))) tNil))) (tDrop (tBM K "list" rAppend (tVar 5) (tCons (tCall (sp_law_bent K) [] E0 (tCons (tVar 1) (tCons (tOp (nIxL K) (tVar 5) (tOp nMod (tOp nDiv (tVar 6) (tC (.int 3))) (tCB (nLenL K) (tCons (tVar 5) tNil)))) (tCons (tOp nDiv (tVar 6) (tC (.int 3))) tNil)))) tNil)))))
 (tRet (tVar 5)))))))))
def n_law_words : Nat := 7
/- _law_asked(_law_script, _law_words_here): slots 0:_law_script 1:_law_words_here 2:_law_cell -/
def T_law_asked (K : PySem.W.Frag) : TS :=
 (tSeq (tAsg (tCall (sp_law_at K) [] E0 (tCons (tVar 0) (tCons (tC (.int 2)) tNil))) (gName 2))
 (tSeq (tIfS (tTest (tOp nEq (tOp nMod (tVar 2) (tC (.int 4))) (tC (.int 1))))
 (tRet (tCall (sp_law_word K) [] E0 (tCons (tCall (sp_law_at K) [] E0 (tCons (tVar 0) (tCons (tC (.int 0)) tNil))) (tCons (tOp nDiv (tVar 2) (tC (.int 4))) (tCons (tC (.int 7)) tNil))))) tNext)
 (tRet (tCall (sp_law_bent K) [] E0 (tCons (tCall (sp_law_at K) [] E0 (tCons (tVar 0) (tCons (tC (.int 0)) tNil))) (tCons (tOp (nIxL K) (tVar 1) (tOp nMod (tOp nDiv (tVar 2) (tC (.int 4))) (tCB (nLenL K) (tCons (tVar 1) tNil)))) (tCons (tOp nDiv (tVar 2) (tC (.int 4))) tNil)))))))
def n_law_asked : Nat := 3
/- _law_tree(_law_words_here): slots 0:_law_words_here 1:_law_tree_here 2:_law_word_here -/
def T_law_tree (K : PySem.W.Frag) (C_Tree C_Node C_BadWord C_Full : Addr) : TS :=
 (tSeq (tAsg (tMake C_Tree (sp_Tree_init K C_Tree C_Node) [] E0 tNil) (gName 1))
 (tSeq (tFor (iList K (tVar 0)) (gName 2)
 (tDrop (tMeth C_Tree "put" (sp_Tree_put K C_Tree C_Node C_BadWord C_Full) [] E0 (tVar 1) (tCons (tVar 2) tNil))))
 (tRet (tVar 1))))
def n_law_tree : Nat := 3
theorem l_law_words {K vs H Q E} (h : sp_law_words K vs H Q E) : vs.length = 1 := by obtain ⟨_, _, rfl, _⟩ := h; rfl
theorem l_law_asked {K vs H Q E} (h : sp_law_asked K vs H Q E) : vs.length = 2 := by obtain ⟨_, _, _, _, rfl, _⟩ := h; rfl
theorem l_law_tree {K CT CN vs H Q E} (h : sp_law_tree K CT CN vs H Q E) : vs.length = 1 := by obtain ⟨_, _, rfl, _⟩ := h; rfl
section
variable {K : PySem.W.Frag} {vs : List V} {H H' : Hp} {Q : VK} {E : XK} {CT CN CB CF r : Addr} {A D : List Nat → Addr} {W : List (List Nat)} {σ : L2.St} {ta tb tc te : TE} {tr : TA} {Dn : Ends} {tz : TS}
/-- [f(i) for i in range(n)], each of P -/
theorem g_lcR {P : V → Prop} {j : Nat} {ws : List Nat} {n : Int} (h : EvA tr σ H [.int n]) (hn : 0 ≤ n ∧ n ≤ 40000) (hw : ∀ x, wipe ((wipe σ ws).set j (some x)) ws = wipe σ ws)
    (he : ∀ (i : Nat) H1, Ex H H1 → (i : Int) < n → EvG te ((wipe σ ws).set j (some (.int (i : Int)))) H1 (fun v _ => P v)) : EvG (tLc (iRng1 tr) (gName j) tYes te ws) σ H (fun v H2 => ∃ p xs, v = .ref p ∧ H2 p = some (.lst xs) ∧ xs.length = n.toNat ∧ ∀ x ∈ xs, P x) := fun H0 e Q q => h H0 e _ fun H1 e1 => ⟨n, rfl, by omega, by omega, fun Dl hD =>
  lc_range (lo := 0) (n := n.toNat) (fun i H' => Ex H1 H' ∧ ∃ xs, H' Dl = some (.lst xs) ∧ xs.length = i ∧ ∀ x ∈ xs, P x) ⟨Ex.new hD, [], upd_same, rfl, fun x hx => by cases hx⟩ (fun i H' hi p => by
    have e0 : (0 : Int) + (i : Int) = (i : Int) := Int.zero_add _
    obtain ⟨e2, xs, hl, hlen, hP⟩ := p
    have go := he i H' (e.trans (e1.trans e2)) (by omega) H' (Ex.refl _) (fun y H4 => ∃ acc, H4 Dl = some (.lst acc) ∧ acc.length < sizeLine ∧ (Ex H1 (L2.upd H4 Dl (.lst (acc ++ [y]))) ∧ ∃ xs, L2.upd H4 Dl (.lst (acc ++ [y])) Dl = some (.lst xs) ∧ xs.length = i + 1 ∧ ∀ x ∈ xs, P x)) fun y H4 e4 py => ⟨xs, e4 _ _ hl, sz_lt (by omega), Ex.mut (e2.trans e4) hD, xs ++ [y], upd_same, by rw [List.length_append, hlen]; rfl, fun x hx => by
      rcases List.mem_append.mp hx with hx | hx
      · exact hP x hx
      · rw [List.mem_singleton.mp hx]; exact py⟩
    rw [← e0] at go
    exact ⟨hw _, go⟩)
    (fun H' p => by
      obtain ⟨e2, xs, hl, hlen, hP⟩ := p
      exact q _ H' (e1.trans e2) ⟨Dl, xs, rfl, hl, hlen, hP⟩)⟩
/-- xs.append(e), e known by what holds of it -/
theorem s_appG {P : V → Hp → Prop} {l : Addr} {xs : List V} (hl : H l = some (.lst xs)) (ha : Ev ta σ H (.ref l)) (h : EvG te σ H P) (hz : xs.length < 100000) (k : ∀ v H1, Ex H H1 → P v H1 → Dn.nx σ (L2.upd H1 l (.lst (xs ++ [v])))) : tDrop (tBM K "list" rAppend ta (tCons te tNil)) Dn σ H :=
  ha H (Ex.refl H) _ fun H1 e1 => ⟨.inl ⟨rfl, xs, sq_of (e1 _ _ hl)⟩, h H1 e1 _ fun v H2 e2 p => ⟨l, xs, v, rfl, rfl, e2 _ _ (e1 _ _ hl), Evl.sz_lt hz, k v H2 (e1.trans e2) p⟩⟩
theorem words_of {n : Nat} : ∀ {xs : List V}, (∀ x ∈ xs, Word 24 x) → ∃ ws : List (List Nat), xs = ws.map tx ∧ ∀ w ∈ ws, isW w = true
  | [], _ => ⟨[], rfl, fun w hw => by cases hw⟩
  | x :: xs, h => by
    obtain ⟨ws, e, hw⟩ := words_of (n := n) (xs := xs) fun y hy => h y (List.mem_cons_of_mem _ hy)
    obtain ⟨w, rfl, h1⟩ := word24 x (h x List.mem_cons_self)
    exact ⟨w :: ws, by rw [e]; rfl, fun u hu => (List.mem_cons.mp hu).elim (fun z => by rw [z]; exact h1) (hw u)⟩
theorem e_ixW {p : Addr} {ws : List (List Nat)} {i : Int} (ha : Ev ta σ H (.ref p)) (hp : H p = some (.lst (ws.map tx))) (hi : Ev tb σ H (.int i)) (h0 : 0 ≤ i) (h1 : i < (ws.length : Int)) : ∃ w, w ∈ ws ∧ Ev (tOp (nIxL K) ta tb) σ H (tx w) := by
  have hlt : i.toNat < ws.length := by omega
  exact ⟨ws[i.toNat], List.getElem_mem hlt, e_ixL ha hi (sq_of hp) (atI_in h0 (by rw [List.getElem?_map, List.getElem?_eq_getElem hlt]; rfl))⟩
theorem e_lenW {p : Addr} {ws : List (List Nat)} (ha : Ev ta σ H (.ref p)) (hp : H p = some (.lst (ws.map tx))) : Ev (tCB (nLenL K) (tCons ta tNil)) σ H (.int (ws.length : Int)) := ev_is (e_lenL ha (sq_of hp)) (by rw [List.length_map])
theorem isW_word {w : List Nat} (h : isW w = true) : Word 24 (tx w) := ⟨w, rfl, (of_decide_eq_true h).2, isW_le h⟩
theorem R_law_words (h : sp_law_words K vs H Q E) : T_law_words K (fin Q) (slots n_law_words vs) H := by
  obtain ⟨a, ns, rfl, hS, hn, k⟩ := h
  show T_law_words K (fin Q) [some (.ref a), none, none, none, none, none, none] H
  unfold T_law_words
  have ats : ∀ {H' : Hp} {σ : L2.St} (k : Int), Ex H H' → σ[0]? = some (some (.ref a)) → 0 ≤ k → Ev (tCall (sp_law_at K) [] E0 (tCons (tVar 0) (tCons (tC (.int k)) tNil))) σ H' (.int (cellAt ns k)) := fun k e hσ h0 => e_law_at (ev_var hσ) ev_c (ex_l e hS) h0 hn
  refine q_asg (ats 0 (Ex.refl _) rfl (by decide)) fun H1 e1 => ?_
  refine q_when (et_test (e_eq (e_mod (ats 1 e1 rfl (by decide)) ev_c (by decide)) ev_c .ii)) (fun _ H2 e2 => ?_) (fun _ H2 e2 => ?_)
  · have e12 := e1.trans e2
    refine s_retG (g_lcR (P := fun v => Word 24 v) (n := 40) (ea_cons ev_c ea_nil) (by omega) (fun x => rfl) fun i H3 e3 hi => (g_word (ev_var rfl) (e_add (ats 2 (e12.trans e3) rfl (by decide)) (e_mul ev_c (ev_var rfl) (.inl (by decide)))) ev_c (by decide) (by decide)).imp fun v _ _ hv => word_le hv (by decide)) fun v H3 e3 hv => ?_
    obtain ⟨p, xs, rfl, hp, hlen, hP⟩ := hv
    obtain ⟨ws, rfl, hw⟩ := words_of (n := 0) hP
    rw [List.length_map] at hlen
    have hlen : ws.length = 40 := hlen
    exact k _ _ (e12.trans e3) ⟨p, ws, rfl, hp, (fun z => by rw [z] at hlen; cases hlen), hw, by omega⟩
  have e12 := e1.trans e2
  -- the loop over the cells
  have rest : ∀ (z : Int) (cells : List Int) (b : Addr) H3, Ex H H3 → (z = 6 ∨ z = 24) → H3 b = some (.lst (cells.map V.int)) → cells.length ≤ 12 → (tSeq (tAsg (tLst (tCons (tCall (sp_law_word K) [] E0 (tCons (tVar 1) (tCons (tCall (sp_law_at K) [] E0 (tCons (tVar 0) (tCons (tC (.int 3)) tNil))) (tCons (tVar 3) tNil)))) tNil)) (gName 5))
 (tSeq (tFor (iList K (tVar 4)) (gName 6)
 (tIfS (tTest (tOp nEq (tOp nMod (tVar 6) (tC (.int 3))) (tC (.int 0))))
 (tDrop (tBM K "list" rAppend (tVar 5) (tCons (tCall (sp_law_word K) [] E0 (tCons (tVar 1) (tCons (tOp nDiv (tVar 6) (tC (.int 3))) (tCons (tVar 3) tNil)))) tNil))) (tDrop (tBM K "list" rAppend (tVar 5) (tCons (tCall (sp_law_bent K) [] E0 (tCons (tVar 1) (tCons (tOp (nIxL K) (tVar 5) (tOp nMod (tOp nDiv (tVar 6) (tC (.int 3))) (tCB (nLenL K) (tCons (tVar 5) tNil)))) (tCons (tOp nDiv (tVar 6) (tC (.int 3))) tNil)))) tNil)))))
 (tRet (tVar 5)))) (fin Q) [some (.ref a), some (.int (cellAt ns 0)), none, some (.int z), some (.ref b), none, none] H3 := by
    intro z cells b H3 e3 hz hb hc
    have hz' : 0 ≤ z ∧ z ≤ 60 ∧ z.toNat ≤ 24 := by rcases hz with rfl | rfl <;> decide
    refine q_asgAll (P := fun v _ => Word 24 v) (fun _ _ _ _ h => h) (all_cons (fun _ _ _ _ h => h) ((g_word (ev_var rfl) (ats 3 e3 rfl (by decide)) (ev_var rfl) hz'.1 hz'.2.1).imp fun v _ _ hv => word_le hv hz'.2.2) all_nil) (by decide) fun xs l H4 hl e4 h4 hall hlen => ?_
    obtain ⟨v, rfl⟩ := List.length_eq_one_iff.mp hlen
    obtain ⟨w, rfl, hw⟩ := word24 v (hall v (by simp))
    have hbl : b ≠ l := fun z => by rw [z, hl] at hb; cases hb
    refine q_forLn (xs := cells.map V.int) (ev_var rfl) (sq_of (e4 _ _ hb)) (fun i σ H' => (∃ x6, σ = [some (.ref a), some (.int (cellAt ns 0)), none, some (.int z), some (.ref b), some (.ref l), x6]) ∧ ∃ ws : List (List Nat), H' l = some (.lst (ws.map tx)) ∧ ws ≠ [] ∧ (∀ w ∈ ws, isW w = true) ∧ ws.length = i + 1 ∧ Ex H3 H')
      (fun H5 e5 => ⟨⟨_, rfl⟩, [w], e5 _ _ h4, by simp, fun u hu => by rw [List.mem_singleton.mp hu]; exact hw, rfl, e4.trans e5⟩) (fun i σ H' _ hp => by obtain ⟨_, ws, _, _, _, _, e⟩ := hp; exact sq_of (e _ _ hb)) (fun i x σ H' hi hp => ?_) (fun σ H' hp => ?_)
    · obtain ⟨⟨x6, rfl⟩, ws, hl', hne, hws, hlen, e⟩ := hp
      obtain ⟨c, hcc, rfl⟩ := ints_get hi
      have hlt := (List.getElem?_eq_some_iff.mp hcc).1
      have fin' : ∀ v H6, Ex H' H6 → Word 24 v → (∃ x6, [some (V.ref a), some (.int (cellAt ns 0)), none, some (.int z), some (.ref b), some (.ref l), some (.int c)] = [some (.ref a), some (.int (cellAt ns 0)), none, some (.int z), some (.ref b), some (.ref l), x6]) ∧ ∃ ws : List (List Nat), L2.upd H6 l (.lst (ws.map tx)) l = some (.lst (ws.map tx)) := fun v H6 _ _ => ⟨⟨_, rfl⟩, [], upd_same⟩
      have close : ∀ v H6, Ex H' H6 → Word 24 v → ∃ ws' : List (List Nat), L2.upd H6 l (.lst (ws.map tx ++ [v])) l = some (.lst (ws'.map tx)) ∧ ws' ≠ [] ∧ (∀ w ∈ ws', isW w = true) ∧ ws'.length = i + 1 + 1 ∧ Ex H3 (L2.upd H6 l (.lst (ws.map tx ++ [v]))) := fun v H6 e6 hv => by
        obtain ⟨u, rfl, hu⟩ := word24 v hv
        refine ⟨ws ++ [u], by rw [upd_same, List.map_append]; rfl, by simp, fun y hy => ?_, by rw [List.length_append, hlen]; rfl, Ex.mut (e.trans e6) hl⟩
        rcases List.mem_append.mp hy with hy | hy
        · exact hws y hy
        · rw [List.mem_singleton.mp hy]; exact hu
      refine s_if (et_test (e_eq (e_mod (ev_var rfl) ev_c (by decide)) ev_c .ii)) (fun _ H5 e5 => ?_) (fun _ H5 e5 => ?_)
      · refine s_appG (e5 _ _ hl') (ev_var rfl) ((g_word (ev_var rfl) (e_div (ev_var rfl) ev_c (by decide)) (ev_var rfl) hz'.1 hz'.2.1).imp fun v _ _ hv => word_le hv hz'.2.2) (by rw [List.length_map]; omega) fun v H6 e6 hv => ⟨⟨_, rfl⟩, close v H6 (e5.trans e6) hv⟩
      · have hl0 : 0 < (ws.length : Int) := by
          have := List.length_pos_iff.mpr hne
          omega
        obtain ⟨u, hu, eu⟩ := e_ixW (K := K) (σ := [some (.ref a), some (.int (cellAt ns 0)), none, some (.int z), some (.ref b), some (.ref l), some (.int c)]) (ta := tVar 5) (tb := tOp nMod (tOp nDiv (tVar 6) (tC (.int 3))) (tCB (nLenL K) (tCons (tVar 5) tNil))) (i := c / 3 % (ws.length : Int)) (ev_var rfl) (e5 _ _ hl') (e_mod (e_div (ev_var rfl) ev_c (by decide)) (e_lenW (ev_var rfl) (e5 _ _ hl')) hl0) (Int.emod_nonneg _ (by omega)) (Int.emod_lt_of_pos _ hl0)
        refine s_appG (e5 _ _ hl') (ev_var rfl) (g_bent (ev_var rfl) (g_ev (fun _ _ _ _ h => h) eu (isW_word (hws u hu))) (e_div (ev_var rfl) ev_c (by decide))) (by rw [List.length_map]; omega) fun v H6 e6 hv => ⟨⟨_, rfl⟩, close v H6 (e5.trans e6) hv⟩
    · obtain ⟨⟨x6, rfl⟩, ws, hl', hne, hws, hlen, e⟩ := hp
      rw [List.length_map] at hlen
      exact s_ret (ev_var rfl) fun H5 e5 => k _ _ ((e3.trans e).trans e5) ⟨l, ws, rfl, e5 _ _ hl', hne, hws, by omega⟩
  refine q_asg ev_c fun H3 e3 => ?_
  have e13 := e12.trans e3
  have cut : ∀ (i j : Int), 0 ≤ i → 0 ≤ j → cutV (ns.map V.int) (some i) (some j) = ((ns.drop i.toNat).take (j.toNat - i.toNat)).map V.int := fun i j h0 h1 => by rw [cut_mid h0 h1, List.map_take, List.map_drop]
  refine q_asgL (xs := ((ns.drop 4).take 12).map V.int) (by have h := el_slN (K := K) (σ := [some (.ref a), some (.int (cellAt ns 0)), none, some (.int 6), none, none, none]) (te := tVar 0) (ev_var rfl) (eo_some (ev_c (v := .int 4))) (eo_some (ev_c (v := .int 16))) (ex_l e13 hS); rw [cut 4 16 (by decide) (by decide)] at h; exact h) fun b H4 hb0 e4 hb => ?_
  have e14 := e13.trans e4
  refine q_when (et_test (e_eq (e_mod (ats 1 e14 rfl (by decide)) ev_c (by decide)) ev_c .ii)) (fun _ H5 e5 => ?_) (fun _ H5 e5 => ?_)
  · refine q_asg ev_c fun H6 e6 => ?_
    have e16 := (e14.trans e5).trans e6
    refine s_asgL (xs := ((ns.drop 4).take 4).map V.int) (by have h := el_slN (K := K) (σ := [some (.ref a), some (.int (cellAt ns 0)), none, some (.int 24), some (.ref b), none, none]) (te := tVar 0) (ev_var rfl) (eo_some (ev_c (v := .int 4))) (eo_some (ev_c (v := .int 8))) (ex_l e16 hS); rw [cut 4 8 (by decide) (by decide)] at h; exact h) fun b' H7 hb0 e7 hb' => ?_
    exact rest 24 _ b' H7 (e16.trans e7) (.inr rfl) hb' (by rw [List.length_take]; exact Nat.le_trans (Nat.min_le_left _ _) (by decide))
  · exact rest 6 _ b H5 (e14.trans e5) (.inl rfl) (e5 _ _ hb) (by rw [List.length_take]; exact Nat.le_trans (Nat.min_le_left _ _) (by decide))
theorem R_law_asked (h : sp_law_asked K vs H Q E) : T_law_asked K (fin Q) (slots n_law_asked vs) H := by
  obtain ⟨a, p, ns, ws, rfl, hS, hn, hp, hne, hws, k⟩ := h
  show T_law_asked K (fin Q) [some (.ref a), some (.ref p), none] H
  unfold T_law_asked
  refine q_asg (e_law_at (ev_var rfl) ev_c hS (by decide) hn) fun H1 e1 => ?_
  refine q_when (et_test (e_eq (e_mod (ev_var rfl) ev_c (by decide)) ev_c .ii)) (fun _ H2 e2 => ?_) (fun _ H2 e2 => ?_)
  · have e12 := e1.trans e2
    exact s_retG ((g_word (e_law_at (ev_var rfl) ev_c (ex_l e12 hS) (by decide) hn) (e_div (ev_var rfl) ev_c (by decide)) ev_c (by decide) (by decide)).imp fun v _ _ hv => word_le hv (by decide)) fun v H3 e3 hv => k v H3 (e12.trans e3) hv
  · have e12 := e1.trans e2
    have hl0 : 0 < (ws.length : Int) := by
      have := List.length_pos_iff.mpr hne
      omega
    obtain ⟨u, hu, eu⟩ := e_ixW (K := K) (σ := [some (.ref a), some (.ref p), some (.int (cellAt ns 2))]) (ta := tVar 1) (tb := tOp nMod (tOp nDiv (tVar 2) (tC (.int 4))) (tCB (nLenL K) (tCons (tVar 1) tNil))) (i := cellAt ns 2 / 4 % (ws.length : Int)) (ev_var rfl) (e12 _ _ hp) (e_mod (e_div (ev_var rfl) ev_c (by decide)) (e_lenW (ev_var rfl) (e12 _ _ hp)) hl0) (Int.emod_nonneg _ (by omega)) (Int.emod_lt_of_pos _ hl0)
    exact s_retG (g_bent (e_law_at (ev_var rfl) ev_c (ex_l e12 hS) (by decide) hn) (g_ev (fun _ _ _ _ h => h) eu (isW_word (hws u hu))) (e_div (ev_var rfl) ev_c (by decide))) fun v H3 e3 hv => k v H3 (e12.trans e3) hv
theorem wds_any {w : List Nat} (hw : isW w = true) : Any (tx w) H := .inl ⟨w, rfl, by have := isW_le hw; omega⟩
theorem mem_take1 {ws : List (List Nat)} {i : Nat} {w : List Nat} (h : ws[i]? = some w) (x : List Nat) : x ∈ ws.take (i + 1) ↔ x ∈ ws.take i ∨ x = w := by
  rw [List.take_add_one, h]
  simp
theorem R_law_tree (tx : Tx K CT CN) (h : sp_law_tree K CT CN vs H Q E) : T_law_tree K CT CN CB CF (fin Q) (slots n_law_tree vs) H := by
  obtain ⟨p, ws, rfl, hp, hws, hlt, k⟩ := h
  show T_law_tree K CT CN CB CF (fin Q) [some (.ref p), none, none] H
  unfold T_law_tree
  refine n_tree (σ := [some (.ref p), none, none]) (Q := fun v H1 => tSeq (tFor (iList K (tVar 0)) (gName 2)
 (tDrop (tMeth CT "put" (sp_Tree_put K CT CN CB CF) [] E0 (tVar 1) (tCons (tVar 2) tNil))))
 (tRet (tVar 1)) (fin Q) [some (.ref p), some v, none] H1) tx fun r A0 D0 H1 hr hf e1 T0 => ?_
  refine q_forLn (xs := ws.map Nw.tx) (ev_var rfl) (sq_of (e1 _ _ hp)) (fun i σ H' => (∃ x2, σ = [some (.ref p), some (.ref r), x2]) ∧ ∃ A D W, Tree K CT CN r A D W H' ∧ (∀ a, foot r A D (dom W) a → H a = none) ∧ Ex H H' ∧ (∀ x, x ∈ W ↔ x ∈ ws.take i) ∧ W.length ≤ i)
    (fun H2 e2 => ⟨⟨_, rfl⟩, A0, D0, [], T0.up e2, hf, e1.trans e2, fun x => by simp, Nat.zero_le _⟩) (fun i σ H' _ hp' => by obtain ⟨_, _, _, _, _, _, e, _⟩ := hp'; exact sq_of (e _ _ hp)) (fun i x σ H' hi hp' => ?_) (fun σ H' hp' => ?_)
  · obtain ⟨⟨x2, rfl⟩, A, D, W, T, hf, e, hm, hl⟩ := hp'
    rw [List.getElem?_map] at hi
    obtain ⟨w, hwi, rfl⟩ := Option.map_eq_some_iff.mp hi
    have hw := hws w (List.mem_of_getElem? hwi)
    have hi' := (List.getElem?_eq_some_iff.mp hwi).1
    show tDrop _ _ [some (.ref p), some (.ref r), some (Nw.tx w)] H'
    refine n_meth T.s (no_m (by decide +kernel) (by decide +kernel)) (ev_var rfl) (ea_cons (ev_var rfl) ea_nil) fun H2 e2 => ⟨r, _, A, D, W, rfl, T.up e2, wds_any hw, fun w' hw' _ => ?_, fun hn => absurd ⟨w, rfl, hw⟩ hn⟩
    rw [← tx_inj.mp hw']
    refine ⟨fun hin H3 e3 => ?_, fun _ h400 => absurd h400 (by omega), fun hn hlt' A' D' H3 T3 F3 ff => ?_⟩
    · refine ⟨⟨_, rfl⟩, A, D, W, T.up (e2.trans e3), hf, (e.trans e2).trans e3, fun x => ?_, by omega⟩
      rw [mem_take1 hwi, hm]
      refine ⟨.inl, fun z => z.elim id fun z => ?_⟩
      rw [z, ← hm]
      exact hin
    · refine ⟨⟨_, rfl⟩, A', D', W ++ [w], T3, fun a f => ?_, fun a o ho => ?_, fun x => ?_, by rw [List.length_append]; simp; omega⟩
      · rcases ff a f with f | f
        · exact hf a f
        · exact fresh_back (e.trans e2) f
      · refine F3 a o (e2 _ _ (e _ _ ho)) fun f => ?_
        rw [hf a f] at ho
        cases ho
      · rw [mem_take1 hwi, ← hm]
        simp
  · obtain ⟨⟨x2, rfl⟩, A, D, W, T, hf, e, hm, hl⟩ := hp'
    rw [List.length_map] at hm hl
    rw [List.take_length] at hm
    exact s_ret (ev_var rfl) fun H3 e3 => k r A D W H3 hf (e.trans e3) (T.up e3) hm hl
end
end Nw

set_option Elab.async false
set_option linter.all false
set_option maxRecDepth 100000
/-! k05: ways and distances -/
namespace Nw
open PySem L2 Evl
def sp_law5 (K : PySem.W.Frag) : Sp := sp_law1 K
/- law(_law_script): slots 0:_law_script 1:_law_one 2:_law_other 3:_law_far_here 4:_law_turn 5:_law_found -/
def T_law5 (K : PySem.W.Frag) (C_BadWord : Addr) : TS :=
 (tSeq (tAsg (tCall (sp_law_two K) [] E0 (tCons (tVar 0) tNil)) (gTup K 2 (gCons (gName 1) (gCons (gName 2) gNil))))
 (tSeq (tAsg (tCall (sp_distance K C_BadWord) [] E0 (tCons (tVar 1) (tCons (tVar 2) tNil))) (gName 3))
 (tSeq (tIfS (tOr (tNot (tB (tCall (sp_law_whole K) [] E0 (tCons (tVar 3) tNil)))) (tTest (tOp nNe (tVar 3) (tCall (sp_law_far K) [] E0 (tCons (tVar 1) (tCons (tVar 2) tNil))))))
 (tRet (tC (.bl false))) tNext)
 (tSeq (tFor (iRng1 (tCons (tC (.int 2)) tNil)) (gName 4)
 (tSeq (tAsg (tCall (sp_way K C_BadWord) [] E0 (tCons (tVar 1) (tCons (tVar 2) tNil))) (gName 5))
 (tSeq (tIfS (tOr (tTest (tOp nNeS (tCall (sp_law_led K) [] E0 (tCons (tVar 1) (tCons (tVar 5) tNil))) (tVar 2))) (tTest (tOp nNe (tCB (nLenL K) (tCons (tVar 5) tNil)) (tVar 3))))
 (tRet (tC (.bl false))) tNext)
 (tDrop (tBM0 K "list" rClear (tVar 5))))))
 (tRet (tC (.bl true)))))))
def n_law5 : Nat := 6
theorem l_law5 {K vs H Q E} (h : sp_law5 K vs H Q E) : vs.length = 1 := by obtain ⟨_, _, rfl, _⟩ := h; rfl
section
variable {K : PySem.W.Frag} {vs : List V} {H : Hp} {Q : VK} {E : XK} {C : Addr} {σ : L2.St} {ta tb tc : TE}
/-- a text's letter before i -/
theorem e_before {w : List Nat} {i c : Nat} {z : Int} (ha : Ev ta σ H (tx w)) (hb : Ev tb σ H (.int z)) (e : z = ((i + 1 : Nat) : Int)) (hc : w[i]? = some c) (hl : w.length ≤ 1000) : Ev (tOp nIxS ta (tOp nSub tb (tC (.int 1)))) σ H (tx [c]) :=
  e_ixS ha (e_sub hb ev_c) (by omega) (by
    have e1 : z - 1 = (i : Int) := by omega
    rw [e1]
    exact atI_nat hc)
theorem eqb1 {x y : Nat} : EqB (tx [x]) (tx [y]) (decide (x = y)) := by
  have e : decide (x = y) = decide ([x] = [y]) := dec_eq (by simp)
  rw [e]
  exact .ss
theorem q_par {v w : V} {i j : Nat} {D : Ends} {tz : TS} (h1 : Ev ta σ H v) (h2 : Ev tb σ H w) (k : ∀ H1, Ex H H1 → tz D ((σ.set i (some v)).set j (some w)) H1) : tSeq (tPar i j (tCons ta (tCons tb tNil))) tz D σ H :=
  ea_cons h1 (ea_cons h2 ea_nil) H (Ex.refl H) (fun vs H2 => ∃ v w, vs = [v, w] ∧ tz D ((σ.set i (some v)).set j (some w)) H2) fun H1 e => ⟨_, _, rfl, k H1 e⟩
theorem s_par {v w : V} {i j : Nat} {D : Ends} (h1 : Ev ta σ H v) (h2 : Ev tb σ H w) (k : ∀ H1, Ex H H1 → D.nx ((σ.set i (some v)).set j (some w)) H1) : tPar i j (tCons ta (tCons tb tNil)) D σ H :=
  ea_cons h1 (ea_cons h2 ea_nil) H (Ex.refl H) (fun vs H2 => ∃ v w, vs = [v, w] ∧ D.nx ((σ.set i (some v)).set j (some w)) H2) fun H1 e => ⟨_, _, rfl, k H1 e⟩
theorem e_dec {h : Nat} (ha : Ev ta σ H (.int ((h + 1 : Nat) : Int))) : Ev (tOp nSub ta (tC (.int 1))) σ H (.int (h : Int)) := ev_is (e_sub ha ev_c) (by
  have e : ((h + 1 : Nat) : Int) - 1 = (h : Int) := by omega
  rw [e])
theorem dec_int {h : Nat} : ((h + 1 : Nat) : Int) - 1 = (h : Int) := by omega
/-- the loop's state -/
def StepI (H0 : Hp) (a b : List Nat) (v : V) (l : Addr) (m : Nat) (σ : L2.St) (H : Hp) : Prop := ∃ (h f : Nat) (cs : List V) (x6 : Option V), σ = [some (tx a), some (tx b), some v, some (.int (h : Int)), some (.int (f : Int)), some (.ref l), x6] ∧ m = h + f ∧ h ≤ a.length ∧ f ≤ b.length ∧ cs.length + cell a b h f = dist a b ∧ Gone H0 a cs (a.take h ++ b.drop f) l H
theorem R_steps_of (h : sp_steps_of K vs H Q E) : T_steps_of K (fin Q) (slots n_steps_of vs) H := by
  obtain ⟨a, b, rfl, ha, hb, k⟩ := h
  show T_steps_of K (fin Q) [some (tx a), some (tx b), none, none, none, none, none] H
  unfold T_steps_of
  have la := isW_le ha
  have lb := isW_le hb
  have lo : Low b := (of_decide_eq_true hb).2
  refine q_asgG (g_rows_of (ev_var rfl) (ev_var rfl) (by omega) (by omega)) fun v H1 e1 hv => ?_
  refine q_par (e_lenS (a := a) (ev_var rfl) (by omega)) (e_lenS (a := b) (ev_var rfl) (by omega)) fun H2 e2 => ?_
  refine q_asgL (el_lst ea_nil (by decide)) fun l H3 hl e3 hl3 => ?_
  have hv2 := rowsAt_up _ _ _ _ _ e2 hv
  have e12 := e1.trans e2
  clear e1 e2 hv
  refine q_while (StepI H2 a b v l) (a.length + b.length) ⟨a.length, b.length, [], _, rfl, rfl, Nat.le_refl _, Nat.le_refl _, by simp [dist], hl, hl3, e3, ?_, fun c hc => by cases hc⟩ (fun m σ' H' hw => ?_)
  · rw [List.take_length, List.drop_length, List.append_nil]
    exact .nil
  obtain ⟨h, f, cs, x6, rfl, rfl, hh, hf, hn, g⟩ := hw
  have tst : EvT (tOr (tTest (tOp nGt (tVar 3) (tC (.int 0)))) (tTest (tOp nGt (tVar 4) (tC (.int 0))))) [some (tx a), some (tx b), some v, some (.int (h : Int)), some (.int (f : Int)), some (.ref l), x6] H' (decide (0 < h + f)) := by
    refine et_is (et_or (et_test (e_gt (ev_var rfl) ev_c)) fun _ => et_test (e_gt (ev_var rfl) ev_c)) ?_
    by_cases h0 : 0 < h + f
    · rw [decide_eq_true h0, Bool.or_eq_true, decide_eq_true_eq, decide_eq_true_eq]
      omega
    · rw [decide_eq_false h0, decide_eq_false (by omega), decide_eq_false (by omega)]
      rfl
  refine ⟨_, tst, fun hb' H4 e4 => ⟨fun σ2 H5 => ∃ m', m' < h + f ∧ StepI H2 a b v l m' σ2 H5, fun σ2 H5 hN => hN, ?_⟩, fun hb' H4 e4 => ?_⟩
  case refine_2 =>
    have h0 := of_decide_eq_false hb'
    obtain rfl : h = 0 := by omega
    obtain rfl : f = 0 := by omega
    rw [cell_0] at hn
    have g4 := g.up e4
    have hL := g4.led
    rw [List.take_zero, List.drop_zero, List.nil_append] at hL
    refine s_ret (ev_var rfl) fun H5 e5 => k l H5 (fresh_back e12 hl) ((e12.trans g4.ex).trans e5) ⟨l, cs, rfl, e5 _ _ g4.at_, ledV_up (del_ex.trans e5) hL, hn, fun c hc => chg_up _ _ _ (del_ex.trans e5) (g4.chg c hc)⟩
  case refine_1 =>
    have h0 := of_decide_eq_true hb'
    clear tst hb'
    have hv4 := fun {H5} (e : Ex H4 H5) => rowsAt_up _ _ _ _ _ ((g.up e4).ex.trans e) hv2
    refine q_asg (e_cell (i := h) (j := f) (ev_var rfl) (hv4 (Ex.refl _)) (ev_var rfl) rfl hh (ev_var rfl) rfl hf) fun H5 e5 => ?_
    have g5 := (g.up e4).up e5
    have hv5 := hv4 e5
    clear g e4 hv4
    have tru : ∀ {h : Nat} {H6} {x6 f}, EvT (tTest (tOp nGt (tVar 3) (tC (.int 0)))) [some (tx a), some (tx b), some v, some (.int ((h + 1 : Nat) : Int)), some (.int (f : Int)), some (.ref l), x6] H6 true := et_is (et_test (e_gt (ev_var rfl) ev_c)) (decide_eq_true (by omega))
    have trv : ∀ {h : Nat} {H6} {x6 f}, EvT (tTest (tOp nGt (tVar 4) (tC (.int 0)))) [some (tx a), some (tx b), some v, some (.int h), some (.int ((f + 1 : Nat) : Int)), some (.ref l), x6] H6 true := et_is (et_test (e_gt (ev_var rfl) ev_c)) (decide_eq_true (by omega))
    have no3 : ∀ {H6} {x6 f} {u : TT} {b}, EvT (tAnd (tTest (tOp nGt (tVar 3) (tC (.int 0)))) u) [some (tx a), some (tx b), some v, some (.int ((0 : Nat) : Int)), some (.int (f : Int)), some (.ref l), x6] H6 false := et_is (et_and (b := false) (et_test (e_gt (ev_var rfl) ev_c)) fun hh => absurd (of_decide_eq_true hh) (by omega)) (by simp)
    have nof : ∀ {h : Nat} {H6} {x6} {u : TT}, EvT (tAnd (tTest (tOp nGt (tVar 3) (tC (.int 0)))) (tAnd (tTest (tOp nGt (tVar 4) (tC (.int 0)))) u)) [some (tx a), some (tx b), some v, some (.int ((h + 1 : Nat) : Int)), some (.int ((0 : Nat) : Int)), some (.ref l), x6] H6 false := et_is (et_and tru fun _ => et_and (b := false) (et_test (e_gt (ev_var rfl) ev_c)) fun hh => absurd (of_decide_eq_true hh) (by omega)) (by simp)
    have cell_at : ∀ {i j : Nat} {H6} {tb tc : TE} {σ : L2.St}, Ex H5 H6 → σ[2]? = some (some v) → Ev tb σ H6 (.int (i : Int)) → Ev tc σ H6 (.int (j : Int)) → i ≤ a.length → j ≤ b.length → Ev (tOp (nIxL K) (tOp (nIxL K) (tVar 2) tb) tc) σ H6 (.int (cell a b i j : Int)) :=
      fun e hσ h1 h2 hi hj => e_cell (ev_var hσ) (rowsAt_up _ _ _ _ _ e hv5) h1 rfl hi h2 rfl hj
    have docut : ∀ {h f : Nat} {cs : List V} {H6} {x6} {D : Ends} {x}, Gone H2 a cs (a.take (h + 1) ++ b.drop f) l H6 → a[h]? = some x → f ≤ b.length → cs.length + 1 + cell a b h f = dist a b → cs.length < 900 → (∀ σ2 H7, StepI H2 a b v l (h + f) σ2 H7 → D.nx σ2 H7) →
        (tSeq (tDrop (tBM K "list" rAppend (tVar 5) (tCons (tTup (tCons (tC (tx [99, 117, 116])) (tCons (tOp nSub (tVar 3) (tC (.int 1))) tNil))) tNil))) (tAug 3 (tC (.int 1)) (ipI (fun i j => i - j)))) D [some (tx a), some (tx b), some v, some (.int ((h + 1 : Nat) : Int)), some (.int (f : Int)), some (.ref l), x6] H6 := by
      intro h f cs H6 x6 D x g hx hf hn hz k
      have hlt := (List.getElem?_eq_some_iff.mp hx).1
      refine q_appU g.at_ (ev_var rfl) (eu_tup (ea_cons ev_c (ea_cons (e_dec (ev_var rfl)) ea_nil)) (by simp)) (by omega) fun p H7 hp e7 hp7 => ?_
      have g7 := g.snoc e7 hp hp7 (good_cut hx (b.drop f))
      refine s_aug rfl ev_c fun H8 e8 => k _ _ ⟨h, f, _, x6, ?_, rfl, by omega, hf, by rw [List.length_append]; exact hn, g7.up e8⟩
      rw [dec_int]
      rfl
    have doput : ∀ {h f : Nat} {cs : List V} {H6} {x6} {D : Ends} {y}, Gone H2 a cs (a.take h ++ b.drop (f + 1)) l H6 → h ≤ a.length → b[f]? = some y → cs.length + 1 + cell a b h f = dist a b → cs.length < 900 → (∀ σ2 H7, StepI H2 a b v l (h + f) σ2 H7 → D.nx σ2 H7) →
        (tSeq (tDrop (tBM K "list" rAppend (tVar 5) (tCons (tTup (tCons (tC (tx [112, 117, 116])) (tCons (tVar 3) (tCons (tOp nIxS (tVar 1) (tOp nSub (tVar 4) (tC (.int 1)))) tNil)))) tNil))) (tAug 4 (tC (.int 1)) (ipI (fun i j => i - j)))) D [some (tx a), some (tx b), some v, some (.int (h : Int)), some (.int ((f + 1 : Nat) : Int)), some (.ref l), x6] H6 := by
      intro h f cs H6 x6 D y g hh hy hn hz k
      have hlt := (List.getElem?_eq_some_iff.mp hy).1
      refine q_appU g.at_ (ev_var rfl) (eu_tup (ea_cons ev_c (ea_cons (ev_var rfl) (ea_cons (e_before (ev_var rfl) (ev_var rfl) rfl hy (by omega)) ea_nil))) (by simp)) (by omega) fun p H7 hp e7 hp7 => ?_
      have g7 := g.snoc e7 hp hp7 (good_put hh hy lo)
      refine s_aug rfl ev_c fun H8 e8 => k _ _ ⟨h, f, _, x6, ?_, rfl, hh, by omega, by rw [List.length_append]; exact hn, g7.up e8⟩
      rw [dec_int]
      rfl
    have hd := dist_high a b
    have hz : cs.length < 900 := by omega
    cases h with
    | zero =>
      cases f with
      | zero => omega
      | succ f =>
        have hy : b[f]? = some b[f] := List.getElem?_eq_getElem (by omega)
        refine s_if (b := false) no3 (fun hh => by cases hh) (fun _ H6 e6 => ?_)
        refine s_if (b := false) no3 (fun hh => by cases hh) (fun _ H7 e7 => ?_)
        refine s_if (b := false) no3 (fun hh => by cases hh) (fun _ H8 e8 => ?_)
        refine doput (((g5.up e6).up e7).up e8) hh hy (by rw [cell_0] at hn ⊢; omega) hz fun σ2 H7 hI => ⟨_, by omega, hI⟩
    | succ h =>
      have hx : a[h]? = some a[h] := List.getElem?_eq_getElem (by omega)
      cases f with
      | zero =>
        refine s_if (b := false) nof (fun hh => by cases hh) (fun _ H6 e6 => ?_)
        refine s_if (b := false) nof (fun hh => by cases hh) (fun _ H7 e7 => ?_)
        have e67 := e6.trans e7
        refine s_if (b := true) (et_is (et_and tru fun _ => et_test (e_eq (ev_var rfl) (e_add (cell_at (i := h) (j := 0) e67 rfl (e_dec (ev_var rfl)) (ev_var rfl) (by omega) hf) ev_c) .ii)) (by rw [cell_i0, cell_i0]; simp)) (fun _ H8 e8 => ?_) (fun hh => by cases hh)
        exact docut ((g5.up e67).up e8) hx hf (by rw [cell_i0] at hn ⊢; omega) hz fun σ2 H7 hI => ⟨_, by omega, hI⟩
      | succ f =>
        have hy : b[f]? = some b[f] := List.getElem?_eq_getElem (by omega)
        generalize a[h] = x at hx
        generalize b[f] = y at hy
        have hc := cell_ss a b h f
        rw [hx, hy] at hc
        refine s_if (b := decide (x = y) && decide ((cell a b (h + 1) (f + 1) : Int) = cell a b h f)) (et_is (et_and tru fun _ => et_and trv fun _ => et_and (et_test (e_eq (e_before (ev_var rfl) (ev_var rfl) rfl hx (by omega)) (e_before (ev_var rfl) (ev_var rfl) rfl hy (by omega)) eqb1)) fun _ => et_test (e_eq (ev_var rfl) (cell_at (i := h) (j := f) (Ex.refl _) rfl (e_dec (ev_var rfl)) (e_dec (ev_var rfl)) (by omega) (by omega)) .ii)) (by simp)) (fun hb H6 e6 => ?_) (fun hb H6 e6 => ?_)
        · rw [Bool.and_eq_true, decide_eq_true_eq, decide_eq_true_eq] at hb
          obtain ⟨rfl, hb⟩ := hb
          refine s_par (e_dec (ev_var rfl)) (e_dec (ev_var rfl)) fun H7 e7 => ?_
          have g7 := (g5.up e6).up e7
          rw [same_step hx hy] at g7
          exact ⟨h + f, by omega, h, f, cs, _, rfl, rfl, by omega, by omega, by omega, g7⟩
        have hb1 : ¬ (x = y ∧ (cell a b (h + 1) (f + 1) : Int) = cell a b h f) := fun z => by
          rw [decide_eq_true z.1, decide_eq_true z.2] at hb
          cases hb
        refine s_if (b := decide ((cell a b (h + 1) (f + 1) : Int) = cell a b h f + 1)) (et_is (et_and tru fun _ => et_and trv fun _ => et_test (e_eq (ev_var rfl) (e_add (cell_at (i := h) (j := f) e6 rfl (e_dec (ev_var rfl)) (e_dec (ev_var rfl)) (by omega) (by omega)) ev_c) .ii)) (by simp)) (fun hb2 H7 e7 => ?_) (fun hb2 H7 e7 => ?_)
        · have hb2' := of_decide_eq_true hb2
          have hne : x ≠ y := fun z => by
            rw [z, if_pos rfl] at hc
            omega
          have g7 := (g5.up e6).up e7
          refine q_appU g7.at_ (ev_var rfl) (eu_tup (ea_cons ev_c (ea_cons (e_dec (ev_var rfl)) (ea_cons (e_before (ev_var rfl) (ev_var rfl) rfl hy (by omega)) ea_nil))) (by simp)) (by omega) fun p H8 hp e8 hp8 => ?_
          have g8 := g7.snoc e8 hp hp8 (good_turn hx hy hne lo)
          refine s_par (e_dec (ev_var rfl)) (e_dec (ev_var rfl)) fun H9 e9 => ?_
          exact ⟨h + f, by omega, h, f, _, _, rfl, rfl, by omega, by omega, by rw [List.length_append]; show cs.length + 1 + _ = _; omega, g8.up e9⟩
        have hb2' := of_decide_eq_false hb2
        have e67 := e6.trans e7
        refine s_if (b := decide ((cell a b (h + 1) (f + 1) : Int) = cell a b h (f + 1) + 1)) (et_is (et_and tru fun _ => et_test (e_eq (ev_var rfl) (e_add (cell_at (i := h) (j := f + 1) e67 rfl (e_dec (ev_var rfl)) (ev_var rfl) (by omega) hf) ev_c) .ii)) (by simp)) (fun hb3 H8 e8 => ?_) (fun hb3 H8 e8 => ?_)
        · have hb3' := of_decide_eq_true hb3
          exact docut ((g5.up e67).up e8) hx hf (by omega) hz fun σ2 H7 hI => ⟨_, by omega, hI⟩
        · have hb3' := of_decide_eq_false hb3
          refine doput ((g5.up e67).up e8) hh hy ?_ hz fun σ2 H7 hI => ⟨_, by omega, hI⟩
          by_cases hxy : x = y
          · rw [if_pos (by rw [hxy])] at hc
            have : (cell a b (h + 1) (f + 1) : Int) ≠ cell a b h f := fun z => hb1 ⟨hxy, z⟩
            omega
          · rw [if_neg (fun z => hxy (Option.some.inj z))] at hc
            omega
theorem R_way (h : sp_way K C vs H Q E) : T_way K C E (fin Q) (slots n_way vs) H := by
  obtain ⟨x, y, rfl, hx, hy, k, kE⟩ := h
  show T_way K C E (fin Q) [some x, some y] H
  unfold T_way
  refine q_need_word (ev_var rfl) hx (fun hxw H1 e1 => ?_) (fun hxw => kE fun z => hxw z.1)
  refine q_need_word (ev_var rfl) (any_up _ _ _ e1 hy) (fun hyw H2 e2 => ?_) (fun hyw H2 e2 => kE (fun z => hyw z.2) H2 (e1.trans e2))
  obtain ⟨a, rfl, ha⟩ := hxw
  obtain ⟨b, rfl, hb⟩ := hyw
  have e12 := e1.trans e2
  exact ⟨_, rfl, _, rfl, a, b, rfl, ha, hb, fun p H3 hp e3 hw => k a b rfl rfl ha hb p H3 (fresh_back e12 hp) (e12.trans e3) hw⟩
/-- a call of way with two words -/
theorem g_way {a b : List Nat} (h1 : Ev ta σ H (tx a)) (h2 : Ev tb σ H (tx b)) (ha : isW a = true) (hb : isW b = true) : EvG (tCall (sp_way K C) [] E (tCons ta (tCons tb tNil))) σ H (WayV a b) :=
  g_call (ea_cons h1 (ea_cons h2 ea_nil)) fun H1 e Q q E => ⟨_, _, rfl, .inl ⟨a, rfl, by have := isW_le ha; omega⟩, .inl ⟨b, rfl, by have := isW_le hb; omega⟩, fun a' b' e1 e2 _ _ => by
    rw [← tx_inj.mp e1, ← tx_inj.mp e2]
    exact fun p H2 _ e3 hw => q _ H2 e3 hw, fun hn => absurd ⟨⟨a, rfl, ha⟩, ⟨b, rfl, hb⟩⟩ hn⟩
theorem s_clear {l : Addr} {xs : List V} {D : Ends} (ha : Ev ta σ H (.ref l)) (hl : H l = some (.lst xs)) (k : ∀ H1, Ex H H1 → D.nx σ (upd H1 l (.lst []))) : tDrop (tBM0 K "list" rClear ta) D σ H :=
  ha H (Ex.refl H) _ fun H1 e1 => ⟨.inl ⟨rfl, xs, sq_of (e1 _ _ hl)⟩, l, xs, rfl, rfl, e1 _ _ hl, k H1 e1⟩
theorem R_law5 (h : sp_law5 K vs H Q E) : T_law5 K C (fin Q) (slots n_law5 vs) H := by
  obtain ⟨s, ns, rfl, hS, hn, k⟩ := h
  show T_law5 K C (fin Q) [some (.ref s), none, none, none, none, none] H
  unfold T_law5
  refine q_two (ev_var rfl) hS hn fun a b H1 e1 ha hb => ?_
  have la := isW_le ha
  have lb := isW_le hb
  refine q_asg (e_distance (ev_var rfl) (ev_var rfl) ha hb) fun H2 e2 => ?_
  refine q_when (b := false) (et_is (et_or (b := false) (et_not (et_B (b := true) (ev_call (ea_cons (ev_var rfl) ea_nil) fun H6 e6 Q q E => ⟨_, rfl, .inr (.inr (.inl ⟨_, rfl⟩)), fun H7 e7 => q H7 e7⟩))) fun _ => et_is (et_test (e_ne (ev_var rfl) (e_law_far (ev_var rfl) (ev_var rfl) (by omega) (by omega)) .ii)) (by simp)) (by simp)) (fun hh => by cases hh) (fun _ H3 e3 => ?_)
  refine q_forR1 (n := 2) (ea_cons ev_c ea_nil) (by omega) (fun i σ H' => ∃ x4 x5, σ = [some (.ref s), some (tx a), some (tx b), some (.int (dist a b : Int)), x4, x5]) (fun H4 e4 => ⟨_, _, rfl⟩) (fun i σ H' hi hp' => ?_) (fun σ H' hp' => ?_)
  · obtain ⟨x4, x5, rfl⟩ := hp'
    refine q_asgG (g_way (ev_var rfl) (ev_var rfl) ha hb) fun v H4 e4 hv => ?_
    obtain ⟨p, cs, rfl, hp, hL, hl, hc⟩ := hv
    have hd := dist_high a b
    refine q_when (b := false) (et_is (et_or (a := false) (b := false) (et_is (et_test (e_neS (e_law_led (ev_var rfl) (ev_var rfl) ⟨p, cs, rfl, hp, hL, hl, hc⟩ (by omega)) (ev_var rfl) (any_tx (by omega)))) (by simp)) fun _ => et_is (et_test (e_ne (e_lenL (ev_var rfl) (sq_of hp)) (ev_var rfl) .ii)) (by rw [hl]; simp)) (by simp)) (fun hh => by cases hh) (fun _ H5 e5 => ?_)
    exact s_clear (ev_var rfl) (e5 _ _ hp) fun H6 e6 => ⟨_, _, rfl⟩
  · obtain ⟨x4, x5, rfl⟩ := hp'
    exact s_ret ev_c fun H4 e4 => k _
end
end Nw

set_option Elab.async false
set_option linter.all false
set_option maxRecDepth 100000
/-! Nw.Exc: a def that is asked, within an except suite, about the error that is held there -/
namespace Nw
open PySem PySem.Spec PyProof.Rows L2 Evl
/-- the object p is an error of the class D -/
structure ErrAt (K : PySem.W.Frag) (D : Addr) (p : Addr × Obj) : Prop where
  cls : Zc (.ref D) none p.2
  flds : ∃ vs, p.2.data = .fields vs
/-- isinstance(e, c), e the error at a -/
def nIsX (K : PySem.W.Frag) (a : Addr) (cls : Value) (d : Option Addr) : List V → Hp → VK → Prop := fun xs H Q => ∃ D, cls = .ref D ∧ d = none ∧ ExcC K D ∧ rIsE K D a xs H Q
theorem call_isX {X : Cx} {a : Addr} {oe : Obj} {cls : Value} {d : Option Addr} (hp : (a, oe) ∈ X.pn) (hz : Zc cls d oe) (hf : ∃ vs, oe.data = .fields vs) : CallR X (.builtin "isinstance") (nIsX X.K a cls d) := by
  rintro pins s σ H xs us Q I r ⟨D, rfl, rfl, C, c, cv, b, rfl, hcv, e, q⟩
  obtain ⟨u1, u2, rfl, rx, rt⟩ := vals2 r
  obtain rfl : u1 = .ref a := rx
  obtain rfl := hcv _ rt
  have there := (I.pin (a, oe) (List.mem_append_left _ hp)).1
  have J : PySem.W.InstAt s.heap a oe D none := by
    obtain ⟨vs, hv⟩ := hf
    cases oe with
    | mk oc od oda osl =>
      obtain ⟨h1, h2⟩ := hz
      dsimp only at h1 h2 hv
      subst h1 h2 hv
      exact ⟨there, rfl, rfl, trivial⟩
  exact PySem.W.kia_one (PySem.W.handS_kitx_exc (ox := oe) (x := a) C.hg C.hk C.hs C.hd C.ha C.hn C.ht C.hm) I.kIn J e (fun z => nomatch z) fun tk => ⟨.bl b, H, I.kept (t' := tk) fun _ _ z => z, rfl, q⟩
/-- a def of one argument that is an error held -/
structure FnE (P : Program) (w : World) (K : PySem.W.Frag) (mg : Str → Option Value) (base : Heap) (k : Nat) (f : Addr) (fd : FuncData) (ps : List Str) (sp : Addr → Addr → Sp) : Prop where
  len : ∀ a D vs H Q E, sp a D vs H Q E → vs.length = ps.length
  run : ∀ (A : Around) (outer : List Env) (s : Shared) (H : Hp) (args : Args) (us : List Value) (vs : List V) (Q : VK) (E : XK) (p : Addr × Obj) (D : Addr), L2H.RoomH k A → L2H.PinOk outer H s p → ErrAt K D p → Env0 P w K mg base A outer s H → BindsTo s fd args (ps.zip us) → Vals vs us → sp p.1 D vs H Q E →
    codeAny (model P w) A (.call (.ref f) args) (CR CX0 outer P w H s Q E) s
theorem fnE_mk {P : Program} {w : World} {K : PySem.W.Frag} {mg : Str → Option Value} {base : Heap} {x qual : Str} {st : Stmt} {f : Addr} {fd : FuncData} {N ps : List Str} {k : Nat} {sp : Addr → Addr → Sp} (F : Fun K x qual st f fd) (S : FnScope N ps (defScope st))
    (len : ∀ a D vs H Q E, sp a D vs H Q E → vs.length = ps.length)
    (body : ∀ (cdv : Value) (A : Around) (outer : List Env) (s : Shared) (H : Hp) (vs : List V) (Q : VK) (E : XK) (a : Addr) (oe : Obj) (D : Addr), Zc (.ref D) none oe → (∃ vs, oe.data = .fields vs) → L2H.RoomH k (A.deeper (envOfC qual (defScope st) s.heap.objs.size f cdv)) → sp a D vs H Q E →
      ∃ t, PSs (L2H.cxH CX0 P w K mg base N qual (defScope st) f cdv A outer s H E (a, oe)) (defBody st) t ∧ t { nx := fun _ H' => Q .non H', rt := Q } (start N vs) H) : FnE P w K mg base (k + 1) f fd ps sp := by
  obtain ⟨oc, od, kV, doc, pm, an, cdv, ct, osl, rfl, lk, hcd⟩ := F.ex
  refine ⟨len, ?_⟩
  rintro A outer s H args us vs Q E ⟨a, oe⟩ D room pin err e0 binds r h
  obtain ⟨t, ht, hq⟩ := body cdv A outer s H vs Q E a oe D err.cls err.flds (room.deeper _) h
  have kin : K.In s.heap := e0.mod.kin.keeps fun b o e => (e0.bs b o e).1
  have lim : s.heap.NoLimit := e0.mod.nolimit.keeps fun b o e => (e0.bs b o e).1
  have kinds : ∀ y ∈ ps.zip us, (defScope st).names.lookup y.1 = some .local ∨ ((defScope st).names.lookup y.1 = some .cell ∧ ((cellsFrom (s.heap.objs.size + 1) (defScope st).names []).lookup y.1).isSome = true) := by
    rintro ⟨n, v⟩ hy
    rcases S.par n (List.of_mem_zip hy).1 with q | q
    · exact .inl q
    · exact .inr ⟨q, PySem.W.cellsFrom_some _ _ _ (.inl q)⟩
  refine codeAny_call_function room.depth (kin _ _ lk) rfl S.co S.gen rfl (PySem.W.codeRec_of kin hcd) (binds _ _ _ _ (wpAny_newFunctionEnv_cells S.kind kinds ?_))
  rintro env rfl s1 x
  refine ⟨lim.keeps x.toInCall.keep, codeAny_func (wpAny_mono (ht.run [] s1 (start N vs) H _ (L2H.inv_startH S pin e0 (len _ _ _ _ _ _ h) r x) hq) (fun fl s' hs => ?_) fun e s' hs => hs)⟩
  cases fl with
  | ret u =>
    obtain ⟨v, σ', H', J, rv, q⟩ := hs
    exact ⟨v, H', J.os, J.bare, J.base, J.hok, rv, q⟩
  | next =>
    obtain ⟨σ', H', J, q⟩ := hs
    exact ⟨.non, H', J.os, J.bare, J.base, J.hok, rfl, q⟩
  | brk => exact hs.choose_spec.choose_spec.2.elim
  | cont => exact hs.choose_spec.choose_spec.2.elim
/-- such a def's call -/
def tCallX (K : PySem.W.Frag) (sp : Addr → Addr → Sp) (a : Addr) (cls : Value) (d : Option Addr) (t : TA) : TE := fun σ H Q => ∃ D, cls = .ref D ∧ d = none ∧ t σ H fun vs H1 => sp a D vs H1 Q E0
theorem room_mark {k : Nat} {A : Around} {h : Option Value} (r : Room k A) : L2H.RoomH k (A.mark h) := ⟨r.dp, r.un⟩
theorem pe_callX {X : Cx} {k : Nat} {f a : Addr} {fd : FuncData} {ps : List Str} {sp : Addr → Addr → Sp} {x : Str} {oe : Obj} {cls : Value} {d : Option Addr} {q pos : Pos} {e : Expr} {es : List Expr} {t : TA} (F : FnE X.prog X.w X.K X.mg X.base k f fd ps sp) (room : L2H.RoomH k X.A) (hg : Gl X x) (hm : X.mg x = some (.ref f)) (hk : PySem.W.keepIn X.K (.ref f) = true) (hb : Binds X.K fd ps [])
    (hp : (a, oe) ∈ X.pn) (hz : Zc cls d oe) (hf : ∃ vs, oe.data = .fields vs) (ha : PA X (e :: es) t) (hdb : (x == ("__debug__" : Str)) = false := by decide) (he : starEach (e :: es) X.env = (false, eval e X.env) :: starEach es X.env := by rfl) (hpl : (backTo pos (starEach es X.env)).any (·.1) = false := by rfl) :
    PE X (.Call (.Name x q) (e :: es) [] pos) (tCallX X.K sp a cls d t) := by
  constructor
  rintro pins s σ H Q I ⟨D, rfl, rfl, h⟩
  refine wpAny_Call_Name_kw (ld_glob I hg hm (PySem.W.callWith_K (h₀ := X.base) I.ok.mod.kin hk (thn (ha.run pos pins s σ H _ I h) ?_) he hpl) hdb)
  rintro us s1 ⟨vs, H1, I1, r, h1⟩
  refine ⟨I1.kIn, ?_⟩
  have hl : us.length = ps.length := by rw [← r.length]; exact F.len _ _ _ _ _ _ h1
  have b := hb s1 us I1.kIn (by rw [List.append_nil]; exact hl)
  rw [List.append_nil] at b
  have P1 := I1.pin (a, oe) (List.mem_append_left _ hp)
  have pin : L2H.PinOk X.stack H1 s1 (a, oe) := ⟨P1.1, P1.2.1, fun hm => (List.mem_cons.mp (I1.stkSub a hm)).elim P1.2.2.1 P1.2.2.2.1, P1.2.2.2.2⟩
  refine wpAny_call (codeAny_mono (F.run X.A X.stack s1 H1 ⟨us, []⟩ us vs Q E0 (a, oe) D room pin ⟨hz, hf⟩ I1.env0 b r h1) fun r s' hq => ?_)
  match r, hq with
  | .error _, hq => exact hq.elim
  | .ok (.ret u), hq => exact I1.after hq
  | .ok .next, hq => exact hq.elim
  | .ok .brk, hq => exact hq.elim
  | .ok .cont, hq => exact hq.elim
structure CalE (P : Program) (w : World) (K : PySem.W.Frag) (mg : Str → Option Value) (base : Heap) (k : Nat) (x : Str) (ps : List Str) (sp : Addr → Addr → Sp) : Prop where
  ex : ∃ (f : Addr) (fd : FuncData), FnE P w K mg base k f fd ps sp ∧ mg x = some (.ref f) ∧ PySem.W.keepIn K (.ref f) = true ∧ Binds K fd ps []
/-! ### whose error it is -/
structure KindOf (K : PySem.W.Frag) (D W C M F : Addr) (w c m f : Bool) : Prop where
  exc : ExcC K D
  val : PySem.W.kitOne K (.ref D) (.type "ValueError") = some true
  wo : PySem.W.kitOne K (.ref D) (.ref W) = some w
  ch : PySem.W.kitOne K (.ref D) (.ref C) = some c
  mo : PySem.W.kitOne K (.ref D) (.ref M) = some m
  fu : PySem.W.kitOne K (.ref D) (.ref F) = some f
section
variable {K : PySem.W.Frag} {σ : L2.St} {H : Hp} {ta : TE} {a D : Addr} {b : Bool}
theorem e_isX {c : Addr} (h : Ev ta σ H (.ref a)) (C : ExcC K D) (hk : PySem.W.kitOne K (.ref D) (.ref c) = some b) : Ev (tCB (nIsX K a (.ref D) none) (tCons ta (tCons (tC (.ref c)) tNil))) σ H (.bl b) :=
  ev_cb (ea_cons h (ea_cons ev_c ea_nil)) fun H1 e Q q => ⟨D, rfl, rfl, C, .ref c, .ref c, b, rfl, fun u hu => hu, hk, q H1 (Ex.refl H1)⟩
theorem e_isXT {T : String} (h : Ev ta σ H (.ref a)) (C : ExcC K D) (hk : PySem.W.kitOne K (.ref D) (.type T) = some b) : Ev (tCB (nIsX K a (.ref D) none) (tCons ta (tCons (tC (.ty T)) tNil))) σ H (.bl b) :=
  ev_cb (ea_cons h (ea_cons ev_c ea_nil)) fun H1 e Q q => ⟨D, rfl, rfl, C, .ty T, .type T, b, rfl, fun u hu => hu, hk, q H1 (Ex.refl H1)⟩
theorem kit_same {K : PySem.W.Frag} {v : Value} : PySem.W.kitOne K v v = some true := by
  unfold PySem.W.kitOne
  simp
theorem kit_sub {K : PySem.W.Frag} {D C : Addr} {b : Bool} (hne : (D == C) = false) (h1 : PySem.W.isClsIn K C = true) (h2 : PySem.W.typeIn K (.ref C) = some (.type "type")) (h3 : PySem.W.subIn K (.ref D) (.ref C) = some b) : PySem.W.kitOne K (.ref D) (.ref C) = some b := by
  have e1 : (Value.ref D == Value.ref C) = false := by simpa using hne
  have e2 : ((PySem.W.clsIn K C).isSome && PySem.W.typeIn K (.ref C) == some (.type "type")) = true := by rw [h2]; exact (Bool.and_true _).trans h1
  unfold PySem.W.kitOne PySem.W.kitCls
  simp only [e1, e2, if_true]
  exact h3
theorem kit_val {K : PySem.W.Frag} {D : Addr} {b : Bool} (h : PySem.W.subIn K (.ref D) (.type "ValueError") = some b) : PySem.W.kitOne K (.ref D) (.type "ValueError") = some b := by
  have e1 : (Value.ref D == Value.type "ValueError") = false := rfl
  have e2 : PySem.W.kitMeta "ValueError" = true := by decide +kernel
  unfold PySem.W.kitOne PySem.W.kitCls
  simp only [e1, e2, if_true]
  exact h
end
end Nw

set_option Elab.async false
set_option linter.all false
set_option maxRecDepth 100000
/-! Nw.Kinds: _law_kinds -/
namespace Nw
open PySem L2 Evl
def sp_law_kinds (K : PySem.W.Frag) (CW CC CM CF : Addr) : Addr → Addr → Sp := fun a D vs H Q _ => vs = [.ref a] ∧ ∃ w c m f, KindOf K D CW CC CM CF w c m f ∧ RetL [.bl w, .bl c, .bl m, .bl f] H Q
/- _law_kinds(_law_error): slots 0:_law_error 1:_law_kinds_here -/
def T_law_kinds (K : PySem.W.Frag) (C_BadWord C_BadChange C_BadMost C_Full : Addr) (a D : Addr) : TS :=
 (tSeq (tIfS (tNot (tB (tCB (nIsX K a (.ref D) none) (tCons (tVar 0) (tCons (tC (.ty "ValueError")) tNil)))))
 (tRet (tLst tNil)) tNext)
 (tSeq (tAsg (tLst (tCons (tCB (nIsX K a (.ref D) none) (tCons (tVar 0) (tCons (tC (.ref C_BadWord)) tNil))) (tCons (tCB (nIsX K a (.ref D) none) (tCons (tVar 0) (tCons (tC (.ref C_BadChange)) tNil))) tNil))) (gName 1))
 (tRet (tOp nLcat (tVar 1) (tLst (tCons (tCB (nIsX K a (.ref D) none) (tCons (tVar 0) (tCons (tC (.ref C_BadMost)) tNil))) (tCons (tCB (nIsX K a (.ref D) none) (tCons (tVar 0) (tCons (tC (.ref C_Full)) tNil))) tNil)))))))
def n_law_kinds : Nat := 2
theorem l_law_kinds {K CW CC CM CF a D vs H Q E} (h : sp_law_kinds K CW CC CM CF a D vs H Q E) : vs.length = 1 := by obtain ⟨rfl, _⟩ := h; rfl
section
variable {K : PySem.W.Frag} {vs : List V} {H : Hp} {Q : VK} {E : XK} {CW CC CM CF a D : Addr} {σ : L2.St} {ta tb : TE} {tr : TA}
theorem el_lcat {xs ys : List V} {l : Addr} (ha : Ev ta σ H (.ref l)) (hl : H l = some (.lst xs)) (hb : EvL tb σ H ys) (hz : xs.length + ys.length ≤ 100000) : EvL (tOp nLcat ta tb) σ H (xs ++ ys) := fun H1 e Q q =>
  ha H1 e _ fun H2 e2 => hb H2 (e.trans e2) _ fun p H3 hp e3 h3 => ⟨l, p, xs, ys, rfl, rfl, e3 _ _ (e2 _ _ (e _ _ hl)), h3, line1 hz, fun r hr => q r _ (fresh_back (e2.trans e3) hr) ((e2.trans e3).trans (Ex.new hr)) upd_same⟩
theorem R_law_kinds (h : sp_law_kinds K CW CC CM CF a D vs H Q E) : T_law_kinds K CW CC CM CF a D (fin Q) (slots n_law_kinds vs) H := by
  obtain ⟨rfl, w, c, m, f, hk, k⟩ := h
  show T_law_kinds K CW CC CM CF a D (fin Q) [some (.ref a), none] H
  unfold T_law_kinds
  refine q_when (b := false) (et_not (et_B (b := true) (e_isXT (ev_var rfl) hk.exc hk.val))) (fun hh => by cases hh) (fun _ H1 e1 => ?_)
  refine q_asgL (el_lst (ea_cons (e_isX (ev_var rfl) hk.exc hk.wo) (ea_cons (e_isX (ev_var rfl) hk.exc hk.ch) ea_nil)) (by simp)) fun l H2 hl e2 hl2 => ?_
  exact s_retL (el_lcat (ev_var rfl) hl2 (el_lst (ea_cons (e_isX (ev_var rfl) hk.exc hk.mo) (ea_cons (e_isX (ev_var rfl) hk.exc hk.fu) ea_nil)) (by simp)) (by simp)) fun p H3 hp e3 h3 => k p H3 (fresh_back (e1.trans e2) hp) ((e1.trans e2).trans e3) h3
/-- _law_kinds(e) in the suite -/
theorem el_kinds {w c m f : Bool} (h : Ev ta σ H (.ref a)) (hk : KindOf K D CW CC CM CF w c m f) : EvL (tCallX K (sp_law_kinds K CW CC CM CF) a (.ref D) none (tCons ta tNil)) σ H [.bl w, .bl c, .bl m, .bl f] := fun H1 e Q q =>
  ⟨D, rfl, rfl, ea_cons h ea_nil H1 e (fun vs H2 => sp_law_kinds K CW CC CM CF a D vs H2 Q E0) fun H2 e2 => ⟨rfl, w, c, m, f, hk, fun p H3 hp e3 h3 => q p H3 (fresh_back e2 hp) (e2.trans e3) h3⟩⟩
/-- a list of truth values == another -/
theorem e_eqBls {xs ys : List Bool} (ha : EvL ta σ H (xs.map V.bl)) (hb : EvL tb σ H (ys.map V.bl)) : Ev (tOp (nEqD K) ta tb) σ H (.bl (decide (xs = ys))) := ev_opLL ha hb fun p q H1 hp hq e H2 e2 Q k =>
  n_eq (is_bls (sq_of (e2 _ _ hp))) (is_bls (sq_of (e2 _ _ hq))) (by decide) (k H2 (Ex.refl H2))
end
end Nw

set_option Elab.async false
set_option linter.all false
set_option maxRecDepth 100000
/-! Nw.Fnd: what is found: plain facts -/
namespace Nw
open PySem L2 Evl
theorem fnd_mem {W : List (List Nat)} {w : List Nat} {m : Nat} {p : Nat × List Nat} : p ∈ foundP W w m ↔ p.2 ∈ W ∧ dist w p.2 ≤ m ∧ p.1 = dist w p.2 := by
  unfold foundP
  rw [(srtP_perm _).mem_iff, List.mem_map]
  constructor
  · rintro ⟨t, ht, rfl⟩
    rw [List.mem_filter, decide_eq_true_eq] at ht
    exact ⟨ht.1, ht.2, rfl⟩
  · rintro ⟨h1, h2, h3⟩
    refine ⟨p.2, List.mem_filter.mpr ⟨h1, decide_eq_true h2⟩, ?_⟩
    unfold prOf
    rw [← h3]
theorem fnd_nd2 {W : List (List Nat)} (nd : W.Nodup) (w : List Nat) (m : Nat) : ((foundP W w m).map (·.2)).Nodup := by
  have hp := (srtP_perm ((W.filter fun t => decide (dist w t ≤ m)).map (prOf w))).map (·.2)
  unfold foundP
  rw [hp.nodup_iff, List.map_map]
  have e : ((fun x : Nat × List Nat => x.2) ∘ prOf w) = id := rfl
  rw [e, List.map_id]
  exact nd.sublist List.filter_sublist
theorem nodup_of_map {α β : Type} {f : α → β} {xs : List α} (h : (xs.map f).Nodup) : xs.Nodup := (List.pairwise_map.mp h).imp fun h z => h (by rw [z])
theorem fnd_nd {W : List (List Nat)} (nd : W.Nodup) (w : List Nat) (m : Nat) : (foundP W w m).Nodup := nodup_of_map (fnd_nd2 nd w m)
theorem fnd_pair (W : List (List Nat)) (w : List Nat) (m : Nat) : (foundP W w m).Pairwise fun a b => leP a b = true := srtP_pair _
theorem fnd_len {W : List (List Nat)} (w : List Nat) (m : Nat) : (foundP W w m).length ≤ W.length := by
  unfold foundP
  rw [(srtP_perm _).length_eq, List.length_map]
  exact List.length_filter_le _ _
/-- two searches, two sieves, the same found -/
theorem fnd_ext {W W' : List (List Nat)} {w w' : List Nat} {m m' : Nat} (nd : W.Nodup) (nd' : W'.Nodup) {p q : Nat × List Nat → Bool} (h : ∀ x, (x ∈ foundP W w m ∧ p x = true) ↔ (x ∈ foundP W' w' m' ∧ q x = true)) : (foundP W w m).filter p = (foundP W' w' m').filter q :=
  srtP_uniq ((List.perm_ext_iff_of_nodup ((fnd_nd nd w m).sublist List.filter_sublist) ((fnd_nd nd' w' m').sublist List.filter_sublist)).mpr fun x => by rw [List.mem_filter, List.mem_filter]; exact h x) ((fnd_pair W w m).filter p) ((fnd_pair W' w' m').filter q)
theorem fil_all {α : Type} {p : α → Bool} {xs : List α} (h : ∀ x ∈ xs, p x = true) : xs.filter p = xs := List.filter_eq_self.mpr h
theorem fil_none {α : Type} {p : α → Bool} {xs : List α} (h : ∀ x ∈ xs, p x = false) : xs.filter p = [] := List.filter_eq_nil_iff.mpr fun x hx z => by rw [h x hx] at z; cases z
theorem split_srt (m : Nat) : ∀ {L : List (Nat × List Nat)}, (L.Pairwise fun a b => leP a b = true) → L = L.filter (fun p => decide (p.1 ≤ m)) ++ L.filter (fun p => !decide (p.1 ≤ m))
  | [], _ => rfl
  | a :: L, h => by
    rw [List.pairwise_cons] at h
    by_cases ha : a.1 ≤ m
    · rw [List.filter_cons, if_pos (decide_eq_true ha), List.filter_cons, if_neg (by rw [decide_eq_true ha]; decide), List.cons_append, ← split_srt m h.2]
    · have hb : ∀ b ∈ L, ¬ b.1 ≤ m := fun b hb => by
        rcases leP_iff.mp (h.1 b hb) with h | ⟨h, _⟩ <;> omega
      rw [fil_none (p := fun p : Nat × List Nat => decide (p.1 ≤ m)) (fun x hx => by
        rcases List.mem_cons.mp hx with rfl | hx
        · exact decide_eq_false ha
        · exact decide_eq_false (hb x hx)), fil_all (p := fun p : Nat × List Nat => !decide (p.1 ≤ m)) (fun x hx => by
        rcases List.mem_cons.mp hx with rfl | hx
        · rw [decide_eq_false ha]; rfl
        · rw [decide_eq_false (hb x hx)]; rfl)]
      rfl
/-- a wider search finds the same first, and then what is one farther -/
theorem fnd_wider {W : List (List Nat)} (nd : W.Nodup) (w : List Nat) (m : Nat) : ∃ R, foundP W w (m + 1) = foundP W w m ++ R ∧ ∀ p ∈ R, p.1 = m + 1 := by
  have h := split_srt m (fnd_pair W w (m + 1))
  have e : (foundP W w (m + 1)).filter (fun p => decide (p.1 ≤ m)) = foundP W w m := by
    have := fnd_ext (W := W) (W' := W) (w := w) (w' := w) (m := m + 1) (m' := m) nd nd (p := fun p => decide (p.1 ≤ m)) (q := fun _ => true) fun x => by
      rw [fnd_mem, fnd_mem, decide_eq_true_eq]
      constructor
      · rintro ⟨⟨h1, h2, h3⟩, h4⟩
        exact ⟨⟨h1, by omega, h3⟩, rfl⟩
      · rintro ⟨⟨h1, h2, h3⟩, _⟩
        exact ⟨⟨h1, by omega, h3⟩, by omega⟩
    rw [this]
    exact fil_all fun _ _ => rfl
  rw [e] at h
  refine ⟨_, h, fun p hp => ?_⟩
  obtain ⟨h1, h2⟩ := List.mem_filter.mp hp
  obtain ⟨_, h3, h4⟩ := fnd_mem.mp h1
  have h2 : ¬ p.1 ≤ m := by simpa using h2
  omega
theorem fnd_le {W : List (List Nat)} {w : List Nat} {m : Nat} : ∀ p ∈ foundP W w m, p.1 ≤ m := fun p hp => by
  obtain ⟨_, h3, h4⟩ := fnd_mem.mp hp
  omega
theorem fnd_one (u w : List Nat) (m : Nat) : foundP [u] w m = if dist w u ≤ m then [(dist w u, u)] else [] := by
  unfold foundP
  by_cases h : dist w u ≤ m
  · rw [if_pos h, List.filter_cons, if_pos (decide_eq_true h)]
    exact List.mergeSort_singleton _
  · rw [if_neg h, List.filter_cons, if_neg (by simpa using h)]
    exact List.mergeSort_nil
/-- the same words but u: the same found but u -/
theorem fnd_but {W W' : List (List Nat)} (nd : W.Nodup) (nd' : W'.Nodup) {u : List Nat} (h : ∀ x, x ≠ u → (x ∈ W ↔ x ∈ W')) (w : List Nat) (m : Nat) : (foundP W w m).filter (fun p => !decide (p.2 = u)) = (foundP W' w m).filter (fun p => !decide (p.2 = u)) :=
  fnd_ext nd nd' fun x => by
    rw [fnd_mem, fnd_mem]
    simp only [Bool.not_eq_true', decide_eq_false_iff_not]
    exact ⟨fun ⟨⟨h1, h2⟩, h3⟩ => ⟨⟨(h _ h3).mp h1, h2⟩, h3⟩, fun ⟨⟨h1, h2⟩, h3⟩ => ⟨⟨(h _ h3).mpr h1, h2⟩, h3⟩⟩
/-- of u alone: as a tree of u alone finds -/
theorem fnd_only {W : List (List Nat)} (nd : W.Nodup) (u w : List Nat) (m : Nat) : (foundP W w m).filter (fun p => decide (p.2 = u)) = if u ∈ W then foundP [u] w m else [] := by
  by_cases hu : u ∈ W
  · rw [if_pos hu]
    have := fnd_ext (W := W) (W' := [u]) (w := w) (w' := w) (m := m) (m' := m) nd (by simp) (p := fun p => decide (p.2 = u)) (q := fun _ => true) fun x => by
      rw [fnd_mem, fnd_mem, decide_eq_true_eq, List.mem_singleton]
      exact ⟨fun ⟨⟨_, h2⟩, h3⟩ => ⟨⟨h3, h2⟩, rfl⟩, fun ⟨⟨h1, h2⟩, _⟩ => ⟨⟨by rw [h1]; exact hu, h2⟩, h1⟩⟩
    rw [this]
    exact fil_all fun _ _ => rfl
  · rw [if_neg hu]
    refine fil_none fun x hx => decide_eq_false fun z => hu ?_
    rw [← z]
    exact (fnd_mem.mp hx).1
end Nw

set_option Elab.async false
set_option linter.all false
set_option maxRecDepth 100000
/-! Nw.Prs: lists of pairs (number, text), what holds of them -/
namespace Nw
open PySem L2 Evl
def PairsAt (ps : List (Nat × List Nat)) (v : V) (H : Hp) : Prop := ∃ (p : Addr) (qs : List Pr), v = .ref p ∧ H p = some (.lst (qs.map fun q => .ref q.1)) ∧ (∀ q ∈ qs, AtP H q) ∧ qs.map (·.2) = ps
theorem pairsAt_up (ps : List (Nat × List Nat)) : Up (PairsAt ps) := fun _ _ _ e ⟨p, qs, h1, h2, h3, h4⟩ => ⟨p, qs, h1, e _ _ h2, fun q hq => e _ _ (h3 q hq), h4⟩
def toIS (p : Nat × List Nat) : Int × Str := ((p.1 : Int), ⟨p.2.toArray⟩)
theorem toIS_inj {p q : Nat × List Nat} (h : toIS p = toIS q) : p = q := by
  obtain ⟨i, a⟩ := p
  obtain ⟨j, b⟩ := q
  have h1 : (i : Int) = j := congrArg Prod.fst h
  have h2 : (⟨a.toArray⟩ : Str) = ⟨b.toArray⟩ := congrArg Prod.snd h
  have h3 := congrArg Str.cps h2
  rw [show i = j by omega, show a = b by simpa using h3]
theorem toIS_map : ∀ {a b : List (Nat × List Nat)}, a.map toIS = b.map toIS ↔ a = b
  | a, b => ⟨fun h => List.map_inj_right (fun _ _ => toIS_inj) |>.mp h, fun h => by rw [h]⟩
section
variable {K : PySem.W.Frag} {vs : List V} {H H' : Hp} {Q : VK} {E : XK} {CT CN CB CM CF r : Addr} {A D : List Nat → Addr} {W : List (List Nat)} {σ : L2.St} {ta tb tc te : TE} {tr : TA} {w : List Nat} {Dn : Ends}
theorem is_pairs {ps : List (Nat × List Nat)} {v : V} (h : PairsAt ps v H) : Is K H v (ps.map toIS) := by
  obtain ⟨p, qs, rfl, hp, hat, rfl⟩ := h
  refine .lst (sq_of hp) ?_
  rw [List.map_map]
  clear hp
  induction qs with
  | nil => exact .nil
  | cons q qs ih => exact .cons (hat q List.mem_cons_self).dp (ih fun x hx => hat x (List.mem_cons_of_mem _ hx))
/-- two lists of pairs != -/
theorem e_neP {a b : List (Nat × List Nat)} (ha : EvG ta σ H (PairsAt a)) (hb : EvG tb σ H (PairsAt b)) : Ev (tOp (nNeD K) ta tb) σ H (.bl (!decide (a = b))) := fun H1 e Q q =>
  ha H1 e _ fun x H2 e2 hx => hb H2 (e.trans e2) _ fun y H3 e3 hy => n_ne (is_pairs (pairsAt_up _ _ _ _ e3 hx)) (is_pairs hy) (by decide) (by rw [dec_eq toIS_map]; exact q H3 (e2.trans e3))
theorem e_eqP {a b : List (Nat × List Nat)} (ha : EvG ta σ H (PairsAt a)) (hb : EvG tb σ H (PairsAt b)) : Ev (tOp (nEqD K) ta tb) σ H (.bl (decide (a = b))) := fun H1 e Q q =>
  ha H1 e _ fun x H2 e2 hx => hb H2 (e.trans e2) _ fun y H3 e3 hy => n_eq (is_pairs (pairsAt_up _ _ _ _ e3 hx)) (is_pairs hy) (by decide) (by rw [dec_eq toIS_map]; exact q H3 (e2.trans e3))
end
section
variable {K : PySem.W.Frag} {H H' : Hp} {σ : L2.St} {ta tb tc te : TE}
theorem g_var {ps : List (Nat × List Nat)} {i : Nat} {v : V} (hσ : σ[i]? = some (some v)) (h : PairsAt ps v H) : EvG (tVar i) σ H (PairsAt ps) := g_ev (pairsAt_up ps) (ev_var hσ) h
theorem given_filt2 {α : Type} (d : α) (p : α → Bool) (g : α → V) (xs : List α) : given xs.length (fun i => p (xs.getD i d)) (fun i => g (xs.getD i d)) = (xs.filter p).map g := by
  have e : (List.range xs.length).map (fun i => xs.getD i d) = xs := by
    refine List.ext_getElem (by simp) fun i h1 h2 => ?_
    simp [List.getElem?_eq_getElem h2]
  unfold given
  have e2 := congrArg (fun l => (l.filter p).map g) e
  simp only [List.filter_map, List.map_map] at e2
  exact e2
/-- [pair for pair in xs if ..] -/
theorem g_fil {ps : List (Nat × List Nat)} (f : Nat × List Nat → Bool) {j : Nat} {t : TT} (h : EvG ta σ H (PairsAt ps)) (hz : ps.length ≤ 40000) (hw : ∀ x, wipe ((wipe σ [j]).set j (some x)) [j] = wipe σ [j]) (hj : ∀ x, ((wipe σ [j]).set j (some x))[j]? = some (some x))
    (ht : ∀ (q : Pr) H1, Ex H H1 → q.2 ∈ ps → AtP H1 q → EvT t ((wipe σ [j]).set j (some (.ref q.1))) H1 (f q.2)) : EvG (tLc (iList K ta) (gName j) t (tVar j) [j]) σ H (PairsAt (ps.filter f)) := fun H0 e Q k => h H0 e _ fun v H1 e1 hv => by
  obtain ⟨a, qs, rfl, hx, hat, rfl⟩ := hv
  rw [List.length_map] at hz
  refine ⟨a, rfl, ⟨_, sq_of hx⟩, fun Dl hD => ?_⟩
  refine lc_list (xs := qs.map fun q => .ref q.1) (Cw H1 (fun i => (fun q : Pr => f q.2) (qs.getD i (default, 0, []))) (fun i => (fun q : Pr => V.ref q.1) (qs.getD i (default, 0, []))) Dl) ⟨hD, Ex.new hD, upd_same⟩ (fun i H' _ p => sq_of (p.2.1 a _ hx)) (fun i x H' hi p => ?_) (fun H' p => ?_)
  · rw [List.getElem?_map] at hi
    obtain ⟨q, hq, rfl⟩ := Option.map_eq_some_iff.mp hi
    have hqm := List.mem_of_getElem? hq
    have hlt := (List.getElem?_eq_some_iff.mp hq).1
    refine ⟨hw _, cw_turn p (by omega) ?_ fun _ => ?_⟩
    · rw [List.getD_eq_getElem?_getD, hq]
      exact ht q H1 (e.trans e1) (List.mem_map.mpr ⟨q, hqm, rfl⟩) (hat q hqm)
    · rw [List.getD_eq_getElem?_getD, hq]
      exact ev_var (hj _)
  · have h3 := p.2.2
    rw [List.length_map, given_filt2 (default, 0, []) (fun q : Pr => f q.2) (fun q : Pr => V.ref q.1) qs] at h3
    exact k _ H' (e1.trans p.2.1) ⟨Dl, _, rfl, h3, fun q hq => p.2.1 _ _ (hat q (List.mem_filter.mp hq).1), by rw [List.filter_map]; rfl⟩
end
section
variable {K : PySem.W.Frag} {vs : List V} {H H' : Hp} {Q : VK} {E : XK} {CT CN CB CM CF r : Addr} {A D : List Nat → Addr} {W : List (List Nat)} {σ : L2.St} {ta tb tc te : TE} {tr : TA} {w : List Nat} {Dn : Ends}
theorem g_near {m : Nat} (T : Tree K CT CN r A D W H) (hW : W.length ≤ 1000) (hw : isW w = true) (hm : m ≤ 24) (ha : Ev ta σ H (.ref r)) (hb : Ev tb σ H (tx w)) (hc : Ev tc σ H (.int (m : Int))) : EvG (tCall (sp_near K CT CN CB CM) [] E (tCons ta (tCons tb (tCons tc tNil)))) σ H (NearV H W w m) :=
  g_call (ea_cons ha (ea_cons hb (ea_cons hc ea_nil))) fun H1 e Q q E => ⟨r, _, _, A, D, W, rfl, T.up e, hW, .inl ⟨w, rfl, by have := isW_le hw; omega⟩, .inr odd_int, fun w' m' e1 _ e2 _ => by
    rw [← tx_inj.mp e1]
    have em : m' = m := by
      have := V.int.inj e2
      omega
    rw [em]
    exact fun v H2 e2 hv => q v H2 e2 (by
      obtain ⟨p, es, h1, h2, h3, h4, h5⟩ := hv
      exact ⟨p, es, h1, fresh_back e h2, h3, fun e' he => ⟨(h4 e' he).1, fresh_back e (h4 e' he).2⟩, h5⟩), fun hn => absurd ⟨w, rfl, hw⟩ hn, fun _ hn => absurd ⟨m, rfl, hm⟩ hn⟩
end
end Nw

set_option Elab.async false
set_option linter.all false
set_option maxRecDepth 100000
/-! Nw.Eqd: a thing in a list or tuple of any things -/
namespace Nw
open PySem L2 Evl PyProof.Rows PySem.SeqAt PySem.MeetsSeq
set_option maxHeartbeats 1000000
section
variable (l b : Addr) (o o2 : Obj) (i : Int) (u : Tok) (k : Bool) (items : Array Value) (n : Nat) (dd dd2 : Option Addr) (sl sl2 : Array (Option Value)) (es : Array DictEntry) (ep : Nat) (c : Value)
/-! ### a dict's == with what is no dict, and the other way -/
theorem dq_int : Meets (Builtin.«dict.__eq__» ⟨[.ref l, .int i u], []⟩) (fun _ R s => s.heap.get? l = some o ∧ R (.ok (.ret .notImplemented)) s) :=
  .of_wp fun prog w A R s h => by obtain ⟨hp, g, d, tk, os⟩ := s; obtain ⟨hl, h⟩ := h; have f1 : isSubtype (.type "int") (.type "dict") = pure false := (by rw [isSubtype_type]; kernel_rfl); wp_walk; exact ⟨_, rfl, h⟩
theorem dq_bool : Meets (Builtin.«dict.__eq__» ⟨[.ref l, .bool k], []⟩) (fun _ R s => s.heap.get? l = some o ∧ R (.ok (.ret .notImplemented)) s) :=
  .of_wp fun prog w A R s h => by obtain ⟨hp, g, d, tk, os⟩ := s; obtain ⟨hl, h⟩ := h; have f1 : isSubtype (.type "bool") (.type "dict") = pure false := (by rw [isSubtype_type]; kernel_rfl); wp_walk; exact ⟨_, rfl, h⟩
theorem dq_none : Meets (Builtin.«dict.__eq__» ⟨[.ref l, .none], []⟩) (fun _ R s => s.heap.get? l = some o ∧ R (.ok (.ret .notImplemented)) s) :=
  .of_wp fun prog w A R s h => by obtain ⟨hp, g, d, tk, os⟩ := s; obtain ⟨hl, h⟩ := h; have f1 : isSubtype (.type "NoneType") (.type "dict") = pure false := (by rw [isSubtype_type]; kernel_rfl); wp_walk; exact ⟨_, rfl, h⟩
theorem dq_list : Meets (Builtin.«dict.__eq__» ⟨[.ref l, .ref b], []⟩) (fun _ R s => s.heap.get? l = some o ∧ s.heap.get? b = some { cls := .type "list", dict := dd2, data := .seq items n, slots := sl2 } ∧ R (.ok (.ret .notImplemented)) s) :=
  .of_wp fun prog w A R s h => by obtain ⟨hp, g, d, tk, os⟩ := s; obtain ⟨hl, hb, h⟩ := h; have f1 := F.sub_list_dict; wp_walk using AutoSeq1.wpAny_loadPart' hb, wpAny_load hb; exact ⟨_, rfl, h⟩
theorem dq_tuple : Meets (Builtin.«dict.__eq__» ⟨[.ref l, .ref b], []⟩) (fun _ R s => s.heap.get? l = some o ∧ s.heap.get? b = some { cls := .type "tuple", dict := dd2, data := .seq items n, slots := sl2 } ∧ R (.ok (.ret .notImplemented)) s) :=
  .of_wp fun prog w A R s h => by obtain ⟨hp, g, d, tk, os⟩ := s; obtain ⟨hl, hb, h⟩ := h; have f1 := F.sub_tuple_dict; wp_walk using AutoSeq1.wpAny_loadPart' hb, wpAny_load hb; exact ⟨_, rfl, h⟩
theorem iq_dict : Meets (Builtin.«int.__eq__» ⟨[.int i u, .ref l], []⟩) (fun _ R s => s.heap.get? l = some { cls := c, dict := dd, data := .dict es ep, slots := sl } ∧ R (.ok (.ret .notImplemented)) s) :=
  .of_wp fun prog w A R s h => by obtain ⟨hp, g, d, tk, os⟩ := s; obtain ⟨hl, h⟩ := h; wp_walk using AutoSeq1.wpAny_loadPart' hl, wpAny_load hl; exact ⟨_, rfl, h⟩
theorem bq_dict : Meets (Builtin.«int.__eq__» ⟨[.bool k, .ref l], []⟩) (fun _ R s => s.heap.get? l = some { cls := c, dict := dd, data := .dict es ep, slots := sl } ∧ R (.ok (.ret .notImplemented)) s) :=
  .of_wp fun prog w A R s h => by obtain ⟨hp, g, d, tk, os⟩ := s; obtain ⟨hl, h⟩ := h; wp_walk using AutoSeq1.wpAny_loadPart' hl, wpAny_load hl; exact ⟨_, rfl, h⟩
theorem lq_dict : Meets (Builtin.«list.__eq__» ⟨[.ref l, .ref b], []⟩) (fun _ R s => s.heap.get? l = some { cls := .type "list", dict := dd, data := .seq items n, slots := sl } ∧ s.heap.get? b = some { cls := .type "dict", dict := dd2, data := .dict es ep, slots := sl2 } ∧ R (.ok (.ret .notImplemented)) s) :=
  .of_wp fun prog w A R s h => by obtain ⟨hp, g, d, tk, os⟩ := s; obtain ⟨hl, hb, h⟩ := h; have f1 : isSubtype (.type "dict") (.type "list") = pure false := (by rw [isSubtype_type]; kernel_rfl); wp_walk using AutoSeq1.wpAny_loadPart' hl, AutoSeq1.wpAny_loadPart' hb; exact ⟨_, rfl, h⟩
theorem tq_dict : Meets (Builtin.«tuple.__eq__» ⟨[.ref l, .ref b], []⟩) (fun _ R s => s.heap.get? l = some { cls := .type "tuple", dict := dd, data := .seq items n, slots := sl } ∧ s.heap.get? b = some { cls := .type "dict", dict := dd2, data := .dict es ep, slots := sl2 } ∧ R (.ok (.ret .notImplemented)) s) :=
  .of_wp fun prog w A R s h => by obtain ⟨hp, g, d, tk, os⟩ := s; obtain ⟨hl, hb, h⟩ := h; have f1 : isSubtype (.type "dict") (.type "tuple") = pure false := (by rw [isSubtype_type]; kernel_rfl); wp_walk using AutoSeq1.wpAny_loadPart' hl, AutoSeq1.wpAny_loadPart' hb; exact ⟨_, rfl, h⟩
end
end Nw

set_option Elab.async false
set_option linter.all false
set_option maxRecDepth 100000
/-! Nw.Inx: x in xs, of any things -/
namespace Nw
open PySem L2 Evl PyProof.Rows PySem.SeqAt PySem.MeetsSeq
section
variable {A : Around} {s : Shared} {l b : Addr} {items : Array Value}
abbrev IsDic (s : Shared) (l : Addr) : Prop := ∃ o es ep, s.heap.get? l = some o ∧ o.cls = .type "dict" ∧ o.data = .dict es ep
theorem eqAt_rl {u : Value} {k : Bool} (hne : (Value.ref l == u) = false) (h : RcAt A s (.ref l) u k) : EqAt A s (.ref l) u k := fun prog w E Q hq => by
  unfold eqBool
  exact wpAny_holding (wpAny_ite_split (fun hab => absurd hab (by rw [hne]; decide)) fun _ => wpAny_bind (h prog w E _ (wpAny_truthy_bool hq)))
theorem eqAt_lr {v : Value} {k : Bool} (hne : (v == Value.ref l) = false) (h : RcAt A s v (.ref l) k) : EqAt A s v (.ref l) k := fun prog w E Q hq => by
  unfold eqBool
  cases v <;> exact wpAny_holding (wpAny_ite_split (fun hab => absurd hab (by rw [hne]; decide)) fun _ => wpAny_bind (h prog w E _ (wpAny_truthy_bool hq)))
theorem sub_dt : isSubtype (.type "dict") (.type "tuple") = pure false := by rw [isSubtype_type]; kernel_rfl
theorem sub_dl : isSubtype (.type "dict") (.type "list") = pure false := by rw [isSubtype_type]; kernel_rfl
theorem sub_id : isSubtype (.type "int") (.type "dict") = pure false := by rw [isSubtype_type]; kernel_rfl
theorem sub_bd : isSubtype (.type "bool") (.type "dict") = pure false := by rw [isSubtype_type]; kernel_rfl
theorem sub_nd : isSubtype (.type "NoneType") (.type "dict") = pure false := by rw [isSubtype_type]; kernel_rfl
theorem ea_dict_int (hd : IsDic s l) (hu : A.units < cLine) (i : Int) (u : Tok) : EqAt A s (.ref l) (.int i u) false := eqAt_rl rfl fun prog w E Q h => by
  obtain ⟨⟨oc, od, oda, osl⟩, es, ep, ho, hc, hda⟩ := hd
  dsimp only at hc hda
  subst hc hda
  exact rc_eq_decline_or (k := false) ⟨_, ho, rfl⟩ (typeIs_int s i u) (by decide) sub_id F.slot_dict_eq F.slot_int_eq_refl
    (fun _ hq => call_meets F.slot_dict_eq ⟨_, ho, rfl⟩ F.entry_dict_eq (F.args_dict_eq_2 _ _) (dq_int l _ i u) ⟨ho, hq⟩) (fun _ hq => call_meets F.slot_int_eq_refl (typeIs_int s i u) F.entry_int_eq (F.args_int_eq_2 _ _) (iq_dict l i u _ _ _ _ _) ⟨ho, hq⟩)
    (fun _ hq => wpAny_of_eq (rfl : isSame (.ref l) (.int i u) = pure false) hq) (.inr hu) h
theorem ea_int_dict (hd : IsDic s l) (hu : A.units < cLine) (i : Int) (u : Tok) : EqAt A s (.int i u) (.ref l) false := eqAt_lr rfl fun prog w E Q h => by
  obtain ⟨⟨oc, od, oda, osl⟩, es, ep, ho, hc, hda⟩ := hd
  dsimp only at hc hda
  subst hc hda
  exact rc_eq_decline_or (k := false) (typeIs_int s i u) ⟨_, ho, rfl⟩ (by decide) F.sub_dict_int F.slot_int_eq F.slot_dict_eq_refl
    (fun _ hq => call_meets F.slot_int_eq (typeIs_int s i u) F.entry_int_eq (F.args_int_eq_2 _ _) (iq_dict l i u _ _ _ _ _) ⟨ho, hq⟩) (fun _ hq => call_meets F.slot_dict_eq_refl ⟨_, ho, rfl⟩ F.entry_dict_eq (F.args_dict_eq_2 _ _) (dq_int l _ i u) ⟨ho, hq⟩)
    (fun _ hq => wpAny_of_eq (rfl : isSame (.int i u) (.ref l) = pure false) hq) (.inr hu) h
theorem ea_dict_bool (hd : IsDic s l) (hu : A.units < cLine) (k : Bool) : EqAt A s (.ref l) (.bool k) false := eqAt_rl rfl fun prog w E Q h => by
  obtain ⟨⟨oc, od, oda, osl⟩, es, ep, ho, hc, hda⟩ := hd
  dsimp only at hc hda
  subst hc hda
  exact rc_eq_decline_or (k := false) ⟨_, ho, rfl⟩ rfl (by decide) sub_bd F.slot_dict_eq F.slot_bool_eq_refl
    (fun _ hq => call_meets F.slot_dict_eq ⟨_, ho, rfl⟩ F.entry_dict_eq (F.args_dict_eq_2 _ _) (dq_bool l _ k) ⟨ho, hq⟩) (fun _ hq => call_meets F.slot_bool_eq_refl rfl F.entry_int_eq (F.args_int_eq_2 _ _) (bq_dict l k _ _ _ _ _) ⟨ho, hq⟩)
    (fun _ hq => wpAny_of_eq (rfl : isSame (.ref l) (.bool k) = pure false) hq) (.inr hu) h
theorem ea_bool_dict (hd : IsDic s l) (hu : A.units < cLine) (k : Bool) : EqAt A s (.bool k) (.ref l) false := eqAt_lr rfl fun prog w E Q h => by
  obtain ⟨⟨oc, od, oda, osl⟩, es, ep, ho, hc, hda⟩ := hd
  dsimp only at hc hda
  subst hc hda
  exact rc_eq_decline_or (k := false) rfl ⟨_, ho, rfl⟩ (by decide) F.sub_dict_bool F.slot_bool_eq F.slot_dict_eq_refl
    (fun _ hq => call_meets F.slot_bool_eq rfl F.entry_int_eq (F.args_int_eq_2 _ _) (bq_dict l k _ _ _ _ _) ⟨ho, hq⟩) (fun _ hq => call_meets F.slot_dict_eq_refl ⟨_, ho, rfl⟩ F.entry_dict_eq (F.args_dict_eq_2 _ _) (dq_bool l _ k) ⟨ho, hq⟩)
    (fun _ hq => wpAny_of_eq (rfl : isSame (.bool k) (.ref l) = pure false) hq) (.inr hu) h
theorem ea_dict_none (hd : IsDic s l) (hu : A.units < cLine) : EqAt A s (.ref l) .none false := eqAt_rl rfl fun prog w E Q h => by
  obtain ⟨⟨oc, od, oda, osl⟩, es, ep, ho, hc, hda⟩ := hd
  dsimp only at hc hda
  subst hc hda
  exact rc_eq_decline_or (k := false) ⟨_, ho, rfl⟩ rfl (by decide) sub_nd F.slot_dict_eq F.slot_NoneType_eq_refl
    (fun _ hq => call_meets F.slot_dict_eq ⟨_, ho, rfl⟩ F.entry_dict_eq (F.args_dict_eq_2 _ _) (dq_none l _) ⟨ho, hq⟩) (fun _ hq => call_gives F.slot_NoneType_eq_refl rfl F.entry_NoneType_eq (F.args_NoneType_eq_2 _ _) (NoneType___eq___none_ref_0 l) hq)
    (fun _ hq => wpAny_of_eq (rfl : isSame (.ref l) .none = pure false) hq) (.inr hu) h
theorem ea_none_dict (hd : IsDic s l) (hu : A.units < cLine) : EqAt A s .none (.ref l) false := eqAt_lr rfl fun prog w E Q h => by
  obtain ⟨⟨oc, od, oda, osl⟩, es, ep, ho, hc, hda⟩ := hd
  dsimp only at hc hda
  subst hc hda
  exact rc_eq_decline_or (k := false) rfl ⟨_, ho, rfl⟩ (by decide) F.sub_dict_NoneType F.slot_NoneType_eq F.slot_dict_eq_refl
    (fun _ hq => call_gives F.slot_NoneType_eq rfl F.entry_NoneType_eq (F.args_NoneType_eq_2 _ _) (NoneType___eq___none_ref_0 l) hq) (fun _ hq => call_meets F.slot_dict_eq_refl ⟨_, ho, rfl⟩ F.entry_dict_eq (F.args_dict_eq_2 _ _) (dq_none l _) ⟨ho, hq⟩)
    (fun _ hq => wpAny_of_eq (rfl : isSame .none (.ref l) = pure false) hq) (.inr hu) h
theorem ea_dict_str (hd : IsDic s l) (hu : A.units < cLine) (x : Str) (u : Tok) : EqAt A s (.ref l) (.str x u) false := eqAt_rl rfl (by
  obtain ⟨o, es, ep, ho, hc, hda⟩ := hd
  exact rc_ds x u ho hc hda hu)
theorem ea_str_dict (hd : IsDic s l) (hu : A.units < cLine) (x : Str) (u : Tok) : EqAt A s (.str x u) (.ref l) false := eqAt_lr rfl fun prog w E Q h => by
  obtain ⟨⟨oc, od, oda, osl⟩, es, ep, ho, hc, hda⟩ := hd
  dsimp only at hc hda
  subst hc hda
  exact rc_eq_decline_or (k := false) (typeIs_str s x u) ⟨_, ho, rfl⟩ (by decide) F.sub_dict_str F.slot_str_eq F.slot_dict_eq_refl
    (fun _ hq => call_meets F.slot_str_eq (typeIs_str s x u) F.entry_str_eq (F.args_str_eq_2 _ _) (s_eq_d x u l _ _ _ _ _) ⟨ho, hq⟩) (fun _ hq => call_meets F.slot_dict_eq_refl ⟨_, ho, rfl⟩ F.entry_dict_eq (F.args_dict_eq_2 _ _) (d_eq_s l _ x u) ⟨ho, hq⟩)
    (fun _ hq => wpAny_of_eq (rfl : isSame (.str x u) (.ref l) = pure false) hq) (.inr hu) h
theorem ne_dic_list (hd : IsDic s l) (hb : s.heap.IsList b items) : l ≠ b := fun e => by
  subst e
  obtain ⟨o, es, ep, ho, hc, _⟩ := hd
  obtain ⟨o2, ho2, hc2, _⟩ := hb
  rw [ho] at ho2
  rw [← Option.some.inj ho2, hc] at hc2
  exact absurd hc2 (by simp)
theorem ne_dic_tup (hd : IsDic s l) (hb : s.heap.IsTuple b items) : l ≠ b := fun e => by
  subst e
  obtain ⟨o, es, ep, ho, hc, _⟩ := hd
  obtain ⟨o2, ho2, hc2, _⟩ := hb
  rw [ho] at ho2
  rw [← Option.some.inj ho2, hc] at hc2
  exact absurd hc2 (by simp)
theorem ea_dict_list (hd : IsDic s l) (hb : s.heap.IsList b items) (hu : A.units < cLine) : EqAt A s (.ref l) (.ref b) false := .of_refs (ne_dic_list hd hb) fun prog w E Q h => by
  have hne := ne_dic_list hd hb
  obtain ⟨⟨oc, od, oda, osl⟩, es, ep, ho, hc, hda⟩ := hd
  obtain ⟨⟨bc, bd, bda, bsl⟩, ho2, hc2, n2, hd2⟩ := hb
  dsimp only at hc hda hc2 hd2
  subst hc hda hc2 hd2
  exact rc_eq_decline_or (k := false) ⟨_, ho, rfl⟩ ⟨_, ho2, rfl⟩ (by decide) F.sub_list_dict F.slot_dict_eq F.slot_list_eq_refl
    (fun _ hq => call_meets F.slot_dict_eq ⟨_, ho, rfl⟩ F.entry_dict_eq (F.args_dict_eq_2 _ _) (dq_list l b _ _ _ _ _) ⟨ho, ho2, hq⟩) (fun _ hq => call_meets F.slot_list_eq_refl ⟨_, ho2, rfl⟩ F.entry_list_eq (F.args_list_eq_2 _ _) (lq_dict b l _ _ _ _ _ _ _ _) ⟨ho2, ho, hq⟩)
    (fun _ hq => wpAny_isSame_ref_other hne ho ho2 (by simp) hq) (.inr hu) h
theorem ea_list_dict (hd : IsDic s l) (hb : s.heap.IsList b items) (hu : A.units < cLine) : EqAt A s (.ref b) (.ref l) false := .of_refs (ne_dic_list hd hb).symm fun prog w E Q h => by
  have hne := (ne_dic_list hd hb).symm
  obtain ⟨⟨oc, od, oda, osl⟩, es, ep, ho, hc, hda⟩ := hd
  obtain ⟨⟨bc, bd, bda, bsl⟩, ho2, hc2, n2, hd2⟩ := hb
  dsimp only at hc hda hc2 hd2
  subst hc hda hc2 hd2
  exact rc_eq_decline_or (k := false) ⟨_, ho2, rfl⟩ ⟨_, ho, rfl⟩ (by decide) sub_dl F.slot_list_eq F.slot_dict_eq_refl
    (fun _ hq => call_meets F.slot_list_eq ⟨_, ho2, rfl⟩ F.entry_list_eq (F.args_list_eq_2 _ _) (lq_dict b l _ _ _ _ _ _ _ _) ⟨ho2, ho, hq⟩) (fun _ hq => call_meets F.slot_dict_eq_refl ⟨_, ho, rfl⟩ F.entry_dict_eq (F.args_dict_eq_2 _ _) (dq_list l b _ _ _ _ _) ⟨ho, ho2, hq⟩)
    (fun _ hq => wpAny_isSame_ref_other hne ho2 ho (by simp) hq) (.inr hu) h
theorem ea_dict_tup (hd : IsDic s l) (hb : s.heap.IsTuple b items) (hu : A.units < cLine) : EqAt A s (.ref l) (.ref b) false := .of_refs (ne_dic_tup hd hb) fun prog w E Q h => by
  have hne := ne_dic_tup hd hb
  obtain ⟨⟨oc, od, oda, osl⟩, es, ep, ho, hc, hda⟩ := hd
  obtain ⟨⟨bc, bd, bda, bsl⟩, ho2, hc2, n2, hd2⟩ := hb
  dsimp only at hc hda hc2 hd2
  subst hc hda hc2 hd2
  exact rc_eq_decline_or (k := false) ⟨_, ho, rfl⟩ ⟨_, ho2, rfl⟩ (by decide) F.sub_tuple_dict F.slot_dict_eq F.slot_tuple_eq_refl
    (fun _ hq => call_meets F.slot_dict_eq ⟨_, ho, rfl⟩ F.entry_dict_eq (F.args_dict_eq_2 _ _) (dq_tuple l b _ _ _ _ _) ⟨ho, ho2, hq⟩) (fun _ hq => call_meets F.slot_tuple_eq_refl ⟨_, ho2, rfl⟩ F.entry_tuple_eq (F.args_tuple_eq_2 _ _) (tq_dict b l _ _ _ _ _ _ _ _) ⟨ho2, ho, hq⟩)
    (fun _ hq => wpAny_isSame_ref_other hne ho ho2 (by simp) hq) (.inr hu) h
theorem ea_tup_dict (hd : IsDic s l) (hb : s.heap.IsTuple b items) (hu : A.units < cLine) : EqAt A s (.ref b) (.ref l) false := .of_refs (ne_dic_tup hd hb).symm fun prog w E Q h => by
  have hne := (ne_dic_tup hd hb).symm
  obtain ⟨⟨oc, od, oda, osl⟩, es, ep, ho, hc, hda⟩ := hd
  obtain ⟨⟨bc, bd, bda, bsl⟩, ho2, hc2, n2, hd2⟩ := hb
  dsimp only at hc hda hc2 hd2
  subst hc hda hc2 hd2
  exact rc_eq_decline_or (k := false) ⟨_, ho2, rfl⟩ ⟨_, ho, rfl⟩ (by decide) sub_dt F.slot_tuple_eq F.slot_dict_eq_refl
    (fun _ hq => call_meets F.slot_tuple_eq ⟨_, ho2, rfl⟩ F.entry_tuple_eq (F.args_tuple_eq_2 _ _) (tq_dict b l _ _ _ _ _ _ _ _) ⟨ho2, ho, hq⟩) (fun _ hq => call_meets F.slot_dict_eq_refl ⟨_, ho, rfl⟩ F.entry_dict_eq (F.args_dict_eq_2 _ _) (dq_tuple l b _ _ _ _ _) ⟨ho, ho2, hq⟩)
    (fun _ hq => wpAny_isSame_ref_other' hne ho2 ho (by simp) hq) (.inr hu) h
end
/-! ### what == tells of two things -/
/-- the kinds of things: 0 flat, 1 list, 2 tuple, 3 dict -/
def OfK (H : Hp) (v : V) : Nat → Prop
  | 0 => flatV v = true
  | 1 => ∃ p xs, v = .ref p ∧ H p = some (.lst xs)
  | 2 => ∃ p xs, v = .ref p ∧ H p = some (.tup xs)
  | 3 => ∃ p kvs, v = .ref p ∧ H p = some (.dK kvs)
  | _ => False
/-- y == x is b -/
def EqX (H : Hp) (y x : V) (b : Bool) : Prop := (flatV y = true ∧ flatV x = true ∧ b = eqV y x) ∨ (∃ p, y = .ref p ∧ x = .ref p ∧ b = true) ∨ ∃ i j, OfK H y i ∧ OfK H x j ∧ i ≠ j ∧ b = false
theorem eqX_at {X : Cx} {pins : List (Addr × Obj)} {σ : L2.St} {H : Hp} {s : Shared} {A : Around} {y x : V} {u v : Value} {b : Bool} (I : Inv X pins σ H s) (hu : A.units < cLine) (ry : RelV y u) (rx : RelV x v) (h : EqX H y x b) : EqAt A s u v b := by
  rcases h with ⟨fy, fx, rfl⟩ | ⟨p, rfl, rfl, rfl⟩ | ⟨i, j, hi, hj, hne, rfl⟩
  · exact eqAt_V ry rx fy fx
  · cases ry
    cases rx
    exact EqAt.same _
  · have L : ∀ {p xs}, H p = some (HO.lst xs) → ∃ items, s.heap.IsList p items := fun {p xs} h => by
      obtain ⟨its, _, pl, _⟩ := I.list (sq_of h)
      exact ⟨_, pl.isList⟩
    have T : ∀ {p xs}, H p = some (HO.tup xs) → ∃ items, s.heap.IsTuple p items := fun {p xs} h => by
      obtain ⟨its, _, pl, _⟩ := I.tuple (SqT.of h)
      exact ⟨_, pl⟩
    have D : ∀ {p kvs}, H p = some (HO.dK kvs) → IsDic s p := fun {p kvs} h => by
      obtain ⟨_, _, vs, _, o, es, ep, h1, h2, h3, _⟩ := (show ObjOk X.prog X.w H s.heap p (.dK kvs) from I.hok p _ h)
      exact ⟨o, es, ep, h1, h2.1, h3⟩
    have fl : ∀ {z : V} {w : Value}, RelV z w → flatV z = true → w = .none ∨ (∃ k, w = .bool k) ∨ (∃ i t, w = .int i t) ∨ ∃ x t, w = .str x t := fun {z w} r f => by
      cases z with
      | non => cases r; exact .inl rfl
      | bl k => cases r; exact .inr (.inl ⟨k, rfl⟩)
      | int i => obtain ⟨t, rfl⟩ := r; exact .inr (.inr (.inl ⟨i, t, rfl⟩))
      | str x => obtain ⟨t, rfl⟩ := r; exact .inr (.inr (.inr ⟨x, t, rfl⟩))
      | _ => cases f
    match i, j, hi, hj with
    | 0, 0, _, _ => exact absurd rfl hne
    | 1, 1, _, _ => exact absurd rfl hne
    | 2, 2, _, _ => exact absurd rfl hne
    | 3, 3, _, _ => exact absurd rfl hne
    | 0, 1, hi, ⟨p, xs, e, h⟩ =>
      subst e
      cases rx
      obtain ⟨items, hl⟩ := L h
      rcases fl ry hi with rfl | ⟨k, rfl⟩ | ⟨i, t, rfl⟩ | ⟨x, t, rfl⟩
      · exact EqAt.none_list hl hu
      · exact EqAt.bool_list k hl hu
      · exact EqAt.int_list i t hl hu
      · exact EqAt.str_list x t hl hu
    | 0, 2, hi, ⟨p, xs, e, h⟩ =>
      subst e
      cases rx
      obtain ⟨items, hl⟩ := T h
      rcases fl ry hi with rfl | ⟨k, rfl⟩ | ⟨i, t, rfl⟩ | ⟨x, t, rfl⟩
      · exact EqAt.none_tuple hl hu
      · exact EqAt.bool_tuple k hl hu
      · exact EqAt.int_tuple i t hl hu
      · exact EqAt.str_tuple x t hl hu
    | 0, 3, hi, ⟨p, xs, e, h⟩ =>
      subst e
      cases rx
      rcases fl ry hi with rfl | ⟨k, rfl⟩ | ⟨i, t, rfl⟩ | ⟨x, t, rfl⟩
      · exact ea_none_dict (D h) hu
      · exact ea_bool_dict (D h) hu k
      · exact ea_int_dict (D h) hu i t
      · exact ea_str_dict (D h) hu x t
    | 1, 0, ⟨p, xs, e, h⟩, hj =>
      subst e
      cases ry
      obtain ⟨items, hl⟩ := L h
      rcases fl rx hj with rfl | ⟨k, rfl⟩ | ⟨i, t, rfl⟩ | ⟨x, t, rfl⟩
      · exact EqAt.list_none hl hu
      · exact EqAt.list_bool k hl hu
      · exact EqAt.list_int i t hl hu
      · exact EqAt.list_str x t hl hu
    | 2, 0, ⟨p, xs, e, h⟩, hj =>
      subst e
      cases ry
      obtain ⟨items, hl⟩ := T h
      rcases fl rx hj with rfl | ⟨k, rfl⟩ | ⟨i, t, rfl⟩ | ⟨x, t, rfl⟩
      · exact EqAt.tuple_none hl hu
      · exact EqAt.tuple_bool k hl hu
      · exact EqAt.tuple_int i t hl hu
      · exact EqAt.tuple_str x t hl hu
    | 3, 0, ⟨p, xs, e, h⟩, hj =>
      subst e
      cases ry
      rcases fl rx hj with rfl | ⟨k, rfl⟩ | ⟨i, t, rfl⟩ | ⟨x, t, rfl⟩
      · exact ea_dict_none (D h) hu
      · exact ea_dict_bool (D h) hu k
      · exact ea_dict_int (D h) hu i t
      · exact ea_dict_str (D h) hu x t
    | 1, 2, ⟨p, xs, e, h⟩, ⟨q, ys, e', h'⟩ =>
      subst e e'
      cases ry
      cases rx
      obtain ⟨_, hl⟩ := L h
      obtain ⟨_, ht⟩ := T h'
      exact EqAt.list_tuple hl ht hu
    | 2, 1, ⟨p, xs, e, h⟩, ⟨q, ys, e', h'⟩ =>
      subst e e'
      cases ry
      cases rx
      obtain ⟨_, hl⟩ := L h'
      obtain ⟨_, ht⟩ := T h
      exact EqAt.tuple_list ht hl hu
    | 1, 3, ⟨p, xs, e, h⟩, ⟨q, ys, e', h'⟩ =>
      subst e e'
      cases ry
      cases rx
      obtain ⟨_, hl⟩ := L h
      exact ea_list_dict (D h') hl hu
    | 3, 1, ⟨p, xs, e, h⟩, ⟨q, ys, e', h'⟩ =>
      subst e e'
      cases ry
      cases rx
      obtain ⟨_, hl⟩ := L h'
      exact ea_dict_list (D h) hl hu
    | 2, 3, ⟨p, xs, e, h⟩, ⟨q, ys, e', h'⟩ =>
      subst e e'
      cases ry
      cases rx
      obtain ⟨_, hl⟩ := T h
      exact ea_tup_dict (D h') hl hu
    | 3, 2, ⟨p, xs, e, h⟩, ⟨q, ys, e', h'⟩ =>
      subst e e'
      cases ry
      cases rx
      obtain ⟨_, hl⟩ := T h'
      exact ea_dict_tup (D h) hl hu
    | i + 4, _, hi, _ => exact hi.elim
    | 0, j + 4, _, hj => exact hj.elim
    | 1, j + 4, _, hj => exact hj.elim
    | 2, j + 4, _, hj => exact hj.elim
    | 3, j + 4, _, hj => exact hj.elim
/-- x in xs -/
def nInX (K : PySem.W.Frag) : R2 := fun x y H Q => ∃ (p : Addr) (xs : List V) (e : V → Bool), y = .ref p ∧ (SqL K H p xs ∨ SqT K H p xs) ∧ (∀ z ∈ xs, EqX H z x (e z)) ∧ Q (.bl (xs.any e)) H
theorem vals_each {R : V → Value → Prop} : ∀ {xs : List V} {us : List Value}, Vals xs us → (∀ z u, z ∈ xs → RelV z u → R z u) → ∀ u ∈ us, ∃ z ∈ xs, RelV z u ∧ R z u
  | _, _, .nil, _ => fun u hu => by cases hu
  | z :: xs, w :: us, .cons r t, k => fun u hu => by
    rcases List.mem_cons.mp hu with rfl | hu
    · exact ⟨z, List.mem_cons_self, r, k z _ List.mem_cons_self r⟩
    · obtain ⟨y, hy, h⟩ := vals_each (R := R) t (fun z u hz => k z u (List.mem_cons_of_mem _ hz)) u hu
      exact ⟨y, List.mem_cons_of_mem _ hy, h⟩
theorem vals_back : ∀ {xs : List V} {us : List Value}, Vals xs us → ∀ z ∈ xs, ∃ u ∈ us, RelV z u
  | _, _, .nil => fun z hz => by cases hz
  | y :: xs, w :: us, .cons r t => fun z hz => by
    rcases List.mem_cons.mp hz with rfl | hz
    · exact ⟨w, List.mem_cons_self, r⟩
    · obtain ⟨u, hu, h⟩ := vals_back t z hz
      exact ⟨u, List.mem_cons_of_mem _ hu, h⟩
open Classical in
theorem o_inX {X : Cx} (hu : X.A.units + 64 < cLine) : OpR X (compareOp .In) (nInX X.K) := by
  intro pins s σ H x y v u Q I rx ry h
  obtain ⟨p, xs, e, rfl, hq, he, q⟩ := h
  cases ry
  have hu1 : X.A.in1.units < cLine := by show X.A.units + 1 < cLine; omega
  let eU : Value → Bool := fun w => decide (∃ z ∈ xs, RelV z w ∧ e z = true)
  have at_ : ∀ {us : List Value}, Vals xs us → ∀ w ∈ us, EqAt X.A.in1 s w v (eU w) := fun {us} r w hw => by
    obtain ⟨z, hz, rz, hE⟩ := vals_each (R := fun z w => EqAt X.A.in1 s w v (e z)) r (fun z u hz rz => eqX_at I hu1 rz rx (he z hz)) w hw
    by_cases h : ∃ z ∈ xs, RelV z w ∧ e z = true
    · obtain ⟨z', hz', rz', ez'⟩ := id h
      have := eqX_at I hu1 rz' rx (he z' hz')
      rw [ez'] at this
      show EqAt X.A.in1 s w v (decide _)
      rw [decide_eq_true h]
      exact this
    · have ez : e z = false := by
        cases hz' : e z with
        | false => rfl
        | true => exact absurd ⟨z, hz, rz, hz'⟩ h
      rw [ez] at hE
      show EqAt X.A.in1 s w v (decide _)
      rw [decide_eq_false h]
      exact hE
  have any_ : ∀ {us : List Value}, Vals xs us → us.any eU = xs.any e := fun {us} r => by
    rw [Bool.eq_iff_iff, List.any_eq_true, List.any_eq_true]
    constructor
    · rintro ⟨w, _, h⟩
      obtain ⟨z, hz, _, ez⟩ := of_decide_eq_true h
      exact ⟨z, hz, ez⟩
    · rintro ⟨z, hz, ez⟩
      obtain ⟨w, hw, rz⟩ := vals_back r z hz
      exact ⟨w, hw, decide_eq_true ⟨z, hz, rz, ez⟩⟩
  rcases hq with hq | hq
  · obtain ⟨its, r, pl, _⟩ := I.list hq
    refine SeqAt.in_listAt eU pl.isList (fun w hw => at_ r w (by simpa using hw)) ⟨.bl _, H, I, rfl, ?_⟩
    rw [show its.toArray.any eU = its.any eU by simp, any_ r]
    exact q
  · obtain ⟨its, r, pl, _⟩ := I.tuple hq
    refine SeqAt.in_tupleAt eU pl (fun w hw => at_ r w (by simpa using hw)) ⟨.bl _, H, I, rfl, ?_⟩
    rw [show its.toArray.any eU = its.any eU by simp, any_ r]
    exact q
end Nw

set_option Elab.async false
set_option linter.all false
set_option maxRecDepth 100000
/-! Nw.Fill: the great tree's words: plain facts -/
namespace Nw
open PySem L2 Evl
def two (k : Nat) : List Nat := [k / 26 + 97, k % 26 + 97]
def fil (n : Nat) : List (List Nat) := (List.range n).map two
abbrev aa : List Nat := [97, 97]
abbrev zz : List Nat := [122, 122, 122, 122]
theorem two_lt {i j : Nat} (h : i < j) : two i < two j := by
  unfold two
  have h1 : i / 26 < j / 26 ∨ (i / 26 = j / 26 ∧ i % 26 < j % 26) := by omega
  rcases h1 with h1 | ⟨h1, h2⟩
  · exact List.Lex.rel (by omega)
  · rw [h1]
    exact List.Lex.cons (List.Lex.rel (by omega))
theorem fil_lt (n : Nat) : (fil n).Pairwise (· < ·) := List.pairwise_map.mpr (List.pairwise_lt_range.imp fun h => two_lt h)
theorem fil_nd (n : Nat) : (fil n).Nodup := (fil_lt n).imp fun {a b} (h : a < b) (z : a = b) => List.lt_irrefl b (by rw [z] at h; exact h)
theorem fil_mem {n : Nat} {t : List Nat} : t ∈ fil n ↔ ∃ k, k < n ∧ t = two k := by
  unfold fil
  rw [List.mem_map]
  constructor
  · rintro ⟨k, hk, rfl⟩
    exact ⟨k, List.mem_range.mp hk, rfl⟩
  · rintro ⟨k, hk, rfl⟩
    exact ⟨k, List.mem_range.mpr hk, rfl⟩
theorem fil_len (n : Nat) : (fil n).length = n := by unfold fil; rw [List.length_map, List.length_range]
theorem fil_isW {n : Nat} (hn : n ≤ 400) : ∀ w ∈ fil n, isW w = true := fun w hw => by
  obtain ⟨k, hk, rfl⟩ := fil_mem.mp hw
  refine isW_good (by show 2 ≤ 24; decide) fun c hc => ?_
  unfold two at hc
  rcases List.mem_cons.mp hc with rfl | hc
  · omega
  · rw [List.mem_singleton.mp hc]; omega
theorem zz_fil {n : Nat} : zz ∉ fil n := fun h => by
  obtain ⟨k, _, e⟩ := fil_mem.mp h
  have := congrArg List.length e
  cases this
theorem fil_zz {n : Nat} (hn : n ≤ 400) : ∀ w ∈ fil n, w < zz := fun w hw => by
  obtain ⟨k, hk, rfl⟩ := fil_mem.mp hw
  exact List.Lex.rel (by omega)
theorem le_of_lt' {a b : List Nat} (h : a < b) : leT a b = true := decide_eq_true (List.le_of_lt h)
/-- the words in order -/
theorem srt_great {W : List (List Nat)} {n : Nat} (nd : W.Nodup) (hn : n ≤ 400) (hW : ∀ x, x ∈ W ↔ x ∈ fil n ∨ (n < 400 ∧ x = zz)) : srt W = fil n ++ [zz].take (400 - n) := by
  have hz : ∀ x, x ∈ [zz].take (400 - n) ↔ n < 400 ∧ x = zz := fun x => by
    by_cases h : n < 400
    · rw [List.take_of_length_le (by simp; omega), List.mem_singleton]
      exact ⟨fun e => ⟨h, e⟩, fun e => e.2⟩
    · rw [show 400 - n = 0 by omega]
      simp [h]
  have nd2 : (fil n ++ [zz].take (400 - n)).Nodup := by
    refine List.nodup_append.mpr ⟨fil_nd n, (List.take_sublist _ _).nodup (by simp), fun a ha b hb e => ?_⟩
    rw [((hz b).mp hb).2] at e
    exact zz_fil (e ▸ ha)
  refine srt_uniq ((srt_perm W).trans ((List.perm_ext_iff_of_nodup nd nd2).mpr fun x => by rw [hW x, List.mem_append, hz x])) (srt_pair W) ?_
  refine List.pairwise_append.mpr ⟨(fil_lt n).imp le_of_lt', List.Pairwise.sublist (List.take_sublist _ _) (List.pairwise_singleton _ _), fun a ha b hb => ?_⟩
  rw [((hz b).mp hb).2]
  exact le_of_lt' (fil_zz hn a ha)
theorem dist_two (x y : Nat) : dist aa [x, y] = (if x = 97 then 0 else 1) + if y = 97 then 0 else 1 := by
  unfold dist
  show cell aa [x, y] 2 2 = _
  simp only [cell_ss, cell_0, cell_i0, List.getElem?_cons_zero, List.getElem?_cons_succ, Option.some.injEq]
  by_cases h1 : x = 97
  · by_cases h2 : y = 97
    · subst h1 h2; decide
    · have h2' : ¬ 97 = y := fun z => h2 z.symm
      subst h1; simp [h2, h2']
  · have h1' : ¬ 97 = x := fun z => h1 z.symm
    by_cases h2 : y = 97
    · subst h2; simp [h1, h1']
    · have h2' : ¬ 97 = y := fun z => h2 z.symm
      simp [h1, h1', h2, h2']
theorem dist_zz : dist aa zz = 4 := by
  unfold dist
  show cell aa zz 2 4 = _
  simp only [cell_ss, cell_0, cell_i0]
  decide
/-- of two letters: how far from aa -/
def farA (t : List Nat) : Nat := if t = aa then 0 else if 97 ∈ t then 1 else 2
theorem far_two {n : Nat} {t : List Nat} (h : t ∈ fil n) : dist aa t = farA t := by
  obtain ⟨k, hk, rfl⟩ := fil_mem.mp h
  unfold two farA
  rw [dist_two]
  generalize k / 26 + 97 = x
  generalize k % 26 + 97 = y
  by_cases h1 : x = 97
  · by_cases h2 : y = 97
    · subst h1 h2; decide
    · subst h1; simp [h2]
  · by_cases h2 : y = 97
    · subst h2; simp [h1]
    · have h1' : ¬ 97 = x := fun z => h1 z.symm
      have h2' : ¬ 97 = y := fun z => h2 z.symm
      simp [h1, h2, h1', h2']
def F1 (n : Nat) : List (List Nat) := (fil n).filter fun w => decide (97 ∈ w) && !decide (w = aa)
def F2 (n : Nat) : List (List Nat) := (fil n).filter fun w => !decide (97 ∈ w)
theorem F1_mem {n : Nat} {t : List Nat} : t ∈ F1 n ↔ t ∈ fil n ∧ farA t = 1 := by
  unfold F1 farA
  rw [List.mem_filter]
  refine and_congr_right fun _ => ?_
  by_cases h1 : t = aa
  · subst h1; decide
  · by_cases h2 : 97 ∈ t <;> simp [h1, h2]
theorem F2_mem {n : Nat} {t : List Nat} : t ∈ F2 n ↔ t ∈ fil n ∧ farA t = 2 := by
  unfold F2 farA
  rw [List.mem_filter]
  refine and_congr_right fun _ => ?_
  by_cases h1 : t = aa
  · subst h1; decide
  · by_cases h2 : 97 ∈ t <;> simp [h1, h2]
/-- those of number i, in order -/
def G (m n : Nat) : List (Nat × List Nat) := (0, aa) :: ((F1 n).map (Prod.mk 1) ++ if m = 2 then (F2 n).map (Prod.mk 2) else [])
theorem G_mem {m n : Nat} (hm : m = 1 ∨ m = 2) (hn : 0 < n) {x : Nat × List Nat} : x ∈ G m n ↔ x.2 ∈ fil n ∧ farA x.2 ≤ m ∧ x.1 = farA x.2 := by
  obtain ⟨i, t⟩ := x
  have ha : aa ∈ fil n := fil_mem.mpr ⟨0, hn, rfl⟩
  have h3 : farA t ≤ 2 := by
    unfold farA
    split
    · omega
    · split <;> omega
  have h0 : farA t = 0 ↔ t = aa := by
    unfold farA
    by_cases h : t = aa
    · simp [h]
    · rw [if_neg h]
      split <;> simp [h]
  unfold G
  rw [List.mem_cons, List.mem_append, List.mem_map]
  constructor
  · rintro (h | ⟨u, hu, h⟩ | h)
    · injection h with h1 h2
      subst h1 h2
      exact ⟨ha, Nat.zero_le _, rfl⟩
    · injection h with h1 h2
      subst h1 h2
      obtain ⟨a1, a2⟩ := F1_mem.mp hu
      exact ⟨a1, by show farA u ≤ m; omega, a2.symm⟩
    · by_cases h2 : m = 2
      · rw [if_pos h2, List.mem_map] at h
        obtain ⟨u, hu, h⟩ := h
        injection h with h1 h3
        subst h1 h3
        obtain ⟨a1, a2⟩ := F2_mem.mp hu
        exact ⟨a1, by show farA u ≤ m; omega, a2.symm⟩
      · rw [if_neg h2] at h
        cases h
  · rintro ⟨a1, a2, a3⟩
    dsimp only at a1 a2 a3
    subst a3
    rcases (show farA t = 0 ∨ farA t = 1 ∨ farA t = 2 by omega) with h | h | h
    · exact .inl (by rw [h, h0.mp h])
    · exact .inr (.inl ⟨t, F1_mem.mpr ⟨a1, h⟩, by rw [h]⟩)
    · refine .inr (.inr ?_)
      rw [if_pos (by omega), List.mem_map]
      exact ⟨t, F2_mem.mpr ⟨a1, h⟩, by rw [h]⟩
theorem le_same {i : Nat} {a b : List Nat} (h : a < b) : leP (i, a) (i, b) = true := leP_iff.mpr (.inr ⟨rfl, List.le_of_lt h⟩)
theorem le_less {i j : Nat} {a b : List Nat} (h : i < j) : leP (i, a) (j, b) = true := leP_iff.mpr (.inl h)
theorem F1_lt (n : Nat) : (F1 n).Pairwise (· < ·) := (fil_lt n).filter _
theorem F2_lt (n : Nat) : (F2 n).Pairwise (· < ·) := (fil_lt n).filter _
theorem G_pair (m n : Nat) : (G m n).Pairwise fun a b => leP a b = true ∧ a ≠ b := by
  have s : ∀ {i : Nat} {L : List (List Nat)}, L.Pairwise (· < ·) → (L.map (Prod.mk i)).Pairwise fun a b => leP a b = true ∧ a ≠ b := fun h => List.pairwise_map.mpr (h.imp fun h => ⟨le_same h, fun z => List.lt_irrefl _ (by injection z with _ z; rw [z] at h; exact h)⟩)
  have tw : (if m = 2 then (F2 n).map (Prod.mk 2) else []).Pairwise fun a b => leP a b = true ∧ a ≠ b := by
    split
    · exact s (F2_lt n)
    · exact .nil
  have tm : ∀ x ∈ (if m = 2 then (F2 n).map (Prod.mk 2) else []), x.1 = 2 := fun x hx => by
    split at hx
    · obtain ⟨u, _, rfl⟩ := List.mem_map.mp hx
      rfl
    · cases hx
  refine List.pairwise_cons.mpr ⟨fun x hx => ?_, List.pairwise_append.mpr ⟨s (F1_lt n), tw, fun a ha b hb => ?_⟩⟩
  · obtain ⟨i, t⟩ := x
    have hi : 0 < i := by
      rcases List.mem_append.mp hx with h | h
      · obtain ⟨u, _, e⟩ := List.mem_map.mp h
        injection e with e _
        omega
      · have := tm _ h
        dsimp only at this
        omega
    exact ⟨le_less hi, fun z => by injection z with z _; omega⟩
  · obtain ⟨u, _, rfl⟩ := List.mem_map.mp ha
    obtain ⟨j, t⟩ := b
    have hj : j = 2 := tm _ hb
    subst hj
    exact ⟨le_less (by decide), fun z => by injection z with z _; cases z⟩
/-- what lies near aa -/
theorem near_great {W : List (List Nat)} {n m : Nat} (nd : W.Nodup) (hm : m = 1 ∨ m = 2) (hn : 0 < n) (hW : ∀ x, x ∈ W ↔ x ∈ fil n ∨ (n < 400 ∧ x = zz)) : foundP W aa m = G m n := by
  refine srtP_uniq ((List.perm_ext_iff_of_nodup (fnd_nd nd aa m) ((G_pair m n).imp fun h => h.2)).mpr fun x => ?_) (fnd_pair W aa m) ((G_pair m n).imp fun h => h.1)
  rw [fnd_mem, G_mem hm hn, hW]
  constructor
  · rintro ⟨h1 | ⟨_, h1⟩, h2, h3⟩
    · rw [far_two h1] at h2 h3
      exact ⟨h1, h2, h3⟩
    · rw [h1, dist_zz] at h2
      omega
  · rintro ⟨h1, h2, h3⟩
    rw [← far_two h1] at h2 h3
    exact ⟨.inl h1, h2, h3⟩
theorem G_snd (m n : Nat) : (G m n).map (·.2) = aa :: (F1 n ++ if m = 2 then F2 n else []) := by
  unfold G
  rw [List.map_cons, List.map_append, List.map_map]
  have e : ∀ (i : Nat) (L : List (List Nat)), L.map ((fun x : Nat × List Nat => x.2) ∘ Prod.mk i) = L := fun i L => List.map_id L
  rw [e]
  split
  · rw [List.map_map, e]
  · rfl
end Nw

set_option Elab.async false
set_option linter.all false
set_option maxRecDepth 100000
/-! Nw.Ref: what is refused: one call -/
namespace Nw
open PySem L2 Evl
def nRep : R2 := rRep
theorem o_rep {X : Cx} : OpR X (binaryOp .Mult) nRep := op_rep
/-- a pair of which one or both are v -/
def PairOf (v : V) (x : V) (H : Hp) : Prop := ∃ p a b, x = .ref p ∧ H p = some (.tup [a, b]) ∧ ((a = tx [97, 98] ∧ b = v) ∨ (a = v ∧ b = tx [97, 98]) ∨ (a = v ∧ b = v))
theorem pairOf_up (v : V) : Up (PairOf v) := fun _ _ _ e ⟨p, a, b, h1, h2, h3⟩ => ⟨p, a, b, h1, e _ _ h2, h3⟩
def sp_law_two8 (K : PySem.W.Frag) (CB : Addr) : Sp := fun vs H Q E => ∃ (i : Int) (v u : V), vs = [.int i, v, u] ∧ 0 ≤ i ∧ i < 3 ∧ Any v H ∧ Any u H ∧ (IsWd v → ∀ x H2, Ex H H2 → Q x H2) ∧ (¬ IsWd v → RetE CB H E)
/-- the heap behind a call that is not refused -/
def After (K : PySem.W.Frag) (CT CN r : Addr) (A D : List Nat → Addr) (W : List (List Nat)) (i : Int) (w : List Nat) (H H2 : Hp) : Prop :=
  (Ex H H2 ∧ ¬ (i = 0 ∧ w ∈ W) ∧ ¬ (i = 8 ∧ w ∉ W)) ∨ (i = 0 ∧ w ∈ W ∧ Tree K CT CN r A D (W.erase w) H2 ∧ Fr H H2 (foot r A D (dom W))) ∨
  (i = 8 ∧ w ∉ W ∧ W.length < 400 ∧ ∃ A' D', Tree K CT CN r A' D' (W ++ [w]) H2 ∧ Fr H H2 (foot r A D (dom W)) ∧ ∀ a, foot r A' D' (dom (W ++ [w])) a → foot r A D (dom W) a ∨ H a = none)
def sp_law_called (K : PySem.W.Frag) (CT CN CB CM CF : Addr) : Sp := fun vs H Q E => ∃ (i : Int) (r : Addr) (v u : V) (A D : List Nat → Addr) (W : List (List Nat)), vs = [.int i, .ref r, v, u] ∧ 0 ≤ i ∧ i ≤ 8 ∧ Tree K CT CN r A D W H ∧ W.length ≤ 1000 ∧ Any v H ∧ (3 ≤ i → i ≤ 7 → Any u H) ∧
  (¬ IsWd v → RetE CB H E) ∧ (IsWd v → (i = 6 ∨ i = 7) → ¬ IsM u → RetE CM H E) ∧
  (∀ w, v = tx w → isW w = true → ((i = 6 ∨ i = 7) → IsM u) → (i = 8 → w ∉ W → 400 ≤ W.length → RetE CF H E) ∧ ∀ x H2, After K CT CN r A D W i w H H2 → Q x H2)
/-- what is told, and the heap behind -/
inductive Out (K : PySem.W.Frag) (CT CN r : Addr) (A D : List Nat → Addr) (W : List (List Nat)) (i : Int) (v u : V) (H : Hp) : List Bool → Hp → Prop where
  | word {H2} (h : ¬ IsWd v) (e : Ex H H2) : Out K CT CN r A D W i v u H [true, false, false, false] H2
  | most {H2} (h : IsWd v) (hi : i = 6 ∨ i = 7) (hm : ¬ IsM u) (e : Ex H H2) : Out K CT CN r A D W i v u H [false, false, true, false] H2
  | full {H2 w} (h : v = tx w) (hw : isW w = true) (hi : i = 8) (hn : w ∉ W) (hl : 400 ≤ W.length) (e : Ex H H2) : Out K CT CN r A D W i v u H [false, false, false, true] H2
  | ok {H2 w} (h : v = tx w) (hw : isW w = true) (hm : (i = 6 ∨ i = 7) → IsM u) (a : After K CT CN r A D W i w H H2) : Out K CT CN r A D W i v u H [false, false, false, false] H2
def sp_law_refused (K : PySem.W.Frag) (CT CN : Addr) : Sp := fun vs H Q _ => ∃ (i : Int) (r : Addr) (v u : V) (A D : List Nat → Addr) (W : List (List Nat)), vs = [.int i, .ref r, v, u] ∧ 0 ≤ i ∧ i ≤ 8 ∧ Tree K CT CN r A D W H ∧ W.length ≤ 1000 ∧ Any v H ∧ (3 ≤ i → i ≤ 7 → Any u H) ∧
  ∀ bs H2, Out K CT CN r A D W i v u H bs H2 → ∀ p H3, Ex H2 H3 → H3 p = some (.lst (bs.map V.bl)) → Q (.ref p) H3
def sp_law_filled (K : PySem.W.Frag) (CT CN : Addr) : Sp := fun vs H Q _ => ∃ n : Nat, vs = [.int (n : Int)] ∧ n ≤ 400 ∧ ∀ r A D H2, (∀ a, foot r A D (dom (fil n)) a → H a = none) → Ex H H2 → Tree K CT CN r A D (fil n) H2 → Q (.ref r) H2
/- _law_two(_law_sort, _law_thing_here, _law_most): slots 0:_law_sort 1:_law_thing_here 2:_law_most 3:_law_pair -/
def T_law_two8 (K : PySem.W.Frag) (C_BadWord : Addr) (E : XK) : TS :=
 (tSeq (tAsg (tOp (nIxL K) (tLst (tCons (tTup (tCons (tC (tx [97, 98])) (tCons (tVar 1) tNil))) (tCons (tTup (tCons (tVar 1) (tCons (tC (tx [97, 98])) tNil))) (tCons (tTup (tCons (tVar 1) (tCons (tVar 1) tNil))) tNil)))) (tVar 0)) (gName 3))
 (tSeq (tIfS (tTest (tOp (nInX K) (tVar 2) (tTup (tCons (tC (.int 1)) (tCons (tC (.int 4)) (tCons (tC (.int 7)) (tCons (tC (.int 10)) (tCons (tC (.int 13)) (tCons (tC (.int 16)) (tCons (tC (.int 19)) (tCons (tC (.int 22)) tNil)))))))))))
 (tRet (tCall (sp_table K C_BadWord) [] E (tCons (tOp (nIxT K) (tVar 3) (tC (.int 0))) (tCons (tOp (nIxT K) (tVar 3) (tC (.int 1))) tNil)))) tNext)
 (tSeq (tIfS (tTest (tOp (nInX K) (tVar 2) (tTup (tCons (tC (.int 2)) (tCons (tC (.int 5)) (tCons (tC (.int 8)) (tCons (tC (.int 11)) (tCons (tC (.int 14)) (tCons (tC (.int 17)) (tCons (tC (.int 20)) (tCons (tC (.int 23)) tNil)))))))))))
 (tRet (tCall (sp_distance K C_BadWord) [] E (tCons (tOp (nIxT K) (tVar 3) (tC (.int 0))) (tCons (tOp (nIxT K) (tVar 3) (tC (.int 1))) tNil)))) tNext)
 (tRet (tCall (sp_way K C_BadWord) [] E (tCons (tOp (nIxT K) (tVar 3) (tC (.int 0))) (tCons (tOp (nIxT K) (tVar 3) (tC (.int 1))) tNil)))))))
def n_law_two8 : Nat := 4
/- _law_called(_law_call, _law_tree_here, _law_thing_here, _law_most): slots 0:_law_call 1:_law_tree_here 2:_law_thing_here 3:_law_most -/
def T_law_called (K : PySem.W.Frag) (C_Tree C_Node : Addr) (C_BadWord C_BadMost C_Full : Addr) (E : XK) : TS :=
 (tSeq (tIfS (tTest (tOp nEq (tVar 0) (tC (.int 0))))
 (tRet (tMeth C_Tree "take" (sp_Tree_take K C_Tree C_Node C_BadWord) [] E (tVar 1) (tCons (tVar 2) tNil))) tNext)
 (tSeq (tIfS (tTest (tOp nEq (tVar 0) (tC (.int 1))))
 (tRet (tMeth C_Tree "has" (sp_Tree_has K C_Tree C_Node C_BadWord) [] E (tVar 1) (tCons (tVar 2) tNil))) tNext)
 (tSeq (tIfS (tTest (tOp nEq (tVar 0) (tC (.int 2))))
 (tRet (tMeth C_Tree "begun" (sp_Tree_begun K C_Tree C_Node C_BadWord) [] E (tVar 1) (tCons (tVar 2) tNil))) tNext)
 (tSeq (tIfS (tTest (tOp nLt (tVar 0) (tC (.int 6))))
 (tRet (tCall (sp_law_two8 K C_BadWord) [] E (tCons (tOp nSub (tVar 0) (tC (.int 3))) (tCons (tVar 2) (tCons (tVar 3) tNil))))) tNext)
 (tSeq (tIfS (tTest (tOp nEq (tVar 0) (tC (.int 6))))
 (tRet (tCall (sp_near K C_Tree C_Node C_BadWord C_BadMost) [] E (tCons (tVar 1) (tCons (tVar 2) (tCons (tVar 3) tNil))))) tNext)
 (tSeq (tIfS (tTest (tOp nEq (tVar 0) (tC (.int 7))))
 (tRet (tCall (sp_looked K C_Tree C_Node C_BadWord C_BadMost) [] E (tCons (tVar 1) (tCons (tVar 2) (tCons (tVar 3) tNil))))) tNext)
 (tRet (tMeth C_Tree "put" (sp_Tree_put K C_Tree C_Node C_BadWord C_Full) [] E (tVar 1) (tCons (tVar 2) tNil)))))))))
def n_law_called : Nat := 4
/- _law_refused(_law_call, _law_tree_here, _law_thing_here, _law_most): slots 0:_law_call 1:_law_tree_here 2:_law_thing_here 3:_law_most 4:_law_error -/
def T_law_refused (K : PySem.W.Frag) (C_Tree C_Node : Addr) (C_BadWord C_BadChange C_BadMost C_Full C_NearError : Addr) : TS :=
 (tSeq (tTryAs K (.ref C_NearError) 4 (fun W => (tDrop (tCallS (sp_law_called K C_Tree C_Node C_BadWord C_BadMost C_Full) (WE W) (tCons (tVar 0) (tCons (tVar 1) (tCons (tVar 2) (tCons (tVar 3) tNil))))))) (fun a cls d => (tRet (tCallX K (sp_law_kinds K C_BadWord C_BadChange C_BadMost C_Full) a cls d (tCons (tVar 4) tNil)))))
 (tRet (tOp nRep (tLst (tCons (tC (.bl false)) tNil)) (tC (.int 4)))))
def n_law_refused : Nat := 5
/- _law_filled(_law_many): slots 0:_law_many 1:_law_letters 2:_law_tree_here 3:_law_k -/
def T_law_filled (K : PySem.W.Frag) (C_Tree C_Node : Addr) (C_BadWord C_Full : Addr) : TS :=
 (tSeq (tAsg (tC (tx abc)) (gName 1))
 (tSeq (tAsg (tMake C_Tree (sp_Tree_init K C_Tree C_Node) [] E0 tNil) (gName 2))
 (tSeq (tFor (iRng1 (tCons (tVar 0) tNil)) (gName 3)
 (tDrop (tMeth C_Tree "put" (sp_Tree_put K C_Tree C_Node C_BadWord C_Full) [] E0 (tVar 2) (tCons (tOp nCat (tOp nIxS (tVar 1) (tOp nDiv (tVar 3) (tC (.int 26)))) (tOp nIxS (tVar 1) (tOp nMod (tVar 3) (tC (.int 26))))) tNil))))
 (tRet (tVar 2)))))
def n_law_filled : Nat := 4
theorem l_law_two8 {K CB vs H Q E} (h : sp_law_two8 K CB vs H Q E) : vs.length = 3 := by obtain ⟨_, _, _, rfl, _⟩ := h; rfl
theorem l_law_called {K CT CN CB CM CF vs H Q E} (h : sp_law_called K CT CN CB CM CF vs H Q E) : vs.length = 4 := by obtain ⟨_, _, _, _, _, _, _, rfl, _⟩ := h; rfl
theorem l_law_refused {K CT CN vs H Q E} (h : sp_law_refused K CT CN vs H Q E) : vs.length = 4 := by obtain ⟨_, _, _, _, _, _, _, rfl, _⟩ := h; rfl
theorem l_law_filled {K CT CN vs H Q E} (h : sp_law_filled K CT CN vs H Q E) : vs.length = 1 := by obtain ⟨_, rfl, _⟩ := h; rfl
section
variable {K : PySem.W.Frag} {vs : List V} {H H' : Hp} {Q : VK} {E : XK} {CT CN CB CC CM CF CR r : Addr} {A D : List Nat → Addr} {W : List (List Nat)} {σ : L2.St} {ta tb tc te : TE} {tr : TA} {Dn : Ends} {tz : TS} {x : V}
theorem any_kind (h : Any x H) : ∃ j, OfK H x j := by
  rcases h with ⟨w, rfl, _⟩ | rfl | ⟨i, rfl⟩ | ⟨b, rfl⟩ | ⟨p, rfl, ⟨xs, h⟩ | ⟨xs, h⟩ | ⟨kvs, h⟩⟩
  · exact ⟨0, rfl⟩
  · exact ⟨0, rfl⟩
  · exact ⟨0, rfl⟩
  · exact ⟨0, rfl⟩
  · exact ⟨1, p, xs, rfl, h⟩
  · exact ⟨2, p, xs, rfl, h⟩
  · exact ⟨3, p, kvs, rfl, h⟩
/-- flat things against any thing -/
def eF (x z : V) : Bool := if flatV x = true then eqV z x else false
theorem eqX_flat {z : V} (h : Any x H) (hz : flatV z = true) : EqX H z x (eF x z) := by
  unfold eF
  by_cases hx : flatV x = true
  · rw [if_pos hx]
    exact .inl ⟨hz, hx, rfl⟩
  · rw [if_neg hx]
    obtain ⟨j, hj⟩ := any_kind h
    refine .inr (.inr ⟨0, j, hz, hj, fun z => ?_, rfl⟩)
    subst z
    exact hx hj
/-- x in (a, b, ..), flat ones -/
theorem et_inTup {vs : List V} (ha : Ev ta σ H x) (hx : Any x H) (hr : EvA tr σ H vs) (hn : vs.length ≤ 100000) (hv : ∀ z ∈ vs, flatV z = true) : EvT (tTest (tOp (nInX K) ta (tTup tr))) σ H (vs.any (eF x)) :=
  et_test fun H1 e Q q => ha H1 e _ fun H2 e2 => eu_tup hr hn H2 (e.trans e2) _ fun p H3 hp e3 h3 => ⟨p, vs, eF x, rfl, .inr (SqT.of h3), fun z hz => eqX_flat (any_up _ _ _ ((e.trans e2).trans e3) hx) (hv z hz), q H3 (e2.trans e3)⟩
theorem wd_ab : IsWd (tx [97, 98]) := ⟨[97, 98], rfl, by decide⟩
theorem any_ab : Any (tx [97, 98]) H := .inl ⟨[97, 98], rfl, by decide⟩
theorem g_pr {v a b : V} (h1 : Ev ta σ H a) (h2 : Ev tb σ H b) (h : (a = tx [97, 98] ∧ b = v) ∨ (a = v ∧ b = tx [97, 98]) ∨ (a = v ∧ b = v)) : EvG (tTup (tCons ta (tCons tb tNil))) σ H (PairOf v) := fun H1 e Q q => eu_tup (ea_cons h1 (ea_cons h2 ea_nil)) (by simp) H1 e _ fun p H2 hp e2 hh => q _ H2 e2 ⟨p, a, b, rfl, hh, h⟩
theorem R_law_two8 (h : sp_law_two8 K CB vs H Q E) : T_law_two8 K CB E (fin Q) (slots n_law_two8 vs) H := by
  obtain ⟨i, v, u, rfl, h0, h3, hv, hu, k, kE⟩ := h
  show T_law_two8 K CB E (fin Q) [some (.int i), some v, some u, none] H
  unfold T_law_two8
  refine q_asgG (g_pick (n := 3) (pairOf_up v) (all_cons (pairOf_up v) (g_pr ev_c (ev_var rfl) (.inl ⟨rfl, rfl⟩)) (all_cons (pairOf_up v) (g_pr (ev_var rfl) ev_c (.inr (.inl ⟨rfl, rfl⟩))) (all_cons (pairOf_up v) (g_pr (ev_var rfl) (ev_var rfl) (.inr (.inr ⟨rfl, rfl⟩))) all_nil))) (ev_var rfl) h0 h3 (by decide)) fun x H1 e1 hx => ?_
  obtain ⟨p, a, b, rfl, hp, hab⟩ := hx
  have hu1 := any_up _ _ _ e1 hu
  have hw : IsWd a ∧ IsWd b ↔ IsWd v := by
    rcases hab with ⟨rfl, rfl⟩ | ⟨rfl, rfl⟩ | ⟨rfl, rfl⟩
    · exact ⟨fun h => h.2, fun h => ⟨wd_ab, h⟩⟩
    · exact ⟨fun h => h.1, fun h => ⟨h, wd_ab⟩⟩
    · exact ⟨fun h => h.1, fun h => ⟨h, h⟩⟩
  have hA : ∀ {H2}, Ex H H2 → Any a H2 ∧ Any b H2 := fun e => by
    have := any_up _ _ _ e hv
    rcases hab with ⟨rfl, rfl⟩ | ⟨rfl, rfl⟩ | ⟨rfl, rfl⟩
    · exact ⟨any_ab, this⟩
    · exact ⟨this, any_ab⟩
    · exact ⟨this, this⟩
  have ha : ∀ {H2}, Ex H1 H2 → EvA (tCons (tOp (nIxT K) (tVar 3) (tC (.int 0))) (tCons (tOp (nIxT K) (tVar 3) (tC (.int 1))) tNil)) [some (.int i), some v, some u, some (.ref p)] H2 [a, b] := fun e =>
    ea_cons (e_ixT (ev_var rfl) ev_c (SqT.of (e _ _ hp)) (atI_nat (j := 0) rfl)) (ea_cons (e_ixT (ev_var rfl) ev_c (SqT.of (e _ _ hp)) (atI_nat (j := 1) rfl)) ea_nil)
  have flat8 : ∀ {z : V} {is : List Int}, z ∈ is.map V.int → flatV z = true := fun {z is} h => by
    obtain ⟨i, _, rfl⟩ := List.mem_map.mp h
    rfl
  show tSeq _ _ _ [some (.int i), some v, some u, some (.ref p)] H1
  refine q_when (et_inTup (vs := [1, 4, 7, 10, 13, 16, 19, 22].map V.int) (ev_var rfl) hu1 (ea_cons ev_c (ea_cons ev_c (ea_cons ev_c (ea_cons ev_c (ea_cons ev_c (ea_cons ev_c (ea_cons ev_c (ea_cons ev_c ea_nil)))))))) (by simp) fun z hz => flat8 hz) (fun _ H2 e2 => ?_) (fun _ H2 e2 => ?_)
  · have e12 := e1.trans e2
    refine n_callW (ha e2) fun H3 e3 => ⟨a, b, rfl, (hA (e12.trans e3)).1, (hA (e12.trans e3)).2, fun a' b' ea eb wa wb x H4 e4 _ => k (hw.mp ⟨⟨a', ea, wa⟩, ⟨b', eb, wb⟩⟩) _ _ ((e12.trans e3).trans e4), fun hn H4 e4 => kE (fun z => hn (hw.mpr z)) _ ((e12.trans e3).trans e4)⟩
  refine q_when (et_inTup (vs := [2, 5, 8, 11, 14, 17, 20, 23].map V.int) (ev_var rfl) (any_up _ _ _ e2 hu1) (ea_cons ev_c (ea_cons ev_c (ea_cons ev_c (ea_cons ev_c (ea_cons ev_c (ea_cons ev_c (ea_cons ev_c (ea_cons ev_c ea_nil)))))))) (by simp) fun z hz => flat8 hz) (fun _ H3 e3 => ?_) (fun _ H3 e3 => ?_)
  · have e13 := (e1.trans e2).trans e3
    refine n_callW (ha (e2.trans e3)) fun H4 e4 => ⟨a, b, rfl, (hA (e13.trans e4)).1, (hA (e13.trans e4)).2, fun a' b' ea eb wa wb H5 e5 => k (hw.mp ⟨⟨a', ea, wa⟩, ⟨b', eb, wb⟩⟩) _ _ ((e13.trans e4).trans e5), fun hn H5 e5 => kE (fun z => hn (hw.mpr z)) _ ((e13.trans e4).trans e5)⟩
  · have e13 := (e1.trans e2).trans e3
    refine n_callW (ha (e2.trans e3)) fun H4 e4 => ⟨a, b, rfl, (hA (e13.trans e4)).1, (hA (e13.trans e4)).2, fun a' b' ea eb wa wb y H5 _ e5 _ => k (hw.mp ⟨⟨a', ea, wa⟩, ⟨b', eb, wb⟩⟩) _ _ ((e13.trans e4).trans e5), fun hn H5 e5 => kE (fun z => hn (hw.mpr z)) _ ((e13.trans e4).trans e5)⟩
theorem R_law_called (h : sp_law_called K CT CN CB CM CF vs H Q E) : T_law_called K CT CN CB CM CF E (fin Q) (slots n_law_called vs) H := by
  obtain ⟨i, r, v, u, A, D, W, rfl, h0, h8, T, hW, hv, hu, kW, kM, k⟩ := h
  show T_law_called K CT CN CB CM CF E (fin Q) [some (.int i), some (.ref r), some v, some u] H
  unfold T_law_called
  -- where the heap only grows
  have grow : ∀ {H2 w}, v = tx w → isW w = true → ((i = 6 ∨ i = 7) → IsM u) → Ex H H2 → ¬ (i = 0 ∧ w ∈ W) → ¬ (i = 8 ∧ w ∉ W) → ∀ x, Q x H2 := fun {H2 w} e1 e2 hm e h1 h2 x => (k w e1 e2 hm).2 x _ (.inl ⟨e, h1, h2⟩)
  have kW' : ∀ {H1}, Ex H H1 → ¬ IsWd v → RetE CB H1 E := fun e hn H2 e2 => kW hn H2 (e.trans e2)
  have frg : ∀ {H1 H2 : Hp} {F : Addr → Prop}, Ex H H1 → Fr H1 H2 F → Fr H H2 F := fun e f => (Fr.ex e).trans f
  have nm : ∀ {m : Str}, (m == ("root" : Str)) = false → (m == ("count" : Str)) = false → ∀ (a : Addr) (k : Int), (fT a k).lookup m = none := fun h1 h2 => no_m h1 h2
  refine q_when (et_test (e_eq (ev_var rfl) ev_c .ii)) (fun hi H1 e1 => ?_) (fun hi1 H1 e1 => ?_)
  · have hi := of_decide_eq_true hi
    refine n_meth (T.up e1).s (nm (by decide +kernel) (by decide +kernel)) (ev_var rfl) (ea_cons (ev_var rfl) ea_nil) fun H2 e2 => ?_
    have e12 := e1.trans e2
    exact ⟨r, v, A, D, W, rfl, T.up e12, any_up _ _ _ e12 hv, fun w hw hiw => ⟨fun hn H3 e3 => grow hw hiw (fun z => by omega) (e12.trans e3) (fun z => hn z.2) (fun z => by omega) _, fun hin H3 T3 F3 => (k w hw hiw (fun z => by omega)).2 _ _ (.inr (.inl ⟨hi, hin, T3, frg e12 F3⟩))⟩, kW' e12⟩
  have hi1 := of_decide_eq_false hi1
  refine q_when (et_test (e_eq (ev_var rfl) ev_c .ii)) (fun hi H2 e2 => ?_) (fun hi2 H2 e2 => ?_)
  · have hi := of_decide_eq_true hi
    have e12 := e1.trans e2
    refine n_meth (T.up e12).s (nm (by decide +kernel) (by decide +kernel)) (ev_var rfl) (ea_cons (ev_var rfl) ea_nil) fun H3 e3 => ?_
    have e13 := e12.trans e3
    exact ⟨r, v, A, D, W, rfl, T.up e13, any_up _ _ _ e13 hv, fun w hw hiw H4 e4 => grow hw hiw (fun z => by omega) (e13.trans e4) (fun z => by omega) (fun z => by omega) _, kW' e13⟩
  have hi2 := of_decide_eq_false hi2
  have e12 := e1.trans e2
  refine q_when (et_test (e_eq (ev_var rfl) ev_c .ii)) (fun hi H3 e3 => ?_) (fun hi3 H3 e3 => ?_)
  · have hi := of_decide_eq_true hi
    have e13 := e12.trans e3
    refine n_meth (T.up e13).s (nm (by decide +kernel) (by decide +kernel)) (ev_var rfl) (ea_cons (ev_var rfl) ea_nil) fun H4 e4 => ?_
    have e14 := e13.trans e4
    exact ⟨r, v, A, D, W, rfl, T.up e14, hW, any_up _ _ _ e14 hv, fun w hw hiw p H5 _ e5 _ => grow hw hiw (fun z => by omega) (e14.trans e5) (fun z => by omega) (fun z => by omega) _, kW' e14⟩
  have hi3 := of_decide_eq_false hi3
  have e13 := e12.trans e3
  refine q_when (et_test (e_lt (ev_var rfl) ev_c)) (fun hi H4 e4 => ?_) (fun hi4 H4 e4 => ?_)
  · have hi := of_decide_eq_true hi
    have e14 := e13.trans e4
    refine n_callW (ea_cons (e_sub (ev_var rfl) ev_c) (ea_cons (ev_var rfl) (ea_cons (ev_var rfl) ea_nil))) fun H5 e5 => ?_
    have e15 := e14.trans e5
    exact ⟨i - 3, v, u, rfl, by omega, by omega, any_up _ _ _ e15 hv, any_up _ _ _ e15 (hu (by omega) (by omega)), fun hwd x H6 e6 => by
      obtain ⟨w, hw, hiw⟩ := hwd
      exact grow hw hiw (fun z => by omega) (e15.trans e6) (fun z => by omega) (fun z => by omega) x, kW' e15⟩
  have hi4 := of_decide_eq_false hi4
  have e14 := e13.trans e4
  refine q_when (et_test (e_eq (ev_var rfl) ev_c .ii)) (fun hi H5 e5 => ?_) (fun hi5 H5 e5 => ?_)
  · have hi := of_decide_eq_true hi
    have e15 := e14.trans e5
    refine n_callW (ea_cons (ev_var rfl) (ea_cons (ev_var rfl) (ea_cons (ev_var rfl) ea_nil))) fun H6 e6 => ?_
    have e16 := e15.trans e6
    exact ⟨r, v, u, A, D, W, rfl, T.up e16, hW, any_up _ _ _ e16 hv, any_up _ _ _ e16 (hu (by omega) (by omega)), fun w m hw hiw hum hm x H7 e7 _ => grow hw hiw (fun _ => ⟨m, hum, hm⟩) (e16.trans e7) (fun z => by omega) (fun z => by omega) x, kW' e16, fun hwd hn H7 e7 => kM hwd (.inl hi) hn _ (e16.trans e7)⟩
  have hi5 := of_decide_eq_false hi5
  have e15 := e14.trans e5
  refine q_when (et_test (e_eq (ev_var rfl) ev_c .ii)) (fun hi H6 e6 => ?_) (fun hi6 H6 e6 => ?_)
  · have hi := of_decide_eq_true hi
    have e16 := e15.trans e6
    refine n_callW (ea_cons (ev_var rfl) (ea_cons (ev_var rfl) (ea_cons (ev_var rfl) ea_nil))) fun H7 e7 => ?_
    have e17 := e16.trans e7
    exact ⟨r, v, u, A, D, W, rfl, T.up e17, hW, any_up _ _ _ e17 hv, any_up _ _ _ e17 (hu (by omega) (by omega)), fun w m hw hiw hum hm H8 e8 => grow hw hiw (fun _ => ⟨m, hum, hm⟩) (e17.trans e8) (fun z => by omega) (fun z => by omega) _, kW' e17, fun hwd hn H8 e8 => kM hwd (.inr hi) hn _ (e17.trans e8)⟩
  have hi6 := of_decide_eq_false hi6
  have e16 := e15.trans e6
  have hi8 : i = 8 := by omega
  refine n_meth (T.up e16).s (nm (by decide +kernel) (by decide +kernel)) (ev_var rfl) (ea_cons (ev_var rfl) ea_nil) fun H7 e7 => ?_
  have e17 := e16.trans e7
  refine ⟨r, v, A, D, W, rfl, T.up e17, any_up _ _ _ e17 hv, fun w hw hiw => ⟨fun hin H8 e8 => grow hw hiw (fun z => by omega) (e17.trans e8) (fun z => by omega) (fun z => z.2 hin) _, fun hn hl H8 e8 => (k w hw hiw (fun z => by omega)).1 hi8 hn hl _ (e17.trans e8), fun hn hl A' D' H8 T8 F8 ff => (k w hw hiw (fun z => by omega)).2 _ _ (.inr (.inr ⟨hi8, hn, hl, A', D', T8, frg e17 F8, fun a f => (ff a f).imp id fun z => fresh_back e17 z⟩))⟩, kW' e17⟩
/-- [x] * n -/
theorem el_rep {l : List V} {n : Int} (ha : EvL ta σ H l) (hb : Ev tb σ H (.int n)) (h0 : 0 ≤ n) (h1 : n ≤ 1000) (hl : l.length ≤ 10) : EvL (tOp nRep ta tb) σ H (List.replicate n.toNat l).flatten := fun H1 e Q q =>
  ha H1 e _ fun p H2 hp e2 h2 => hb H2 (e.trans e2) _ fun H3 e3 => ⟨p, n, l, rfl, rfl, e3 _ _ h2, by omega, by omega, sz_of (by
    have h1 : n.toNat ≤ 1000 := by omega
    exact Nat.le_trans (Nat.mul_le_mul hl h1) (by decide)), fun q' hq' => q q' _ (fresh_back (e2.trans e3) hq') ((e2.trans e3).trans (Ex.new hq')) upd_same⟩
theorem R_law_refused (xW : PySem.W.exmOne K (.ref CB) (.ref CR) = some true) (xM : PySem.W.exmOne K (.ref CM) (.ref CR) = some true) (xF : PySem.W.exmOne K (.ref CF) (.ref CR) = some true) (hW' : KindOf K CB CB CC CM CF true false false false) (hM' : KindOf K CM CB CC CM CF false false true false) (hF' : KindOf K CF CB CC CM CF false false false true)
    (h : sp_law_refused K CT CN vs H Q E) : T_law_refused K CT CN CB CC CM CF CR (fin Q) (slots n_law_refused vs) H := by
  obtain ⟨i, r, v, u, A, D, W, rfl, h0, h8, T, hW, hv, hu, k⟩ := h
  show T_law_refused K CT CN CB CC CM CF CR (fin Q) [some (.int i), some (.ref r), some v, some u, none] H
  unfold T_law_refused
  have kinds : ∀ {C : Addr} {b1 b2 b3 b4 : Bool} {H1 : Hp} {a : Addr} {D0 : Ends}, PySem.W.exmOne K (.ref C) (.ref CR) = some true → KindOf K C CB CC CM CF b1 b2 b3 b4 → (∀ p H3, Ex H1 H3 → H3 p = some (.lst ([b1, b2, b3, b4].map V.bl)) → D0.rt (.ref p) H3) →
      (tRet (tCallX K (sp_law_kinds K CB CC CM CF) a (.ref C) none (tCons (tVar 4) tNil))) D0 [some (.int i), some (.ref r), some v, some u, some (.ref a)] H1 := fun hx hk kk => s_retL (el_kinds (ev_var rfl) hk) fun p H3 _ e3 h3 => kk p H3 e3 h3
  refine ⟨_, rfl, _, rfl, _, rfl, _, rfl, i, r, v, u, A, D, W, rfl, h0, h8, T, hW, hv, hu, fun hn H1 e1 => ⟨true, xW, fun _ a ha => ?_, fun hh => by cases hh⟩, fun hwd hi hn H1 e1 => ⟨true, xM, fun _ a ha => ?_, fun hh => by cases hh⟩, fun w hw hiw hm => ⟨fun hi hn hl H1 e1 => ⟨true, xF, fun _ a ha => ?_, fun hh => by cases hh⟩, fun x H2 af => ?_⟩⟩
  · exact kinds xW hW' fun p H3 e3 h3 => k _ _ (.word hn e1) p H3 e3 h3
  · exact kinds xM hM' fun p H3 e3 h3 => k _ _ (.most hwd hi hn e1) p H3 e3 h3
  · exact kinds xF hF' fun p H3 e3 h3 => k _ _ (.full hw hiw hi hn hl e1) p H3 e3 h3
  · exact s_retL (el_rep (n := 4) (el_lst (ea_cons ev_c ea_nil) (by simp)) ev_c (by decide) (by decide) (by simp)) fun p H3 _ e3 h3 => k _ _ (.ok hw hiw hm af) p H3 e3 h3
theorem wd_two (k : Nat) : two k = [k / 26 + 97] ++ [k % 26 + 97] := rfl
/-- letters[k // 26] + letters[k % 26] -/
theorem e_two {k : Nat} (hk : k < 400) (ha : Ev ta σ H (tx abc)) (hb : Ev tb σ H (.int (k : Int))) : Ev (tOp nCat (tOp nIxS ta (tOp nDiv tb (tC (.int 26)))) (tOp nIxS ta (tOp nMod tb (tC (.int 26))))) σ H (tx (two k)) := by
  have h1 : (k : Int) / 26 = ((k / 26 : Nat) : Int) := by omega
  have h2 : (k : Int) % 26 = ((k % 26 : Nat) : Int) := by omega
  have e1 := e_letter ha (e_div hb (ev_c (v := .int 26)) (by decide)) (by omega) (by omega)
  have e2 := e_letter ha (e_mod hb (ev_c (v := .int 26)) (by decide)) (by omega) (by omega)
  rw [h1, Int.toNat_natCast] at e1
  rw [h2, Int.toNat_natCast] at e2
  rw [wd_two]
  exact e_cat e1 e2 (by simp)
theorem fil_succ (n : Nat) : fil (n + 1) = fil n ++ [two n] := by
  unfold fil
  rw [List.range_succ, List.map_append]
  rfl
theorem two_new {n : Nat} : two n ∉ fil n := fun h => by
  obtain ⟨k, hk, e⟩ := fil_mem.mp h
  have := two_lt hk
  rw [← e] at this
  exact List.lt_irrefl _ this
theorem R_law_filled (tx' : Tx K CT CN) (h : sp_law_filled K CT CN vs H Q E) : T_law_filled K CT CN CB CF (fin Q) (slots n_law_filled vs) H := by
  obtain ⟨n, rfl, hn, k⟩ := h
  show T_law_filled K CT CN CB CF (fin Q) [some (.int (n : Int)), none, none, none] H
  unfold T_law_filled
  refine q_asg ev_c fun H1 e1 => ?_
  refine n_tree (σ := [some (.int (n : Int)), some (tx abc), none, none]) (Q := fun v H2 => tSeq (tFor (iRng1 (tCons (tVar 0) tNil)) (gName 3)
 (tDrop (tMeth CT "put" (sp_Tree_put K CT CN CB CF) [] E0 (tVar 2) (tCons (tOp nCat (tOp nIxS (tVar 1) (tOp nDiv (tVar 3) (tC (.int 26)))) (tOp nIxS (tVar 1) (tOp nMod (tVar 3) (tC (.int 26))))) tNil))))
 (tRet (tVar 2)) (fin Q) [some (.int (n : Int)), some (tx abc), some v, none] H2) tx' fun r A0 D0 H2 hr hf e2 T0 => ?_
  refine q_forR1 (n := (n : Int)) (ea_cons (ev_var rfl) ea_nil) (by omega) (fun i σ H' => (∃ x3, σ = [some (.int (n : Int)), some (tx abc), some (.ref r), x3]) ∧ ∃ A D, Tree K CT CN r A D (fil i) H' ∧ (∀ a, foot r A D (dom (fil i)) a → H a = none) ∧ Ex H H')
    (fun H3 e3 => ⟨⟨_, rfl⟩, A0, D0, T0.up e3, fun a f => fresh_back e1 (hf a f), (e1.trans e2).trans e3⟩) (fun i σ H' hi hp' => ?_) (fun σ H' hp' => ?_)
  · obtain ⟨⟨x3, rfl⟩, A, D, T, hf, e⟩ := hp'
    have hi : i < n := by omega
    have hw : isW (two i) = true := fil_isW (n := i + 1) (by omega) _ (fil_mem.mpr ⟨i, by omega, rfl⟩)
    show tDrop _ _ [some (.int (n : Int)), some (tx abc), some (.ref r), some (.int (i : Int))] H'
    refine n_meth T.s (no_m (by decide +kernel) (by decide +kernel)) (ev_var rfl) (ea_cons (e_two (k := i) (by omega) (ev_var rfl) (ev_var rfl)) ea_nil) fun H3 e3 => ⟨r, _, A, D, fil i, rfl, T.up e3, wds_any hw, fun w' hw' _ => ?_, fun hn => absurd ⟨_, rfl, hw⟩ hn⟩
    rw [← tx_inj.mp hw']
    refine ⟨fun hin => absurd hin two_new, fun _ h400 => absurd h400 (by rw [fil_len]; omega), fun _ _ A' D' H4 T4 F4 ff => ?_⟩
    rw [← fil_succ] at T4 ff
    refine ⟨⟨_, rfl⟩, A', D', T4, fun a f => ?_, fun a o ho => F4 _ _ (e3 _ _ (e _ _ ho)) fun f => ?_⟩
    · exact (ff a f).elim (hf a) fun z => fresh_back (e.trans e3) z
    · rw [hf a f] at ho
      cases ho
  · obtain ⟨⟨x3, rfl⟩, A, D, T, hf, e⟩ := hp'
    rw [Int.toNat_natCast] at T hf
    exact s_ret (ev_var rfl) fun H3 e3 => k r A D H3 hf (e.trans e3) (T.up e3)
end
end Nw

set_option Elab.async false
set_option linter.all false
set_option maxRecDepth 100000
/-! Nw.Great: the great tree -/
namespace Nw
open PySem L2 Evl
def sp_law_great (K : PySem.W.Frag) (CT CN : Addr) : Sp := fun vs H Q _ => ∃ (r : Addr) (n : Nat) (b : Bool) (A D : List Nat → Addr) (W : List (List Nat)), vs = [.ref r, .int (n : Int), .bl b] ∧ 0 < n ∧ n ≤ 400 ∧ Tree K CT CN r A D W H ∧ (∀ x, x ∈ W ↔ x ∈ fil n ∨ (n < 400 ∧ x = zz)) ∧ W.length ≤ 1000 ∧ RetV (.bl true) H Q
/- _law_great(_law_tree_here, _law_many, _law_is_wide): slots 0:_law_tree_here 1:_law_many 2:_law_is_wide 3:_law_letters 4:_law_words_here 5:_law_k 6:_law_due 7:_law_word_here 8:_law_pair -/
def T_law_great (K : PySem.W.Frag) (C_Tree C_Node : Addr) (C_BadWord C_BadMost : Addr) : TS :=
 (tSeq (tAsg (tC (tx abc)) (gName 3))
 (tSeq (tAsg (tLc (iRng1 (tCons (tVar 1) tNil)) (gName 5) tYes (tOp nCat (tOp nIxS (tVar 3) (tOp nDiv (tVar 5) (tC (.int 26)))) (tOp nIxS (tVar 3) (tOp nMod (tVar 5) (tC (.int 26))))) [5]) (gName 4))
 (tSeq (tIfS (tTest (tOp (nNeD K) (tMeth C_Tree "words" (sp_Tree_words K C_Tree C_Node C_BadWord) [] E0 (tVar 0) tNil) (tOp nLcat (tVar 4) (tSl (nSlL K) (tLst (tCons (tC (tx [122, 122, 122, 122])) tNil)) tNoPart (tPart (tOp nSub (tC (.int 400)) (tVar 1)))))))
 (tRet (tC (.bl false))) tNext)
 (tSeq (tAsg (tOp nLcat (tLst (tCons (tC (tx [97, 97])) tNil)) (tLc (iList K (tVar 4)) (gName 7) (tAnd (tTest (tOp nInS (tC (tx [97])) (tVar 7))) (tTest (tOp nNe (tVar 7) (tC (tx [97, 97]))))) (tVar 7) [7])) (gName 6))
 (tSeq (tIfS (tTest (tOp (nNeD K) (tLc (iList K (tCall (sp_near K C_Tree C_Node C_BadWord C_BadMost) [] E0 (tCons (tVar 0) (tCons (tC (tx [97, 97])) (tCons (tC (.int 1)) tNil))))) (gName 8) tYes (tOp (nIxT K) (tVar 8) (tC (.int 0))) [8]) (tVar 6)))
 (tRet (tC (.bl false))) tNext)
 (tSeq (tIfS (tNot (tB (tVar 2)))
 (tRet (tC (.bl true))) tNext)
 (tRet (tOp (nEqD K) (tLc (iList K (tCall (sp_near K C_Tree C_Node C_BadWord C_BadMost) [] E0 (tCons (tVar 0) (tCons (tC (tx [97, 97])) (tCons (tC (.int 2)) tNil))))) (gName 8) tYes (tOp (nIxT K) (tVar 8) (tC (.int 0))) [8]) (tOp nLcat (tVar 6) (tLc (iList K (tVar 4)) (gName 7) (tTest (tOp nNotInS (tC (tx [97])) (tVar 7))) (tVar 7) [7]))))))))))
def n_law_great : Nat := 9
theorem l_law_great {K CT CN vs H Q E} (h : sp_law_great K CT CN vs H Q E) : vs.length = 3 := by obtain ⟨_, _, _, _, _, _, rfl, _⟩ := h; rfl
/-- a list of texts -/
def TxsAt (a : List (List Nat)) (v : V) (H : Hp) : Prop := ∃ p, v = .ref p ∧ H p = some (.lst (a.map tx))
theorem txsAt_up (a : List (List Nat)) : Up (TxsAt a) := fun _ _ _ e ⟨p, h1, h2⟩ => ⟨p, h1, e _ _ h2⟩
section
variable {K : PySem.W.Frag} {vs : List V} {H H' : Hp} {Q : VK} {E : XK} {CT CN CB CM CF r : Addr} {A D : List Nat → Addr} {W : List (List Nat)} {σ : L2.St} {ta tb tc te : TE} {tr : TA} {Dn : Ends} {tz : TS} {w : List Nat} {a b : List (List Nat)}
theorem gx_l (h : EvL ta σ H (a.map tx)) : EvG ta σ H (TxsAt a) := fun H1 e Q q => h H1 e _ fun p H2 _ e2 h2 => q _ H2 e2 ⟨p, rfl, h2⟩
theorem gx_v {v : V} {i : Nat} (hσ : σ[i]? = some (some v)) (h : TxsAt a v H) : EvG (tVar i) σ H (TxsAt a) := g_ev (txsAt_up a) (ev_var hσ) h
theorem e_neX (ha : EvG ta σ H (TxsAt a)) (hb : EvG tb σ H (TxsAt b)) : Ev (tOp (nNeD K) ta tb) σ H (.bl (!decide (a = b))) := fun H1 e Q q => ha H1 e _ fun x H2 e2 hx => hb H2 (e.trans e2) _ fun y H3 e3 hy => by
  obtain ⟨p, rfl, hp⟩ := hx
  obtain ⟨p', rfl, hp'⟩ := hy
  exact n_ne (is_txs (sq_of (e3 _ _ hp))) (is_txs (sq_of hp')) (by decide) (by rw [dec_eq txs_inj]; exact q H3 (e2.trans e3))
theorem e_eqX (ha : EvG ta σ H (TxsAt a)) (hb : EvG tb σ H (TxsAt b)) : Ev (tOp (nEqD K) ta tb) σ H (.bl (decide (a = b))) := fun H1 e Q q => ha H1 e _ fun x H2 e2 hx => hb H2 (e.trans e2) _ fun y H3 e3 hy => by
  obtain ⟨p, rfl, hp⟩ := hx
  obtain ⟨p', rfl, hp'⟩ := hy
  exact n_eq (is_txs (sq_of (e3 _ _ hp))) (is_txs (sq_of hp')) (by decide) (by rw [dec_eq txs_inj]; exact q H3 (e2.trans e3))
/-- xs + ys -/
theorem gx_cat (ha : EvG ta σ H (TxsAt a)) (hb : EvG tb σ H (TxsAt b)) (hz : a.length + b.length ≤ 100000) : EvG (tOp nLcat ta tb) σ H (TxsAt (a ++ b)) := fun H1 e Q q => ha H1 e _ fun x H2 e2 hx => hb H2 (e.trans e2) _ fun y H3 e3 hy => by
  obtain ⟨p, rfl, hp⟩ := hx
  obtain ⟨p', rfl, hp'⟩ := hy
  exact ⟨p, p', _, _, rfl, rfl, e3 _ _ hp, hp', line1 (by rw [List.length_map, List.length_map]; exact hz), fun l hl => q _ _ ((e2.trans e3).trans (Ex.new hl)) ⟨l, rfl, by rw [upd_same, List.map_append]⟩⟩
/-- xs[:n] -/
theorem gx_to {tl th : TO} {n : Int} (ha : EvG ta σ H (TxsAt a)) (h1 : EvO tl σ H none) (h2 : EvO th σ H (some n)) (h0 : 0 ≤ n) : EvG (tSl (nSlL K) ta tl th) σ H (TxsAt (a.take n.toNat)) := fun H1 e Q q => ha H1 e _ fun x H2 e2 hx => by
  obtain ⟨p, rfl, hp⟩ := hx
  exact el_slN (te := tC (.ref p)) (σ := σ) (H := H2) ev_c (fun H3 e3 => h1 H3 ((e.trans e2).trans e3)) (fun H3 e3 => h2 H3 ((e.trans e2).trans e3)) (sq_of hp) H2 (Ex.refl _) Q fun l H3 _ e3 h3 => q _ H3 (e2.trans e3) ⟨l, rfl, by rw [h3, cut_to h0, List.map_take]⟩
theorem et_yes : EvT tYes σ H true := fun H1 _ Q q => q H1 (Ex.refl H1)
/-- [x for x in xs if ..] -/
theorem gx_fil {t : TT} {j : Nat} (f : List Nat → Bool) (ha : EvG ta σ H (TxsAt a)) (hz : a.length ≤ 40000) (hw : ∀ x, wipe ((wipe σ [j]).set j (some x)) [j] = wipe σ [j]) (hj : ∀ x, ((wipe σ [j]).set j (some x))[j]? = some (some x))
    (ht : ∀ (u : List Nat) H1, Ex H H1 → EvT t ((wipe σ [j]).set j (some (tx u))) H1 (f u)) : EvG (tLc (iList K ta) (gName j) t (tVar j) [j]) σ H (TxsAt (a.filter f)) := fun H1 e Q q => ha H1 e _ fun x H2 e2 hx => by
  obtain ⟨p, rfl, hp⟩ := hx
  have h := el_lcL (K := K) (σ := σ) (H := H2) (tl := tC (.ref p)) (te := tVar j) (t := t) (j := j) (vs := [j]) (xs := a.map tx) (fun i => f (a.getD i [])) (fun i => tx (a.getD i [])) ev_c (sq_of hp) (by rw [List.length_map]; exact hz) hw (fun i x H3 e3 hx => by
    rw [List.getElem?_map] at hx
    obtain ⟨u, hu, rfl⟩ := Option.map_eq_some_iff.mp hx
    rw [List.getD_eq_getElem?_getD, hu]
    exact ht u H3 ((e.trans e2).trans e3)) (fun i x H3 e3 hx _ => by
    rw [List.getElem?_map] at hx
    obtain ⟨u, hu, rfl⟩ := Option.map_eq_some_iff.mp hx
    rw [List.getD_eq_getElem?_getD, hu]
    exact ev_var (hj _))
  rw [List.length_map, given_filt2 [] f tx a] at h
  exact h H2 (Ex.refl _) Q fun l H3 _ e3 h3 => q _ H3 (e2.trans e3) ⟨l, rfl, h3⟩
/-- [pair[0] for pair in near(..)] -/
theorem gx_near {m : Nat} {j : Nat} (T : Tree K CT CN r A D W H) (hW : W.length ≤ 1000) (hw : isW w = true) (hm : m ≤ 24) (ha : Ev ta σ H (.ref r)) (hb : Ev tb σ H (tx w)) (hc : Ev tc σ H (.int (m : Int))) (hw' : ∀ x, wipe ((wipe σ [j]).set j (some x)) [j] = wipe σ [j]) (hj : ∀ x, ((wipe σ [j]).set j (some x))[j]? = some (some x)) :
    EvG (tLc (iList K (tCall (sp_near K CT CN CB CM) [] E (tCons ta (tCons tb (tCons tc tNil))))) (gName j) tYes (tOp (nIxT K) (tVar j) (tC (.int 0))) [j]) σ H (TxsAt ((foundP W w m).map (·.2))) := fun H1 e Q q => g_near T hW hw hm ha hb hc H1 e _ fun v H2 e2 hv => by
  obtain ⟨p, es, rfl, _, hp, hes, hmap⟩ := hv
  have hl := fnd_len (W := W) w m
  have hel := congrArg List.length hmap
  rw [List.length_map] at hel
  have h := el_lcL (K := K) (σ := σ) (H := H2) (tl := tC (.ref p)) (te := tOp (nIxT K) (tVar j) (tC (.int 0))) (t := tYes) (j := j) (vs := [j]) (xs := es.map fun e => .ref e.1) (fun _ => true) (fun i => (fun e : Fd => tx e.2.2) (es.getD i (default, default, []))) ev_c (sq_of hp) (by rw [List.length_map]; omega) hw' (fun i x H3 e3 hx => et_yes) (fun i x H3 e3 hx _ => by
    rw [List.getElem?_map] at hx
    obtain ⟨z, hz, rfl⟩ := Option.map_eq_some_iff.mp hx
    rw [List.getD_eq_getElem?_getD, hz]
    exact e_ixT (ev_var (hj _)) ev_c (SqT.of (e3 _ _ (hes z (List.mem_of_getElem? hz)).1.1)) (atI_nat (j := 0) rfl))
  have e3 : given (es.map fun e => V.ref e.1).length (fun _ => true) (fun i => (fun e : Fd => tx e.2.2) (es.getD i (default, default, []))) = ((foundP W w m).map (·.2)).map tx := by
    rw [List.length_map, given_filt2 (default, default, []) (fun _ => true) (fun e : Fd => tx e.2.2) es, ← hmap, List.map_map, List.map_map]
    rw [List.filter_eq_self.mpr (fun _ _ => rfl)]
    rfl
  rw [e3] at h
  exact h H2 (Ex.refl _) Q fun l H3 _ e4 h3 => q _ H3 (e2.trans e4) ⟨l, rfl, h3⟩
theorem F1_len (n : Nat) : (F1 n).length ≤ n := by
  have := List.length_filter_le (fun w => decide (97 ∈ w) && !decide (w = aa)) (fil n)
  rw [fil_len] at this
  exact this
theorem F2_len (n : Nat) : (F2 n).length ≤ n := by
  have := List.length_filter_le (fun w => !decide (97 ∈ w)) (fil n)
  rw [fil_len] at this
  exact this
theorem R_law_great (h : sp_law_great K CT CN vs H Q E) : T_law_great K CT CN CB CM (fin Q) (slots n_law_great vs) H := by
  obtain ⟨r, n, b, A, D, W, rfl, hn0, hn, T, hW, hl, k⟩ := h
  show T_law_great K CT CN CB CM (fin Q) [some (.ref r), some (.int (n : Int)), some (.bl b), none, none, none, none, none, none] H
  unfold T_law_great
  refine q_asg ev_c fun H1 e1 => ?_
  have hf : EvL (tLc (iRng1 (tCons (tVar 1) tNil)) (gName 5) tYes (tOp nCat (tOp nIxS (tVar 3) (tOp nDiv (tVar 5) (tC (.int 26)))) (tOp nIxS (tVar 3) (tOp nMod (tVar 5) (tC (.int 26))))) [5]) [some (.ref r), some (.int (n : Int)), some (.bl b), some (tx abc), none, none, none, none, none] H1 ((fil n).map tx) := by
    have hg : (fil n).map tx = given (n : Int).toNat (fun _ => true) (fun i => tx (two i)) := by
      rw [given_all, Int.toNat_natCast]
      unfold fil
      rw [List.map_map]
      rfl
    rw [hg]
    exact el_lcR1 _ _ (ea_cons (ev_var rfl) ea_nil) (by omega) (fun x => rfl) (fun i H2 e2 hi => et_yes) (fun i H2 e2 hi _ => e_two (k := i) (by omega) (ev_var rfl) (ev_var rfl))
  refine q_asgG (gx_l hf) fun v H2 e2 hv => ?_
  have e12 := e1.trans e2
  have T2 := T.up e12
  show tSeq _ _ _ [some (.ref r), some (.int (n : Int)), some (.bl b), some (tx abc), some v, none, none, none, none] H2
  have hs := srt_great T.nd hn hW
  have c4 : ((400 : Int) - (n : Int)).toNat = 400 - n := by omega
  have hwords : EvL (tMeth CT "words" (sp_Tree_words K CT CN CB) [] E0 (tVar 0) tNil) [some (.ref r), some (.int (n : Int)), some (.bl b), some (tx abc), some v, none, none, none, none] H2 ((srt W).map tx) :=
    el_meth T2.s (no_m (by decide +kernel) (by decide +kernel)) (ev_var rfl) ea_nil fun H2 e2 Q q E => ⟨r, A, D, W, rfl, T2.up e2, hl, q⟩
  refine q_when (b := false) (et_is (et_test (e_neX (gx_l hwords) (gx_cat (gx_v rfl hv) (gx_to (a := [zz]) (n := 400 - (n : Int)) (gx_l (el_lst (ea_cons ev_c ea_nil) (by simp))) eo_none (eo_some (e_sub ev_c (ev_var rfl))) (by omega)) (by rw [fil_len, List.length_take]; simp; omega)))) (by rw [hs, c4]; simp)) (fun hh => by cases hh) (fun _ H3 e3 => ?_)
  have hv3 := txsAt_up _ _ _ _ e3 hv
  have hfl := fil_len n
  have fil1 : ∀ {x7 : Option V} {H4}, Ex H3 H4 → EvG (tLc (iList K (tVar 4)) (gName 7) (tAnd (tTest (tOp nInS (tC (tx [97])) (tVar 7))) (tTest (tOp nNe (tVar 7) (tC (tx [97, 97]))))) (tVar 7) [7]) [some (.ref r), some (.int (n : Int)), some (.bl b), some (tx abc), some v, none, none, x7, none] H4 (TxsAt (F1 n)) := fun e =>
    gx_fil (fun w => decide (97 ∈ w) && !decide (w = aa)) (gx_v rfl (txsAt_up _ _ _ _ e hv3)) (by omega) (fun x => rfl) (fun x => rfl) fun u H1 e1 => et_and (et_test (e_inS ev_c (ev_var rfl))) fun _ => et_test (e_ne (ev_var rfl) ev_c .ss)
  refine q_asgG (gx_cat (a := [aa]) (gx_l (el_lst (ea_cons ev_c ea_nil) (by simp))) (fil1 (Ex.refl _)) (by have := F1_len n; simp; omega)) fun d H4 e4 hd => ?_
  have e14 := (e12.trans e3).trans e4
  have T4 := T.up e14
  show tSeq _ _ _ [some (.ref r), some (.int (n : Int)), some (.bl b), some (tx abc), some v, none, some d, none, none] H4
  refine q_when (b := false) (et_is (et_test (e_neX (gx_near (w := aa) (m := 1) T4 hl (by decide) (by decide) (ev_var rfl) ev_c ev_c (fun x => rfl) (fun x => rfl)) (gx_v (a := [aa] ++ F1 n) rfl hd))) (by rw [near_great T.nd (.inl rfl) hn0 hW, G_snd]; simp)) (fun hh => by cases hh) (fun _ H5 e5 => ?_)
  refine q_when (b := !b) (et_not (et_B (ev_var rfl))) (fun hh H6 e6 => ?_) (fun hh H6 e6 => ?_)
  · exact s_ret ev_c fun H7 e7 => k _ (((e14.trans e5).trans e6).trans e7)
  · have e56 := e5.trans e6
    have hv6 := txsAt_up _ _ _ _ (e4.trans e56) hv3
    refine s_ret (ev_is (e_eqX (gx_near (w := aa) (m := 2) (T4.up e56) hl (by decide) (by decide) (ev_var rfl) ev_c ev_c (fun x => rfl) (fun x => rfl)) (gx_cat (a := [aa] ++ F1 n) (b := F2 n) (gx_v rfl (txsAt_up _ _ _ _ e56 hd)) (gx_fil (fun w => !decide (97 ∈ w)) (gx_v rfl hv6) (by omega) (fun x => rfl) (fun x => rfl) fun u H1 e1 => et_test (e_notInS ev_c (ev_var rfl))) (by have := F1_len n; have := F2_len n; simp; omega))) (by rw [near_great T.nd (.inr rfl) hn0 hW, G_snd]; simp)) fun H7 e7 => k _ ((e14.trans e56).trans e7)
end
end Nw

set_option Elab.async false
set_option linter.all false
set_option maxRecDepth 100000
/-! Nw.Full: a tree that is full -/
namespace Nw
open PySem L2 Evl
def sp_law_full (K : PySem.W.Frag) : Sp := fun vs H Q _ => ∃ (s : Addr) (ns : List Int) (v : V), vs = [.ref s, v] ∧ SqL K H s (ns.map V.int) ∧ ns.length ≤ 63 ∧ Any v H ∧ RetV (.bl true) H Q
/- _law_full(_law_script, _law_thing_here): slots 0:_law_script 1:_law_thing_here 2:_law_many 3:_law_tree_here 4:_law_ahead 5:_law_there -/
def T_law_full (K : PySem.W.Frag) (C_Tree C_Node : Addr) (C_BadWord C_Full : Addr) : TS :=
 (tSeq (tAsg (tOp (nIxL K) (tLst (tCons (tC (.int 400)) (tCons (tC (.int 398)) (tCons (tC (.int 400)) (tCons (tC (.int 399)) tNil))))) (tOp nMod (tCall (sp_law_at K) [] E0 (tCons (tVar 0) (tCons (tC (.int 2)) tNil))) (tC (.int 4)))) (gName 2))
 (tSeq (tAsg (tCall (sp_law_filled K C_Tree C_Node) [] E0 (tCons (tVar 2) tNil)) (gName 3))
 (tSeq (tIfS (tOr (tB (tMeth C_Tree "put" (sp_Tree_put K C_Tree C_Node C_BadWord C_Full) [] E0 (tVar 3) (tCons (tC (tx [98, 99])) tNil))) (tTest (tOp nNe (tMeth C_Tree "many" (sp_Tree_many K C_Tree C_Node) [] E0 (tVar 3) tNil) (tVar 2))))
 (tRet (tC (.bl false))) tNext)
 (tSeq (tIfS (tOr (tNot (tB (tMeth C_Tree "take" (sp_Tree_take K C_Tree C_Node C_BadWord) [] E0 (tVar 3) (tCons (tC (tx [97, 98])) tNil)))) (tNot (tB (tMeth C_Tree "put" (sp_Tree_put K C_Tree C_Node C_BadWord C_Full) [] E0 (tVar 3) (tCons (tC (tx [97, 98])) tNil)))))
 (tRet (tC (.bl false))) tNext)
 (tSeq (tAsg (tMeth C_Tree "nodes" (sp_Tree_nodes K C_Tree C_Node) [] E0 (tVar 3) tNil) (gName 4))
 (tSeq (tIfS (tAnd (tNot (tB (tCall (sp_law_is_word K) [] E0 (tCons (tVar 1) tNil)))) (tTest (tOp (nNeD K) (tCall (sp_law_refused K C_Tree C_Node) [] E0 (tCons (tC (.int 8)) (tCons (tVar 3) (tCons (tVar 1) (tCons (tC (.int 1)) tNil))))) (tLst (tCons (tC (.bl true)) (tCons (tC (.bl false)) (tCons (tC (.bl false)) (tCons (tC (.bl false)) tNil))))))))
 (tRet (tC (.bl false))) tNext)
 (tSeq (tIfS (tOr (tTest (tOp nNe (tMeth C_Tree "nodes" (sp_Tree_nodes K C_Tree C_Node) [] E0 (tVar 3) tNil) (tVar 4))) (tTest (tOp (nNeD K) (tCall (sp_law_refused K C_Tree C_Node) [] E0 (tCons (tC (.int 8)) (tCons (tVar 3) (tCons (tC (tx [122, 122, 122, 122])) (tCons (tC (.int 1)) tNil))))) (tLst (tCons (tC (.bl false)) (tCons (tC (.bl false)) (tCons (tC (.bl false)) (tCons (tOp nEq (tVar 2) (tC (.int 400))) tNil))))))))
 (tRet (tC (.bl false))) tNext)
 (tSeq (tAsg (tMeth C_Tree "has" (sp_Tree_has K C_Tree C_Node C_BadWord) [] E0 (tVar 3) (tCons (tC (tx [122, 122, 122, 122])) tNil)) (gName 5))
 (tSeq (tIfS (tOr (tNot (tB (tCB (nIsi K) (tCons (tVar 5) (tCons (tC (.ty "bool")) tNil))))) (tOr (tTest (tOp nNe (tVar 5) (tOp nLt (tVar 2) (tC (.int 400))))) (tAnd (tTest (tOp nEq (tVar 2) (tC (.int 400)))) (tTest (tOp nNe (tMeth C_Tree "nodes" (sp_Tree_nodes K C_Tree C_Node) [] E0 (tVar 3) tNil) (tVar 4))))))
 (tRet (tC (.bl false))) tNext)
 (tRet (tCall (sp_law_great K C_Tree C_Node) [] E0 (tCons (tVar 3) (tCons (tVar 2) (tCons (tOp nEq (tOp nMod (tCall (sp_law_at K) [] E0 (tCons (tVar 0) (tCons (tC (.int 2)) tNil))) (tC (.int 8))) (tC (.int 0))) tNil))))))))))))))
def n_law_full : Nat := 6
theorem l_law_full {K vs H Q E} (h : sp_law_full K vs H Q E) : vs.length = 2 := by obtain ⟨_, _, _, rfl, _⟩ := h; rfl
/-- a list of truth values -/
def BlsAt (a : List Bool) (v : V) (H : Hp) : Prop := ∃ p, v = .ref p ∧ H p = some (.lst (a.map V.bl))
theorem blsAt_up (a : List Bool) : Up (BlsAt a) := fun _ _ _ e ⟨p, h1, h2⟩ => ⟨p, h1, e _ _ h2⟩
section
variable {K : PySem.W.Frag} {vs : List V} {H H' H0 : Hp} {Q : VK} {E : XK} {CT CN CB CM CF r s : Addr} {A D : List Nat → Addr} {W : List (List Nat)} {σ : L2.St} {ta tb tc te : TE} {tr : TA} {Dn : Ends} {tz : TS} {w : List Nat} {v u : V} {i : Int}
theorem gb_l {a : List Bool} (h : EvL ta σ H (a.map V.bl)) : EvG ta σ H (BlsAt a) := fun H1 e Q q => h H1 e _ fun p H2 _ e2 h2 => q _ H2 e2 ⟨p, rfl, h2⟩
theorem gb_v {a : List Bool} {x : V} {i : Nat} (hσ : σ[i]? = some (some x)) (h : BlsAt a x H) : EvG (tVar i) σ H (BlsAt a) := g_ev (blsAt_up a) (ev_var hσ) h
theorem e_neB {a b : List Bool} (ha : EvG ta σ H (BlsAt a)) (hb : EvG tb σ H (BlsAt b)) : Ev (tOp (nNeD K) ta tb) σ H (.bl (!decide (a = b))) := fun H1 e Q q => ha H1 e _ fun x H2 e2 hx => hb H2 (e.trans e2) _ fun y H3 e3 hy => by
  obtain ⟨p, rfl, hp⟩ := hx
  obtain ⟨p', rfl, hp'⟩ := hy
  exact n_ne (is_bls (sq_of (e3 _ _ hp))) (is_bls (sq_of hp')) (by decide) (q H3 (e2.trans e3))
/-- law_is_word -/
theorem e_lisw (ha : Ev ta σ H v) (hv : Any v H) : ∃ b, (b = true ↔ IsWd v) ∧ Ev (tCall (sp_law_is_word K) [] E0 (tCons ta tNil)) σ H (.bl b) := by
  rcases id hv with ⟨w, rfl, hl⟩ | ho
  · refine ⟨isW w, ⟨fun h => ⟨w, rfl, h⟩, fun ⟨w', e, h⟩ => by rw [tx_inj.mp e]; exact h⟩, ev_call (ea_cons ha ea_nil) fun H1 e Q q E => ⟨_, rfl, .inl ⟨w, rfl, hl, fun H2 e2 => q H2 e2⟩⟩⟩
  · refine ⟨false, ⟨fun h => (by cases h), fun ⟨w', e, h⟩ => ?_⟩, ev_call (ea_cons ha ea_nil) fun H1 e Q q E => ⟨_, rfl, .inr ⟨odd_up _ _ _ e ho, fun H2 e2 => q H2 e2⟩⟩⟩
    subst e
    rcases ho with h | ⟨i, h⟩ | ⟨b, h⟩ | ⟨p, h, _⟩ <;> cases h
/-- refused(..), where the heap only grows -/
theorem g_refused {ys : List Bool} (h : EvA tr σ H [.int i, .ref r, v, u]) (h0 : 0 ≤ i) (h8 : i ≤ 8) (T : Tree K CT CN r A D W H) (hW : W.length ≤ 1000) (hv : Any v H) (hu : 3 ≤ i → i ≤ 7 → Any u H)
    (k : ∀ bs H1 H2, Ex H H1 → Out K CT CN r A D W i v u H1 bs H2 → bs = ys ∧ Ex H1 H2) : EvG (tCall (sp_law_refused K CT CN) [] E0 tr) σ H (BlsAt ys) := fun H1 e Q q =>
  h H1 e _ fun H2 e2 => ⟨i, r, v, u, A, D, W, rfl, h0, h8, T.up (e.trans e2), hW, any_up _ _ _ (e.trans e2) hv, fun a b => any_up _ _ _ (e.trans e2) (hu a b), fun bs H3 ho p H4 e4 hp => by
    obtain ⟨rfl, e3⟩ := k bs H2 H3 (e.trans e2) ho
    exact q _ H4 ((e2.trans e3).trans e4) ⟨p, rfl, hp⟩⟩
/-- if refused(..) != .., whatever the heap behind -/
theorem tt_refused {Q' : Bool → Hp → Prop} (h : EvA tr σ H [.int i, .ref r, v, u]) (h0 : 0 ≤ i) (h8 : i ≤ 8) (T : Tree K CT CN r A D W H) (hW : W.length ≤ 1000) (hv : Any v H) (hu : 3 ≤ i → i ≤ 7 → Any u H)
    (k : ∀ bs H1 H2, Ex H H1 → Out K CT CN r A D W i v u H1 bs H2 → ∃ ys, EvG tb σ H2 (BlsAt ys) ∧ ∀ H4, Ex H2 H4 → Q' (!decide (bs = ys)) H4) : tTest (tOp (nNeD K) (tCall (sp_law_refused K CT CN) [] E0 tr) tb) σ H Q' :=
  h H (Ex.refl H) _ fun H1 e1 => ⟨i, r, v, u, A, D, W, rfl, h0, h8, T.up e1, hW, any_up _ _ _ e1 hv, fun a b => any_up _ _ _ e1 (hu a b), fun bs H2 ho p H3 e3 hp => by
    obtain ⟨ys, ht, kq⟩ := k bs H1 H2 e1 ho
    refine ht H3 e3 _ fun y H4 e4 hy => ?_
    obtain ⟨p', rfl, hp'⟩ := hy
    exact n_ne (is_bls (sq_of (e4 _ _ hp))) (is_bls (sq_of hp')) (by decide) ⟨_, rfl, kq H4 (e3.trans e4)⟩⟩
/-- a tree whose places are none of H0's -/
structure Own8 (K : PySem.W.Frag) (CT CN : Addr) (H0 : Hp) (r : Addr) (W : List (List Nat)) (H : Hp) : Prop where
  ex : Ex H0 H
  tree : ∃ A D, Tree K CT CN r A D W H ∧ ∀ a, foot r A D (dom W) a → H0 a = none
theorem Own8.up (o : Own8 K CT CN H0 r W H) (e : Ex H H') : Own8 K CT CN H0 r W H' := by
  obtain ⟨e0, A, D, T, hf⟩ := o
  exact ⟨e0.trans e, A, D, T.up e, hf⟩
theorem own_fr {F : Addr → Prop} (e : Ex H0 H) (hf : ∀ a, F a → H0 a = none) (f : Fr H H' F) : Ex H0 H' := fun a o ha => f _ _ (e _ _ ha) fun z => by
  rw [hf a z] at ha
  cases ha
/-- behind a call -/
theorem own_after {H1 : Hp} (e : Ex H0 H1) (hf : ∀ a, foot r A D (dom W) a → H0 a = none) (T : Tree K CT CN r A D W H1) (a : After K CT CN r A D W i w H1 H') : ∃ W', Own8 K CT CN H0 r W' H' ∧ W'.length ≤ W.length + 1 ∧ ((Ex H1 H' ∧ W' = W) ∨ (i = 0 ∧ w ∈ W ∧ W' = W.erase w) ∨ (i = 8 ∧ w ∉ W ∧ W' = W ++ [w])) := by
  rcases a with ⟨e1, _⟩ | ⟨hi, hw, T', F⟩ | ⟨hi, hw, _, A', D', T', F, ff⟩
  · exact ⟨W, ⟨e.trans e1, A, D, T.up e1, hf⟩, Nat.le_succ _, .inl ⟨e1, rfl⟩⟩
  · refine ⟨W.erase w, ⟨own_fr e hf F, A, D, T', fun a f => ?_⟩, Nat.le_succ_of_le List.length_erase_le, .inr (.inl ⟨hi, hw, rfl⟩)⟩
    rcases f with rfl | ⟨t, ht, h⟩
    · exact hf _ (.inl rfl)
    · exact hf a (.inr ⟨t, dom_of_erase T.nd ht, h⟩)
  · refine ⟨W ++ [w], ⟨own_fr e hf F, A', D', T', fun a f => (ff a f).elim (hf a) fun z => fresh_back e z⟩, by rw [List.length_append]; exact Nat.le_refl _, .inr (.inr ⟨hi, hw, rfl⟩)⟩
theorem ite_no {c : Bool} {X Y : Prop} (hc : c = false) (h : Y) : if c = true then X else Y := by rw [hc]; exact h
theorem q_callN {sp : Sp} {dvs vs : List V} {j : Nat} (h : EvA tr σ H vs) (hs : ∀ H1, Ex H H1 → sp (vs ++ dvs) H1 (fun v H2 => tz Dn (σ.set j (some v)) H2) E) : tSeq (tAsg (tCall sp dvs E tr) (gName j)) tz Dn σ H := h H (Ex.refl H) _ hs
def Many (v : V) (_ : Hp) : Prop := ∃ n : Nat, v = .int (n : Int) ∧ 398 ≤ n ∧ n ≤ 400
theorem many_up : Up Many := fun _ _ _ _ h => h
theorem g_many {n : Nat} (h1 : 398 ≤ n) (h2 : n ≤ 400) : EvG (tC (.int (n : Int))) σ H Many := g_ev many_up ev_c ⟨n, rfl, h1, h2⟩
theorem R_law_full (h : sp_law_full K vs H Q E) : T_law_full K CT CN CB CF (fin Q) (slots n_law_full vs) H := by
  obtain ⟨s, ns, v, rfl, hS, hns, hv, k⟩ := h
  show T_law_full K CT CN CB CF (fin Q) [some (.ref s), some v, none, none, none, none] H
  unfold T_law_full
  have hm0 := Int.emod_nonneg (cellAt ns 2) (show (4 : Int) ≠ 0 by decide)
  have hm1 := Int.emod_lt_of_pos (cellAt ns 2) (show (0 : Int) < 4 by decide)
  refine q_asgG (g_pick (n := 4) many_up (all_cons many_up (g_many (n := 400) (by decide) (by decide)) (all_cons many_up (g_many (n := 398) (by decide) (by decide)) (all_cons many_up (g_many (n := 400) (by decide) (by decide)) (all_cons many_up (g_many (n := 399) (by decide) (by decide)) all_nil)))) (e_mod (e_law_at (ev_var rfl) ev_c hS (by decide) hns) ev_c (by decide)) hm0 hm1 (by decide)) fun x H1 e1 hx => ?_
  obtain ⟨n, rfl, hn1, hn2⟩ := hx
  show tSeq _ _ _ [some (.ref s), some v, some (.int (n : Int)), none, none, none] H1
  refine q_callN (ea_cons (ev_var rfl) ea_nil) fun H2 e2 => ⟨n, rfl, hn2, fun r A D H3 hf e3 T => ?_⟩
  show tSeq _ _ _ [some (.ref s), some v, some (.int (n : Int)), some (.ref r), none, none] H3
  have e12 := e1.trans e2
  have hf : ∀ a, foot r A D (dom (fil n)) a → H a = none := fun a f => fresh_back e12 (hf a f)
  have e03 := e12.trans e3
  have hlen := fil_len n
  have wbc : isW [98, 99] = true := by decide
  have wab : isW [97, 98] = true := by decide
  have wzz : isW zz = true := by decide
  have ibc : [98, 99] ∈ fil n := fil_mem.mpr ⟨28, by omega, rfl⟩
  have iab : [97, 98] ∈ fil n := fil_mem.mpr ⟨1, by omega, rfl⟩
  refine q_when (b := false) (et_is (et_or (a := false) (b := false) (et_B (e_meth T.s (no_m (by decide +kernel) (by decide +kernel)) (ev_var rfl) (ea_cons ev_c ea_nil) fun H4 e4 Q q E => ⟨r, _, A, D, fil n, rfl, T.up e4, wds_any wbc, fun w' hw' _ => by
    rw [← tx_inj.mp hw']
    exact ⟨fun _ H5 e5 => q H5 e5, fun hn => absurd ibc hn, fun hn => absurd ibc hn⟩, fun hn => absurd ⟨_, rfl, wbc⟩ hn⟩)) fun _ => et_is (et_test (e_ne (e_meth T.s (no_m (by decide +kernel) (by decide +kernel)) (ev_var rfl) ea_nil fun H4 e4 Q q E => ⟨r, A, D, fil n, rfl, T.up e4, fun H5 e5 => q H5 e5⟩) (ev_var rfl) .ii)) (by rw [hlen]; simp)) rfl) (fun hh => by cases hh) (fun _ H4 e4 => ?_)
  have T4 := T.up e4
  have e04 := e03.trans e4
  -- take("ab"), put("ab")
  refine n_meth T4.s (no_m (by decide +kernel) (by decide +kernel)) (ev_var rfl) (ea_cons ev_c ea_nil) fun H5 e5 => ⟨r, _, A, D, fil n, rfl, T4.up e5, wds_any wab, fun w' hw' _ => ?_, fun hn => absurd ⟨_, rfl, wab⟩ hn⟩
  rw [← tx_inj.mp hw']
  refine ⟨fun hn => absurd iab hn, fun _ H6 T6 F6 => ⟨true, rfl, ite_no rfl ?_⟩⟩
  have e06 : Ex H H6 := own_fr (e04.trans e5) hf F6
  have hf6 : ∀ a, foot r A D (dom ((fil n).erase [97, 98])) a → H a = none := fun a f => by
    rcases f with rfl | ⟨t, ht, h⟩
    · exact hf _ (.inl rfl)
    · exact hf a (.inr ⟨t, dom_of_erase T.nd ht, h⟩)
  have hel : ((fil n).erase [97, 98]).length = n - 1 := by rw [List.length_erase_of_mem iab, hlen]
  refine n_meth T6.s (no_m (by decide +kernel) (by decide +kernel)) (ev_var rfl) (ea_cons ev_c ea_nil) fun H7 e7 => ⟨r, _, A, D, _, rfl, T6.up e7, wds_any wab, fun w' hw' _ => ?_, fun hn => absurd ⟨_, rfl, wab⟩ hn⟩
  rw [← tx_inj.mp hw']
  refine ⟨fun hin => absurd rfl ((fil_nd n).mem_erase_iff.mp hin).1, fun _ h400 => absurd h400 (by omega), fun _ _ A7 D7 H8 T8 F8 ff => ⟨true, rfl, ite_no rfl ?_⟩⟩
  have e08 : Ex H H8 := own_fr (e06.trans e7) hf6 F8
  have hf8 : ∀ a, foot r A7 D7 (dom ((fil n).erase [97, 98] ++ [[97, 98]])) a → H a = none := fun a f => (ff a f).elim (hf6 a) fun z => fresh_back (e06.trans e7) z
  have hlw : ((fil n).erase [97, 98] ++ [[97, 98]]).length = n := by rw [List.length_append, hel]; simp; omega
  have hmw : ∀ x, x ∈ (fil n).erase [97, 98] ++ [[97, 98]] ↔ x ∈ fil n := fun x => by
    rw [List.mem_append, (fil_nd n).mem_erase_iff, List.mem_singleton]
    constructor
    · rintro (h | rfl)
      · exact h.2
      · exact iab
    · intro h
      by_cases hx : x = [97, 98]
      · exact .inr hx
      · exact .inl ⟨hx, h⟩
  generalize (fil n).erase [97, 98] ++ [[97, 98]] = W at T8 hf8 hlw hmw
  clear ff F8 hel hf6 T6 F6 e06 T4 T
  refine (show tSeq _ _ (fin Q) [some (.ref s), some v, some (.int (n : Int)), some (.ref r), none, none] H8 from ?_)
  have nodes : ∀ {σ : L2.St} {A D : List Nat → Addr} {W : List (List Nat)} {H9}, Tree K CT CN r A D W H9 → W.length ≤ 1000 → σ[3]? = some (some (.ref r)) → Ev (tMeth CT "nodes" (sp_Tree_nodes K CT CN) [] E0 (tVar 3) tNil) σ H9 (.int ((begs W).length : Int)) := fun T hW hσ =>
    e_meth T.s (no_m (by decide +kernel) (by decide +kernel)) (ev_var hσ) ea_nil fun H4 e4 Q q E => ⟨r, _, _, _, rfl, T.up e4, hW, fun H5 e5 => q H5 e5⟩
  refine q_asg (nodes T8 (by omega) rfl) fun H9 e9 => ?_
  have e09 := e08.trans e9
  have T9 := T8.up e9
  have hv9 := any_up _ _ _ e09 hv
  obtain ⟨b, hb, hbw⟩ := e_lisw (K := K) (ta := tVar 1) (σ := [some (.ref s), some v, some (.int (n : Int)), some (.ref r), some (.int ((begs W).length : Int)), none]) (v := v) (ev_var rfl) hv9
  have any1 : ∀ {H}, Any (.int 1) H := .inr odd_int
  refine q_when (b := false) (et_is (et_and (a := !b) (b := false) (et_not (et_B hbw)) fun hh => et_is (et_test (e_neB (a := [true, false, false, false]) (b := [true, false, false, false]) (g_refused (i := 8) (r := r) (v := v) (u := .int 1) (ea_cons ev_c (ea_cons (ev_var rfl) (ea_cons (ev_var rfl) (ea_cons ev_c ea_nil)))) (by decide) (by decide) T9 (by omega) hv9 (fun _ _ => any1) fun bs H1 H2 e ho => by
    have hnw : ¬ IsWd v := fun z => by rw [hb.mpr z] at hh; cases hh
    cases ho with
    | word _ e => exact ⟨rfl, e⟩
    | most h => exact absurd h hnw
    | full h hw => exact absurd ⟨_, h, hw⟩ hnw
    | ok h hw => exact absurd ⟨_, h, hw⟩ hnw) (gb_l (el_lst (ea_cons ev_c (ea_cons ev_c (ea_cons ev_c (ea_cons ev_c ea_nil)))) (by simp))))) (by simp)) (by simp)) (fun hh => by cases hh) (fun _ H10 e10 => ?_)
  have T10 := T9.up e10
  have e010 := e09.trans e10
  have hzW : zz ∉ W := fun h => zz_fil ((hmw _).mp h)
  have tail : ∀ H11 W', Own8 K CT CN H r W' H11 → W'.length ≤ 1000 → (n = 400 → W' = W) → (∀ x, x ∈ W' ↔ x ∈ fil n ∨ (n < 400 ∧ x = zz)) → (tSeq (tAsg (tMeth CT "has" (sp_Tree_has K CT CN CB) [] E0 (tVar 3) (tCons (tC (tx [122, 122, 122, 122])) tNil)) (gName 5))
 (tSeq (tIfS (tOr (tNot (tB (tCB (nIsi K) (tCons (tVar 5) (tCons (tC (.ty "bool")) tNil))))) (tOr (tTest (tOp nNe (tVar 5) (tOp nLt (tVar 2) (tC (.int 400))))) (tAnd (tTest (tOp nEq (tVar 2) (tC (.int 400)))) (tTest (tOp nNe (tMeth CT "nodes" (sp_Tree_nodes K CT CN) [] E0 (tVar 3) tNil) (tVar 4))))))
 (tRet (tC (.bl false))) tNext)
 (tRet (tCall (sp_law_great K CT CN) [] E0 (tCons (tVar 3) (tCons (tVar 2) (tCons (tOp nEq (tOp nMod (tCall (sp_law_at K) [] E0 (tCons (tVar 0) (tCons (tC (.int 2)) tNil))) (tC (.int 8))) (tC (.int 0))) tNil))))))) (fin Q) [some (.ref s), some v, some (.int (n : Int)), some (.ref r), some (.int ((begs W).length : Int)), none] H11 := fun H11 W' o hl hW4 hm => by
    obtain ⟨e11, A, D, T, hf⟩ := o
    have hz : decide (zz ∈ W') = decide ((n : Int) < 400) := dec_eq (by
      rw [hm]
      constructor
      · rintro (h | h)
        · exact absurd h zz_fil
        · omega
      · intro h
        exact .inr ⟨by omega, rfl⟩)
    refine q_asg (v := .bl (decide (zz ∈ W'))) (e_meth T.s (no_m (by decide +kernel) (by decide +kernel)) (ev_var rfl) (ea_cons ev_c ea_nil) fun H4 e4 Q q E => ⟨r, _, A, D, W', rfl, T.up e4, wds_any wzz, fun w' hw' _ => by
      rw [← tx_inj.mp hw']
      exact fun H5 e5 => q H5 e5, fun hn => absurd ⟨_, rfl, wzz⟩ hn⟩) fun H12 e12 => ?_
    have T12 := T.up e12
    refine q_when (b := false) (et_is (et_or (a := false) (b := false) (et_not (et_B (b := true) (e_isBool (ev_var rfl)))) fun _ => et_or (a := false) (b := false) (et_is (et_test (e_ne (ev_var rfl) (e_lt (ev_var rfl) ev_c) .bb)) (by rw [hz]; simp)) fun _ => et_is (et_and (a := decide ((n : Int) = 400)) (b := false) (et_test (e_eq (ev_var rfl) ev_c .ii)) fun hh => et_is (et_test (e_ne (nodes T12 hl rfl) (ev_var rfl) .ii)) (by rw [hW4 (by have := of_decide_eq_true hh; omega)]; simp)) (by simp)) rfl) (fun hh => by cases hh) (fun _ H13 e13 => ?_)
    have e1113 := e12.trans e13
    refine n_callW (ea_cons (ev_var rfl) (ea_cons (ev_var rfl) (ea_cons (e_eq (e_mod (e_law_at (ev_var rfl) ev_c (ex_l (e11.trans e1113) hS) (by decide) hns) ev_c (by decide)) ev_c .ii) ea_nil))) fun H14 e14 => ⟨r, n, _, A, D, W', rfl, by omega, hn2, T.up (e1113.trans e14), hm, hl, fun H15 e15 => k _ (((e11.trans e1113).trans e14).trans e15)⟩
  -- nodes() != ahead or refused(8, tree, "zzzz", 1) != ..
  refine (et_is (b := false) (et_test (e_ne (nodes T10 (by omega) rfl) (ev_var rfl) .ii)) (by simp)) H10 (Ex.refl _) _ fun H11 e11 => ite_no rfl ?_
  have T11 := T10.up e11
  have e011 := e010.trans e11
  refine tt_refused (i := 8) (r := r) (v := tx zz) (u := .int 1) (ea_cons ev_c (ea_cons (ev_var rfl) (ea_cons ev_c (ea_cons ev_c ea_nil)))) (by decide) (by decide) T11 (by omega) (wds_any wzz) (fun _ _ => any1) fun bs H12 H13 e12 ho => ⟨[false, false, false, decide ((n : Int) = 400)], gb_l (el_lst (ea_cons ev_c (ea_cons ev_c (ea_cons ev_c (ea_cons (e_eq (ev_var rfl) ev_c .ii) ea_nil)))) (by simp)), fun H14 e14 => ?_⟩
  have e012 := e011.trans e12
  cases ho with
  | word h => exact absurd ⟨_, rfl, wzz⟩ h
  | most h hi => exact absurd hi (by decide)
  | full h hw hi hn hl e =>
    have h400 : n = 400 := by omega
    refine ite_no (by rw [decide_eq_true (show (n : Int) = 400 by omega)]; rfl) ?_
    exact tail H14 W ⟨(e012.trans e).trans e14, A7, D7, T11.up ((e12.trans e).trans e14), hf8⟩ (by omega) (fun _ => rfl) fun x => by
      rw [hmw x]
      exact ⟨.inl, fun z => z.elim id fun z => absurd z.1 (by omega)⟩
  | ok h hw hm a =>
    rw [← tx_inj.mp h] at a
    have T12 := T11.up e12
    rcases a with ⟨_, _, h2⟩ | ⟨hi, _⟩ | ⟨_, _, hl, A', D', T', F, ff⟩
    · exact absurd ⟨rfl, hzW⟩ h2
    · exact absurd hi (by decide)
    · refine ite_no (by rw [decide_eq_false (show ¬ (n : Int) = 400 by omega)]; rfl) ?_
      have o : Own8 K CT CN H r (W ++ [zz]) H13 := ⟨own_fr e012 hf8 F, A', D', T', fun a f => (ff a f).elim (hf8 a) fun z => fresh_back e012 z⟩
      exact tail H14 (W ++ [zz]) (o.up e14) (by rw [List.length_append]; simp; omega) (fun z => absurd z (by omega)) fun x => by
        rw [List.mem_append, hmw x, List.mem_singleton]
        exact or_congr_right ⟨fun z => ⟨by omega, z⟩, fun z => z.2⟩
end
end Nw

set_option Elab.async false
set_option linter.all false
set_option maxRecDepth 100000
/-! Nw.K08: what is refused -/
namespace Nw
open PySem L2 Evl
def sp_law8 (K : PySem.W.Frag) : Sp := sp_law1 K
/- law(_law_script): slots 0:_law_script 1:_law_words_here 2:_law_tree_here 3:_law_ahead 4:_law_nodes 5:_law_cell 6:_law_thing_here 7:_law_most 8:_law_odd 9:_law_bad_most 10:_law_call 11:_law_due -/
def T_law8_t (K : PySem.W.Frag) (C_Tree C_Node : Addr) (C_BadWord : Addr) : TS :=
 (tSeq (tAsg (tOp nRep (tLst (tCons (tC (.bl false)) tNil)) (tC (.int 4))) (gName 11))
 (tSeq (tIfS (tNot (tB (tCall (sp_law_is_word K) [] E0 (tCons (tVar 6) tNil))))
 (tAsg (tLst (tCons (tC (.bl true)) (tCons (tC (.bl false)) (tCons (tC (.bl false)) (tCons (tC (.bl false)) tNil))))) (gName 11)) (tIfS (tAnd (tTest (tOp (nInL K) (tVar 10) (tTup (tCons (tC (.int 6)) (tCons (tC (.int 7)) tNil))))) (tB (tVar 9)))
 (tAsg (tLst (tCons (tC (.bl false)) (tCons (tC (.bl false)) (tCons (tC (.bl true)) (tCons (tC (.bl false)) tNil))))) (gName 11)) tNext))
 (tSeq (tIfS (tAnd (tTest (tOp nGt (tVar 10) (tC (.int 0)))) (tTest (tOp (nNeD K) (tCall (sp_law_refused K C_Tree C_Node) [] E0 (tCons (tVar 10) (tCons (tVar 2) (tCons (tVar 6) (tCons (tVar 7) tNil))))) (tVar 11))))
 (tRet (tC (.bl false))) tNext)
 (tIfS (tAnd (tOr (tTest (tOp nLt (tVar 10) (tC (.int 8)))) (tB (tOp (nIxL K) (tVar 11) (tC (.int 0))))) (tOr (tTest (tOp (nNeD K) (tMeth C_Tree "words" (sp_Tree_words K C_Tree C_Node C_BadWord) [] E0 (tVar 2) tNil) (tVar 3))) (tTest (tOp nNe (tMeth C_Tree "nodes" (sp_Tree_nodes K C_Tree C_Node) [] E0 (tVar 2) tNil) (tVar 4)))))
 (tRet (tC (.bl false))) tNext))))
def T_law8_d (K : PySem.W.Frag) (C_Tree C_Node : Addr) (C_BadWord : Addr) : TS :=
 (tSeq (tIfS (tTest (tOp (nNeD K) (tCall (sp_law_refused K C_Tree C_Node) [] E0 (tCons (tC (.int 0)) (tCons (tVar 2) (tCons (tVar 6) (tCons (tVar 7) tNil))))) (tLst (tCons (tNotV (tCall (sp_law_is_word K) [] E0 (tCons (tVar 6) tNil))) (tCons (tC (.bl false)) (tCons (tC (.bl false)) (tCons (tC (.bl false)) tNil)))))))
 (tRet (tC (.bl false))) tNext)
 (tRet (tOrV (tOp nNe (tOp nMod (tCall (sp_law_at K) [] E0 (tCons (tVar 0) (tCons (tC (.int 1)) tNil))) (tC (.int 8))) (tC (.int 3))) (tCall (sp_law_full K) [] E0 (tCons (tVar 0) (tCons (tVar 6) tNil))))))
def T_law8_c (K : PySem.W.Frag) (C_Tree C_Node : Addr) (C_BadWord : Addr) : TS :=
 (tSeq (tAsg (tAndV (tOp (nInX K) (tVar 7) (tVar 8)) (tOrV (tCB (nIsi K) (tCons (tVar 7) (tCons (tC (.ty "bool")) tNil))) (tOrV (tNotV (tCB (nIsi K) (tCons (tVar 7) (tCons (tC (.ty "int")) tNil)))) (tNotV (tChain nLe nLe (tC (.int 0)) (tVar 7) (tC (.int 24))))))) (gName 9))
 (tSeq (tFor (iRng1 (tCons (tC (.int 9)) tNil)) (gName 10)
 (T_law8_t K C_Tree C_Node C_BadWord))
 (T_law8_d K C_Tree C_Node C_BadWord)))
def T_law8_b (K : PySem.W.Frag) (C_Tree C_Node : Addr) (C_BadWord : Addr) : TS :=
 (tSeq (tAsg (tOp nMod (tOp nDiv (tCall (sp_law_at K) [] E0 (tCons (tVar 0) (tCons (tC (.int 17)) tNil))) (tC (.int 2))) (tC (.int 25))) (gName 7))
 (tSeq (tAsg (tLst (tCons (tUn nNeg (tC (.int 1))) (tCons (tC (.int 25)) (tCons (tC (.bl true)) (tCons (tC (.bl false)) (tCons (tC .non) (tCons (tC (tx [51])) (tCons (tTup (tCons (tC (.int 1)) tNil)) (tCons (tLst (tCons (tC (.int 2)) tNil)) (tCons tDNewK tNil)))))))))) (gName 8))
 (tSeq (tIfS (tTest (tOp nEq (tOp nMod (tCall (sp_law_at K) [] E0 (tCons (tVar 0) (tCons (tC (.int 17)) tNil))) (tC (.int 2))) (tC (.int 1))))
 (tAsg (tOp (nIxL K) (tVar 8) (tOp nMod (tOp nDiv (tCall (sp_law_at K) [] E0 (tCons (tVar 0) (tCons (tC (.int 17)) tNil))) (tC (.int 2))) (tC (.int 9)))) (gName 7)) tNext)
 (T_law8_c K C_Tree C_Node C_BadWord))))
def T_law8 (K : PySem.W.Frag) (C_Tree C_Node : Addr) (C_BadWord : Addr) : TS :=
 (tSeq (tAsg (tCall (sp_law_words K) [] E0 (tCons (tVar 0) tNil)) (gName 1))
 (tSeq (tAsg (tCall (sp_law_tree K C_Tree C_Node) [] E0 (tCons (tVar 1) tNil)) (gName 2))
 (tSeq (tAsg (tMeth C_Tree "words" (sp_Tree_words K C_Tree C_Node C_BadWord) [] E0 (tVar 2) tNil) (gName 3))
 (tSeq (tAsg (tMeth C_Tree "nodes" (sp_Tree_nodes K C_Tree C_Node) [] E0 (tVar 2) tNil) (gName 4))
 (tSeq (tAsg (tCall (sp_law_at K) [] E0 (tCons (tVar 0) (tCons (tC (.int 16)) tNil))) (gName 5))
 (tSeq (tAsg (tOp (nIxL K) (tVar 1) (tOp nMod (tVar 5) (tCB (nLenL K) (tCons (tVar 1) tNil)))) (gName 6))
 (tSeq (tIfS (tTest (tOp nGt (tOp nMod (tOp nDiv (tVar 5) (tC (.int 16))) (tC (.int 3))) (tC (.int 0))))
 (tAsg (tCall (sp_law_thing K) [] E0 (tCons (tOp nDiv (tVar 5) (tC (.int 48))) tNil)) (gName 6)) tNext)
 (T_law8_b K C_Tree C_Node C_BadWord))))))))
def n_law8 : Nat := 12
theorem l_law8 {K vs H Q E} (h : sp_law8 K vs H Q E) : vs.length = 1 := by obtain ⟨_, _, rfl, _⟩ := h; rfl
/-- the nine odd things -/
def Odds (xs : List V) (H : Hp) : Prop := ∃ t l d : Addr, xs = [.int (-1), .int 25, .bl true, .bl false, .non, tx [51], .ref t, .ref l, .ref d] ∧ H t = some (.tup [.int 1]) ∧ H l = some (.lst [.int 2]) ∧ H d = some (.dK [])
theorem odds_up {xs : List V} {H H' : Hp} (e : Ex H H') (h : Odds xs H) : Odds xs H' := by
  obtain ⟨t, l, d, h0, h1, h2, h3⟩ := h
  exact ⟨t, l, d, h0, e _ _ h1, e _ _ h2, e _ _ h3⟩
theorem odds_any {xs : List V} {H : Hp} (h : Odds xs H) : ∀ x ∈ xs, Any x H ∧ ¬ IsM x := by
  obtain ⟨t, l, d, rfl, h1, h2, h3⟩ := h
  intro x hx
  simp only [List.mem_cons, List.not_mem_nil, or_false] at hx
  rcases hx with rfl | rfl | rfl | rfl | rfl | rfl | rfl | rfl | rfl
  · exact ⟨.inr odd_int, fun ⟨m, e, h⟩ => by have := V.int.inj e; omega⟩
  · exact ⟨.inr odd_int, fun ⟨m, e, h⟩ => by have := V.int.inj e; omega⟩
  · exact ⟨.inr odd_bl, fun ⟨m, e, h⟩ => by cases e⟩
  · exact ⟨.inr odd_bl, fun ⟨m, e, h⟩ => by cases e⟩
  · exact ⟨.inr odd_non, fun ⟨m, e, h⟩ => by cases e⟩
  · exact ⟨.inl ⟨[51], rfl, by decide⟩, fun ⟨m, e, h⟩ => by cases e⟩
  · exact ⟨.inr (odd_t h1), fun ⟨m, e, h⟩ => by cases e⟩
  · exact ⟨.inr (odd_l h2), fun ⟨m, e, h⟩ => by cases e⟩
  · exact ⟨.inr (odd_d h3), fun ⟨m, e, h⟩ => by cases e⟩
/-- x == z, for x, z of the odd things, or x a most -/
def eO (x z : V) : Bool := if flatV z = true ∧ flatV x = true then eqV z x else decide (z = x)
theorem eO_at {xs : List V} {H : Hp} (h : Odds xs H) {x : V} (hx : IsM x ∨ x ∈ xs) : (∀ z ∈ xs, EqX H z x (eO x z)) ∧ (x ∈ xs → xs.any (eO x) = true) := by
  obtain ⟨t, l, d, rfl, h1, h2, h3⟩ := h
  have kx : (∃ i : Int, x = .int i) ∨ (∃ b, x = .bl b) ∨ x = .non ∨ x = tx [51] ∨ x = .ref t ∨ x = .ref l ∨ x = .ref d := by
    rcases hx with ⟨m, rfl, _⟩ | hx
    · exact .inl ⟨_, rfl⟩
    · simp only [List.mem_cons, List.not_mem_nil, or_false] at hx
      rcases hx with rfl | rfl | rfl | rfl | rfl | rfl | rfl | rfl | rfl
      · exact .inl ⟨_, rfl⟩
      · exact .inl ⟨_, rfl⟩
      · exact .inr (.inl ⟨_, rfl⟩)
      · exact .inr (.inl ⟨_, rfl⟩)
      · exact .inr (.inr (.inl rfl))
      · exact .inr (.inr (.inr (.inl rfl)))
      · exact .inr (.inr (.inr (.inr (.inl rfl))))
      · exact .inr (.inr (.inr (.inr (.inr (.inl rfl)))))
      · exact .inr (.inr (.inr (.inr (.inr (.inr rfl)))))
  have kk : ∀ y : V, ((∃ i : Int, y = .int i) ∨ (∃ b, y = .bl b) ∨ y = .non ∨ y = tx [51] ∨ y = .ref t ∨ y = .ref l ∨ y = .ref d) → (flatV y = true) ∨ (y = .ref t ∧ OfK H y 2) ∨ (y = .ref l ∧ OfK H y 1) ∨ (y = .ref d ∧ OfK H y 3) := fun y hy => by
    rcases hy with ⟨i, rfl⟩ | ⟨b, rfl⟩ | rfl | rfl | rfl | rfl | rfl
    · exact .inl rfl
    · exact .inl rfl
    · exact .inl rfl
    · exact .inl rfl
    · exact .inr (.inl ⟨rfl, t, _, rfl, h1⟩)
    · exact .inr (.inr (.inl ⟨rfl, l, _, rfl, h2⟩))
    · exact .inr (.inr (.inr ⟨rfl, d, _, rfl, h3⟩))
  have nf : ∀ {a : Addr}, ¬ flatV (.ref a) = true := fun z => by cases z
  have ne1 : t ≠ l := fun z => by rw [z, h2] at h1; cases h1
  have ne2 : t ≠ d := fun z => by rw [z, h3] at h1; cases h1
  have ne3 : l ≠ d := fun z => by rw [z, h3] at h2; cases h2
  refine ⟨fun z hz => ?_, fun hm => ?_⟩
  · have kz : (∃ i : Int, z = .int i) ∨ (∃ b, z = .bl b) ∨ z = .non ∨ z = tx [51] ∨ z = .ref t ∨ z = .ref l ∨ z = .ref d := by
      simp only [List.mem_cons, List.not_mem_nil, or_false] at hz
      rcases hz with rfl | rfl | rfl | rfl | rfl | rfl | rfl | rfl | rfl
      · exact .inl ⟨_, rfl⟩
      · exact .inl ⟨_, rfl⟩
      · exact .inr (.inl ⟨_, rfl⟩)
      · exact .inr (.inl ⟨_, rfl⟩)
      · exact .inr (.inr (.inl rfl))
      · exact .inr (.inr (.inr (.inl rfl)))
      · exact .inr (.inr (.inr (.inr (.inl rfl))))
      · exact .inr (.inr (.inr (.inr (.inr (.inl rfl)))))
      · exact .inr (.inr (.inr (.inr (.inr (.inr rfl)))))
    unfold eO
    have far : ∀ {i j : Nat}, OfK H z i → OfK H x j → i ≠ j → z ≠ x → ¬ (flatV z = true ∧ flatV x = true) → EqX H z x (if flatV z = true ∧ flatV x = true then eqV z x else decide (z = x)) := fun hi hj hne hzx hn => by
      rw [if_neg hn, decide_eq_false hzx]
      exact .inr (.inr ⟨_, _, hi, hj, hne, rfl⟩)
    have same : ∀ {a : Addr}, z = .ref a → x = .ref a → EqX H z x (if flatV z = true ∧ flatV x = true then eqV z x else decide (z = x)) := fun {a} e1 e2 => by
      rw [if_neg (fun h => nf (a := a) (e1 ▸ h.1)), decide_eq_true (e1.trans e2.symm)]
      exact .inr (.inl ⟨a, e1, e2, rfl⟩)
    have nr : ∀ {a : Addr} {y : V}, flatV y = true → y ≠ .ref a := fun h z => nf (z ▸ h)
    have rr : ∀ {a b : Addr}, a ≠ b → (V.ref a) ≠ .ref b := fun h z => h (V.ref.inj z)
    rcases kk z kz with fz | ⟨ez, oz⟩ | ⟨ez, oz⟩ | ⟨ez, oz⟩ <;> rcases kk x kx with fx | ⟨ex, ox⟩ | ⟨ex, ox⟩ | ⟨ex, ox⟩
    · rw [if_pos ⟨fz, fx⟩]
      exact .inl ⟨fz, fx, rfl⟩
    · exact far (i := 0) fz ox (by decide) (ex ▸ nr fz) (fun h => nf (ex ▸ h.2))
    · exact far (i := 0) fz ox (by decide) (ex ▸ nr fz) (fun h => nf (ex ▸ h.2))
    · exact far (i := 0) fz ox (by decide) (ex ▸ nr fz) (fun h => nf (ex ▸ h.2))
    · exact far (j := 0) oz fx (by decide) (ez ▸ (nr fx).symm) (fun h => nf (ez ▸ h.1))
    · exact same ez ex
    · exact far oz ox (by decide) (by rw [ez, ex]; exact rr ne1) (fun h => nf (ez ▸ h.1))
    · exact far oz ox (by decide) (by rw [ez, ex]; exact rr ne2) (fun h => nf (ez ▸ h.1))
    · exact far (j := 0) oz fx (by decide) (ez ▸ (nr fx).symm) (fun h => nf (ez ▸ h.1))
    · exact far oz ox (by decide) (by rw [ez, ex]; exact rr ne1.symm) (fun h => nf (ez ▸ h.1))
    · exact same ez ex
    · exact far oz ox (by decide) (by rw [ez, ex]; exact rr ne3) (fun h => nf (ez ▸ h.1))
    · exact far (j := 0) oz fx (by decide) (ez ▸ (nr fx).symm) (fun h => nf (ez ▸ h.1))
    · exact far oz ox (by decide) (by rw [ez, ex]; exact rr ne2.symm) (fun h => nf (ez ▸ h.1))
    · exact far oz ox (by decide) (by rw [ez, ex]; exact rr ne3.symm) (fun h => nf (ez ▸ h.1))
    · exact same ez ex
  · refine List.any_eq_true.mpr ⟨x, hm, ?_⟩
    unfold eO
    by_cases hf : flatV x = true ∧ flatV x = true
    · rw [if_pos hf]
      rcases kx with ⟨i, rfl⟩ | ⟨b, rfl⟩ | rfl | rfl | rfl | rfl | rfl
      · show (i == i) = true
        simp
      · show (b == b) = true
        simp
      · rfl
      · show ((⟨[51].toArray⟩ : Str) == ⟨[51].toArray⟩) = true
        simp
      · exact absurd hf.1 nf
      · exact absurd hf.1 nf
      · exact absurd hf.1 nf
    · rw [if_neg hf]
      exact decide_eq_true rfl
section
variable {K : PySem.W.Frag} {vs : List V} {H H' H0 : Hp} {Q : VK} {E : XK} {CT CN CB CM CF r s p : Addr} {A D : List Nat → Addr} {W ws : List (List Nat)} {σ : L2.St} {ta tb tc te : TE} {tr : TA} {Dn : Ends} {tz : TS} {w : List Nat} {v u x : V} {i : Int}
theorem q_lst1 {j : Nat} (h : tr σ H (fun xs H1 => xs.length ≤ sizeLine ∧ ∀ p, H1 p = none → tz Dn (σ.set j (some (.ref p))) (L2.upd H1 p (.lst xs)))) : tSeq (tAsg (tLst tr) (gName j)) tz Dn σ H := h
theorem c_cons {F : List V → Hp → Prop} (h : Ev ta σ H v) (k : ∀ H1, Ex H H1 → tr σ H1 (fun vs H2 => F (v :: vs) H2)) : tCons ta tr σ H F := h H (Ex.refl H) _ k
theorem c_consU {F : List V → Hp → Prop} {xs : List V} (h : EvU ta σ H xs) (k : ∀ p H1, Ex H H1 → H1 p = some (.tup xs) → tr σ H1 (fun vs H2 => F (.ref p :: vs) H2)) : tCons ta tr σ H F := h H (Ex.refl H) _ fun p H2 _ => k p H2
theorem c_consL {F : List V → Hp → Prop} {xs : List V} (h : EvL ta σ H xs) (k : ∀ p H1, Ex H H1 → H1 p = some (.lst xs) → tr σ H1 (fun vs H2 => F (.ref p :: vs) H2)) : tCons ta tr σ H F := h H (Ex.refl H) _ fun p H2 _ => k p H2
theorem c_consD {F : List V → Hp → Prop} (k : ∀ p H1, Ex H H1 → H1 p = some (.dK []) → tr σ H1 (fun vs H2 => F (.ref p :: vs) H2)) : tCons tDNewK tr σ H F := fun p hp => k p _ (Ex.new hp) upd_same
theorem c_nil {F : List V → Hp → Prop} (k : F [] H) : tNil σ H F := k
/-- odd = [-1, 25, True, ..] -/
theorem q_odds {j : Nat} (k : ∀ p xs H1, Ex H H1 → H1 p = some (.lst xs) → Odds xs H1 → tz Dn (σ.set j (some (.ref p))) H1) :
    tSeq (tAsg (tLst (tCons (tUn nNeg (tC (.int 1))) (tCons (tC (.int 25)) (tCons (tC (.bl true)) (tCons (tC (.bl false)) (tCons (tC .non) (tCons (tC (tx [51])) (tCons (tTup (tCons (tC (.int 1)) tNil)) (tCons (tLst (tCons (tC (.int 2)) tNil)) (tCons tDNewK tNil)))))))))) (gName j)) tz Dn σ H := by
  refine q_lst1 (c_cons (e_neg (ev_c (v := .int 1))) fun H1 e1 => c_cons ev_c fun H2 e2 => c_cons ev_c fun H3 e3 => c_cons ev_c fun H4 e4 => c_cons ev_c fun H5 e5 => c_cons ev_c fun H6 e6 => c_consU (eu_tup (ea_cons ev_c ea_nil) (by simp)) fun t H7 e7 ht => c_consL (el_lst (ea_cons ev_c ea_nil) (by simp)) fun l H8 e8 hl => c_consD fun d H9 e9 hd => c_nil ?_)
  refine ⟨sz_of (by show 9 ≤ 100000; decide), fun p hp => ?_⟩
  have e10 : Ex H9 (L2.upd H9 p (.lst [.int (-1), .int 25, .bl true, .bl false, .non, tx [51], .ref t, .ref l, .ref d])) := Ex.new hp
  exact k p _ _ (((((((((e1.trans e2).trans e3).trans e4).trans e5).trans e6).trans e7).trans e8).trans e9).trans e10) upd_same ⟨t, l, d, rfl, e10 _ _ (e9 _ _ (e8 _ _ ht)), e10 _ _ (e9 _ _ hl), e10 _ _ hd⟩
/-- most in odd -/
theorem e_inOdd {xs : List V} (ha : Ev ta σ H x) (hb : Ev tb σ H (.ref p)) (hp : H p = some (.lst xs)) (ho : Odds xs H) (hx : IsM x ∨ x ∈ xs) : ∃ b, (x ∈ xs → b = true) ∧ Ev (tOp (nInX K) ta tb) σ H (.bl b) :=
  ⟨xs.any (eO x), (eO_at ho hx).2, ev_op ha hb fun H1 e Q q => ⟨p, xs, eO x, rfl, .inl (sq_of (e _ _ hp)), (eO_at (odds_up e ho) hx).1, q H1 (Ex.refl H1)⟩⟩
/-- bad most -/
theorem e_bad {xs : List V} (h7 : ∀ {H'}, Ev (tVar 7) σ H' x) (h8 : ∀ {H'}, Ev (tVar 8) σ H' (.ref p)) (hp : H p = some (.lst xs)) (ho : Odds xs H) (hx : IsM x ∨ x ∈ xs) (hv : Any x H) :
    ∃ b, (b = true ↔ ¬ IsM x) ∧ Ev (tAndV (tOp (nInX K) (tVar 7) (tVar 8)) (tOrV (tCB (nIsi K) (tCons (tVar 7) (tCons (tC (.ty "bool")) tNil))) (tOrV (tNotV (tCB (nIsi K) (tCons (tVar 7) (tCons (tC (.ty "int")) tNil)))) (tNotV (tChain nLe nLe (tC (.int 0)) (tVar 7) (tC (.int 24))))))) σ H (.bl b) := by
  obtain ⟨b0, hb0, hin⟩ := e_inOdd (K := K) (σ := σ) h7 h8 hp ho hx
  obtain ⟨b, c, h1, h2, h3⟩ := e_isInt (K := K) (σ := σ) (ta := tVar 7) h7 hv
  by_cases hm : IsM x
  · obtain ⟨m, rfl, hm'⟩ := id hm
    have h3 : (b && !c) = true := h3
    rw [Bool.and_eq_true] at h3
    obtain ⟨hb, hc⟩ := h3
    have hc : c = false := by simpa using hc
    subst hb hc
    refine ⟨b0 && (false || (!true || !decide ((0 : Int) ≤ (m : Int) ∧ (m : Int) ≤ 24))), ⟨fun z => ?_, fun z => absurd hm z⟩, ev_andV hin fun _ => ev_orV h2 fun _ => ev_orV (ev_notV h1) fun _ => ev_notV (e_chain2 ev_c h7 ev_c)⟩
    rw [decide_eq_true (show (0 : Int) ≤ (m : Int) ∧ (m : Int) ≤ 24 by omega)] at z
    simp at z
  · have hin' : x ∈ xs := hx.resolve_left hm
    have hb0 := hb0 hin'
    subst hb0
    refine ⟨true, ⟨fun _ => hm, fun _ => rfl⟩, ?_⟩
    cases hi : isI x with
    | true =>
      obtain ⟨z, rfl⟩ : ∃ z, x = .int z := by
        cases x with
        | int z => exact ⟨z, rfl⟩
        | _ => cases hi
      rw [hi, Bool.and_eq_true] at h3
      obtain ⟨hb, hc⟩ := h3
      have hc : c = false := by simpa using hc
      subst hb hc
      have hz : decide ((0 : Int) ≤ z ∧ z ≤ 24) = false := decide_eq_false fun h => hm ⟨z.toNat, by congr 1; omega, by omega⟩
      have hch := e_chain2 (σ := σ) (H := H) (ta := tC (.int 0)) (tb := tVar 7) (tc := tC (.int 24)) (i := 0) (j := z) (m := 24) ev_c h7 ev_c
      rw [hz] at hch
      exact ev_is (ev_andV hin fun _ => ev_orV h2 fun _ => ev_orV (ev_notV h1) fun _ => ev_notV hch) rfl
    | false =>
      rw [hi] at h3
      cases c with
      | true => exact ev_is (ev_andV hin fun _ => ev_orV (b := true) h2 fun hh => by cases hh) rfl
      | false =>
        have hb : b = false := by simpa using h3
        subst hb
        exact ev_is (ev_andV hin fun _ => ev_orV h2 fun _ => ev_orV (b := true) (ev_notV h1) fun hh => by cases hh) rfl
theorem q_ift {t : TT} {tu : TS} (h : t σ H (fun b H2 => if b = true then tu { Dn with nx := tz Dn } σ H2 else tz Dn σ H2)) : tSeq (tIfS t tu tNext) tz Dn σ H := h
theorem q_and1 {t t' : TT} {tu : TS} (h : EvT t σ H true) (k : ∀ H1, Ex H H1 → t' σ H1 (fun b H2 => if b = true then tu { Dn with nx := tz Dn } σ H2 else tz Dn σ H2)) : tSeq (tIfS (tAnd t t') tu tNext) tz Dn σ H := h H (Ex.refl H) _ fun H1 e => by
  rw [if_pos rfl]
  exact k H1 e
/-- what a call has to tell -/
def dueB (bw b : Bool) (i : Nat) : List Bool := [!bw, false, bw && (decide (i = 6 ∨ i = 7) && b), false]
theorem in67 : ∀ i : Fin 9, inV (.int (i.val : Int)) [.int 6, .int 7] = decide (i.val = 6 ∨ i.val = 7) := by decide +kernel
theorem e_in67 {i : Nat} {j : Nat} (hi : i ≤ 8) (hσ : σ[j]? = some (some (.int (i : Int)))) : Ev (tOp (nInL K) (tVar j) (tTup (tCons (tC (.int 6)) (tCons (tC (.int 7)) tNil)))) σ H (.bl (decide (i = 6 ∨ i = 7))) := fun H1 e Q q =>
  (ev_var hσ : Ev (tVar j) σ H (.int (i : Int))) H1 e _ fun H2 e2 => eu_tup (ea_cons (ev_c (v := .int 6)) (ea_cons (ev_c (v := .int 7)) ea_nil)) (by simp) H2 (e.trans e2) _ fun p H3 hp e3 h3 => ⟨p, _, rfl, .inr (SqT.of h3), rfl, rfl, by
    show Q (.bl (inV (.int (i : Int)) [.int 6, .int 7])) H3
    rw [show inV (.int (i : Int)) [.int 6, .int 7] = decide (i = 6 ∨ i = 7) from in67 ⟨i, by omega⟩]
    exact q H3 (e2.trans e3)⟩
theorem q_due {i : Nat} {bw b : Bool} {x0 x1 x2 x3 x4 x5 x7 x8 x11 : Option V} (hi : i ≤ 8) (hb : bw = true ↔ IsWd v) (hv : Any v H)
    (k : ∀ d H2, Ex H H2 → H2 d = some (.lst ((dueB bw b i).map V.bl)) → tz Dn [x0, x1, x2, x3, x4, x5, some v, x7, x8, some (.bl b), some (.int (i : Int)), some (.ref d)] H2) :
    tSeq (tAsg (tOp nRep (tLst (tCons (tC (.bl false)) tNil)) (tC (.int 4))) (gName 11))
 (tSeq (tIfS (tNot (tB (tCall (sp_law_is_word K) [] E0 (tCons (tVar 6) tNil))))
 (tAsg (tLst (tCons (tC (.bl true)) (tCons (tC (.bl false)) (tCons (tC (.bl false)) (tCons (tC (.bl false)) tNil))))) (gName 11)) (tIfS (tAnd (tTest (tOp (nInL K) (tVar 10) (tTup (tCons (tC (.int 6)) (tCons (tC (.int 7)) tNil))))) (tB (tVar 9)))
 (tAsg (tLst (tCons (tC (.bl false)) (tCons (tC (.bl false)) (tCons (tC (.bl true)) (tCons (tC (.bl false)) tNil))))) (gName 11)) tNext)) tz) Dn [x0, x1, x2, x3, x4, x5, some v, x7, x8, some (.bl b), some (.int (i : Int)), x11] H := by
  refine q_asgL (el_rep (n := 4) (el_lst (ea_cons (ev_c (v := .bl false)) ea_nil) (by simp)) ev_c (by decide) (by decide) (by simp)) fun d H1 _ e1 h1 => ?_
  show tSeq _ _ _ [x0, x1, x2, x3, x4, x5, some v, x7, x8, some (.bl b), some (.int (i : Int)), some (.ref d)] H1
  obtain ⟨b', hb', hw⟩ := e_lisw (K := K) (σ := [x0, x1, x2, x3, x4, x5, some v, x7, x8, some (.bl b), some (.int (i : Int)), some (.ref d)]) (ta := tVar 6) (ev_var rfl) (any_up _ _ _ e1 hv)
  have hbb : b' = bw := Bool.eq_iff_iff.mpr (hb'.trans hb.symm)
  subst hbb
  refine q_if (et_not (et_B hw)) (fun hh H2 e2 => ?_) (fun hh H2 e2 => ?_)
  · refine s_asgL (el_lst (ea_cons (ev_c (v := .bl true)) (ea_cons (ev_c (v := .bl false)) (ea_cons (ev_c (v := .bl false)) (ea_cons (ev_c (v := .bl false)) ea_nil)))) (by simp)) fun d2 H3 _ e3 h3 => k d2 H3 ((e1.trans e2).trans e3) ?_
    cases b' with
    | true => cases hh
    | false => exact h3
  · have hw1 : b' = true := by simpa using hh
    subst hw1
    refine s_when (et_and (et_test (e_in67 hi rfl)) fun _ => et_B (ev_var rfl)) (fun h2 H3 e3 => ?_) (fun h2 H3 e3 => ?_)
    · refine s_asgL (el_lst (ea_cons (ev_c (v := .bl false)) (ea_cons (ev_c (v := .bl false)) (ea_cons (ev_c (v := .bl true)) (ea_cons (ev_c (v := .bl false)) ea_nil)))) (by simp)) fun d2 H4 _ e4 h4 => k d2 H4 (((e1.trans e2).trans e3).trans e4) ?_
      unfold dueB
      rw [h2]
      exact h4
    · refine k d H3 ((e1.trans e2).trans e3) ?_
      unfold dueB
      rw [h2]
      exact e3 _ _ (e2 _ _ h1)
/-- the tree as it was -/
theorem s_last {i : Nat} {bw b : Bool} {G : Hp} {d a : Addr} {x0 x1 x5 x6 x7 x8 x9 : Option V} (hi : i ≤ 8) (hd : H d = some (.lst ((dueB bw b i).map V.bl))) (ha : G a = some (.lst ((srt W).map tx))) (T : Tree K CT CN r A D W G) (hW : W.length ≤ 1000)
    (hb : bw = true ↔ IsWd v) (hE : (i + 1 ≤ 8 ∨ ¬ IsWd v) → Ex G H) (k : ∀ H2, Ex H H2 → Dn.nx [x0, x1, some (.ref r), some (.ref a), some (.int ((begs W).length : Int)), x5, x6, x7, x8, x9, some (.int (i : Int)), some (.ref d)] H2) :
    (tIfS (tAnd (tOr (tTest (tOp nLt (tVar 10) (tC (.int 8)))) (tB (tOp (nIxL K) (tVar 11) (tC (.int 0))))) (tOr (tTest (tOp (nNeD K) (tMeth CT "words" (sp_Tree_words K CT CN CB) [] E0 (tVar 2) tNil) (tVar 3))) (tTest (tOp nNe (tMeth CT "nodes" (sp_Tree_nodes K CT CN) [] E0 (tVar 2) tNil) (tVar 4)))))
 (tRet (tC (.bl false))) tNext) Dn [x0, x1, some (.ref r), some (.ref a), some (.int ((begs W).length : Int)), x5, x6, x7, x8, x9, some (.int (i : Int)), some (.ref d)] H := by
  refine s_when (b := false) (et_is (et_and (a := decide ((i : Int) < 8) || !bw) (b := false) (et_or (et_test (e_lt (ev_var rfl) ev_c)) fun _ => et_B (e_ixL (ev_var rfl) ev_c (sq_of hd) (atI_nat (j := 0) rfl))) fun hh => ?_) (by simp)) (fun hh => by cases hh) fun _ => k
  have hG : Ex G H := hE (by
    rw [Bool.or_eq_true] at hh
    rcases hh with hh | hh
    · exact .inl (by have := of_decide_eq_true hh; omega)
    · exact .inr fun z => by rw [hb.mpr z] at hh; cases hh)
  have T' := T.up hG
  refine et_is (et_or (a := false) (b := false) (et_is (et_test (e_neX (a := srt W) (b := srt W) (gx_l (el_meth T'.s (no_m (by decide +kernel) (by decide +kernel)) (ev_var rfl) ea_nil fun H2 e2 Q q E => ⟨r, A, D, W, rfl, T'.up e2, hW, q⟩)) (gx_v rfl ⟨a, rfl, hG _ _ ha⟩))) (by simp)) fun _ => et_is (et_test (e_ne (e_meth T'.s (no_m (by decide +kernel) (by decide +kernel)) (ev_var rfl) ea_nil fun H4 e4 Q q E => ⟨r, A, D, W, rfl, T'.up e4, hW, fun H5 e5 => q H5 e5⟩) (ev_var rfl) .ii)) (by simp)) rfl
/-- if refused(..) != .., what is told being what is due -/
theorem tt_told {X Y : Hp → Prop} (h : EvA tr σ H [.int i, .ref r, v, u]) (h0 : 0 ≤ i) (h8 : i ≤ 8) (T : Tree K CT CN r A D W H) (hW : W.length ≤ 1000) (hv : Any v H) (hu : 3 ≤ i → i ≤ 7 → Any u H)
    (k : ∀ bs H1 H2, Ex H H1 → Out K CT CN r A D W i v u H1 bs H2 → EvG tb σ H2 (BlsAt bs) ∧ ∀ H4, Ex H2 H4 → Y H4) : tTest (tOp (nNeD K) (tCall (sp_law_refused K CT CN) [] E0 tr) tb) σ H (fun b H' => if b = true then X H' else Y H') :=
  tt_refused h h0 h8 T hW hv hu fun bs H1 H2 e ho => ⟨bs, (k bs H1 H2 e ho).1, fun H4 e4 => ite_no (by simp) ((k bs H1 H2 e ho).2 H4 e4)⟩
theorem after_fr {i : Int} (a : After K CT CN r A D W i w H H') : Fr H H' (foot r A D (dom W)) := by
  rcases a with ⟨e, _⟩ | ⟨_, _, _, F⟩ | ⟨_, _, _, _, _, _, F, _⟩
  · exact Fr.ex e
  · exact F
  · exact F
/-- a turn -/
theorem R8_t {i : Nat} {bw b : Bool} {G : Hp} {a : Addr} {x0 x1 x5 x8 x11 : Option V} (hi : i ≤ 8) (hb : bw = true ↔ IsWd v) (hbb : b = true ↔ ¬ IsM u) (T : Tree K CT CN r A D W G) (hW : W.length ≤ 40) (hf : ∀ a, foot r A D (dom W) a → H0 a = none) (e0 : Ex H0 G) (hv : Any v G) (hu : Any u G)
    (ha : G a = some (.lst ((srt W).map tx))) (eG : Ex G H)
    (k : ∀ x11 H2, (∃ W', Own8 K CT CN H0 r W' H2 ∧ W'.length ≤ 41) → ((i + 1 ≤ 8 ∨ ¬ IsWd v) → Ex G H2) → Dn.nx [x0, x1, some (.ref r), some (.ref a), some (.int ((begs W).length : Int)), x5, some v, some u, x8, some (.bl b), some (.int (i : Int)), x11] H2) :
    T_law8_t K CT CN CB Dn [x0, x1, some (.ref r), some (.ref a), some (.int ((begs W).length : Int)), x5, some v, some u, x8, some (.bl b), some (.int (i : Int)), x11] H := by
  unfold T_law8_t
  refine q_due (bw := bw) (b := b) hi hb (any_up _ _ _ eG hv) fun d H1 e1 hd => ?_
  have e01 := eG.trans e1
  have T1 := T.up e01
  have go : ∀ H4 W', H4 d = some (.lst ((dueB bw b i).map V.bl)) → Own8 K CT CN H0 r W' H4 → W'.length ≤ 41 → ((i + 1 ≤ 8 ∨ ¬ IsWd v) → Ex G H4) → ∀ H5, Ex H4 H5 → (tIfS (tAnd (tOr (tTest (tOp nLt (tVar 10) (tC (.int 8)))) (tB (tOp (nIxL K) (tVar 11) (tC (.int 0))))) (tOr (tTest (tOp (nNeD K) (tMeth CT "words" (sp_Tree_words K CT CN CB) [] E0 (tVar 2) tNil) (tVar 3))) (tTest (tOp nNe (tMeth CT "nodes" (sp_Tree_nodes K CT CN) [] E0 (tVar 2) tNil) (tVar 4)))))
 (tRet (tC (.bl false))) tNext) Dn [x0, x1, some (.ref r), some (.ref a), some (.int ((begs W).length : Int)), x5, some v, some u, x8, some (.bl b), some (.int (i : Int)), some (.ref d)] H5 := fun H4 W' hd4 o hl hE H5 e5 =>
    s_last hi (e5 _ _ hd4) ha T (by omega) hb (fun z => (hE z).trans e5) fun H6 e6 => k _ H6 ⟨W', (o.up e5).up e6, hl⟩ fun z => ((hE z).trans e5).trans e6
  by_cases hi0 : i = 0
  · subst hi0
    refine q_when (b := false) (et_is (et_and (a := false) (b := false) (et_is (et_test (e_gt (i := ((0 : Nat) : Int)) (ev_var rfl) ev_c)) rfl) fun hh => by cases hh) rfl) (fun hh => by cases hh) fun _ H2 e2 => ?_
    exact go H1 W hd ⟨e0.trans e01, A, D, T1, hf⟩ (by omega) (fun _ => e01) H2 e2
  · refine q_and1 (et_is (et_test (e_gt (ev_var rfl) ev_c)) (decide_eq_true (by omega))) fun H2 e2 => ?_
    have e02 := e01.trans e2
    have T2 := T.up e02
    refine tt_told (i := (i : Int)) (r := r) (v := v) (u := u) (ea_cons (ev_var rfl) (ea_cons (ev_var rfl) (ea_cons (ev_var rfl) (ea_cons (ev_var rfl) ea_nil)))) (by omega) (by omega) T2 (by omega) (any_up _ _ _ e02 hv) (fun _ _ => any_up _ _ _ e02 hu) fun bs H3 H4 e3 ho => ?_
    have e03 := e02.trans e3
    have T3 := T.up e03
    have hd3 := e3 _ _ (e2 _ _ hd)
    -- where the heap only grows
    have dueV : bs = dueB bw b i → H4 d = some (.lst ((dueB bw b i).map V.bl)) → EvG (tVar 11) [x0, x1, some (.ref r), some (.ref a), some (.int ((begs W).length : Int)), x5, some v, some u, x8, some (.bl b), some (.int (i : Int)), some (.ref d)] H4 (BlsAt bs) := fun hbs h4 => by
      rw [hbs]
      exact gb_v rfl ⟨d, rfl, h4⟩
    have grow : ∀ e4 : Ex H3 H4, ∀ H5, Ex H4 H5 → _ := fun e4 => go H4 W (e4 _ _ hd3) ⟨e0.trans (e03.trans e4), A, D, T3.up e4, hf⟩ (by omega) (fun _ => e03.trans e4)
    cases ho with
    | word h e =>
      refine ⟨dueV ?_ (e _ _ hd3), grow e⟩
      have hbw : bw = false := by simpa using fun z => h (hb.mp z)
      rw [hbw]
      rfl
    | most h hi hm e =>
      refine ⟨dueV ?_ (e _ _ hd3), grow e⟩
      rw [hb.mpr h, hbb.mpr hm]
      unfold dueB
      rw [decide_eq_true (by omega)]
      rfl
    | full _ _ _ _ hl => exact absurd hl (by omega)
    | ok h hw hm af =>
      rename_i w
      have hwd : IsWd v := ⟨w, h, hw⟩
      have hbs : [false, false, false, false] = dueB bw b i := by
        rw [hb.mpr hwd]
        unfold dueB
        by_cases h67 : i = 6 ∨ i = 7
        · have hbf : b = false := by simpa using fun z => hbb.mp z (hm (by omega))
          rw [hbf]
          simp
        · rw [decide_eq_false h67]
          rfl
      have hd4 : H4 d = some (.lst ((dueB bw b i).map V.bl)) := after_fr af _ _ hd3 fun f => by
        obtain ⟨o, ho, ht⟩ := T3.s.here f
        rw [hd3] at ho
        cases ho
        exact ht
      obtain ⟨W', o, hl, hx⟩ := own_after (e0.trans e03) hf T3 af
      refine ⟨dueV hbs hd4, go H4 W' hd4 o (by omega) (fun z => ?_)⟩
      rcases hx with ⟨e4, _⟩ | ⟨hi0', _⟩ | ⟨hi8, _⟩
      · exact e03.trans e4
      · omega
      · rcases z with z | z
        · omega
        · exact absurd hwd z
/-- behind the nine calls -/
theorem R8_d {bw : Bool} {ns : List Int} {x1 x3 x4 x5 x8 x9 x10 x11 : Option V} (hb : bw = true ↔ IsWd v) (o : Own8 K CT CN H0 r W H) (hW : W.length ≤ 41) (hS : SqL K H0 s (ns.map V.int)) (hns : ns.length ≤ 63) (hv' : Any v H) (hq : ∀ H', Q (.bl true) H') :
    T_law8_d K CT CN CB (fin Q) [some (.ref s), x1, some (.ref r), x3, x4, x5, some v, some u, x8, x9, x10, x11] H := by
  unfold T_law8_d
  obtain ⟨e0, A, D, T, hf⟩ := o
  refine q_ift ?_
  refine tt_told (i := 0) (r := r) (v := v) (u := u) (ea_cons ev_c (ea_cons (ev_var rfl) (ea_cons (ev_var rfl) (ea_cons (ev_var rfl) ea_nil)))) (by decide) (by decide) T (by omega) hv' (fun z => absurd z (by decide)) fun bs H1 H2 e1 ho => ?_
  have T1 := T.up e1
  have go : ∀ W', Own8 K CT CN H0 r W' H2 → Any v H2 → bs = [!bw, false, false, false] → EvG (tLst (tCons (tNotV (tCall (sp_law_is_word K) [] E0 (tCons (tVar 6) tNil))) (tCons (tC (.bl false)) (tCons (tC (.bl false)) (tCons (tC (.bl false)) tNil))))) [some (.ref s), x1, some (.ref r), x3, x4, x5, some v, some u, x8, x9, x10, x11] H2 (BlsAt bs) ∧ ∀ H5, Ex H2 H5 →
      (tRet (tOrV (tOp nNe (tOp nMod (tCall (sp_law_at K) [] E0 (tCons (tVar 0) (tCons (tC (.int 1)) tNil))) (tC (.int 8))) (tC (.int 3))) (tCall (sp_law_full K) [] E0 (tCons (tVar 0) (tCons (tVar 6) tNil))))) (fin Q) [some (.ref s), x1, some (.ref r), x3, x4, x5, some v, some u, x8, x9, x10, x11] H5 := fun W' o hv2 hbs => by
    obtain ⟨b', hb', hw⟩ := e_lisw (K := K) (σ := [some (.ref s), x1, some (.ref r), x3, x4, x5, some v, some u, x8, x9, x10, x11]) (ta := tVar 6) (ev_var rfl) hv2
    have hbb : b' = bw := Bool.eq_iff_iff.mpr (hb'.trans hb.symm)
    subst hbb
    rw [hbs]
    refine ⟨gb_l (el_lst (ea_cons (ev_notV hw) (ea_cons ev_c (ea_cons ev_c (ea_cons ev_c ea_nil)))) (by simp)), fun H5 e5 => ?_⟩
    have e05 := o.ex.trans e5
    have hv5 := any_up _ _ _ e5 hv2
    exact s_ret (ev_is (ev_orV (b := true) (e_ne (e_mod (e_law_at (ev_var rfl) ev_c (ex_l e05 hS) (by decide) hns) ev_c (by decide)) ev_c .ii) fun _ => ev_call (ea_cons (ev_var rfl) (ea_cons (ev_var rfl) ea_nil)) fun H6 e6 Q q E => ⟨s, ns, v, rfl, ex_l (e05.trans e6) hS, hns, any_up _ _ _ e6 hv5, fun H7 e7 => q H7 e7⟩) (by rw [Bool.or_true])) fun H6 e6 => hq H6
  have wany : IsWd v → Any v H2 := fun ⟨w, h, hw⟩ => by rw [h]; exact wds_any hw
  cases ho with
  | word h e =>
    refine go W ⟨e0.trans (e1.trans e), A, D, T1.up e, hf⟩ (any_up _ _ _ (e1.trans e) hv') ?_
    have hbw : bw = false := by simpa using fun z => h (hb.mp z)
    rw [hbw]
    rfl
  | most h hi hm e => exact absurd hi (by decide)
  | full h hw hi => exact absurd hi (by decide)
  | ok h hw hm af =>
    obtain ⟨W', o, hl, hx⟩ := own_after (e0.trans e1) hf T1 af
    refine go W' o (wany ⟨_, h, hw⟩) ?_
    rw [hb.mpr ⟨_, h, hw⟩]
    rfl
/-- the nine calls -/
theorem R8_c {xs : List V} {o a : Addr} {ns : List Int} {x1 x5 x9 x10 x11 : Option V} (hx : IsM u ∨ u ∈ xs) (ho : H o = some (.lst xs)) (hO : Odds xs H) (T : Tree K CT CN r A D W H) (hW : W.length ≤ 40) (hf : ∀ a, foot r A D (dom W) a → H0 a = none) (e0 : Ex H0 H) (hv : Any v H)
    (ha : H a = some (.lst ((srt W).map tx))) (hS : SqL K H0 s (ns.map V.int)) (hns : ns.length ≤ 63) (hq : ∀ H', Q (.bl true) H') :
    T_law8_c K CT CN CB (fin Q) [some (.ref s), x1, some (.ref r), some (.ref a), some (.int ((begs W).length : Int)), x5, some v, some u, some (.ref o), x9, x10, x11] H := by
  unfold T_law8_c
  have hu : Any u H := hx.elim (fun ⟨m, h, _⟩ => by rw [h]; exact .inr odd_int) fun h => (odds_any hO u h).1
  obtain ⟨bw, hb⟩ : ∃ bw : Bool, bw = true ↔ IsWd v := by
    obtain ⟨b, hb, _⟩ := e_lisw (K := K) (σ := [some v]) (ta := tVar 0) (ev_var rfl) hv
    exact ⟨b, hb⟩
  obtain ⟨b, hbb, hev⟩ := e_bad (K := K) (σ := [some (.ref s), x1, some (.ref r), some (.ref a), some (.int ((begs W).length : Int)), x5, some v, some u, some (.ref o), x9, x10, x11]) (x := u) (p := o) (ev_var rfl) (ev_var rfl) ho hO hx hu
  refine q_asg hev fun H1 e1 => ?_
  have T1 := T.up e1
  have e01 := e0.trans e1
  have hv1 := any_up _ _ _ e1 hv
  have hu1 := any_up _ _ _ e1 hu
  refine q_forR1 (n := 9) (ea_cons ev_c ea_nil) (by decide) (fun i σ H' => ∃ x10 x11, σ = [some (.ref s), x1, some (.ref r), some (.ref a), some (.int ((begs W).length : Int)), x5, some v, some u, some (.ref o), some (.bl b), x10, x11] ∧ (∃ W', Own8 K CT CN H0 r W' H' ∧ W'.length ≤ 41) ∧ ((i ≤ 8 ∨ ¬ IsWd v) → Ex H1 H'))
    (fun H2 e2 => ⟨_, _, rfl, ⟨W, ⟨e01.trans e2, A, D, T1.up e2, hf⟩, by omega⟩, fun _ => e2⟩) (fun i σ H' hi hp' => ?_) (fun σ H' hp' => ?_)
  · obtain ⟨x10, x11, rfl, _, hE⟩ := hp'
    have hi8 : i ≤ 8 := by omega
    exact R8_t hi8 hb hbb T1 hW hf e01 hv1 hu1 (e1 _ _ ha) (hE (.inl hi8)) fun x11 H2 o' hE' => ⟨_, x11, rfl, o', hE'⟩
  · obtain ⟨x10, x11, rfl, ⟨W', o', hl⟩, hE⟩ := hp'
    refine R8_d hb o' hl hS hns ?_ hq
    by_cases hw : IsWd v
    · obtain ⟨w, rfl, hw⟩ := hw
      exact wds_any hw
    · exact any_up _ _ _ (hE (.inr hw)) hv1
/-- the most -/
theorem R8_b {a : Addr} {ns : List Int} {x1 x5 x7 x8 x9 x10 x11 : Option V} (T : Tree K CT CN r A D W H) (hW : W.length ≤ 40) (hf : ∀ a, foot r A D (dom W) a → H0 a = none) (e0 : Ex H0 H) (hv : Any v H)
    (ha : H a = some (.lst ((srt W).map tx))) (hS : SqL K H0 s (ns.map V.int)) (hns : ns.length ≤ 63) (hq : ∀ H', Q (.bl true) H') :
    T_law8_b K CT CN CB (fin Q) [some (.ref s), x1, some (.ref r), some (.ref a), some (.int ((begs W).length : Int)), x5, some v, x7, x8, x9, x10, x11] H := by
  unfold T_law8_b
  have hm0 : ((cellAt ns 17 / 2 % 25).toNat : Int) = cellAt ns 17 / 2 % 25 := Int.toNat_of_nonneg (Int.emod_nonneg _ (by decide))
  have hm : (cellAt ns 17 / 2 % 25).toNat ≤ 24 := by have := Int.emod_lt_of_pos (cellAt ns 17 / 2) (show (0 : Int) < 25 by decide); omega
  refine q_asg (v := .int ((cellAt ns 17 / 2 % 25).toNat : Int)) (ev_is (e_mod (e_div (e_law_at (ev_var rfl) ev_c (ex_l e0 hS) (by decide) hns) ev_c (by decide)) ev_c (by decide)) (by rw [hm0])) fun H1 e1 => ?_
  generalize (cellAt ns 17 / 2 % 25).toNat = m at hm
  clear hm0
  show tSeq _ _ _ [some (.ref s), x1, some (.ref r), some (.ref a), some (.int ((begs W).length : Int)), x5, some v, some (.int (m : Int)), x8, x9, x10, x11] H1
  refine q_odds (j := 8) fun o xs H2 e2 ho hO => ?_
  show tSeq _ _ _ [some (.ref s), x1, some (.ref r), some (.ref a), some (.int ((begs W).length : Int)), x5, some v, some (.int (m : Int)), some (.ref o), x9, x10, x11] H2
  have e02 := (e0.trans e1).trans e2
  refine q_when (et_test (e_eq (e_mod (e_law_at (ev_var rfl) ev_c (ex_l e02 hS) (by decide) hns) ev_c (by decide)) ev_c .ii)) (fun _ H3 e3 => ?_) (fun _ H3 e3 => ?_)
  · have h0 := Int.emod_nonneg (cellAt ns 17 / 2) (show (9 : Int) ≠ 0 by decide)
    have h9 := Int.emod_lt_of_pos (cellAt ns 17 / 2) (show (0 : Int) < 9 by decide)
    have hl : xs.length = 9 := by
      obtain ⟨_, _, _, h, _⟩ := hO
      rw [h]
      rfl
    have hlt : (cellAt ns 17 / 2 % 9).toNat < xs.length := by omega
    refine s_asg (e_ixL (ev_var rfl) (e_mod (e_div (e_law_at (ev_var rfl) ev_c (ex_l (e02.trans e3) hS) (by decide) hns) ev_c (by decide)) ev_c (by decide)) (sq_of (e3 _ _ ho)) (atI_in h0 (List.getElem?_eq_getElem hlt))) fun H4 e4 => ?_
    have e14 := ((e1.trans e2).trans e3).trans e4
    exact R8_c (.inr (List.getElem_mem hlt)) (e4 _ _ (e3 _ _ ho)) (odds_up (e3.trans e4) hO) (T.up e14) hW hf (e0.trans e14) (any_up _ _ _ e14 hv) (e14 _ _ ha) hS hns hq
  · have e14 := (e1.trans e2).trans e3
    exact R8_c (.inl ⟨m, rfl, hm⟩) (e3 _ _ ho) (odds_up e3 hO) (T.up e14) hW hf (e0.trans e14) (any_up _ _ _ e14 hv) (e14 _ _ ha) hS hns hq
theorem R_law8 (h : sp_law8 K vs H Q E) : T_law8 K CT CN CB (fin Q) (slots n_law8 vs) H := by
  obtain ⟨s, ns, rfl, hS, hns, kq⟩ := h
  show T_law8 K CT CN CB (fin Q) [some (.ref s), none, none, none, none, none, none, none, none, none, none, none] H
  unfold T_law8
  refine q_asgG (P := WsL) (g_call (ea_cons (ev_var rfl) ea_nil) fun H1 e Q q E => ⟨s, ns, rfl, ex_l e hS, hns, q⟩) fun v H1 e1 hv => ?_
  obtain ⟨p, ws, rfl, hp, hne, hws, hlen⟩ := hv
  show tCall (sp_law_tree K CT CN) [] E0 (tCons (tVar 1) tNil) [some (.ref s), some (.ref p), none, none, none, none, none, none, none, none, none, none] H1 _
  refine n_callW (ea_cons (ev_var rfl) ea_nil) fun H2 e2 => ⟨p, ws, rfl, e2 _ _ hp, hws, by omega, fun r A D W H3 hf e3 T hm' hl => ?_⟩
  show tSeq _ _ _ [some (.ref s), some (.ref p), some (.ref r), none, none, none, none, none, none, none, none, none] H3
  have e03 := (e1.trans e2).trans e3
  have hf0 : ∀ a, foot r A D (dom W) a → H a = none := fun a f => fresh_back (e1.trans e2) (hf a f)
  have hW : W.length ≤ 40 := by omega
  refine q_asgL (el_meth T.s (no_m (by decide +kernel) (by decide +kernel)) (ev_var rfl) ea_nil fun H2 e2 Q q E => ⟨r, A, D, W, rfl, T.up e2, by omega, q⟩) fun a H4 _ e4 ha => ?_
  have T4 := T.up e4
  show tSeq _ _ _ [some (.ref s), some (.ref p), some (.ref r), some (.ref a), none, none, none, none, none, none, none, none] H4
  refine q_asg (v := .int ((begs W).length : Int)) (e_meth T4.s (no_m (by decide +kernel) (by decide +kernel)) (ev_var rfl) ea_nil fun H6 e6 Q q E => ⟨r, A, D, W, rfl, T4.up e6, by omega, fun H7 e7 => q H7 e7⟩) fun H5 e5 => ?_
  have e45 := e4.trans e5
  refine q_asg (e_law_at (ev_var rfl) ev_c (ex_l (e03.trans e45) hS) (by decide) hns) fun H6 e6 => ?_
  generalize cellAt ns 16 = c
  show tSeq _ _ _ [some (.ref s), some (.ref p), some (.ref r), some (.ref a), some (.int ((begs W).length : Int)), some (.int c), none, none, none, none, none, none] H6
  have e36 := e45.trans e6
  have hp6 := e36 _ _ (e3 _ _ (e2 _ _ hp))
  have hpos : 0 < ws.length := List.length_pos_iff.mpr hne
  have hc0 := Int.emod_nonneg c (show (ws.length : Int) ≠ 0 by omega)
  have hc1 := Int.emod_lt_of_pos c (show (0 : Int) < (ws.length : Int) by omega)
  obtain ⟨w, hw, hwe⟩ := e_ixW (K := K) (ta := tVar 1) (tb := tOp nMod (tVar 5) (tCB (nLenL K) (tCons (tVar 1) tNil))) (σ := [some (.ref s), some (.ref p), some (.ref r), some (.ref a), some (.int ((begs W).length : Int)), some (.int c), none, none, none, none, none, none]) (ev_var rfl) hp6 (e_mod (ev_var rfl) (e_lenW (ev_var rfl) hp6) (by omega)) hc0 hc1
  refine q_asg hwe fun H7 e7 => ?_
  show tSeq _ _ _ [some (.ref s), some (.ref p), some (.ref r), some (.ref a), some (.int ((begs W).length : Int)), some (.int c), some (tx w), none, none, none, none, none] H7
  have e37 := e36.trans e7
  have ha7 := e7 _ _ (e6 _ _ (e5 _ _ ha))
  refine q_when (et_test (e_gt (e_mod (e_div (ev_var rfl) ev_c (by decide)) ev_c (by decide)) ev_c)) (fun _ H8 e8 => ?_) (fun _ H8 e8 => ?_)
  · refine s_asgG (P := Thing) (g_call (ea_cons (e_div (ev_var rfl) ev_c (by decide)) ea_nil) fun H9 e Q q E => ⟨_, rfl, q⟩) fun v H9 e9 hv => ?_
    have e39 := (e37.trans e8).trans e9
    have hv' : Any v H9 := hv.elim (fun ⟨w, h, hl⟩ => .inl ⟨w, h, by omega⟩) .inr
    exact R8_b (T.up e39) hW hf0 (e03.trans e39) hv' (e9 _ _ (e8 _ _ ha7)) hS hns kq
  · have e38 := e37.trans e8
    exact R8_b (T.up e38) hW hf0 (e03.trans e38) (wds_any (hws w hw)) (e8 _ _ ha7) hS hns kq
end
end Nw
namespace Row8
open PySem PySem.Spec PyProof.Rows L2 Evl Nw
def topS (i : Nat) : Stmt := PySem.Challenge.pw_nearword_k08_what_is_refused.main.body.getD i (.Pass ⟨0, 0, 0, 0⟩)
abbrev s_Tree_nodes : Stmt := inClass (topS 16) 8
abbrev s_Tree_found : Stmt := inClass (topS 16) 1
abbrev s_is_word : Stmt := topS 10
abbrev s_need_word : Stmt := topS 11
abbrev s_Tree_begun : Stmt := inClass (topS 16) 5
abbrev s_Tree_words : Stmt := inClass (topS 16) 6
abbrev s_law_at : Stmt := topS 30
abbrev s_Tree_has : Stmt := inClass (topS 16) 2
abbrev s_Tree_many : Stmt := inClass (topS 16) 7
abbrev s_Node_init : Stmt := inClass (topS 15) 0
abbrev s_Tree_put : Stmt := inClass (topS 16) 3
abbrev s_Tree_take : Stmt := inClass (topS 16) 4
abbrev s_Tree_init : Stmt := inClass (topS 16) 0
abbrev s_law_filled : Stmt := topS 43
abbrev s_first_row : Stmt := topS 18
abbrev s_next_row : Stmt := topS 19
abbrev s_gone_through : Stmt := topS 26
abbrev s_is_whole : Stmt := topS 9
abbrev s_need_most : Stmt := topS 12
abbrev s_rows_of : Stmt := topS 20
abbrev s_steps_of : Stmt := topS 23
abbrev s_way : Stmt := topS 24
abbrev s_near : Stmt := topS 27
abbrev s_law_great : Stmt := topS 44
abbrev s_law_is_word : Stmt := topS 39
abbrev s_table : Stmt := topS 21
abbrev s_distance : Stmt := topS 22
abbrev s_law_two8 : Stmt := topS 40
abbrev s_looked : Stmt := topS 28
abbrev s_law_called : Stmt := topS 41
abbrev s_law_kinds : Stmt := topS 36
abbrev s_law_refused : Stmt := topS 42
abbrev s_law_full : Stmt := topS 45
abbrev s_law_sign : Stmt := topS 37
abbrev s_law_thing : Stmt := topS 38
abbrev s_law_tree : Stmt := topS 35
abbrev s_law_letter : Stmt := topS 31
abbrev s_law_bent : Stmt := topS 33
abbrev s_law_word : Stmt := topS 32
abbrev s_law_words : Stmt := topS 34
abbrev s_law8 : Stmt := topS 46
theorem sc_Tree_nodes : FnScope ["self", "total", "waiting", "node", "letter"] ["self"] (defScope s_Tree_nodes) := ⟨rfl, rfl, rfl, by decide +kernel, rfl, by decide +kernel, by decide +kernel⟩
theorem sc_Tree_found : FnScope ["self", "text", "node", "letter"] ["self", "text"] (defScope s_Tree_found) := ⟨rfl, rfl, rfl, by decide +kernel, rfl, by decide +kernel, by decide +kernel⟩
theorem sc_is_word : FnScope ["thing", "letter"] ["thing"] (defScope s_is_word) := ⟨rfl, rfl, rfl, by decide +kernel, rfl, by decide +kernel, by decide +kernel⟩
theorem sc_need_word : FnScope ["thing"] ["thing"] (defScope s_need_word) := ⟨rfl, rfl, rfl, by decide +kernel, rfl, by decide +kernel, by decide +kernel⟩
theorem sc_Tree_begun : FnScope ["self", "begin", "node", "found", "waiting", "text", "letter"] ["self", "begin"] (defScope s_Tree_begun) := ⟨rfl, rfl, rfl, by decide +kernel, rfl, by decide +kernel, by decide +kernel⟩
theorem sc_Tree_words : FnScope ["self"] ["self"] (defScope s_Tree_words) := ⟨rfl, rfl, rfl, by decide +kernel, rfl, by decide +kernel, by decide +kernel⟩
theorem sc_law_at : FnScope ["_law_script", "_law_k"] ["_law_script", "_law_k"] (defScope s_law_at) := ⟨rfl, rfl, rfl, by decide +kernel, rfl, by decide +kernel, by decide +kernel⟩
theorem sc_Tree_has : FnScope ["self", "word", "node"] ["self", "word"] (defScope s_Tree_has) := ⟨rfl, rfl, rfl, by decide +kernel, rfl, by decide +kernel, by decide +kernel⟩
theorem sc_Tree_many : FnScope ["self"] ["self"] (defScope s_Tree_many) := ⟨rfl, rfl, rfl, by decide +kernel, rfl, by decide +kernel, by decide +kernel⟩
theorem sc_Node_init : FnScope ["self"] ["self"] (defScope s_Node_init) := ⟨rfl, rfl, rfl, by decide +kernel, rfl, by decide +kernel, by decide +kernel⟩
theorem sc_Tree_put : FnScope ["self", "word", "node", "letter"] ["self", "word"] (defScope s_Tree_put) := ⟨rfl, rfl, rfl, by decide +kernel, rfl, by decide +kernel, by decide +kernel⟩
theorem sc_Tree_take : FnScope ["self", "word", "node", "kept", "cut", "letter"] ["self", "word"] (defScope s_Tree_take) := ⟨rfl, rfl, rfl, by decide +kernel, rfl, by decide +kernel, by decide +kernel⟩
theorem sc_Tree_init : FnScope ["self"] ["self"] (defScope s_Tree_init) := ⟨rfl, rfl, rfl, by decide +kernel, rfl, by decide +kernel, by decide +kernel⟩
theorem sc_law_filled : FnScope ["_law_many", "_law_letters", "_law_tree_here", "_law_k"] ["_law_many"] (defScope s_law_filled) := ⟨rfl, rfl, rfl, by decide +kernel, rfl, by decide +kernel, by decide +kernel⟩
theorem sc_first_row : FnScope ["word"] ["word"] (defScope s_first_row) := ⟨rfl, rfl, rfl, by decide +kernel, rfl, by decide +kernel, by decide +kernel⟩
theorem sc_next_row : FnScope ["row", "letter", "word", "found", "at", "straight"] ["row", "letter", "word"] (defScope s_next_row) := ⟨rfl, rfl, rfl, by decide +kernel, rfl, by decide +kernel, by decide +kernel⟩
theorem sc_gone_through : FnScope ["tree", "word", "most", "found", "waiting", "node", "text", "row", "letter", "below"] ["tree", "word", "most"] (defScope s_gone_through) := ⟨rfl, rfl, rfl, by decide +kernel, rfl, by decide +kernel, by decide +kernel⟩
theorem sc_is_whole : FnScope ["thing"] ["thing"] (defScope s_is_whole) := ⟨rfl, rfl, rfl, by decide +kernel, rfl, by decide +kernel, by decide +kernel⟩
theorem sc_need_most : FnScope ["thing"] ["thing"] (defScope s_need_most) := ⟨rfl, rfl, rfl, by decide +kernel, rfl, by decide +kernel, by decide +kernel⟩
theorem sc_rows_of : FnScope ["one", "other", "found", "letter"] ["one", "other"] (defScope s_rows_of) := ⟨rfl, rfl, rfl, by decide +kernel, rfl, by decide +kernel, by decide +kernel⟩
theorem sc_steps_of : FnScope ["one", "other", "rows", "high", "far", "found", "here"] ["one", "other"] (defScope s_steps_of) := ⟨rfl, rfl, rfl, by decide +kernel, rfl, by decide +kernel, by decide +kernel⟩
theorem sc_way : FnScope ["one", "other"] ["one", "other"] (defScope s_way) := ⟨rfl, rfl, rfl, by decide +kernel, rfl, by decide +kernel, by decide +kernel⟩
theorem sc_near : FnScope ["tree", "word", "most", "found", "node", "text", "row", "far"] ["tree", "word", "most"] (defScope s_near) := ⟨rfl, rfl, rfl, by decide +kernel, rfl, by decide +kernel, by decide +kernel⟩
theorem sc_law_great : FnScope ["_law_tree_here", "_law_many", "_law_is_wide", "_law_letters", "_law_words_here", "_law_k", "_law_due", "_law_word_here", "_law_pair"] ["_law_tree_here", "_law_many", "_law_is_wide"] (defScope s_law_great) := ⟨rfl, rfl, rfl, by decide +kernel, rfl, by decide +kernel, by decide +kernel⟩
theorem sc_law_is_word : FnScope ["_law_thing_here", "_law_letter_here"] ["_law_thing_here"] (defScope s_law_is_word) := ⟨rfl, rfl, rfl, by decide +kernel, rfl, by decide +kernel, by decide +kernel⟩
theorem sc_table : FnScope ["one", "other"] ["one", "other"] (defScope s_table) := ⟨rfl, rfl, rfl, by decide +kernel, rfl, by decide +kernel, by decide +kernel⟩
theorem sc_distance : FnScope ["one", "other"] ["one", "other"] (defScope s_distance) := ⟨rfl, rfl, rfl, by decide +kernel, rfl, by decide +kernel, by decide +kernel⟩
theorem sc_law_two8 : FnScope ["_law_sort", "_law_thing_here", "_law_most", "_law_pair"] ["_law_sort", "_law_thing_here", "_law_most"] (defScope s_law_two8) := ⟨rfl, rfl, rfl, by decide +kernel, rfl, by decide +kernel, by decide +kernel⟩
theorem sc_looked : FnScope ["tree", "word", "most"] ["tree", "word", "most"] (defScope s_looked) := ⟨rfl, rfl, rfl, by decide +kernel, rfl, by decide +kernel, by decide +kernel⟩
theorem sc_law_called : FnScope ["_law_call", "_law_tree_here", "_law_thing_here", "_law_most"] ["_law_call", "_law_tree_here", "_law_thing_here", "_law_most"] (defScope s_law_called) := ⟨rfl, rfl, rfl, by decide +kernel, rfl, by decide +kernel, by decide +kernel⟩
theorem sc_law_kinds : FnScope ["_law_error", "_law_kinds_here"] ["_law_error"] (defScope s_law_kinds) := ⟨rfl, rfl, rfl, by decide +kernel, rfl, by decide +kernel, by decide +kernel⟩
theorem sc_law_refused : FnScope ["_law_call", "_law_tree_here", "_law_thing_here", "_law_most", "_law_error"] ["_law_call", "_law_tree_here", "_law_thing_here", "_law_most"] (defScope s_law_refused) := ⟨rfl, rfl, rfl, by decide +kernel, rfl, by decide +kernel, by decide +kernel⟩
theorem sc_law_full : FnScope ["_law_script", "_law_thing_here", "_law_many", "_law_tree_here", "_law_ahead", "_law_there"] ["_law_script", "_law_thing_here"] (defScope s_law_full) := ⟨rfl, rfl, rfl, by decide +kernel, rfl, by decide +kernel, by decide +kernel⟩
theorem sc_law_sign : FnScope ["_law_cell", "_law_signs"] ["_law_cell"] (defScope s_law_sign) := ⟨rfl, rfl, rfl, by decide +kernel, rfl, by decide +kernel, by decide +kernel⟩
theorem sc_law_thing : FnScope ["_law_cell", "_law_letters", "_law_text", "_law_k", "_law_at_here"] ["_law_cell"] (defScope s_law_thing) := ⟨rfl, rfl, rfl, by decide +kernel, rfl, by decide +kernel, by decide +kernel⟩
theorem sc_law_tree : FnScope ["_law_words_here", "_law_tree_here", "_law_word_here"] ["_law_words_here"] (defScope s_law_tree) := ⟨rfl, rfl, rfl, by decide +kernel, rfl, by decide +kernel, by decide +kernel⟩
theorem sc_law_letter : FnScope ["_law_mode", "_law_number", "_law_span", "_law_step"] ["_law_mode", "_law_number"] (defScope s_law_letter) := ⟨rfl, rfl, rfl, by decide +kernel, rfl, by decide +kernel, by decide +kernel⟩
theorem sc_law_bent : FnScope ["_law_mode", "_law_word_here", "_law_cell", "_law_k", "_law_more", "_law_at_here", "_law_letter_here"] ["_law_mode", "_law_word_here", "_law_cell"] (defScope s_law_bent) := ⟨rfl, rfl, rfl, by decide +kernel, rfl, by decide +kernel, by decide +kernel⟩
theorem sc_law_word : FnScope ["_law_mode", "_law_cell", "_law_most", "_law_size", "_law_found", "_law_k"] ["_law_mode", "_law_cell", "_law_most"] (defScope s_law_word) := ⟨rfl, rfl, rfl, by decide +kernel, rfl, by decide +kernel, by decide +kernel⟩
theorem sc_law_words : FnScope ["_law_script", "_law_mode", "_law_k", "_law_most", "_law_cells", "_law_words_here", "_law_cell"] ["_law_script"] (defScope s_law_words) := ⟨rfl, rfl, rfl, by decide +kernel, rfl, by decide +kernel, by decide +kernel⟩
theorem sc_law8 : FnScope ["_law_script", "_law_words_here", "_law_tree_here", "_law_ahead", "_law_nodes", "_law_cell", "_law_thing_here", "_law_most", "_law_odd", "_law_bad_most", "_law_call", "_law_due"] ["_law_script"] (defScope s_law8) := ⟨rfl, rfl, rfl, by decide +kernel, rfl, by decide +kernel, by decide +kernel⟩
structure Txt (K : PySem.W.Frag) (mg : Str → Option Value) (C_BadChange C_BadMost C_BadWord C_Full C_NearError C_Node C_Tree : Addr) : Prop where
  ValueError : mg "ValueError" = none
  bool : mg "bool" = none
  int : mg "int" = none
  isinstance : mg "isinstance" = none
  len : mg "len" = none
  list : mg "list" = none
  min : mg "min" = none
  range : mg "range" = none
  sorted : mg "sorted" = none
  str : mg "str" = none
  c_LETTERS : ∃ t, mg "LETTERS" = some (.str ⟨abc.toArray⟩ t)
  c_MOST_LETTERS : ∃ t, mg "MOST_LETTERS" = some (.int 24 t)
  c_MOST_WORDS : ∃ t, mg "MOST_WORDS" = some (.int 400 t)
  g_BadChange : mg "BadChange" = some (.ref C_BadChange)
  g_BadMost : mg "BadMost" = some (.ref C_BadMost)
  g_BadWord : mg "BadWord" = some (.ref C_BadWord)
  g_Full : mg "Full" = some (.ref C_Full)
  g_NearError : mg "NearError" = some (.ref C_NearError)
  g_Node : mg "Node" = some (.ref C_Node)
  g_Tree : mg "Tree" = some (.ref C_Tree)
  x_BadMost : PySem.W.excIn K C_BadMost [.type "ValueError", .type "Exception", .type "BaseException", .type "object"] "ValueError.__new__" = true
  k_BadMost : PySem.W.keepIn K (.ref C_BadMost) = true
  b_BadMost : PySem.W.subIn K (.ref C_BadMost) (.type "BaseException") = some true
  t_BadMost : PySem.W.typeIn K (.ref C_BadMost) = some (.type "type")
  x_BadWord : PySem.W.excIn K C_BadWord [.type "ValueError", .type "Exception", .type "BaseException", .type "object"] "ValueError.__new__" = true
  k_BadWord : PySem.W.keepIn K (.ref C_BadWord) = true
  b_BadWord : PySem.W.subIn K (.ref C_BadWord) (.type "BaseException") = some true
  t_BadWord : PySem.W.typeIn K (.ref C_BadWord) = some (.type "type")
  x_Full : PySem.W.excIn K C_Full [.type "ValueError", .type "Exception", .type "BaseException", .type "object"] "ValueError.__new__" = true
  k_Full : PySem.W.keepIn K (.ref C_Full) = true
  b_Full : PySem.W.subIn K (.ref C_Full) (.type "BaseException") = some true
  t_Full : PySem.W.typeIn K (.ref C_Full) = some (.type "type")
  e_BadWord_NearError : PySem.W.exmOne K (.ref C_BadWord) (.ref C_NearError) = some true
  e_BadMost_NearError : PySem.W.exmOne K (.ref C_BadMost) (.ref C_NearError) = some true
  e_Full_NearError : PySem.W.exmOne K (.ref C_Full) (.ref C_NearError) = some true
  tx : Tx K C_Tree C_Node
  q_BadWord : KindOf K C_BadWord C_BadWord C_BadChange C_BadMost C_Full true false false false
  q_BadMost : KindOf K C_BadMost C_BadWord C_BadChange C_BadMost C_Full false false true false
  q_Full : KindOf K C_Full C_BadWord C_BadChange C_BadMost C_Full false false false true
section
variable {P : Program} {w : World} {K : PySem.W.Frag} {mg : Str → Option Value} {base : Heap} {C_BadChange C_BadMost C_BadWord C_Full C_NearError C_Node C_Tree : Addr}
theorem ok_Tree_nodes {f : Addr} {fd : FuncData} (F : Fun K "nodes" "Tree.nodes" s_Tree_nodes f fd) (T : Txt K mg C_BadChange C_BadMost C_BadWord C_Full C_NearError C_Node C_Tree)  : FnOk P w K mg base CX0 1 f fd ["self"] (sp_Tree_nodes K C_Tree C_Node) := by
  refine F.ok sc_Tree_nodes (fun vs H Q E h => l_Tree_nodes h) (fun cdv A outer s H vs Q E hr h => ⟨T_Tree_nodes K, ?_, R_Tree_nodes h⟩)
  have hu := hu_of hr
  exact (pss_cons (ps_set (i := 1) sc_Tree_nodes.nd rfl (Or.inl rfl) pe_int)
     (pss_cons (ps_set (i := 2) sc_Tree_nodes.nd rfl (Or.inl rfl) (pe_lst (pa_cons (pe_fld (pv 0) rfl) pa_nil)))
     (pss_cons (ps_while PassesOwn.never (pt_truth (pv 2) (by intro _; rfl))
     (pss_cons (ps_set (i := 3) sc_Tree_nodes.nd rfl (Or.inl rfl) (pe_bm0 PySem.F.plainAttrs_list PySem.F.slot_list_pop PySem.F.type_list_pop mt_pop (pv 2)))
     (pss_cons (ps_aug (i := 1) sc_Tree_nodes.nd rfl (Or.inl rfl) pe_int ip_add)
     (pss_one (ps_lock (ps_for PassesOwn.never rfl (pi_keys (pe_fld (pv 3) rfl)) (pg_name (i := 4) sc_Tree_nodes.nd rfl (Or.inl rfl))
     (pss_one (ps_expr (pe_bm PySem.F.plainAttrs_list PySem.F.slot_list_append PySem.F.type_list_append mt_append (pv 2) (pa_cons (pe_dget hu (pe_fld (pv 3) rfl) (pv 4) (fun _ _ => rfl)) pa_nil))))))))))
     (pss_one (ps_ret (pv 1))))))
theorem ok_Tree_found {f : Addr} {fd : FuncData} (F : Fun K "found" "Tree.found" s_Tree_found f fd) (T : Txt K mg C_BadChange C_BadMost C_BadWord C_Full C_NearError C_Node C_Tree)  : FnOk P w K mg base CX0 1 f fd ["self", "text"] (sp_Tree_found K C_Tree C_Node) := by
  refine F.ok sc_Tree_found (fun vs H Q E h => l_Tree_found h) (fun cdv A outer s H vs Q E hr h => ⟨T_Tree_found K, ?_, R_Tree_found h⟩)
  have hu := hu_of hr
  exact (pss_cons (ps_set (i := 2) sc_Tree_found.nd rfl (Or.inl rfl) (pe_fld (pv 0) rfl))
     (pss_cons (ps_for PassesOwn.never rfl (pi_str (pv 1)) (pg_name (i := 3) sc_Tree_found.nd rfl (Or.inl rfl))
     (pss_cons (ps_if (pt_cmp (pc_dnotin hu (pv 3) (pe_fld (pv 2) rfl)))
     (pss_one (ps_ret pe_non)) pss_nil)
     (pss_one (ps_set (i := 2) sc_Tree_found.nd rfl (Or.inl rfl) (pe_dget hu (pe_fld (pv 2) rfl) (pv 3) (fun _ _ => rfl))))))
     (pss_one (ps_ret (pv 2)))))
theorem ok_is_word {f : Addr} {fd : FuncData} (F : Fun K "is_word" "is_word" s_is_word f fd) (T : Txt K mg C_BadChange C_BadMost C_BadWord C_Full C_NearError C_Node C_Tree)  : FnOk P w K mg base CX0 1 f fd ["thing"] (sp_is_word K) := by
  obtain ⟨tk_LETTERS, g_LETTERS⟩ := T.c_LETTERS
  obtain ⟨tk_MOST_LETTERS, g_MOST_LETTERS⟩ := T.c_MOST_LETTERS
  refine F.ok sc_is_word (fun vs H Q E h => l_is_word h) (fun cdv A outer s H vs Q E hr h => ⟨T_is_word K, ?_, R_is_word h⟩)
  have hu := hu_of hr
  exact (pss_cons (ps_if (PW.pt (pw_or (pt_not (pt_val (pe_callB c_isi (by rfl) T.isinstance (by decide +kernel) (pa_cons (pv 0) (pa_cons (pe_bltn (v := .ty "str") (by rfl) T.str (by decide +kernel) rfl) pa_nil))))) (pw_or1 (pt_cmpR o_gt (pe_callB c_lenS (by rfl) T.len PySem.boot_len (pa_cons (pv 0) pa_nil)) (pe_glob rfl g_MOST_LETTERS ⟨_, rfl⟩) (nomark _)))))
     (pss_one (ps_ret pe_bl)) pss_nil)
     (pss_cons (ps_for PassesOwn.never rfl (pi_str (pv 0)) (pg_name (i := 1) sc_is_word.nd rfl (Or.inl rfl))
     (pss_one (ps_if (pt_cmpR o_notInS (pv 1) (pe_glob rfl g_LETTERS ⟨_, rfl⟩) (by rfl))
     (pss_one (ps_ret pe_bl)) pss_nil)))
     (pss_one (ps_ret pe_bl))))
theorem ok_need_word {f : Addr} {fd : FuncData} (F : Fun K "need_word" "need_word" s_need_word f fd) (T : Txt K mg C_BadChange C_BadMost C_BadWord C_Full C_NearError C_Node C_Tree) (c_is_word : Cal P w K mg base CX0 1 "is_word" ["thing"] (sp_is_word K)) : FnOk P w K mg base (L2.CX P w) 2 f fd ["thing"] (sp_need_word K C_BadWord) := by
  obtain ⟨f_is_word, fd_is_word, G_is_word, g_is_word, kp_is_word, b_is_word⟩ := c_is_word.ex
  refine F.okX sc_need_word (fun vs H Q E h => l_need_word h) (fun cdv A outer s H vs Q E hr h => ⟨T_need_word K C_BadWord E, ?_, R_need_word h⟩)
  have hu := hu_of hr
  exact (pss_one (ps_if (pt_not (pt_val (pe_call G_is_word (hr.mono (by decide)) (by rfl) g_is_word kp_is_word b_is_word .nil pass0 (pa_cons (pv 0) pa_nil))))
     (pss_one (ps_raise rfl (takes_of rfl rfl rfl rfl) (pmk_own PySem.F.excBase_ValueError T.x_BadWord T.g_BadWord T.k_BadWord (raises_own T.b_BadWord T.t_BadWord) (by exact rfl)))) pss_nil))
theorem ok_Tree_begun {f : Addr} {fd : FuncData} (F : Fun K "begun" "Tree.begun" s_Tree_begun f fd) (T : Txt K mg C_BadChange C_BadMost C_BadWord C_Full C_NearError C_Node C_Tree) (c_Tree_found : CalM P w K mg base CX0 1 C_Tree "found" ["self", "text"] (sp_Tree_found K C_Tree C_Node)) (c_need_word : Cal P w K mg base (L2.CX P w) 2 "need_word" ["thing"] (sp_need_word K C_BadWord)) : FnOk P w K mg base (L2.CX P w) 3 f fd ["self", "begin"] (sp_Tree_begun K C_Tree C_Node C_BadWord) := by
  obtain ⟨f_Tree_found, fd_Tree_found, G_Tree_found, m_Tree_found, b_Tree_found⟩ := c_Tree_found.ex
  obtain ⟨f_need_word, fd_need_word, G_need_word, g_need_word, kp_need_word, b_need_word⟩ := c_need_word.ex
  refine F.okX sc_Tree_begun (fun vs H Q E h => l_Tree_begun h) (fun cdv A outer s H vs Q E hr h => ⟨T_Tree_begun K C_Tree C_Node C_BadWord E, ?_, R_Tree_begun h⟩)
  have hu := hu_of hr
  exact (pss_cons (ps_expr (pe_call G_need_word (hr.mono (by decide)) (by rfl) g_need_word kp_need_word b_need_word .nil (passes_call (takes_of rfl rfl rfl rfl) (fun _ _ _ _ q => q)) (pa_cons (pv 1) pa_nil)))
     (pss_cons (ps_set (i := 2) sc_Tree_begun.nd rfl (Or.inl rfl) (pe_meth (pv 0) T.tx.clT m_Tree_found G_Tree_found (hr.mono (by decide)) b_Tree_found .nil pass0 (pa_cons (pv 1) pa_nil)))
     (pss_cons (ps_if (pt_cmpR o_isN (pv 2) pe_non (nomark _))
     (pss_one (ps_ret (pe_lst pa_nil))) pss_nil)
     (pss_cons (ps_set (i := 3) sc_Tree_begun.nd rfl (Or.inl rfl) (pe_lst pa_nil))
     (pss_cons (ps_set (i := 4) sc_Tree_begun.nd rfl (Or.inl rfl) (pe_lst (pa_cons (pe_tup (pa_cons (pv 2) (pa_cons (pv 1) pa_nil))) pa_nil)))
     (pss_cons (ps_while (passes_of rfl) (pt_truth (pv 4) (by intro _; rfl))
     (pss_cons (ps_asg (pe_bm0 PySem.F.plainAttrs_list PySem.F.slot_list_pop PySem.F.type_list_pop mt_pop (pv 4)) (pg_tup (by rfl) (pgs_cons (pg_name (i := 2) sc_Tree_begun.nd rfl (Or.inl rfl)) (pgs_cons (pg_name (i := 5) sc_Tree_begun.nd rfl (Or.inl rfl)) pgs_nil))))
     (pss_cons (ps_if (pt_val (pe_fld (pv 2) rfl))
     (pss_one (ps_expr (pe_bm PySem.F.plainAttrs_list PySem.F.slot_list_append PySem.F.type_list_append mt_append (pv 3) (pa_cons (pv 5) pa_nil)))) pss_nil)
     (pss_one (ps_lock (ps_for (passes_of rfl) rfl (pi_keys (pe_fld (pv 2) rfl)) (pg_name (i := 6) sc_Tree_begun.nd rfl (Or.inl rfl))
     (pss_one (ps_expr (pe_bm PySem.F.plainAttrs_list PySem.F.slot_list_append PySem.F.type_list_append mt_append (pv 4) (pa_cons (pe_tup (pa_cons (pe_dget hu (pe_fld (pv 2) rfl) (pv 6) (fun _ _ => rfl)) (pa_cons (pe_op o_cat (pv 5) (pv 6)) pa_nil))) pa_nil))))))))))
     (pss_one (ps_ret (pe_callB (c_sortedS hr.units) (by rfl) T.sorted (by decide +kernel) (pa_cons (pv 3) pa_nil))))))))))
theorem ok_Tree_words {f : Addr} {fd : FuncData} (F : Fun K "words" "Tree.words" s_Tree_words f fd) (T : Txt K mg C_BadChange C_BadMost C_BadWord C_Full C_NearError C_Node C_Tree) (c_Tree_begun : CalM P w K mg base (L2.CX P w) 3 C_Tree "begun" ["self", "begin"] (sp_Tree_begun K C_Tree C_Node C_BadWord)) : FnOk P w K mg base (L2.CX P w) 4 f fd ["self"] (sp_Tree_words K C_Tree C_Node C_BadWord) := by
  obtain ⟨f_Tree_begun, fd_Tree_begun, G_Tree_begun, m_Tree_begun, b_Tree_begun⟩ := c_Tree_begun.ex
  refine F.okX sc_Tree_words (fun vs H Q E h => l_Tree_words h) (fun cdv A outer s H vs Q E hr h => ⟨T_Tree_words K C_Tree C_Node C_BadWord E, ?_, R_Tree_words h⟩)
  have hu := hu_of hr
  exact (pss_one (ps_ret (pe_meth (pv 0) T.tx.clT m_Tree_begun G_Tree_begun (hr.mono (by decide)) b_Tree_begun .nil (passes_call (takes_of rfl rfl rfl rfl) (fun _ _ _ _ q => q)) (pa_cons (pe_tx (w := []) (by decide +kernel)) pa_nil))))
theorem ok_law_at {f : Addr} {fd : FuncData} (F : Fun K "_law_at" "_law_at" s_law_at f fd) (T : Txt K mg C_BadChange C_BadMost C_BadWord C_Full C_NearError C_Node C_Tree)  : FnOk P w K mg base CX0 1 f fd ["_law_script", "_law_k"] (sp_law_at K) := by
  refine F.ok sc_law_at (fun vs H Q E h => l_law_at h) (fun cdv A outer s H vs Q E hr h => ⟨T_law_at K, ?_, R_law_at h⟩)
  have hu := hu_of hr
  exact (pss_cons (ps_if (pt_cmpR o_lt (pv 1) (pe_callB c_lenL (by rfl) T.len PySem.boot_len (pa_cons (pv 0) pa_nil)) (nomark _))
     (pss_one (ps_ret (pe_ix x_list (pv 0) (pv 1) (fun _ _ => rfl)))) pss_nil)
     (pss_one (ps_ret pe_int)))
theorem ok_Tree_has {f : Addr} {fd : FuncData} (F : Fun K "has" "Tree.has" s_Tree_has f fd) (T : Txt K mg C_BadChange C_BadMost C_BadWord C_Full C_NearError C_Node C_Tree) (c_Tree_found : CalM P w K mg base CX0 1 C_Tree "found" ["self", "text"] (sp_Tree_found K C_Tree C_Node)) (c_need_word : Cal P w K mg base (L2.CX P w) 2 "need_word" ["thing"] (sp_need_word K C_BadWord)) : FnOk P w K mg base (L2.CX P w) 3 f fd ["self", "word"] (sp_Tree_has K C_Tree C_Node C_BadWord) := by
  obtain ⟨f_Tree_found, fd_Tree_found, G_Tree_found, m_Tree_found, b_Tree_found⟩ := c_Tree_found.ex
  obtain ⟨f_need_word, fd_need_word, G_need_word, g_need_word, kp_need_word, b_need_word⟩ := c_need_word.ex
  refine F.okX sc_Tree_has (fun vs H Q E h => l_Tree_has h) (fun cdv A outer s H vs Q E hr h => ⟨T_Tree_has K C_Tree C_Node C_BadWord E, ?_, R_Tree_has h⟩)
  have hu := hu_of hr
  exact (pss_cons (ps_expr (pe_call G_need_word (hr.mono (by decide)) (by rfl) g_need_word kp_need_word b_need_word .nil (passes_call (takes_of rfl rfl rfl rfl) (fun _ _ _ _ q => q)) (pa_cons (pv 1) pa_nil)))
     (pss_cons (ps_set (i := 2) sc_Tree_has.nd rfl (Or.inl rfl) (pe_meth (pv 0) T.tx.clT m_Tree_found G_Tree_found (hr.mono (by decide)) b_Tree_found .nil pass0 (pa_cons (pv 1) pa_nil)))
     (pss_one (ps_ret (pe_and (pe_cmpR o_notN (pv 2) pe_non (nomark _)) (pe_one (pe_fld (pv 2) rfl)))))))
theorem ok_Tree_many {f : Addr} {fd : FuncData} (F : Fun K "many" "Tree.many" s_Tree_many f fd) (T : Txt K mg C_BadChange C_BadMost C_BadWord C_Full C_NearError C_Node C_Tree)  : FnOk P w K mg base CX0 1 f fd ["self"] (sp_Tree_many K C_Tree C_Node) := by
  refine F.ok sc_Tree_many (fun vs H Q E h => l_Tree_many h) (fun cdv A outer s H vs Q E hr h => ⟨T_Tree_many K, ?_, R_Tree_many h⟩)
  have hu := hu_of hr
  exact (pss_one (ps_ret (pe_fld (pv 0) rfl)))
theorem ok_Node_init {f : Addr} {fd : FuncData} (F : Fun K "__init__" "Node.__init__" s_Node_init f fd) (T : Txt K mg C_BadChange C_BadMost C_BadWord C_Full C_NearError C_Node C_Tree)  : FnOk P w K mg base CX0 1 f fd ["self"] (sp_Node_init K C_Node) := by
  refine F.ok sc_Node_init (fun vs H Q E h => l_Node_init h) (fun cdv A outer s H vs Q E hr h => ⟨T_Node_init K, ?_, R_Node_init T.tx h⟩)
  have hu := hu_of hr
  exact (pss_cons (ps_fld (pv 0) pe_dnewK rfl)
     (pss_one (ps_fld (pv 0) pe_bl rfl)))
theorem ok_Tree_put {f : Addr} {fd : FuncData} (F : Fun K "put" "Tree.put" s_Tree_put f fd) (T : Txt K mg C_BadChange C_BadMost C_BadWord C_Full C_NearError C_Node C_Tree) (c_Node_init : CalI P w K mg base 1 C_Node ["self"] (sp_Node_init K C_Node)) (c_Tree_has : CalM P w K mg base (L2.CX P w) 3 C_Tree "has" ["self", "word"] (sp_Tree_has K C_Tree C_Node C_BadWord)) : FnOk P w K mg base (L2.CX P w) 4 f fd ["self", "word"] (sp_Tree_put K C_Tree C_Node C_BadWord C_Full) := by
  obtain ⟨f_Node_init, fd_Node_init, G_Node_init, mk_Node_init, b_Node_init⟩ := c_Node_init.ex
  obtain ⟨f_Tree_has, fd_Tree_has, G_Tree_has, m_Tree_has, b_Tree_has⟩ := c_Tree_has.ex
  obtain ⟨tk_MOST_WORDS, g_MOST_WORDS⟩ := T.c_MOST_WORDS
  refine F.okX sc_Tree_put (fun vs H Q E h => l_Tree_put h) (fun cdv A outer s H vs Q E hr h => ⟨T_Tree_put K C_Tree C_Node C_BadWord C_Full E, ?_, R_Tree_put h⟩)
  have hu := hu_of hr
  exact (pss_cons (ps_if (pt_val (pe_meth (pv 0) T.tx.clT m_Tree_has G_Tree_has (hr.mono (by decide)) b_Tree_has .nil (passes_call (takes_of rfl rfl rfl rfl) (fun _ _ _ _ q => q)) (pa_cons (pv 1) pa_nil)))
     (pss_one (ps_ret pe_bl)) pss_nil)
     (pss_cons (ps_if (pt_cmpR o_ge (pe_fld (pv 0) rfl) (pe_glob rfl g_MOST_WORDS ⟨_, rfl⟩) (nomark _))
     (pss_one (ps_raise rfl (takes_of rfl rfl rfl rfl) (pmk_own PySem.F.excBase_ValueError T.x_Full T.g_Full T.k_Full (raises_own T.b_Full T.t_Full) (by exact rfl)))) pss_nil)
     (pss_cons (ps_set (i := 2) sc_Tree_put.nd rfl (Or.inl rfl) (pe_fld (pv 0) rfl))
     (pss_cons (ps_for (passes_of rfl) rfl (pi_str (pv 1)) (pg_name (i := 3) sc_Tree_put.nd rfl (Or.inl rfl))
     (pss_cons (ps_if (pt_cmp (pc_dnotin hu (pv 3) (pe_fld (pv 2) rfl)))
     (pss_one (ps_dput hu (pe_fld (pv 2) rfl) (pv 3) (pe_make0 mk_Node_init G_Node_init (hr.mono (by decide)) rfl T.g_Node b_Node_init .nil pass0) rfl)) pss_nil)
     (pss_one (ps_set (i := 2) sc_Tree_put.nd rfl (Or.inl rfl) (pe_dget hu (pe_fld (pv 2) rfl) (pv 3) (fun _ _ => rfl))))))
     (pss_cons (ps_fld (pv 2) pe_bl rfl)
     (pss_cons (ps_fldaug (pv 0) pe_int in_add)
     (pss_one (ps_ret pe_bl))))))))
theorem ok_Tree_take {f : Addr} {fd : FuncData} (F : Fun K "take" "Tree.take" s_Tree_take f fd) (T : Txt K mg C_BadChange C_BadMost C_BadWord C_Full C_NearError C_Node C_Tree) (c_Tree_has : CalM P w K mg base (L2.CX P w) 3 C_Tree "has" ["self", "word"] (sp_Tree_has K C_Tree C_Node C_BadWord)) : FnOk P w K mg base (L2.CX P w) 4 f fd ["self", "word"] (sp_Tree_take K C_Tree C_Node C_BadWord) := by
  obtain ⟨f_Tree_has, fd_Tree_has, G_Tree_has, m_Tree_has, b_Tree_has⟩ := c_Tree_has.ex
  refine F.okX sc_Tree_take (fun vs H Q E h => l_Tree_take h) (fun cdv A outer s H vs Q E hr h => ⟨T_Tree_take K C_Tree C_Node C_BadWord E, ?_, R_Tree_take h⟩)
  have hu := hu_of hr
  exact (pss_cons (ps_if (pt_not (pt_val (pe_meth (pv 0) T.tx.clT m_Tree_has G_Tree_has (hr.mono (by decide)) b_Tree_has .nil (passes_call (takes_of rfl rfl rfl rfl) (fun _ _ _ _ q => q)) (pa_cons (pv 1) pa_nil))))
     (pss_one (ps_ret pe_bl)) pss_nil)
     (pss_cons (ps_fldaug (pv 0) pe_int in_sub)
     (pss_cons (ps_set (i := 2) sc_Tree_take.nd rfl (Or.inl rfl) (pe_fld (pv 0) rfl))
     (pss_cons (ps_set (i := 3) sc_Tree_take.nd rfl (Or.inl rfl) (pv 2))
     (pss_cons (ps_set (i := 4) sc_Tree_take.nd rfl (Or.inl rfl) (pe_tx (w := []) (by decide +kernel)))
     (pss_cons (ps_for (passes_of rfl) rfl (pi_str (pv 1)) (pg_name (i := 5) sc_Tree_take.nd rfl (Or.inl rfl))
     (pss_cons (ps_if (PW.pt (pw_or (pt_val (pe_fld (pv 2) rfl)) (pw_or (pt_cmpR o_gt (pe_callB c_lenD (by rfl) T.len PySem.boot_len (pa_cons (pe_fld (pv 2) rfl) pa_nil)) pe_int (nomark _)) (pw_or1 (pt_cmpR o_eq (pv 4) (pe_tx (w := []) (by decide +kernel)) (nomark _))))))
     (pss_cons (ps_set (i := 3) sc_Tree_take.nd rfl (Or.inl rfl) (pv 2))
     (pss_one (ps_set (i := 4) sc_Tree_take.nd rfl (Or.inl rfl) (pv 5)))) pss_nil)
     (pss_one (ps_set (i := 2) sc_Tree_take.nd rfl (Or.inl rfl) (pe_dget hu (pe_fld (pv 2) rfl) (pv 5) (fun _ _ => rfl))))))
     (pss_cons (ps_fld (pv 2) pe_bl rfl)
     (pss_cons (ps_if (PW.pt (pw_and (pt_cmpR o_ne (pv 4) (pe_tx (w := []) (by decide +kernel)) (nomark _)) (pw_and1 (pt_cmpR o_eq (pe_callB c_lenD (by rfl) T.len PySem.boot_len (pa_cons (pe_fld (pv 2) rfl) pa_nil)) pe_int (nomark _)))))
     (pss_one (ps_expr (pe_dpop1 (pe_fld (pv 3) rfl) (pv 4) ⟨rfl, rfl, rfl, rfl⟩))) pss_nil)
     (pss_one (ps_ret pe_bl))))))))))
theorem ok_Tree_init {f : Addr} {fd : FuncData} (F : Fun K "__init__" "Tree.__init__" s_Tree_init f fd) (T : Txt K mg C_BadChange C_BadMost C_BadWord C_Full C_NearError C_Node C_Tree) (c_Node_init : CalI P w K mg base 1 C_Node ["self"] (sp_Node_init K C_Node)) : FnOk P w K mg base CX0 3 f fd ["self"] (sp_Tree_init K C_Tree C_Node) := by
  obtain ⟨f_Node_init, fd_Node_init, G_Node_init, mk_Node_init, b_Node_init⟩ := c_Node_init.ex
  refine F.ok sc_Tree_init (fun vs H Q E h => l_Tree_init h) (fun cdv A outer s H vs Q E hr h => ⟨T_Tree_init K C_Tree C_Node, ?_, R_Tree_init T.tx h⟩)
  have hu := hu_of hr
  exact (pss_cons (ps_fld (pv 0) (pe_make0 mk_Node_init G_Node_init (hr.mono (by decide)) rfl T.g_Node b_Node_init .nil pass0) rfl)
     (pss_one (ps_fld (pv 0) pe_int rfl)))
theorem ok_law_filled {f : Addr} {fd : FuncData} (F : Fun K "_law_filled" "_law_filled" s_law_filled f fd) (T : Txt K mg C_BadChange C_BadMost C_BadWord C_Full C_NearError C_Node C_Tree) (c_Tree_init : CalI P w K mg base 3 C_Tree ["self"] (sp_Tree_init K C_Tree C_Node)) (c_Tree_put : CalM P w K mg base (L2.CX P w) 4 C_Tree "put" ["self", "word"] (sp_Tree_put K C_Tree C_Node C_BadWord C_Full)) : FnOk P w K mg base CX0 5 f fd ["_law_many"] (sp_law_filled K C_Tree C_Node) := by
  obtain ⟨f_Tree_init, fd_Tree_init, G_Tree_init, mk_Tree_init, b_Tree_init⟩ := c_Tree_init.ex
  obtain ⟨f_Tree_put, fd_Tree_put, G_Tree_put, m_Tree_put, b_Tree_put⟩ := c_Tree_put.ex
  refine F.ok sc_law_filled (fun vs H Q E h => l_law_filled h) (fun cdv A outer s H vs Q E hr h => ⟨T_law_filled K C_Tree C_Node C_BadWord C_Full, ?_, R_law_filled T.tx h⟩)
  have hu := hu_of hr
  exact (pss_cons (ps_set (i := 1) sc_law_filled.nd rfl (Or.inl rfl) (pe_tx (w := abc) (by decide +kernel)))
     (pss_cons (ps_set (i := 2) sc_law_filled.nd rfl (Or.inl rfl) (pe_make0 mk_Tree_init G_Tree_init (hr.mono (by decide)) rfl T.g_Tree b_Tree_init .nil pass0))
     (pss_cons (ps_for PassesOwn.never rfl (pi_range1 (by rfl) T.range (pa_cons (pv 0) pa_nil)) (pg_name (i := 3) sc_law_filled.nd rfl (Or.inl rfl))
     (pss_one (ps_expr (pe_meth (pv 2) T.tx.clT m_Tree_put G_Tree_put (hr.mono (by decide)) b_Tree_put .nil passL (pa_cons (pe_op o_cat (pe_ix x_str (pv 1) (pe_op o_div (pv 3) pe_int) (fun _ _ => rfl)) (pe_ix x_str (pv 1) (pe_op o_mod (pv 3) pe_int) (fun _ _ => rfl))) pa_nil)))))
     (pss_one (ps_ret (pv 2))))))
theorem ok_first_row {f : Addr} {fd : FuncData} (F : Fun K "first_row" "first_row" s_first_row f fd) (T : Txt K mg C_BadChange C_BadMost C_BadWord C_Full C_NearError C_Node C_Tree)  : FnOk P w K mg base CX0 1 f fd ["word"] (sp_first_row K) := by
  refine F.ok sc_first_row (fun vs H Q E h => l_first_row h) (fun cdv A outer s H vs Q E hr h => ⟨T_first_row K, ?_, R_first_row h⟩)
  have hu := hu_of hr
  exact (pss_one (ps_ret (pe_listRg rfl (by rfl) T.list (prg_1 (by rfl) T.range (pe_op o_add (pe_callB c_lenS (by rfl) T.len PySem.boot_len (pa_cons (pv 0) pa_nil)) pe_int)))))
theorem ok_next_row {f : Addr} {fd : FuncData} (F : Fun K "next_row" "next_row" s_next_row f fd) (T : Txt K mg C_BadChange C_BadMost C_BadWord C_Full C_NearError C_Node C_Tree)  : FnOk P w K mg base CX0 1 f fd ["row", "letter", "word"] (sp_next_row K) := by
  refine F.ok sc_next_row (fun vs H Q E h => l_next_row h) (fun cdv A outer s H vs Q E hr h => ⟨T_next_row K, ?_, R_next_row h⟩)
  have hu := hu_of hr
  exact (pss_cons (ps_set (i := 3) sc_next_row.nd rfl (Or.inl rfl) (pe_lst (pa_cons (pe_op o_add (pe_ix x_list (pv 0) pe_int (fun _ _ => rfl)) pe_int) pa_nil)))
     (pss_cons (ps_for PassesOwn.never rfl (pi_range1 (by rfl) T.range (pa_cons (pe_callB c_lenS (by rfl) T.len PySem.boot_len (pa_cons (pv 2) pa_nil)) pa_nil)) (pg_name (i := 4) sc_next_row.nd rfl (Or.inl rfl))
     (pss_cons (ps_set (i := 5) sc_next_row.nd rfl (Or.inl rfl) (pe_ix x_list (pv 0) (pv 4) (fun _ _ => rfl)))
     (pss_cons (ps_if (pt_cmpR o_ne (pe_ix x_str (pv 2) (pv 4) (fun _ _ => rfl)) (pv 1) (nomark _))
     (pss_one (ps_aug (i := 5) sc_next_row.nd rfl (Or.inl rfl) pe_int ip_add)) pss_nil)
     (pss_one (ps_expr (pe_bm PySem.F.plainAttrs_list PySem.F.slot_list_append PySem.F.type_list_append mt_append (pv 3) (pa_cons (pe_callB (c_min3 rfl) (by rfl) T.min (by decide +kernel) (pa_cons (pv 5) (pa_cons (pe_op o_add (pe_ix x_list (pv 0) (pe_op o_add (pv 4) pe_int) (fun _ _ => rfl)) pe_int) (pa_cons (pe_op o_add (pe_ix x_list (pv 3) (pv 4) (fun _ _ => rfl)) pe_int) pa_nil)))) pa_nil)))))))
     (pss_one (ps_ret (pv 3)))))
theorem ok_gone_through {f : Addr} {fd : FuncData} (F : Fun K "gone_through" "gone_through" s_gone_through f fd) (T : Txt K mg C_BadChange C_BadMost C_BadWord C_Full C_NearError C_Node C_Tree) (c_first_row : Cal P w K mg base CX0 1 "first_row" ["word"] (sp_first_row K)) (c_next_row : Cal P w K mg base CX0 1 "next_row" ["row", "letter", "word"] (sp_next_row K)) : FnOk P w K mg base CX0 2 f fd ["tree", "word", "most"] (sp_gone_through K C_Tree C_Node) := by
  obtain ⟨f_first_row, fd_first_row, G_first_row, g_first_row, kp_first_row, b_first_row⟩ := c_first_row.ex
  obtain ⟨f_next_row, fd_next_row, G_next_row, g_next_row, kp_next_row, b_next_row⟩ := c_next_row.ex
  refine F.ok sc_gone_through (fun vs H Q E h => l_gone_through h) (fun cdv A outer s H vs Q E hr h => ⟨T_gone_through K, ?_, R_gone_through h⟩)
  have hu := hu_of hr
  exact (pss_cons (ps_set (i := 3) sc_gone_through.nd rfl (Or.inl rfl) (pe_lst pa_nil))
     (pss_cons (ps_set (i := 4) sc_gone_through.nd rfl (Or.inl rfl) (pe_lst (pa_cons (pe_tup (pa_cons (pe_fld (pv 0) rfl) (pa_cons (pe_tx (w := []) (by decide +kernel)) (pa_cons (pe_call G_first_row (hr.mono (by decide)) (by rfl) g_first_row kp_first_row b_first_row .nil pass0 (pa_cons (pv 1) pa_nil)) pa_nil)))) pa_nil)))
     (pss_cons (ps_while PassesOwn.never (pt_truth (pv 4) (by intro _; rfl))
     (pss_cons (ps_asg (pe_bm0 PySem.F.plainAttrs_list PySem.F.slot_list_pop PySem.F.type_list_pop mt_pop (pv 4)) (pg_tup (by rfl) (pgs_cons (pg_name (i := 5) sc_gone_through.nd rfl (Or.inl rfl)) (pgs_cons (pg_name (i := 6) sc_gone_through.nd rfl (Or.inl rfl)) (pgs_cons (pg_name (i := 7) sc_gone_through.nd rfl (Or.inl rfl)) pgs_nil)))))
     (pss_cons (ps_expr (pe_bm PySem.F.plainAttrs_list PySem.F.slot_list_append PySem.F.type_list_append mt_append (pv 3) (pa_cons (pe_tup (pa_cons (pv 5) (pa_cons (pv 6) (pa_cons (pv 7) pa_nil)))) pa_nil)))
     (pss_one (ps_lock (ps_for PassesOwn.never rfl (pi_keys (pe_fld (pv 5) rfl)) (pg_name (i := 8) sc_gone_through.nd rfl (Or.inl rfl))
     (pss_cons (ps_set (i := 9) sc_gone_through.nd rfl (Or.inl rfl) (pe_call G_next_row (hr.mono (by decide)) (by rfl) g_next_row kp_next_row b_next_row .nil pass0 (pa_cons (pv 7) (pa_cons (pv 8) (pa_cons (pv 1) pa_nil)))))
     (pss_one (ps_if (pt_cmpR o_le (pe_callB (c_min1 rfl) (by rfl) T.min (by decide +kernel) (pa_cons (pv 9) pa_nil)) (pv 2) (nomark _))
     (pss_one (ps_expr (pe_bm PySem.F.plainAttrs_list PySem.F.slot_list_append PySem.F.type_list_append mt_append (pv 4) (pa_cons (pe_tup (pa_cons (pe_dget hu (pe_fld (pv 5) rfl) (pv 8) (fun _ _ => rfl)) (pa_cons (pe_op o_cat (pv 6) (pv 8)) (pa_cons (pv 9) pa_nil)))) pa_nil)))) pss_nil)))))))))
     (pss_one (ps_ret (pv 3))))))
theorem ok_is_whole {f : Addr} {fd : FuncData} (F : Fun K "is_whole" "is_whole" s_is_whole f fd) (T : Txt K mg C_BadChange C_BadMost C_BadWord C_Full C_NearError C_Node C_Tree)  : FnOk P w K mg base CX0 1 f fd ["thing"] (sp_is_whole K) := by
  refine F.ok sc_is_whole (fun vs H Q E h => l_is_whole h) (fun cdv A outer s H vs Q E hr h => ⟨T_is_whole K, ?_, R_is_whole h⟩)
  have hu := hu_of hr
  exact (pss_one (ps_ret (pe_and (pe_callB c_isi (by rfl) T.isinstance (by decide +kernel) (pa_cons (pv 0) (pa_cons (pe_bltn (v := .ty "int") (by rfl) T.int (by decide +kernel) rfl) pa_nil))) (pe_one (pe_not (pe_callB c_isi (by rfl) T.isinstance (by decide +kernel) (pa_cons (pv 0) (pa_cons (pe_bltn (v := .ty "bool") (by rfl) T.bool (by decide +kernel) rfl) pa_nil))))))))
theorem ok_need_most {f : Addr} {fd : FuncData} (F : Fun K "need_most" "need_most" s_need_most f fd) (T : Txt K mg C_BadChange C_BadMost C_BadWord C_Full C_NearError C_Node C_Tree) (c_is_whole : Cal P w K mg base CX0 1 "is_whole" ["thing"] (sp_is_whole K)) : FnOk P w K mg base (L2.CX P w) 2 f fd ["thing"] (sp_need_most K C_BadMost) := by
  obtain ⟨f_is_whole, fd_is_whole, G_is_whole, g_is_whole, kp_is_whole, b_is_whole⟩ := c_is_whole.ex
  obtain ⟨tk_MOST_LETTERS, g_MOST_LETTERS⟩ := T.c_MOST_LETTERS
  refine F.okX sc_need_most (fun vs H Q E h => l_need_most h) (fun cdv A outer s H vs Q E hr h => ⟨T_need_most K C_BadMost E, ?_, R_need_most h⟩)
  have hu := hu_of hr
  exact (pss_one (ps_if (PW.pt (pw_or (pt_not (pt_val (pe_call G_is_whole (hr.mono (by decide)) (by rfl) g_is_whole kp_is_whole b_is_whole .nil pass0 (pa_cons (pv 0) pa_nil)))) (pw_or1 (pt_not (pt_chain o_le o_le pe_int (pv 0) (pe_glob rfl g_MOST_LETTERS ⟨_, rfl⟩))))))
     (pss_one (ps_raise rfl (takes_of rfl rfl rfl rfl) (pmk_own PySem.F.excBase_ValueError T.x_BadMost T.g_BadMost T.k_BadMost (raises_own T.b_BadMost T.t_BadMost) (by exact rfl)))) pss_nil))
theorem ok_rows_of {f : Addr} {fd : FuncData} (F : Fun K "rows_of" "rows_of" s_rows_of f fd) (T : Txt K mg C_BadChange C_BadMost C_BadWord C_Full C_NearError C_Node C_Tree) (c_first_row : Cal P w K mg base CX0 1 "first_row" ["word"] (sp_first_row K)) (c_next_row : Cal P w K mg base CX0 1 "next_row" ["row", "letter", "word"] (sp_next_row K)) : FnOk P w K mg base CX0 2 f fd ["one", "other"] (sp_rows_of K) := by
  obtain ⟨f_first_row, fd_first_row, G_first_row, g_first_row, kp_first_row, b_first_row⟩ := c_first_row.ex
  obtain ⟨f_next_row, fd_next_row, G_next_row, g_next_row, kp_next_row, b_next_row⟩ := c_next_row.ex
  refine F.ok sc_rows_of (fun vs H Q E h => l_rows_of h) (fun cdv A outer s H vs Q E hr h => ⟨T_rows_of K, ?_, R_rows_of h⟩)
  have hu := hu_of hr
  exact (pss_cons (ps_set (i := 2) sc_rows_of.nd rfl (Or.inl rfl) (pe_lst (pa_cons (pe_call G_first_row (hr.mono (by decide)) (by rfl) g_first_row kp_first_row b_first_row .nil pass0 (pa_cons (pv 1) pa_nil)) pa_nil)))
     (pss_cons (ps_for PassesOwn.never rfl (pi_str (pv 0)) (pg_name (i := 3) sc_rows_of.nd rfl (Or.inl rfl))
     (pss_one (ps_expr (pe_bm PySem.F.plainAttrs_list PySem.F.slot_list_append PySem.F.type_list_append mt_append (pv 2) (pa_cons (pe_call G_next_row (hr.mono (by decide)) (by rfl) g_next_row kp_next_row b_next_row .nil pass0 (pa_cons (pe_ix x_list (pv 2) (pe_un o_neg pe_int) (fun _ _ => rfl)) (pa_cons (pv 3) (pa_cons (pv 1) pa_nil)))) pa_nil)))))
     (pss_one (ps_ret (pv 2)))))
theorem ok_steps_of {f : Addr} {fd : FuncData} (F : Fun K "steps_of" "steps_of" s_steps_of f fd) (T : Txt K mg C_BadChange C_BadMost C_BadWord C_Full C_NearError C_Node C_Tree) (c_rows_of : Cal P w K mg base CX0 2 "rows_of" ["one", "other"] (sp_rows_of K)) : FnOk P w K mg base CX0 3 f fd ["one", "other"] (sp_steps_of K) := by
  obtain ⟨f_rows_of, fd_rows_of, G_rows_of, g_rows_of, kp_rows_of, b_rows_of⟩ := c_rows_of.ex
  refine F.ok sc_steps_of (fun vs H Q E h => l_steps_of h) (fun cdv A outer s H vs Q E hr h => ⟨T_steps_of K, ?_, R_steps_of h⟩)
  have hu := hu_of hr
  exact (pss_cons (ps_set (i := 2) sc_steps_of.nd rfl (Or.inl rfl) (pe_call G_rows_of (hr.mono (by decide)) (by rfl) g_rows_of kp_rows_of b_rows_of .nil pass0 (pa_cons (pv 0) (pa_cons (pv 1) pa_nil))))
     (pss_cons (ps_par (i := 3) (j := 4) (by rfl) sc_steps_of.nd rfl rfl (by decide) rfl rfl (pa_cons (pe_callB c_lenS (by rfl) T.len PySem.boot_len (pa_cons (pv 0) pa_nil)) (pa_cons (pe_callB c_lenS (by rfl) T.len PySem.boot_len (pa_cons (pv 1) pa_nil)) pa_nil)) (by rfl))
     (pss_cons (ps_set (i := 5) sc_steps_of.nd rfl (Or.inl rfl) (pe_lst pa_nil))
     (pss_cons (ps_while PassesOwn.never (PW.pt (pw_or (pt_cmpR o_gt (pv 3) pe_int (nomark _)) (pw_or1 (pt_cmpR o_gt (pv 4) pe_int (nomark _)))))
     (pss_cons (ps_set (i := 6) sc_steps_of.nd rfl (Or.inl rfl) (pe_ix x_list (pe_ix x_list (pv 2) (pv 3) (fun _ _ => rfl)) (pv 4) (fun _ _ => rfl)))
     (pss_one (ps_if (PW.pt (pw_and (pt_cmpR o_gt (pv 3) pe_int (nomark _)) (pw_and (pt_cmpR o_gt (pv 4) pe_int (nomark _)) (pw_and (pt_cmpR o_eq (pe_ix x_str (pv 0) (pe_op o_sub (pv 3) pe_int) (fun _ _ => rfl)) (pe_ix x_str (pv 1) (pe_op o_sub (pv 4) pe_int) (fun _ _ => rfl)) (nomark _)) (pw_and1 (pt_cmpR o_eq (pv 6) (pe_ix x_list (pe_ix x_list (pv 2) (pe_op o_sub (pv 3) pe_int) (fun _ _ => rfl)) (pe_op o_sub (pv 4) pe_int) (fun _ _ => rfl)) (nomark _)))))))
     (pss_one (ps_par (i := 3) (j := 4) (by rfl) sc_steps_of.nd rfl rfl (by decide) rfl rfl (pa_cons (pe_op o_sub (pv 3) pe_int) (pa_cons (pe_op o_sub (pv 4) pe_int) pa_nil)) (by rfl))) (pss_one (ps_if (PW.pt (pw_and (pt_cmpR o_gt (pv 3) pe_int (nomark _)) (pw_and (pt_cmpR o_gt (pv 4) pe_int (nomark _)) (pw_and1 (pt_cmpR o_eq (pv 6) (pe_op o_add (pe_ix x_list (pe_ix x_list (pv 2) (pe_op o_sub (pv 3) pe_int) (fun _ _ => rfl)) (pe_op o_sub (pv 4) pe_int) (fun _ _ => rfl)) pe_int) (nomark _))))))
     (pss_cons (ps_expr (pe_bm PySem.F.plainAttrs_list PySem.F.slot_list_append PySem.F.type_list_append mt_append (pv 5) (pa_cons (pe_tup (pa_cons (pe_tx (w := [116, 117, 114, 110]) (by decide +kernel)) (pa_cons (pe_op o_sub (pv 3) pe_int) (pa_cons (pe_ix x_str (pv 1) (pe_op o_sub (pv 4) pe_int) (fun _ _ => rfl)) pa_nil)))) pa_nil)))
     (pss_one (ps_par (i := 3) (j := 4) (by rfl) sc_steps_of.nd rfl rfl (by decide) rfl rfl (pa_cons (pe_op o_sub (pv 3) pe_int) (pa_cons (pe_op o_sub (pv 4) pe_int) pa_nil)) (by rfl)))) (pss_one (ps_if (PW.pt (pw_and (pt_cmpR o_gt (pv 3) pe_int (nomark _)) (pw_and1 (pt_cmpR o_eq (pv 6) (pe_op o_add (pe_ix x_list (pe_ix x_list (pv 2) (pe_op o_sub (pv 3) pe_int) (fun _ _ => rfl)) (pv 4) (fun _ _ => rfl)) pe_int) (nomark _)))))
     (pss_cons (ps_expr (pe_bm PySem.F.plainAttrs_list PySem.F.slot_list_append PySem.F.type_list_append mt_append (pv 5) (pa_cons (pe_tup (pa_cons (pe_tx (w := [99, 117, 116]) (by decide +kernel)) (pa_cons (pe_op o_sub (pv 3) pe_int) pa_nil))) pa_nil)))
     (pss_one (ps_aug (i := 3) sc_steps_of.nd rfl (Or.inl rfl) pe_int ip_sub))) (pss_cons (ps_expr (pe_bm PySem.F.plainAttrs_list PySem.F.slot_list_append PySem.F.type_list_append mt_append (pv 5) (pa_cons (pe_tup (pa_cons (pe_tx (w := [112, 117, 116]) (by decide +kernel)) (pa_cons (pv 3) (pa_cons (pe_ix x_str (pv 1) (pe_op o_sub (pv 4) pe_int) (fun _ _ => rfl)) pa_nil)))) pa_nil)))
     (pss_one (ps_aug (i := 4) sc_steps_of.nd rfl (Or.inl rfl) pe_int ip_sub)))))))))))
     (pss_one (ps_ret (pv 5)))))))
theorem ok_way {f : Addr} {fd : FuncData} (F : Fun K "way" "way" s_way f fd) (T : Txt K mg C_BadChange C_BadMost C_BadWord C_Full C_NearError C_Node C_Tree) (c_need_word : Cal P w K mg base (L2.CX P w) 2 "need_word" ["thing"] (sp_need_word K C_BadWord)) (c_steps_of : Cal P w K mg base CX0 3 "steps_of" ["one", "other"] (sp_steps_of K)) : FnOk P w K mg base (L2.CX P w) 4 f fd ["one", "other"] (sp_way K C_BadWord) := by
  obtain ⟨f_need_word, fd_need_word, G_need_word, g_need_word, kp_need_word, b_need_word⟩ := c_need_word.ex
  obtain ⟨f_steps_of, fd_steps_of, G_steps_of, g_steps_of, kp_steps_of, b_steps_of⟩ := c_steps_of.ex
  refine F.okX sc_way (fun vs H Q E h => l_way h) (fun cdv A outer s H vs Q E hr h => ⟨T_way K C_BadWord E, ?_, R_way h⟩)
  have hu := hu_of hr
  exact (pss_cons (ps_expr (pe_call G_need_word (hr.mono (by decide)) (by rfl) g_need_word kp_need_word b_need_word .nil (passes_call (takes_of rfl rfl rfl rfl) (fun _ _ _ _ q => q)) (pa_cons (pv 0) pa_nil)))
     (pss_cons (ps_expr (pe_call G_need_word (hr.mono (by decide)) (by rfl) g_need_word kp_need_word b_need_word .nil (passes_call (takes_of rfl rfl rfl rfl) (fun _ _ _ _ q => q)) (pa_cons (pv 1) pa_nil)))
     (pss_one (ps_ret (pe_call G_steps_of (hr.mono (by decide)) (by rfl) g_steps_of kp_steps_of b_steps_of .nil pass0 (pa_cons (pv 0) (pa_cons (pv 1) pa_nil)))))))
theorem ok_near {f : Addr} {fd : FuncData} (F : Fun K "near" "near" s_near f fd) (T : Txt K mg C_BadChange C_BadMost C_BadWord C_Full C_NearError C_Node C_Tree) (c_gone_through : Cal P w K mg base CX0 2 "gone_through" ["tree", "word", "most"] (sp_gone_through K C_Tree C_Node)) (c_need_most : Cal P w K mg base (L2.CX P w) 2 "need_most" ["thing"] (sp_need_most K C_BadMost)) (c_need_word : Cal P w K mg base (L2.CX P w) 2 "need_word" ["thing"] (sp_need_word K C_BadWord)) (c_way : Cal P w K mg base (L2.CX P w) 4 "way" ["one", "other"] (sp_way K C_BadWord)) : FnOk P w K mg base (L2.CX P w) 5 f fd ["tree", "word", "most"] (sp_near K C_Tree C_Node C_BadWord C_BadMost) := by
  obtain ⟨f_gone_through, fd_gone_through, G_gone_through, g_gone_through, kp_gone_through, b_gone_through⟩ := c_gone_through.ex
  obtain ⟨f_need_most, fd_need_most, G_need_most, g_need_most, kp_need_most, b_need_most⟩ := c_need_most.ex
  obtain ⟨f_need_word, fd_need_word, G_need_word, g_need_word, kp_need_word, b_need_word⟩ := c_need_word.ex
  obtain ⟨f_way, fd_way, G_way, g_way, kp_way, b_way⟩ := c_way.ex
  refine F.okX sc_near (fun vs H Q E h => l_near h) (fun cdv A outer s H vs Q E hr h => ⟨T_near K C_Tree C_Node C_BadWord C_BadMost E, ?_, R_near h⟩)
  have hu := hu_of hr
  exact (pss_cons (ps_expr (pe_call G_need_word (hr.mono (by decide)) (by rfl) g_need_word kp_need_word b_need_word .nil (passes_call (takes_of rfl rfl rfl rfl) (fun _ _ _ _ q => q)) (pa_cons (pv 1) pa_nil)))
     (pss_cons (ps_expr (pe_call G_need_most (hr.mono (by decide)) (by rfl) g_need_most kp_need_most b_need_most .nil (passes_call (takes_of rfl rfl rfl rfl) (fun _ _ _ _ q => q)) (pa_cons (pv 2) pa_nil)))
     (pss_cons (ps_set (i := 3) sc_near.nd rfl (Or.inl rfl) (pe_lst pa_nil))
     (pss_cons (ps_for (passes_of rfl) rfl (pi_list (pe_call G_gone_through (hr.mono (by decide)) (by rfl) g_gone_through kp_gone_through b_gone_through .nil pass0 (pa_cons (pv 0) (pa_cons (pv 1) (pa_cons (pv 2) pa_nil))))) (pg_tup (by rfl) (pgs_cons (pg_name (i := 4) sc_near.nd rfl (Or.inl rfl)) (pgs_cons (pg_name (i := 5) sc_near.nd rfl (Or.inl rfl)) (pgs_cons (pg_name (i := 6) sc_near.nd rfl (Or.inl rfl)) pgs_nil))))
     (pss_one (ps_if (PW.pt (pw_and (pt_val (pe_fld (pv 4) rfl)) (pw_and1 (pt_cmpR o_le (pe_ix x_list (pv 6) (pe_un o_neg pe_int) (fun _ _ => rfl)) (pv 2) (nomark _)))))
     (pss_one (ps_expr (pe_bm PySem.F.plainAttrs_list PySem.F.slot_list_append PySem.F.type_list_append mt_append (pv 3) (pa_cons (pe_tup (pa_cons (pe_ix x_list (pv 6) (pe_un o_neg pe_int) (fun _ _ => rfl)) (pa_cons (pv 5) pa_nil))) pa_nil)))) pss_nil)))
     (pss_one (ps_ret (pe_lc (own := [("far", 7), ("text", 5)]) (g := (gTup K 2 (gCons (gName 7) (gCons (gName 5) gNil)))) (tt := tYes) (by rfl) sc_near.nd (pi_list (pe_callB (c_sortedP hr.units) (by rfl) T.sorted (by decide +kernel) (pa_cons (pv 3) pa_nil))) (blkOk_by (own := [("far", 7), ("text", 5)]) (N := ["tree", "word", "most", "found", "node", "text", "row", "far"]) (sc := defScope s_near) (by decide +kernel)) (fun _ _ _ _ _ => (pg_tup (by rfl) (pgs_cons (pg_name (i := 7) sc_near.nd rfl (Or.inl rfl)) (pgs_cons (pg_name (i := 5) sc_near.nd rfl (Or.inl rfl)) pgs_nil)))) (fun _ _ _ _ _ => pts_nil) (fun _ _ _ _ _ => (pe_tup (pa_cons (pv 5) (pa_cons (pe_call G_way (hr.mono (by decide)) (by rfl) g_way kp_way b_way .nil passL (pa_cons (pv 1) (pa_cons (pv 5) pa_nil))) pa_nil)))))))))))
theorem ok_law_great {f : Addr} {fd : FuncData} (F : Fun K "_law_great" "_law_great" s_law_great f fd) (T : Txt K mg C_BadChange C_BadMost C_BadWord C_Full C_NearError C_Node C_Tree) (c_Tree_words : CalM P w K mg base (L2.CX P w) 4 C_Tree "words" ["self"] (sp_Tree_words K C_Tree C_Node C_BadWord)) (c_near : Cal P w K mg base (L2.CX P w) 5 "near" ["tree", "word", "most"] (sp_near K C_Tree C_Node C_BadWord C_BadMost)) : FnOk P w K mg base CX0 6 f fd ["_law_tree_here", "_law_many", "_law_is_wide"] (sp_law_great K C_Tree C_Node) := by
  obtain ⟨f_Tree_words, fd_Tree_words, G_Tree_words, m_Tree_words, b_Tree_words⟩ := c_Tree_words.ex
  obtain ⟨f_near, fd_near, G_near, g_near, kp_near, b_near⟩ := c_near.ex
  refine F.ok sc_law_great (fun vs H Q E h => l_law_great h) (fun cdv A outer s H vs Q E hr h => ⟨T_law_great K C_Tree C_Node C_BadWord C_BadMost, ?_, R_law_great h⟩)
  have hu := hu_of hr
  exact (pss_cons (ps_set (i := 3) sc_law_great.nd rfl (Or.inr rfl) (pe_tx (w := abc) (by decide +kernel)))
     (pss_cons (ps_setLc (i := 4) (own := [("_law_k", 5)]) (g := (gName 5)) (tt := tYes) (by rfl) sc_law_great.nd rfl rfl (sw_true rfl rfl rfl (by decide +kernel)) (pi_range1 (by rfl) T.range (pa_cons (pv 1) pa_nil)) (blkOk_by (own := [("_law_k", 5)]) (N := ["_law_tree_here", "_law_many", "_law_is_wide", "_law_letters", "_law_words_here", "_law_k", "_law_due", "_law_word_here", "_law_pair"]) (sc := defScope s_law_great) (by decide +kernel)) (fun _ _ _ _ _ => (pg_name (i := 5) sc_law_great.nd rfl (Or.inl rfl))) (fun _ _ _ _ _ => pts_nil) (fun _ _ _ _ _ => (pe_op o_cat (pe_ix x_str (pv 3) (pe_op o_div (pv 5) pe_int) (fun _ _ => rfl)) (pe_ix x_str (pv 3) (pe_op o_mod (pv 5) pe_int) (fun _ _ => rfl)))))
     (pss_cons (ps_if (pt_cmpR (o_neD hr.units) (pe_meth0 (pv 0) T.tx.clT m_Tree_words G_Tree_words (hr.mono (by decide)) b_Tree_words .nil passL) (pe_op o_lcat (pv 4) (pe_slice l_list (pe_lst (pa_cons (pe_tx (w := [122, 122, 122, 122]) (by decide +kernel)) pa_nil)) po_none (po_some (pe_op o_sub pe_int (pv 1))))) (nomark _))
     (pss_one (ps_ret pe_bl)) pss_nil)
     (pss_cons (ps_set (i := 6) sc_law_great.nd rfl (Or.inl rfl) (pe_op o_lcat (pe_lst (pa_cons (pe_tx (w := [97, 97]) (by decide +kernel)) pa_nil)) (pe_lc (own := [("_law_word_here", 7)]) (g := (gName 7)) (tt := (tAnd (tTest (tOp nInS (tC (tx [97])) (tVar 7))) (tTest (tOp nNe (tVar 7) (tC (tx [97, 97])))))) (by rfl) sc_law_great.nd (pi_list (pv 4)) (blkOk_by (own := [("_law_word_here", 7)]) (N := ["_law_tree_here", "_law_many", "_law_is_wide", "_law_letters", "_law_words_here", "_law_k", "_law_due", "_law_word_here", "_law_pair"]) (sc := defScope s_law_great) (by decide +kernel)) (fun _ _ _ _ _ => (pg_name (i := 7) sc_law_great.nd rfl (Or.inl rfl))) (fun _ _ _ _ _ => pts_one (PW.pt (pw_and (pt_cmpR o_inS (pe_tx (w := [97]) (by decide +kernel)) (pv 7) (by rfl)) (pw_and1 (pt_cmpR o_ne (pv 7) (pe_tx (w := [97, 97]) (by decide +kernel)) (nomark _)))))) (fun _ _ _ _ _ => (pv 7)))))
     (pss_cons (ps_if (pt_cmpR (o_neD hr.units) (pe_lc (own := [("_law_pair", 8)]) (g := (gName 8)) (tt := tYes) (by rfl) sc_law_great.nd (pi_list (pe_call G_near (hr.mono (by decide)) (by rfl) g_near kp_near b_near .nil passL (pa_cons (pv 0) (pa_cons (pe_tx (w := [97, 97]) (by decide +kernel)) (pa_cons pe_int pa_nil))))) (blkOk_by (own := [("_law_pair", 8)]) (N := ["_law_tree_here", "_law_many", "_law_is_wide", "_law_letters", "_law_words_here", "_law_k", "_law_due", "_law_word_here", "_law_pair"]) (sc := defScope s_law_great) (by decide +kernel)) (fun _ _ _ _ _ => (pg_name (i := 8) sc_law_great.nd rfl (Or.inl rfl))) (fun _ _ _ _ _ => pts_nil) (fun _ _ _ _ _ => (pe_ix x_tup (pv 8) pe_int (fun _ _ => rfl)))) (pv 6) (nomark _))
     (pss_one (ps_ret pe_bl)) pss_nil)
     (pss_cons (ps_if (pt_not (pt_val (pv 2)))
     (pss_one (ps_ret pe_bl)) pss_nil)
     (pss_one (ps_ret (pe_cmpR (o_eqD hr.units) (pe_lc (own := [("_law_pair", 8)]) (g := (gName 8)) (tt := tYes) (by rfl) sc_law_great.nd (pi_list (pe_call G_near (hr.mono (by decide)) (by rfl) g_near kp_near b_near .nil passL (pa_cons (pv 0) (pa_cons (pe_tx (w := [97, 97]) (by decide +kernel)) (pa_cons pe_int pa_nil))))) (blkOk_by (own := [("_law_pair", 8)]) (N := ["_law_tree_here", "_law_many", "_law_is_wide", "_law_letters", "_law_words_here", "_law_k", "_law_due", "_law_word_here", "_law_pair"]) (sc := defScope s_law_great) (by decide +kernel)) (fun _ _ _ _ _ => (pg_name (i := 8) sc_law_great.nd rfl (Or.inl rfl))) (fun _ _ _ _ _ => pts_nil) (fun _ _ _ _ _ => (pe_ix x_tup (pv 8) pe_int (fun _ _ => rfl)))) (pe_op o_lcat (pv 6) (pe_lc (own := [("_law_word_here", 7)]) (g := (gName 7)) (tt := (tTest (tOp nNotInS (tC (tx [97])) (tVar 7)))) (by rfl) sc_law_great.nd (pi_list (pv 4)) (blkOk_by (own := [("_law_word_here", 7)]) (N := ["_law_tree_here", "_law_many", "_law_is_wide", "_law_letters", "_law_words_here", "_law_k", "_law_due", "_law_word_here", "_law_pair"]) (sc := defScope s_law_great) (by decide +kernel)) (fun _ _ _ _ _ => (pg_name (i := 7) sc_law_great.nd rfl (Or.inl rfl))) (fun _ _ _ _ _ => pts_one (pt_cmpR o_notInS (pe_tx (w := [97]) (by decide +kernel)) (pv 7) (by rfl))) (fun _ _ _ _ _ => (pv 7)))) (nomark _))))))))))
theorem ok_law_is_word {f : Addr} {fd : FuncData} (F : Fun K "_law_is_word" "_law_is_word" s_law_is_word f fd) (T : Txt K mg C_BadChange C_BadMost C_BadWord C_Full C_NearError C_Node C_Tree)  : FnOk P w K mg base CX0 1 f fd ["_law_thing_here"] (sp_law_is_word K) := by
  refine F.ok sc_law_is_word (fun vs H Q E h => l_law_is_word h) (fun cdv A outer s H vs Q E hr h => ⟨T_law_is_word K, ?_, R_law_is_word h⟩)
  have hu := hu_of hr
  exact (pss_cons (ps_if (PW.pt (pw_or (pt_not (pt_val (pe_callB c_isi (by rfl) T.isinstance (by decide +kernel) (pa_cons (pv 0) (pa_cons (pe_bltn (v := .ty "str") (by rfl) T.str (by decide +kernel) rfl) pa_nil))))) (pw_or1 (pt_cmpR o_gt (pe_callB c_lenS (by rfl) T.len PySem.boot_len (pa_cons (pv 0) pa_nil)) pe_int (nomark _)))))
     (pss_one (ps_ret pe_bl)) pss_nil)
     (pss_one (ps_ret (pe_cmpR (o_eqD hr.units) (pe_lc (own := [("_law_letter_here", 1)]) (g := (gName 1)) (tt := (tTest (tOp nNotInS (tVar 1) (tC (tx abc))))) (by rfl) sc_law_is_word.nd (pi_str (pv 0)) (blkOk_by (own := [("_law_letter_here", 1)]) (N := ["_law_thing_here", "_law_letter_here"]) (sc := defScope s_law_is_word) (by decide +kernel)) (fun _ _ _ _ _ => (pg_name (i := 1) sc_law_is_word.nd rfl (Or.inl rfl))) (fun _ _ _ _ _ => pts_one (pt_cmpR o_notInS (pv 1) (pe_tx (w := abc) (by decide +kernel)) (by rfl))) (fun _ _ _ _ _ => (pv 1))) (pe_lst pa_nil) (nomark _)))))
theorem ok_table {f : Addr} {fd : FuncData} (F : Fun K "table" "table" s_table f fd) (T : Txt K mg C_BadChange C_BadMost C_BadWord C_Full C_NearError C_Node C_Tree) (c_need_word : Cal P w K mg base (L2.CX P w) 2 "need_word" ["thing"] (sp_need_word K C_BadWord)) (c_rows_of : Cal P w K mg base CX0 2 "rows_of" ["one", "other"] (sp_rows_of K)) : FnOk P w K mg base (L2.CX P w) 3 f fd ["one", "other"] (sp_table K C_BadWord) := by
  obtain ⟨f_need_word, fd_need_word, G_need_word, g_need_word, kp_need_word, b_need_word⟩ := c_need_word.ex
  obtain ⟨f_rows_of, fd_rows_of, G_rows_of, g_rows_of, kp_rows_of, b_rows_of⟩ := c_rows_of.ex
  refine F.okX sc_table (fun vs H Q E h => l_table h) (fun cdv A outer s H vs Q E hr h => ⟨T_table K C_BadWord E, ?_, R_table h⟩)
  have hu := hu_of hr
  exact (pss_cons (ps_expr (pe_call G_need_word (hr.mono (by decide)) (by rfl) g_need_word kp_need_word b_need_word .nil (passes_call (takes_of rfl rfl rfl rfl) (fun _ _ _ _ q => q)) (pa_cons (pv 0) pa_nil)))
     (pss_cons (ps_expr (pe_call G_need_word (hr.mono (by decide)) (by rfl) g_need_word kp_need_word b_need_word .nil (passes_call (takes_of rfl rfl rfl rfl) (fun _ _ _ _ q => q)) (pa_cons (pv 1) pa_nil)))
     (pss_one (ps_ret (pe_call G_rows_of (hr.mono (by decide)) (by rfl) g_rows_of kp_rows_of b_rows_of .nil pass0 (pa_cons (pv 0) (pa_cons (pv 1) pa_nil)))))))
theorem ok_distance {f : Addr} {fd : FuncData} (F : Fun K "distance" "distance" s_distance f fd) (T : Txt K mg C_BadChange C_BadMost C_BadWord C_Full C_NearError C_Node C_Tree) (c_table : Cal P w K mg base (L2.CX P w) 3 "table" ["one", "other"] (sp_table K C_BadWord)) : FnOk P w K mg base (L2.CX P w) 4 f fd ["one", "other"] (sp_distance K C_BadWord) := by
  obtain ⟨f_table, fd_table, G_table, g_table, kp_table, b_table⟩ := c_table.ex
  refine F.okX sc_distance (fun vs H Q E h => l_distance h) (fun cdv A outer s H vs Q E hr h => ⟨T_distance K C_BadWord E, ?_, R_distance h⟩)
  have hu := hu_of hr
  exact (pss_one (ps_ret (pe_ix x_list (pe_ix x_list (pe_call G_table (hr.mono (by decide)) (by rfl) g_table kp_table b_table .nil (passes_call (takes_of rfl rfl rfl rfl) (fun _ _ _ _ q => q)) (pa_cons (pv 0) (pa_cons (pv 1) pa_nil))) (pe_un o_neg pe_int) (fun _ _ => rfl)) (pe_un o_neg pe_int) (fun _ _ => rfl))))
theorem ok_law_two8 {f : Addr} {fd : FuncData} (F : Fun K "_law_two" "_law_two" s_law_two8 f fd) (T : Txt K mg C_BadChange C_BadMost C_BadWord C_Full C_NearError C_Node C_Tree) (c_distance : Cal P w K mg base (L2.CX P w) 4 "distance" ["one", "other"] (sp_distance K C_BadWord)) (c_table : Cal P w K mg base (L2.CX P w) 3 "table" ["one", "other"] (sp_table K C_BadWord)) (c_way : Cal P w K mg base (L2.CX P w) 4 "way" ["one", "other"] (sp_way K C_BadWord)) : FnOk P w K mg base (L2.CX P w) 5 f fd ["_law_sort", "_law_thing_here", "_law_most"] (sp_law_two8 K C_BadWord) := by
  obtain ⟨f_distance, fd_distance, G_distance, g_distance, kp_distance, b_distance⟩ := c_distance.ex
  obtain ⟨f_table, fd_table, G_table, g_table, kp_table, b_table⟩ := c_table.ex
  obtain ⟨f_way, fd_way, G_way, g_way, kp_way, b_way⟩ := c_way.ex
  refine F.okX sc_law_two8 (fun vs H Q E h => l_law_two8 h) (fun cdv A outer s H vs Q E hr h => ⟨T_law_two8 K C_BadWord E, ?_, R_law_two8 h⟩)
  have hu := hu_of hr
  exact (pss_cons (ps_set (i := 3) sc_law_two8.nd rfl (Or.inl rfl) (pe_ix x_list (pe_lst (pa_cons (pe_tup (pa_cons (pe_tx (w := [97, 98]) (by decide +kernel)) (pa_cons (pv 1) pa_nil))) (pa_cons (pe_tup (pa_cons (pv 1) (pa_cons (pe_tx (w := [97, 98]) (by decide +kernel)) pa_nil))) (pa_cons (pe_tup (pa_cons (pv 1) (pa_cons (pv 1) pa_nil))) pa_nil)))) (pv 0) (fun _ _ => rfl)))
     (pss_cons (ps_if (pt_cmpR (o_inX hr.units) (pv 2) (pe_tup (pa_cons pe_int (pa_cons pe_int (pa_cons pe_int (pa_cons pe_int (pa_cons pe_int (pa_cons pe_int (pa_cons pe_int (pa_cons pe_int pa_nil))))))))) (by rfl))
     (pss_one (ps_ret (pe_call G_table (hr.mono (by decide)) (by rfl) g_table kp_table b_table .nil (passes_call (takes_of rfl rfl rfl rfl) (fun _ _ _ _ q => q)) (pa_cons (pe_ix x_tup (pv 3) pe_int (fun _ _ => rfl)) (pa_cons (pe_ix x_tup (pv 3) pe_int (fun _ _ => rfl)) pa_nil))))) pss_nil)
     (pss_cons (ps_if (pt_cmpR (o_inX hr.units) (pv 2) (pe_tup (pa_cons pe_int (pa_cons pe_int (pa_cons pe_int (pa_cons pe_int (pa_cons pe_int (pa_cons pe_int (pa_cons pe_int (pa_cons pe_int pa_nil))))))))) (by rfl))
     (pss_one (ps_ret (pe_call G_distance (hr.mono (by decide)) (by rfl) g_distance kp_distance b_distance .nil (passes_call (takes_of rfl rfl rfl rfl) (fun _ _ _ _ q => q)) (pa_cons (pe_ix x_tup (pv 3) pe_int (fun _ _ => rfl)) (pa_cons (pe_ix x_tup (pv 3) pe_int (fun _ _ => rfl)) pa_nil))))) pss_nil)
     (pss_one (ps_ret (pe_call G_way (hr.mono (by decide)) (by rfl) g_way kp_way b_way .nil (passes_call (takes_of rfl rfl rfl rfl) (fun _ _ _ _ q => q)) (pa_cons (pe_ix x_tup (pv 3) pe_int (fun _ _ => rfl)) (pa_cons (pe_ix x_tup (pv 3) pe_int (fun _ _ => rfl)) pa_nil))))))))
theorem ok_looked {f : Addr} {fd : FuncData} (F : Fun K "looked" "looked" s_looked f fd) (T : Txt K mg C_BadChange C_BadMost C_BadWord C_Full C_NearError C_Node C_Tree) (c_gone_through : Cal P w K mg base CX0 2 "gone_through" ["tree", "word", "most"] (sp_gone_through K C_Tree C_Node)) (c_need_most : Cal P w K mg base (L2.CX P w) 2 "need_most" ["thing"] (sp_need_most K C_BadMost)) (c_need_word : Cal P w K mg base (L2.CX P w) 2 "need_word" ["thing"] (sp_need_word K C_BadWord)) : FnOk P w K mg base (L2.CX P w) 3 f fd ["tree", "word", "most"] (sp_looked K C_Tree C_Node C_BadWord C_BadMost) := by
  obtain ⟨f_gone_through, fd_gone_through, G_gone_through, g_gone_through, kp_gone_through, b_gone_through⟩ := c_gone_through.ex
  obtain ⟨f_need_most, fd_need_most, G_need_most, g_need_most, kp_need_most, b_need_most⟩ := c_need_most.ex
  obtain ⟨f_need_word, fd_need_word, G_need_word, g_need_word, kp_need_word, b_need_word⟩ := c_need_word.ex
  refine F.okX sc_looked (fun vs H Q E h => l_looked h) (fun cdv A outer s H vs Q E hr h => ⟨T_looked K C_Tree C_Node C_BadWord C_BadMost E, ?_, R_looked h⟩)
  have hu := hu_of hr
  exact (pss_cons (ps_expr (pe_call G_need_word (hr.mono (by decide)) (by rfl) g_need_word kp_need_word b_need_word .nil (passes_call (takes_of rfl rfl rfl rfl) (fun _ _ _ _ q => q)) (pa_cons (pv 1) pa_nil)))
     (pss_cons (ps_expr (pe_call G_need_most (hr.mono (by decide)) (by rfl) g_need_most kp_need_most b_need_most .nil (passes_call (takes_of rfl rfl rfl rfl) (fun _ _ _ _ q => q)) (pa_cons (pv 2) pa_nil)))
     (pss_one (ps_ret (pe_callB c_lenL (by rfl) T.len PySem.boot_len (pa_cons (pe_call G_gone_through (hr.mono (by decide)) (by rfl) g_gone_through kp_gone_through b_gone_through .nil pass0 (pa_cons (pv 0) (pa_cons (pv 1) (pa_cons (pv 2) pa_nil)))) pa_nil))))))
theorem ok_law_called {f : Addr} {fd : FuncData} (F : Fun K "_law_called" "_law_called" s_law_called f fd) (T : Txt K mg C_BadChange C_BadMost C_BadWord C_Full C_NearError C_Node C_Tree) (c_Tree_begun : CalM P w K mg base (L2.CX P w) 3 C_Tree "begun" ["self", "begin"] (sp_Tree_begun K C_Tree C_Node C_BadWord)) (c_Tree_has : CalM P w K mg base (L2.CX P w) 3 C_Tree "has" ["self", "word"] (sp_Tree_has K C_Tree C_Node C_BadWord)) (c_Tree_put : CalM P w K mg base (L2.CX P w) 4 C_Tree "put" ["self", "word"] (sp_Tree_put K C_Tree C_Node C_BadWord C_Full)) (c_Tree_take : CalM P w K mg base (L2.CX P w) 4 C_Tree "take" ["self", "word"] (sp_Tree_take K C_Tree C_Node C_BadWord)) (c_law_two8 : Cal P w K mg base (L2.CX P w) 5 "_law_two" ["_law_sort", "_law_thing_here", "_law_most"] (sp_law_two8 K C_BadWord)) (c_looked : Cal P w K mg base (L2.CX P w) 3 "looked" ["tree", "word", "most"] (sp_looked K C_Tree C_Node C_BadWord C_BadMost)) (c_near : Cal P w K mg base (L2.CX P w) 5 "near" ["tree", "word", "most"] (sp_near K C_Tree C_Node C_BadWord C_BadMost)) : FnOk P w K mg base (L2.CX P w) 6 f fd ["_law_call", "_law_tree_here", "_law_thing_here", "_law_most"] (sp_law_called K C_Tree C_Node C_BadWord C_BadMost C_Full) := by
  obtain ⟨f_Tree_begun, fd_Tree_begun, G_Tree_begun, m_Tree_begun, b_Tree_begun⟩ := c_Tree_begun.ex
  obtain ⟨f_Tree_has, fd_Tree_has, G_Tree_has, m_Tree_has, b_Tree_has⟩ := c_Tree_has.ex
  obtain ⟨f_Tree_put, fd_Tree_put, G_Tree_put, m_Tree_put, b_Tree_put⟩ := c_Tree_put.ex
  obtain ⟨f_Tree_take, fd_Tree_take, G_Tree_take, m_Tree_take, b_Tree_take⟩ := c_Tree_take.ex
  obtain ⟨f_law_two8, fd_law_two8, G_law_two8, g_law_two8, kp_law_two8, b_law_two8⟩ := c_law_two8.ex
  obtain ⟨f_looked, fd_looked, G_looked, g_looked, kp_looked, b_looked⟩ := c_looked.ex
  obtain ⟨f_near, fd_near, G_near, g_near, kp_near, b_near⟩ := c_near.ex
  refine F.okX sc_law_called (fun vs H Q E h => l_law_called h) (fun cdv A outer s H vs Q E hr h => ⟨T_law_called K C_Tree C_Node C_BadWord C_BadMost C_Full E, ?_, R_law_called h⟩)
  have hu := hu_of hr
  exact (pss_cons (ps_if (pt_cmpR o_eq (pv 0) pe_int (nomark _))
     (pss_one (ps_ret (pe_meth (pv 1) T.tx.clT m_Tree_take G_Tree_take (hr.mono (by decide)) b_Tree_take .nil (passes_call (takes_of rfl rfl rfl rfl) (fun _ _ _ _ q => q)) (pa_cons (pv 2) pa_nil)))) pss_nil)
     (pss_cons (ps_if (pt_cmpR o_eq (pv 0) pe_int (nomark _))
     (pss_one (ps_ret (pe_meth (pv 1) T.tx.clT m_Tree_has G_Tree_has (hr.mono (by decide)) b_Tree_has .nil (passes_call (takes_of rfl rfl rfl rfl) (fun _ _ _ _ q => q)) (pa_cons (pv 2) pa_nil)))) pss_nil)
     (pss_cons (ps_if (pt_cmpR o_eq (pv 0) pe_int (nomark _))
     (pss_one (ps_ret (pe_meth (pv 1) T.tx.clT m_Tree_begun G_Tree_begun (hr.mono (by decide)) b_Tree_begun .nil (passes_call (takes_of rfl rfl rfl rfl) (fun _ _ _ _ q => q)) (pa_cons (pv 2) pa_nil)))) pss_nil)
     (pss_cons (ps_if (pt_cmpR o_lt (pv 0) pe_int (nomark _))
     (pss_one (ps_ret (pe_call G_law_two8 (hr.mono (by decide)) (by rfl) g_law_two8 kp_law_two8 b_law_two8 .nil (passes_call (takes_of rfl rfl rfl rfl) (fun _ _ _ _ q => q)) (pa_cons (pe_op o_sub (pv 0) pe_int) (pa_cons (pv 2) (pa_cons (pv 3) pa_nil)))))) pss_nil)
     (pss_cons (ps_if (pt_cmpR o_eq (pv 0) pe_int (nomark _))
     (pss_one (ps_ret (pe_call G_near (hr.mono (by decide)) (by rfl) g_near kp_near b_near .nil (passes_call (takes_of rfl rfl rfl rfl) (fun _ _ _ _ q => q)) (pa_cons (pv 1) (pa_cons (pv 2) (pa_cons (pv 3) pa_nil)))))) pss_nil)
     (pss_cons (ps_if (pt_cmpR o_eq (pv 0) pe_int (nomark _))
     (pss_one (ps_ret (pe_call G_looked (hr.mono (by decide)) (by rfl) g_looked kp_looked b_looked .nil (passes_call (takes_of rfl rfl rfl rfl) (fun _ _ _ _ q => q)) (pa_cons (pv 1) (pa_cons (pv 2) (pa_cons (pv 3) pa_nil)))))) pss_nil)
     (pss_one (ps_ret (pe_meth (pv 1) T.tx.clT m_Tree_put G_Tree_put (hr.mono (by decide)) b_Tree_put .nil (passes_call (takes_of rfl rfl rfl rfl) (fun _ _ _ _ q => q)) (pa_cons (pv 2) pa_nil))))))))))
theorem ok_law_kinds {f : Addr} {fd : FuncData} (F : Fun K "_law_kinds" "_law_kinds" s_law_kinds f fd) (T : Txt K mg C_BadChange C_BadMost C_BadWord C_Full C_NearError C_Node C_Tree) : FnE P w K mg base 1 f fd ["_law_error"] (sp_law_kinds K C_BadWord C_BadChange C_BadMost C_Full) := by
  refine fnE_mk F sc_law_kinds (fun a D vs H Q E h => l_law_kinds h) (fun cdv A outer s H vs Q E a oe D hz hf hr h => ⟨T_law_kinds K C_BadWord C_BadChange C_BadMost C_Full a D, ?_, R_law_kinds h⟩)
  exact (pss_cons (ps_if (pt_not (pt_val (pe_callB (call_isX List.mem_cons_self hz hf) (by rfl) T.isinstance (by decide +kernel) (pa_cons (pv 0) (pa_cons (pe_bltn (v := .ty "ValueError") (by rfl) T.ValueError (by decide +kernel) rfl) pa_nil)))))
     (pss_one (ps_ret (pe_lst pa_nil))) pss_nil)
     (pss_cons (ps_set (i := 1) sc_law_kinds.nd rfl (Or.inl rfl) (pe_lst (pa_cons (pe_callB (call_isX List.mem_cons_self hz hf) (by rfl) T.isinstance (by decide +kernel) (pa_cons (pv 0) (pa_cons (pe_glob rfl T.g_BadWord rfl) pa_nil))) (pa_cons (pe_callB (call_isX List.mem_cons_self hz hf) (by rfl) T.isinstance (by decide +kernel) (pa_cons (pv 0) (pa_cons (pe_glob rfl T.g_BadChange rfl) pa_nil))) pa_nil))))
     (pss_one (ps_ret (pe_op o_lcat (pv 1) (pe_lst (pa_cons (pe_callB (call_isX List.mem_cons_self hz hf) (by rfl) T.isinstance (by decide +kernel) (pa_cons (pv 0) (pa_cons (pe_glob rfl T.g_BadMost rfl) pa_nil))) (pa_cons (pe_callB (call_isX List.mem_cons_self hz hf) (by rfl) T.isinstance (by decide +kernel) (pa_cons (pv 0) (pa_cons (pe_glob rfl T.g_Full rfl) pa_nil))) pa_nil))))))))
theorem ok_law_refused {f : Addr} {fd : FuncData} (F : Fun K "_law_refused" "_law_refused" s_law_refused f fd) (T : Txt K mg C_BadChange C_BadMost C_BadWord C_Full C_NearError C_Node C_Tree) (c_law_called : Cal P w K mg base (L2.CX P w) 6 "_law_called" ["_law_call", "_law_tree_here", "_law_thing_here", "_law_most"] (sp_law_called K C_Tree C_Node C_BadWord C_BadMost C_Full)) (c_law_kinds : CalE P w K mg base 1 "_law_kinds" ["_law_error"] (sp_law_kinds K C_BadWord C_BadChange C_BadMost C_Full)) : FnOk P w K mg base CX0 7 f fd ["_law_call", "_law_tree_here", "_law_thing_here", "_law_most"] (sp_law_refused K C_Tree C_Node) := by
  obtain ⟨f_law_called, fd_law_called, G_law_called, g_law_called, kp_law_called, b_law_called⟩ := c_law_called.ex
  obtain ⟨f_law_kinds, fd_law_kinds, G_law_kinds, g_law_kinds, kp_law_kinds, b_law_kinds⟩ := c_law_kinds.ex
  refine F.ok sc_law_refused (fun vs H Q E h => l_law_refused h) (fun cdv A outer s H vs Q E hr h => ⟨T_law_refused K C_Tree C_Node C_BadWord C_BadChange C_BadMost C_Full C_NearError, ?_, R_law_refused T.e_BadWord_NearError T.e_BadMost_NearError T.e_Full_NearError T.q_BadWord T.q_BadMost T.q_Full h⟩)
  have hu := hu_of hr
  exact (pss_cons (ps_try_as (i := 4) (tb := fun W => (tDrop (tCallS (sp_law_called K C_Tree C_Node C_BadWord C_BadMost C_Full) (WE W) (tCons (tVar 0) (tCons (tVar 1) (tCons (tVar 2) (tCons (tVar 3) tNil))))))) (ts := (fun a cls d => (tRet (tCallX K (sp_law_kinds K C_BadWord C_BadChange C_BadMost C_Full) a cls d (tCons (tVar 4) tNil))))) (Wout := fun _ _ _ _ => False) rfl rfl sc_law_refused.nd rfl rfl ⟨rfl, by decide, Or.inl T.g_NearError⟩ takes0 (fun W pn xe tk _ => (pss_one (ps_expr (pe_callS G_law_called (hr.mono (by decide)) (by rfl) g_law_called kp_law_called b_law_called (fun σ => passAt tk σ) (pa_cons (pv 0) (pa_cons (pv 1) (pa_cons (pv 2) (pa_cons (pv 3) pa_nil)))))))) (fun a oe cls d pn hz hf => (pss_one (ps_ret (pe_callX G_law_kinds (room_mark (hr.mono (by decide))) (by rfl) g_law_kinds kp_law_kinds b_law_kinds List.mem_cons_self hz hf (pa_cons (pv 4) pa_nil))))))
     (pss_one (ps_ret (pe_op o_rep (pe_lst (pa_cons pe_bl pa_nil)) pe_int))))
theorem ok_law_full {f : Addr} {fd : FuncData} (F : Fun K "_law_full" "_law_full" s_law_full f fd) (T : Txt K mg C_BadChange C_BadMost C_BadWord C_Full C_NearError C_Node C_Tree) (c_Tree_has : CalM P w K mg base (L2.CX P w) 3 C_Tree "has" ["self", "word"] (sp_Tree_has K C_Tree C_Node C_BadWord)) (c_Tree_many : CalM P w K mg base CX0 1 C_Tree "many" ["self"] (sp_Tree_many K C_Tree C_Node)) (c_Tree_nodes : CalM P w K mg base CX0 1 C_Tree "nodes" ["self"] (sp_Tree_nodes K C_Tree C_Node)) (c_Tree_put : CalM P w K mg base (L2.CX P w) 4 C_Tree "put" ["self", "word"] (sp_Tree_put K C_Tree C_Node C_BadWord C_Full)) (c_Tree_take : CalM P w K mg base (L2.CX P w) 4 C_Tree "take" ["self", "word"] (sp_Tree_take K C_Tree C_Node C_BadWord)) (c_law_at : Cal P w K mg base CX0 1 "_law_at" ["_law_script", "_law_k"] (sp_law_at K)) (c_law_filled : Cal P w K mg base CX0 5 "_law_filled" ["_law_many"] (sp_law_filled K C_Tree C_Node)) (c_law_great : Cal P w K mg base CX0 6 "_law_great" ["_law_tree_here", "_law_many", "_law_is_wide"] (sp_law_great K C_Tree C_Node)) (c_law_is_word : Cal P w K mg base CX0 1 "_law_is_word" ["_law_thing_here"] (sp_law_is_word K)) (c_law_refused : Cal P w K mg base CX0 7 "_law_refused" ["_law_call", "_law_tree_here", "_law_thing_here", "_law_most"] (sp_law_refused K C_Tree C_Node)) : FnOk P w K mg base CX0 8 f fd ["_law_script", "_law_thing_here"] (sp_law_full K) := by
  obtain ⟨f_Tree_has, fd_Tree_has, G_Tree_has, m_Tree_has, b_Tree_has⟩ := c_Tree_has.ex
  obtain ⟨f_Tree_many, fd_Tree_many, G_Tree_many, m_Tree_many, b_Tree_many⟩ := c_Tree_many.ex
  obtain ⟨f_Tree_nodes, fd_Tree_nodes, G_Tree_nodes, m_Tree_nodes, b_Tree_nodes⟩ := c_Tree_nodes.ex
  obtain ⟨f_Tree_put, fd_Tree_put, G_Tree_put, m_Tree_put, b_Tree_put⟩ := c_Tree_put.ex
  obtain ⟨f_Tree_take, fd_Tree_take, G_Tree_take, m_Tree_take, b_Tree_take⟩ := c_Tree_take.ex
  obtain ⟨f_law_at, fd_law_at, G_law_at, g_law_at, kp_law_at, b_law_at⟩ := c_law_at.ex
  obtain ⟨f_law_filled, fd_law_filled, G_law_filled, g_law_filled, kp_law_filled, b_law_filled⟩ := c_law_filled.ex
  obtain ⟨f_law_great, fd_law_great, G_law_great, g_law_great, kp_law_great, b_law_great⟩ := c_law_great.ex
  obtain ⟨f_law_is_word, fd_law_is_word, G_law_is_word, g_law_is_word, kp_law_is_word, b_law_is_word⟩ := c_law_is_word.ex
  obtain ⟨f_law_refused, fd_law_refused, G_law_refused, g_law_refused, kp_law_refused, b_law_refused⟩ := c_law_refused.ex
  refine F.ok sc_law_full (fun vs H Q E h => l_law_full h) (fun cdv A outer s H vs Q E hr h => ⟨T_law_full K C_Tree C_Node C_BadWord C_Full, ?_, R_law_full h⟩)
  have hu := hu_of hr
  exact (pss_cons (ps_set (i := 2) sc_law_full.nd rfl (Or.inl rfl) (pe_ix x_list (pe_lst (pa_cons pe_int (pa_cons pe_int (pa_cons pe_int (pa_cons pe_int pa_nil))))) (pe_op o_mod (pe_call G_law_at (hr.mono (by decide)) (by rfl) g_law_at kp_law_at b_law_at .nil pass0 (pa_cons (pv 0) (pa_cons pe_int pa_nil))) pe_int) (fun _ _ => rfl)))
     (pss_cons (ps_set (i := 3) sc_law_full.nd rfl (Or.inl rfl) (pe_call G_law_filled (hr.mono (by decide)) (by rfl) g_law_filled kp_law_filled b_law_filled .nil pass0 (pa_cons (pv 2) pa_nil)))
     (pss_cons (ps_if (PW.pt (pw_or (pt_val (pe_meth (pv 3) T.tx.clT m_Tree_put G_Tree_put (hr.mono (by decide)) b_Tree_put .nil passL (pa_cons (pe_tx (w := [98, 99]) (by decide +kernel)) pa_nil))) (pw_or1 (pt_cmpR o_ne (pe_meth0 (pv 3) T.tx.clT m_Tree_many G_Tree_many (hr.mono (by decide)) b_Tree_many .nil pass0) (pv 2) (nomark _)))))
     (pss_one (ps_ret pe_bl)) pss_nil)
     (pss_cons (ps_if (PW.pt (pw_or (pt_not (pt_val (pe_meth (pv 3) T.tx.clT m_Tree_take G_Tree_take (hr.mono (by decide)) b_Tree_take .nil passL (pa_cons (pe_tx (w := [97, 98]) (by decide +kernel)) pa_nil)))) (pw_or1 (pt_not (pt_val (pe_meth (pv 3) T.tx.clT m_Tree_put G_Tree_put (hr.mono (by decide)) b_Tree_put .nil passL (pa_cons (pe_tx (w := [97, 98]) (by decide +kernel)) pa_nil)))))))
     (pss_one (ps_ret pe_bl)) pss_nil)
     (pss_cons (ps_set (i := 4) sc_law_full.nd rfl (Or.inl rfl) (pe_meth0 (pv 3) T.tx.clT m_Tree_nodes G_Tree_nodes (hr.mono (by decide)) b_Tree_nodes .nil pass0))
     (pss_cons (ps_if (PW.pt (pw_and (pt_not (pt_val (pe_call G_law_is_word (hr.mono (by decide)) (by rfl) g_law_is_word kp_law_is_word b_law_is_word .nil pass0 (pa_cons (pv 1) pa_nil)))) (pw_and1 (pt_cmpR (o_neD hr.units) (pe_call G_law_refused (hr.mono (by decide)) (by rfl) g_law_refused kp_law_refused b_law_refused .nil pass0 (pa_cons pe_int (pa_cons (pv 3) (pa_cons (pv 1) (pa_cons pe_int pa_nil))))) (pe_lst (pa_cons pe_bl (pa_cons pe_bl (pa_cons pe_bl (pa_cons pe_bl pa_nil))))) (nomark _)))))
     (pss_one (ps_ret pe_bl)) pss_nil)
     (pss_cons (ps_if (PW.pt (pw_or (pt_cmpR o_ne (pe_meth0 (pv 3) T.tx.clT m_Tree_nodes G_Tree_nodes (hr.mono (by decide)) b_Tree_nodes .nil pass0) (pv 4) (nomark _)) (pw_or1 (pt_cmpR (o_neD hr.units) (pe_call G_law_refused (hr.mono (by decide)) (by rfl) g_law_refused kp_law_refused b_law_refused .nil pass0 (pa_cons pe_int (pa_cons (pv 3) (pa_cons (pe_tx (w := [122, 122, 122, 122]) (by decide +kernel)) (pa_cons pe_int pa_nil))))) (pe_lst (pa_cons pe_bl (pa_cons pe_bl (pa_cons pe_bl (pa_cons (pe_cmpR o_eq (pv 2) pe_int (nomark _)) pa_nil))))) (nomark _)))))
     (pss_one (ps_ret pe_bl)) pss_nil)
     (pss_cons (ps_set (i := 5) sc_law_full.nd rfl (Or.inl rfl) (pe_meth (pv 3) T.tx.clT m_Tree_has G_Tree_has (hr.mono (by decide)) b_Tree_has .nil passL (pa_cons (pe_tx (w := [122, 122, 122, 122]) (by decide +kernel)) pa_nil)))
     (pss_cons (ps_if (PW.pt (pw_or (pt_not (pt_val (pe_callB c_isi (by rfl) T.isinstance (by decide +kernel) (pa_cons (pv 5) (pa_cons (pe_bltn (v := .ty "bool") (by rfl) T.bool (by decide +kernel) rfl) pa_nil))))) (pw_or (pt_cmpR o_ne (pv 5) (pe_cmpR o_lt (pv 2) pe_int (nomark _)) (nomark _)) (pw_or1 (PW.pt (pw_and (pt_cmpR o_eq (pv 2) pe_int (nomark _)) (pw_and1 (pt_cmpR o_ne (pe_meth0 (pv 3) T.tx.clT m_Tree_nodes G_Tree_nodes (hr.mono (by decide)) b_Tree_nodes .nil pass0) (pv 4) (nomark _)))))))))
     (pss_one (ps_ret pe_bl)) pss_nil)
     (pss_one (ps_ret (pe_call G_law_great (hr.mono (by decide)) (by rfl) g_law_great kp_law_great b_law_great .nil pass0 (pa_cons (pv 3) (pa_cons (pv 2) (pa_cons (pe_cmpR o_eq (pe_op o_mod (pe_call G_law_at (hr.mono (by decide)) (by rfl) g_law_at kp_law_at b_law_at .nil pass0 (pa_cons (pv 0) (pa_cons pe_int pa_nil))) pe_int) pe_int (nomark _)) pa_nil)))))))))))))))
theorem ok_law_sign {f : Addr} {fd : FuncData} (F : Fun K "_law_sign" "_law_sign" s_law_sign f fd) (T : Txt K mg C_BadChange C_BadMost C_BadWord C_Full C_NearError C_Node C_Tree)  : FnOk P w K mg base CX0 1 f fd ["_law_cell"] (sp_law_sign K) := by
  refine F.ok sc_law_sign (fun vs H Q E h => l_law_sign h) (fun cdv A outer s H vs Q E hr h => ⟨T_law_sign K, ?_, R_law_sign h⟩)
  have hu := hu_of hr
  exact (pss_cons (ps_set (i := 1) sc_law_sign.nd rfl (Or.inl rfl) (pe_tx (w := [32, 33, 34, 35, 36, 38, 39, 40, 41, 42, 43, 44, 45, 46, 47, 48, 49, 50, 51, 52, 53, 54, 55, 56, 57, 58, 59, 60, 61, 62, 63, 64, 65, 66, 67, 68, 69, 70, 71, 72, 73, 74, 75, 76, 77, 78, 79, 80, 81, 82, 83, 84, 85, 86, 87, 88, 89, 90, 91, 92, 93, 94, 95, 96, 123, 124, 125, 126, 10, 9]) (by decide +kernel)))
     (pss_one (ps_ret (pe_ix x_str (pv 1) (pe_op o_mod (pv 0) (pe_callB c_lenS (by rfl) T.len PySem.boot_len (pa_cons (pv 1) pa_nil))) (fun _ _ => rfl)))))
theorem ok_law_thing {f : Addr} {fd : FuncData} (F : Fun K "_law_thing" "_law_thing" s_law_thing f fd) (T : Txt K mg C_BadChange C_BadMost C_BadWord C_Full C_NearError C_Node C_Tree) (c_law_sign : Cal P w K mg base CX0 1 "_law_sign" ["_law_cell"] (sp_law_sign K)) : FnOk P w K mg base CX0 2 f fd ["_law_cell"] (sp_law_thing K) := by
  obtain ⟨f_law_sign, fd_law_sign, G_law_sign, g_law_sign, kp_law_sign, b_law_sign⟩ := c_law_sign.ex
  refine F.ok sc_law_thing (fun vs H Q E h => l_law_thing h) (fun cdv A outer s H vs Q E hr h => ⟨T_law_thing K, ?_, R_law_thing h⟩)
  have hu := hu_of hr
  exact (pss_cons (ps_set (i := 1) sc_law_thing.nd rfl (Or.inr rfl) (pe_tx (w := abc) (by decide +kernel)))
     (pss_cons (ps_set (i := 2) sc_law_thing.nd rfl (Or.inl rfl) (pe_join (pe_tx (w := []) (by decide +kernel)) (pe_lc (own := [("_law_k", 3)]) (g := (gName 3)) (tt := tYes) (by rfl) sc_law_thing.nd (pi_range1 (by rfl) T.range (pa_cons (pe_op o_mod (pe_op o_div (pv 0) pe_int) pe_int) pa_nil)) (blkOk_by (own := [("_law_k", 3)]) (N := ["_law_cell", "_law_letters", "_law_text", "_law_k", "_law_at_here"]) (sc := defScope s_law_thing) (by decide +kernel)) (fun _ _ _ _ _ => (pg_name (i := 3) sc_law_thing.nd rfl (Or.inl rfl))) (fun _ _ _ _ _ => pts_nil) (fun _ _ _ _ _ => (pe_ix x_str (pv 1) (pe_op o_mod (pe_op o_add (pe_op o_div (pv 0) pe_int) (pe_op o_mul (pe_op o_mul pe_int (pv 3)) (pe_op o_mod (pv 0) pe_int))) pe_int) (fun _ _ => rfl))))))
     (pss_cons (ps_if (pt_cmpR o_lt (pe_op o_mod (pv 0) pe_int) pe_int (nomark _))
     (pss_one (ps_ret (pv 2))) pss_nil)
     (pss_cons (ps_if (pt_cmpR o_lt (pe_op o_mod (pv 0) pe_int) pe_int (nomark _))
     (pss_cons (ps_set (i := 4) sc_law_thing.nd rfl (Or.inl rfl) (pe_op o_mod (pe_op o_div (pv 0) pe_int) (pe_op o_add (pe_callB c_lenS (by rfl) T.len PySem.boot_len (pa_cons (pv 2) pa_nil)) pe_int)))
     (pss_one (ps_ret (pe_op o_cat (pe_op o_cat (pe_slice l_str (pv 2) po_none (po_some (pv 4))) (pe_call G_law_sign (hr.mono (by decide)) (by rfl) g_law_sign kp_law_sign b_law_sign .nil pass0 (pa_cons (pe_op o_div (pv 0) pe_int) pa_nil))) (pe_slice l_str (pv 2) (po_some (pv 4)) po_none))))) pss_nil)
     (pss_one (ps_ret (pe_ix x_list (pe_lst (pa_cons pe_non (pa_cons pe_int (pa_cons pe_bl (pa_cons (pe_tup (pa_cons (pe_tx (w := [97]) (by decide +kernel)) pa_nil)) (pa_cons (pe_lst (pa_cons (pe_tx (w := [97]) (by decide +kernel)) pa_nil)) (pa_cons pe_dnewK (pa_cons (pe_lst pa_nil) (pa_cons (pe_tup (pa_cons (pe_tx (w := [97]) (by decide +kernel)) (pa_cons (pe_tx (w := [98]) (by decide +kernel)) pa_nil))) (pa_cons pe_int (pa_cons (pe_un o_neg pe_int) (pa_cons pe_bl (pa_cons (pe_disp (pps_cons (pe_tx (w := [97]) (by decide +kernel)) pe_int pps_nil) (by rfl) (by rfl) (fun z => by cases z) (by decide)) pa_nil))))))))))))) (pe_op o_mod (pe_op o_div (pv 0) pe_int) pe_int) (fun _ _ => rfl))))))))
theorem ok_law_tree {f : Addr} {fd : FuncData} (F : Fun K "_law_tree" "_law_tree" s_law_tree f fd) (T : Txt K mg C_BadChange C_BadMost C_BadWord C_Full C_NearError C_Node C_Tree) (c_Tree_init : CalI P w K mg base 3 C_Tree ["self"] (sp_Tree_init K C_Tree C_Node)) (c_Tree_put : CalM P w K mg base (L2.CX P w) 4 C_Tree "put" ["self", "word"] (sp_Tree_put K C_Tree C_Node C_BadWord C_Full)) : FnOk P w K mg base CX0 5 f fd ["_law_words_here"] (sp_law_tree K C_Tree C_Node) := by
  obtain ⟨f_Tree_init, fd_Tree_init, G_Tree_init, mk_Tree_init, b_Tree_init⟩ := c_Tree_init.ex
  obtain ⟨f_Tree_put, fd_Tree_put, G_Tree_put, m_Tree_put, b_Tree_put⟩ := c_Tree_put.ex
  refine F.ok sc_law_tree (fun vs H Q E h => l_law_tree h) (fun cdv A outer s H vs Q E hr h => ⟨T_law_tree K C_Tree C_Node C_BadWord C_Full, ?_, R_law_tree T.tx h⟩)
  have hu := hu_of hr
  exact (pss_cons (ps_set (i := 1) sc_law_tree.nd rfl (Or.inl rfl) (pe_make0 mk_Tree_init G_Tree_init (hr.mono (by decide)) rfl T.g_Tree b_Tree_init .nil pass0))
     (pss_cons (ps_for PassesOwn.never rfl (pi_list (pv 0)) (pg_name (i := 2) sc_law_tree.nd rfl (Or.inl rfl))
     (pss_one (ps_expr (pe_meth (pv 1) T.tx.clT m_Tree_put G_Tree_put (hr.mono (by decide)) b_Tree_put .nil passL (pa_cons (pv 2) pa_nil)))))
     (pss_one (ps_ret (pv 1)))))
theorem ok_law_letter {f : Addr} {fd : FuncData} (F : Fun K "_law_letter" "_law_letter" s_law_letter f fd) (T : Txt K mg C_BadChange C_BadMost C_BadWord C_Full C_NearError C_Node C_Tree)  : FnOk P w K mg base CX0 1 f fd ["_law_mode", "_law_number"] (sp_law_letter K) := by
  refine F.ok sc_law_letter (fun vs H Q E h => l_law_letter h) (fun cdv A outer s H vs Q E hr h => ⟨T_law_letter K, ?_, R_law_letter h⟩)
  have hu := hu_of hr
  exact (pss_cons (ps_set (i := 2) sc_law_letter.nd rfl (Or.inl rfl) (pe_ix x_list (pe_lst (pa_cons pe_int (pa_cons pe_int (pa_cons pe_int pa_nil)))) (pe_op o_mod (pv 0) pe_int) (fun _ _ => rfl)))
     (pss_cons (ps_set (i := 3) sc_law_letter.nd rfl (Or.inl rfl) (pe_ix x_list (pe_lst (pa_cons pe_int (pa_cons pe_int (pa_cons pe_int (pa_cons pe_int pa_nil))))) (pe_op o_mod (pe_op o_div (pv 0) pe_int) pe_int) (fun _ _ => rfl)))
     (pss_one (ps_ret (pe_ix x_str (pe_tx (w := abc) (by decide +kernel)) (pe_op o_mod (pe_op o_add (pe_op o_div (pv 0) pe_int) (pe_op o_mul (pe_op o_mod (pv 1) (pv 2)) (pv 3))) pe_int) (fun _ _ => rfl))))))
theorem ok_law_bent {f : Addr} {fd : FuncData} (F : Fun K "_law_bent" "_law_bent" s_law_bent f fd) (T : Txt K mg C_BadChange C_BadMost C_BadWord C_Full C_NearError C_Node C_Tree) (c_law_letter : Cal P w K mg base CX0 1 "_law_letter" ["_law_mode", "_law_number"] (sp_law_letter K)) : FnOk P w K mg base CX0 2 f fd ["_law_mode", "_law_word_here", "_law_cell"] (sp_law_bent K) := by
  obtain ⟨f_law_letter, fd_law_letter, G_law_letter, g_law_letter, kp_law_letter, b_law_letter⟩ := c_law_letter.ex
  refine F.ok sc_law_bent (fun vs H Q E h => l_law_bent h) (fun cdv A outer s H vs Q E hr h => ⟨T_law_bent K, ?_, R_law_bent h⟩)
  have hu := hu_of hr
  exact (pss_cons (ps_for PassesOwn.never rfl (pi_range1 (by rfl) T.range (pa_cons (pe_op o_mod (pv 2) pe_int) pa_nil)) (pg_name (i := 3) sc_law_bent.nd rfl (Or.inl rfl))
     (pss_cons (ps_set (i := 4) sc_law_bent.nd rfl (Or.inl rfl) (pe_op o_add (pe_op o_div (pv 2) pe_int) (pe_op o_mul pe_int (pv 3))))
     (pss_cons (ps_set (i := 5) sc_law_bent.nd rfl (Or.inl rfl) (pe_op o_mod (pe_op o_div (pv 4) pe_int) (pe_op o_add (pe_callB c_lenS (by rfl) T.len PySem.boot_len (pa_cons (pv 1) pa_nil)) pe_int)))
     (pss_cons (ps_set (i := 6) sc_law_bent.nd rfl (Or.inl rfl) (pe_call G_law_letter (hr.mono (by decide)) (by rfl) g_law_letter kp_law_letter b_law_letter .nil pass0 (pa_cons (pv 0) (pa_cons (pe_op o_div (pv 4) pe_int) pa_nil))))
     (pss_cons (ps_if (PW.pt (pw_and (pt_cmpR o_eq (pe_op o_mod (pv 4) pe_int) pe_int (nomark _)) (pw_and1 (pt_cmpR o_lt (pe_callB c_lenS (by rfl) T.len PySem.boot_len (pa_cons (pv 1) pa_nil)) pe_int (nomark _)))))
     (pss_one (ps_set (i := 1) sc_law_bent.nd rfl (Or.inl rfl) (pe_op o_cat (pe_op o_cat (pe_slice l_str (pv 1) po_none (po_some (pv 5))) (pv 6)) (pe_slice l_str (pv 1) (po_some (pv 5)) po_none)))) (pss_one (ps_if (pt_cmpR o_eq (pe_op o_mod (pv 4) pe_int) pe_int (nomark _))
     (pss_one (ps_set (i := 1) sc_law_bent.nd rfl (Or.inl rfl) (pe_op o_cat (pe_slice l_str (pv 1) po_none (po_some (pv 5))) (pe_slice l_str (pv 1) (po_some (pe_op o_add (pv 5) pe_int)) po_none)))) (pss_one (ps_if (pt_cmpR o_lt (pv 5) (pe_callB c_lenS (by rfl) T.len PySem.boot_len (pa_cons (pv 1) pa_nil)) (nomark _))
     (pss_one (ps_set (i := 1) sc_law_bent.nd rfl (Or.inl rfl) (pe_op o_cat (pe_op o_cat (pe_slice l_str (pv 1) po_none (po_some (pv 5))) (pv 6)) (pe_slice l_str (pv 1) (po_some (pe_op o_add (pv 5) pe_int)) po_none)))) pss_nil)))))
     (pss_one (ps_set (i := 2) sc_law_bent.nd rfl (Or.inl rfl) (pe_op o_div (pv 2) pe_int))))))))
     (pss_one (ps_ret (pv 1))))
theorem ok_law_word {f : Addr} {fd : FuncData} (F : Fun K "_law_word" "_law_word" s_law_word f fd) (T : Txt K mg C_BadChange C_BadMost C_BadWord C_Full C_NearError C_Node C_Tree) (c_law_letter : Cal P w K mg base CX0 1 "_law_letter" ["_law_mode", "_law_number"] (sp_law_letter K)) : FnOk P w K mg base CX0 2 f fd ["_law_mode", "_law_cell", "_law_most"] (sp_law_word K) := by
  obtain ⟨f_law_letter, fd_law_letter, G_law_letter, g_law_letter, kp_law_letter, b_law_letter⟩ := c_law_letter.ex
  refine F.ok sc_law_word (fun vs H Q E h => l_law_word h) (fun cdv A outer s H vs Q E hr h => ⟨T_law_word K, ?_, R_law_word h⟩)
  have hu := hu_of hr
  exact (pss_cons (ps_set (i := 3) sc_law_word.nd rfl (Or.inl rfl) (pe_op o_mod (pv 1) (pe_op o_add (pv 2) pe_int)))
     (pss_cons (ps_set (i := 1) sc_law_word.nd rfl (Or.inl rfl) (pe_op o_div (pv 1) (pe_op o_add (pv 2) pe_int)))
     (pss_cons (ps_set (i := 4) sc_law_word.nd rfl (Or.inl rfl) (pe_tx (w := []) (by decide +kernel)))
     (pss_cons (ps_for PassesOwn.never rfl (pi_range1 (by rfl) T.range (pa_cons (pv 3) pa_nil)) (pg_name (i := 5) sc_law_word.nd rfl (Or.inl rfl))
     (pss_cons (ps_set (i := 4) sc_law_word.nd rfl (Or.inl rfl) (pe_op o_cat (pv 4) (pe_call G_law_letter (hr.mono (by decide)) (by rfl) g_law_letter kp_law_letter b_law_letter .nil pass0 (pa_cons (pv 0) (pa_cons (pe_op o_add (pv 1) (pe_op o_mul pe_int (pv 5))) pa_nil)))))
     (pss_one (ps_set (i := 1) sc_law_word.nd rfl (Or.inl rfl) (pe_op o_div (pv 1) pe_int)))))
     (pss_one (ps_ret (pv 4)))))))
theorem ok_law_words {f : Addr} {fd : FuncData} (F : Fun K "_law_words" "_law_words" s_law_words f fd) (T : Txt K mg C_BadChange C_BadMost C_BadWord C_Full C_NearError C_Node C_Tree) (c_law_at : Cal P w K mg base CX0 1 "_law_at" ["_law_script", "_law_k"] (sp_law_at K)) (c_law_bent : Cal P w K mg base CX0 2 "_law_bent" ["_law_mode", "_law_word_here", "_law_cell"] (sp_law_bent K)) (c_law_word : Cal P w K mg base CX0 2 "_law_word" ["_law_mode", "_law_cell", "_law_most"] (sp_law_word K)) : FnOk P w K mg base CX0 3 f fd ["_law_script"] (sp_law_words K) := by
  obtain ⟨f_law_at, fd_law_at, G_law_at, g_law_at, kp_law_at, b_law_at⟩ := c_law_at.ex
  obtain ⟨f_law_bent, fd_law_bent, G_law_bent, g_law_bent, kp_law_bent, b_law_bent⟩ := c_law_bent.ex
  obtain ⟨f_law_word, fd_law_word, G_law_word, g_law_word, kp_law_word, b_law_word⟩ := c_law_word.ex
  refine F.ok sc_law_words (fun vs H Q E h => l_law_words h) (fun cdv A outer s H vs Q E hr h => ⟨T_law_words K, ?_, R_law_words h⟩)
  have hu := hu_of hr
  exact (pss_cons (ps_set (i := 1) sc_law_words.nd rfl (Or.inr rfl) (pe_call G_law_at (hr.mono (by decide)) (by rfl) g_law_at kp_law_at b_law_at .nil pass0 (pa_cons (pv 0) (pa_cons pe_int pa_nil))))
     (pss_cons (ps_if (pt_cmpR o_eq (pe_op o_mod (pe_call G_law_at (hr.mono (by decide)) (by rfl) g_law_at kp_law_at b_law_at .nil pass0 (pa_cons (pv 0) (pa_cons pe_int pa_nil))) pe_int) pe_int (nomark _))
     (pss_one (ps_ret (pe_lc (own := [("_law_k", 2)]) (g := (gName 2)) (tt := tYes) (by rfl) sc_law_words.nd (pi_range1 (by rfl) T.range (pa_cons pe_int pa_nil)) (blkOk_by (own := [("_law_k", 2)]) (N := ["_law_script", "_law_mode", "_law_k", "_law_most", "_law_cells", "_law_words_here", "_law_cell"]) (sc := defScope s_law_words) (by decide +kernel)) (fun _ _ _ _ _ => (pg_name (i := 2) sc_law_words.nd rfl (Or.inl rfl))) (fun _ _ _ _ _ => pts_nil) (fun _ _ _ _ _ => (pe_call G_law_word (hr.mono (by decide)) (by rfl) g_law_word kp_law_word b_law_word .nil pass0 (pa_cons (pv 1) (pa_cons (pe_op o_add (pe_call G_law_at (hr.mono (by decide)) (by rfl) g_law_at kp_law_at b_law_at .nil pass0 (pa_cons (pv 0) (pa_cons pe_int pa_nil))) (pe_op o_mul pe_int (pv 2))) (pa_cons pe_int pa_nil)))))))) pss_nil)
     (pss_cons (ps_set (i := 3) sc_law_words.nd rfl (Or.inl rfl) pe_int)
     (pss_cons (ps_set (i := 4) sc_law_words.nd rfl (Or.inl rfl) (pe_slice l_list (pv 0) (po_some pe_int) (po_some pe_int)))
     (pss_cons (ps_if (pt_cmpR o_eq (pe_op o_mod (pe_call G_law_at (hr.mono (by decide)) (by rfl) g_law_at kp_law_at b_law_at .nil pass0 (pa_cons (pv 0) (pa_cons pe_int pa_nil))) pe_int) pe_int (nomark _))
     (pss_cons (ps_set (i := 3) sc_law_words.nd rfl (Or.inl rfl) pe_int)
     (pss_one (ps_set (i := 4) sc_law_words.nd rfl (Or.inl rfl) (pe_slice l_list (pv 0) (po_some pe_int) (po_some pe_int))))) pss_nil)
     (pss_cons (ps_set (i := 5) sc_law_words.nd rfl (Or.inl rfl) (pe_lst (pa_cons (pe_call G_law_word (hr.mono (by decide)) (by rfl) g_law_word kp_law_word b_law_word .nil pass0 (pa_cons (pv 1) (pa_cons (pe_call G_law_at (hr.mono (by decide)) (by rfl) g_law_at kp_law_at b_law_at .nil pass0 (pa_cons (pv 0) (pa_cons pe_int pa_nil))) (pa_cons (pv 3) pa_nil)))) pa_nil)))
     (pss_cons (ps_for PassesOwn.never rfl (pi_list (pv 4)) (pg_name (i := 6) sc_law_words.nd rfl (Or.inl rfl))
     (pss_one (ps_if (pt_cmpR o_eq (pe_op o_mod (pv 6) pe_int) pe_int (nomark _))
     (pss_one (ps_expr (pe_bm PySem.F.plainAttrs_list PySem.F.slot_list_append PySem.F.type_list_append mt_append (pv 5) (pa_cons (pe_call G_law_word (hr.mono (by decide)) (by rfl) g_law_word kp_law_word b_law_word .nil pass0 (pa_cons (pv 1) (pa_cons (pe_op o_div (pv 6) pe_int) (pa_cons (pv 3) pa_nil)))) pa_nil)))) (pss_one (ps_expr (pe_bm PySem.F.plainAttrs_list PySem.F.slot_list_append PySem.F.type_list_append mt_append (pv 5) (pa_cons (pe_call G_law_bent (hr.mono (by decide)) (by rfl) g_law_bent kp_law_bent b_law_bent .nil pass0 (pa_cons (pv 1) (pa_cons (pe_ix x_list (pv 5) (pe_op o_mod (pe_op o_div (pv 6) pe_int) (pe_callB c_lenL (by rfl) T.len PySem.boot_len (pa_cons (pv 5) pa_nil))) (fun _ _ => rfl)) (pa_cons (pe_op o_div (pv 6) pe_int) pa_nil)))) pa_nil)))))))
     (pss_one (ps_ret (pv 5))))))))))
theorem ok_law8 {f : Addr} {fd : FuncData} (F : Fun K "law" "law" s_law8 f fd) (T : Txt K mg C_BadChange C_BadMost C_BadWord C_Full C_NearError C_Node C_Tree) (c_Tree_nodes : CalM P w K mg base CX0 1 C_Tree "nodes" ["self"] (sp_Tree_nodes K C_Tree C_Node)) (c_Tree_words : CalM P w K mg base (L2.CX P w) 4 C_Tree "words" ["self"] (sp_Tree_words K C_Tree C_Node C_BadWord)) (c_law_at : Cal P w K mg base CX0 1 "_law_at" ["_law_script", "_law_k"] (sp_law_at K)) (c_law_full : Cal P w K mg base CX0 8 "_law_full" ["_law_script", "_law_thing_here"] (sp_law_full K)) (c_law_is_word : Cal P w K mg base CX0 1 "_law_is_word" ["_law_thing_here"] (sp_law_is_word K)) (c_law_refused : Cal P w K mg base CX0 7 "_law_refused" ["_law_call", "_law_tree_here", "_law_thing_here", "_law_most"] (sp_law_refused K C_Tree C_Node)) (c_law_thing : Cal P w K mg base CX0 2 "_law_thing" ["_law_cell"] (sp_law_thing K)) (c_law_tree : Cal P w K mg base CX0 5 "_law_tree" ["_law_words_here"] (sp_law_tree K C_Tree C_Node)) (c_law_words : Cal P w K mg base CX0 3 "_law_words" ["_law_script"] (sp_law_words K)) : FnOk P w K mg base CX0 9 f fd ["_law_script"] (sp_law8 K) := by
  obtain ⟨f_Tree_nodes, fd_Tree_nodes, G_Tree_nodes, m_Tree_nodes, b_Tree_nodes⟩ := c_Tree_nodes.ex
  obtain ⟨f_Tree_words, fd_Tree_words, G_Tree_words, m_Tree_words, b_Tree_words⟩ := c_Tree_words.ex
  obtain ⟨f_law_at, fd_law_at, G_law_at, g_law_at, kp_law_at, b_law_at⟩ := c_law_at.ex
  obtain ⟨f_law_full, fd_law_full, G_law_full, g_law_full, kp_law_full, b_law_full⟩ := c_law_full.ex
  obtain ⟨f_law_is_word, fd_law_is_word, G_law_is_word, g_law_is_word, kp_law_is_word, b_law_is_word⟩ := c_law_is_word.ex
  obtain ⟨f_law_refused, fd_law_refused, G_law_refused, g_law_refused, kp_law_refused, b_law_refused⟩ := c_law_refused.ex
  obtain ⟨f_law_thing, fd_law_thing, G_law_thing, g_law_thing, kp_law_thing, b_law_thing⟩ := c_law_thing.ex
  obtain ⟨f_law_tree, fd_law_tree, G_law_tree, g_law_tree, kp_law_tree, b_law_tree⟩ := c_law_tree.ex
  obtain ⟨f_law_words, fd_law_words, G_law_words, g_law_words, kp_law_words, b_law_words⟩ := c_law_words.ex
  refine F.ok sc_law8 (fun vs H Q E h => l_law8 h) (fun cdv A outer s H vs Q E hr h => ⟨T_law8 K C_Tree C_Node C_BadWord, ?_, R_law8 h⟩)
  have hu := hu_of hr
  exact (pss_cons (ps_set (i := 1) sc_law8.nd rfl (Or.inl rfl) (pe_call G_law_words (hr.mono (by decide)) (by rfl) g_law_words kp_law_words b_law_words .nil pass0 (pa_cons (pv 0) pa_nil)))
     (pss_cons (ps_set (i := 2) sc_law8.nd rfl (Or.inl rfl) (pe_call G_law_tree (hr.mono (by decide)) (by rfl) g_law_tree kp_law_tree b_law_tree .nil pass0 (pa_cons (pv 1) pa_nil)))
     (pss_cons (ps_set (i := 3) sc_law8.nd rfl (Or.inl rfl) (pe_meth0 (pv 2) T.tx.clT m_Tree_words G_Tree_words (hr.mono (by decide)) b_Tree_words .nil passL))
     (pss_cons (ps_set (i := 4) sc_law8.nd rfl (Or.inl rfl) (pe_meth0 (pv 2) T.tx.clT m_Tree_nodes G_Tree_nodes (hr.mono (by decide)) b_Tree_nodes .nil pass0))
     (pss_cons (ps_set (i := 5) sc_law8.nd rfl (Or.inl rfl) (pe_call G_law_at (hr.mono (by decide)) (by rfl) g_law_at kp_law_at b_law_at .nil pass0 (pa_cons (pv 0) (pa_cons pe_int pa_nil))))
     (pss_cons (ps_set (i := 6) sc_law8.nd rfl (Or.inl rfl) (pe_ix x_list (pv 1) (pe_op o_mod (pv 5) (pe_callB c_lenL (by rfl) T.len PySem.boot_len (pa_cons (pv 1) pa_nil))) (fun _ _ => rfl)))
     (pss_cons (ps_if (pt_cmpR o_gt (pe_op o_mod (pe_op o_div (pv 5) pe_int) pe_int) pe_int (nomark _))
     (pss_one (ps_set (i := 6) sc_law8.nd rfl (Or.inl rfl) (pe_call G_law_thing (hr.mono (by decide)) (by rfl) g_law_thing kp_law_thing b_law_thing .nil pass0 (pa_cons (pe_op o_div (pv 5) pe_int) pa_nil)))) pss_nil)
     (pss_cons (ps_set (i := 7) sc_law8.nd rfl (Or.inl rfl) (pe_op o_mod (pe_op o_div (pe_call G_law_at (hr.mono (by decide)) (by rfl) g_law_at kp_law_at b_law_at .nil pass0 (pa_cons (pv 0) (pa_cons pe_int pa_nil))) pe_int) pe_int))
     (pss_cons (ps_set (i := 8) sc_law8.nd rfl (Or.inl rfl) (pe_lst (pa_cons (pe_un o_neg pe_int) (pa_cons pe_int (pa_cons pe_bl (pa_cons pe_bl (pa_cons pe_non (pa_cons (pe_tx (w := [51]) (by decide +kernel)) (pa_cons (pe_tup (pa_cons pe_int pa_nil)) (pa_cons (pe_lst (pa_cons pe_int pa_nil)) (pa_cons pe_dnewK pa_nil)))))))))))
     (pss_cons (ps_if (pt_cmpR o_eq (pe_op o_mod (pe_call G_law_at (hr.mono (by decide)) (by rfl) g_law_at kp_law_at b_law_at .nil pass0 (pa_cons (pv 0) (pa_cons pe_int pa_nil))) pe_int) pe_int (nomark _))
     (pss_one (ps_set (i := 7) sc_law8.nd rfl (Or.inl rfl) (pe_ix x_list (pv 8) (pe_op o_mod (pe_op o_div (pe_call G_law_at (hr.mono (by decide)) (by rfl) g_law_at kp_law_at b_law_at .nil pass0 (pa_cons (pv 0) (pa_cons pe_int pa_nil))) pe_int) pe_int) (fun _ _ => rfl)))) pss_nil)
     (pss_cons (ps_set (i := 9) sc_law8.nd rfl (Or.inl rfl) (pe_and (pe_cmpR (o_inX hr.units) (pv 7) (pv 8) (by rfl)) (pe_one (pe_or (pe_callB c_isi (by rfl) T.isinstance (by decide +kernel) (pa_cons (pv 7) (pa_cons (pe_bltn (v := .ty "bool") (by rfl) T.bool (by decide +kernel) rfl) pa_nil))) (pe_or (pe_not (pe_callB c_isi (by rfl) T.isinstance (by decide +kernel) (pa_cons (pv 7) (pa_cons (pe_bltn (v := .ty "int") (by rfl) T.int (by decide +kernel) rfl) pa_nil)))) (pe_one (pe_not (pe_chain o_le o_le pe_int (pv 7) pe_int))))))))
     (pss_cons (ps_for PassesOwn.never rfl (pi_range1 (by rfl) T.range (pa_cons pe_int pa_nil)) (pg_name (i := 10) sc_law8.nd rfl (Or.inl rfl))
     (pss_cons (ps_set (i := 11) sc_law8.nd rfl (Or.inl rfl) (pe_op o_rep (pe_lst (pa_cons pe_bl pa_nil)) pe_int))
     (pss_cons (ps_if (pt_not (pt_val (pe_call G_law_is_word (hr.mono (by decide)) (by rfl) g_law_is_word kp_law_is_word b_law_is_word .nil pass0 (pa_cons (pv 6) pa_nil))))
     (pss_one (ps_set (i := 11) sc_law8.nd rfl (Or.inl rfl) (pe_lst (pa_cons pe_bl (pa_cons pe_bl (pa_cons pe_bl (pa_cons pe_bl pa_nil))))))) (pss_one (ps_if (PW.pt (pw_and (pt_cmpR o_inL (pv 10) (pe_tup (pa_cons pe_int (pa_cons pe_int pa_nil))) (by rfl)) (pw_and1 (pt_val (pv 9)))))
     (pss_one (ps_set (i := 11) sc_law8.nd rfl (Or.inl rfl) (pe_lst (pa_cons pe_bl (pa_cons pe_bl (pa_cons pe_bl (pa_cons pe_bl pa_nil))))))) pss_nil)))
     (pss_cons (ps_if (PW.pt (pw_and (pt_cmpR o_gt (pv 10) pe_int (nomark _)) (pw_and1 (pt_cmpR (o_neD hr.units) (pe_call G_law_refused (hr.mono (by decide)) (by rfl) g_law_refused kp_law_refused b_law_refused .nil pass0 (pa_cons (pv 10) (pa_cons (pv 2) (pa_cons (pv 6) (pa_cons (pv 7) pa_nil))))) (pv 11) (nomark _)))))
     (pss_one (ps_ret pe_bl)) pss_nil)
     (pss_one (ps_if (PW.pt (pw_and (PW.pt (pw_or (pt_cmpR o_lt (pv 10) pe_int (nomark _)) (pw_or1 (pt_val (pe_ix x_list (pv 11) pe_int (fun _ _ => rfl)))))) (pw_and1 (PW.pt (pw_or (pt_cmpR (o_neD hr.units) (pe_meth0 (pv 2) T.tx.clT m_Tree_words G_Tree_words (hr.mono (by decide)) b_Tree_words .nil passL) (pv 3) (nomark _)) (pw_or1 (pt_cmpR o_ne (pe_meth0 (pv 2) T.tx.clT m_Tree_nodes G_Tree_nodes (hr.mono (by decide)) b_Tree_nodes .nil pass0) (pv 4) (nomark _))))))))
     (pss_one (ps_ret pe_bl)) pss_nil))))))
     (pss_cons (ps_if (pt_cmpR (o_neD hr.units) (pe_call G_law_refused (hr.mono (by decide)) (by rfl) g_law_refused kp_law_refused b_law_refused .nil pass0 (pa_cons pe_int (pa_cons (pv 2) (pa_cons (pv 6) (pa_cons (pv 7) pa_nil))))) (pe_lst (pa_cons (pe_not (pe_call G_law_is_word (hr.mono (by decide)) (by rfl) g_law_is_word kp_law_is_word b_law_is_word .nil pass0 (pa_cons (pv 6) pa_nil))) (pa_cons pe_bl (pa_cons pe_bl (pa_cons pe_bl pa_nil))))) (nomark _))
     (pss_one (ps_ret pe_bl)) pss_nil)
     (pss_one (ps_ret (pe_or (pe_cmpR o_ne (pe_op o_mod (pe_call G_law_at (hr.mono (by decide)) (by rfl) g_law_at kp_law_at b_law_at .nil pass0 (pa_cons (pv 0) (pa_cons pe_int pa_nil))) pe_int) pe_int (nomark _)) (pe_one (pe_call G_law_full (hr.mono (by decide)) (by rfl) g_law_full kp_law_full b_law_full .nil pass0 (pa_cons (pv 0) (pa_cons (pv 6) pa_nil))))))))))))))))))))
end
set_option maxHeartbeats 2000000 in
theorem all_mk {l : PySem.W.OpenLaw} {w : World} {K : PySem.W.Frag} {h : Heap} {mg : Str → Option Value} {fa : Addr} (X : K.In h) (G : h.Ns mainGlobals mg) (hfa : mg "law" = some (.ref fa))
    {f_Tree_nodes : Addr} {od_Tree_nodes an_Tree_nodes : Option Addr} {sl_Tree_nodes : Array (Option Value)} {oc_Tree_nodes kV_Tree_nodes dc_Tree_nodes pm_Tree_nodes cd_Tree_nodes ct_Tree_nodes : Value}
    {f_Tree_found : Addr} {od_Tree_found an_Tree_found : Option Addr} {sl_Tree_found : Array (Option Value)} {oc_Tree_found kV_Tree_found dc_Tree_found pm_Tree_found cd_Tree_found ct_Tree_found : Value}
    {f_is_word : Addr} {od_is_word an_is_word : Option Addr} {sl_is_word : Array (Option Value)} {oc_is_word kV_is_word dc_is_word pm_is_word cd_is_word ct_is_word : Value}
    {f_need_word : Addr} {od_need_word an_need_word : Option Addr} {sl_need_word : Array (Option Value)} {oc_need_word kV_need_word dc_need_word pm_need_word cd_need_word ct_need_word : Value}
    {f_Tree_begun : Addr} {od_Tree_begun an_Tree_begun : Option Addr} {sl_Tree_begun : Array (Option Value)} {oc_Tree_begun kV_Tree_begun dc_Tree_begun pm_Tree_begun cd_Tree_begun ct_Tree_begun : Value}
    {f_Tree_words : Addr} {od_Tree_words an_Tree_words : Option Addr} {sl_Tree_words : Array (Option Value)} {oc_Tree_words kV_Tree_words dc_Tree_words pm_Tree_words cd_Tree_words ct_Tree_words : Value}
    {f_law_at : Addr} {od_law_at an_law_at : Option Addr} {sl_law_at : Array (Option Value)} {oc_law_at kV_law_at dc_law_at pm_law_at cd_law_at ct_law_at : Value}
    {f_Tree_has : Addr} {od_Tree_has an_Tree_has : Option Addr} {sl_Tree_has : Array (Option Value)} {oc_Tree_has kV_Tree_has dc_Tree_has pm_Tree_has cd_Tree_has ct_Tree_has : Value}
    {f_Tree_many : Addr} {od_Tree_many an_Tree_many : Option Addr} {sl_Tree_many : Array (Option Value)} {oc_Tree_many kV_Tree_many dc_Tree_many pm_Tree_many cd_Tree_many ct_Tree_many : Value}
    {f_Node_init : Addr} {od_Node_init an_Node_init : Option Addr} {sl_Node_init : Array (Option Value)} {oc_Node_init kV_Node_init dc_Node_init pm_Node_init cd_Node_init ct_Node_init : Value}
    {f_Tree_put : Addr} {od_Tree_put an_Tree_put : Option Addr} {sl_Tree_put : Array (Option Value)} {oc_Tree_put kV_Tree_put dc_Tree_put pm_Tree_put cd_Tree_put ct_Tree_put : Value}
    {f_Tree_take : Addr} {od_Tree_take an_Tree_take : Option Addr} {sl_Tree_take : Array (Option Value)} {oc_Tree_take kV_Tree_take dc_Tree_take pm_Tree_take cd_Tree_take ct_Tree_take : Value}
    {f_Tree_init : Addr} {od_Tree_init an_Tree_init : Option Addr} {sl_Tree_init : Array (Option Value)} {oc_Tree_init kV_Tree_init dc_Tree_init pm_Tree_init cd_Tree_init ct_Tree_init : Value}
    {f_law_filled : Addr} {od_law_filled an_law_filled : Option Addr} {sl_law_filled : Array (Option Value)} {oc_law_filled kV_law_filled dc_law_filled pm_law_filled cd_law_filled ct_law_filled : Value}
    {f_first_row : Addr} {od_first_row an_first_row : Option Addr} {sl_first_row : Array (Option Value)} {oc_first_row kV_first_row dc_first_row pm_first_row cd_first_row ct_first_row : Value}
    {f_next_row : Addr} {od_next_row an_next_row : Option Addr} {sl_next_row : Array (Option Value)} {oc_next_row kV_next_row dc_next_row pm_next_row cd_next_row ct_next_row : Value}
    {f_gone_through : Addr} {od_gone_through an_gone_through : Option Addr} {sl_gone_through : Array (Option Value)} {oc_gone_through kV_gone_through dc_gone_through pm_gone_through cd_gone_through ct_gone_through : Value}
    {f_is_whole : Addr} {od_is_whole an_is_whole : Option Addr} {sl_is_whole : Array (Option Value)} {oc_is_whole kV_is_whole dc_is_whole pm_is_whole cd_is_whole ct_is_whole : Value}
    {f_need_most : Addr} {od_need_most an_need_most : Option Addr} {sl_need_most : Array (Option Value)} {oc_need_most kV_need_most dc_need_most pm_need_most cd_need_most ct_need_most : Value}
    {f_rows_of : Addr} {od_rows_of an_rows_of : Option Addr} {sl_rows_of : Array (Option Value)} {oc_rows_of kV_rows_of dc_rows_of pm_rows_of cd_rows_of ct_rows_of : Value}
    {f_steps_of : Addr} {od_steps_of an_steps_of : Option Addr} {sl_steps_of : Array (Option Value)} {oc_steps_of kV_steps_of dc_steps_of pm_steps_of cd_steps_of ct_steps_of : Value}
    {f_way : Addr} {od_way an_way : Option Addr} {sl_way : Array (Option Value)} {oc_way kV_way dc_way pm_way cd_way ct_way : Value}
    {f_near : Addr} {od_near an_near : Option Addr} {sl_near : Array (Option Value)} {oc_near kV_near dc_near pm_near cd_near ct_near : Value}
    {f_law_great : Addr} {od_law_great an_law_great : Option Addr} {sl_law_great : Array (Option Value)} {oc_law_great kV_law_great dc_law_great pm_law_great cd_law_great ct_law_great : Value}
    {f_law_is_word : Addr} {od_law_is_word an_law_is_word : Option Addr} {sl_law_is_word : Array (Option Value)} {oc_law_is_word kV_law_is_word dc_law_is_word pm_law_is_word cd_law_is_word ct_law_is_word : Value}
    {f_table : Addr} {od_table an_table : Option Addr} {sl_table : Array (Option Value)} {oc_table kV_table dc_table pm_table cd_table ct_table : Value}
    {f_distance : Addr} {od_distance an_distance : Option Addr} {sl_distance : Array (Option Value)} {oc_distance kV_distance dc_distance pm_distance cd_distance ct_distance : Value}
    {f_law_two8 : Addr} {od_law_two8 an_law_two8 : Option Addr} {sl_law_two8 : Array (Option Value)} {oc_law_two8 kV_law_two8 dc_law_two8 pm_law_two8 cd_law_two8 ct_law_two8 : Value}
    {f_looked : Addr} {od_looked an_looked : Option Addr} {sl_looked : Array (Option Value)} {oc_looked kV_looked dc_looked pm_looked cd_looked ct_looked : Value}
    {f_law_called : Addr} {od_law_called an_law_called : Option Addr} {sl_law_called : Array (Option Value)} {oc_law_called kV_law_called dc_law_called pm_law_called cd_law_called ct_law_called : Value}
    {f_law_kinds : Addr} {od_law_kinds an_law_kinds : Option Addr} {sl_law_kinds : Array (Option Value)} {oc_law_kinds kV_law_kinds dc_law_kinds pm_law_kinds cd_law_kinds ct_law_kinds : Value}
    {f_law_refused : Addr} {od_law_refused an_law_refused : Option Addr} {sl_law_refused : Array (Option Value)} {oc_law_refused kV_law_refused dc_law_refused pm_law_refused cd_law_refused ct_law_refused : Value}
    {f_law_full : Addr} {od_law_full an_law_full : Option Addr} {sl_law_full : Array (Option Value)} {oc_law_full kV_law_full dc_law_full pm_law_full cd_law_full ct_law_full : Value}
    {f_law_sign : Addr} {od_law_sign an_law_sign : Option Addr} {sl_law_sign : Array (Option Value)} {oc_law_sign kV_law_sign dc_law_sign pm_law_sign cd_law_sign ct_law_sign : Value}
    {f_law_thing : Addr} {od_law_thing an_law_thing : Option Addr} {sl_law_thing : Array (Option Value)} {oc_law_thing kV_law_thing dc_law_thing pm_law_thing cd_law_thing ct_law_thing : Value}
    {f_law_tree : Addr} {od_law_tree an_law_tree : Option Addr} {sl_law_tree : Array (Option Value)} {oc_law_tree kV_law_tree dc_law_tree pm_law_tree cd_law_tree ct_law_tree : Value}
    {f_law_letter : Addr} {od_law_letter an_law_letter : Option Addr} {sl_law_letter : Array (Option Value)} {oc_law_letter kV_law_letter dc_law_letter pm_law_letter cd_law_letter ct_law_letter : Value}
    {f_law_bent : Addr} {od_law_bent an_law_bent : Option Addr} {sl_law_bent : Array (Option Value)} {oc_law_bent kV_law_bent dc_law_bent pm_law_bent cd_law_bent ct_law_bent : Value}
    {f_law_word : Addr} {od_law_word an_law_word : Option Addr} {sl_law_word : Array (Option Value)} {oc_law_word kV_law_word dc_law_word pm_law_word cd_law_word ct_law_word : Value}
    {f_law_words : Addr} {od_law_words an_law_words : Option Addr} {sl_law_words : Array (Option Value)} {oc_law_words kV_law_words dc_law_words pm_law_words cd_law_words ct_law_words : Value}
    {f_law8 : Addr} {od_law8 an_law8 : Option Addr} {sl_law8 : Array (Option Value)} {oc_law8 kV_law8 dc_law8 pm_law8 cd_law8 ct_law8 : Value}
    {t_LETTERS : Tok}
    {t_MOST_LETTERS : Tok}
    {t_MOST_WORDS : Tok}
    {C_BadChange : Addr}
    {C_BadMost : Addr}
    {C_BadWord : Addr}
    {C_Full : Addr}
    {C_NearError : Addr}
    {C_Node : Addr}
    {C_Tree : Addr}
    (a_Tree_nodes : PySem.W.findIn K (.ref C_Tree) "nodes" = some (some (.ref f_Tree_nodes))) (i_Tree_nodes : PySem.W.isFn K (.ref f_Tree_nodes) = true) (l_Tree_nodes : K.lookup f_Tree_nodes = some ⟨oc_Tree_nodes, od_Tree_nodes, .func (PySem.W.fnOf "nodes" "Tree.nodes" (defArgs s_Tree_nodes) (defBody s_Tree_nodes) (defScope s_Tree_nodes) .none kV_Tree_nodes dc_Tree_nodes pm_Tree_nodes an_Tree_nodes cd_Tree_nodes ct_Tree_nodes), sl_Tree_nodes⟩) (e_Tree_nodes : PySem.W.codeIn K cd_Tree_nodes "Tree.nodes" = true) (k_Tree_nodes : PySem.W.keepIn K (.ref f_Tree_nodes) = true)
    (a_Tree_found : PySem.W.findIn K (.ref C_Tree) "found" = some (some (.ref f_Tree_found))) (i_Tree_found : PySem.W.isFn K (.ref f_Tree_found) = true) (l_Tree_found : K.lookup f_Tree_found = some ⟨oc_Tree_found, od_Tree_found, .func (PySem.W.fnOf "found" "Tree.found" (defArgs s_Tree_found) (defBody s_Tree_found) (defScope s_Tree_found) .none kV_Tree_found dc_Tree_found pm_Tree_found an_Tree_found cd_Tree_found ct_Tree_found), sl_Tree_found⟩) (e_Tree_found : PySem.W.codeIn K cd_Tree_found "Tree.found" = true) (k_Tree_found : PySem.W.keepIn K (.ref f_Tree_found) = true)
    (a_is_word : PySem.W.nsIn K mainGlobals "is_word" = some (some (.ref f_is_word))) (l_is_word : K.lookup f_is_word = some ⟨oc_is_word, od_is_word, .func (PySem.W.fnOf "is_word" "is_word" (defArgs s_is_word) (defBody s_is_word) (defScope s_is_word) .none kV_is_word dc_is_word pm_is_word an_is_word cd_is_word ct_is_word), sl_is_word⟩) (e_is_word : PySem.W.codeIn K cd_is_word "is_word" = true) (k_is_word : PySem.W.keepIn K (.ref f_is_word) = true)
    (a_need_word : PySem.W.nsIn K mainGlobals "need_word" = some (some (.ref f_need_word))) (l_need_word : K.lookup f_need_word = some ⟨oc_need_word, od_need_word, .func (PySem.W.fnOf "need_word" "need_word" (defArgs s_need_word) (defBody s_need_word) (defScope s_need_word) .none kV_need_word dc_need_word pm_need_word an_need_word cd_need_word ct_need_word), sl_need_word⟩) (e_need_word : PySem.W.codeIn K cd_need_word "need_word" = true) (k_need_word : PySem.W.keepIn K (.ref f_need_word) = true)
    (a_Tree_begun : PySem.W.findIn K (.ref C_Tree) "begun" = some (some (.ref f_Tree_begun))) (i_Tree_begun : PySem.W.isFn K (.ref f_Tree_begun) = true) (l_Tree_begun : K.lookup f_Tree_begun = some ⟨oc_Tree_begun, od_Tree_begun, .func (PySem.W.fnOf "begun" "Tree.begun" (defArgs s_Tree_begun) (defBody s_Tree_begun) (defScope s_Tree_begun) .none kV_Tree_begun dc_Tree_begun pm_Tree_begun an_Tree_begun cd_Tree_begun ct_Tree_begun), sl_Tree_begun⟩) (e_Tree_begun : PySem.W.codeIn K cd_Tree_begun "Tree.begun" = true) (k_Tree_begun : PySem.W.keepIn K (.ref f_Tree_begun) = true)
    (a_Tree_words : PySem.W.findIn K (.ref C_Tree) "words" = some (some (.ref f_Tree_words))) (i_Tree_words : PySem.W.isFn K (.ref f_Tree_words) = true) (l_Tree_words : K.lookup f_Tree_words = some ⟨oc_Tree_words, od_Tree_words, .func (PySem.W.fnOf "words" "Tree.words" (defArgs s_Tree_words) (defBody s_Tree_words) (defScope s_Tree_words) .none kV_Tree_words dc_Tree_words pm_Tree_words an_Tree_words cd_Tree_words ct_Tree_words), sl_Tree_words⟩) (e_Tree_words : PySem.W.codeIn K cd_Tree_words "Tree.words" = true) (k_Tree_words : PySem.W.keepIn K (.ref f_Tree_words) = true)
    (a_law_at : PySem.W.nsIn K mainGlobals "_law_at" = some (some (.ref f_law_at))) (l_law_at : K.lookup f_law_at = some ⟨oc_law_at, od_law_at, .func (PySem.W.fnOf "_law_at" "_law_at" (defArgs s_law_at) (defBody s_law_at) (defScope s_law_at) .none kV_law_at dc_law_at pm_law_at an_law_at cd_law_at ct_law_at), sl_law_at⟩) (e_law_at : PySem.W.codeIn K cd_law_at "_law_at" = true) (k_law_at : PySem.W.keepIn K (.ref f_law_at) = true)
    (a_Tree_has : PySem.W.findIn K (.ref C_Tree) "has" = some (some (.ref f_Tree_has))) (i_Tree_has : PySem.W.isFn K (.ref f_Tree_has) = true) (l_Tree_has : K.lookup f_Tree_has = some ⟨oc_Tree_has, od_Tree_has, .func (PySem.W.fnOf "has" "Tree.has" (defArgs s_Tree_has) (defBody s_Tree_has) (defScope s_Tree_has) .none kV_Tree_has dc_Tree_has pm_Tree_has an_Tree_has cd_Tree_has ct_Tree_has), sl_Tree_has⟩) (e_Tree_has : PySem.W.codeIn K cd_Tree_has "Tree.has" = true) (k_Tree_has : PySem.W.keepIn K (.ref f_Tree_has) = true)
    (a_Tree_many : PySem.W.findIn K (.ref C_Tree) "many" = some (some (.ref f_Tree_many))) (i_Tree_many : PySem.W.isFn K (.ref f_Tree_many) = true) (l_Tree_many : K.lookup f_Tree_many = some ⟨oc_Tree_many, od_Tree_many, .func (PySem.W.fnOf "many" "Tree.many" (defArgs s_Tree_many) (defBody s_Tree_many) (defScope s_Tree_many) .none kV_Tree_many dc_Tree_many pm_Tree_many an_Tree_many cd_Tree_many ct_Tree_many), sl_Tree_many⟩) (e_Tree_many : PySem.W.codeIn K cd_Tree_many "Tree.many" = true) (k_Tree_many : PySem.W.keepIn K (.ref f_Tree_many) = true)
    (a_Node_init : PySem.W.findIn K (.ref C_Node) "__init__" = some (some (.ref f_Node_init))) (i_Node_init : PySem.W.isFn K (.ref f_Node_init) = true) (l_Node_init : K.lookup f_Node_init = some ⟨oc_Node_init, od_Node_init, .func (PySem.W.fnOf "__init__" "Node.__init__" (defArgs s_Node_init) (defBody s_Node_init) (defScope s_Node_init) .none kV_Node_init dc_Node_init pm_Node_init an_Node_init cd_Node_init ct_Node_init), sl_Node_init⟩) (e_Node_init : PySem.W.codeIn K cd_Node_init "Node.__init__" = true) (k_Node_init : PySem.W.keepIn K (.ref f_Node_init) = true)
    (a_Tree_put : PySem.W.findIn K (.ref C_Tree) "put" = some (some (.ref f_Tree_put))) (i_Tree_put : PySem.W.isFn K (.ref f_Tree_put) = true) (l_Tree_put : K.lookup f_Tree_put = some ⟨oc_Tree_put, od_Tree_put, .func (PySem.W.fnOf "put" "Tree.put" (defArgs s_Tree_put) (defBody s_Tree_put) (defScope s_Tree_put) .none kV_Tree_put dc_Tree_put pm_Tree_put an_Tree_put cd_Tree_put ct_Tree_put), sl_Tree_put⟩) (e_Tree_put : PySem.W.codeIn K cd_Tree_put "Tree.put" = true) (k_Tree_put : PySem.W.keepIn K (.ref f_Tree_put) = true)
    (a_Tree_take : PySem.W.findIn K (.ref C_Tree) "take" = some (some (.ref f_Tree_take))) (i_Tree_take : PySem.W.isFn K (.ref f_Tree_take) = true) (l_Tree_take : K.lookup f_Tree_take = some ⟨oc_Tree_take, od_Tree_take, .func (PySem.W.fnOf "take" "Tree.take" (defArgs s_Tree_take) (defBody s_Tree_take) (defScope s_Tree_take) .none kV_Tree_take dc_Tree_take pm_Tree_take an_Tree_take cd_Tree_take ct_Tree_take), sl_Tree_take⟩) (e_Tree_take : PySem.W.codeIn K cd_Tree_take "Tree.take" = true) (k_Tree_take : PySem.W.keepIn K (.ref f_Tree_take) = true)
    (a_Tree_init : PySem.W.findIn K (.ref C_Tree) "__init__" = some (some (.ref f_Tree_init))) (i_Tree_init : PySem.W.isFn K (.ref f_Tree_init) = true) (l_Tree_init : K.lookup f_Tree_init = some ⟨oc_Tree_init, od_Tree_init, .func (PySem.W.fnOf "__init__" "Tree.__init__" (defArgs s_Tree_init) (defBody s_Tree_init) (defScope s_Tree_init) .none kV_Tree_init dc_Tree_init pm_Tree_init an_Tree_init cd_Tree_init ct_Tree_init), sl_Tree_init⟩) (e_Tree_init : PySem.W.codeIn K cd_Tree_init "Tree.__init__" = true) (k_Tree_init : PySem.W.keepIn K (.ref f_Tree_init) = true)
    (a_law_filled : PySem.W.nsIn K mainGlobals "_law_filled" = some (some (.ref f_law_filled))) (l_law_filled : K.lookup f_law_filled = some ⟨oc_law_filled, od_law_filled, .func (PySem.W.fnOf "_law_filled" "_law_filled" (defArgs s_law_filled) (defBody s_law_filled) (defScope s_law_filled) .none kV_law_filled dc_law_filled pm_law_filled an_law_filled cd_law_filled ct_law_filled), sl_law_filled⟩) (e_law_filled : PySem.W.codeIn K cd_law_filled "_law_filled" = true) (k_law_filled : PySem.W.keepIn K (.ref f_law_filled) = true)
    (a_first_row : PySem.W.nsIn K mainGlobals "first_row" = some (some (.ref f_first_row))) (l_first_row : K.lookup f_first_row = some ⟨oc_first_row, od_first_row, .func (PySem.W.fnOf "first_row" "first_row" (defArgs s_first_row) (defBody s_first_row) (defScope s_first_row) .none kV_first_row dc_first_row pm_first_row an_first_row cd_first_row ct_first_row), sl_first_row⟩) (e_first_row : PySem.W.codeIn K cd_first_row "first_row" = true) (k_first_row : PySem.W.keepIn K (.ref f_first_row) = true)
    (a_next_row : PySem.W.nsIn K mainGlobals "next_row" = some (some (.ref f_next_row))) (l_next_row : K.lookup f_next_row = some ⟨oc_next_row, od_next_row, .func (PySem.W.fnOf "next_row" "next_row" (defArgs s_next_row) (defBody s_next_row) (defScope s_next_row) .none kV_next_row dc_next_row pm_next_row an_next_row cd_next_row ct_next_row), sl_next_row⟩) (e_next_row : PySem.W.codeIn K cd_next_row "next_row" = true) (k_next_row : PySem.W.keepIn K (.ref f_next_row) = true)
    (a_gone_through : PySem.W.nsIn K mainGlobals "gone_through" = some (some (.ref f_gone_through))) (l_gone_through : K.lookup f_gone_through = some ⟨oc_gone_through, od_gone_through, .func (PySem.W.fnOf "gone_through" "gone_through" (defArgs s_gone_through) (defBody s_gone_through) (defScope s_gone_through) .none kV_gone_through dc_gone_through pm_gone_through an_gone_through cd_gone_through ct_gone_through), sl_gone_through⟩) (e_gone_through : PySem.W.codeIn K cd_gone_through "gone_through" = true) (k_gone_through : PySem.W.keepIn K (.ref f_gone_through) = true)
    (a_is_whole : PySem.W.nsIn K mainGlobals "is_whole" = some (some (.ref f_is_whole))) (l_is_whole : K.lookup f_is_whole = some ⟨oc_is_whole, od_is_whole, .func (PySem.W.fnOf "is_whole" "is_whole" (defArgs s_is_whole) (defBody s_is_whole) (defScope s_is_whole) .none kV_is_whole dc_is_whole pm_is_whole an_is_whole cd_is_whole ct_is_whole), sl_is_whole⟩) (e_is_whole : PySem.W.codeIn K cd_is_whole "is_whole" = true) (k_is_whole : PySem.W.keepIn K (.ref f_is_whole) = true)
    (a_need_most : PySem.W.nsIn K mainGlobals "need_most" = some (some (.ref f_need_most))) (l_need_most : K.lookup f_need_most = some ⟨oc_need_most, od_need_most, .func (PySem.W.fnOf "need_most" "need_most" (defArgs s_need_most) (defBody s_need_most) (defScope s_need_most) .none kV_need_most dc_need_most pm_need_most an_need_most cd_need_most ct_need_most), sl_need_most⟩) (e_need_most : PySem.W.codeIn K cd_need_most "need_most" = true) (k_need_most : PySem.W.keepIn K (.ref f_need_most) = true)
    (a_rows_of : PySem.W.nsIn K mainGlobals "rows_of" = some (some (.ref f_rows_of))) (l_rows_of : K.lookup f_rows_of = some ⟨oc_rows_of, od_rows_of, .func (PySem.W.fnOf "rows_of" "rows_of" (defArgs s_rows_of) (defBody s_rows_of) (defScope s_rows_of) .none kV_rows_of dc_rows_of pm_rows_of an_rows_of cd_rows_of ct_rows_of), sl_rows_of⟩) (e_rows_of : PySem.W.codeIn K cd_rows_of "rows_of" = true) (k_rows_of : PySem.W.keepIn K (.ref f_rows_of) = true)
    (a_steps_of : PySem.W.nsIn K mainGlobals "steps_of" = some (some (.ref f_steps_of))) (l_steps_of : K.lookup f_steps_of = some ⟨oc_steps_of, od_steps_of, .func (PySem.W.fnOf "steps_of" "steps_of" (defArgs s_steps_of) (defBody s_steps_of) (defScope s_steps_of) .none kV_steps_of dc_steps_of pm_steps_of an_steps_of cd_steps_of ct_steps_of), sl_steps_of⟩) (e_steps_of : PySem.W.codeIn K cd_steps_of "steps_of" = true) (k_steps_of : PySem.W.keepIn K (.ref f_steps_of) = true)
    (a_way : PySem.W.nsIn K mainGlobals "way" = some (some (.ref f_way))) (l_way : K.lookup f_way = some ⟨oc_way, od_way, .func (PySem.W.fnOf "way" "way" (defArgs s_way) (defBody s_way) (defScope s_way) .none kV_way dc_way pm_way an_way cd_way ct_way), sl_way⟩) (e_way : PySem.W.codeIn K cd_way "way" = true) (k_way : PySem.W.keepIn K (.ref f_way) = true)
    (a_near : PySem.W.nsIn K mainGlobals "near" = some (some (.ref f_near))) (l_near : K.lookup f_near = some ⟨oc_near, od_near, .func (PySem.W.fnOf "near" "near" (defArgs s_near) (defBody s_near) (defScope s_near) .none kV_near dc_near pm_near an_near cd_near ct_near), sl_near⟩) (e_near : PySem.W.codeIn K cd_near "near" = true) (k_near : PySem.W.keepIn K (.ref f_near) = true)
    (a_law_great : PySem.W.nsIn K mainGlobals "_law_great" = some (some (.ref f_law_great))) (l_law_great : K.lookup f_law_great = some ⟨oc_law_great, od_law_great, .func (PySem.W.fnOf "_law_great" "_law_great" (defArgs s_law_great) (defBody s_law_great) (defScope s_law_great) .none kV_law_great dc_law_great pm_law_great an_law_great cd_law_great ct_law_great), sl_law_great⟩) (e_law_great : PySem.W.codeIn K cd_law_great "_law_great" = true) (k_law_great : PySem.W.keepIn K (.ref f_law_great) = true)
    (a_law_is_word : PySem.W.nsIn K mainGlobals "_law_is_word" = some (some (.ref f_law_is_word))) (l_law_is_word : K.lookup f_law_is_word = some ⟨oc_law_is_word, od_law_is_word, .func (PySem.W.fnOf "_law_is_word" "_law_is_word" (defArgs s_law_is_word) (defBody s_law_is_word) (defScope s_law_is_word) .none kV_law_is_word dc_law_is_word pm_law_is_word an_law_is_word cd_law_is_word ct_law_is_word), sl_law_is_word⟩) (e_law_is_word : PySem.W.codeIn K cd_law_is_word "_law_is_word" = true) (k_law_is_word : PySem.W.keepIn K (.ref f_law_is_word) = true)
    (a_table : PySem.W.nsIn K mainGlobals "table" = some (some (.ref f_table))) (l_table : K.lookup f_table = some ⟨oc_table, od_table, .func (PySem.W.fnOf "table" "table" (defArgs s_table) (defBody s_table) (defScope s_table) .none kV_table dc_table pm_table an_table cd_table ct_table), sl_table⟩) (e_table : PySem.W.codeIn K cd_table "table" = true) (k_table : PySem.W.keepIn K (.ref f_table) = true)
    (a_distance : PySem.W.nsIn K mainGlobals "distance" = some (some (.ref f_distance))) (l_distance : K.lookup f_distance = some ⟨oc_distance, od_distance, .func (PySem.W.fnOf "distance" "distance" (defArgs s_distance) (defBody s_distance) (defScope s_distance) .none kV_distance dc_distance pm_distance an_distance cd_distance ct_distance), sl_distance⟩) (e_distance : PySem.W.codeIn K cd_distance "distance" = true) (k_distance : PySem.W.keepIn K (.ref f_distance) = true)
    (a_law_two8 : PySem.W.nsIn K mainGlobals "_law_two" = some (some (.ref f_law_two8))) (l_law_two8 : K.lookup f_law_two8 = some ⟨oc_law_two8, od_law_two8, .func (PySem.W.fnOf "_law_two" "_law_two" (defArgs s_law_two8) (defBody s_law_two8) (defScope s_law_two8) .none kV_law_two8 dc_law_two8 pm_law_two8 an_law_two8 cd_law_two8 ct_law_two8), sl_law_two8⟩) (e_law_two8 : PySem.W.codeIn K cd_law_two8 "_law_two" = true) (k_law_two8 : PySem.W.keepIn K (.ref f_law_two8) = true)
    (a_looked : PySem.W.nsIn K mainGlobals "looked" = some (some (.ref f_looked))) (l_looked : K.lookup f_looked = some ⟨oc_looked, od_looked, .func (PySem.W.fnOf "looked" "looked" (defArgs s_looked) (defBody s_looked) (defScope s_looked) .none kV_looked dc_looked pm_looked an_looked cd_looked ct_looked), sl_looked⟩) (e_looked : PySem.W.codeIn K cd_looked "looked" = true) (k_looked : PySem.W.keepIn K (.ref f_looked) = true)
    (a_law_called : PySem.W.nsIn K mainGlobals "_law_called" = some (some (.ref f_law_called))) (l_law_called : K.lookup f_law_called = some ⟨oc_law_called, od_law_called, .func (PySem.W.fnOf "_law_called" "_law_called" (defArgs s_law_called) (defBody s_law_called) (defScope s_law_called) .none kV_law_called dc_law_called pm_law_called an_law_called cd_law_called ct_law_called), sl_law_called⟩) (e_law_called : PySem.W.codeIn K cd_law_called "_law_called" = true) (k_law_called : PySem.W.keepIn K (.ref f_law_called) = true)
    (a_law_kinds : PySem.W.nsIn K mainGlobals "_law_kinds" = some (some (.ref f_law_kinds))) (l_law_kinds : K.lookup f_law_kinds = some ⟨oc_law_kinds, od_law_kinds, .func (PySem.W.fnOf "_law_kinds" "_law_kinds" (defArgs s_law_kinds) (defBody s_law_kinds) (defScope s_law_kinds) .none kV_law_kinds dc_law_kinds pm_law_kinds an_law_kinds cd_law_kinds ct_law_kinds), sl_law_kinds⟩) (e_law_kinds : PySem.W.codeIn K cd_law_kinds "_law_kinds" = true) (k_law_kinds : PySem.W.keepIn K (.ref f_law_kinds) = true)
    (a_law_refused : PySem.W.nsIn K mainGlobals "_law_refused" = some (some (.ref f_law_refused))) (l_law_refused : K.lookup f_law_refused = some ⟨oc_law_refused, od_law_refused, .func (PySem.W.fnOf "_law_refused" "_law_refused" (defArgs s_law_refused) (defBody s_law_refused) (defScope s_law_refused) .none kV_law_refused dc_law_refused pm_law_refused an_law_refused cd_law_refused ct_law_refused), sl_law_refused⟩) (e_law_refused : PySem.W.codeIn K cd_law_refused "_law_refused" = true) (k_law_refused : PySem.W.keepIn K (.ref f_law_refused) = true)
    (a_law_full : PySem.W.nsIn K mainGlobals "_law_full" = some (some (.ref f_law_full))) (l_law_full : K.lookup f_law_full = some ⟨oc_law_full, od_law_full, .func (PySem.W.fnOf "_law_full" "_law_full" (defArgs s_law_full) (defBody s_law_full) (defScope s_law_full) .none kV_law_full dc_law_full pm_law_full an_law_full cd_law_full ct_law_full), sl_law_full⟩) (e_law_full : PySem.W.codeIn K cd_law_full "_law_full" = true) (k_law_full : PySem.W.keepIn K (.ref f_law_full) = true)
    (a_law_sign : PySem.W.nsIn K mainGlobals "_law_sign" = some (some (.ref f_law_sign))) (l_law_sign : K.lookup f_law_sign = some ⟨oc_law_sign, od_law_sign, .func (PySem.W.fnOf "_law_sign" "_law_sign" (defArgs s_law_sign) (defBody s_law_sign) (defScope s_law_sign) .none kV_law_sign dc_law_sign pm_law_sign an_law_sign cd_law_sign ct_law_sign), sl_law_sign⟩) (e_law_sign : PySem.W.codeIn K cd_law_sign "_law_sign" = true) (k_law_sign : PySem.W.keepIn K (.ref f_law_sign) = true)
    (a_law_thing : PySem.W.nsIn K mainGlobals "_law_thing" = some (some (.ref f_law_thing))) (l_law_thing : K.lookup f_law_thing = some ⟨oc_law_thing, od_law_thing, .func (PySem.W.fnOf "_law_thing" "_law_thing" (defArgs s_law_thing) (defBody s_law_thing) (defScope s_law_thing) .none kV_law_thing dc_law_thing pm_law_thing an_law_thing cd_law_thing ct_law_thing), sl_law_thing⟩) (e_law_thing : PySem.W.codeIn K cd_law_thing "_law_thing" = true) (k_law_thing : PySem.W.keepIn K (.ref f_law_thing) = true)
    (a_law_tree : PySem.W.nsIn K mainGlobals "_law_tree" = some (some (.ref f_law_tree))) (l_law_tree : K.lookup f_law_tree = some ⟨oc_law_tree, od_law_tree, .func (PySem.W.fnOf "_law_tree" "_law_tree" (defArgs s_law_tree) (defBody s_law_tree) (defScope s_law_tree) .none kV_law_tree dc_law_tree pm_law_tree an_law_tree cd_law_tree ct_law_tree), sl_law_tree⟩) (e_law_tree : PySem.W.codeIn K cd_law_tree "_law_tree" = true) (k_law_tree : PySem.W.keepIn K (.ref f_law_tree) = true)
    (a_law_letter : PySem.W.nsIn K mainGlobals "_law_letter" = some (some (.ref f_law_letter))) (l_law_letter : K.lookup f_law_letter = some ⟨oc_law_letter, od_law_letter, .func (PySem.W.fnOf "_law_letter" "_law_letter" (defArgs s_law_letter) (defBody s_law_letter) (defScope s_law_letter) .none kV_law_letter dc_law_letter pm_law_letter an_law_letter cd_law_letter ct_law_letter), sl_law_letter⟩) (e_law_letter : PySem.W.codeIn K cd_law_letter "_law_letter" = true) (k_law_letter : PySem.W.keepIn K (.ref f_law_letter) = true)
    (a_law_bent : PySem.W.nsIn K mainGlobals "_law_bent" = some (some (.ref f_law_bent))) (l_law_bent : K.lookup f_law_bent = some ⟨oc_law_bent, od_law_bent, .func (PySem.W.fnOf "_law_bent" "_law_bent" (defArgs s_law_bent) (defBody s_law_bent) (defScope s_law_bent) .none kV_law_bent dc_law_bent pm_law_bent an_law_bent cd_law_bent ct_law_bent), sl_law_bent⟩) (e_law_bent : PySem.W.codeIn K cd_law_bent "_law_bent" = true) (k_law_bent : PySem.W.keepIn K (.ref f_law_bent) = true)
    (a_law_word : PySem.W.nsIn K mainGlobals "_law_word" = some (some (.ref f_law_word))) (l_law_word : K.lookup f_law_word = some ⟨oc_law_word, od_law_word, .func (PySem.W.fnOf "_law_word" "_law_word" (defArgs s_law_word) (defBody s_law_word) (defScope s_law_word) .none kV_law_word dc_law_word pm_law_word an_law_word cd_law_word ct_law_word), sl_law_word⟩) (e_law_word : PySem.W.codeIn K cd_law_word "_law_word" = true) (k_law_word : PySem.W.keepIn K (.ref f_law_word) = true)
    (a_law_words : PySem.W.nsIn K mainGlobals "_law_words" = some (some (.ref f_law_words))) (l_law_words : K.lookup f_law_words = some ⟨oc_law_words, od_law_words, .func (PySem.W.fnOf "_law_words" "_law_words" (defArgs s_law_words) (defBody s_law_words) (defScope s_law_words) .none kV_law_words dc_law_words pm_law_words an_law_words cd_law_words ct_law_words), sl_law_words⟩) (e_law_words : PySem.W.codeIn K cd_law_words "_law_words" = true) (k_law_words : PySem.W.keepIn K (.ref f_law_words) = true)
    (a_law8 : PySem.W.nsIn K mainGlobals "law" = some (some (.ref f_law8))) (l_law8 : K.lookup f_law8 = some ⟨oc_law8, od_law8, .func (PySem.W.fnOf "law" "law" (defArgs s_law8) (defBody s_law8) (defScope s_law8) .none kV_law8 dc_law8 pm_law8 an_law8 cd_law8 ct_law8), sl_law8⟩) (e_law8 : PySem.W.codeIn K cd_law8 "law" = true) (k_law8 : PySem.W.keepIn K (.ref f_law8) = true)
    (z_ValueError : PySem.W.nsIn K mainGlobals "ValueError" = some none)
    (z_bool : PySem.W.nsIn K mainGlobals "bool" = some none)
    (z_int : PySem.W.nsIn K mainGlobals "int" = some none)
    (z_isinstance : PySem.W.nsIn K mainGlobals "isinstance" = some none)
    (z_len : PySem.W.nsIn K mainGlobals "len" = some none)
    (z_list : PySem.W.nsIn K mainGlobals "list" = some none)
    (z_min : PySem.W.nsIn K mainGlobals "min" = some none)
    (z_range : PySem.W.nsIn K mainGlobals "range" = some none)
    (z_sorted : PySem.W.nsIn K mainGlobals "sorted" = some none)
    (z_str : PySem.W.nsIn K mainGlobals "str" = some none)
    (v_LETTERS : PySem.W.nsIn K mainGlobals "LETTERS" = some (some (.str "abcdefghijklmnopqrstuvwxyz" t_LETTERS)))
    (v_MOST_LETTERS : PySem.W.nsIn K mainGlobals "MOST_LETTERS" = some (some (.int 24 t_MOST_LETTERS)))
    (v_MOST_WORDS : PySem.W.nsIn K mainGlobals "MOST_WORDS" = some (some (.int 400 t_MOST_WORDS)))
    (y_BadChange : PySem.W.nsIn K mainGlobals "BadChange" = some (some (.ref C_BadChange)))
    (y_BadMost : PySem.W.nsIn K mainGlobals "BadMost" = some (some (.ref C_BadMost)))
    (y_BadWord : PySem.W.nsIn K mainGlobals "BadWord" = some (some (.ref C_BadWord)))
    (y_Full : PySem.W.nsIn K mainGlobals "Full" = some (some (.ref C_Full)))
    (y_NearError : PySem.W.nsIn K mainGlobals "NearError" = some (some (.ref C_NearError)))
    (y_Node : PySem.W.nsIn K mainGlobals "Node" = some (some (.ref C_Node)))
    (y_Tree : PySem.W.nsIn K mainGlobals "Tree" = some (some (.ref C_Tree)))
    (pg_Tree : PySem.W.plainGet K C_Tree Str.empty = true) (hd_Tree : PySem.W.hasDictIn K C_Tree = true) (po_Tree : PySem.W.plainOver K C_Tree = true) (sa_Tree : PySem.W.findIn K (.ref C_Tree) "__setattr__" = some (some (.builtin "object.__setattr__"))) (mi_Tree : PySem.W.makesIn K C_Tree = true) (kc_Tree : PySem.W.keepIn K (.ref C_Tree) = true)
    (na_root : PySem.W.findIn K (.ref C_Tree) "root" = some none)
    (na_count : PySem.W.findIn K (.ref C_Tree) "count" = some none)
    (pg_Node : PySem.W.plainGet K C_Node Str.empty = true) (hd_Node : PySem.W.hasDictIn K C_Node = true) (po_Node : PySem.W.plainOver K C_Node = true) (sa_Node : PySem.W.findIn K (.ref C_Node) "__setattr__" = some (some (.builtin "object.__setattr__"))) (mi_Node : PySem.W.makesIn K C_Node = true) (kc_Node : PySem.W.keepIn K (.ref C_Node) = true)
    (na_below : PySem.W.findIn K (.ref C_Node) "below" = some none)
    (na_is_end : PySem.W.findIn K (.ref C_Node) "is_end" = some none)
    (x_BadMost : PySem.W.excIn K C_BadMost [.type "ValueError", .type "Exception", .type "BaseException", .type "object"] "ValueError.__new__" = true) (k_BadMost : PySem.W.keepIn K (.ref C_BadMost) = true) (b_BadMost : PySem.W.subIn K (.ref C_BadMost) (.type "BaseException") = some true) (t_BadMost : PySem.W.typeIn K (.ref C_BadMost) = some (.type "type"))
    (x_BadWord : PySem.W.excIn K C_BadWord [.type "ValueError", .type "Exception", .type "BaseException", .type "object"] "ValueError.__new__" = true) (k_BadWord : PySem.W.keepIn K (.ref C_BadWord) = true) (b_BadWord : PySem.W.subIn K (.ref C_BadWord) (.type "BaseException") = some true) (t_BadWord : PySem.W.typeIn K (.ref C_BadWord) = some (.type "type"))
    (x_Full : PySem.W.excIn K C_Full [.type "ValueError", .type "Exception", .type "BaseException", .type "object"] "ValueError.__new__" = true) (k_Full : PySem.W.keepIn K (.ref C_Full) = true) (b_Full : PySem.W.subIn K (.ref C_Full) (.type "BaseException") = some true) (t_Full : PySem.W.typeIn K (.ref C_Full) = some (.type "type"))
    (f_NearError : PySem.W.subIn K (.ref C_NearError) (.type "BaseException") = some true) (h_NearError : PySem.W.isClsIn K C_NearError = true) (i_NearError : PySem.W.typeIn K (.ref C_NearError) = some (.type "type"))
    (j_BadWord_NearError : PySem.W.subIn K (.ref C_BadWord) (.ref C_NearError) = some true)
    (j_BadMost_NearError : PySem.W.subIn K (.ref C_BadMost) (.ref C_NearError) = some true)
    (j_Full_NearError : PySem.W.subIn K (.ref C_Full) (.ref C_NearError) = some true)
    (ga_BadWord : PySem.W.findIn K (.ref C_BadWord) "__getattribute__" = some (some (.builtin "BaseException.__getattribute__")))
    (gb_BadWord : PySem.W.findIn K (.ref C_BadWord) "__getattr__" = some none)
    (f_BadWord : PySem.W.subIn K (.ref C_BadWord) (.type "BaseException") = some true)
    (gd_BadWord : PySem.W.hasDictIn K C_BadWord = true)
    (ge_BadWord : PySem.W.findIn K (.ref C_BadWord) "__class__" = some (some (.builtin "object.__class__")))
    (gf : PySem.W.specialIn K (.builtin "object.__class__") "__get__" = some (some (.builtin "getset_descriptor.__get__")))
    (gg : PySem.W.takesIn K (.builtin "object.__class__") = some true)
    (gm_BadWord : PySem.W.mroIn K C_BadWord (.type "object") = some true)
    (d_BadWord_BadChange : (C_BadWord == C_BadChange) = false)
    (h_BadChange : PySem.W.isClsIn K C_BadChange = true)
    (i_BadChange : PySem.W.typeIn K (.ref C_BadChange) = some (.type "type"))
    (j_BadWord_BadChange : PySem.W.subIn K (.ref C_BadWord) (.ref C_BadChange) = some false)
    (d_BadWord_BadMost : (C_BadWord == C_BadMost) = false)
    (h_BadMost : PySem.W.isClsIn K C_BadMost = true)
    (i_BadMost : PySem.W.typeIn K (.ref C_BadMost) = some (.type "type"))
    (j_BadWord_BadMost : PySem.W.subIn K (.ref C_BadWord) (.ref C_BadMost) = some false)
    (d_BadWord_Full : (C_BadWord == C_Full) = false)
    (h_Full : PySem.W.isClsIn K C_Full = true)
    (i_Full : PySem.W.typeIn K (.ref C_Full) = some (.type "type"))
    (j_BadWord_Full : PySem.W.subIn K (.ref C_BadWord) (.ref C_Full) = some false)
    (gv_BadWord : PySem.W.subIn K (.ref C_BadWord) (.type "ValueError") = some true)
    (ga_BadMost : PySem.W.findIn K (.ref C_BadMost) "__getattribute__" = some (some (.builtin "BaseException.__getattribute__")))
    (gb_BadMost : PySem.W.findIn K (.ref C_BadMost) "__getattr__" = some none)
    (f_BadMost : PySem.W.subIn K (.ref C_BadMost) (.type "BaseException") = some true)
    (gd_BadMost : PySem.W.hasDictIn K C_BadMost = true)
    (ge_BadMost : PySem.W.findIn K (.ref C_BadMost) "__class__" = some (some (.builtin "object.__class__")))
    (gm_BadMost : PySem.W.mroIn K C_BadMost (.type "object") = some true)
    (d_BadMost_BadWord : (C_BadMost == C_BadWord) = false)
    (h_BadWord : PySem.W.isClsIn K C_BadWord = true)
    (i_BadWord : PySem.W.typeIn K (.ref C_BadWord) = some (.type "type"))
    (j_BadMost_BadWord : PySem.W.subIn K (.ref C_BadMost) (.ref C_BadWord) = some false)
    (d_BadMost_BadChange : (C_BadMost == C_BadChange) = false)
    (j_BadMost_BadChange : PySem.W.subIn K (.ref C_BadMost) (.ref C_BadChange) = some false)
    (d_BadMost_Full : (C_BadMost == C_Full) = false)
    (j_BadMost_Full : PySem.W.subIn K (.ref C_BadMost) (.ref C_Full) = some false)
    (gv_BadMost : PySem.W.subIn K (.ref C_BadMost) (.type "ValueError") = some true)
    (ga_Full : PySem.W.findIn K (.ref C_Full) "__getattribute__" = some (some (.builtin "BaseException.__getattribute__")))
    (gb_Full : PySem.W.findIn K (.ref C_Full) "__getattr__" = some none)
    (f_Full : PySem.W.subIn K (.ref C_Full) (.type "BaseException") = some true)
    (gd_Full : PySem.W.hasDictIn K C_Full = true)
    (ge_Full : PySem.W.findIn K (.ref C_Full) "__class__" = some (some (.builtin "object.__class__")))
    (gm_Full : PySem.W.mroIn K C_Full (.type "object") = some true)
    (d_Full_BadWord : (C_Full == C_BadWord) = false)
    (j_Full_BadWord : PySem.W.subIn K (.ref C_Full) (.ref C_BadWord) = some false)
    (d_Full_BadChange : (C_Full == C_BadChange) = false)
    (j_Full_BadChange : PySem.W.subIn K (.ref C_Full) (.ref C_BadChange) = some false)
    (d_Full_BadMost : (C_Full == C_BadMost) = false)
    (j_Full_BadMost : PySem.W.subIn K (.ref C_Full) (.ref C_BadMost) = some false)
    (gv_Full : PySem.W.subIn K (.ref C_Full) (.type "ValueError") = some true)
    : ∃ fd : FuncData, (∀ (s : Shared) (v : Value), BindsTo s fd ⟨[v], []⟩ [("_law_script", v)]) ∧ ∀ base : Heap, K.In base → base.Ns mainGlobals mg → FnOk l.prog w K mg base CX0 9 fa fd ["_law_script"] (sp_law8 K) := by
  have e := hfa.symm.trans (PySem.W.mg_of X G a_law8)
  cases e
  have T : Txt K mg C_BadChange C_BadMost C_BadWord C_Full C_NearError C_Node C_Tree := ⟨PySem.W.mg_none_of X G z_ValueError, PySem.W.mg_none_of X G z_bool, PySem.W.mg_none_of X G z_int, PySem.W.mg_none_of X G z_isinstance, PySem.W.mg_none_of X G z_len, PySem.W.mg_none_of X G z_list, PySem.W.mg_none_of X G z_min, PySem.W.mg_none_of X G z_range, PySem.W.mg_none_of X G z_sorted, PySem.W.mg_none_of X G z_str, ⟨t_LETTERS, (PySem.W.mg_of X G v_LETTERS).trans (congrArg (fun z => some (Value.str z t_LETTERS)) (by decide +kernel))⟩, ⟨t_MOST_LETTERS, PySem.W.mg_of X G v_MOST_LETTERS⟩, ⟨t_MOST_WORDS, PySem.W.mg_of X G v_MOST_WORDS⟩, PySem.W.mg_of X G y_BadChange, PySem.W.mg_of X G y_BadMost, PySem.W.mg_of X G y_BadWord, PySem.W.mg_of X G y_Full, PySem.W.mg_of X G y_NearError, PySem.W.mg_of X G y_Node, PySem.W.mg_of X G y_Tree, x_BadMost, k_BadMost, b_BadMost, t_BadMost, x_BadWord, k_BadWord, b_BadWord, t_BadWord, x_Full, k_Full, b_Full, t_Full, exm_by f_NearError h_NearError i_NearError j_BadWord_NearError, exm_by f_NearError h_NearError i_NearError j_BadMost_NearError, exm_by f_NearError h_NearError i_NearError j_Full_NearError, ⟨⟨pg_Tree, hd_Tree, po_Tree, sa_Tree⟩, ⟨pg_Node, hd_Node, po_Node, sa_Node⟩, na_root, na_count, na_below, na_is_end⟩, ⟨⟨ga_BadWord, gb_BadWord, f_BadWord, gd_BadWord, ge_BadWord, gf, gg, gm_BadWord⟩, kit_val gv_BadWord, kit_same, kit_sub d_BadWord_BadChange h_BadChange i_BadChange j_BadWord_BadChange, kit_sub d_BadWord_BadMost h_BadMost i_BadMost j_BadWord_BadMost, kit_sub d_BadWord_Full h_Full i_Full j_BadWord_Full⟩, ⟨⟨ga_BadMost, gb_BadMost, f_BadMost, gd_BadMost, ge_BadMost, gf, gg, gm_BadMost⟩, kit_val gv_BadMost, kit_sub d_BadMost_BadWord h_BadWord i_BadWord j_BadMost_BadWord, kit_sub d_BadMost_BadChange h_BadChange i_BadChange j_BadMost_BadChange, kit_same, kit_sub d_BadMost_Full h_Full i_Full j_BadMost_Full⟩, ⟨⟨ga_Full, gb_Full, f_Full, gd_Full, ge_Full, gf, gg, gm_Full⟩, kit_val gv_Full, kit_sub d_Full_BadWord h_BadWord i_BadWord j_Full_BadWord, kit_sub d_Full_BadChange h_BadChange i_BadChange j_Full_BadChange, kit_sub d_Full_BadMost h_BadMost i_BadMost j_Full_BadMost, kit_same⟩⟩
  have F_Tree_nodes := fun_mk (st := s_Tree_nodes) l_Tree_nodes e_Tree_nodes k_Tree_nodes
  have b_Tree_nodes := F_Tree_nodes.binds (ps := ["self"]) fun _ _ _ _ _ _ us hl => match us, hl with | [_], _ => rfl
  have F_Tree_found := fun_mk (st := s_Tree_found) l_Tree_found e_Tree_found k_Tree_found
  have b_Tree_found := F_Tree_found.binds (ps := ["self", "text"]) fun _ _ _ _ _ _ us hl => match us, hl with | [_, _], _ => rfl
  have F_is_word := fun_mk (st := s_is_word) l_is_word e_is_word k_is_word
  have b_is_word := F_is_word.binds (ps := ["thing"]) fun _ _ _ _ _ _ us hl => match us, hl with | [_], _ => rfl
  have F_need_word := fun_mk (st := s_need_word) l_need_word e_need_word k_need_word
  have b_need_word := F_need_word.binds (ps := ["thing"]) fun _ _ _ _ _ _ us hl => match us, hl with | [_], _ => rfl
  have F_Tree_begun := fun_mk (st := s_Tree_begun) l_Tree_begun e_Tree_begun k_Tree_begun
  have b_Tree_begun := F_Tree_begun.binds (ps := ["self", "begin"]) fun _ _ _ _ _ _ us hl => match us, hl with | [_, _], _ => rfl
  have F_Tree_words := fun_mk (st := s_Tree_words) l_Tree_words e_Tree_words k_Tree_words
  have b_Tree_words := F_Tree_words.binds (ps := ["self"]) fun _ _ _ _ _ _ us hl => match us, hl with | [_], _ => rfl
  have F_law_at := fun_mk (st := s_law_at) l_law_at e_law_at k_law_at
  have b_law_at := F_law_at.binds (ps := ["_law_script", "_law_k"]) fun _ _ _ _ _ _ us hl => match us, hl with | [_, _], _ => rfl
  have F_Tree_has := fun_mk (st := s_Tree_has) l_Tree_has e_Tree_has k_Tree_has
  have b_Tree_has := F_Tree_has.binds (ps := ["self", "word"]) fun _ _ _ _ _ _ us hl => match us, hl with | [_, _], _ => rfl
  have F_Tree_many := fun_mk (st := s_Tree_many) l_Tree_many e_Tree_many k_Tree_many
  have b_Tree_many := F_Tree_many.binds (ps := ["self"]) fun _ _ _ _ _ _ us hl => match us, hl with | [_], _ => rfl
  have F_Node_init := fun_mk (st := s_Node_init) l_Node_init e_Node_init k_Node_init
  have b_Node_init := F_Node_init.binds (ps := ["self"]) fun _ _ _ _ _ _ us hl => match us, hl with | [_], _ => rfl
  have F_Tree_put := fun_mk (st := s_Tree_put) l_Tree_put e_Tree_put k_Tree_put
  have b_Tree_put := F_Tree_put.binds (ps := ["self", "word"]) fun _ _ _ _ _ _ us hl => match us, hl with | [_, _], _ => rfl
  have F_Tree_take := fun_mk (st := s_Tree_take) l_Tree_take e_Tree_take k_Tree_take
  have b_Tree_take := F_Tree_take.binds (ps := ["self", "word"]) fun _ _ _ _ _ _ us hl => match us, hl with | [_, _], _ => rfl
  have F_Tree_init := fun_mk (st := s_Tree_init) l_Tree_init e_Tree_init k_Tree_init
  have b_Tree_init := F_Tree_init.binds (ps := ["self"]) fun _ _ _ _ _ _ us hl => match us, hl with | [_], _ => rfl
  have F_law_filled := fun_mk (st := s_law_filled) l_law_filled e_law_filled k_law_filled
  have b_law_filled := F_law_filled.binds (ps := ["_law_many"]) fun _ _ _ _ _ _ us hl => match us, hl with | [_], _ => rfl
  have F_first_row := fun_mk (st := s_first_row) l_first_row e_first_row k_first_row
  have b_first_row := F_first_row.binds (ps := ["word"]) fun _ _ _ _ _ _ us hl => match us, hl with | [_], _ => rfl
  have F_next_row := fun_mk (st := s_next_row) l_next_row e_next_row k_next_row
  have b_next_row := F_next_row.binds (ps := ["row", "letter", "word"]) fun _ _ _ _ _ _ us hl => match us, hl with | [_, _, _], _ => rfl
  have F_gone_through := fun_mk (st := s_gone_through) l_gone_through e_gone_through k_gone_through
  have b_gone_through := F_gone_through.binds (ps := ["tree", "word", "most"]) fun _ _ _ _ _ _ us hl => match us, hl with | [_, _, _], _ => rfl
  have F_is_whole := fun_mk (st := s_is_whole) l_is_whole e_is_whole k_is_whole
  have b_is_whole := F_is_whole.binds (ps := ["thing"]) fun _ _ _ _ _ _ us hl => match us, hl with | [_], _ => rfl
  have F_need_most := fun_mk (st := s_need_most) l_need_most e_need_most k_need_most
  have b_need_most := F_need_most.binds (ps := ["thing"]) fun _ _ _ _ _ _ us hl => match us, hl with | [_], _ => rfl
  have F_rows_of := fun_mk (st := s_rows_of) l_rows_of e_rows_of k_rows_of
  have b_rows_of := F_rows_of.binds (ps := ["one", "other"]) fun _ _ _ _ _ _ us hl => match us, hl with | [_, _], _ => rfl
  have F_steps_of := fun_mk (st := s_steps_of) l_steps_of e_steps_of k_steps_of
  have b_steps_of := F_steps_of.binds (ps := ["one", "other"]) fun _ _ _ _ _ _ us hl => match us, hl with | [_, _], _ => rfl
  have F_way := fun_mk (st := s_way) l_way e_way k_way
  have b_way := F_way.binds (ps := ["one", "other"]) fun _ _ _ _ _ _ us hl => match us, hl with | [_, _], _ => rfl
  have F_near := fun_mk (st := s_near) l_near e_near k_near
  have b_near := F_near.binds (ps := ["tree", "word", "most"]) fun _ _ _ _ _ _ us hl => match us, hl with | [_, _, _], _ => rfl
  have F_law_great := fun_mk (st := s_law_great) l_law_great e_law_great k_law_great
  have b_law_great := F_law_great.binds (ps := ["_law_tree_here", "_law_many", "_law_is_wide"]) fun _ _ _ _ _ _ us hl => match us, hl with | [_, _, _], _ => rfl
  have F_law_is_word := fun_mk (st := s_law_is_word) l_law_is_word e_law_is_word k_law_is_word
  have b_law_is_word := F_law_is_word.binds (ps := ["_law_thing_here"]) fun _ _ _ _ _ _ us hl => match us, hl with | [_], _ => rfl
  have F_table := fun_mk (st := s_table) l_table e_table k_table
  have b_table := F_table.binds (ps := ["one", "other"]) fun _ _ _ _ _ _ us hl => match us, hl with | [_, _], _ => rfl
  have F_distance := fun_mk (st := s_distance) l_distance e_distance k_distance
  have b_distance := F_distance.binds (ps := ["one", "other"]) fun _ _ _ _ _ _ us hl => match us, hl with | [_, _], _ => rfl
  have F_law_two8 := fun_mk (st := s_law_two8) l_law_two8 e_law_two8 k_law_two8
  have b_law_two8 := F_law_two8.binds (ps := ["_law_sort", "_law_thing_here", "_law_most"]) fun _ _ _ _ _ _ us hl => match us, hl with | [_, _, _], _ => rfl
  have F_looked := fun_mk (st := s_looked) l_looked e_looked k_looked
  have b_looked := F_looked.binds (ps := ["tree", "word", "most"]) fun _ _ _ _ _ _ us hl => match us, hl with | [_, _, _], _ => rfl
  have F_law_called := fun_mk (st := s_law_called) l_law_called e_law_called k_law_called
  have b_law_called := F_law_called.binds (ps := ["_law_call", "_law_tree_here", "_law_thing_here", "_law_most"]) fun _ _ _ _ _ _ us hl => match us, hl with | [_, _, _, _], _ => rfl
  have F_law_kinds := fun_mk (st := s_law_kinds) l_law_kinds e_law_kinds k_law_kinds
  have b_law_kinds := F_law_kinds.binds (ps := ["_law_error"]) fun _ _ _ _ _ _ us hl => match us, hl with | [_], _ => rfl
  have F_law_refused := fun_mk (st := s_law_refused) l_law_refused e_law_refused k_law_refused
  have b_law_refused := F_law_refused.binds (ps := ["_law_call", "_law_tree_here", "_law_thing_here", "_law_most"]) fun _ _ _ _ _ _ us hl => match us, hl with | [_, _, _, _], _ => rfl
  have F_law_full := fun_mk (st := s_law_full) l_law_full e_law_full k_law_full
  have b_law_full := F_law_full.binds (ps := ["_law_script", "_law_thing_here"]) fun _ _ _ _ _ _ us hl => match us, hl with | [_, _], _ => rfl
  have F_law_sign := fun_mk (st := s_law_sign) l_law_sign e_law_sign k_law_sign
  have b_law_sign := F_law_sign.binds (ps := ["_law_cell"]) fun _ _ _ _ _ _ us hl => match us, hl with | [_], _ => rfl
  have F_law_thing := fun_mk (st := s_law_thing) l_law_thing e_law_thing k_law_thing
  have b_law_thing := F_law_thing.binds (ps := ["_law_cell"]) fun _ _ _ _ _ _ us hl => match us, hl with | [_], _ => rfl
  have F_law_tree := fun_mk (st := s_law_tree) l_law_tree e_law_tree k_law_tree
  have b_law_tree := F_law_tree.binds (ps := ["_law_words_here"]) fun _ _ _ _ _ _ us hl => match us, hl with | [_], _ => rfl
  have F_law_letter := fun_mk (st := s_law_letter) l_law_letter e_law_letter k_law_letter
  have b_law_letter := F_law_letter.binds (ps := ["_law_mode", "_law_number"]) fun _ _ _ _ _ _ us hl => match us, hl with | [_, _], _ => rfl
  have F_law_bent := fun_mk (st := s_law_bent) l_law_bent e_law_bent k_law_bent
  have b_law_bent := F_law_bent.binds (ps := ["_law_mode", "_law_word_here", "_law_cell"]) fun _ _ _ _ _ _ us hl => match us, hl with | [_, _, _], _ => rfl
  have F_law_word := fun_mk (st := s_law_word) l_law_word e_law_word k_law_word
  have b_law_word := F_law_word.binds (ps := ["_law_mode", "_law_cell", "_law_most"]) fun _ _ _ _ _ _ us hl => match us, hl with | [_, _, _], _ => rfl
  have F_law_words := fun_mk (st := s_law_words) l_law_words e_law_words k_law_words
  have b_law_words := F_law_words.binds (ps := ["_law_script"]) fun _ _ _ _ _ _ us hl => match us, hl with | [_], _ => rfl
  have F_law8 := fun_mk (st := s_law8) l_law8 e_law8 k_law8
  have b_law8 := F_law8.binds (ps := ["_law_script"]) fun _ _ _ _ _ _ us hl => match us, hl with | [_], _ => rfl
  refine ⟨PySem.W.fnOf "law" "law" (defArgs s_law8) (defBody s_law8) (defScope s_law8) .none kV_law8 dc_law8 pm_law8 an_law8 cd_law8 ct_law8, fun s v => .of_eq rfl, fun base _ _ => ?_⟩
  have C_Tree_nodes : CalM l.prog w K mg base CX0 1 C_Tree "nodes" ["self"] (sp_Tree_nodes K C_Tree C_Node) := ⟨f_Tree_nodes, _, ok_Tree_nodes F_Tree_nodes T , ⟨a_Tree_nodes, i_Tree_nodes, k_Tree_nodes⟩, b_Tree_nodes⟩
  have C_Tree_found : CalM l.prog w K mg base CX0 1 C_Tree "found" ["self", "text"] (sp_Tree_found K C_Tree C_Node) := ⟨f_Tree_found, _, ok_Tree_found F_Tree_found T , ⟨a_Tree_found, i_Tree_found, k_Tree_found⟩, b_Tree_found⟩
  have C_is_word : Cal l.prog w K mg base CX0 1 "is_word" ["thing"] (sp_is_word K) := ⟨f_is_word, _, ok_is_word F_is_word T , PySem.W.mg_of X G a_is_word, k_is_word, b_is_word⟩
  have C_need_word : Cal l.prog w K mg base (L2.CX l.prog w) 2 "need_word" ["thing"] (sp_need_word K C_BadWord) := ⟨f_need_word, _, ok_need_word F_need_word T C_is_word, PySem.W.mg_of X G a_need_word, k_need_word, b_need_word⟩
  have C_Tree_begun : CalM l.prog w K mg base (L2.CX l.prog w) 3 C_Tree "begun" ["self", "begin"] (sp_Tree_begun K C_Tree C_Node C_BadWord) := ⟨f_Tree_begun, _, ok_Tree_begun F_Tree_begun T C_Tree_found C_need_word, ⟨a_Tree_begun, i_Tree_begun, k_Tree_begun⟩, b_Tree_begun⟩
  have C_Tree_words : CalM l.prog w K mg base (L2.CX l.prog w) 4 C_Tree "words" ["self"] (sp_Tree_words K C_Tree C_Node C_BadWord) := ⟨f_Tree_words, _, ok_Tree_words F_Tree_words T C_Tree_begun, ⟨a_Tree_words, i_Tree_words, k_Tree_words⟩, b_Tree_words⟩
  have C_law_at : Cal l.prog w K mg base CX0 1 "_law_at" ["_law_script", "_law_k"] (sp_law_at K) := ⟨f_law_at, _, ok_law_at F_law_at T , PySem.W.mg_of X G a_law_at, k_law_at, b_law_at⟩
  have C_Tree_has : CalM l.prog w K mg base (L2.CX l.prog w) 3 C_Tree "has" ["self", "word"] (sp_Tree_has K C_Tree C_Node C_BadWord) := ⟨f_Tree_has, _, ok_Tree_has F_Tree_has T C_Tree_found C_need_word, ⟨a_Tree_has, i_Tree_has, k_Tree_has⟩, b_Tree_has⟩
  have C_Tree_many : CalM l.prog w K mg base CX0 1 C_Tree "many" ["self"] (sp_Tree_many K C_Tree C_Node) := ⟨f_Tree_many, _, ok_Tree_many F_Tree_many T , ⟨a_Tree_many, i_Tree_many, k_Tree_many⟩, b_Tree_many⟩
  have C_Node_init : CalI l.prog w K mg base 1 C_Node ["self"] (sp_Node_init K C_Node) := ⟨f_Node_init, _, ok_Node_init F_Node_init T , ⟨mi_Node, a_Node_init, i_Node_init, kc_Node⟩, b_Node_init⟩
  have C_Tree_put : CalM l.prog w K mg base (L2.CX l.prog w) 4 C_Tree "put" ["self", "word"] (sp_Tree_put K C_Tree C_Node C_BadWord C_Full) := ⟨f_Tree_put, _, ok_Tree_put F_Tree_put T C_Node_init C_Tree_has, ⟨a_Tree_put, i_Tree_put, k_Tree_put⟩, b_Tree_put⟩
  have C_Tree_take : CalM l.prog w K mg base (L2.CX l.prog w) 4 C_Tree "take" ["self", "word"] (sp_Tree_take K C_Tree C_Node C_BadWord) := ⟨f_Tree_take, _, ok_Tree_take F_Tree_take T C_Tree_has, ⟨a_Tree_take, i_Tree_take, k_Tree_take⟩, b_Tree_take⟩
  have C_Tree_init : CalI l.prog w K mg base 3 C_Tree ["self"] (sp_Tree_init K C_Tree C_Node) := ⟨f_Tree_init, _, ok_Tree_init F_Tree_init T C_Node_init, ⟨mi_Tree, a_Tree_init, i_Tree_init, kc_Tree⟩, b_Tree_init⟩
  have C_law_filled : Cal l.prog w K mg base CX0 5 "_law_filled" ["_law_many"] (sp_law_filled K C_Tree C_Node) := ⟨f_law_filled, _, ok_law_filled F_law_filled T C_Tree_init C_Tree_put, PySem.W.mg_of X G a_law_filled, k_law_filled, b_law_filled⟩
  have C_first_row : Cal l.prog w K mg base CX0 1 "first_row" ["word"] (sp_first_row K) := ⟨f_first_row, _, ok_first_row F_first_row T , PySem.W.mg_of X G a_first_row, k_first_row, b_first_row⟩
  have C_next_row : Cal l.prog w K mg base CX0 1 "next_row" ["row", "letter", "word"] (sp_next_row K) := ⟨f_next_row, _, ok_next_row F_next_row T , PySem.W.mg_of X G a_next_row, k_next_row, b_next_row⟩
  have C_gone_through : Cal l.prog w K mg base CX0 2 "gone_through" ["tree", "word", "most"] (sp_gone_through K C_Tree C_Node) := ⟨f_gone_through, _, ok_gone_through F_gone_through T C_first_row C_next_row, PySem.W.mg_of X G a_gone_through, k_gone_through, b_gone_through⟩
  have C_is_whole : Cal l.prog w K mg base CX0 1 "is_whole" ["thing"] (sp_is_whole K) := ⟨f_is_whole, _, ok_is_whole F_is_whole T , PySem.W.mg_of X G a_is_whole, k_is_whole, b_is_whole⟩
  have C_need_most : Cal l.prog w K mg base (L2.CX l.prog w) 2 "need_most" ["thing"] (sp_need_most K C_BadMost) := ⟨f_need_most, _, ok_need_most F_need_most T C_is_whole, PySem.W.mg_of X G a_need_most, k_need_most, b_need_most⟩
  have C_rows_of : Cal l.prog w K mg base CX0 2 "rows_of" ["one", "other"] (sp_rows_of K) := ⟨f_rows_of, _, ok_rows_of F_rows_of T C_first_row C_next_row, PySem.W.mg_of X G a_rows_of, k_rows_of, b_rows_of⟩
  have C_steps_of : Cal l.prog w K mg base CX0 3 "steps_of" ["one", "other"] (sp_steps_of K) := ⟨f_steps_of, _, ok_steps_of F_steps_of T C_rows_of, PySem.W.mg_of X G a_steps_of, k_steps_of, b_steps_of⟩
  have C_way : Cal l.prog w K mg base (L2.CX l.prog w) 4 "way" ["one", "other"] (sp_way K C_BadWord) := ⟨f_way, _, ok_way F_way T C_need_word C_steps_of, PySem.W.mg_of X G a_way, k_way, b_way⟩
  have C_near : Cal l.prog w K mg base (L2.CX l.prog w) 5 "near" ["tree", "word", "most"] (sp_near K C_Tree C_Node C_BadWord C_BadMost) := ⟨f_near, _, ok_near F_near T C_gone_through C_need_most C_need_word C_way, PySem.W.mg_of X G a_near, k_near, b_near⟩
  have C_law_great : Cal l.prog w K mg base CX0 6 "_law_great" ["_law_tree_here", "_law_many", "_law_is_wide"] (sp_law_great K C_Tree C_Node) := ⟨f_law_great, _, ok_law_great F_law_great T C_Tree_words C_near, PySem.W.mg_of X G a_law_great, k_law_great, b_law_great⟩
  have C_law_is_word : Cal l.prog w K mg base CX0 1 "_law_is_word" ["_law_thing_here"] (sp_law_is_word K) := ⟨f_law_is_word, _, ok_law_is_word F_law_is_word T , PySem.W.mg_of X G a_law_is_word, k_law_is_word, b_law_is_word⟩
  have C_table : Cal l.prog w K mg base (L2.CX l.prog w) 3 "table" ["one", "other"] (sp_table K C_BadWord) := ⟨f_table, _, ok_table F_table T C_need_word C_rows_of, PySem.W.mg_of X G a_table, k_table, b_table⟩
  have C_distance : Cal l.prog w K mg base (L2.CX l.prog w) 4 "distance" ["one", "other"] (sp_distance K C_BadWord) := ⟨f_distance, _, ok_distance F_distance T C_table, PySem.W.mg_of X G a_distance, k_distance, b_distance⟩
  have C_law_two8 : Cal l.prog w K mg base (L2.CX l.prog w) 5 "_law_two" ["_law_sort", "_law_thing_here", "_law_most"] (sp_law_two8 K C_BadWord) := ⟨f_law_two8, _, ok_law_two8 F_law_two8 T C_distance C_table C_way, PySem.W.mg_of X G a_law_two8, k_law_two8, b_law_two8⟩
  have C_looked : Cal l.prog w K mg base (L2.CX l.prog w) 3 "looked" ["tree", "word", "most"] (sp_looked K C_Tree C_Node C_BadWord C_BadMost) := ⟨f_looked, _, ok_looked F_looked T C_gone_through C_need_most C_need_word, PySem.W.mg_of X G a_looked, k_looked, b_looked⟩
  have C_law_called : Cal l.prog w K mg base (L2.CX l.prog w) 6 "_law_called" ["_law_call", "_law_tree_here", "_law_thing_here", "_law_most"] (sp_law_called K C_Tree C_Node C_BadWord C_BadMost C_Full) := ⟨f_law_called, _, ok_law_called F_law_called T C_Tree_begun C_Tree_has C_Tree_put C_Tree_take C_law_two8 C_looked C_near, PySem.W.mg_of X G a_law_called, k_law_called, b_law_called⟩
  have C_law_kinds : CalE l.prog w K mg base 1 "_law_kinds" ["_law_error"] (sp_law_kinds K C_BadWord C_BadChange C_BadMost C_Full) := ⟨f_law_kinds, _, ok_law_kinds F_law_kinds T, PySem.W.mg_of X G a_law_kinds, k_law_kinds, b_law_kinds⟩
  have C_law_refused : Cal l.prog w K mg base CX0 7 "_law_refused" ["_law_call", "_law_tree_here", "_law_thing_here", "_law_most"] (sp_law_refused K C_Tree C_Node) := ⟨f_law_refused, _, ok_law_refused F_law_refused T C_law_called C_law_kinds, PySem.W.mg_of X G a_law_refused, k_law_refused, b_law_refused⟩
  have C_law_full : Cal l.prog w K mg base CX0 8 "_law_full" ["_law_script", "_law_thing_here"] (sp_law_full K) := ⟨f_law_full, _, ok_law_full F_law_full T C_Tree_has C_Tree_many C_Tree_nodes C_Tree_put C_Tree_take C_law_at C_law_filled C_law_great C_law_is_word C_law_refused, PySem.W.mg_of X G a_law_full, k_law_full, b_law_full⟩
  have C_law_sign : Cal l.prog w K mg base CX0 1 "_law_sign" ["_law_cell"] (sp_law_sign K) := ⟨f_law_sign, _, ok_law_sign F_law_sign T , PySem.W.mg_of X G a_law_sign, k_law_sign, b_law_sign⟩
  have C_law_thing : Cal l.prog w K mg base CX0 2 "_law_thing" ["_law_cell"] (sp_law_thing K) := ⟨f_law_thing, _, ok_law_thing F_law_thing T C_law_sign, PySem.W.mg_of X G a_law_thing, k_law_thing, b_law_thing⟩
  have C_law_tree : Cal l.prog w K mg base CX0 5 "_law_tree" ["_law_words_here"] (sp_law_tree K C_Tree C_Node) := ⟨f_law_tree, _, ok_law_tree F_law_tree T C_Tree_init C_Tree_put, PySem.W.mg_of X G a_law_tree, k_law_tree, b_law_tree⟩
  have C_law_letter : Cal l.prog w K mg base CX0 1 "_law_letter" ["_law_mode", "_law_number"] (sp_law_letter K) := ⟨f_law_letter, _, ok_law_letter F_law_letter T , PySem.W.mg_of X G a_law_letter, k_law_letter, b_law_letter⟩
  have C_law_bent : Cal l.prog w K mg base CX0 2 "_law_bent" ["_law_mode", "_law_word_here", "_law_cell"] (sp_law_bent K) := ⟨f_law_bent, _, ok_law_bent F_law_bent T C_law_letter, PySem.W.mg_of X G a_law_bent, k_law_bent, b_law_bent⟩
  have C_law_word : Cal l.prog w K mg base CX0 2 "_law_word" ["_law_mode", "_law_cell", "_law_most"] (sp_law_word K) := ⟨f_law_word, _, ok_law_word F_law_word T C_law_letter, PySem.W.mg_of X G a_law_word, k_law_word, b_law_word⟩
  have C_law_words : Cal l.prog w K mg base CX0 3 "_law_words" ["_law_script"] (sp_law_words K) := ⟨f_law_words, _, ok_law_words F_law_words T C_law_at C_law_bent C_law_word, PySem.W.mg_of X G a_law_words, k_law_words, b_law_words⟩
  exact ok_law8 F_law8 T C_Tree_nodes C_Tree_words C_law_at C_law_full C_law_is_word C_law_refused C_law_thing C_law_tree C_law_words
end Row8
open PySem PySem.W PyProof.Rows
set_option maxHeartbeats 0 in
theorem PySem.Challenge.cw_nearword_k08_what_is_refused_holds : PySem.Challenge.rw_nearword_k08_what_is_refused.Holds := by
  w_on; o_law; k_head; (case hw => w_witness2)
  k_fill
  refine L2.walk_of (l := PySem.Challenge.rw_nearword_k08_what_is_refused) (n := 63) (k := 9) (x := "_law_script") (CX := fun _ => L2.CX0) (sp := fun w => Nw.sp_law8 _) rfl (by decide) rfl ⟨rfl, by decide, by decide⟩ (fun w h Y => PySem.W.kIn_of Y) ?F (fun _ _ a ns hl _ hS => ⟨a, ns, rfl, hS, hl, fun _ => rfl⟩) (fun _ _ _ _ _ h => h)
  case F =>
    intro w mg fa h KX G hmg
    refine' Row8.all_mk KX G hmg ?a_Tree_nodes ?i_Tree_nodes ?l_Tree_nodes ?e_Tree_nodes ?k_Tree_nodes ?a_Tree_found ?i_Tree_found ?l_Tree_found ?e_Tree_found ?k_Tree_found ?a_is_word ?l_is_word ?e_is_word ?k_is_word ?a_need_word ?l_need_word ?e_need_word ?k_need_word ?a_Tree_begun ?i_Tree_begun ?l_Tree_begun ?e_Tree_begun ?k_Tree_begun ?a_Tree_words ?i_Tree_words ?l_Tree_words ?e_Tree_words ?k_Tree_words ?a_law_at ?l_law_at ?e_law_at ?k_law_at ?a_Tree_has ?i_Tree_has ?l_Tree_has ?e_Tree_has ?k_Tree_has ?a_Tree_many ?i_Tree_many ?l_Tree_many ?e_Tree_many ?k_Tree_many ?a_Node_init ?i_Node_init ?l_Node_init ?e_Node_init ?k_Node_init ?a_Tree_put ?i_Tree_put ?l_Tree_put ?e_Tree_put ?k_Tree_put ?a_Tree_take ?i_Tree_take ?l_Tree_take ?e_Tree_take ?k_Tree_take ?a_Tree_init ?i_Tree_init ?l_Tree_init ?e_Tree_init ?k_Tree_init ?a_law_filled ?l_law_filled ?e_law_filled ?k_law_filled ?a_first_row ?l_first_row ?e_first_row ?k_first_row ?a_next_row ?l_next_row ?e_next_row ?k_next_row ?a_gone_through ?l_gone_through ?e_gone_through ?k_gone_through ?a_is_whole ?l_is_whole ?e_is_whole ?k_is_whole ?a_need_most ?l_need_most ?e_need_most ?k_need_most ?a_rows_of ?l_rows_of ?e_rows_of ?k_rows_of ?a_steps_of ?l_steps_of ?e_steps_of ?k_steps_of ?a_way ?l_way ?e_way ?k_way ?a_near ?l_near ?e_near ?k_near ?a_law_great ?l_law_great ?e_law_great ?k_law_great ?a_law_is_word ?l_law_is_word ?e_law_is_word ?k_law_is_word ?a_table ?l_table ?e_table ?k_table ?a_distance ?l_distance ?e_distance ?k_distance ?a_law_two8 ?l_law_two8 ?e_law_two8 ?k_law_two8 ?a_looked ?l_looked ?e_looked ?k_looked ?a_law_called ?l_law_called ?e_law_called ?k_law_called ?a_law_kinds ?l_law_kinds ?e_law_kinds ?k_law_kinds ?a_law_refused ?l_law_refused ?e_law_refused ?k_law_refused ?a_law_full ?l_law_full ?e_law_full ?k_law_full ?a_law_sign ?l_law_sign ?e_law_sign ?k_law_sign ?a_law_thing ?l_law_thing ?e_law_thing ?k_law_thing ?a_law_tree ?l_law_tree ?e_law_tree ?k_law_tree ?a_law_letter ?l_law_letter ?e_law_letter ?k_law_letter ?a_law_bent ?l_law_bent ?e_law_bent ?k_law_bent ?a_law_word ?l_law_word ?e_law_word ?k_law_word ?a_law_words ?l_law_words ?e_law_words ?k_law_words ?a_law8 ?l_law8 ?e_law8 ?k_law8 ?z_ValueError ?z_bool ?z_int ?z_isinstance ?z_len ?z_list ?z_min ?z_range ?z_sorted ?z_str ?v_LETTERS ?v_MOST_LETTERS ?v_MOST_WORDS ?y_BadChange ?y_BadMost ?y_BadWord ?y_Full ?y_NearError ?y_Node ?y_Tree ?pg_Tree ?hd_Tree ?po_Tree ?sa_Tree ?mi_Tree ?kc_Tree ?na_root ?na_count ?pg_Node ?hd_Node ?po_Node ?sa_Node ?mi_Node ?kc_Node ?na_below ?na_is_end ?x_BadMost ?k_BadMost ?b_BadMost ?t_BadMost ?x_BadWord ?k_BadWord ?b_BadWord ?t_BadWord ?x_Full ?k_Full ?b_Full ?t_Full ?f_NearError ?h_NearError ?i_NearError ?j_BadWord_NearError ?j_BadMost_NearError ?j_Full_NearError ?ga_BadWord ?gb_BadWord ?f_BadWord ?gd_BadWord ?ge_BadWord ?gf ?gg ?gm_BadWord ?d_BadWord_BadChange ?h_BadChange ?i_BadChange ?j_BadWord_BadChange ?d_BadWord_BadMost ?h_BadMost ?i_BadMost ?j_BadWord_BadMost ?d_BadWord_Full ?h_Full ?i_Full ?j_BadWord_Full ?gv_BadWord ?ga_BadMost ?gb_BadMost ?f_BadMost ?gd_BadMost ?ge_BadMost ?gm_BadMost ?d_BadMost_BadWord ?h_BadWord ?i_BadWord ?j_BadMost_BadWord ?d_BadMost_BadChange ?j_BadMost_BadChange ?d_BadMost_Full ?j_BadMost_Full ?gv_BadMost ?ga_Full ?gb_Full ?f_Full ?gd_Full ?ge_Full ?gm_Full ?d_Full_BadWord ?j_Full_BadWord ?d_Full_BadChange ?j_Full_BadChange ?d_Full_BadMost ?j_Full_BadMost ?gv_Full
    (case y_BadChange => k_is)
    (case y_BadMost => k_is)
    (case y_BadWord => k_is)
    (case y_Full => k_is)
    (case y_NearError => k_is)
    (case y_Node => k_is)
    (case y_Tree => k_is)
    (case a_Tree_nodes => k_is)
    (case i_Tree_nodes => k_is)
    (case l_Tree_nodes => k_is)
    (case e_Tree_nodes => k_is)
    (case k_Tree_nodes => k_is)
    (case a_Tree_found => k_is)
    (case i_Tree_found => k_is)
    (case l_Tree_found => k_is)
    (case e_Tree_found => k_is)
    (case k_Tree_found => k_is)
    (case a_is_word => k_is)
    (case l_is_word => k_is)
    (case e_is_word => k_is)
    (case k_is_word => k_is)
    (case a_need_word => k_is)
    (case l_need_word => k_is)
    (case e_need_word => k_is)
    (case k_need_word => k_is)
    (case a_Tree_begun => k_is)
    (case i_Tree_begun => k_is)
    (case l_Tree_begun => k_is)
    (case e_Tree_begun => k_is)
    (case k_Tree_begun => k_is)
    (case a_Tree_words => k_is)
    (case i_Tree_words => k_is)
    (case l_Tree_words => k_is)
    (case e_Tree_words => k_is)
    (case k_Tree_words => k_is)
    (case a_law_at => k_is)
    (case l_law_at => k_is)
    (case e_law_at => k_is)
    (case k_law_at => k_is)
    (case a_Tree_has => k_is)
    (case i_Tree_has => k_is)
    (case l_Tree_has => k_is)
    (case e_Tree_has => k_is)
    (case k_Tree_has => k_is)
    (case a_Tree_many => k_is)
    (case i_Tree_many => k_is)
    (case l_Tree_many => k_is)
    (case e_Tree_many => k_is)
    (case k_Tree_many => k_is)
    (case a_Node_init => k_is)
    (case i_Node_init => k_is)
    (case l_Node_init => k_is)
    (case e_Node_init => k_is)
    (case k_Node_init => k_is)
    (case a_Tree_put => k_is)
    (case i_Tree_put => k_is)
    (case l_Tree_put => k_is)
    (case e_Tree_put => k_is)
    (case k_Tree_put => k_is)
    (case a_Tree_take => k_is)
    (case i_Tree_take => k_is)
    (case l_Tree_take => k_is)
    (case e_Tree_take => k_is)
    (case k_Tree_take => k_is)
    (case a_Tree_init => k_is)
    (case i_Tree_init => k_is)
    (case l_Tree_init => k_is)
    (case e_Tree_init => k_is)
    (case k_Tree_init => k_is)
    (case a_law_filled => k_is)
    (case l_law_filled => k_is)
    (case e_law_filled => k_is)
    (case k_law_filled => k_is)
    (case a_first_row => k_is)
    (case l_first_row => k_is)
    (case e_first_row => k_is)
    (case k_first_row => k_is)
    (case a_next_row => k_is)
    (case l_next_row => k_is)
    (case e_next_row => k_is)
    (case k_next_row => k_is)
    (case a_gone_through => k_is)
    (case l_gone_through => k_is)
    (case e_gone_through => k_is)
    (case k_gone_through => k_is)
    (case a_is_whole => k_is)
    (case l_is_whole => k_is)
    (case e_is_whole => k_is)
    (case k_is_whole => k_is)
    (case a_need_most => k_is)
    (case l_need_most => k_is)
    (case e_need_most => k_is)
    (case k_need_most => k_is)
    (case a_rows_of => k_is)
    (case l_rows_of => k_is)
    (case e_rows_of => k_is)
    (case k_rows_of => k_is)
    (case a_steps_of => k_is)
    (case l_steps_of => k_is)
    (case e_steps_of => k_is)
    (case k_steps_of => k_is)
    (case a_way => k_is)
    (case l_way => k_is)
    (case e_way => k_is)
    (case k_way => k_is)
    (case a_near => k_is)
    (case l_near => k_is)
    (case e_near => k_is)
    (case k_near => k_is)
    (case a_law_great => k_is)
    (case l_law_great => k_is)
    (case e_law_great => k_is)
    (case k_law_great => k_is)
    (case a_law_is_word => k_is)
    (case l_law_is_word => k_is)
    (case e_law_is_word => k_is)
    (case k_law_is_word => k_is)
    (case a_table => k_is)
    (case l_table => k_is)
    (case e_table => k_is)
    (case k_table => k_is)
    (case a_distance => k_is)
    (case l_distance => k_is)
    (case e_distance => k_is)
    (case k_distance => k_is)
    (case a_law_two8 => k_is)
    (case l_law_two8 => k_is)
    (case e_law_two8 => k_is)
    (case k_law_two8 => k_is)
    (case a_looked => k_is)
    (case l_looked => k_is)
    (case e_looked => k_is)
    (case k_looked => k_is)
    (case a_law_called => k_is)
    (case l_law_called => k_is)
    (case e_law_called => k_is)
    (case k_law_called => k_is)
    (case a_law_kinds => k_is)
    (case l_law_kinds => k_is)
    (case e_law_kinds => k_is)
    (case k_law_kinds => k_is)
    (case a_law_refused => k_is)
    (case l_law_refused => k_is)
    (case e_law_refused => k_is)
    (case k_law_refused => k_is)
    (case a_law_full => k_is)
    (case l_law_full => k_is)
    (case e_law_full => k_is)
    (case k_law_full => k_is)
    (case a_law_sign => k_is)
    (case l_law_sign => k_is)
    (case e_law_sign => k_is)
    (case k_law_sign => k_is)
    (case a_law_thing => k_is)
    (case l_law_thing => k_is)
    (case e_law_thing => k_is)
    (case k_law_thing => k_is)
    (case a_law_tree => k_is)
    (case l_law_tree => k_is)
    (case e_law_tree => k_is)
    (case k_law_tree => k_is)
    (case a_law_letter => k_is)
    (case l_law_letter => k_is)
    (case e_law_letter => k_is)
    (case k_law_letter => k_is)
    (case a_law_bent => k_is)
    (case l_law_bent => k_is)
    (case e_law_bent => k_is)
    (case k_law_bent => k_is)
    (case a_law_word => k_is)
    (case l_law_word => k_is)
    (case e_law_word => k_is)
    (case k_law_word => k_is)
    (case a_law_words => k_is)
    (case l_law_words => k_is)
    (case e_law_words => k_is)
    (case k_law_words => k_is)
    (case a_law8 => k_is)
    (case l_law8 => k_is)
    (case e_law8 => k_is)
    (case k_law8 => k_is)
    (case z_ValueError => k_is)
    (case z_bool => k_is)
    (case z_int => k_is)
    (case z_isinstance => k_is)
    (case z_len => k_is)
    (case z_list => k_is)
    (case z_min => k_is)
    (case z_range => k_is)
    (case z_sorted => k_is)
    (case z_str => k_is)
    (case v_LETTERS => k_is)
    (case v_MOST_LETTERS => k_is)
    (case v_MOST_WORDS => k_is)
    (case pg_Tree => k_is)
    (case hd_Tree => k_is)
    (case po_Tree => k_is)
    (case sa_Tree => k_is)
    (case mi_Tree => k_is)
    (case kc_Tree => k_is)
    (case na_root => k_is)
    (case na_count => k_is)
    (case pg_Node => k_is)
    (case hd_Node => k_is)
    (case po_Node => k_is)
    (case sa_Node => k_is)
    (case mi_Node => k_is)
    (case kc_Node => k_is)
    (case na_below => k_is)
    (case na_is_end => k_is)
    (case x_BadMost => first | k_exc | k_is)
    (case k_BadMost => k_is)
    (case b_BadMost => k_is)
    (case t_BadMost => k_is)
    (case x_BadWord => first | k_exc | k_is)
    (case k_BadWord => k_is)
    (case b_BadWord => k_is)
    (case t_BadWord => k_is)
    (case x_Full => first | k_exc | k_is)
    (case k_Full => k_is)
    (case b_Full => k_is)
    (case t_Full => k_is)
    (case f_NearError => k_is)
    (case h_NearError => k_is)
    (case i_NearError => k_is)
    (case j_BadWord_NearError => first | rfl | k_is)
    (case j_BadMost_NearError => first | rfl | k_is)
    (case j_Full_NearError => first | rfl | k_is)
    (case ga_BadWord => k_is)
    (case gb_BadWord => k_is)
    (case f_BadWord => k_is)
    (case gd_BadWord => k_is)
    (case ge_BadWord => k_is)
    (case gf => k_is)
    (case gg => k_is)
    (case gm_BadWord => k_is)
    (case d_BadWord_BadChange => first | rfl | k_is)
    (case h_BadChange => k_is)
    (case i_BadChange => k_is)
    (case j_BadWord_BadChange => first | rfl | k_is)
    (case d_BadWord_BadMost => first | rfl | k_is)
    (case h_BadMost => k_is)
    (case i_BadMost => k_is)
    (case j_BadWord_BadMost => first | rfl | k_is)
    (case d_BadWord_Full => first | rfl | k_is)
    (case h_Full => k_is)
    (case i_Full => k_is)
    (case j_BadWord_Full => first | rfl | k_is)
    (case gv_BadWord => k_is)
    (case ga_BadMost => k_is)
    (case gb_BadMost => k_is)
    (case f_BadMost => k_is)
    (case gd_BadMost => k_is)
    (case ge_BadMost => k_is)
    (case gm_BadMost => k_is)
    (case d_BadMost_BadWord => first | rfl | k_is)
    (case h_BadWord => k_is)
    (case i_BadWord => k_is)
    (case j_BadMost_BadWord => first | rfl | k_is)
    (case d_BadMost_BadChange => first | rfl | k_is)
    (case j_BadMost_BadChange => first | rfl | k_is)
    (case d_BadMost_Full => first | rfl | k_is)
    (case j_BadMost_Full => first | rfl | k_is)
    (case gv_BadMost => k_is)
    (case ga_Full => k_is)
    (case gb_Full => k_is)
    (case f_Full => k_is)
    (case gd_Full => k_is)
    (case ge_Full => k_is)
    (case gm_Full => k_is)
    (case d_Full_BadWord => first | rfl | k_is)
    (case j_Full_BadWord => first | rfl | k_is)
    (case d_Full_BadChange => first | rfl | k_is)
    (case j_Full_BadChange => first | rfl | k_is)
    (case d_Full_BadMost => first | rfl | k_is)
    (case j_Full_BadMost => first | rfl | k_is)
    (case gv_Full => k_is)

