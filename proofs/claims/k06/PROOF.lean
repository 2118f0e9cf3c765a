import PyProof.Rows.All
import Wide.All
import OpenK.AllK
import Wide.FinOn
import HandS.ForMost
import HandS.Evl
import HandS.IsInst
import HandS.WordsExc
import HandS.TryOnly
import HandS.ExcOwn
import HandS.Steps
import HandS.More
import HandS.Conv
import KE.Datum
import HandS.Flt
import HandS.SortKw
import KE.DataMinMax
import KE.KRevSl
import KE.SortData
import PyProof.NeData
import PyProof.NeKinds
import PySem.Challenge.RW_nearword_k06_distances_of_three
set_option Elab.async false
set_option linter.all false
set_option maxRecDepth 100000
set_option Elab.async false
set_option linter.all false
set_option maxRecDepth 100000
/-! Nw.Base: texts as lists of codes, named operations, and what expressions evaluate to. -/
namespace Nw
open PySem L2 Evl

/-! ### texts as lists of codes -/
abbrev tx (w : List Nat) : V := .str ⟨w.toArray⟩
theorem tx_len (w : List Nat) : (⟨w.toArray⟩ : Str).length = w.length := by simp [Str.length]
theorem tx_app (a b : List Nat) : (⟨a.toArray⟩ : Str) ++ ⟨b.toArray⟩ = ⟨(a ++ b).toArray⟩ := TL.ext_tl (by rw [TL.tl_append])
theorem tx_inj {a b : List Nat} : (tx a = tx b) ↔ a = b := by
  constructor
  · intro h
    have h1 : (⟨a.toArray⟩ : Str) = ⟨b.toArray⟩ := V.str.inj h
    have h2 : a.toArray = b.toArray := congrArg Str.cps h1
    exact List.toArray_inj h2
  · intro h; rw [h]
theorem line1 {n : Nat} (h : n ≤ 100000) : n ≤ sizeLine := Evl.sz_of h

/-- the letters a to z -/
def abc : List Nat := (List.range 26).map (· + 97)
def Low (w : List Nat) : Prop := ∀ c ∈ w, 97 ≤ c ∧ c < 123
instance (w : List Nat) : Decidable (Low w) := by unfold Low; infer_instance
theorem mem_abc {c : Nat} : c ∈ abc ↔ 97 ≤ c ∧ c < 123 := by
  unfold abc
  rw [List.mem_map]
  constructor
  · rintro ⟨a, ha, rfl⟩
    rw [List.mem_range] at ha
    omega
  · intro h
    exact ⟨c - 97, List.mem_range.mpr (by omega), by omega⟩
theorem abc_at {i : Nat} (h : i < 26) : abc[i]? = some (i + 97) := by
  unfold abc
  rw [List.getElem?_map, List.getElem?_range h]
  rfl
theorem low_nil : Low [] := fun c h => by cases h
theorem low_app {a b : List Nat} (ha : Low a) (hb : Low b) : Low (a ++ b) := fun c h => (List.mem_append.mp h).elim (ha c) (hb c)
theorem low_take {a : List Nat} (n : Nat) (ha : Low a) : Low (a.take n) := fun c h => ha c (List.mem_of_mem_take h)
theorem low_drop {a : List Nat} (n : Nat) (ha : Low a) : Low (a.drop n) := fun c h => ha c (List.mem_of_mem_drop h)
theorem low_one {c : Nat} (h : 97 ≤ c ∧ c < 123) : Low [c] := fun d hd => by
  rw [List.mem_singleton] at hd
  subst hd
  exact h

/-! ### operations by name -/
def nAdd : R2 := rI0 fun i j => .int (i + j)
def nSub : R2 := rI0 fun i j => .int (i - j)
def nMul : R2 := rI CMul fun i j => .int (i * j)
def nDiv : R2 := rI CDiv fun i j => .int (i / j)
def nMod : R2 := rI (fun _ j => 0 < j) fun i j => .int (i % j)
def nCat : R2 := fun x y H Q => ∃ i j, x = .str i ∧ y = .str j ∧ i.length + j.length ≤ sizeLine ∧ Q (.str (i ++ j)) H
def nLt : R2 := rI0 fun i j => .bl (decide (i < j))
def nLe : R2 := rI0 fun i j => .bl (decide (i ≤ j))
def nGt : R2 := rI0 fun i j => .bl (decide (j < i))
def nGe : R2 := rI0 fun i j => .bl (decide (j ≤ i))
def nEq : R2 := rEq
def nNe : R2 := rNe
def nIsN : R2 := fun x y H Q => y = .non ∧ Q (.bl (decide (x = .non))) H
def nNotN : R2 := fun x y H Q => y = .non ∧ Q (.bl (!decide (x = .non))) H
def nInS : R2 := fun x y H Q => ∃ (c : Nat) (z : Str), x = .str ⟨#[c]⟩ ∧ y = .str z ∧ Q (.bl (decide (c ∈ z.cps.toList))) H
def nNotInS : R2 := fun x y H Q => ∃ (c : Nat) (z : Str), x = .str ⟨#[c]⟩ ∧ y = .str z ∧ Q (.bl (!decide (c ∈ z.cps.toList))) H
def nInL (K : PySem.W.Frag) : R2 := rIn K false
def nNotInL (K : PySem.W.Frag) : R2 := rIn K true
def nIxL (K : PySem.W.Frag) : R2 := rIxL K
def nIxT (K : PySem.W.Frag) : R2 := rIxT K
def nIxS : R2 := rIxS
def nSlS : V → Option Int → Option Int → Hp → VK → Prop := rSlS
def nSlL (K : PySem.W.Frag) : V → Option Int → Option Int → Hp → VK → Prop := rSlL K
def nLenS : List V → Hp → VK → Prop := fun xs H Q => ∃ z, xs = [.str z] ∧ z.length ≤ sizeLine ∧ Q (.int z.length) H
def nLenL (K : PySem.W.Frag) : List V → Hp → VK → Prop := fun xs H Q => ∃ p ys, xs = [.ref p] ∧ (SqL K H p ys ∨ SqT K H p ys) ∧ Q (.int ys.length) H
def nLenA (K : PySem.W.Frag) : List V → Hp → VK → Prop := fun xs H Q => ∃ x n, xs = [x] ∧ LenV K x H n ∧ Q (.int n) H
def nLenD : List V → Hp → VK → Prop := fun xs H Q => ∃ a kvs, xs = [V.ref a] ∧ H a = some (.dK kvs) ∧ Q (.int kvs.length) H
def nIsi (K : PySem.W.Frag) : List V → Hp → VK → Prop := rIsi K
def nLcat : R2 := rCat
section
variable {X : Cx}
theorem o_add : OpR X (binaryOp .Add) nAdd := op_add
theorem o_sub : OpR X (binaryOp .Sub) nSub := op_sub
theorem o_mul : OpR X (binaryOp .Mult) nMul := op_mul
theorem o_div : OpR X (binaryOp .FloorDiv) nDiv := op_fdiv
theorem o_mod : OpR X (binaryOp .Mod) nMod := op_mod
theorem o_cat : OpR X (binaryOp .Add) nCat := op_add_str
theorem o_lcat : OpR X (binaryOp .Add) nLcat := op_cat
theorem o_lt : OpR X (compareOp .Lt) nLt := op_lt
theorem o_le : OpR X (compareOp .LtE) nLe := op_le
theorem o_gt : OpR X (compareOp .Gt) nGt := op_gt
theorem o_ge : OpR X (compareOp .GtE) nGe := op_ge
theorem o_eq : OpR X (compareOp .Eq) nEq := op_eq
theorem o_ne : OpR X (compareOp .NotEq) nNe := op_ne
theorem o_isN : OpR X (compareOp .Is) nIsN := op_isN
theorem o_notN : OpR X (compareOp .IsNot) nNotN := op_notN
theorem o_inS : OpR X (compareOp .In) nInS := op_in_sign
theorem o_notInS : OpR X (compareOp .NotIn) nNotInS := op_notIn_sign
theorem o_inL : OpR X (compareOp .In) (nInL X.K) := op_in_seq
theorem o_notInL : OpR X (compareOp .NotIn) (nNotInL X.K) := op_notIn_seq
theorem x_list : IxR X (nIxL X.K) := ix_list
theorem x_tup : IxR X (nIxT X.K) := ix_tup
theorem x_str : IxR X nIxS := ix_str
theorem l_str : SlR X nSlS := sl_str
theorem l_list : SlR X (nSlL X.K) := sl_list
theorem c_lenS : CallR X (.builtin "len") nLenS := call_len_str
theorem c_lenL : CallR X (.builtin "len") (nLenL X.K) := call_len_seq
theorem c_lenA : CallR X (.builtin "len") (nLenA X.K) := call_len
theorem c_lenD : CallR X (.builtin "len") nLenD := call_lenD
theorem c_isi : CallR X (.builtin "isinstance") (nIsi X.K) := call_isi
theorem pe_tx {x : Str} {w : List Nat} {j : Nat} {pos : Pos} (h : x = ⟨w.toArray⟩) : PE X (.Constant (.str x) j pos) (tC (tx w)) := by
  subst h
  exact pe_str
end

/-! ### what evaluates to what -/
section
variable {K : PySem.W.Frag} {σ : L2.St} {H H' : Hp} {ta tb te tx' : TE} {t u : TT} {x y z v : V} {r : R2} {i j : Int} {a b : List Nat}
/-- a value of which P holds -/
def EvP (te : TE) (σ : L2.St) (H : Hp) (P : V → Prop) : Prop := ∀ H1, Ex H H1 → ∀ Q : VK, (∀ v H2, Ex H1 H2 → P v → Q v H2) → te σ H1 Q
theorem EvP.mono {P : V → Prop} (e : Ex H H') (h : EvP te σ H P) : EvP te σ H' P := fun H1 a Q q => h H1 (e.trans a) Q q
theorem e_add (ha : Ev ta σ H (.int i)) (hb : Ev tb σ H (.int j)) : Ev (tOp nAdd ta tb) σ H (.int (i + j)) := ev_op ha hb fun H1 e Q q => ⟨i, j, rfl, rfl, q H1 (Ex.refl H1)⟩
theorem e_sub (ha : Ev ta σ H (.int i)) (hb : Ev tb σ H (.int j)) : Ev (tOp nSub ta tb) σ H (.int (i - j)) := ev_op ha hb fun H1 e Q q => ⟨i, j, rfl, rfl, q H1 (Ex.refl H1)⟩
theorem e_mul (ha : Ev ta σ H (.int i)) (hb : Ev tb σ H (.int j)) (h : CMul i j) : Ev (tOp nMul ta tb) σ H (.int (i * j)) := ev_op ha hb fun H1 e Q q => ⟨i, j, rfl, rfl, h, q H1 (Ex.refl H1)⟩
theorem e_div (ha : Ev ta σ H (.int i)) (hb : Ev tb σ H (.int j)) (h : 0 < j ∧ j < 1073741824) : Ev (tOp nDiv ta tb) σ H (.int (i / j)) := ev_op ha hb fun H1 e Q q => ⟨i, j, rfl, rfl, h, q H1 (Ex.refl H1)⟩
theorem e_mod (ha : Ev ta σ H (.int i)) (hb : Ev tb σ H (.int j)) (h : 0 < j) : Ev (tOp nMod ta tb) σ H (.int (i % j)) := ev_op ha hb fun H1 e Q q => ⟨i, j, rfl, rfl, h, q H1 (Ex.refl H1)⟩
theorem e_cat (ha : Ev ta σ H (tx a)) (hb : Ev tb σ H (tx b)) (h : a.length + b.length ≤ 100000) : Ev (tOp nCat ta tb) σ H (tx (a ++ b)) := ev_op ha hb fun H1 e Q q =>
  ⟨_, _, rfl, rfl, by rw [tx_len, tx_len]; exact line1 h, by
    have q1 := q H1 (Ex.refl H1)
    rw [tx_app]
    exact q1⟩
theorem e_lt (ha : Ev ta σ H (.int i)) (hb : Ev tb σ H (.int j)) : Ev (tOp nLt ta tb) σ H (.bl (decide (i < j))) := ev_op ha hb fun H1 e Q q => ⟨i, j, rfl, rfl, q H1 (Ex.refl H1)⟩
theorem e_le (ha : Ev ta σ H (.int i)) (hb : Ev tb σ H (.int j)) : Ev (tOp nLe ta tb) σ H (.bl (decide (i ≤ j))) := ev_op ha hb fun H1 e Q q => ⟨i, j, rfl, rfl, q H1 (Ex.refl H1)⟩
theorem e_gt (ha : Ev ta σ H (.int i)) (hb : Ev tb σ H (.int j)) : Ev (tOp nGt ta tb) σ H (.bl (decide (j < i))) := ev_op ha hb fun H1 e Q q => ⟨i, j, rfl, rfl, q H1 (Ex.refl H1)⟩
theorem e_ge (ha : Ev ta σ H (.int i)) (hb : Ev tb σ H (.int j)) : Ev (tOp nGe ta tb) σ H (.bl (decide (j ≤ i))) := ev_op ha hb fun H1 e Q q => ⟨i, j, rfl, rfl, q H1 (Ex.refl H1)⟩
/-- == of scalars -/
inductive EqB : V → V → Bool → Prop where
  | ii {i j : Int} : EqB (.int i) (.int j) (decide (i = j))
  | ss {a b : List Nat} : EqB (tx a) (tx b) (decide (a = b))
  | bb {a b : Bool} : EqB (.bl a) (.bl b) (decide (a = b))
  | is {i : Int} {b : Str} : EqB (.int i) (.str b) false
  | si {i : Int} {b : Str} : EqB (.str b) (.int i) false
  | bs {i : Bool} {b : Str} : EqB (.bl i) (.str b) false
  | sb {i : Bool} {b : Str} : EqB (.str b) (.bl i) false
  | ns {b : Str} : EqB .non (.str b) false
  | sn {b : Str} : EqB (.str b) .non false
  | ni {b : Int} : EqB .non (.int b) false
  | in_ {b : Int} : EqB (.int b) .non false
  | nn : EqB .non .non true
theorem dec_eq {p q : Prop} [Decidable p] [Decidable q] (h : p ↔ q) : decide p = decide q := by
  by_cases hp : p
  · rw [decide_eq_true hp, decide_eq_true (h.mp hp)]
  · rw [decide_eq_false hp, decide_eq_false (fun z => hp (h.mpr z))]
theorem EqB.sc {x y : V} {b : Bool} (h : EqB x y b) : scal x y = true ∧ decide (x = y) = b := by
  cases h with
  | ii => exact ⟨rfl, dec_eq ⟨fun h => V.int.inj h, fun h => by rw [h]⟩⟩
  | ss => exact ⟨rfl, dec_eq tx_inj⟩
  | bb => exact ⟨rfl, dec_eq ⟨fun h => V.bl.inj h, fun h => by rw [h]⟩⟩
  | is => exact ⟨rfl, decide_eq_false (fun z => nomatch z)⟩
  | si => exact ⟨rfl, decide_eq_false (fun z => nomatch z)⟩
  | bs => exact ⟨rfl, decide_eq_false (fun z => nomatch z)⟩
  | sb => exact ⟨rfl, decide_eq_false (fun z => nomatch z)⟩
  | ns => exact ⟨rfl, decide_eq_false (fun z => nomatch z)⟩
  | sn => exact ⟨rfl, decide_eq_false (fun z => nomatch z)⟩
  | ni => exact ⟨rfl, decide_eq_false (fun z => nomatch z)⟩
  | in_ => exact ⟨rfl, decide_eq_false (fun z => nomatch z)⟩
  | nn => exact ⟨rfl, decide_eq_true rfl⟩
theorem e_eq {b : Bool} (ha : Ev ta σ H x) (hb : Ev tb σ H y) (h : EqB x y b) : Ev (tOp nEq ta tb) σ H (.bl b) := ev_op ha hb fun H1 e Q q => ⟨h.sc.1, by
  rw [h.sc.2]
  exact q H1 (Ex.refl H1)⟩
theorem e_ne {b : Bool} (ha : Ev ta σ H x) (hb : Ev tb σ H y) (h : EqB x y b) : Ev (tOp nNe ta tb) σ H (.bl (!b)) := ev_op ha hb fun H1 e Q q => ⟨h.sc.1, by
  rw [h.sc.2]
  exact q H1 (Ex.refl H1)⟩
theorem e_isN (ha : Ev ta σ H x) : Ev (tOp nIsN ta (tC .non)) σ H (.bl (decide (x = .non))) := ev_op ha ev_c fun H1 e Q q => ⟨rfl, q H1 (Ex.refl H1)⟩
theorem e_notN (ha : Ev ta σ H x) : Ev (tOp nNotN ta (tC .non)) σ H (.bl (!decide (x = .non))) := ev_op ha ev_c fun H1 e Q q => ⟨rfl, q H1 (Ex.refl H1)⟩
theorem e_inS {c : Nat} (ha : Ev ta σ H (tx [c])) (hb : Ev tb σ H (tx b)) : Ev (tOp nInS ta tb) σ H (.bl (decide (c ∈ b))) := ev_op ha hb fun H1 e Q q => ⟨c, _, rfl, rfl, q H1 (Ex.refl H1)⟩
theorem e_notInS {c : Nat} (ha : Ev ta σ H (tx [c])) (hb : Ev tb σ H (tx b)) : Ev (tOp nNotInS ta tb) σ H (.bl (!decide (c ∈ b))) := ev_op ha hb fun H1 e Q q => ⟨c, _, rfl, rfl, q H1 (Ex.refl H1)⟩
theorem e_lenS (ha : Ev ta σ H (tx a)) (h : a.length ≤ 100000) : Ev (tCB nLenS (tCons ta tNil)) σ H (.int (a.length : Int)) := ev_cb (ea_cons ha ea_nil) fun H1 e Q q => ⟨_, rfl, by rw [tx_len]; exact line1 h, by
  rw [tx_len]
  exact q H1 (Ex.refl H1)⟩
theorem e_lenL {p : Addr} {xs : List V} (ha : Ev ta σ H (.ref p)) (h : SqL K H p xs) : Ev (tCB (nLenL K) (tCons ta tNil)) σ H (.int (xs.length : Int)) := ev_cb (ea_cons ha ea_nil) fun H1 e Q q => ⟨p, xs, rfl, .inl (ex_l e h), q H1 (Ex.refl H1)⟩
theorem e_lenT {p : Addr} {xs : List V} (ha : Ev ta σ H (.ref p)) (h : SqT K H p xs) : Ev (tCB (nLenL K) (tCons ta tNil)) σ H (.int (xs.length : Int)) := ev_cb (ea_cons ha ea_nil) fun H1 e Q q => ⟨p, xs, rfl, .inr (ex_t e h), q H1 (Ex.refl H1)⟩
theorem atI_in {α : Type} {xs : List α} {i : Int} {v : α} (h0 : 0 ≤ i) (h : xs[i.toNat]? = some v) : atI xs i = some v := by
  have e : i = ((i.toNat : Nat) : Int) := by omega
  rw [e]
  exact atI_nat h
theorem e_ixS {c : Nat} (ha : Ev ta σ H (tx a)) (hb : Ev tb σ H (.int i)) (hl : a.length ≤ 100000) (h : atI a i = some c) : Ev (tOp nIxS ta tb) σ H (tx [c]) := ev_op ha hb fun H1 e Q q =>
  ⟨_, i, c, rfl, rfl, by rw [tx_len]; exact line1 hl, h, q H1 (Ex.refl H1)⟩
theorem e_ixL {p : Addr} {xs : List V} (ha : Ev ta σ H (.ref p)) (hb : Ev tb σ H (.int i)) (hs : SqL K H p xs) (h : atI xs i = some v) : Ev (tOp (nIxL K) ta tb) σ H v := ev_op ha hb fun H1 e Q q =>
  ⟨p, xs, i, v, rfl, rfl, ex_l e hs, h, q H1 (Ex.refl H1)⟩
theorem e_ixT {p : Addr} {xs : List V} (ha : Ev ta σ H (.ref p)) (hb : Ev tb σ H (.int i)) (hs : SqT K H p xs) (h : atI xs i = some v) : Ev (tOp (nIxT K) ta tb) σ H v := ev_op ha hb fun H1 e Q q =>
  ⟨p, xs, i, v, rfl, rfl, ex_t e hs, h, q H1 (Ex.refl H1)⟩
/-- [a, b, ..][i], the list made on the way -/
theorem e_ixN {xs : List V} (ha : EvL ta σ H xs) (hb : Ev tb σ H (.int i)) (h : atI xs i = some v) : Ev (tOp (nIxL K) ta tb) σ H v := ev_opL1 ha (fun H1 e => hb.mono e) fun p H1 hp e H2 e2 Q q =>
  ⟨p, xs, i, v, rfl, rfl, sq_of (e2 _ _ hp), h, q H2 (Ex.refl H2)⟩
theorem cut_eq (a : List Nat) (lo hi : Option Int) : cutS ⟨a.toArray⟩ lo hi = ⟨((a.drop (HT.sIx a.length 0 lo)).take (HT.sIx a.length a.length hi - HT.sIx a.length 0 lo)).toArray⟩ := by
  unfold cutS
  rw [tx_len]
theorem six {n d : Nat} {i : Int} (h0 : 0 ≤ i) : HT.sIx n d (some i) = min i.toNat n := by
  have e : i = ((i.toNat : Nat) : Int) := by omega
  rw [e, HT.sIx_nat]
  rfl
theorem e_take {ti : TE} (ha : Ev ta σ H (tx a)) (hb : Ev ti σ H (.int i)) (hl : a.length ≤ 100000) (h0 : 0 ≤ i) : Ev (tSl nSlS ta tNoPart (tPart ti)) σ H (tx (a.take i.toNat)) := fun H1 e Q q =>
  ha H1 e _ fun H2 e2 => hb H2 (e.trans e2) _ fun H3 e3 => ⟨i, rfl, _, rfl, by rw [tx_len]; exact line1 hl, by
    have q1 := q H3 (e2.trans e3)
    rw [cut_eq, six h0]
    show Q (.str ⟨((a.drop 0).take (min i.toNat a.length - 0)).toArray⟩) H3
    rw [List.drop_zero, Nat.sub_zero]
    have e4 : a.take (min i.toNat a.length) = a.take i.toNat := by
      rw [List.take_eq_take_iff]
      omega
    rw [e4]
    exact q1⟩
theorem e_drop {ti : TE} (ha : Ev ta σ H (tx a)) (hb : Ev ti σ H (.int i)) (hl : a.length ≤ 100000) (h0 : 0 ≤ i) : Ev (tSl nSlS ta (tPart ti) tNoPart) σ H (tx (a.drop i.toNat)) := fun H1 e Q q =>
  ha H1 e _ fun H2 e2 => hb H2 (e.trans e2) _ fun H3 e3 => ⟨i, rfl, _, rfl, by rw [tx_len]; exact line1 hl, by
    have q1 := q H3 (e2.trans e3)
    rw [cut_eq, six h0]
    show Q (.str ⟨((a.drop (min i.toNat a.length)).take (a.length - min i.toNat a.length)).toArray⟩) H3
    have e4 : (a.drop (min i.toNat a.length)).take (a.length - min i.toNat a.length) = a.drop i.toNat := by
      rw [List.take_of_length_le (by rw [List.length_drop]; omega)]
      by_cases h : i.toNat ≤ a.length
      · rw [Nat.min_eq_left h]
      · rw [Nat.min_eq_right (by omega), List.drop_of_length_le (Nat.le_refl _), List.drop_of_length_le (by omega)]
    rw [e4]
    exact q1⟩
/-- isinstance(x, T) -/
theorem e_isi {T : String} {t : Value} {b : Bool} (ha : Ev ta σ H x) (ht : TyX K H x t) (hs : ∀ H1, Ex H H1 → TyX K H1 x t) (hk : PySem.W.kitOne K t (.type T) = some b) : Ev (tCB (nIsi K) (tCons ta (tCons (tC (.ty T)) tNil))) σ H (.bl b) :=
  ev_cb (ea_cons ha (ea_cons ev_c ea_nil)) fun H1 e Q q => ⟨x, .ty T, t, .type T, b, rfl, .ty T, hs H1 e, hk, q H1 (Ex.refl H1)⟩
end

/-! ### what evaluates to something of which P holds, with the heap -/
def EvG (te : TE) (σ : L2.St) (H : Hp) (P : V → Hp → Prop) : Prop := ∀ H1, Ex H H1 → ∀ Q : VK, (∀ v H2, Ex H1 H2 → P v H2 → Q v H2) → te σ H1 Q
def EvAll (ta : TA) (σ : L2.St) (H : Hp) (P : V → Hp → Prop) (n : Nat) : Prop := ∀ H1, Ex H H1 → ∀ Q : List V → Hp → Prop, (∀ vs H2, Ex H1 H2 → (∀ v ∈ vs, P v H2) → vs.length = n → Q vs H2) → ta σ H1 Q
/-- P stays while the heap grows -/
def Up (P : V → Hp → Prop) : Prop := ∀ v H H', Ex H H' → P v H → P v H'
def RetG (P : V → Hp → Prop) (H : Hp) (Q : VK) : Prop := ∀ v H2, Ex H H2 → P v H2 → Q v H2
def SpG (sp : Sp) (vs : List V) (H : Hp) (P : V → Hp → Prop) : Prop := ∀ H1, Ex H H1 → ∀ Q : VK, RetG P H1 Q → ∀ E : XK, sp vs H1 Q E
section
variable {K : PySem.W.Frag} {σ : L2.St} {H H' : Hp} {ta tb te : TE} {tr : TA} {t : TT} {x y z v : V} {P P' : V → Hp → Prop} {n : Nat} {i : Int} {D : Ends} {tu tw tz : TS} {g : TG}
theorem EvG.mono (e : Ex H H') (h : EvG te σ H P) : EvG te σ H' P := fun H1 a Q q => h H1 (e.trans a) Q q
theorem EvG.imp (h : EvG te σ H P) (k : ∀ v H2, Ex H H2 → P v H2 → P' v H2) : EvG te σ H P' := fun H1 a Q q => h H1 a Q fun v H2 e p => q v H2 e (k v H2 (a.trans e) p)
theorem g_ev (hP : Up P) (h : Ev te σ H v) (p : P v H) : EvG te σ H P := fun H1 e Q q => h H1 e Q fun H2 e2 => q v H2 e2 (hP v H H2 (e.trans e2) p)
theorem ev_g (h : EvG te σ H fun v' _ => v' = v) : Ev te σ H v := fun H1 e Q q => h H1 e Q fun v' H2 e2 p => by
  subst p
  exact q H2 e2
theorem g_lst {xs : List V} (h : EvL te σ H xs) (p : ∀ a H2, Ex H H2 → H2 a = some (.lst xs) → P (.ref a) H2) : EvG te σ H P := fun H1 e Q q => h H1 e Q fun a H2 _ e2 h2 => q _ H2 e2 (p a H2 (e.trans e2) h2)
theorem g_tup {xs : List V} (h : EvU te σ H xs) (p : ∀ a H2, Ex H H2 → H2 a = some (.tup xs) → P (.ref a) H2) : EvG te σ H P := fun H1 e Q q => h H1 e Q fun a H2 _ e2 h2 => q _ H2 e2 (p a H2 (e.trans e2) h2)
theorem g_dnew (p : ∀ a H2, Ex H H2 → H2 a = some (.dK []) → P (.ref a) H2) : EvG tDNewK σ H P := fun H1 e Q q a ha => q _ _ (Ex.new ha) (p a _ (e.trans (Ex.new ha)) upd_same)
theorem all_nil : EvAll tNil σ H P 0 := fun H1 _ Q q => q [] H1 (Ex.refl H1) (fun v h => by cases h) rfl
theorem all_cons (hP : Up P) (h : EvG te σ H P) (hr : EvAll tr σ H P n) : EvAll (tCons te tr) σ H P (n + 1) := fun H1 e Q q =>
  h H1 e _ fun v H2 e2 p => hr H2 (e.trans e2) _ fun vs H3 e3 ps hl => q (v :: vs) H3 (e2.trans e3) (fun u hu => by
    rcases List.mem_cons.mp hu with rfl | hu
    · exact hP _ H2 H3 e3 p
    · exact ps u hu) (by rw [List.length_cons, hl])
/-- [a, b, ..][i] -/
theorem g_pick (hP : Up P) (h : EvAll tr σ H P n) (hi : Ev tb σ H (.int i)) (h0 : 0 ≤ i) (h1 : i < (n : Int)) (hn : n ≤ 100000) : EvG (tOp (nIxL K) (tLst tr) tb) σ H P := fun H1 e Q q =>
  h H1 e _ fun vs H2 e2 ps hl => ⟨by rw [hl]; exact line1 hn, fun p hp => hi _ ((e.trans e2).trans (Ex.new hp)) _ fun H3 e3 => by
    have hlt : i.toNat < vs.length := by omega
    refine ⟨p, vs, i, vs[i.toNat], rfl, rfl, sq_of (e3 _ _ upd_same), atI_in h0 (List.getElem?_eq_getElem hlt), ?_⟩
    exact q _ H3 (e2.trans ((Ex.new hp).trans e3)) (hP _ H2 H3 ((Ex.new hp).trans e3) (ps _ (List.getElem_mem hlt)))⟩
theorem g_call {sp : Sp} {dvs vs : List V} {E : XK} {ta : TA} (h : EvA ta σ H vs) (hs : SpG sp (vs ++ dvs) H P) : EvG (tCall sp dvs E ta) σ H P := fun H1 e Q q =>
  h H1 e _ fun H2 e2 => hs H2 (e.trans e2) Q (fun v H3 e3 p => q v H3 (e2.trans e3) p) E
/-- a call one of whose arguments is only known by what holds of it: raw -/
theorem q_asgG {j : Nat} (h : EvG te σ H P) (k : ∀ v H1, Ex H H1 → P v H1 → tz D (σ.set j (some v)) H1) : tSeq (tAsg te (gName j)) tz D σ H := h H (Ex.refl H) _ k
theorem s_asgG {j : Nat} (h : EvG te σ H P) (k : ∀ v H1, Ex H H1 → P v H1 → D.nx (σ.set j (some v)) H1) : tAsg te (gName j) D σ H := h H (Ex.refl H) _ k
theorem s_retG (h : EvG te σ H P) (k : ∀ v H1, Ex H H1 → P v H1 → D.rt v H1) : tRet te D σ H := h H (Ex.refl H) _ k
theorem q_ret (h : Ev te σ H v) (k : ∀ H1, Ex H H1 → D.rt v H1) : tSeq (tRet te) tz D σ H := h H (Ex.refl H) _ k
theorem RetG.go {Q : VK} (k : RetG P H Q) (e : Ex H H') (p : P v H') : Q v H' := k v H' e p
/-- for c in s: c in slot j -/
theorem s_forS {j : Nat} {w : List Nat} (h : Ev te σ H (tx w)) (Pv : Nat → L2.St → Hp → Prop) (h0 : ∀ H1, Ex H H1 → Pv 0 σ H1)
    (hs : ∀ i c σ' H', w[i]? = some c → Pv i σ' H' → tu { D with nx := Pv (i + 1), ct := Pv (i + 1), bk := D.nx } (σ'.set j (some (tx [c]))) H') (hd : ∀ σ' H', Pv w.length σ' H' → D.nx σ' H') : tFor (iStr te) (gName j) tu D σ H :=
  h H (Ex.refl H) _ fun H1 e => ⟨_, rfl, fun i m σ' H' => m = w.length - i ∧ i ≤ w.length ∧ Pv i σ' H', ⟨w.length, by simp, Nat.zero_le _, h0 H1 e⟩, fun i m σ' H' hw => by
    obtain ⟨rfl, hi, p⟩ := hw
    by_cases hlt : i < w.length
    · refine .inr ⟨by show i < (w.toArray).size; simpa using hlt, Pv (i + 1), fun σ2 H2 p' => ⟨w.length - (i + 1), by omega, rfl, hlt, p'⟩, fun x H2 y => ?_⟩
      obtain ⟨e1, c, hc, e2⟩ := y
      subst e1
      subst e2
      exact hs i c σ' _ (by
        have hc' : (w.toArray)[i]? = some c := hc
        rw [List.getElem?_toArray] at hc'
        exact hc') p
    · have e1 : i = w.length := by omega
      subst e1
      exact .inl ⟨by show (w.toArray).size ≤ w.length; simp, hd σ' H' p⟩⟩
theorem q_forS {j : Nat} {w : List Nat} (h : Ev te σ H (tx w)) (Pv : Nat → L2.St → Hp → Prop) (h0 : ∀ H1, Ex H H1 → Pv 0 σ H1)
    (hs : ∀ i c σ' H', w[i]? = some c → Pv i σ' H' → tu { D with nx := Pv (i + 1), ct := Pv (i + 1), bk := tz D } (σ'.set j (some (tx [c]))) H') (hd : ∀ σ' H', Pv w.length σ' H' → tz D σ' H') : tSeq (tFor (iStr te) (gName j) tu) tz D σ H :=
  s_forS (D := { D with nx := tz D }) h Pv h0 hs hd
end
/-- what a body is read with -/
abbrev fin (Q : VK) : Ends := { nx := fun _ H' => Q .non H', rt := Q }
abbrev slots (n : Nat) (vs : List V) : L2.St := vs.map some ++ List.replicate (n - vs.length) none
/-- things that are no texts -/
def Odd (v : V) (H : Hp) : Prop := v = .non ∨ (∃ i, v = .int i) ∨ (∃ b, v = .bl b) ∨ ∃ p, v = .ref p ∧ ((∃ xs, H p = some (.lst xs)) ∨ (∃ xs, H p = some (.tup xs)) ∨ ∃ kvs, H p = some (.dK kvs))
theorem odd_up : Up Odd := fun v H H' e h => by
  rcases h with h | h | h | ⟨p, hp, h⟩
  · exact .inl h
  · exact .inr (.inl h)
  · exact .inr (.inr (.inl h))
  · refine .inr (.inr (.inr ⟨p, hp, ?_⟩))
    rcases h with ⟨xs, h⟩ | ⟨xs, h⟩ | ⟨xs, h⟩
    · exact .inl ⟨xs, e _ _ h⟩
    · exact .inr (.inl ⟨xs, e _ _ h⟩)
    · exact .inr (.inr ⟨xs, e _ _ h⟩)
theorem odd_ty {K : PySem.W.Frag} {v : V} {H : Hp} (h : Odd v H) : ∃ t, TyX K H v t ∧ PySem.W.kitOne K t (.type "str") = some false := by
  rcases h with rfl | ⟨i, rfl⟩ | ⟨b, rfl⟩ | ⟨p, rfl, h⟩
  · exact ⟨_, .base .non, kit_ty (by decide +kernel)⟩
  · exact ⟨_, .base (.int i), kit_ty (by decide +kernel)⟩
  · exact ⟨_, .base (.bl b), kit_ty (by decide +kernel)⟩
  · rcases h with ⟨xs, h⟩ | ⟨xs, h⟩ | ⟨xs, h⟩
    · exact ⟨_, .base (.lst h), kit_ty (by decide +kernel)⟩
    · exact ⟨_, .base (.tup h), kit_ty (by decide +kernel)⟩
    · exact ⟨_, .base (.dK h), kit_ty (by decide +kernel)⟩
section
variable {K : PySem.W.Frag} {σ : L2.St} {H : Hp} {ta : TE}
theorem e_isStr {w : List Nat} (ha : Ev ta σ H (tx w)) : Ev (tCB (nIsi K) (tCons ta (tCons (tC (.ty "str")) tNil))) σ H (.bl true) :=
  e_isi (t := .type "str") ha (.base (.str _)) (fun _ _ => .base (.str _)) (kit_ty (by decide +kernel))
theorem e_isOdd {v : V} (ha : Ev ta σ H v) (h : Odd v H) : Ev (tCB (nIsi K) (tCons ta (tCons (tC (.ty "str")) tNil))) σ H (.bl false) :=
  ev_cb (ea_cons ha (ea_cons ev_c ea_nil)) fun H1 e Q q => by
    obtain ⟨t, h1, h2⟩ := odd_ty (K := K) (odd_up v H H1 e h)
    exact ⟨v, .ty "str", t, .type "str", false, rfl, .ty "str", h1, h2, q H1 (Ex.refl H1)⟩
theorem e_isBool {b : Bool} (ha : Ev ta σ H (.bl b)) : Ev (tCB (nIsi K) (tCons ta (tCons (tC (.ty "bool")) tNil))) σ H (.bl true) :=
  e_isi (t := .type "bool") ha (.base (.bl _)) (fun _ _ => .base (.bl _)) (kit_ty (by decide +kernel))
theorem e_lenA {w : List Nat} (ha : Ev ta σ H (tx w)) (h : w.length ≤ 100000) : Ev (tCB (nLenA K) (tCons ta tNil)) σ H (.int (w.length : Int)) := ev_cb (ea_cons ha ea_nil) fun H1 e Q q => ⟨_, _, rfl, ⟨by rw [tx_len]; exact line1 h, rfl⟩, by
  rw [tx_len]
  exact q H1 (Ex.refl H1)⟩
end

/-! ### == of data -/
section
variable {K : PySem.W.Frag} {H H' : Hp}
open PySem.W (Datum)
mutual
theorem dp_up (e : Ex H H') : ∀ (d : PyData) (v : V), Dp K H v d → Dp K H' v d
  | .none, _, h => by cases h; exact .non
  | .bool _, _, h => by cases h; exact .bl _
  | .int _, _, h => by cases h; exact .int _
  | .str _, _, h => by cases h; exact .str _
  | .list ds, _, h => by
    cases h with
    | lst hs ha => exact .lst (ex_l e hs) (dp_upAll e ds _ ha)
  | .tuple ds, _, h => by
    cases h with
    | tup hs ha => exact .tup (ex_t e hs) (dp_upAll e ds _ ha)
  | .dict _, _, h => by cases h
theorem dp_upAll (e : Ex H H') : ∀ (ds : List PyData) (vs : List V), DpAll K H vs ds → DpAll K H' vs ds
  | [], _, h => by cases h; exact .nil
  | d :: ds, _, h => by
    cases h with
    | cons h1 h2 => exact .cons (dp_up e d _ h1) (dp_upAll e ds _ h2)
end
def nEqD (K : PySem.W.Frag) : R2 := fun x y H Q => ∃ d e, Dp K H x d ∧ Dp K H y e ∧ d.plain = true ∧ e.plain = true ∧ min d.depth e.depth ≤ 64 ∧ Q (.bl (PyData.eqv d e)) H
def nNeD (K : PySem.W.Frag) : R2 := fun x y H Q => ∃ d e, Dp K H x d ∧ Dp K H y e ∧ d.plain = true ∧ e.plain = true ∧ min d.depth e.depth ≤ 64 ∧ Q (.bl (!PyData.eqv d e)) H
theorem o_eqD {X : Cx} (hu : X.A.units + 64 < cLine) : OpR X (compareOp .Eq) (nEqD X.K) := by
  intro pins s σ H x y v u Q I rx ry h
  obtain ⟨d, e, hd, he, sd, se, hm, q⟩ := h
  obtain ⟨as, r1⟩ := Dp.reads I d x v hd rx
  obtain ⟨bs, r2⟩ := Dp.reads I e y u he ry
  exact PySem.SeqAt.eq_plain r1 r2 sd se (by omega) ⟨.bl _, H, I, rfl, q⟩
theorem o_neD {X : Cx} (hu : X.A.units + 64 < cLine) : OpR X (compareOp .NotEq) (nNeD X.K) := by
  intro pins s σ H x y v u Q I rx ry h
  obtain ⟨d, e, hd, he, sd, se, hm, q⟩ := h
  obtain ⟨as, r1⟩ := Dp.reads I d x v hd rx
  obtain ⟨bs, r2⟩ := Dp.reads I e y u he ry
  exact PySem.SeqAt.ne_plain r1 r2 sd se (by omega) ⟨.bl _, H, I, rfl, q⟩
/-- v is x's value -/
def Is {α : Type} [DecidableEq α] [Datum α] (K : PySem.W.Frag) (H : Hp) (v : V) (x : α) : Prop := Dp K H v (Datum.toD x)
section
variable {α : Type} [DecidableEq α] [Datum α] {σ : L2.St} {ta tb : TE} {v w : V} {x y : α}
theorem Is.up (e : Ex H H') (h : Is K H v x) : Is K H' v x := dp_up e _ _ h
theorem n_eq {Q : VK} (h1 : Is K H v x) (h2 : Is K H w y) (hd : Datum.depth α ≤ 64) (q : Q (.bl (decide (x = y))) H) : nEqD K v w H Q :=
  ⟨_, _, h1, h2, Datum.plain x, Datum.plain y, Nat.le_trans (Nat.min_le_left _ _) (Nat.le_trans (Datum.depth_le x) hd), by rw [Datum.eqv]; exact q⟩
theorem n_ne {Q : VK} (h1 : Is K H v x) (h2 : Is K H w y) (hd : Datum.depth α ≤ 64) (q : Q (.bl (!decide (x = y))) H) : nNeD K v w H Q :=
  ⟨_, _, h1, h2, Datum.plain x, Datum.plain y, Nat.le_trans (Nat.min_le_left _ _) (Nat.le_trans (Datum.depth_le x) hd), by rw [Datum.eqv]; exact q⟩
end
/-- a list of flat values -/
theorem dpAll_map {α β : Type} (f : β → V) (g : β → PyData) (h : ∀ b, Dp K H (f b) (g b)) : ∀ bs : List β, DpAll K H (bs.map f) (bs.map g)
  | [] => .nil
  | b :: bs => .cons (h b) (dpAll_map (α := α) f g h bs)
theorem is_strs {p : Addr} {xs : List Str} (h : SqL K H p (xs.map V.str)) : Is K H (.ref p) xs := .lst h (dpAll_map (α := Unit) V.str PyData.str (fun b => .str b) xs)
theorem is_ints {p : Addr} {xs : List Int} (h : SqL K H p (xs.map V.int)) : Is K H (.ref p) xs := .lst h (dpAll_map (α := Unit) V.int PyData.int (fun b => .int b) xs)
theorem is_bls {p : Addr} {xs : List Bool} (h : SqL K H p (xs.map V.bl)) : Is K H (.ref p) xs := .lst h (dpAll_map (α := Unit) V.bl PyData.bool (fun b => .bl b) xs)
end
/-! over a text's signs, in a comprehension -/
section
variable {K : PySem.W.Frag} {σ : L2.St} {H : Hp} {tl te : TE} {t : TT}
theorem el_lcS {w : List Nat} {j : Nat} {vs : List Nat} (f : Nat → Bool) (v : Nat → V) (h : Ev tl σ H (tx w)) (hz : w.length ≤ 40000) (hw : ∀ x, wipe ((wipe σ vs).set j (some x)) vs = wipe σ vs)
    (ht : ∀ (i c : Nat) H1, Ex H H1 → w[i]? = some c → EvT t ((wipe σ vs).set j (some (tx [c]))) H1 (f i)) (he : ∀ (i c : Nat) H1, Ex H H1 → w[i]? = some c → f i = true → Ev te ((wipe σ vs).set j (some (tx [c]))) H1 (v i)) :
    EvL (tLc (iStr tl) (gName j) t te vs) σ H (given w.length f v) := fun H0 e Q q => h H0 e _ fun H1 e1 => ⟨_, rfl, fun Dl hD =>
  ⟨fun i m H' => m = w.length - i ∧ i ≤ w.length ∧ Cw H1 f v Dl i H', ⟨w.length, by simp, Nat.zero_le _, hD, Ex.new hD, upd_same⟩, fun i m H' hw' => by
    obtain ⟨rfl, hi, p⟩ := hw'
    by_cases hlt : i < w.length
    · refine .inr ⟨by show i < (w.toArray).size; simpa using hlt, Cw H1 f v Dl (i + 1), fun H2 p' => ⟨w.length - (i + 1), by omega, rfl, hlt, p'⟩, fun x H2 y => ?_⟩
      obtain ⟨e1', c, hc, e2⟩ := y
      subst e1'
      subst e2
      have hc' : w[i]? = some c := by
        have hc' : (w.toArray)[i]? = some c := hc
        rw [List.getElem?_toArray] at hc'
        exact hc'
      exact ⟨hw _, cw_turn p (by omega) (ht i c H1 (e.trans e1) hc') (fun hf => he i c H1 (e.trans e1) hc' hf)⟩
    · have e1' : i = w.length := by omega
      subst e1'
      exact .inl ⟨by show (w.toArray).size ≤ w.length; simp, q Dl H' (fresh_back e1 p.1) (e1.trans p.2.1) p.2.2⟩⟩⟩
end

/-! ### -x, join -/
def nNeg : V → Hp → VK → Prop := rU fun i => .int (-i)
def nJoin (K : PySem.W.Frag) : V → List V → Hp → VK → Prop := fun x xs H Q => ∃ a p, ∃ ys : List Str, x = .str a ∧ xs = [.ref p] ∧ (SqL K H p (ys.map V.str) ∨ SqT K H p (ys.map V.str)) ∧
    (ys.map (·.length)).sum + ys.length * a.length ≤ 16777216 ∧ Q (.str (Txt.join a ys)) H
section
variable {X : Cx}
theorem o_neg : UnR X (unaryOp .USub) nNeg := un_neg
end
theorem given_all (n : Nat) (v : Nat → V) : given n (fun _ => true) v = (List.range n).map v := by
  unfold given
  rw [List.filter_eq_self.mpr (fun _ _ => rfl)]
theorem joinL_nil : ∀ ps : List (List Nat), TL.joinL [] ps = ps.flatten
  | [] => rfl
  | [p] => by simp [TL.joinL]
  | p :: q :: r => by
    show p ++ ([] ++ TL.joinL [] (q :: r)) = (p :: q :: r).flatten
    rw [joinL_nil (q :: r)]
    simp
theorem join_signs (cs : List Nat) : Txt.join ⟨#[]⟩ (cs.map fun c => (⟨#[c]⟩ : Str)) = ⟨cs.toArray⟩ := by
  rw [TL.join_eq]
  apply TL.ext_tl
  rw [TL.tl_join]
  show TL.joinL [] _ = cs
  rw [joinL_nil, List.map_map]
  induction cs with
  | nil => rfl
  | cons c r ih => rw [List.map_cons, List.flatten_cons, ih]; rfl
section
variable {K : PySem.W.Frag} {σ : L2.St} {H : Hp} {tl ta : TE} {i : Int}
theorem e_neg (ha : Ev ta σ H (.int i)) : Ev (tUn nNeg ta) σ H (.int (-i)) := ev_un ha fun H1 e Q q => ⟨i, rfl, q H1 (Ex.refl H1)⟩
theorem sum_ones : ∀ cs : List Nat, ((cs.map fun c => (⟨#[c]⟩ : Str)).map (·.length)).sum = cs.length
  | [] => rfl
  | c :: r => by
    rw [List.map_cons, List.map_cons, List.sum_cons, sum_ones r, List.length_cons]
    show 1 + r.length = r.length + 1
    omega
theorem e_join {cs : List Nat} (h : EvL tl σ H (cs.map fun c => tx [c])) (hl : cs.length ≤ 100000) : Ev (tM1 (nJoin K) (tC (tx [])) tl) σ H (tx cs) := fun H1 e Q q =>
  ⟨⟨_, rfl⟩, h H1 e _ fun p H2 _ e2 hp => ⟨_, p, cs.map fun c => (⟨#[c]⟩ : Str), rfl, rfl, .inl (sq_of (by rw [hp, List.map_map]; rfl)), by
    rw [sum_ones]
    show cs.length + _ * 0 ≤ 16777216
    omega, by
    have q1 := q H2 e2
    show Q (.str (Txt.join ⟨#[]⟩ (cs.map fun c => (⟨#[c]⟩ : Str)))) H2
    rw [join_signs]
    exact q1⟩⟩
end

/-! ### a def of the module, to be called -/
structure Cal (P : Program) (w : World) (K : PySem.W.Frag) (mg : Str → Option Value) (base : Heap) (CX : CXT) (k : Nat) (x : Str) (ps : List Str) (sp : Sp) : Prop where
  ex : ∃ (f : Addr) (fd : FuncData), FnOk P w K mg base CX k f fd ps sp ∧ mg x = some (.ref f) ∧ PySem.W.keepIn K (.ref f) = true ∧ Binds K fd ps []

/-! ### try: .. except C: (or C as n:) -/
def tTryOnly (K : PySem.W.Frag) (c : Value) (tb : WX → TS) (ts : Addr → Value → Option Addr → TS) : TS := fun D σ H => tb (wOnly K c ts (fun _ _ _ _ => False) D) D σ H
def tTryAs (K : PySem.W.Frag) (c : Value) (i : Nat) (tb : WX → TS) (ts : Addr → Value → Option Addr → TS) : TS := fun D σ H => tb (wAs K c i ts (fun _ _ _ _ => False) D) D σ H

/-! ### list(xs), xs.insert(i, y) -/
def nList (K : PySem.W.Frag) : List V → Hp → VK → Prop := fun xs H Q => ∃ p ys, xs = [.ref p] ∧ (SqL K H p ys ∨ SqT K H p ys) ∧ ∀ l, H l = none → Q (.ref l) (upd H l (.lst ys))
theorem c_list {X : Cx} : CallR X (.type "list") (nList X.K) := call_list_of
def rInsertN : V → List V → Hp → VK → Prop := fun x vs H Q => ∃ (l : Addr) (xs : List V) (i : Int) (y : V), x = .ref l ∧ vs = [.int i, y] ∧ H l = some (.lst xs) ∧ xs.length < sizeLine ∧ 0 ≤ i ∧ i < 2 ^ 63 ∧
    Q .non (upd H l (.lst (xs.take i.toNat ++ [y] ++ xs.drop i.toNat)))
theorem mt_insertN {X : Cx} : MtR X "list.insert" rInsertN := mt_insert
theorem el_listN {K : PySem.W.Frag} {σ : L2.St} {H : Hp} {ta : TE} {p : Addr} {xs : List V} (ha : Ev ta σ H (.ref p)) (h : SqL K H p xs) : EvL (tCB (nList K) (tCons ta tNil)) σ H xs := el_list ha h

/-! ### a heap without one place: what is known of all else stays where that one changes -/
def del (H : Hp) (l : Addr) : Hp := fun b => if b = l then none else H b
section
variable {H H' H0 : Hp} {l q : Addr} {o : HO}
theorem del_ne (h : q ≠ l) : del H l q = H q := by unfold del; rw [if_neg h]
theorem del_same : del H l l = none := by unfold del; rw [if_pos rfl]
theorem del_ex : Ex (del H l) H := fun b u h => by
  by_cases hb : b = l
  · rw [hb, del_same] at h; cases h
  · rw [del_ne hb] at h; exact h
theorem del_mono (e : Ex H H') : Ex (del H l) (del H' l) := fun b u h => by
  by_cases hb : b = l
  · rw [hb, del_same] at h; cases h
  · rw [del_ne hb] at h ⊢; exact e b u h
theorem del_upd : del (upd H l o) l = del H l := by
  funext b
  by_cases hb : b = l
  · rw [hb, del_same, del_same]
  · rw [del_ne hb, del_ne hb, upd_ne hb]
theorem ex_del (h0 : H0 l = none) (e : Ex H0 H) : Ex H0 (del H l) := fun b u h => by
  rw [del_ne (ne_of_none h h0)]
  exact e b u h
end
/-! ### slices of lists -/
section
variable {K : PySem.W.Frag} {σ : L2.St} {H : Hp} {te : TE} {tl th : TO} {a : Addr} {xs : List V} {lo hi : Option Int}
theorem el_slN (h : Ev te σ H (.ref a)) (h1 : EvO tl σ H lo) (h2 : EvO th σ H hi) (hs : SqL K H a xs) : EvL (tSl (nSlL K) te tl th) σ H (cutV xs lo hi) := el_sl h h1 h2 hs
theorem cut_from {i : Int} (h : 0 ≤ i) : cutV xs (some i) none = xs.drop i.toNat := by
  unfold cutV
  rw [six h]
  show (xs.drop (min i.toNat xs.length)).take (xs.length - min i.toNat xs.length) = xs.drop i.toNat
  rw [List.take_of_length_le (by rw [List.length_drop]; omega)]
  by_cases h : i.toNat ≤ xs.length
  · rw [Nat.min_eq_left h]
  · rw [Nat.min_eq_right (by omega), List.drop_of_length_le (Nat.le_refl _), List.drop_of_length_le (by omega)]
theorem cut_to {i : Int} (h : 0 ≤ i) : cutV xs none (some i) = xs.take i.toNat := by
  unfold cutV
  rw [six h]
  show (xs.drop 0).take (min i.toNat xs.length - 0) = xs.take i.toNat
  rw [List.drop_zero, Nat.sub_zero, List.take_eq_take_iff]
  omega
theorem cut_mid {i j : Int} (h : 0 ≤ i) (h' : 0 ≤ j) : cutV xs (some i) (some j) = (xs.drop i.toNat).take (j.toNat - i.toNat) := by
  unfold cutV
  rw [six h, six h']
  by_cases hi : i.toNat ≤ xs.length
  · rw [Nat.min_eq_left hi, List.take_eq_take_iff, List.length_drop]
    omega
  · rw [Nat.min_eq_right (show xs.length ≤ i.toNat by omega), List.drop_of_length_le (Nat.le_refl _), List.drop_of_length_le (show xs.length ≤ i.toNat by omega), List.take_nil, List.take_nil]
theorem ints_get {ns : List Int} {i : Nat} {x : V} (h : (ns.map V.int)[i]? = some x) : ∃ z, ns[i]? = some z ∧ x = .int z := by
  rw [List.getElem?_map] at h
  cases e : ns[i]? with
  | none => rw [e] at h; cases h
  | some z => rw [e] at h; exact ⟨z, rfl, (Option.some.inj h).symm⟩
end

section
variable {K : PySem.W.Frag} {σ : L2.St} {H : Hp} {ta tb te : TE} {tr : TA} {P : V → Hp → Prop} {n : Nat} {D : Ends} {tz : TS} {v : V}
/-- x = [..]: a new list of which P holds item by item -/
theorem q_asgAll {j : Nat} (hP : Up P) (h : EvAll tr σ H P n) (hn : n ≤ 100000) (k : ∀ vs p H1, H p = none → Ex H H1 → H1 p = some (.lst vs) → (∀ v ∈ vs, P v H1) → vs.length = n → tz D (σ.set j (some (.ref p))) H1) : tSeq (tAsg (tLst tr) (gName j)) tz D σ H :=
  h H (Ex.refl H) _ fun vs H1 e1 ps hl => ⟨by rw [hl]; exact line1 hn, fun p hp => k vs p _ (fresh_back e1 hp) (e1.trans (Ex.new hp)) upd_same (fun v hv => hP v H1 _ (Ex.new hp) (ps v hv)) hl⟩
/-- xs.insert(i, e) -/
theorem s_insert {l : Addr} {xs : List V} {i : Int} (hl : H l = some (.lst xs)) (ha : Ev ta σ H (.ref l)) (hi : Ev tb σ H (.int i)) (h : Ev te σ H v) (hz : xs.length < 100000) (h0 : 0 ≤ i) (h1 : i < 2 ^ 63)
    (k : ∀ H1, Ex H H1 → D.nx σ (upd H1 l (.lst (xs.take i.toNat ++ [v] ++ xs.drop i.toNat)))) : tDrop (tBM K "list" rInsertN ta (tCons tb (tCons te tNil))) D σ H :=
  ha H (Ex.refl H) _ fun H1 e1 => ⟨.inl ⟨rfl, xs, sq_of (e1 l _ hl)⟩, hi H1 e1 _ fun H2 e2 => h H2 (e1.trans e2) _ fun H3 e3 => ⟨l, xs, i, v, rfl, rfl, e3 _ _ (e2 _ _ (e1 _ _ hl)), Evl.sz_lt hz, h0, h1, k H3 ((e1.trans e2).trans e3)⟩⟩
end

/-- whether an error of the class at C is one of the class at D -/
theorem exm_by {K : PySem.W.Frag} {C D : Addr} {r : Bool} (p1 : PySem.W.subIn K (.ref D) (.type "BaseException") = some true) (p2 : PySem.W.isClsIn K D = true) (p3 : PySem.W.typeIn K (.ref D) = some (.type "type")) (p4 : PySem.W.subIn K (.ref C) (.ref D) = some r) :
    PySem.W.exmOne K (.ref C) (.ref D) = some r := by
  have q2 : (PySem.W.clsIn K D).isSome = true := p2
  unfold PySem.W.exmOne PySem.W.kitCls
  simp [p1, p3, q2, p4]
end Nw

set_option Elab.async false
set_option linter.all false
set_option maxRecDepth 100000
/-! Nw.Eq: == and != of any thing and a text. -/
namespace Nw
open PySem L2 Evl PyProof.Rows PySem.SeqAt PySem.MeetsSeq
set_option maxHeartbeats 1000000
theorem sub_sd : isSubtype (.type "str") (.type "dict") = pure false := by rw [isSubtype_type]; kernel_rfl
theorem d_eq_s (l : Addr) (o : Obj) (b : Str) (u : Tok) :
    PySem.Meets (Builtin.«dict.__eq__» ⟨[.ref l, .str b u], []⟩) (fun _ R s => s.heap.get? l = some o ∧ R (.ok (.ret .notImplemented)) s) :=
  .of_wp fun prog w A R s h => by obtain ⟨hp, g, d, tk, os⟩ := s; obtain ⟨hl, h⟩ := h; have f1 := sub_sd; wp_walk; exact ⟨_, rfl, h⟩
theorem d_ne_s (l : Addr) (o : Obj) (b : Str) (u : Tok) :
    PySem.Meets (Builtin.«dict.__ne__» ⟨[.ref l, .str b u], []⟩) (fun _ R s => s.heap.get? l = some o ∧ R (.ok (.ret .notImplemented)) s) :=
  .of_wp fun prog w A R s h => by obtain ⟨hp, g, d, tk, os⟩ := s; obtain ⟨hl, h⟩ := h; have f1 := sub_sd; wp_walk; exact ⟨_, rfl, h⟩
theorem s_eq_d (b : Str) (u : Tok) (l : Addr) (c : Value) (es : Array DictEntry) (ep : Nat) (dd : Option Addr) (sl : Array (Option Value)) :
    PySem.Meets (Builtin.«str.__eq__» ⟨[.str b u, .ref l], []⟩) (fun _ R s => s.heap.get? l = some { cls := c, dict := dd, data := .dict es ep, slots := sl } ∧ R (.ok (.ret .notImplemented)) s) :=
  .of_wp fun prog w A R s h => by obtain ⟨hp, g, d, tk, os⟩ := s; obtain ⟨hl, h⟩ := h; wp_walk using AutoSeq1.wpAny_loadPart' hl, wpAny_load hl; exact ⟨_, rfl, h⟩
theorem s_ne_d (b : Str) (u : Tok) (l : Addr) (c : Value) (es : Array DictEntry) (ep : Nat) (dd : Option Addr) (sl : Array (Option Value)) :
    PySem.Meets (Builtin.«str.__ne__» ⟨[.str b u, .ref l], []⟩) (fun _ R s => s.heap.get? l = some { cls := c, dict := dd, data := .dict es ep, slots := sl } ∧ R (.ok (.ret .notImplemented)) s) :=
  .of_wp fun prog w A R s h => by obtain ⟨hp, g, d, tk, os⟩ := s; obtain ⟨hl, h⟩ := h; wp_walk using AutoSeq1.wpAny_loadPart' hl, wpAny_load hl; exact ⟨_, rfl, h⟩
section
variable {A : Around} {s : Shared}
theorem rc_ds {l : Addr} {o : Obj} {es : Array DictEntry} {ep : Nat} (b : Str) (u : Tok) (ho : s.heap.get? l = some o) (hc : o.cls = .type "dict") (hd : o.data = .dict es ep) (hu : A.units < cLine) : RcAt A s (.ref l) (.str b u) false := fun prog w E Q h => by
  obtain ⟨cls, dd, data, sl⟩ := o
  simp only at hc hd
  subst hc hd
  exact rc_eq_decline_or (k := false) ⟨_, ho, rfl⟩ (typeIs_str s b u) (by decide) sub_sd F.slot_dict_eq F.slot_str_eq_refl
    (fun _ hq => call_meets F.slot_dict_eq ⟨_, ho, rfl⟩ F.entry_dict_eq (F.args_dict_eq_2 _ _) (d_eq_s l _ b u) ⟨ho, hq⟩)
    (fun _ hq => call_meets F.slot_str_eq_refl (typeIs_str s b u) F.entry_str_eq (F.args_str_eq_2 _ _) (s_eq_d b u l (.type "dict") es ep dd sl) ⟨ho, hq⟩)
    (fun _ hq => wpAny_of_eq (rfl : isSame (.ref l) (.str b u) = pure false) hq) (.inr hu) h
theorem rcne_ds {l : Addr} {o : Obj} {es : Array DictEntry} {ep : Nat} (b : Str) (u : Tok) (ho : s.heap.get? l = some o) (hc : o.cls = .type "dict") (hd : o.data = .dict es ep) (hu : A.units < cLine) : RcNeAt A s (.ref l) (.str b u) true := fun prog w E Q h => by
  obtain ⟨cls, dd, data, sl⟩ := o
  simp only at hc hd
  subst hc hd
  exact rc_ne_decline_or (k := false) ⟨_, ho, rfl⟩ (typeIs_str s b u) (by decide) sub_sd F.slot_dict_ne F.slot_str_ne_refl
    (fun _ hq => call_meets F.slot_dict_ne ⟨_, ho, rfl⟩ F.entry_dict_ne (F.args_dict_ne_2 _ _) (d_ne_s l _ b u) ⟨ho, hq⟩)
    (fun _ hq => call_meets F.slot_str_ne_refl (typeIs_str s b u) F.entry_str_ne (F.args_str_ne_2 _ _) (s_ne_d b u l (.type "dict") es ep dd sl) ⟨ho, hq⟩)
    (fun _ hq => wpAny_of_eq (rfl : isSame (.ref l) (.str b u) = pure false) hq) (.inr hu) h
end
/-- a text, or another thing -/
def Any (v : V) (H : Hp) : Prop := (∃ w, v = tx w ∧ w.length ≤ 1000) ∨ Odd v H
theorem any_up : Up Any := fun v H H' e h => h.elim .inl fun h => .inr (odd_up v H H' e h)
/-- thing == text, thing != text -/
def nEqS : R2 := fun x y H Q => ∃ b, y = tx b ∧ Any x H ∧ Q (.bl (decide (x = y))) H
def nNeS : R2 := fun x y H Q => ∃ b, y = tx b ∧ Any x H ∧ Q (.bl (!decide (x = y))) H
theorem no_ref_str {p : Addr} {b : Str} : decide (V.ref p = V.str b) = false := decide_eq_false fun z => nomatch z
theorem o_eqS {X : Cx} (hu : X.A.units + 64 < cLine) : OpR X (compareOp .Eq) nEqS := by
  intro pins s σ H x y v u Q I rx ry h
  obtain ⟨b, rfl, ha, q⟩ := h
  have sc : ∀ {x : V}, scal x (tx b) = true → RelV x v → Q (.bl (decide (x = tx b))) H → wpAny (model X.prog X.w) X.A (compareOp .Eq v u) (EP X pins σ Q) X.xe s := fun hs r q => op_eq pins s σ H _ _ v u Q I r ry ⟨hs, q⟩
  rcases ha with ⟨w, rfl, _⟩ | rfl | ⟨i, rfl⟩ | ⟨i, rfl⟩ | ⟨p, rfl, h⟩
  · exact sc rfl rx q
  · exact sc rfl rx q
  · exact sc rfl rx q
  · exact sc rfl rx q
  · rw [no_ref_str] at q
    cases rx
    obtain ⟨t, rfl⟩ := ry
    rcases h with ⟨xs, h⟩ | ⟨xs, h⟩ | ⟨xs, h⟩
    · obtain ⟨_, its, n, _, h1⟩ := (show ObjOk X.prog X.w H s.heap p (.lst xs) from I.hok p _ h)
      exact RcAt.list_str _ t (items := its.toArray) ⟨_, h1, rfl, n, rfl⟩ (by omega) _ _ _ _ ⟨.bl false, H, I, rfl, q⟩
    · obtain ⟨_, its, _, o, h1, h2, n, h3⟩ := (show ObjOk X.prog X.w H s.heap p (.tup xs) from I.hok p _ h)
      exact RcAt.tuple_str _ t (items := its.toArray) ⟨o, h1, h2, n, h3⟩ (by omega) _ _ _ _ ⟨.bl false, H, I, rfl, q⟩
    · obtain ⟨_, _, vs, _, o, es, ep, h1, h2, h3, _⟩ := (show ObjOk X.prog X.w H s.heap p (.dK xs) from I.hok p _ h)
      exact rc_ds _ t h1 h2.1 h3 (by omega) _ _ _ _ ⟨.bl false, H, I, rfl, q⟩
theorem o_neS {X : Cx} (hu : X.A.units + 64 < cLine) : OpR X (compareOp .NotEq) nNeS := by
  intro pins s σ H x y v u Q I rx ry h
  obtain ⟨b, rfl, ha, q⟩ := h
  have sc : ∀ {x : V}, scal x (tx b) = true → RelV x v → Q (.bl (!decide (x = tx b))) H → wpAny (model X.prog X.w) X.A (compareOp .NotEq v u) (EP X pins σ Q) X.xe s := fun hs r q => op_ne pins s σ H _ _ v u Q I r ry ⟨hs, q⟩
  rcases ha with ⟨w, rfl, _⟩ | rfl | ⟨i, rfl⟩ | ⟨i, rfl⟩ | ⟨p, rfl, h⟩
  · exact sc rfl rx q
  · exact sc rfl rx q
  · exact sc rfl rx q
  · exact sc rfl rx q
  · rw [no_ref_str] at q
    cases rx
    obtain ⟨t, rfl⟩ := ry
    rcases h with ⟨xs, h⟩ | ⟨xs, h⟩ | ⟨xs, h⟩
    · obtain ⟨_, its, n, _, h1⟩ := (show ObjOk X.prog X.w H s.heap p (.lst xs) from I.hok p _ h)
      exact RcNeAt.list_str _ t (items := its.toArray) ⟨_, h1, rfl, n, rfl⟩ (by omega) _ _ _ _ ⟨.bl true, H, I, rfl, q⟩
    · obtain ⟨_, its, _, o, h1, h2, n, h3⟩ := (show ObjOk X.prog X.w H s.heap p (.tup xs) from I.hok p _ h)
      exact RcNeAt.tuple_str _ t (items := its.toArray) ⟨o, h1, h2, n, h3⟩ (by omega) _ _ _ _ ⟨.bl true, H, I, rfl, q⟩
    · obtain ⟨_, _, vs, _, o, es, ep, h1, h2, h3, _⟩ := (show ObjOk X.prog X.w H s.heap p (.dK xs) from I.hok p _ h)
      exact rcne_ds _ t h1 h2.1 h3 (by omega) _ _ _ _ ⟨.bl true, H, I, rfl, q⟩
section
variable {K : PySem.W.Frag} {σ : L2.St} {H : Hp} {ta tb : TE} {x : V} {b : List Nat}
theorem e_eqS (ha : Ev ta σ H x) (hb : Ev tb σ H (tx b)) (h : Any x H) : Ev (tOp nEqS ta tb) σ H (.bl (decide (x = tx b))) := ev_op ha hb fun H1 e Q q => ⟨b, rfl, any_up _ _ _ e h, q H1 (Ex.refl H1)⟩
theorem e_neS (ha : Ev ta σ H x) (hb : Ev tb σ H (tx b)) (h : Any x H) : Ev (tOp nNeS ta tb) σ H (.bl (!decide (x = tx b))) := ev_op ha hb fun H1 e Q q => ⟨b, rfl, any_up _ _ _ e h, q H1 (Ex.refl H1)⟩
end
end Nw

set_option Elab.async false
set_option linter.all false
set_option maxRecDepth 100000
/-! k01: what is a word -/
namespace Nw
open PySem L2 Evl
/-- a word -/
def isW (w : List Nat) : Bool := decide (w.length ≤ 24 ∧ Low w)
/-- a text of at most 27 signs, or no text -/
def Thing (v : V) (H : Hp) : Prop := (∃ w, v = tx w ∧ w.length ≤ 27) ∨ Odd v H
theorem thing_up : Up Thing := fun v H H' e h => h.elim .inl fun h => .inr (odd_up v H H' e h)
def sp_is_word (K : PySem.W.Frag) : Sp := fun vs H Q _ => ∃ v, vs = [v] ∧ ((∃ w, v = tx w ∧ w.length ≤ 1000 ∧ RetV (.bl (isW w)) H Q) ∨ (Odd v H ∧ RetV (.bl false) H Q))
def sp_law_is_word (K : PySem.W.Frag) : Sp := sp_is_word K
def sp_law_sign (K : PySem.W.Frag) : Sp := fun vs H Q _ => ∃ c : Int, vs = [.int c] ∧ RetG (fun v _ => ∃ a, v = tx [a]) H Q
def sp_law_thing (K : PySem.W.Frag) : Sp := fun vs H Q _ => ∃ c : Int, vs = [.int c] ∧ RetG Thing H Q
/- is_word(thing): slots 0:thing 1:letter -/
def T_is_word (K : PySem.W.Frag) : TS :=
 (tSeq (tIfS (tOr (tNot (tB (tCB (nIsi K) (tCons (tVar 0) (tCons (tC (.ty "str")) tNil))))) (tTest (tOp nGt (tCB nLenS (tCons (tVar 0) tNil)) (tC (.int 24)))))
 (tRet (tC (.bl false))) tNext)
 (tSeq (tFor (iStr (tVar 0)) (gName 1)
 (tIfS (tTest (tOp nNotInS (tVar 1) (tC (tx abc))))
 (tRet (tC (.bl false))) tNext))
 (tRet (tC (.bl true)))))
def n_is_word : Nat := 2
/- _law_sign(_law_cell): slots 0:_law_cell 1:_law_signs -/
def T_law_sign (K : PySem.W.Frag) : TS :=
 (tSeq (tAsg (tC (tx [32, 33, 34, 35, 36, 38, 39, 40, 41, 42, 43, 44, 45, 46, 47, 48, 49, 50, 51, 52, 53, 54, 55, 56, 57, 58, 59, 60, 61, 62, 63, 64, 65, 66, 67, 68, 69, 70, 71, 72, 73, 74, 75, 76, 77, 78, 79, 80, 81, 82, 83, 84, 85, 86, 87, 88, 89, 90, 91, 92, 93, 94, 95, 96, 123, 124, 125, 126, 10, 9])) (gName 1))
 (tRet (tOp nIxS (tVar 1) (tOp nMod (tVar 0) (tCB nLenS (tCons (tVar 1) tNil))))))
def n_law_sign : Nat := 2
/- _law_thing(_law_cell): slots 0:_law_cell 1:_law_letters 2:_law_text 3:_law_k 4:_law_at -/
def T_law_thing (K : PySem.W.Frag) : TS :=
 (tSeq (tAsg (tC (tx abc)) (gName 1))
 (tSeq (tAsg (tM1 (nJoin K) (tC (tx [])) (tLc (iRng1 (tCons (tOp nMod (tOp nDiv (tVar 0) (tC (.int 7))) (tC (.int 27))) tNil)) (gName 3) tYes (tOp nIxS (tVar 1) (tOp nMod (tOp nAdd (tOp nDiv (tVar 0) (tC (.int 7))) (tOp nMul (tOp nMul (tC (.int 5)) (tVar 3)) (tOp nMod (tVar 0) (tC (.int 3))))) (tC (.int 26)))) [3])) (gName 2))
 (tSeq (tIfS (tTest (tOp nLt (tOp nMod (tVar 0) (tC (.int 7))) (tC (.int 3))))
 (tRet (tVar 2)) tNext)
 (tSeq (tIfS (tTest (tOp nLt (tOp nMod (tVar 0) (tC (.int 7))) (tC (.int 5))))
 (tSeq (tAsg (tOp nMod (tOp nDiv (tVar 0) (tC (.int 189))) (tOp nAdd (tCB nLenS (tCons (tVar 2) tNil)) (tC (.int 1)))) (gName 4))
 (tRet (tOp nCat (tOp nCat (tSl nSlS (tVar 2) tNoPart (tPart (tVar 4))) (tCall (sp_law_sign K) [] E0 (tCons (tOp nDiv (tVar 0) (tC (.int 77))) tNil))) (tSl nSlS (tVar 2) (tPart (tVar 4)) tNoPart)))) tNext)
 (tRet (tOp (nIxL K) (tLst (tCons (tC .non) (tCons (tC (.int 5)) (tCons (tC (.bl true)) (tCons (tTup (tCons (tC (tx [97])) tNil)) (tCons (tLst (tCons (tC (tx [97])) tNil)) (tCons tDNewK (tCons (tLst tNil) (tCons (tTup (tCons (tC (tx [97])) (tCons (tC (tx [98])) tNil))) (tCons (tC (.int 0)) (tCons (tUn nNeg (tC (.int 1))) (tCons (tC (.bl false)) (tCons (tDisp [((tC (tx [97])), (tC (.int 1)))]) tNil))))))))))))) (tOp nMod (tOp nDiv (tVar 0) (tC (.int 7))) (tC (.int 12)))))))))
def n_law_thing : Nat := 5
/- _law_is_word(_law_thing_here): slots 0:_law_thing_here 1:_law_letter -/
def T_law_is_word (K : PySem.W.Frag) : TS :=
 (tSeq (tIfS (tOr (tNot (tB (tCB (nIsi K) (tCons (tVar 0) (tCons (tC (.ty "str")) tNil))))) (tTest (tOp nGt (tCB nLenS (tCons (tVar 0) tNil)) (tC (.int 24)))))
 (tRet (tC (.bl false))) tNext)
 (tRet (tOp (nEqD K) (tLc (iStr (tVar 0)) (gName 1) (tTest (tOp nNotInS (tVar 1) (tC (tx abc)))) (tVar 1) [1]) (tLst tNil))))
def n_law_is_word : Nat := 2
theorem l_is_word {K vs H Q E} (h : sp_is_word K vs H Q E) : vs.length = 1 := by obtain ⟨v, rfl, _⟩ := h; rfl
theorem l_law_is_word {K vs H Q E} (h : sp_law_is_word K vs H Q E) : vs.length = 1 := l_is_word h
theorem l_law_sign {K vs H Q E} (h : sp_law_sign K vs H Q E) : vs.length = 1 := by obtain ⟨v, rfl, _⟩ := h; rfl
theorem l_law_thing {K vs H Q E} (h : sp_law_thing K vs H Q E) : vs.length = 1 := by obtain ⟨v, rfl, _⟩ := h; rfl
section
variable {K : PySem.W.Frag} {vs : List V} {H : Hp} {Q : VK} {E : XK}
theorem isW_long {w : List Nat} (h : 24 < w.length) : isW w = false := decide_eq_false fun z => by omega
theorem isW_bad {w : List Nat} {c : Nat} (h : c ∈ w) (hc : ¬ c ∈ abc) : isW w = false := decide_eq_false fun z => hc (mem_abc.mpr (z.2 c h))
theorem isW_good {w : List Nat} (h : w.length ≤ 24) (hl : Low w) : isW w = true := decide_eq_true ⟨h, hl⟩
theorem R_is_word (h : sp_is_word K vs H Q E) : T_is_word K (fin Q) (slots n_is_word vs) H := by
  obtain ⟨v, rfl, h⟩ := h
  show T_is_word K (fin Q) [some v, none] H
  unfold T_is_word
  rcases h with ⟨w, rfl, hl, k⟩ | ⟨ho, k⟩
  · refine q_when (b := decide (24 < w.length)) (et_is (et_or (et_not (et_B (e_isStr (ev_var rfl)))) (fun _ => et_test (e_gt (e_lenS (ev_var rfl) (by omega)) ev_c))) (by simp [dec_eq (show (24 : Int) < (w.length : Int) ↔ 24 < w.length by omega)])) (fun hb H1 e1 => ?_) (fun hb H1 e1 => ?_)
    · have hb' := of_decide_eq_true hb
      rw [isW_long hb'] at k
      exact s_ret ev_c fun H2 e2 => k _ (e1.trans e2)
    · have hb' := of_decide_eq_false hb
      refine q_forS (ev_var rfl) (fun i σ H' => (∃ x, σ = [some (tx w), x]) ∧ Ex H H' ∧ Low (w.take i)) (fun H2 e2 => ⟨⟨_, rfl⟩, e1.trans e2, by rw [List.take_zero]; exact low_nil⟩) (fun i c σ H' hc hp => ?_) (fun σ H' hp => ?_)
      · obtain ⟨⟨x, rfl⟩, e, lo⟩ := hp
        refine s_when (b := !decide (c ∈ abc)) (et_test (e_notInS (ev_var rfl) ev_c)) (fun hb H1 e1 => ?_) (fun hb H1 e1 => ?_)
        · have hn : ¬ c ∈ abc := by simpa using hb
          rw [isW_bad (List.mem_of_getElem? hc) hn] at k
          exact s_ret ev_c fun H2 e2 => k _ ((e.trans e1).trans e2)
        · have hn : c ∈ abc := by simpa using hb
          refine ⟨⟨_, rfl⟩, e.trans e1, ?_⟩
          rw [List.take_add_one, hc]
          exact low_app lo (low_one (mem_abc.mp hn))
      · obtain ⟨⟨x, rfl⟩, e, lo⟩ := hp
        rw [List.take_length] at lo
        rw [isW_good (by omega) lo] at k
        exact s_ret ev_c fun H2 e2 => k _ (e.trans e2)
  · refine q_when (b := true) (et_is (et_or (et_not (et_B (e_isOdd (ev_var rfl) ho))) (b := true) (fun hh => by cases hh)) (by simp)) (fun hb H1 e1 => ?_) (fun hb => by cases hb)
    exact s_ret ev_c fun H2 e2 => k _ (e1.trans e2)
theorem R_law_sign (h : sp_law_sign K vs H Q E) : T_law_sign K (fin Q) (slots n_law_sign vs) H := by
  obtain ⟨c, rfl, k⟩ := h
  show T_law_sign K (fin Q) [some (.int c), none] H
  unfold T_law_sign
  refine q_asg ev_c fun H1 e1 => ?_
  generalize hw : [32, 33, 34, 35, 36, 38, 39, 40, 41, 42, 43, 44, 45, 46, 47, 48, 49, 50, 51, 52, 53, 54, 55, 56, 57, 58, 59, 60, 61, 62, 63, 64, 65, 66, 67, 68, 69, 70, 71, 72, 73, 74, 75, 76, 77, 78, 79, 80, 81, 82, 83, 84, 85, 86, 87, 88, 89, 90, 91, 92, 93, 94, 95, 96, 123, 124, 125, 126, 10, 9] = w
  have hl : w.length = 70 := by rw [← hw]; rfl
  have h0 : 0 ≤ c % (w.length : Int) := Int.emod_nonneg _ (by omega)
  have h1 : c % (w.length : Int) < 70 := by have := Int.emod_lt_of_pos c (show (0 : Int) < (w.length : Int) by omega); omega
  have hlt : (c % (w.length : Int)).toNat < w.length := by omega
  refine s_ret (e_ixS (ev_var rfl) (e_mod (ev_var rfl) (e_lenS (ev_var rfl) (by omega)) (by omega)) (by omega) (atI_in h0 (List.getElem?_eq_getElem hlt))) fun H2 e2 => ?_
  exact k _ _ (e1.trans e2) ⟨_, rfl⟩
theorem g_sign {σ : L2.St} {te : TE} {j : Int} (h : Ev te σ H (.int j)) : EvG (tCall (sp_law_sign K) [] E0 (tCons te tNil)) σ H (fun v _ => ∃ a, v = tx [a]) :=
  g_call (ea_cons h ea_nil) fun H1 e Q q E => ⟨j, rfl, q⟩
theorem e_letter {σ : L2.St} {ta tb : TE} {i : Int} (ha : Ev ta σ H (tx abc)) (hb : Ev tb σ H (.int i)) (h0 : 0 ≤ i) (h1 : i < 26) : Ev (tOp nIxS ta tb) σ H (tx [i.toNat + 97]) :=
  e_ixS ha hb (by decide) (atI_in h0 (abc_at (by omega)))
theorem odd_non {H : Hp} : Odd .non H := .inl rfl
theorem odd_int {H : Hp} {i : Int} : Odd (.int i) H := .inr (.inl ⟨i, rfl⟩)
theorem odd_bl {H : Hp} {b : Bool} : Odd (.bl b) H := .inr (.inr (.inl ⟨b, rfl⟩))
theorem odd_l {H : Hp} {p : Addr} {xs : List V} (h : H p = some (.lst xs)) : Odd (.ref p) H := .inr (.inr (.inr ⟨p, rfl, .inl ⟨xs, h⟩⟩))
theorem odd_t {H : Hp} {p : Addr} {xs : List V} (h : H p = some (.tup xs)) : Odd (.ref p) H := .inr (.inr (.inr ⟨p, rfl, .inr (.inl ⟨xs, h⟩)⟩))
theorem odd_d {H : Hp} {p : Addr} {xs : List (Key × V)} (h : H p = some (.dK xs)) : Odd (.ref p) H := .inr (.inr (.inr ⟨p, rfl, .inr (.inr ⟨xs, h⟩)⟩))
theorem g_odd {σ : L2.St} {te : TE} {v : V} (h : Ev te σ H v) (o : ∀ H', Odd v H') : EvG te σ H Thing := g_ev thing_up h (.inr (o H))
theorem g_disp {σ : L2.St} {tk tv : TE} {k v : V} {kk : Key} (hk : Ev tk σ H k) (hv : Ev tv σ H v) (e1 : k = kV kk) : EvG (tDisp [(tk, tv)]) σ H Thing := fun H1 e Q q p hp =>
  hk _ (e.trans (Ex.new hp)) _ fun H2 e2 => hv H2 ((e.trans (Ex.new hp)).trans e2) _ fun H3 e3 =>
    ⟨e3 _ _ (e2 _ _ upd_same), [(kk, v)], by rw [e1]; rfl, (by show 1 ≤ 15; decide), q _ _ (Ex.mut (((Ex.new hp).trans e2).trans e3) hp) (.inr (odd_d upd_same))⟩
theorem R_law_thing (h : sp_law_thing K vs H Q E) : T_law_thing K (fin Q) (slots n_law_thing vs) H := by
  obtain ⟨c, rfl, k⟩ := h
  show T_law_thing K (fin Q) [some (.int c), none, none, none, none] H
  unfold T_law_thing
  refine q_asg ev_c fun H1 e1 => ?_
  have n0 : 0 ≤ c / 7 % 27 := Int.emod_nonneg _ (by omega)
  have n1 : c / 7 % 27 < 27 := Int.emod_lt_of_pos _ (by omega)
  have m0 : 0 ≤ c % 3 := Int.emod_nonneg _ (by omega)
  have m1 : c % 3 < 3 := Int.emod_lt_of_pos _ (by omega)
  let cs : List Nat := (List.range (c / 7 % 27).toNat).map fun (i : Nat) => ((c / 7 + 5 * (i : Int) * (c % 3)) % 26).toNat + 97
  have hl : cs.length ≤ 26 := by
    show ((List.range (c / 7 % 27).toNat).map _).length ≤ 26
    rw [List.length_map, List.length_range]; omega
  refine q_asg (v := tx cs) (e_join ?_ (by omega)) fun H2 e2 => ?_
  · have hg : cs.map (fun c => tx [c]) = given (c / 7 % 27).toNat (fun _ => true) (fun i => tx [((c / 7 + 5 * (i : Int) * (c % 3)) % 26).toNat + 97]) := by
      rw [given_all]
      show ((List.range (c / 7 % 27).toNat).map _).map _ = _
      rw [List.map_map]
      rfl
    rw [hg]
    refine el_lcR1 _ _ (ea_cons (e_mod (e_div (ev_var rfl) ev_c (by decide)) ev_c (by decide)) ea_nil) (by omega) (fun x => rfl) (fun i H2 e2 hi => ?_) (fun i H2 e2 hi _ => ?_)
    · exact fun H1 _ Q q => q H1 (Ex.refl H1)
    · exact e_letter (ev_var rfl) (e_mod (e_add (e_div (ev_var rfl) ev_c (by decide)) (e_mul (e_mul ev_c (ev_var rfl) (.inl (by decide))) (e_mod (ev_var rfl) ev_c (by decide)) (.inl (by omega)))) ev_c (by decide)) (Int.emod_nonneg _ (by omega)) (Int.emod_lt_of_pos _ (by omega))
  refine q_when (et_test (e_lt (e_mod (ev_var rfl) ev_c (by decide)) ev_c)) (fun hb H3 e3 => ?_) (fun hb H3 e3 => ?_)
  · exact s_ret (ev_var rfl) fun H4 e4 => k _ _ (((e1.trans e2).trans e3).trans e4) (.inl ⟨cs, rfl, by omega⟩)
  refine q_when (et_test (e_lt (e_mod (ev_var rfl) ev_c (by decide)) ev_c)) (fun hb H4 e4 => ?_) (fun hb H4 e4 => ?_)
  · have a0 : 0 ≤ c / 189 % ((cs.length : Int) + 1) := Int.emod_nonneg _ (by omega)
    refine q_asg (e_mod (e_div (ev_var rfl) ev_c (by decide)) (e_add (e_lenS (ev_var rfl) (by omega)) ev_c) (by omega)) fun H5 e5 => ?_
    generalize c / 189 % ((cs.length : Int) + 1) = a at a0
    have ht : (cs.take a.toNat).length ≤ 26 := by rw [List.length_take]; omega
    have hd : (cs.drop a.toNat).length ≤ 26 - a.toNat := by rw [List.length_drop]; omega
    have hd0 : (cs.take a.toNat).length + (cs.drop a.toNat).length = cs.length := by rw [← List.length_append, List.take_append_drop]
    -- text[:at] + sign(..) + text[at:]
    refine e_take (ev_var rfl) (ev_var rfl) (by omega) a0 H5 (Ex.refl H5) _ fun H6 e6 => ?_
    refine g_sign (e_div (ev_var rfl) ev_c (by decide)) H6 (Ex.refl H6) _ fun v H7 e7 hv => ?_
    obtain ⟨s, rfl⟩ := hv
    refine ⟨_, _, rfl, rfl, by rw [tx_len, tx_len]; exact line1 (by simp; omega), ?_⟩
    rw [tx_app]
    refine e_drop (ev_var rfl) (ev_var rfl) (by omega) a0 H7 (Ex.refl H7) _ fun H8 e8 => ?_
    refine ⟨_, _, rfl, rfl, by rw [tx_len, tx_len]; exact line1 (by simp; omega), ?_⟩
    rw [tx_app]
    exact k _ _ (((((((e1.trans e2).trans e3).trans e4).trans e5).trans e6).trans e7).trans e8) (.inl ⟨_, rfl, by simp only [List.length_append, List.length_cons, List.length_nil]; omega⟩)
  · refine s_retG (P := Thing) (g_pick (n := 12) thing_up ?_ (e_mod (e_div (ev_var rfl) ev_c (by decide)) ev_c (by decide)) (Int.emod_nonneg _ (by omega)) (Int.emod_lt_of_pos _ (by omega)) (by decide)) fun v H5 e5 p => k _ _ ((((e1.trans e2).trans e3).trans e4).trans e5) p
    refine all_cons thing_up (g_odd ev_c fun _ => odd_non) <| all_cons thing_up (g_odd ev_c fun _ => odd_int) <| all_cons thing_up (g_odd ev_c fun _ => odd_bl) <|
      all_cons thing_up (g_tup (eu_tup (ea_cons ev_c ea_nil) (by decide)) fun a H2 _ h => .inr (odd_t h)) <| all_cons thing_up (g_lst (el_lst (ea_cons ev_c ea_nil) (by decide)) fun a H2 _ h => .inr (odd_l h)) <|
      all_cons thing_up (g_dnew fun a H2 _ h => .inr (odd_d h)) <| all_cons thing_up (g_lst (el_lst ea_nil (by decide)) fun a H2 _ h => .inr (odd_l h)) <|
      all_cons thing_up (g_tup (eu_tup (ea_cons ev_c (ea_cons ev_c ea_nil)) (by decide)) fun a H2 _ h => .inr (odd_t h)) <| all_cons thing_up (g_odd ev_c fun _ => odd_int) <|
      all_cons thing_up (g_odd (e_neg ev_c) fun _ => odd_int) <| all_cons thing_up (g_odd ev_c fun _ => odd_bl) <| all_cons thing_up (g_disp (kk := .inr ⟨#[97]⟩) ev_c ev_c rfl) all_nil
theorem R_law_is_word (h : sp_law_is_word K vs H Q E) : T_law_is_word K (fin Q) (slots n_law_is_word vs) H := by
  obtain ⟨v, rfl, h⟩ := h
  show T_law_is_word K (fin Q) [some v, none] H
  unfold T_law_is_word
  rcases h with ⟨w, rfl, hl, k⟩ | ⟨ho, k⟩
  · refine q_when (b := decide (24 < w.length)) (et_is (et_or (et_not (et_B (e_isStr (ev_var rfl)))) (fun _ => et_test (e_gt (e_lenS (ev_var rfl) (by omega)) ev_c))) (by simp [dec_eq (show (24 : Int) < (w.length : Int) ↔ 24 < w.length by omega)])) (fun hb H1 e1 => ?_) (fun hb H1 e1 => ?_)
    · have hb' := of_decide_eq_true hb
      rw [isW_long hb'] at k
      exact s_ret ev_c fun H2 e2 => k _ (e1.trans e2)
    · have hb' := of_decide_eq_false hb
      let f : Nat → Bool := fun i => !decide ((w[i]?).getD 0 ∈ abc)
      have hf : given w.length f (fun i => tx [(w[i]?).getD 0]) = (((List.range w.length).filter f).map fun i => (⟨#[(w[i]?).getD 0]⟩ : Str)).map V.str := by
        unfold given
        rw [List.map_map]
        rfl
      have hE : EvL (tLc (iStr (tVar 0)) (gName 1) (tTest (tOp nNotInS (tVar 1) (tC (tx abc)))) (tVar 1) [1]) [some (tx w), none] H1 (given w.length f (fun i => tx [(w[i]?).getD 0])) := by
        refine el_lcS f _ (ev_var rfl) (by omega) (fun x => rfl) (fun i c H2 e2 hc => ?_) (fun i c H2 e2 hc _ => ?_)
        · refine et_is (et_test (e_notInS (ev_var rfl) ev_c)) ?_
          show _ = !decide ((w[i]?).getD 0 ∈ abc)
          rw [hc]; rfl
        · rw [hc]
          exact ev_var rfl
      refine s_ret (v := .bl (isW w)) (ev_opLL hE (el_lst ea_nil (by decide)) fun p q H2 hp hq e2 => fun H3 e3 Q3 q3 => ?_) fun H2 e2 => k _ (e1.trans e2)
      refine n_eq (x := (((List.range w.length).filter f).map fun i => (⟨#[(w[i]?).getD 0]⟩ : Str))) (y := ([] : List Str)) (is_strs (sq_of ?_)) (is_strs (sq_of (e3 _ _ hq))) (by decide) ?_
      · rw [← hf]
        exact e3 _ _ hp
      · have hk : decide ((((List.range w.length).filter f).map fun i => (⟨#[(w[i]?).getD 0]⟩ : Str)) = []) = isW w := by
            unfold isW
            refine dec_eq ⟨fun hn => ⟨by omega, fun c hc => ?_⟩, fun hw => ?_⟩
            · obtain ⟨i, hi⟩ := List.mem_iff_getElem?.mp hc
              rw [List.map_eq_nil_iff, List.filter_eq_nil_iff] at hn
              have h3 := hn i (List.mem_range.mpr (List.getElem?_eq_some_iff.mp hi).1)
              have h4 : (w[i]?).getD 0 ∈ abc := by simpa [f] using h3
              rw [hi] at h4
              exact mem_abc.mp h4
            · rw [List.map_eq_nil_iff, List.filter_eq_nil_iff]
              intro i hi
              have hi' := List.mem_range.mp hi
              have h4 : (w[i]?).getD 0 ∈ abc := by
                rw [List.getElem?_eq_getElem hi']
                exact mem_abc.mpr (hw.2 _ (List.getElem_mem hi'))
              simp only [f, h4, decide_true, Bool.not_true]
              exact Bool.false_ne_true
        rw [hk]
        exact q3 _ (Ex.refl _)
  · refine q_when (b := true) (et_is (et_or (et_not (et_B (e_isOdd (ev_var rfl) ho))) (b := true) (fun hh => by cases hh)) (by simp)) (fun hb H1 e1 => ?_) (fun hb => by cases hb)
    exact s_ret ev_c fun H2 e2 => k _ (e1.trans e2)
/-! ### the law -/
def sp_law1 (K : PySem.W.Frag) : Sp := fun vs H Q _ => ∃ (a : Addr) (ns : List Int), vs = [.ref a] ∧ SqL K H a (ns.map V.int) ∧ ns.length ≤ 63 ∧ ∀ H', Q (.bl true) H'
end
theorem l_law1 {K vs H Q E} (h : sp_law1 K vs H Q E) : vs.length = 1 := by obtain ⟨v, _, rfl, _⟩ := h; rfl
/- law(_law_script): slots 0:_law_script 1:_law_k 2:_law_thing_here 3:_law_found -/
def T_law1 (K : PySem.W.Frag) : TS :=
 (tSeq (tIfS (tOr (tTest (tOp nNe (tC (tx abc)) (tC (tx abc)))) (tOr (tTest (tOp nNe (tC (.int 24)) (tC (.int 24)))) (tTest (tOp nNe (tC (.int 400)) (tC (.int 400))))))
 (tRet (tC (.bl false))) tNext)
 (tSeq (tFor (iRng1 (tCons (tCB (nLenL K) (tCons (tVar 0) tNil)) tNil)) (gName 1)
 (tSeq (tAsg (tCall (sp_law_thing K) [] E0 (tCons (tOp nAdd (tOp (nIxL K) (tVar 0) (tVar 1)) (tOp nMul (tC (.int 1001)) (tVar 1))) tNil)) (gName 2))
 (tSeq (tAsg (tCall (sp_is_word K) [] E0 (tCons (tVar 2) tNil)) (gName 3))
 (tIfS (tOr (tNot (tB (tCB (nIsi K) (tCons (tVar 3) (tCons (tC (.ty "bool")) tNil))))) (tTest (tOp nNe (tVar 3) (tCall (sp_law_is_word K) [] E0 (tCons (tVar 2) tNil)))))
 (tRet (tC (.bl false))) tNext))))
 (tRet (tC (.bl true)))))
def n_law1 : Nat := 4
section
variable {K : PySem.W.Frag} {vs : List V} {H : Hp} {Q : VK} {E : XK}
theorem ints_at {ns : List Int} {i : Nat} (h : i < ns.length) : atI (ns.map V.int) (i : Int) = some (.int ns[i]) := atI_nat (by rw [List.getElem?_map, List.getElem?_eq_getElem h]; rfl)
theorem thing_isw {v : V} (h : Thing v H) : ∃ b, (∀ H1, Ex H H1 → ∀ Q E, RetV (.bl b) H1 Q → sp_is_word K [v] H1 Q E) := by
  rcases h with ⟨w, rfl, hl⟩ | h
  · exact ⟨isW w, fun H1 e Q E k => ⟨_, rfl, .inl ⟨w, rfl, by omega, k⟩⟩⟩
  · exact ⟨false, fun H1 e Q E k => ⟨_, rfl, .inr ⟨odd_up _ _ _ e h, k⟩⟩⟩
theorem R_law1 (h : sp_law1 K vs H Q E) : T_law1 K (fin Q) (slots n_law1 vs) H := by
  obtain ⟨a, ns, rfl, hS, hn, k⟩ := h
  show T_law1 K (fin Q) [some (.ref a), none, none, none] H
  unfold T_law1
  refine q_when (b := false) (et_is (et_or (et_test (e_ne ev_c ev_c .ss)) fun _ => et_or (et_test (e_ne ev_c ev_c .ii)) fun _ => et_test (e_ne ev_c ev_c .ii)) (by simp)) (fun hb => by cases hb) (fun _ H1 e1 => ?_)
  refine q_forR1 (n := (ns.length : Int)) (ea_cons (ev_is (e_lenL (ev_var rfl) (ex_l e1 hS)) (by rw [List.length_map])) ea_nil) (by omega) (fun i σ H' => (∃ x y z, σ = [some (.ref a), x, y, z]) ∧ Ex H H') (fun H2 e2 => ⟨⟨_, _, _, rfl⟩, e1.trans e2⟩) (fun i σ H' hi hp => ?_) (fun σ H' hp => ?_)
  · obtain ⟨⟨x, y, z, rfl⟩, e⟩ := hp
    have hi' : i < ns.length := by omega
    refine q_asgG (P := Thing) (g_call (ea_cons (e_add (e_ixL (ev_var rfl) (ev_var rfl) (ex_l e hS) (ints_at hi')) (e_mul ev_c (ev_var rfl) (.inl (by decide)))) ea_nil) fun H1 e Q q E => ⟨_, rfl, q⟩) fun v H2 e2 hv => ?_
    obtain ⟨b, hb⟩ := thing_isw (K := K) hv
    refine q_asg (v := .bl b) (ev_call (ea_cons (ev_var rfl) ea_nil) fun H1 e Q q E => hb H1 e Q E fun H2 e2 => q H2 e2) fun H3 e3 => ?_
    refine s_when (b := false) (et_is (et_or (et_not (et_B (e_isBool (ev_var rfl)))) fun _ => et_test (e_ne (ev_var rfl) (ev_call (z := .bl b) (ea_cons (ev_var rfl) ea_nil) fun H1 e4 Q q E => hb H1 (e3.trans e4) Q E fun H2 e2 => q H2 e2) .bb)) (by simp)) (fun hb => by cases hb) (fun _ H4 e4 => ?_)
    exact ⟨⟨_, _, _, rfl⟩, ((e.trans e2).trans e3).trans e4⟩
  · obtain ⟨⟨x, y, z, rfl⟩, e⟩ := hp
    exact s_ret ev_c fun H2 e2 => k _
end
end Nw

set_option Elab.async false
set_option linter.all false
set_option maxRecDepth 100000
/-! changes of texts: is_letter, is_whole, need_change, done, led; the law's own _law_whole, _law_step -/
namespace Nw
open PySem L2 Evl
theorem nd {p : Prop} [Decidable p] (h : (!decide p) = true) : ¬ p := by simpa using h
theorem nd' {p : Prop} [Decidable p] (h : (!decide p) = false) : p := by simpa using h
/-! ### things by their types -/
section
variable {K : PySem.W.Frag} {σ : L2.St} {H H' : Hp} {ta : TE} {v : V}
def isI : V → Bool
  | .int _ => true
  | _ => false
/-- v's type is n, and stays so -/
def HasTy (n : String) (v : V) (H : Hp) : Prop := ∀ (K : PySem.W.Frag) (H1 : Hp), Ex H H1 → TyX K H1 v (.type n)
theorem ht_str {w : Str} : HasTy "str" (.str w) H := fun _ _ _ => .base (.str _)
theorem ht_non : HasTy "NoneType" .non H := fun _ _ _ => .base .non
theorem ht_int {i : Int} : HasTy "int" (.int i) H := fun _ _ _ => .base (.int _)
theorem ht_bl {i : Bool} : HasTy "bool" (.bl i) H := fun _ _ _ => .base (.bl _)
theorem ht_lst {p : Addr} {xs : List V} (h : H p = some (.lst xs)) : HasTy "list" (.ref p) H := fun _ _ e => .base (.lst (e _ _ h))
theorem ht_tup {p : Addr} {xs : List V} (h : H p = some (.tup xs)) : HasTy "tuple" (.ref p) H := fun _ _ e => .base (.tup (e _ _ h))
theorem ht_dK {p : Addr} {xs : List (Key × V)} (h : H p = some (.dK xs)) : HasTy "dict" (.ref p) H := fun _ _ e => .base (.dK (e _ _ h))
/-- isinstance(v, T) -/
theorem e_is {n T : String} {b : Bool} (ha : Ev ta σ H v) (h : HasTy n v H) (hk : kitB n T = some b) : Ev (tCB (nIsi K) (tCons ta (tCons (tC (.ty T)) tNil))) σ H (.bl b) :=
  ev_cb (ea_cons ha (ea_cons ev_c ea_nil)) fun H1 e Q q => ⟨v, .ty T, .type n, .type T, b, rfl, .ty T, h K H1 e, kit_ty hk, q H1 (Ex.refl H1)⟩
/-- no tuple -/
def NoTup (v : V) (H : Hp) : Prop := (∃ w, v = tx w ∧ w.length ≤ 1000) ∨ v = .non ∨ (∃ i, v = .int i) ∨ (∃ b, v = .bl b) ∨ ∃ p, v = .ref p ∧ ((∃ xs, H p = some (.lst xs)) ∨ ∃ kvs, H p = some (.dK kvs))
def Tup (v : V) (xs : List V) (H : Hp) : Prop := ∃ p, v = .ref p ∧ H p = some (.tup xs)
theorem noTup_up : Up NoTup := fun v H H' e h => by
  rcases h with h | h | h | h | ⟨p, hp, ⟨xs, h⟩ | ⟨xs, h⟩⟩
  · exact .inl h
  · exact .inr (.inl h)
  · exact .inr (.inr (.inl h))
  · exact .inr (.inr (.inr (.inl h)))
  · exact .inr (.inr (.inr (.inr ⟨p, hp, .inl ⟨xs, e _ _ h⟩⟩)))
  · exact .inr (.inr (.inr (.inr ⟨p, hp, .inr ⟨xs, e _ _ h⟩⟩)))
theorem tup_up (xs : List V) : Up (fun v H => Tup v xs H) := fun v H H' e ⟨p, hp, h⟩ => ⟨p, hp, e _ _ h⟩
theorem e_isTup {xs : List V} (ha : Ev ta σ H v) (h : Tup v xs H) : Ev (tCB (nIsi K) (tCons ta (tCons (tC (.ty "tuple")) tNil))) σ H (.bl true) := by
  obtain ⟨p, rfl, h⟩ := h
  exact e_is ha (ht_tup h) (by decide +kernel)
theorem e_noTup (ha : Ev ta σ H v) (h : NoTup v H) : Ev (tCB (nIsi K) (tCons ta (tCons (tC (.ty "tuple")) tNil))) σ H (.bl false) := by
  rcases h with ⟨w, rfl, _⟩ | rfl | ⟨i, rfl⟩ | ⟨b, rfl⟩ | ⟨p, rfl, ⟨xs, h⟩ | ⟨xs, h⟩⟩
  · exact e_is ha ht_str (by decide +kernel)
  · exact e_is ha ht_non (by decide +kernel)
  · exact e_is ha ht_int (by decide +kernel)
  · exact e_is ha ht_bl (by decide +kernel)
  · exact e_is ha (ht_lst h) (by decide +kernel)
  · exact e_is ha (ht_dK h) (by decide +kernel)
theorem e_isInt (ha : Ev ta σ H v) (h : Any v H) : ∃ b c, Ev (tCB (nIsi K) (tCons ta (tCons (tC (.ty "int")) tNil))) σ H (.bl b) ∧ Ev (tCB (nIsi K) (tCons ta (tCons (tC (.ty "bool")) tNil))) σ H (.bl c) ∧ (b && !c) = isI v := by
  rcases h with ⟨w, rfl, _⟩ | rfl | ⟨i, rfl⟩ | ⟨b, rfl⟩ | ⟨p, rfl, ⟨xs, h⟩ | ⟨xs, h⟩ | ⟨xs, h⟩⟩
  · exact ⟨false, false, e_is ha ht_str (by decide +kernel), e_is ha ht_str (by decide +kernel), rfl⟩
  · exact ⟨false, false, e_is ha ht_non (by decide +kernel), e_is ha ht_non (by decide +kernel), rfl⟩
  · exact ⟨true, false, e_is ha ht_int (by decide +kernel), e_is ha ht_int (by decide +kernel), rfl⟩
  · exact ⟨true, true, e_is ha ht_bl (by decide +kernel), e_is ha ht_bl (by decide +kernel), rfl⟩
  · exact ⟨false, false, e_is ha (ht_lst h) (by decide +kernel), e_is ha (ht_lst h) (by decide +kernel), rfl⟩
  · exact ⟨false, false, e_is ha (ht_tup h) (by decide +kernel), e_is ha (ht_tup h) (by decide +kernel), rfl⟩
  · exact ⟨false, false, e_is ha (ht_dK h) (by decide +kernel), e_is ha (ht_dK h) (by decide +kernel), rfl⟩
end
/-! ### changes -/
abbrev wPut : List Nat := [112, 117, 116]
abbrev wCut : List Nat := [99, 117, 116]
abbrev wTurn : List Nat := [116, 117, 114, 110]
inductive Good (w : List Nat) : List V → List Nat → Prop
  | put {i : Int} {c : Nat} (h0 : 0 ≤ i) (h1 : i ≤ (w.length : Int)) (hc : 97 ≤ c ∧ c < 123) : Good w [tx wPut, .int i, tx [c]] (w.take i.toNat ++ [c] ++ w.drop i.toNat)
  | cut {i : Int} (h0 : 0 ≤ i) (h1 : i < (w.length : Int)) : Good w [tx wCut, .int i] (w.take i.toNat ++ w.drop (i + 1).toNat)
  | turn {i : Int} {c : Nat} (h0 : 0 ≤ i) (h1 : i < (w.length : Int)) (hc : 97 ≤ c ∧ c < 123) (hn : w[i.toNat]? ≠ some c) : Good w [tx wTurn, .int i, tx [c]] (w.take i.toNat ++ [c] ++ w.drop (i + 1).toNat)
def GoodV (w : List Nat) (v : V) (H : Hp) (w' : List Nat) : Prop := ∃ xs, Tup v xs H ∧ Good w xs w'
def Chg (v : V) (H : Hp) : Prop := (∃ xs, Tup v xs H ∧ xs.length ≤ 4 ∧ ∀ x ∈ xs, Any x H) ∨ NoTup v H
theorem chg_up : Up Chg := fun v H H' e h => by
  rcases h with ⟨xs, ht, hl, ha⟩ | h
  · exact .inl ⟨xs, tup_up xs v H H' e ht, hl, fun x hx => any_up x H H' e (ha x hx)⟩
  · exact .inr (noTup_up v H H' e h)
theorem tup_inj {v : V} {xs ys : List V} {H H' : Hp} (e : Ex H H') (h : Tup v xs H) (h' : Tup v ys H') : xs = ys := by
  obtain ⟨p, rfl, h⟩ := h
  obtain ⟨q, hq, h'⟩ := h'
  have hpq : p = q := V.ref.inj hq
  subst hpq
  rw [e _ _ h] at h'
  exact HO.tup.inj (Option.some.inj h')
theorem noTup_not {v : V} {xs : List V} {H H' : Hp} (e : Ex H H') (h : NoTup v H) (h' : Tup v xs H') : False := by
  obtain ⟨q, rfl, h'⟩ := h'
  rcases h with ⟨w, hw, _⟩ | hw | ⟨i, hw⟩ | ⟨b, hw⟩ | ⟨p, hp, ⟨xs, h⟩ | ⟨xs, h⟩⟩
  · cases hw
  · cases hw
  · cases hw
  · cases hw
  · cases hp; rw [e _ _ h] at h'; cases h'
  · cases hp; rw [e _ _ h] at h'; cases h'
theorem goodV_up {w : List Nat} {v : V} {H H' : Hp} {w' : List Nat} (e : Ex H H') (h : GoodV w v H w') : GoodV w v H' w' := by
  obtain ⟨xs, ht, hg⟩ := h
  exact ⟨xs, tup_up xs v H H' e ht, hg⟩
theorem goodV_down {w : List Nat} {v : V} {H H' : Hp} {w' : List Nat} (e : Ex H H') (hc : Chg v H) (h : GoodV w v H' w') : GoodV w v H w' := by
  obtain ⟨xs, ht, hg⟩ := h
  rcases hc with ⟨ys, ht', _⟩ | hn
  · rw [← tup_inj e ht' ht] at hg
    exact ⟨ys, ht', hg⟩
  · exact (noTup_not e hn ht).elim
/-- what a change makes is a text of letters, at most one longer -/
theorem good_len {w w' : List Nat} {xs : List V} (h : Good w xs w') : w'.length ≤ w.length + 1 := by
  cases h with
  | put h0 h1 hc => simp only [List.length_append, List.length_take, List.length_drop, List.length_cons, List.length_nil]; omega
  | cut h0 h1 => simp only [List.length_append, List.length_take, List.length_drop]; omega
  | turn h0 h1 hc hn => simp only [List.length_append, List.length_take, List.length_drop, List.length_cons, List.length_nil]; omega
theorem good_low {w w' : List Nat} {xs : List V} (h : Good w xs w') (hl : Low w) : Low w' := by
  cases h with
  | put h0 h1 hc => exact low_app (low_app (low_take _ hl) (low_one hc)) (low_drop _ hl)
  | cut h0 h1 => exact low_app (low_take _ hl) (low_drop _ hl)
  | turn h0 h1 hc hn => exact low_app (low_app (low_take _ hl) (low_one hc)) (low_drop _ hl)
def RetE (C : Addr) (H : Hp) (E : XK) : Prop := ∀ H2, Ex H H2 → E (.ref C) none H2
def IsL (v : V) : Prop := ∃ c, v = tx [c] ∧ 97 ≤ c ∧ c < 123
def sp_is_letter (K : PySem.W.Frag) : Sp := fun vs H Q _ => ∃ v, vs = [v] ∧ Any v H ∧ (IsL v → RetV (.bl true) H Q) ∧ (¬ IsL v → RetV (.bl false) H Q)
def sp_is_whole (K : PySem.W.Frag) : Sp := fun vs H Q _ => ∃ v, vs = [v] ∧ Any v H ∧ RetV (.bl (isI v)) H Q
def sp_law_whole (K : PySem.W.Frag) : Sp := sp_is_whole K
def sp_need_change (K : PySem.W.Frag) (C : Addr) : Sp := fun vs H Q E => ∃ w v, vs = [tx w, v] ∧ w.length ≤ 900 ∧ Chg v H ∧ ((∃ w', GoodV w v H w') → RetV .non H Q) ∧ ((¬ ∃ w', GoodV w v H w') → RetE C H E)
def sp_done (K : PySem.W.Frag) (C : Addr) : Sp := fun vs H Q E => ∃ w v, vs = [tx w, v] ∧ w.length ≤ 900 ∧ Chg v H ∧ (∀ w', GoodV w v H w' → RetV (tx w') H Q) ∧ ((¬ ∃ w', GoodV w v H w') → RetE C H E)
def sp_law_step (K : PySem.W.Frag) : Sp := fun vs H Q _ => ∃ w v, vs = [tx w, v] ∧ w.length ≤ 900 ∧ Chg v H ∧ (∀ w', GoodV w v H w' → RetV (tx w') H Q) ∧ ((¬ ∃ w', GoodV w v H w') → RetV .non H Q)
/- is_letter(thing): slots 0:thing -/
def T_is_letter (K : PySem.W.Frag) : TS :=
 (tRet (tAndV (tCB (nIsi K) (tCons (tVar 0) (tCons (tC (.ty "str")) tNil))) (tAndV (tOp nEq (tCB nLenS (tCons (tVar 0) tNil)) (tC (.int 1))) (tOp nInS (tVar 0) (tC (tx abc))))))
def n_is_letter : Nat := 1
/- is_whole(thing): slots 0:thing -/
def T_is_whole (K : PySem.W.Frag) : TS :=
 (tRet (tAndV (tCB (nIsi K) (tCons (tVar 0) (tCons (tC (.ty "int")) tNil))) (tNotV (tCB (nIsi K) (tCons (tVar 0) (tCons (tC (.ty "bool")) tNil))))))
def n_is_whole : Nat := 1
/- need_change(text, change): slots 0:text 1:change 2:beyond -/
def T_need_change (K : PySem.W.Frag) (C_BadChange : Addr) (E : XK) : TS :=
 (tSeq (tIfS (tOr (tNot (tB (tCB (nIsi K) (tCons (tVar 1) (tCons (tC (.ty "tuple")) tNil))))) (tOr (tTest (tOp nLt (tCB (nLenL K) (tCons (tVar 1) tNil)) (tC (.int 2)))) (tNot (tB (tCB (nIsi K) (tCons (tOp (nIxT K) (tVar 1) (tC (.int 0))) (tCons (tC (.ty "str")) tNil)))))))
 (tRaise E (.ref C_BadChange)) tNext)
 (tSeq (tIfS (tTest (tOp nNe (tCB (nLenL K) (tCons (tVar 1) tNil)) (tDGet2 (tDisp [((tC (tx [112, 117, 116])), (tC (.int 3))), ((tC (tx [99, 117, 116])), (tC (.int 2))), ((tC (tx [116, 117, 114, 110])), (tC (.int 3)))]) (tOp (nIxT K) (tVar 1) (tC (.int 0))) (tC (.int 0)))))
 (tRaise E (.ref C_BadChange)) tNext)
 (tSeq (tAsg (tCB nLenS (tCons (tVar 0) tNil)) (gName 2))
 (tSeq (tIfS (tTest (tOp nEq (tOp (nIxT K) (tVar 1) (tC (.int 0))) (tC (tx [112, 117, 116]))))
 (tAug 2 (tC (.int 1)) (ipI (fun i j => i + j))) tNext)
 (tSeq (tIfS (tOr (tNot (tB (tCall (sp_is_whole K) [] E0 (tCons (tOp (nIxT K) (tVar 1) (tC (.int 1))) tNil)))) (tNot (tTest (tChain nLe nLt (tC (.int 0)) (tOp (nIxT K) (tVar 1) (tC (.int 1))) (tVar 2)))))
 (tRaise E (.ref C_BadChange)) tNext)
 (tSeq (tIfS (tAnd (tTest (tOp nNe (tOp (nIxT K) (tVar 1) (tC (.int 0))) (tC (tx [99, 117, 116])))) (tNot (tB (tCall (sp_is_letter K) [] E0 (tCons (tOp (nIxT K) (tVar 1) (tC (.int 2))) tNil)))))
 (tRaise E (.ref C_BadChange)) tNext)
 (tIfS (tAnd (tTest (tOp nEq (tOp (nIxT K) (tVar 1) (tC (.int 0))) (tC (tx [116, 117, 114, 110])))) (tTest (tOp nEq (tOp (nIxT K) (tVar 1) (tC (.int 2))) (tOp nIxS (tVar 0) (tOp (nIxT K) (tVar 1) (tC (.int 1)))))))
 (tRaise E (.ref C_BadChange)) tNext)))))))
def n_need_change : Nat := 3
/- done(text, change): slots 0:text 1:change 2:place -/
def T_done (K : PySem.W.Frag) (C_BadChange : Addr) (E : XK) : TS :=
 (tSeq (tDrop (tCall (sp_need_change K C_BadChange) [] E (tCons (tVar 0) (tCons (tVar 1) tNil))))
 (tSeq (tAsg (tOp (nIxT K) (tVar 1) (tC (.int 1))) (gName 2))
 (tSeq (tIfS (tTest (tOp nEq (tOp (nIxT K) (tVar 1) (tC (.int 0))) (tC (tx [112, 117, 116]))))
 (tRet (tOp nCat (tOp nCat (tSl nSlS (tVar 0) tNoPart (tPart (tVar 2))) (tOp (nIxT K) (tVar 1) (tC (.int 2)))) (tSl nSlS (tVar 0) (tPart (tVar 2)) tNoPart))) tNext)
 (tSeq (tIfS (tTest (tOp nEq (tOp (nIxT K) (tVar 1) (tC (.int 0))) (tC (tx [99, 117, 116]))))
 (tRet (tOp nCat (tSl nSlS (tVar 0) tNoPart (tPart (tVar 2))) (tSl nSlS (tVar 0) (tPart (tOp nAdd (tVar 2) (tC (.int 1)))) tNoPart))) tNext)
 (tRet (tOp nCat (tOp nCat (tSl nSlS (tVar 0) tNoPart (tPart (tVar 2))) (tOp (nIxT K) (tVar 1) (tC (.int 2)))) (tSl nSlS (tVar 0) (tPart (tOp nAdd (tVar 2) (tC (.int 1)))) tNoPart)))))))
def n_done : Nat := 3
/- _law_whole(_law_thing): slots 0:_law_thing -/
def T_law_whole (K : PySem.W.Frag) : TS :=
 (tRet (tAndV (tCB (nIsi K) (tCons (tVar 0) (tCons (tC (.ty "int")) tNil))) (tNotV (tCB (nIsi K) (tCons (tVar 0) (tCons (tC (.ty "bool")) tNil))))))
def n_law_whole : Nat := 1
/- _law_step(_law_text, _law_change_here): slots 0:_law_text 1:_law_change_here 2:_law_place 3:_law_letter_here -/
def T_law_step (K : PySem.W.Frag) : TS :=
 (tSeq (tIfS (tOr (tNot (tB (tCB (nIsi K) (tCons (tVar 1) (tCons (tC (.ty "tuple")) tNil))))) (tOr (tTest (tOp nLt (tCB (nLenL K) (tCons (tVar 1) tNil)) (tC (.int 2)))) (tOr (tTest (tOp nGt (tCB (nLenL K) (tCons (tVar 1) tNil)) (tC (.int 3)))) (tNot (tB (tCall (sp_law_whole K) [] E0 (tCons (tOp (nIxT K) (tVar 1) (tC (.int 1))) tNil)))))))
 (tRet (tC .non)) tNext)
 (tSeq (tAsg (tOp (nIxT K) (tVar 1) (tC (.int 1))) (gName 2))
 (tSeq (tIfS (tTest (tOp nEq (tCB (nLenL K) (tCons (tVar 1) tNil)) (tC (.int 2))))
 (tSeq (tIfS (tOr (tTest (tOp nNeS (tOp (nIxT K) (tVar 1) (tC (.int 0))) (tC (tx [99, 117, 116])))) (tNot (tTest (tChain nLe nLt (tC (.int 0)) (tVar 2) (tCB nLenS (tCons (tVar 0) tNil))))))
 (tRet (tC .non)) tNext)
 (tRet (tOp nCat (tSl nSlS (tVar 0) tNoPart (tPart (tVar 2))) (tSl nSlS (tVar 0) (tPart (tOp nAdd (tVar 2) (tC (.int 1)))) tNoPart)))) tNext)
 (tSeq (tAsg (tOp (nIxT K) (tVar 1) (tC (.int 2))) (gName 3))
 (tSeq (tIfS (tOr (tNot (tB (tCB (nIsi K) (tCons (tVar 3) (tCons (tC (.ty "str")) tNil))))) (tOr (tTest (tOp nNe (tCB nLenS (tCons (tVar 3) tNil)) (tC (.int 1)))) (tTest (tOp nNotInS (tVar 3) (tC (tx abc))))))
 (tRet (tC .non)) tNext)
 (tSeq (tIfS (tAnd (tTest (tOp nEqS (tOp (nIxT K) (tVar 1) (tC (.int 0))) (tC (tx [112, 117, 116])))) (tTest (tChain nLe nLe (tC (.int 0)) (tVar 2) (tCB nLenS (tCons (tVar 0) tNil)))))
 (tRet (tOp nCat (tOp nCat (tSl nSlS (tVar 0) tNoPart (tPart (tVar 2))) (tVar 3)) (tSl nSlS (tVar 0) (tPart (tVar 2)) tNoPart))) tNext)
 (tSeq (tIfS (tAnd (tTest (tOp nEqS (tOp (nIxT K) (tVar 1) (tC (.int 0))) (tC (tx [116, 117, 114, 110])))) (tAnd (tTest (tChain nLe nLt (tC (.int 0)) (tVar 2) (tCB nLenS (tCons (tVar 0) tNil)))) (tTest (tOp nNe (tOp nIxS (tVar 0) (tVar 2)) (tVar 3)))))
 (tRet (tOp nCat (tOp nCat (tSl nSlS (tVar 0) tNoPart (tPart (tVar 2))) (tVar 3)) (tSl nSlS (tVar 0) (tPart (tOp nAdd (tVar 2) (tC (.int 1)))) tNoPart))) tNext)
 (tRet (tC .non)))))))))
def n_law_step : Nat := 4
theorem l_is_letter {K vs H Q E} (h : sp_is_letter K vs H Q E) : vs.length = 1 := by obtain ⟨v, rfl, _⟩ := h; rfl
theorem l_is_whole {K vs H Q E} (h : sp_is_whole K vs H Q E) : vs.length = 1 := by obtain ⟨v, rfl, _⟩ := h; rfl
theorem l_law_whole {K vs H Q E} (h : sp_law_whole K vs H Q E) : vs.length = 1 := l_is_whole h
theorem l_need_change {K C vs H Q E} (h : sp_need_change K C vs H Q E) : vs.length = 2 := by obtain ⟨w, v, rfl, _⟩ := h; rfl
theorem l_done {K C vs H Q E} (h : sp_done K C vs H Q E) : vs.length = 2 := by obtain ⟨w, v, rfl, _⟩ := h; rfl
theorem l_law_step {K vs H Q E} (h : sp_law_step K vs H Q E) : vs.length = 2 := by obtain ⟨w, v, rfl, _⟩ := h; rfl
section
variable {K : PySem.W.Frag} {vs : List V} {H : Hp} {Q : VK} {E : XK} {C : Addr}
theorem R_is_whole (h : sp_is_whole K vs H Q E) : T_is_whole K (fin Q) (slots n_is_whole vs) H := by
  obtain ⟨v, rfl, ha, k⟩ := h
  show T_is_whole K (fin Q) [some v] H
  unfold T_is_whole
  obtain ⟨b, c, h1, h2, h3⟩ := e_isInt (K := K) (σ := [some v]) (ta := tVar 0) (ev_var rfl) ha
  exact s_ret (ev_is (ev_andV h1 fun _ => ev_notV h2) (by rw [h3])) k
theorem R_law_whole (h : sp_law_whole K vs H Q E) : T_law_whole K (fin Q) (slots n_law_whole vs) H := R_is_whole h
theorem R_is_letter (h : sp_is_letter K vs H Q E) : T_is_letter K (fin Q) (slots n_is_letter vs) H := by
  obtain ⟨v, rfl, ha, k1, k2⟩ := h
  show T_is_letter K (fin Q) [some v] H
  unfold T_is_letter
  rcases ha with ⟨w, rfl, hl⟩ | ho
  · by_cases h1 : w.length = 1
    · obtain ⟨c, rfl⟩ := List.length_eq_one_iff.mp h1
      refine s_ret (ev_andV (e_isStr (ev_var rfl)) fun _ => ev_andV (e_eq (e_lenS (ev_var rfl) (by omega)) ev_c .ii) fun _ => e_inS (ev_var rfl) ev_c) fun H2 e2 => ?_
      by_cases hc : c ∈ abc
      · have h := k1 ⟨c, rfl, mem_abc.mp hc⟩ H2 e2
        simpa [hc] using h
      · have h := k2 (fun ⟨d, hd, hm⟩ => hc (by
          have e := tx_inj.mp hd
          injection e with e1 _
          subst e1
          exact mem_abc.mpr hm)) H2 e2
        simpa [hc] using h
    · refine s_ret (ev_is (ev_andV (e_isStr (ev_var rfl)) fun _ => ev_andV (b := false) (e_eq (e_lenS (ev_var rfl) (by omega)) ev_c .ii) fun hh => absurd (of_decide_eq_true hh) (by omega)) (by simp)) (k2 fun ⟨d, hd, _⟩ => h1 (by rw [tx_inj.mp hd]; rfl))
  · refine s_ret (ev_is (ev_andV (b := false) (e_isOdd (ev_var rfl) ho) fun hh => by cases hh) (by rfl)) (k2 fun ⟨d, hd, _⟩ => ?_)
    subst hd
    rcases ho with h | ⟨i, h⟩ | ⟨b, h⟩ | ⟨p, h, _⟩ <;> cases h
/-! ### need_change -/
def nOf (w : List Nat) : Int := if w = wPut then 3 else if w = wCut then 2 else if w = wTurn then 3 else 0
def kinds : List (Key × V) := [(.inr ⟨wPut.toArray⟩, .int 3), (.inr ⟨wCut.toArray⟩, .int 2), (.inr ⟨wTurn.toArray⟩, .int 3)]
theorem key_ne {a b : List Nat} (h : ¬ b = a) : ¬ (Sum.inr ⟨a.toArray⟩ : Key) = Sum.inr ⟨b.toArray⟩ := fun z => h (tx_inj.mp (congrArg V.str (Sum.inr.inj z))).symm
theorem kinds_at (w : List Nat) : (valV kinds (.inr ⟨w.toArray⟩)).getD (.int 0) = .int (nOf w) := by
  unfold kinds nOf
  by_cases h1 : w = wPut
  · rw [if_pos h1, h1, valV_pos rfl]; rfl
  rw [if_neg h1, valV_neg (key_ne h1)]
  by_cases h2 : w = wCut
  · rw [if_pos h2, h2, valV_pos rfl]; rfl
  rw [if_neg h2, valV_neg (key_ne h2)]
  by_cases h3 : w = wTurn
  · rw [if_pos h3, h3, valV_pos rfl]; rfl
  rw [if_neg h3, valV_neg (key_ne h3), valV_nil]; rfl
theorem kinds_merge : mergeK [] kinds = kinds := by decide +kernel
theorem e_kinds {σ : L2.St} {tk : TE} {w : List Nat} (h : Ev tk σ H (tx w)) :
    Ev (tDGet2 (tDisp [((tC (tx [112, 117, 116])), (tC (.int 3))), ((tC (tx [99, 117, 116])), (tC (.int 2))), ((tC (tx [116, 117, 114, 110])), (tC (.int 3)))]) tk (tC (.int 0))) σ H (.int (nOf w)) := fun H1 e Q q p hp => by
  refine ⟨upd_same, kinds, rfl, by decide, p, rfl, .inl ⟨_, .inl upd_same⟩, ?_⟩
  rw [upd_upd]
  refine h _ (e.trans (Ex.new hp)) _ fun H2 e2 => ⟨_, DGet.k (k := .inr ⟨w.toArray⟩) (e2 _ _ upd_same), ?_⟩
  rw [kinds_merge, kinds_at]
  exact q H2 ((Ex.new hp).trans e2)
theorem raise_ok {σ : L2.St} {H' : Hp} {D : Ends} (k : RetE C H E) (e : Ex H H') : tRaise E (.ref C) D σ H' := k H' e
theorem sq_tup {p : Addr} {xs : List V} {H H' : Hp} (e : Ex H H') (h : H p = some (.tup xs)) : SqT K H' p xs := .inl (.inl (e _ _ h))
theorem e_item {σ : L2.St} {ta : TE} {p : Addr} {xs : List V} {v : V} {k : Int} (ha : Ev ta σ H (.ref p)) (h : H p = some (.tup xs)) (hv : atI xs k = some v) : Ev (tOp (nIxT K) ta (tC (.int k))) σ H v :=
  e_ixT ha ev_c (sq_tup (Ex.refl H) h) hv
/-- 0 <= a < b -/
theorem e_chain {σ : L2.St} {ta tb tc : TE} {i j m : Int} (ha : Ev ta σ H (.int i)) (hb : Ev tb σ H (.int j)) (hc : Ev tc σ H (.int m)) : Ev (tChain nLe nLt ta tb tc) σ H (.bl (decide (i ≤ j ∧ j < m))) := fun H1 e Q q =>
  ha H1 e _ fun H2 e2 => hb H2 (e.trans e2) _ fun H3 e3 => ⟨i, j, rfl, rfl, _, rfl, by
    by_cases h : i ≤ j
    · rw [decide_eq_true h, if_pos rfl]
      refine hc H3 ((e.trans e2).trans e3) _ fun H4 e4 => ⟨j, m, rfl, rfl, ?_⟩
      have q1 := q H4 ((e2.trans e3).trans e4)
      rw [dec_eq (show i ≤ j ∧ j < m ↔ j < m from ⟨fun z => z.2, fun z => ⟨h, z⟩⟩)] at q1
      exact q1
    · rw [decide_eq_false h, if_neg (by decide)]
      have q1 := q H3 (e2.trans e3)
      rw [decide_eq_false (fun z => h z.1)] at q1
      exact q1⟩
theorem e_chain2 {σ : L2.St} {ta tb tc : TE} {i j m : Int} (ha : Ev ta σ H (.int i)) (hb : Ev tb σ H (.int j)) (hc : Ev tc σ H (.int m)) : Ev (tChain nLe nLe ta tb tc) σ H (.bl (decide (i ≤ j ∧ j ≤ m))) := fun H1 e Q q =>
  ha H1 e _ fun H2 e2 => hb H2 (e.trans e2) _ fun H3 e3 => ⟨i, j, rfl, rfl, _, rfl, by
    by_cases h : i ≤ j
    · rw [decide_eq_true h, if_pos rfl]
      refine hc H3 ((e.trans e2).trans e3) _ fun H4 e4 => ⟨j, m, rfl, rfl, ?_⟩
      have q1 := q H4 ((e2.trans e3).trans e4)
      rw [dec_eq (show i ≤ j ∧ j ≤ m ↔ j ≤ m from ⟨fun z => z.2, fun z => ⟨h, z⟩⟩)] at q1
      exact q1
    · rw [decide_eq_false h, if_neg (by decide)]
      have q1 := q H3 (e2.trans e3)
      rw [decide_eq_false (fun z => h z.1)] at q1
      exact q1⟩
theorem good_head {w w' : List Nat} {xs : List V} (h : Good w xs w') : ∃ a i r, xs = tx a :: .int i :: r ∧ 0 ≤ i ∧ (xs.length : Int) = nOf a := by
  cases h with
  | put h0 h1 hc => exact ⟨_, _, _, rfl, h0, rfl⟩
  | cut h0 h1 => exact ⟨_, _, _, rfl, h0, rfl⟩
  | turn h0 h1 hc hn => exact ⟨_, _, _, rfl, h0, rfl⟩
theorem no_good {w : List Nat} {v : V} {xs : List V} {H1 : Hp} (e : Ex H H1) (ht : Tup v xs H) (h : ∀ w', ¬ Good w xs w') : ¬ ∃ w', GoodV w v H w' := fun ⟨w', ys, ht', hg⟩ => h w' (by
  rw [tup_inj (Ex.refl H) ht ht']
  exact hg)
theorem isI_int {v : V} (h : isI v = true) : ∃ i, v = .int i := by
  cases v <;> first | exact ⟨_, rfl⟩ | cases h
/-- the last tests, from the place's on: m is how many places there are -/
theorem R_change_end {w : List Nat} {a : List Nat} {b : V} {r : List V} {p : Addr} {m : Int} {D : Ends} (hw : w.length ≤ 900) (hp : H p = some (.tup (tx a :: b :: r))) (hlen : ((tx a :: b :: r).length : Int) = nOf a) (hany : ∀ x ∈ (tx a :: b :: r), Any x H)
    (hm : m = (w.length : Int) + (if a = wPut then 1 else 0)) (kQ : (∃ w', Good w (tx a :: b :: r) w') → ∀ H2, Ex H H2 → D.nx [some (tx w), some (.ref p), some (.int m)] H2) (kE : (¬ ∃ w', Good w (tx a :: b :: r) w') → RetE C H E) :
    (tSeq (tIfS (tOr (tNot (tB (tCall (sp_is_whole K) [] E0 (tCons (tOp (nIxT K) (tVar 1) (tC (.int 1))) tNil)))) (tNot (tTest (tChain nLe nLt (tC (.int 0)) (tOp (nIxT K) (tVar 1) (tC (.int 1))) (tVar 2)))))
 (tRaise E (.ref C)) tNext)
 (tSeq (tIfS (tAnd (tTest (tOp nNe (tOp (nIxT K) (tVar 1) (tC (.int 0))) (tC (tx [99, 117, 116])))) (tNot (tB (tCall (sp_is_letter K) [] E0 (tCons (tOp (nIxT K) (tVar 1) (tC (.int 2))) tNil)))))
 (tRaise E (.ref C)) tNext)
 (tIfS (tAnd (tTest (tOp nEq (tOp (nIxT K) (tVar 1) (tC (.int 0))) (tC (tx [116, 117, 114, 110])))) (tTest (tOp nEq (tOp (nIxT K) (tVar 1) (tC (.int 2))) (tOp nIxS (tVar 0) (tOp (nIxT K) (tVar 1) (tC (.int 1)))))))
 (tRaise E (.ref C)) tNext))) D [some (tx w), some (.ref p), some (.int m)] H := by
  have hb : Any b H := hany b (by simp)
  have g0 : atI (tx a :: b :: r) 0 = some (tx a) := atI_nat (j := 0) rfl
  have g1 : atI (tx a :: b :: r) 1 = some b := atI_nat (j := 1) rfl
  have ew : ∀ H', Ex H H' → Ev (tCall (sp_is_whole K) [] E0 (tCons (tOp (nIxT K) (tVar 1) (tC (.int 1))) tNil)) [some (tx w), some (.ref p), some (.int m)] H' (.bl (isI b)) := fun H' e' =>
    ev_call (ea_cons (e_item (ev_var rfl) (e' _ _ hp) g1) ea_nil) fun H1 e Q q E => ⟨b, rfl, any_up _ _ _ (e'.trans e) hb, fun H2 e2 => q H2 e2⟩
  -- not is_whole(change[1]) or not 0 <= change[1] < beyond
  cases hI : isI b with
  | false =>
    refine q_when (b := true) (et_is (et_or (b := true) (et_not (et_B (ew H (Ex.refl H)))) fun hh => by rw [hI] at hh; cases hh) (by simp)) (fun _ H1 e1 => ?_) (fun hh => by cases hh)
    refine raise_ok (kE fun ⟨w', hg⟩ => ?_) e1
    obtain ⟨a', i, r', he, _⟩ := good_head hg
    injection he with h1 h2
    injection h2 with h3 h4
    rw [h3] at hI
    cases hI
  | true =>
  obtain ⟨i, rfl⟩ := isI_int hI
  refine q_when (b := !decide (0 ≤ i ∧ i < m)) (et_is (et_or (et_not (et_B (ew H (Ex.refl H)))) fun _ => et_not (et_test (e_chain ev_c (e_item (ev_var rfl) hp g1) (ev_var rfl)))) (by rw [hI]; rfl)) (fun hh H1 e1 => ?_) (fun hh H1 e1 => ?_)
  · have hno : ¬ (0 ≤ i ∧ i < m) := nd hh
    refine raise_ok (kE fun ⟨w', hg⟩ => hno ?_) e1
    rw [hm]
    cases hg with
    | put h0 h1 hc => exact ⟨h0, by rw [if_pos rfl]; omega⟩
    | cut h0 h1 => exact ⟨h0, by rw [if_neg (by decide)]; omega⟩
    | turn h0 h1 hc hn => exact ⟨h0, by rw [if_neg (by decide)]; omega⟩
  have him : 0 ≤ i ∧ i < m := by simpa using hh
  obtain ⟨hi0, him⟩ := him
  have hp1 := e1 _ _ hp
  -- change[0] != "cut" and not is_letter(change[2])
  by_cases hcut : a = wCut
  · subst hcut
    have hr : r = [] := by
      have e : ((tx wCut :: V.int i :: r).length : Int) = 2 := hlen
      simp only [List.length_cons] at e
      exact List.length_eq_zero_iff.mp (by omega)
    subst hr
    rw [if_neg (by decide)] at hm
    refine q_when (b := false) (et_is (et_and (b := false) (et_test (e_ne (e_item (ev_var rfl) hp1 g0) ev_c .ss)) fun hh => by simp at hh) (by simp)) (fun hh => by cases hh) (fun _ H2 e2 => ?_)
    refine s_when (b := false) (et_is (et_and (b := false) (et_test (e_eq (e_item (ev_var rfl) (e2 _ _ hp1) g0) ev_c .ss)) fun hh => by simp at hh) (by simp)) (fun hh => by cases hh) (fun _ H3 e3 => ?_)
    exact kQ ⟨_, .cut hi0 (by omega)⟩ _ ((e1.trans e2).trans e3)
  -- a third item
  have h3 : a = wPut ∨ a = wTurn := by
    unfold nOf at hlen
    by_cases hp' : a = wPut
    · exact .inl hp'
    · rw [if_neg hp', if_neg hcut] at hlen
      by_cases ht' : a = wTurn
      · exact .inr ht'
      · rw [if_neg ht'] at hlen
        simp only [List.length_cons] at hlen
        omega
  have hl3 : nOf a = 3 := by rcases h3 with rfl | rfl <;> rfl
  obtain ⟨c, rfl⟩ : ∃ c, r = [c] := List.length_eq_one_iff.mp (by
    rw [hl3] at hlen
    simp only [List.length_cons] at hlen
    omega)
  have hc : Any c H := hany c (by simp)
  have g2 : atI (tx a :: V.int i :: [c]) 2 = some c := atI_nat (j := 2) rfl
  by_cases hL : IsL c
  · have el : Ev (tCall (sp_is_letter K) [] E0 (tCons (tOp (nIxT K) (tVar 1) (tC (.int 2))) tNil)) [some (tx w), some (.ref p), some (.int m)] H1 (.bl true) :=
      ev_call (ea_cons (e_item (ev_var rfl) hp1 g2) ea_nil) fun H2 e Q q E => ⟨c, rfl, any_up _ _ _ (e1.trans e) hc, fun _ H3 e3 => q H3 e3, fun hn => absurd hL hn⟩
    refine q_when (b := false) (et_is (et_and (et_test (e_ne (e_item (ev_var rfl) hp1 g0) ev_c .ss)) fun hh => et_not (et_B el)) (by simp)) (fun hh => by cases hh) (fun _ H2 e2 => ?_)
    obtain ⟨l, rfl, hl⟩ := hL
    have hp2 := e2 _ _ hp1
    rcases h3 with rfl | rfl
    · rw [if_pos rfl] at hm
      refine s_when (b := false) (et_is (et_and (b := false) (et_test (e_eq (e_item (ev_var rfl) hp2 g0) ev_c .ss)) fun hh => by simp at hh) (by simp)) (fun hh => by cases hh) (fun _ H3 e3 => ?_)
      exact kQ ⟨_, .put hi0 (by omega) hl⟩ _ ((e1.trans e2).trans e3)
    · rw [if_neg (by decide)] at hm
      have hlt : i.toNat < w.length := by omega
      refine s_when (b := decide (l = w[i.toNat])) (et_is (et_and (et_test (e_eq (e_item (ev_var rfl) hp2 g0) ev_c .ss)) fun _ => et_test (e_eq (e_item (ev_var rfl) hp2 g2) (e_ixS (ev_var rfl) (e_item (ev_var rfl) hp2 g1) (by omega) (atI_in hi0 (List.getElem?_eq_getElem hlt))) .ss)) (by simp)) (fun hh H3 e3 => ?_) (fun hh H3 e3 => ?_)
      · have e := of_decide_eq_true hh
        refine raise_ok (kE fun ⟨w', hg⟩ => ?_) ((e1.trans e2).trans e3)
        cases hg with
        | turn h0 h1 hc hn => exact hn (by rw [e, List.getElem?_eq_getElem hlt])
      · have e := of_decide_eq_false hh
        exact kQ ⟨_, .turn hi0 (by omega) hl (by rw [List.getElem?_eq_getElem hlt]; exact fun z => e (Option.some.inj z).symm)⟩ _ ((e1.trans e2).trans e3)
  · have el : Ev (tCall (sp_is_letter K) [] E0 (tCons (tOp (nIxT K) (tVar 1) (tC (.int 2))) tNil)) [some (tx w), some (.ref p), some (.int m)] H1 (.bl false) :=
      ev_call (ea_cons (e_item (ev_var rfl) hp1 g2) ea_nil) fun H2 e Q q E => ⟨c, rfl, any_up _ _ _ (e1.trans e) hc, fun hn => absurd hn hL, fun _ H3 e3 => q H3 e3⟩
    refine q_when (b := true) (et_is (et_and (et_test (e_ne (e_item (ev_var rfl) hp1 g0) ev_c .ss)) fun hh => et_not (et_B el)) (by simp [hcut])) (fun _ H2 e2 => ?_) (fun hh => by cases hh)
    refine raise_ok (kE fun ⟨w', hg⟩ => hL ?_) (e1.trans e2)
    cases hg with
    | put h0 h1 hcc => exact ⟨_, rfl, hcc⟩
    | turn h0 h1 hcc hn => exact ⟨_, rfl, hcc⟩
theorem R_need_change (h : sp_need_change K C vs H Q E) : T_need_change K C E (fin Q) (slots n_need_change vs) H := by
  obtain ⟨w, v, rfl, hw, hc, kQ, kE⟩ := h
  show T_need_change K C E (fin Q) [some (tx w), some v, none] H
  unfold T_need_change
  rcases hc with ⟨xs, ht, hl, ha⟩ | hn
  · have hgood : (∃ w', Good w xs w') → ∃ w', GoodV w v H w' := fun ⟨w', hg⟩ => ⟨w', xs, ht, hg⟩
    have kE' : (∀ w', ¬ Good w xs w') → RetE C H E := fun hno => kE (no_good (Ex.refl H) ht hno)
    obtain ⟨p, rfl, hp⟩ := ht
    have elen : ∀ {H' : Hp} {σ : L2.St}, Ex H H' → σ[1]? = some (some (.ref p)) → Ev (tCB (nLenL K) (tCons (tVar 1) tNil)) σ H' (.int (xs.length : Int)) := fun e hσ => e_lenT (ev_var hσ) (sq_tup e hp)
    -- not isinstance(change, tuple) or len(change) < 2 or not isinstance(change[0], str)
    by_cases h2 : xs.length < 2
    · refine q_when (b := true) (et_is (et_or (et_not (et_B (e_isTup (ev_var rfl) ⟨p, rfl, hp⟩))) fun _ => et_or (b := true) (et_test (e_lt (elen (Ex.refl H) rfl) ev_c)) fun hh => absurd (of_decide_eq_false hh) (by omega)) (by simp)) (fun _ H1 e1 => ?_) (fun hh => by cases hh)
      refine raise_ok (kE' fun w' hg => ?_) e1
      obtain ⟨a, i, r, rfl, _⟩ := good_head hg
      simp only [List.length_cons] at h2
      omega
    obtain ⟨a0, b, r, rfl⟩ : ∃ a0 b r, xs = a0 :: b :: r := by
      match xs, h2 with
      | a0 :: b :: r, _ => exact ⟨a0, b, r, rfl⟩
      | [_], h => exact absurd (by simp) h
      | [], h => exact absurd (by simp) h
    have g0 : atI (a0 :: b :: r) 0 = some a0 := atI_nat (j := 0) rfl
    rcases ha a0 (by simp) with ⟨a, rfl, hla⟩ | ho
    · refine q_when (b := false) (et_is (et_or (et_not (et_B (e_isTup (ev_var rfl) ⟨p, rfl, hp⟩))) fun _ => et_or (et_test (e_lt (elen (Ex.refl H) rfl) ev_c)) fun _ => et_not (et_B (e_isStr (e_item (ev_var rfl) hp g0)))) (by simp; omega)) (fun hh => by cases hh) (fun _ H1 e1 => ?_)
      -- len(change) != {..}.get(change[0], 0)
      refine q_when (b := !decide (((tx a :: b :: r).length : Int) = nOf a)) (et_test (e_ne (elen e1 rfl) (e_kinds (e_item (ev_var rfl) (e1 _ _ hp) g0)) .ii)) (fun hh H2 e2 => ?_) (fun hh H2 e2 => ?_)
      · have hne : ¬ ((tx a :: b :: r).length : Int) = nOf a := by simpa using hh
        refine raise_ok (kE' fun w' hg => hne ?_) (e1.trans e2)
        obtain ⟨a', i, r', he, _, hlen⟩ := good_head hg
        injection he with h1 h2
        rw [tx_inj.mp h1]
        exact hlen
      have hlen : ((tx a :: b :: r).length : Int) = nOf a := by simpa using hh
      have e12 := e1.trans e2
      refine q_asg (e_lenS (ev_var rfl) (by omega)) fun H3 e3 => ?_
      have e13 := e12.trans e3
      by_cases hpt : a = wPut
      · refine q_when (b := true) (et_is (et_test (e_eq (e_item (ev_var rfl) (e13 _ _ hp) g0) ev_c .ss)) (by simp [hpt])) (fun _ H4 e4 => ?_) (fun hh => by cases hh)
        refine s_aug rfl ev_c fun H5 e5 => ?_
        have e15 := (e13.trans e4).trans e5
        exact R_change_end hw (e15 _ _ hp) hlen (fun x hx => any_up _ _ _ e15 (ha x hx)) (by rw [if_pos hpt]) (fun hg H6 e6 => kQ (hgood hg) _ (e15.trans e6)) (fun hno H6 e6 => kE' (fun w' hg => hno ⟨w', hg⟩) _ (e15.trans e6))
      · refine q_when (b := false) (et_is (et_test (e_eq (e_item (ev_var rfl) (e13 _ _ hp) g0) ev_c .ss)) (by simp [hpt])) (fun hh => by cases hh) (fun _ H4 e4 => ?_)
        have e15 := e13.trans e4
        exact R_change_end hw (e15 _ _ hp) hlen (fun x hx => any_up _ _ _ e15 (ha x hx)) (by rw [if_neg hpt]; omega) (fun hg H6 e6 => kQ (hgood hg) _ (e15.trans e6)) (fun hno H6 e6 => kE' (fun w' hg => hno ⟨w', hg⟩) _ (e15.trans e6))
    · refine q_when (b := true) (et_is (et_or (et_not (et_B (e_isTup (ev_var rfl) ⟨p, rfl, hp⟩))) fun _ => et_or (b := true) (et_test (e_lt (elen (Ex.refl H) rfl) ev_c)) fun hh => et_not (et_B (e_isOdd (e_item (ev_var rfl) hp g0) ho))) (by simp)) (fun _ H1 e1 => ?_) (fun hh => by cases hh)
      refine raise_ok (kE' fun w' hg => ?_) e1
      obtain ⟨a', i, r', he, _⟩ := good_head hg
      injection he with h1 h2
      rw [h1] at ho
      rcases ho with h | ⟨i, h⟩ | ⟨b, h⟩ | ⟨p, h, _⟩ <;> cases h
  · refine q_when (b := true) (et_is (et_or (et_not (et_B (e_noTup (ev_var rfl) hn))) (b := true) fun hh => by cases hh) (by simp)) (fun _ H1 e1 => ?_) (fun hh => by cases hh)
    exact raise_ok (kE fun ⟨w', xs, ht, hg⟩ => noTup_not (Ex.refl H) hn ht) e1
/-! ### done -/
theorem good_of {w : List Nat} {v : V} {H' : Hp} (e : Ex H H') (hc : Chg v H) : (∃ w', GoodV w v H' w') ↔ ∃ w', GoodV w v H w' :=
  ⟨fun ⟨w', h⟩ => ⟨w', goodV_down e hc h⟩, fun ⟨w', h⟩ => ⟨w', goodV_up e h⟩⟩
/-- text[:place] + letter + text[from:] -/
theorem e_glue {σ : L2.St} {tw ti tc tj : TE} {w : List Nat} {i j : Int} {c : Nat} (hw : w.length ≤ 900) (h1 : Ev tw σ H (tx w)) (h2 : Ev ti σ H (.int i)) (h3 : Ev tc σ H (tx [c])) (h4 : Ev tj σ H (.int j)) (hi : 0 ≤ i) (hj : 0 ≤ j) :
    Ev (tOp nCat (tOp nCat (tSl nSlS tw tNoPart (tPart ti)) tc) (tSl nSlS tw (tPart tj) tNoPart)) σ H (tx (w.take i.toNat ++ [c] ++ w.drop j.toNat)) :=
  e_cat (e_cat (e_take h1 h2 (by omega) hi) h3 (by simp only [List.length_take, List.length_cons, List.length_nil]; omega)) (e_drop h1 h4 (by omega) hj) (by simp only [List.length_append, List.length_take, List.length_drop, List.length_cons, List.length_nil]; omega)
theorem e_glue2 {σ : L2.St} {tw ti tj : TE} {w : List Nat} {i j : Int} (hw : w.length ≤ 900) (h1 : Ev tw σ H (tx w)) (h2 : Ev ti σ H (.int i)) (h4 : Ev tj σ H (.int j)) (hi : 0 ≤ i) (hj : 0 ≤ j) :
    Ev (tOp nCat (tSl nSlS tw tNoPart (tPart ti)) (tSl nSlS tw (tPart tj) tNoPart)) σ H (tx (w.take i.toNat ++ w.drop j.toNat)) :=
  e_cat (e_take h1 h2 (by omega) hi) (e_drop h1 h4 (by omega) hj) (by simp only [List.length_append, List.length_take, List.length_drop]; omega)
theorem R_done (h : sp_done K C vs H Q E) : T_done K C E (fin Q) (slots n_done vs) H := by
  obtain ⟨w, v, rfl, hw, hc, kQ, kE⟩ := h
  show T_done K C E (fin Q) [some (tx w), some v, none] H
  unfold T_done
  refine ⟨_, rfl, _, rfl, w, v, rfl, hw, hc, fun ⟨w', hg⟩ H1 e1 => ?_, kE⟩
  have kQ' := kQ w' hg
  obtain ⟨xs, ⟨p, rfl, hp⟩, hg⟩ := hg
  have hp1 := e1 _ _ hp
  show tSeq _ _ (fin Q) [some (tx w), some (.ref p), none] H1
  cases hg with
  | @put i c h0 h1 hcc =>
    refine q_asg (e_item (ev_var rfl) hp1 (atI_nat (j := 1) rfl)) fun H2 e2 => ?_
    refine q_when (b := true) (et_is (et_test (e_eq (e_item (ev_var rfl) (e2 _ _ hp1) (atI_nat (j := 0) rfl)) ev_c .ss)) (by simp)) (fun _ H3 e3 => ?_) (fun hh => by cases hh)
    have hp3 := e3 _ _ (e2 _ _ hp1)
    exact s_ret (e_glue hw (ev_var rfl) (ev_var rfl) (e_item (ev_var rfl) hp3 (atI_nat (j := 2) rfl)) (ev_var rfl) h0 h0) fun H4 e4 => kQ' _ (((e1.trans e2).trans e3).trans e4)
  | @cut i h0 h1 =>
    refine q_asg (e_item (ev_var rfl) hp1 (atI_nat (j := 1) rfl)) fun H2 e2 => ?_
    refine q_when (b := false) (et_is (et_test (e_eq (e_item (ev_var rfl) (e2 _ _ hp1) (atI_nat (j := 0) rfl)) ev_c .ss)) (by simp)) (fun hh => by cases hh) (fun _ H3 e3 => ?_)
    have hp3 := e3 _ _ (e2 _ _ hp1)
    refine q_when (b := true) (et_is (et_test (e_eq (e_item (ev_var rfl) hp3 (atI_nat (j := 0) rfl)) ev_c .ss)) (by simp)) (fun _ H4 e4 => ?_) (fun hh => by cases hh)
    exact s_ret (e_glue2 hw (ev_var rfl) (ev_var rfl) (e_add (ev_var rfl) ev_c) h0 (by omega)) fun H5 e5 => kQ' _ ((((e1.trans e2).trans e3).trans e4).trans e5)
  | @turn i c h0 h1 hcc hn =>
    refine q_asg (e_item (ev_var rfl) hp1 (atI_nat (j := 1) rfl)) fun H2 e2 => ?_
    refine q_when (b := false) (et_is (et_test (e_eq (e_item (ev_var rfl) (e2 _ _ hp1) (atI_nat (j := 0) rfl)) ev_c .ss)) (by simp)) (fun hh => by cases hh) (fun _ H3 e3 => ?_)
    have hp3 := e3 _ _ (e2 _ _ hp1)
    refine q_when (b := false) (et_is (et_test (e_eq (e_item (ev_var rfl) hp3 (atI_nat (j := 0) rfl)) ev_c .ss)) (by simp)) (fun hh => by cases hh) (fun _ H4 e4 => ?_)
    have hp4 := e4 _ _ hp3
    exact s_ret (e_glue hw (ev_var rfl) (ev_var rfl) (e_item (ev_var rfl) hp4 (atI_nat (j := 2) rfl)) (e_add (ev_var rfl) ev_c) h0 (by omega)) fun H5 e5 => kQ' _ ((((e1.trans e2).trans e3).trans e4).trans e5)
/-! ### the law's own step -/
theorem R_law_step (h : sp_law_step K vs H Q E) : T_law_step K (fin Q) (slots n_law_step vs) H := by
  obtain ⟨w, v, rfl, hw, hc, kQ, kN⟩ := h
  show T_law_step K (fin Q) [some (tx w), some v, none, none] H
  unfold T_law_step
  rcases hc with ⟨xs, ht, hl, ha⟩ | hn
  · have kN' : (∀ w', ¬ Good w xs w') → RetV .non H Q := fun hno => kN (no_good (Ex.refl H) ht hno)
    have kQ' : ∀ w', Good w xs w' → RetV (tx w') H Q := fun w' hg => kQ w' ⟨xs, ht, hg⟩
    have lenG : ∀ {w'}, Good w xs w' → xs.length = 2 ∨ xs.length = 3 := fun hg => by
      cases hg
      · exact .inr rfl
      · exact .inl rfl
      · exact .inr rfl
    obtain ⟨p, rfl, hp⟩ := ht
    have elen : ∀ {H' : Hp} {σ : L2.St}, Ex H H' → σ[1]? = some (some (.ref p)) → Ev (tCB (nLenL K) (tCons (tVar 1) tNil)) σ H' (.int (xs.length : Int)) := fun e hσ => e_lenT (ev_var hσ) (sq_tup e hp)
    have eT : EvT (tNot (tB (tCB (nIsi K) (tCons (tVar 1) (tCons (tC (.ty "tuple")) tNil))))) [some (tx w), some (.ref p), none, none] H (!true) := et_not (et_B (e_isTup (ev_var rfl) ⟨p, rfl, hp⟩))
    by_cases h2 : xs.length < 2
    · refine q_when (b := true) (et_is (et_or eT fun _ => et_or (b := true) (et_test (e_lt (elen (Ex.refl H) rfl) ev_c)) fun hh => absurd (of_decide_eq_false hh) (by omega)) (by simp)) (fun _ H1 e1 => ?_) (fun hh => by cases hh)
      exact s_ret ev_c fun H2 e2 => kN' (fun w' hg => by rcases lenG hg with h | h <;> omega) _ (e1.trans e2)
    by_cases h3 : 3 < xs.length
    · refine q_when (b := true) (et_is (et_or eT fun _ => et_or (et_test (e_lt (elen (Ex.refl H) rfl) ev_c)) fun _ => et_or (b := true) (et_test (e_gt (elen (Ex.refl H) rfl) ev_c)) fun hh => absurd (of_decide_eq_false hh) (by omega)) (by simp)) (fun _ H1 e1 => ?_) (fun hh => by cases hh)
      exact s_ret ev_c fun H2 e2 => kN' (fun w' hg => by rcases lenG hg with h | h <;> omega) _ (e1.trans e2)
    obtain ⟨a0, b, r, rfl⟩ : ∃ a0 b r, xs = a0 :: b :: r := by
      match xs, h2 with
      | a0 :: b :: r, _ => exact ⟨a0, b, r, rfl⟩
      | [_], h => exact absurd (by simp) h
      | [], h => exact absurd (by simp) h
    have hb : Any b H := ha b (by simp)
    have hA : Any a0 H := ha a0 (by simp)
    have g0 : atI (a0 :: b :: r) 0 = some a0 := atI_nat (j := 0) rfl
    have g1 : atI (a0 :: b :: r) 1 = some b := atI_nat (j := 1) rfl
    have ew : Ev (tCall (sp_law_whole K) [] E0 (tCons (tOp (nIxT K) (tVar 1) (tC (.int 1))) tNil)) [some (tx w), some (.ref p), none, none] H (.bl (isI b)) :=
      ev_call (ea_cons (e_item (ev_var rfl) hp g1) ea_nil) fun H1 e Q q E => ⟨b, rfl, any_up _ _ _ e hb, fun H2 e2 => q H2 e2⟩
    have d2 : decide (((a0 :: b :: r).length : Int) < 2) = false := decide_eq_false (by omega)
    have d3 : decide ((3 : Int) < ((a0 :: b :: r).length : Int)) = false := decide_eq_false (by omega)
    refine q_when (b := !isI b) (et_is (et_or eT fun _ => et_or (et_test (e_lt (elen (Ex.refl H) rfl) ev_c)) fun _ => et_or (et_test (e_gt (elen (Ex.refl H) rfl) ev_c)) fun _ => et_not (et_B ew)) (by rw [d2, d3]; rfl)) (fun hI H1 e1 => ?_) (fun hI H1 e1 => ?_)
    · refine s_ret ev_c fun H2 e2 => kN' (fun w' hg => ?_) _ (e1.trans e2)
      obtain ⟨a', i, r', he, _⟩ := good_head hg
      injection he with h1 h2
      injection h2 with h3 h4
      rw [h3] at hI
      cases hI
    obtain ⟨i, rfl⟩ := isI_int (by simpa using hI)
    refine q_asg (e_item (ev_var rfl) (e1 _ _ hp) g1) fun H2 e2 => ?_
    have e12 := e1.trans e2
    match r, h3 with
    | [], _ =>
      refine q_when (b := true) (et_is (et_test (e_eq (elen e12 rfl) ev_c .ii)) (by simp)) (fun _ H3 e3 => ?_) (fun hh => by cases hh)
      have e13 := e12.trans e3
      refine q_when (b := !decide (a0 = tx wCut) || !decide (0 ≤ i ∧ i < (w.length : Int))) (et_or (et_test (e_neS (e_item (ev_var rfl) (e13 _ _ hp) g0) ev_c (any_up _ _ _ e13 hA))) fun _ => et_not (et_test (e_chain ev_c (ev_var rfl) (e_lenS (ev_var rfl) (by omega))))) (fun hh H4 e4 => ?_) (fun hh H4 e4 => ?_)
      · refine s_ret ev_c fun H5 e5 => kN' (fun w' hg => ?_) _ ((e13.trans e4).trans e5)
        cases hg with
        | cut h0 h1 => simp [h0, h1] at hh
      · have hh' : a0 = tx wCut ∧ 0 ≤ i ∧ i < (w.length : Int) := by simpa using hh
        obtain ⟨rfl, h0, h1⟩ := hh'
        exact s_ret (e_glue2 hw (ev_var rfl) (ev_var rfl) (e_add (ev_var rfl) ev_c) h0 (by omega)) fun H5 e5 => kQ' _ (.cut h0 h1) _ ((e13.trans e4).trans e5)
    | [c], _ =>
      have hc : Any c H := ha c (by simp)
      have g2 : atI [a0, .int i, c] 2 = some c := atI_nat (j := 2) rfl
      refine q_when (b := false) (et_is (et_test (e_eq (elen e12 rfl) ev_c .ii)) (by simp)) (fun hh => by cases hh) (fun _ H3 e3 => ?_)
      have e13 := e12.trans e3
      refine q_asg (e_item (ev_var rfl) (e13 _ _ hp) g2) fun H4 e4 => ?_
      have e14 := e13.trans e4
      have noL : ¬ IsL c → ∀ w', ¬ Good w [a0, .int i, c] w' := fun hn w' hg => hn (by
        cases hg with
        | put h0 h1 hcc => exact ⟨_, rfl, hcc⟩
        | turn h0 h1 hcc hn => exact ⟨_, rfl, hcc⟩)
      rcases hc with ⟨l, rfl, hll⟩ | ho
      · by_cases h1 : l.length = 1
        · obtain ⟨c, rfl⟩ := List.length_eq_one_iff.mp h1
          refine q_when (b := !decide (c ∈ abc)) (et_is (et_or (et_not (et_B (e_isStr (ev_var rfl)))) fun _ => et_or (et_test (e_ne (e_lenS (ev_var rfl) (by omega)) ev_c .ii)) fun _ => et_test (e_notInS (ev_var rfl) ev_c)) (by simp)) (fun hh H5 e5 => ?_) (fun hh H5 e5 => ?_)
          · exact s_ret ev_c fun H6 e6 => kN' (noL fun ⟨d, hd, hm⟩ => nd hh (by
              have e := tx_inj.mp hd
              injection e with e1 _
              subst e1
              exact mem_abc.mpr hm)) _ ((e14.trans e5).trans e6)
          have hcc := mem_abc.mp (nd' hh)
          have e15 := e14.trans e5
          -- put
          refine q_when (b := decide (a0 = tx wPut) && decide (0 ≤ i ∧ i ≤ (w.length : Int))) (et_and (et_test (e_eqS (e_item (ev_var rfl) (e15 _ _ hp) g0) ev_c (any_up _ _ _ e15 hA))) fun _ => et_test (e_chain2 ev_c (ev_var rfl) (e_lenS (ev_var rfl) (by omega)))) (fun hh H6 e6 => ?_) (fun hh1 H6 e6 => ?_)
          · have hh' : a0 = tx wPut ∧ 0 ≤ i ∧ i ≤ (w.length : Int) := by simpa using hh
            obtain ⟨rfl, h0, h1⟩ := hh'
            exact s_ret (e_glue hw (ev_var rfl) (ev_var rfl) (ev_var rfl) (ev_var rfl) h0 h0) fun H7 e7 => kQ' _ (.put h0 h1 hcc) _ ((e15.trans e6).trans e7)
          have e16 := e15.trans e6
          -- turn
          by_cases hT : a0 = tx wTurn ∧ 0 ≤ i ∧ i < (w.length : Int)
          · obtain ⟨rfl, h0, h1⟩ := hT
            have hlt : i.toNat < w.length := by omega
            refine q_when (b := !decide (w[i.toNat] = c)) (et_is (et_and (et_test (e_eqS (e_item (ev_var rfl) (e16 _ _ hp) g0) ev_c (any_up _ _ _ e16 hA))) fun _ => et_and (et_test (e_chain ev_c (ev_var rfl) (e_lenS (ev_var rfl) (by omega)))) fun _ => et_test (e_ne (e_ixS (ev_var rfl) (ev_var rfl) (by omega) (atI_in h0 (List.getElem?_eq_getElem hlt))) (ev_var rfl) .ss)) (by simp [h0, h1])) (fun hh H7 e7 => ?_) (fun hh H7 e7 => ?_)
            · have hne := nd hh
              exact s_ret (e_glue hw (ev_var rfl) (ev_var rfl) (ev_var rfl) (e_add (ev_var rfl) ev_c) h0 (by omega)) fun H8 e8 => kQ' _ (.turn h0 h1 hcc (by rw [List.getElem?_eq_getElem hlt]; exact fun z => hne (Option.some.inj z))) _ ((e16.trans e7).trans e8)
            · have heq := nd' hh
              refine s_ret ev_c fun H8 e8 => kN' (fun w' hg => ?_) _ ((e16.trans e7).trans e8)
              cases hg with
              | turn h0 h1 hcc hn => exact hn (by rw [List.getElem?_eq_getElem hlt, heq])
          · refine q_when (b := false) (et_is (et_and (b := false) (et_test (e_eqS (e_item (ev_var rfl) (e16 _ _ hp) g0) ev_c (any_up _ _ _ e16 hA))) fun hh => et_is (et_and (b := false) (et_test (e_chain ev_c (ev_var rfl) (e_lenS (ev_var rfl) (by omega)))) fun h2 => absurd ⟨of_decide_eq_true hh, of_decide_eq_true h2⟩ hT) (by simp)) (by simp)) (fun hh => by cases hh) (fun _ H7 e7 => ?_)
            refine s_ret ev_c fun H8 e8 => kN' (fun w' hg => ?_) _ ((e16.trans e7).trans e8)
            cases hg with
            | put h0 h1 hcc => simp [h0, h1] at hh1
            | turn h0 h1 hcc hn => exact hT ⟨rfl, h0, h1⟩
        · refine q_when (b := true) (et_is (et_or (et_not (et_B (e_isStr (ev_var rfl)))) fun _ => et_or (b := true) (et_test (e_ne (e_lenS (ev_var rfl) (by omega)) ev_c .ii)) fun hh => absurd (nd' hh) (by omega)) (by simp)) (fun _ H5 e5 => ?_) (fun hh => by cases hh)
          exact s_ret ev_c fun H6 e6 => kN' (noL fun ⟨d, hd, hm⟩ => h1 (by rw [tx_inj.mp hd]; rfl)) _ ((e14.trans e5).trans e6)
      · refine q_when (b := true) (et_is (et_or (b := true) (et_not (et_B (e_isOdd (ev_var rfl) (odd_up _ _ _ e14 ho)))) fun hh => by cases hh) (by simp)) (fun _ H5 e5 => ?_) (fun hh => by cases hh)
        exact s_ret ev_c fun H6 e6 => kN' (noL fun ⟨d, hd, hm⟩ => by
          subst hd
          rcases ho with h | ⟨i, h⟩ | ⟨b, h⟩ | ⟨p, h, _⟩ <;> cases h) _ ((e14.trans e5).trans e6)
    | c :: d :: r', h => exact absurd (by simp only [List.length_cons]; omega) h
  · refine q_when (b := true) (et_is (et_or (b := true) (et_not (et_B (e_noTup (ev_var rfl) hn))) fun hh => by cases hh) (by simp)) (fun _ H1 e1 => ?_) (fun hh => by cases hh)
    exact s_ret ev_c fun H2 e2 => kN (fun ⟨w', xs, ht, hg⟩ => noTup_not (Ex.refl H) hn ht) _ (e1.trans e2)
end
end Nw

set_option Elab.async false
set_option linter.all false
set_option maxRecDepth 100000
/-! Nw.Led: several changes -/
namespace Nw
open PySem L2 Evl
/-! ### several changes -/
inductive LedV (H : Hp) : List Nat → List V → List Nat → Prop
  | nil {w} : LedV H w [] w
  | cons {w w1 w2 c cs} (h : GoodV w c H w1) (r : LedV H w1 cs w2) : LedV H w (c :: cs) w2
theorem good_inj {w a b : List Nat} {xs : List V} (h : Good w xs a) (h' : Good w xs b) : a = b := by
  cases h with
  | put h0 h1 hc => cases h'; rfl
  | cut h0 h1 => cases h'; rfl
  | turn h0 h1 hc hn => cases h'; rfl
theorem goodV_inj {w a b : List Nat} {v : V} {H H' : Hp} (e : Ex H H') (h : GoodV w v H a) (h' : GoodV w v H' b) : a = b := by
  obtain ⟨xs, ht, hg⟩ := h
  obtain ⟨ys, ht', hg'⟩ := h'
  rw [← tup_inj e ht ht'] at hg'
  exact good_inj hg hg'
theorem ledV_up {H H' : Hp} (e : Ex H H') {w w' : List Nat} {cs : List V} (h : LedV H w cs w') : LedV H' w cs w' := by
  induction h with
  | nil => exact .nil
  | cons h r ih => exact .cons (goodV_up e h) ih
theorem ledV_snoc {H : Hp} {w w1 w2 : List Nat} {cs : List V} {c : V} (h : LedV H w cs w1) (g : GoodV w1 c H w2) : LedV H w (cs ++ [c]) w2 := by
  induction h with
  | nil => exact .cons g .nil
  | cons h r ih => exact .cons h (ih g)
theorem ledV_inj {H : Hp} {w a b : List Nat} {cs : List V} (h : LedV H w cs a) (h' : LedV H w cs b) : a = b := by
  induction h with
  | nil => cases h'; rfl
  | cons h r ih =>
    cases h' with
    | cons k s =>
      rw [← goodV_inj (Ex.refl H) h k] at s
      exact ih s
theorem ledV_app {H : Hp} {w' : List Nat} : ∀ {as bs : List V} {w : List Nat}, LedV H w (as ++ bs) w' → ∃ w1, LedV H w as w1 ∧ LedV H w1 bs w'
  | [], bs, w, h => ⟨w, .nil, h⟩
  | a :: as, bs, w, h => by
    cases h with
    | cons h r =>
      obtain ⟨w1, h1, h2⟩ := ledV_app r
      exact ⟨w1, .cons h h1, h2⟩
theorem ledV_len {H : Hp} {w w' : List Nat} {cs : List V} (h : LedV H w cs w') : w'.length ≤ w.length + cs.length := by
  induction h with
  | nil => exact Nat.le_refl _
  | cons h r ih =>
    obtain ⟨xs, _, hg⟩ := h
    have := good_len hg
    simp only [List.length_cons]
    omega
theorem ledV_take {H : Hp} {w w' : List Nat} {cs : List V} {i : Nat} {c : V} (h : LedV H w cs w') (hc : cs[i]? = some c) {wi : List Nat} (hi : LedV H w (cs.take i) wi) : ∃ w2, GoodV wi c H w2 := by
  have e : cs = cs.take i ++ (c :: cs.drop (i + 1)) := by
    obtain ⟨hlt, rfl⟩ := List.getElem?_eq_some_iff.mp hc
    rw [← List.drop_eq_getElem_cons hlt, List.take_append_drop]
  rw [e] at h
  obtain ⟨w1, h1, h2⟩ := ledV_app h
  rw [ledV_inj hi h1]
  cases h2 with
  | cons g r => exact ⟨_, g⟩
theorem ledV_down {H H' : Hp} (e : Ex H H') {w w' : List Nat} {cs : List V} (hc : ∀ c ∈ cs, Chg c H) (h : LedV H' w cs w') : LedV H w cs w' := by
  induction h with
  | nil => exact .nil
  | cons h r ih => exact .cons (goodV_down e (hc _ (by simp)) h) (ih fun c h => hc c (by simp [h]))
/-- data of tuples of ints and texts -/
def DataC (c : V) (H : Hp) : Prop := ∀ K : PySem.W.Frag, ∃ d : PyData, Dp K H c d ∧ d.plain = true ∧ d.depth ≤ 5
theorem dataC_up : Up DataC := fun v H H' e h K => by
  obtain ⟨d, h1, h2, h3⟩ := h K
  exact ⟨d, dp_up e _ _ h1, h2, h3⟩
theorem data_non {H : Hp} : DataC .non H := fun K => ⟨_, .non, rfl, by decide⟩
theorem data_t2 {H : Hp} {p : Addr} {a : List Nat} {i : Int} (h : H p = some (.tup [tx a, .int i])) : DataC (.ref p) H := fun K => ⟨_, .tup (SqT.of h) (.cons (.str _) (.cons (.int _) .nil)), rfl, by simp [PyData.depth, PyData.depthAll]⟩
theorem data_t3 {H : Hp} {p : Addr} {a b : List Nat} {i : Int} (h : H p = some (.tup [tx a, .int i, tx b])) : DataC (.ref p) H := fun K => ⟨_, .tup (SqT.of h) (.cons (.str _) (.cons (.int _) (.cons (.str _) .nil))), rfl, by simp [PyData.depth, PyData.depthAll]⟩
theorem good_data {w w' : List Nat} {xs : List V} {p : Addr} {H : Hp} (h : H p = some (.tup xs)) (g : Good w xs w') : DataC (.ref p) H := by
  cases g with
  | put h0 h1 hc => exact data_t3 h
  | cut h0 h1 => exact data_t2 h
  | turn h0 h1 hc hn => exact data_t3 h
theorem any_tx {a : List Nat} {H : Hp} (h : a.length ≤ 1000) : Any (tx a) H := .inl ⟨a, rfl, h⟩
theorem any_int {i : Int} {H : Hp} : Any (.int i) H := .inr odd_int
theorem chg_t2 {H : Hp} {p : Addr} {a : List Nat} {i : Int} (h : H p = some (.tup [tx a, .int i])) (ha : a.length ≤ 1000) : Chg (.ref p) H := .inl ⟨_, ⟨p, rfl, h⟩, by simp, fun x hx => by
  rcases List.mem_cons.mp hx with rfl | hx
  · exact any_tx ha
  · rw [List.mem_singleton] at hx; subst hx; exact any_int⟩
theorem chg_t3 {H : Hp} {p : Addr} {a b : List Nat} {i : Int} (h : H p = some (.tup [tx a, .int i, tx b])) (ha : a.length ≤ 1000) (hb : b.length ≤ 1000) : Chg (.ref p) H := .inl ⟨_, ⟨p, rfl, h⟩, by simp, fun x hx => by
  rcases List.mem_cons.mp hx with rfl | hx
  · exact any_tx ha
  · rcases List.mem_cons.mp hx with rfl | hx
    · exact any_int
    · rw [List.mem_singleton] at hx; subst hx; exact any_tx hb⟩
theorem good_chg {w w' : List Nat} {xs : List V} {p : Addr} {H : Hp} (h : H p = some (.tup xs)) (g : Good w xs w') : Chg (.ref p) H := by
  cases g with
  | put h0 h1 hc => exact chg_t3 h (by decide) (by simp)
  | cut h0 h1 => exact chg_t2 h (by decide)
  | turn h0 h1 hc hn => exact chg_t3 h (by decide) (by simp)
end Nw

set_option Elab.async false
set_option linter.all false
set_option maxRecDepth 100000
/-! the laws' own small defs: _law_at, _law_letter, _law_word, _law_bent -/
namespace Nw
open PySem L2 Evl
def Word (n : Nat) (v : V) : Prop := ∃ w, v = tx w ∧ Low w ∧ w.length ≤ n
def cellAt (ns : List Int) (k : Int) : Int := (ns[k.toNat]?).getD 0
def sp_law_at (K : PySem.W.Frag) : Sp := fun vs H Q _ => ∃ (a : Addr) (ns : List Int) (k : Int), vs = [.ref a, .int k] ∧ SqL K H a (ns.map V.int) ∧ 0 ≤ k ∧ ns.length ≤ 63 ∧ RetV (.int (cellAt ns k)) H Q
def sp_law_letter (K : PySem.W.Frag) : Sp := fun vs H Q _ => ∃ m n : Int, vs = [.int m, .int n] ∧ RetG (fun v _ => IsL v) H Q
def sp_law_word (K : PySem.W.Frag) : Sp := fun vs H Q _ => ∃ m c most : Int, vs = [.int m, .int c, .int most] ∧ 0 ≤ most ∧ most ≤ 60 ∧ RetG (fun v _ => Word most.toNat v) H Q
def sp_law_bent (K : PySem.W.Frag) : Sp := fun vs H Q _ => ∃ (m : Int) (w : List Nat) (c : Int), vs = [.int m, tx w, .int c] ∧ Low w ∧ w.length ≤ 24 ∧ RetG (fun v _ => Word 24 v) H Q
/- _law_at(_law_script, _law_k): slots 0:_law_script 1:_law_k -/
def T_law_at (K : PySem.W.Frag) : TS :=
 (tSeq (tIfS (tTest (tOp nLt (tVar 1) (tCB (nLenL K) (tCons (tVar 0) tNil))))
 (tRet (tOp (nIxL K) (tVar 0) (tVar 1))) tNext)
 (tRet (tC (.int 0))))
def n_law_at : Nat := 2
/- _law_letter(_law_mode, _law_number): slots 0:_law_mode 1:_law_number 2:_law_span 3:_law_step -/
def T_law_letter (K : PySem.W.Frag) : TS :=
 (tSeq (tAsg (tOp (nIxL K) (tLst (tCons (tC (.int 2)) (tCons (tC (.int 3)) (tCons (tC (.int 26)) tNil)))) (tOp nMod (tVar 0) (tC (.int 3)))) (gName 2))
 (tSeq (tAsg (tOp (nIxL K) (tLst (tCons (tC (.int 1)) (tCons (tC (.int 3)) (tCons (tC (.int 5)) (tCons (tC (.int 7)) tNil))))) (tOp nMod (tOp nDiv (tVar 0) (tC (.int 78))) (tC (.int 4)))) (gName 3))
 (tRet (tOp nIxS (tC (tx abc)) (tOp nMod (tOp nAdd (tOp nDiv (tVar 0) (tC (.int 3))) (tOp nMul (tOp nMod (tVar 1) (tVar 2)) (tVar 3))) (tC (.int 26)))))))
def n_law_letter : Nat := 4
/- _law_word(_law_mode, _law_cell_here, _law_most): slots 0:_law_mode 1:_law_cell_here 2:_law_most 3:_law_size 4:_law_found 5:_law_k -/
def T_law_word (K : PySem.W.Frag) : TS :=
 (tSeq (tAsg (tOp nMod (tVar 1) (tOp nAdd (tVar 2) (tC (.int 1)))) (gName 3))
 (tSeq (tAsg (tOp nDiv (tVar 1) (tOp nAdd (tVar 2) (tC (.int 1)))) (gName 1))
 (tSeq (tAsg (tC (tx [])) (gName 4))
 (tSeq (tFor (iRng1 (tCons (tVar 3) tNil)) (gName 5)
 (tSeq (tAsg (tOp nCat (tVar 4) (tCall (sp_law_letter K) [] E0 (tCons (tVar 0) (tCons (tOp nAdd (tVar 1) (tOp nMul (tC (.int 3)) (tVar 5))) tNil)))) (gName 4))
 (tAsg (tOp nDiv (tVar 1) (tC (.int 26))) (gName 1))))
 (tRet (tVar 4))))))
def n_law_word : Nat := 6
/- _law_bent(_law_mode, _law_word_here, _law_cell_here): slots 0:_law_mode 1:_law_word_here 2:_law_cell_here 3:_law_k 4:_law_more 5:_law_at_here 6:_law_letter_here -/
def T_law_bent (K : PySem.W.Frag) : TS :=
 (tSeq (tFor (iRng1 (tCons (tOp nMod (tVar 2) (tC (.int 4))) tNil)) (gName 3)
 (tSeq (tAsg (tOp nAdd (tOp nDiv (tVar 2) (tC (.int 4))) (tOp nMul (tC (.int 11)) (tVar 3))) (gName 4))
 (tSeq (tAsg (tOp nMod (tOp nDiv (tVar 4) (tC (.int 3))) (tOp nAdd (tCB nLenS (tCons (tVar 1) tNil)) (tC (.int 1)))) (gName 5))
 (tSeq (tAsg (tCall (sp_law_letter K) [] E0 (tCons (tVar 0) (tCons (tOp nDiv (tVar 4) (tC (.int 75))) tNil))) (gName 6))
 (tSeq (tIfS (tAnd (tTest (tOp nEq (tOp nMod (tVar 4) (tC (.int 3))) (tC (.int 0)))) (tTest (tOp nLt (tCB nLenS (tCons (tVar 1) tNil)) (tC (.int 24)))))
 (tAsg (tOp nCat (tOp nCat (tSl nSlS (tVar 1) tNoPart (tPart (tVar 5))) (tVar 6)) (tSl nSlS (tVar 1) (tPart (tVar 5)) tNoPart)) (gName 1)) (tIfS (tTest (tOp nEq (tOp nMod (tVar 4) (tC (.int 3))) (tC (.int 1))))
 (tAsg (tOp nCat (tSl nSlS (tVar 1) tNoPart (tPart (tVar 5))) (tSl nSlS (tVar 1) (tPart (tOp nAdd (tVar 5) (tC (.int 1)))) tNoPart)) (gName 1)) (tIfS (tTest (tOp nLt (tVar 5) (tCB nLenS (tCons (tVar 1) tNil))))
 (tAsg (tOp nCat (tOp nCat (tSl nSlS (tVar 1) tNoPart (tPart (tVar 5))) (tVar 6)) (tSl nSlS (tVar 1) (tPart (tOp nAdd (tVar 5) (tC (.int 1)))) tNoPart)) (gName 1)) tNext)))
 (tAsg (tOp nDiv (tVar 2) (tC (.int 5))) (gName 2)))))))
 (tRet (tVar 1)))
def n_law_bent : Nat := 7
theorem l_law_at {K vs H Q E} (h : sp_law_at K vs H Q E) : vs.length = 2 := by obtain ⟨_, _, _, rfl, _⟩ := h; rfl
theorem l_law_letter {K vs H Q E} (h : sp_law_letter K vs H Q E) : vs.length = 2 := by obtain ⟨_, _, rfl, _⟩ := h; rfl
theorem l_law_word {K vs H Q E} (h : sp_law_word K vs H Q E) : vs.length = 3 := by obtain ⟨_, _, _, rfl, _⟩ := h; rfl
theorem l_law_bent {K vs H Q E} (h : sp_law_bent K vs H Q E) : vs.length = 3 := by obtain ⟨_, _, _, rfl, _⟩ := h; rfl
section
variable {K : PySem.W.Frag} {vs : List V} {H : Hp} {Q : VK} {E : XK} {σ : L2.St} {ta tb tc : TE}
theorem R_law_at (h : sp_law_at K vs H Q E) : T_law_at K (fin Q) (slots n_law_at vs) H := by
  obtain ⟨a, ns, k, rfl, hs, h0, hl, kQ⟩ := h
  show T_law_at K (fin Q) [some (.ref a), some (.int k)] H
  unfold T_law_at
  refine q_when (et_test (e_lt (ev_var rfl) (e_lenL (ev_var rfl) hs))) (fun hh H1 e1 => ?_) (fun hh H1 e1 => ?_)
  · have hlt := of_decide_eq_true hh
    rw [List.length_map] at hlt
    have hlt' : k.toNat < ns.length := by omega
    refine s_ret (e_ixL (ev_var rfl) (ev_var rfl) (ex_l e1 hs) (atI_in h0 (by rw [List.getElem?_map, List.getElem?_eq_getElem hlt']; rfl))) fun H2 e2 => ?_
    have e : cellAt ns k = ns[k.toNat] := by unfold cellAt; rw [List.getElem?_eq_getElem hlt']; rfl
    rw [← e]
    exact kQ _ (e1.trans e2)
  · have hlt := of_decide_eq_false hh
    rw [List.length_map] at hlt
    have e : cellAt ns k = 0 := by unfold cellAt; rw [List.getElem?_eq_none (by omega)]; rfl
    rw [e] at kQ
    exact s_ret ev_c fun H2 e2 => kQ _ (e1.trans e2)
theorem e_law_at {a : Addr} {ns : List Int} {k : Int} (ha : Ev ta σ H (.ref a)) (hb : Ev tb σ H (.int k)) (hs : SqL K H a (ns.map V.int)) (h0 : 0 ≤ k) (hl : ns.length ≤ 63) : Ev (tCall (sp_law_at K) [] E0 (tCons ta (tCons tb tNil))) σ H (.int (cellAt ns k)) :=
  ev_call (ea_cons ha (ea_cons hb ea_nil)) fun H1 e Q q E => ⟨a, ns, k, rfl, ex_l e hs, h0, hl, fun H2 e2 => q H2 e2⟩
/-- [a, b, ..][i] of written ints -/
def IntIn (P : Int → Prop) (v : V) (_ : Hp) : Prop := ∃ i, v = .int i ∧ P i
theorem intIn_up (P : Int → Prop) : Up (IntIn P) := fun _ _ _ _ h => h
theorem R_law_letter (h : sp_law_letter K vs H Q E) : T_law_letter K (fin Q) (slots n_law_letter vs) H := by
  obtain ⟨m, n, rfl, kQ⟩ := h
  show T_law_letter K (fin Q) [some (.int m), some (.int n), none, none] H
  unfold T_law_letter
  have g : ∀ {i : Int} {P : Int → Prop} {σ : L2.St} {H : Hp}, P i → EvG (tC (.int i)) σ H (IntIn P) := fun h => g_ev (intIn_up _) ev_c ⟨_, rfl, h⟩
  refine q_asgG (g_pick (n := 3) (intIn_up fun i => 0 < i ∧ i ≤ 26) (all_cons (intIn_up _) (g (by decide)) <| all_cons (intIn_up _) (g (by decide)) <| all_cons (intIn_up _) (g (by decide)) all_nil)
    (e_mod (ev_var rfl) ev_c (by decide)) (Int.emod_nonneg _ (by omega)) (Int.emod_lt_of_pos _ (by omega)) (by decide)) fun v H1 e1 hv => ?_
  obtain ⟨sp, rfl, hs0, hs1⟩ := hv
  refine q_asgG (g_pick (n := 4) (intIn_up fun i => 0 < i ∧ i ≤ 7) (all_cons (intIn_up _) (g (by decide)) <| all_cons (intIn_up _) (g (by decide)) <| all_cons (intIn_up _) (g (by decide)) <| all_cons (intIn_up _) (g (by decide)) all_nil)
    (e_mod (e_div (ev_var rfl) ev_c (by decide)) ev_c (by decide)) (Int.emod_nonneg _ (by omega)) (Int.emod_lt_of_pos _ (by omega)) (by decide)) fun v H2 e2 hv => ?_
  obtain ⟨st, rfl, ht0, ht1⟩ := hv
  refine s_ret (e_ixS ev_c (e_mod (e_add (e_div (ev_var rfl) ev_c (by decide)) (e_mul (e_mod (ev_var rfl) (ev_var rfl) hs0) (ev_var rfl) (.inr (by omega)))) ev_c (by decide)) (by decide)
    (atI_in (Int.emod_nonneg _ (by omega)) (abc_at (by have := Int.emod_lt_of_pos (m / 3 + n % sp * st) (show (0 : Int) < 26 by omega); have := Int.emod_nonneg (m / 3 + n % sp * st) (show (26 : Int) ≠ 0 by omega); omega)))) fun H3 e3 => ?_
  refine kQ _ _ ((e1.trans e2).trans e3) ⟨_, rfl, by omega, ?_⟩
  have := Int.emod_lt_of_pos (m / 3 + n % sp * st) (show (0 : Int) < 26 by omega)
  have := Int.emod_nonneg (m / 3 + n % sp * st) (show (26 : Int) ≠ 0 by omega)
  omega
theorem g_letter {i j : Int} (ha : Ev ta σ H (.int i)) (hb : Ev tb σ H (.int j)) : EvG (tCall (sp_law_letter K) [] E0 (tCons ta (tCons tb tNil))) σ H (fun v _ => IsL v) :=
  g_call (ea_cons ha (ea_cons hb ea_nil)) fun H1 e Q q E => ⟨i, j, rfl, q⟩
/-- a + a letter -/
theorem g_cat1 {a : List Nat} (ha : Ev ta σ H (tx a)) (hb : EvG tb σ H fun v _ => IsL v) (hl : a.length ≤ 1000) : EvG (tOp nCat ta tb) σ H (fun v _ => ∃ c, v = tx (a ++ [c]) ∧ 97 ≤ c ∧ c < 123) := fun H1 e Q q =>
  ha H1 e _ fun H2 e2 => hb H2 (e.trans e2) _ fun v H3 e3 hv => by
    obtain ⟨c, rfl, hc⟩ := hv
    refine ⟨_, _, rfl, rfl, by rw [tx_len, tx_len]; exact line1 (by simp; omega), ?_⟩
    rw [tx_app]
    exact q _ H3 (e2.trans e3) ⟨c, rfl, hc⟩
theorem R_law_word (h : sp_law_word K vs H Q E) : T_law_word K (fin Q) (slots n_law_word vs) H := by
  obtain ⟨m, c, most, rfl, h0, h1, kQ⟩ := h
  show T_law_word K (fin Q) [some (.int m), some (.int c), some (.int most), none, none, none] H
  unfold T_law_word
  refine q_asg (e_mod (ev_var rfl) (e_add (ev_var rfl) ev_c) (by omega)) fun H1 e1 => ?_
  refine q_asg (e_div (ev_var rfl) (e_add (ev_var rfl) ev_c) (by omega)) fun H2 e2 => ?_
  refine q_asg ev_c fun H3 e3 => ?_
  have s0 : 0 ≤ c % (most + 1) := Int.emod_nonneg _ (by omega)
  have s1 : c % (most + 1) < most + 1 := Int.emod_lt_of_pos _ (by omega)
  generalize c % (most + 1) = sz at s0 s1
  refine q_forR1 (n := sz) (ea_cons (ev_var rfl) ea_nil) (by omega) (fun i σ H' => (∃ c' w x, σ = [some (.int m), some (.int c'), some (.int most), some (.int sz), some (tx w), x] ∧ Low w ∧ w.length = i) ∧ Ex H H') (fun H4 e4 => ⟨⟨_, [], _, rfl, low_nil, rfl⟩, ((e1.trans e2).trans e3).trans e4⟩) (fun i σ H' hi hp => ?_) (fun σ H' hp => ?_)
  · obtain ⟨⟨c', w, x, rfl, lo, hl⟩, e⟩ := hp
    refine q_asgG (g_cat1 (ev_var rfl) (g_letter (ev_var rfl) (e_add (ev_var rfl) (e_mul ev_c (ev_var rfl) (.inl (by decide))))) (by omega)) fun v H5 e5 hv => ?_
    obtain ⟨d, rfl, hd⟩ := hv
    refine s_asg (e_div (ev_var rfl) ev_c (by decide)) fun H6 e6 => ?_
    exact ⟨⟨_, _, _, rfl, low_app lo (low_one hd), by simp [hl]⟩, (e.trans e5).trans e6⟩
  · obtain ⟨⟨c', w, x, rfl, lo, hl⟩, e⟩ := hp
    exact s_ret (ev_var rfl) fun H5 e5 => kQ _ _ (e.trans e5) ⟨w, rfl, lo, by omega⟩
theorem g_word {i j : Int} {n : Int} (ha : Ev ta σ H (.int i)) (hb : Ev tb σ H (.int j)) (hc : Ev tc σ H (.int n)) (h0 : 0 ≤ n) (h1 : n ≤ 60) : EvG (tCall (sp_law_word K) [] E0 (tCons ta (tCons tb (tCons tc tNil)))) σ H (fun v _ => Word n.toNat v) :=
  g_call (ea_cons ha (ea_cons hb (ea_cons hc ea_nil))) fun H1 e Q q E => ⟨i, j, n, rfl, h0, h1, q⟩
theorem R_law_bent (h : sp_law_bent K vs H Q E) : T_law_bent K (fin Q) (slots n_law_bent vs) H := by
  obtain ⟨m, w, c, rfl, lo, hl, kQ⟩ := h
  show T_law_bent K (fin Q) [some (.int m), some (tx w), some (.int c), none, none, none, none] H
  unfold T_law_bent
  have s0 : 0 ≤ c % 4 := Int.emod_nonneg _ (by omega)
  have s1 : c % 4 < 4 := Int.emod_lt_of_pos _ (by omega)
  refine q_forR1 (n := c % 4) (ea_cons (e_mod (ev_var rfl) ev_c (by decide)) ea_nil) (by omega) (fun i σ H' => (∃ c' w x y z t, σ = [some (.int m), some (tx w), some (.int c'), x, y, z, t] ∧ Low w ∧ w.length ≤ 24) ∧ Ex H H') (fun H4 e4 => ⟨⟨_, w, _, _, _, _, rfl, lo, hl⟩, e4⟩) (fun i σ H' hi hp => ?_) (fun σ H' hp => ?_)
  · obtain ⟨⟨c', w, x, y, z, t, rfl, lo, hl⟩, e⟩ := hp
    refine q_asg (e_add (e_div (ev_var rfl) ev_c (by decide)) (e_mul ev_c (ev_var rfl) (.inl (by decide)))) fun H1 e1 => ?_
    generalize c' / 4 + 11 * (i : Int) = more
    refine q_asg (e_mod (e_div (ev_var rfl) ev_c (by decide)) (e_add (e_lenS (ev_var rfl) (by omega)) ev_c) (by omega)) fun H2 e2 => ?_
    have a0 : 0 ≤ more / 3 % ((w.length : Int) + 1) := Int.emod_nonneg _ (by omega)
    have a1 : more / 3 % ((w.length : Int) + 1) < (w.length : Int) + 1 := Int.emod_lt_of_pos _ (by omega)
    generalize more / 3 % ((w.length : Int) + 1) = at_ at a0 a1
    refine q_asgG (g_letter (ev_var rfl) (e_div (ev_var rfl) ev_c (by decide))) fun v H3 e3 hv => ?_
    obtain ⟨d, rfl, hd⟩ := hv
    have e123 := ((e.trans e1).trans e2).trans e3
    -- behind the three ways the word is one again
    refine Evl.q_if (b := decide (more % 3 = 0) && decide ((w.length : Int) < 24)) (et_and (et_test (e_eq (e_mod (ev_var rfl) ev_c (by decide)) ev_c .ii)) fun _ => et_test (e_lt (e_lenS (ev_var rfl) (by omega)) ev_c)) (fun hh H4 e4 => ?_) (fun hh H4 e4 => ?_)
    · have hlt : (w.length : Int) < 24 := by simp at hh; omega
      refine s_asg (e_glue (by omega) (ev_var rfl) (ev_var rfl) (ev_var rfl) (ev_var rfl) a0 a0) fun H5 e5 => ?_
      refine s_asg (e_div (ev_var rfl) ev_c (by decide)) fun H6 e6 => ?_
      exact ⟨⟨_, _, _, _, _, _, rfl, low_app (low_app (low_take _ lo) (low_one hd)) (low_drop _ lo), by simp only [List.length_append, List.length_take, List.length_drop, List.length_cons, List.length_nil]; omega⟩, ((e123.trans e4).trans e5).trans e6⟩
    · refine s_if (b := decide (more % 3 = 1)) (et_test (e_eq (e_mod (ev_var rfl) ev_c (by decide)) ev_c .ii)) (fun hh H5 e5 => ?_) (fun hh H5 e5 => ?_)
      · refine s_asg (e_glue2 (by omega) (ev_var rfl) (ev_var rfl) (e_add (ev_var rfl) ev_c) a0 (by omega)) fun H6 e6 => ?_
        refine s_asg (e_div (ev_var rfl) ev_c (by decide)) fun H7 e7 => ?_
        exact ⟨⟨_, _, _, _, _, _, rfl, low_app (low_take _ lo) (low_drop _ lo), by simp only [List.length_append, List.length_take, List.length_drop]; omega⟩, (((e123.trans e4).trans e5).trans e6).trans e7⟩
      · refine s_when (b := decide (at_ < (w.length : Int))) (et_test (e_lt (ev_var rfl) (e_lenS (ev_var rfl) (by omega)))) (fun hh H6 e6 => ?_) (fun hh H6 e6 => ?_)
        · have hlt := of_decide_eq_true hh
          refine s_asg (e_glue (by omega) (ev_var rfl) (ev_var rfl) (ev_var rfl) (e_add (ev_var rfl) ev_c) a0 (by omega)) fun H7 e7 => ?_
          refine s_asg (e_div (ev_var rfl) ev_c (by decide)) fun H8 e8 => ?_
          exact ⟨⟨_, _, _, _, _, _, rfl, low_app (low_app (low_take _ lo) (low_one hd)) (low_drop _ lo), by simp only [List.length_append, List.length_take, List.length_drop, List.length_cons, List.length_nil]; omega⟩, ((((e123.trans e4).trans e5).trans e6).trans e7).trans e8⟩
        · refine s_asg (e_div (ev_var rfl) ev_c (by decide)) fun H8 e8 => ?_
          exact ⟨⟨_, _, _, _, _, _, rfl, lo, hl⟩, (((e123.trans e4).trans e5).trans e6).trans e8⟩
  · obtain ⟨⟨c', w, x, y, z, t, rfl, lo, hl⟩, e⟩ := hp
    exact s_ret (ev_var rfl) fun H5 e5 => kQ _ _ (e.trans e5) ⟨w, rfl, lo, hl⟩
end
end Nw

/-! Nw.Dist: the table of two words, and what its numbers are: plain Lean. -/
namespace Nw
/-- the number of the table at i, j -/
def cell (a b : List Nat) : Nat → Nat → Nat
  | 0, j => j
  | i + 1, 0 => i + 1
  | i + 1, j + 1 => min (min (cell a b i j + if a[i]? = b[j]? then 0 else 1) (cell a b i (j + 1) + 1)) (cell a b (i + 1) j + 1)
termination_by i j => (i, j)
theorem cell_0 (a b : List Nat) (j : Nat) : cell a b 0 j = j := by rw [cell]
theorem cell_s0 (a b : List Nat) (i : Nat) : cell a b (i + 1) 0 = i + 1 := by rw [cell]
theorem cell_i0 (a b : List Nat) (i : Nat) : cell a b i 0 = i := by
  cases i with
  | zero => exact cell_0 a b 0
  | succ i => exact cell_s0 a b i
theorem cell_ss (a b : List Nat) (i j : Nat) : cell a b (i + 1) (j + 1) = min (min (cell a b i j + if a[i]? = b[j]? then 0 else 1) (cell a b i (j + 1) + 1)) (cell a b (i + 1) j + 1) := by rw [cell]
/-- only the first i, j letters matter -/
theorem cell_congr {a a' b b' : List Nat} : ∀ (i j : Nat), (∀ k, k < i → a[k]? = a'[k]?) → (∀ k, k < j → b[k]? = b'[k]?) → cell a b i j = cell a' b' i j
  | 0, j, _, _ => by rw [cell_0, cell_0]
  | i + 1, 0, _, _ => by rw [cell_s0, cell_s0]
  | i + 1, j + 1, ha, hb => by
    rw [cell_ss, cell_ss, cell_congr i j (fun k hk => ha k (by omega)) (fun k hk => hb k (by omega)), cell_congr i (j + 1) (fun k hk => ha k (by omega)) hb, cell_congr (i + 1) j ha (fun k hk => hb k (by omega)), ha i (by omega), hb j (by omega)]
termination_by i j => (i, j)
/-- the distance -/
def dist (a b : List Nat) : Nat := cell a b a.length b.length
theorem take_get {a : List Nat} {i k : Nat} (h : k < i) : (a.take i)[k]? = a[k]? := by rw [List.getElem?_take_of_lt h]
theorem cell_take {a b : List Nat} {i j : Nat} (hi : i ≤ a.length) (hj : j ≤ b.length) : cell a b i j = dist (a.take i) (b.take j) := by
  unfold dist
  rw [List.length_take, List.length_take, Nat.min_eq_left hi, Nat.min_eq_left hj]
  exact cell_congr i j (fun k hk => (take_get hk).symm) (fun k hk => (take_get hk).symm)
/-! ### rows of changes, letter by letter -/
inductive Edit : List Nat → List Nat → Nat → Prop
  | nil : Edit [] [] 0
  | keep {a b n} (x : Nat) (h : Edit a b n) : Edit (x :: a) (x :: b) n
  | sub {a b n} (x y : Nat) (h : Edit a b n) : Edit (x :: a) (y :: b) (n + 1)
  | del {a b n} (x : Nat) (h : Edit a b n) : Edit (x :: a) b (n + 1)
  | ins {a b n} (y : Nat) (h : Edit a b n) : Edit a (y :: b) (n + 1)
theorem Edit.symm {a b : List Nat} {n : Nat} (h : Edit a b n) : Edit b a n := by
  induction h with
  | nil => exact .nil
  | keep x _ ih => exact .keep x ih
  | sub x y _ ih => exact .sub y x ih
  | del x _ ih => exact .ins x ih
  | ins y _ ih => exact .del y ih
theorem Edit.append {a b c d : List Nat} {m n : Nat} (h : Edit a b m) (h' : Edit c d n) : Edit (a ++ c) (b ++ d) (m + n) := by
  induction h with
  | nil => rw [Nat.zero_add]; exact h'
  | keep x _ ih => exact .keep x ih
  | sub x y _ ih => rw [Nat.add_right_comm]; exact .sub x y ih
  | del x _ ih => rw [Nat.add_right_comm]; exact .del x ih
  | ins y _ ih => rw [Nat.add_right_comm]; exact .ins y ih
theorem Edit.rev {a b : List Nat} {n : Nat} (h : Edit a b n) : Edit a.reverse b.reverse n := by
  induction h with
  | nil => exact .nil
  | keep x _ ih => rw [List.reverse_cons, List.reverse_cons]; exact ih.append (.keep x .nil)
  | sub x y _ ih => rw [List.reverse_cons, List.reverse_cons]; exact ih.append (.sub x y .nil)
  | del x _ ih =>
    rw [List.reverse_cons]
    have := ih.append (.del x .nil)
    rw [List.append_nil] at this
    exact this
  | ins y _ ih =>
    rw [List.reverse_cons]
    have := ih.append (.ins y .nil)
    rw [List.append_nil] at this
    exact this
theorem Edit.self (a : List Nat) : Edit a a 0 := by
  induction a with
  | nil => exact .nil
  | cons x a ih => exact .keep x ih
theorem Edit.zero {a b : List Nat} {n : Nat} (h : Edit a b n) (h0 : n = 0) : a = b := by
  induction h with
  | nil => rfl
  | keep x _ ih => rw [ih h0]
  | sub x y _ ih => cases h0
  | del x _ ih => cases h0
  | ins y _ ih => cases h0
theorem Edit.len {a b : List Nat} {n : Nat} (h : Edit a b n) : a.length ≤ b.length + n ∧ b.length ≤ a.length + n := by
  induction h with
  | nil => exact ⟨Nat.le_refl _, Nat.le_refl _⟩
  | keep x _ ih => simp only [List.length_cons]; omega
  | sub x y _ ih => simp only [List.length_cons]; omega
  | del x _ ih => simp only [List.length_cons]; omega
  | ins y _ ih => simp only [List.length_cons]; omega
theorem Edit.all_ins : ∀ b : List Nat, Edit [] b b.length
  | [] => .nil
  | y :: b => .ins y (Edit.all_ins b)
theorem Edit.top : ∀ a b : List Nat, ∃ n, n ≤ max a.length b.length ∧ Edit a b n
  | [], b => ⟨b.length, Nat.le_max_right _ _, Edit.all_ins b⟩
  | a, [] => ⟨a.length, Nat.le_max_left _ _, (Edit.all_ins a).symm⟩
  | x :: a, y :: b => by
    obtain ⟨n, h1, h2⟩ := Edit.top a b
    exact ⟨n + 1, by simp only [List.length_cons]; omega, .sub x y h2⟩
theorem Edit.trans {a b : List Nat} {m : Nat} (h : Edit a b m) : ∀ {c : List Nat} {n : Nat}, Edit b c n → ∃ k, k ≤ m + n ∧ Edit a c k := by
  induction h with
  | nil => exact fun h' => ⟨_, by omega, h'⟩
  | @keep a b m x h ih =>
    intro c n h'
    generalize hb : x :: b = b' at h'
    induction h' with
    | nil => cases hb
    | keep y h2 _ => cases hb; obtain ⟨k, hk, e⟩ := ih h2; exact ⟨k, hk, .keep _ e⟩
    | sub y z h2 _ => cases hb; obtain ⟨k, hk, e⟩ := ih h2; exact ⟨k + 1, by omega, .sub _ _ e⟩
    | del y h2 _ => cases hb; obtain ⟨k, hk, e⟩ := ih h2; exact ⟨k + 1, by omega, .del _ e⟩
    | ins y h2 ih2 => obtain ⟨k, hk, e⟩ := ih2 hb; exact ⟨k + 1, by omega, .ins _ e⟩
  | @sub a b m x y h ih =>
    intro c n h'
    generalize hb : y :: b = b' at h'
    induction h' with
    | nil => cases hb
    | keep z h2 _ => cases hb; obtain ⟨k, hk, e⟩ := ih h2; exact ⟨k + 1, by omega, .sub _ _ e⟩
    | sub z w h2 _ => cases hb; obtain ⟨k, hk, e⟩ := ih h2; exact ⟨k + 1, by omega, .sub _ _ e⟩
    | del z h2 _ => cases hb; obtain ⟨k, hk, e⟩ := ih h2; exact ⟨k + 1, by omega, .del _ e⟩
    | ins z h2 ih2 => obtain ⟨k, hk, e⟩ := ih2 hb; exact ⟨k + 1, by omega, .ins _ e⟩
  | del x h ih =>
    intro c n h'
    obtain ⟨k, hk, e⟩ := ih h'
    exact ⟨k + 1, by omega, .del _ e⟩
  | @ins a b m y h ih =>
    intro c n h'
    generalize hb : y :: b = b' at h'
    induction h' with
    | nil => cases hb
    | keep z h2 _ => cases hb; obtain ⟨k, hk, e⟩ := ih h2; exact ⟨k + 1, by omega, .ins _ e⟩
    | sub z w h2 _ => cases hb; obtain ⟨k, hk, e⟩ := ih h2; exact ⟨k + 1, by omega, .ins _ e⟩
    | del z h2 _ => cases hb; obtain ⟨k, hk, e⟩ := ih h2; exact ⟨k, by omega, e⟩
    | ins z h2 ih2 => obtain ⟨k, hk, e⟩ := ih2 hb; exact ⟨k + 1, by omega, .ins _ e⟩
theorem Edit.tail {x : Nat} {a b : List Nat} {n : Nat} (h : Edit (x :: a) (x :: b) n) : ∃ k, k ≤ n ∧ Edit a b k := by
  generalize ha : x :: a = a' at h
  generalize hb : x :: b = b' at h
  cases h with
  | nil => cases ha
  | keep y h => cases ha; cases hb; exact ⟨_, Nat.le_refl _, h⟩
  | sub y z h => cases ha; cases hb; exact ⟨_, Nat.le_succ _, h⟩
  | del y h =>
    cases ha
    subst hb
    obtain ⟨k, hk, e⟩ := h.trans (.del x (Edit.self b))
    exact ⟨k, by omega, e⟩
  | ins y h =>
    cases hb
    subst ha
    obtain ⟨k, hk, e⟩ := (Edit.ins x (Edit.self a)).trans h
    exact ⟨k, by omega, e⟩
/-! ### the distance is the fewest -/
theorem take_snoc {a : List Nat} {i : Nat} {x : Nat} (h : a[i]? = some x) : a.take (i + 1) = a.take i ++ [x] := by
  rw [List.take_add_one, h]
  rfl
theorem cell_edit (a b : List Nat) : ∀ (i j : Nat), i ≤ a.length → j ≤ b.length → Edit (a.take i) (b.take j) (cell a b i j)
  | 0, j, _, hj => by
    rw [cell_0, List.take_zero]
    have := Edit.all_ins (b.take j)
    rw [List.length_take, Nat.min_eq_left hj] at this
    exact this
  | i + 1, 0, hi, _ => by
    rw [cell_s0, List.take_zero]
    have := (Edit.all_ins (a.take (i + 1))).symm
    rw [List.length_take, Nat.min_eq_left hi] at this
    exact this
  | i + 1, j + 1, hi, hj => by
    have h1 := cell_edit a b i j (by omega) (by omega)
    have h2 := cell_edit a b i (j + 1) (by omega) hj
    have h3 := cell_edit a b (i + 1) j hi (by omega)
    have ea : a[i]? = some a[i] := List.getElem?_eq_getElem (by omega)
    have eb : b[j]? = some b[j] := List.getElem?_eq_getElem (by omega)
    rw [cell_ss]
    by_cases m1 : cell a b (i + 1) j + 1 ≤ min (cell a b i j + if a[i]? = b[j]? then 0 else 1) (cell a b i (j + 1) + 1)
    · rw [Nat.min_eq_right m1, take_snoc eb]
      have := h3.append (.ins b[j] .nil)
      rw [List.append_nil] at this
      exact this
    rw [Nat.min_eq_left (by omega)]
    by_cases m2 : cell a b i (j + 1) + 1 ≤ cell a b i j + if a[i]? = b[j]? then 0 else 1
    · rw [Nat.min_eq_right m2, take_snoc ea]
      have := h2.append (.del a[i] .nil)
      rw [List.append_nil] at this
      exact this
    rw [Nat.min_eq_left (by omega), take_snoc ea, take_snoc eb]
    by_cases e : a[i]? = b[j]?
    · rw [if_pos e]
      rw [ea, eb] at e
      rw [Option.some.inj e]
      exact h1.append (.keep _ .nil)
    · rw [if_neg e]
      exact h1.append (.sub _ _ .nil)
termination_by i j => (i, j)
/-- what stands at the end of a row of changes -/
theorem Edit.snoc {a b : List Nat} {x y : Nat} {n : Nat} (h : Edit (a ++ [x]) (b ++ [y]) n) : (x = y ∧ Edit a b n) ∨ (∃ m, n = m + 1 ∧ (Edit a b m ∨ Edit a (b ++ [y]) m ∨ Edit (a ++ [x]) b m)) := by
  have h := h.rev
  rw [List.reverse_append, List.reverse_append] at h
  generalize ha : [x].reverse ++ a.reverse = a' at h
  generalize hb : [y].reverse ++ b.reverse = b' at h
  have back : ∀ {u v : List Nat} {k}, Edit u.reverse v.reverse k → Edit u v k := fun h => by
    have := h.rev
    rw [List.reverse_reverse, List.reverse_reverse] at this
    exact this
  cases h with
  | nil => cases ha
  | keep z h =>
    injection ha with e1 e2
    injection hb with e3 e4
    subst e2 e4
    exact .inl ⟨e1.trans e3.symm, back h⟩
  | sub z w h =>
    injection ha with e1 e2
    injection hb with e3 e4
    subst e2 e4
    exact .inr ⟨_, rfl, .inl (back h)⟩
  | del z h =>
    injection ha with e1 e2
    subst e2 hb
    refine .inr ⟨_, rfl, .inr (.inl (back ?_))⟩
    rw [List.reverse_append]
    exact h
  | ins z h =>
    injection hb with e1 e2
    subst e2 ha
    refine .inr ⟨_, rfl, .inr (.inr (back ?_))⟩
    rw [List.reverse_append]
    exact h
theorem cell_least (a b : List Nat) : ∀ (i j : Nat), i ≤ a.length → j ≤ b.length → ∀ n, Edit (a.take i) (b.take j) n → cell a b i j ≤ n
  | 0, j, _, hj, n, h => by
    have := h.len
    rw [cell_0]
    rw [List.length_take, List.length_take, Nat.min_eq_left hj] at this
    omega
  | i + 1, 0, hi, _, n, h => by
    have := h.len
    rw [cell_s0]
    rw [List.length_take, List.length_take, Nat.min_eq_left hi] at this
    omega
  | i + 1, j + 1, hi, hj, n, h => by
    have ea : a[i]? = some a[i] := List.getElem?_eq_getElem (by omega)
    have eb : b[j]? = some b[j] := List.getElem?_eq_getElem (by omega)
    rw [take_snoc ea, take_snoc eb] at h
    rw [cell_ss]
    rcases h.snoc with ⟨e, h1⟩ | ⟨m, rfl, h1 | h1 | h1⟩
    · have := cell_least a b i j (by omega) (by omega) n h1
      rw [if_pos (by rw [ea, eb, e])]
      omega
    · have := cell_least a b i j (by omega) (by omega) m h1
      have : (if a[i]? = b[j]? then 0 else 1) ≤ 1 := by split <;> omega
      omega
    · rw [← take_snoc eb] at h1
      have := cell_least a b i (j + 1) (by omega) hj m h1
      omega
    · rw [← take_snoc ea] at h1
      have := cell_least a b (i + 1) j hi (by omega) m h1
      omega
termination_by i j => (i, j)
theorem dist_edit (a b : List Nat) : Edit a b (dist a b) := by
  have := cell_edit a b a.length b.length (Nat.le_refl _) (Nat.le_refl _)
  rw [List.take_length, List.take_length] at this
  exact this
theorem dist_least {a b : List Nat} {n : Nat} (h : Edit a b n) : dist a b ≤ n := cell_least a b a.length b.length (Nat.le_refl _) (Nat.le_refl _) n (by rw [List.take_length, List.take_length]; exact h)
theorem dist_zero {a b : List Nat} : dist a b = 0 ↔ a = b := ⟨fun h => (dist_edit a b).zero h, fun h => by subst h; exact Nat.le_zero.mp (dist_least (Edit.self a))⟩
theorem dist_symm (a b : List Nat) : dist a b = dist b a := Nat.le_antisymm (dist_least (dist_edit b a).symm) (dist_least (dist_edit a b).symm)
theorem dist_rev (a b : List Nat) : dist a.reverse b.reverse = dist a b := Nat.le_antisymm (dist_least (dist_edit a b).rev) (dist_least (by
  have := (dist_edit a.reverse b.reverse).rev
  rw [List.reverse_reverse, List.reverse_reverse] at this
  exact this))
theorem dist_tri (a b c : List Nat) : dist a b ≤ dist a c + dist c b := by
  obtain ⟨k, hk, e⟩ := (dist_edit a c).trans (dist_edit c b)
  exact Nat.le_trans (dist_least e) hk
theorem dist_low (a b : List Nat) : a.length ≤ b.length + dist a b ∧ b.length ≤ a.length + dist a b := (dist_edit a b).len
theorem dist_high (a b : List Nat) : dist a b ≤ max a.length b.length := by
  obtain ⟨n, h1, h2⟩ := Edit.top a b
  exact Nat.le_trans (dist_least h2) h1
theorem dist_cons (x : Nat) (a b : List Nat) : dist (x :: a) (x :: b) = dist a b := by
  refine Nat.le_antisymm (dist_least (.keep x (dist_edit a b))) ?_
  obtain ⟨k, hk, e⟩ := (dist_edit (x :: a) (x :: b)).tail
  exact Nat.le_trans (dist_least e) hk
theorem dist_snoc (x : Nat) (a b : List Nat) : dist (a ++ [x]) (b ++ [x]) = dist a b := by
  rw [← dist_rev (a ++ [x]), List.reverse_append, List.reverse_append]
  show dist (x :: a.reverse) (x :: b.reverse) = dist a b
  rw [dist_cons, dist_rev]
end Nw

set_option Elab.async false
set_option linter.all false
set_option maxRecDepth 100000
/-! Nw.Tab: need_word, first_row, next_row, rows_of, table -/
namespace Nw
open PySem L2 Evl
/-! ### min of three, min(xs, default=d) -/
def nMin3 : List V → Hp → VK → Prop := fun xs H Q => ∃ i j k : Int, xs = [.int i, .int j, .int k] ∧ Q (.int (min (min i j) k)) H
theorem min2_int (i j : Int) : nuMin2 (.int i) (.int j) = some (.int (min i j)) := by
  show Option.map _ (some (decide (j < i))) = _
  by_cases h : j < i
  · rw [decide_eq_true h, Int.min_eq_right (by omega)]; rfl
  · rw [decide_eq_false h, Int.min_eq_left (by omega)]; rfl
theorem min3_int (i j k : Int) : nuMin3 (.int i) (.int j) (.int k) = some (.int (min (min i j) k)) := by
  unfold nuMin3
  rw [min2_int]
  exact min2_int _ _
theorem c_min3 {X : Cx} (hc : X.calm = true) : CallR X (.builtin "min") nMin3 := by
  intro pins s σ H xs us Q I r h
  obtain ⟨i, j, k, rfl, q⟩ := h
  exact call_min3Nu hc pins s σ H _ us Q I r ⟨_, _, _, _, rfl, min3_int i j k, q⟩
def minI (d : Int) : List Int → Int
  | [] => d
  | n :: r => r.foldl min n
def nMinD (K : PySem.W.Frag) : List V → List V → Hp → VK → Prop := fun vs zs H Q => ∃ (a : Addr) (ns : List Int) (d : Int), vs = [.ref a] ∧ zs = [.int d] ∧ SqL K H a (ns.map V.int) ∧ Q (.int (minI d ns)) H
theorem c_minD {X : Cx} (hc : X.calm = true) (hu : X.A.units + 64 < cLine) : CallRK X (.builtin "min") [Str.ofString "default"] (nMinD X.K) := by
  intro pins s σ H vs zs us ws Q I r rz h
  obtain ⟨a, ns, d, rfl, rfl, hs, q⟩ := h
  obtain ⟨its, rv, hl, hz⟩ := I.list hs
  obtain rfl := Vals.ref1 r
  obtain ⟨w1, rfl, t, rfl⟩ := vals1 rz
  obtain ⟨as, hr⟩ := Dp.readsAll I (ns.map PyData.int) (ns.map V.int) its (dpAll_map (α := Unit) V.int PyData.int (fun b => .int b) ns) rv
  refine PySem.W.min_list_default (I.ok.hd hc) hl.isList (xs := ns.map PyData.int) (as := as) (by simpa using hr) ⟨fun x hx y hy => ?_, fun x hx => ?_⟩ (by rw [PySem.W.depth_ints]; omega) (fun h0 h' tk k => ⟨.int d, H, I.kept k, ⟨_, rfl⟩, ?_⟩) (fun y ys i v h' tk bs e hv hr k => ?_)
  · obtain ⟨i, _, rfl⟩ := List.mem_map.mp hx
    obtain ⟨j, _, rfl⟩ := List.mem_map.mp hy
    rfl
  · obtain ⟨i, _, rfl⟩ := List.mem_map.mp hx
    exact fun z => nomatch z
  · rw [List.map_eq_nil_iff.mp h0] at q
    exact q
  · cases ns with
    | nil => cases e
    | cons n ns =>
      injection e with e1 e2
      subst e1 e2
      rw [PySem.W.minD_ints] at hr
      cases hr with
      | int _ t => exact ⟨.int _, H, I.kept k, ⟨_, rfl⟩, q⟩
section
variable {K : PySem.W.Frag} {σ : L2.St} {H : Hp} {ta tb tc : TE} {i j k : Int}
theorem e_min3 (ha : Ev ta σ H (.int i)) (hb : Ev tb σ H (.int j)) (hc : Ev tc σ H (.int k)) : Ev (tCB nMin3 (tCons ta (tCons tb (tCons tc tNil)))) σ H (.int (min (min i j) k)) :=
  ev_cb (ea_cons ha (ea_cons hb (ea_cons hc ea_nil))) fun H1 e Q q => ⟨i, j, k, rfl, q H1 (Ex.refl H1)⟩
theorem e_minD {a : Addr} {ns : List Int} (ha : Ev ta σ H (.ref a)) (hs : SqL K H a (ns.map V.int)) (hb : Ev tb σ H (.int k)) : Ev (tCKw (nMinD K) (tCons ta tNil) (tCons tb tNil)) σ H (.int (minI k ns)) := fun H1 e Q q =>
  ea_cons ha ea_nil H1 e _ fun H2 e2 => ea_cons hb ea_nil H2 (e.trans e2) _ fun H3 e3 => ⟨a, ns, k, rfl, rfl, ex_l ((e.trans e2).trans e3) hs, q H3 (e2.trans e3)⟩
end
/-! ### [f(x) for x in xs], each a new list -/
section
variable {K : PySem.W.Frag} {σ : L2.St} {H : Hp} {tl te : TE} {Q : VK}
theorem lc_new {a : Addr} {xs : List V} {j : Nat} {vs : List Nat} (f : Nat → List V) (h : Ev tl σ H (.ref a)) (hx : SqL K H a xs) (hz : xs.length ≤ 40000) (hw : ∀ x, wipe ((wipe σ vs).set j (some x)) vs = wipe σ vs)
    (he : ∀ (i : Nat) (x : V) H1, Ex H H1 → xs[i]? = some x → EvL te ((wipe σ vs).set j (some x)) H1 (f i))
    (k : ∀ (l : Addr) (rs : List Addr) (H2 : Hp), H l = none → Ex H H2 → H2 l = some (.lst (rs.map V.ref)) → rs.length = xs.length → (∀ i r, rs[i]? = some r → H r = none ∧ H2 r = some (.lst (f i))) → Q (.ref l) H2) :
    tLc (iList K tl) (gName j) tYes te vs σ H Q := h H (Ex.refl H) _ fun H1 e1 => ⟨a, rfl, ⟨xs, ex_l e1 hx⟩, fun Dl hD =>
  lc_list (xs := xs) (fun i H' => Ex H1 H' ∧ ∃ rs : List Addr, H' Dl = some (.lst (rs.map V.ref)) ∧ rs.length = i ∧ ∀ k r, rs[k]? = some r → H1 r = none ∧ del H' Dl r = some (.lst (f k)))
    ⟨Ex.new hD, [], upd_same, rfl, fun k r hk => by simp at hk⟩ (fun i H' _ p => ex_l (e1.trans p.1) hx)
    (fun i x H' hi p => ⟨hw x, by
      obtain ⟨e, rs, hl, hlen, hr⟩ := p
      have hlt := (List.getElem?_eq_some_iff.mp hi).1
      refine he i x H' (e1.trans e) hi H' (Ex.refl H') _ fun r H3 hr0 e3 h3 => ?_
      have hne : r ≠ Dl := fun z => by rw [z, hl] at hr0; cases hr0
      refine ⟨rs.map V.ref, e3 _ _ hl, by rw [List.length_map, hlen]; exact sz_lt (by omega), Ex.mut (e.trans e3) hD, rs ++ [r], by rw [upd_same, List.map_append]; rfl, by rw [List.length_append, hlen]; rfl, fun k q hk => ?_⟩
      rw [del_upd]
      rcases Nat.lt_or_ge k rs.length with h | h
      · rw [List.getElem?_append_left h] at hk
        obtain ⟨p1, p2⟩ := hr k q hk
        exact ⟨p1, del_mono e3 _ _ p2⟩
      · rw [List.getElem?_append_right h] at hk
        have hk0 : k = rs.length := by
          rcases Nat.lt_or_ge (k - rs.length) 1 with h | h
          · omega
          · rw [List.getElem?_eq_none (by simpa using h)] at hk; cases hk
        subst hk0
        rw [Nat.sub_self] at hk
        injection hk with hk
        subst hk
        exact ⟨fresh_back e hr0, by rw [del_ne hne, h3, hlen]⟩⟩)
    (fun H' p => by
      obtain ⟨e, rs, hl, hlen, hr⟩ := p
      exact k Dl rs H' (fresh_back e1 hD) (e1.trans e) hl hlen fun i r hi => ⟨fresh_back e1 (hr i r hi).1, del_ex _ _ (hr i r hi).2⟩)⟩
theorem q_lcNew {D : Ends} {tz : TS} {m : Nat} {a : Addr} {xs : List V} {j : Nat} {vs : List Nat} (f : Nat → List V) (h : Ev tl σ H (.ref a)) (hx : SqL K H a xs) (hz : xs.length ≤ 40000) (hw : ∀ x, wipe ((wipe σ vs).set j (some x)) vs = wipe σ vs)
    (he : ∀ (i : Nat) (x : V) H1, Ex H H1 → xs[i]? = some x → EvL te ((wipe σ vs).set j (some x)) H1 (f i))
    (k : ∀ (l : Addr) (rs : List Addr) (H2 : Hp), H l = none → Ex H H2 → H2 l = some (.lst (rs.map V.ref)) → rs.length = xs.length → (∀ i r, rs[i]? = some r → H r = none ∧ H2 r = some (.lst (f i))) → tz D (σ.set m (some (.ref l))) H2) :
    tSeq (tAsg (tLc (iList K tl) (gName j) tYes te vs) (gName m)) tz D σ H := lc_new (Q := fun v H2 => tz D (σ.set m (some v)) H2) f h hx hz hw he k
/-- xs.clear() -/
theorem q_clear {l : Addr} {xs : List V} {ta : TE} {D : Ends} {tz : TS} (ha : Ev ta σ H (.ref l)) (hl : H l = some (.lst xs)) (k : ∀ H1, Ex H H1 → tz D σ (upd H1 l (.lst []))) : tSeq (tDrop (tBM0 K "list" rClear ta)) tz D σ H :=
  ha H (Ex.refl H) _ fun H1 e1 => ⟨.inl ⟨rfl, xs, sq_of (e1 _ _ hl)⟩, l, xs, rfl, rfl, e1 _ _ hl, k H1 e1⟩
theorem dpAll_of : ∀ {xs : List V} {ds : List PyData}, xs.length = ds.length → (∀ (i : Nat) x d, xs[i]? = some x → ds[i]? = some d → Dp K H x d) → DpAll K H xs ds
  | [], [], _, _ => .nil
  | [], _ :: _, h, _ => by simp at h
  | _ :: _, [], h, _ => by simp at h
  | x :: xs, d :: ds, h, f => .cons (f 0 x d rfl rfl) (dpAll_of (by simpa using h) fun i y e h1 h2 => f (i + 1) y e (by simpa using h1) (by simpa using h2))
theorem is_rows {p : Addr} {rs : List Addr} {m : Nat} (f : Nat → List Int) (hp : H p = some (.lst (rs.map V.ref))) (hm : rs.length = m) (hr : ∀ i r, rs[i]? = some r → H r = some (.lst ((f i).map V.int))) : Is K H (.ref p) ((List.range m).map f) := by
  refine .lst (sq_of hp) (dpAll_of (by simp [hm]) fun i x d h1 h2 => ?_)
  rw [List.getElem?_map] at h1 h2
  cases e : rs[i]? with
  | none => rw [e] at h1; cases h1
  | some r =>
    rw [e] at h1
    injection h1 with h1
    subst h1
    have hi := (List.getElem?_eq_some_iff.mp e).1
    rw [List.getElem?_map, List.getElem?_range (by omega)] at h2
    injection h2 with h2
    subst h2
    exact is_ints (sq_of (hr i r e))
end
/-! ### rows -/
def rowV (f : Nat → Nat) (n : Nat) : List V := (List.range n).map fun j => V.int (f j : Int)
theorem rowV_len (f : Nat → Nat) (n : Nat) : (rowV f n).length = n := by unfold rowV; rw [List.length_map, List.length_range]
theorem rowV_snoc (f : Nat → Nat) (n : Nat) : rowV f (n + 1) = rowV f n ++ [V.int (f n : Int)] := by unfold rowV; rw [List.range_succ, List.map_append]; rfl
theorem rowV_get {f : Nat → Nat} {n j : Nat} (h : j < n) : (rowV f n)[j]? = some (.int (f j : Int)) := by unfold rowV; rw [List.getElem?_map, List.getElem?_range h]; rfl
theorem rowV_at {f : Nat → Nat} {n j : Nat} {z : Int} (e : z = (j : Int)) (h : j < n) : atI (rowV f n) z = some (.int (f j : Int)) := by subst e; exact atI_nat (rowV_get h)
theorem rowV_congr {f g : Nat → Nat} {n : Nat} (h : ∀ j, j < n → f j = g j) : rowV f n = rowV g n := by
  unfold rowV
  exact List.map_congr_left fun j hj => by rw [h j (List.mem_range.mp hj)]
theorem at_end {α : Type} {xs : List α} {v : α} {n : Nat} (hl : xs.length = n + 1) (h : xs[n]? = some v) : atI xs (-1) = some v := by
  have e : xs = xs.take n ++ [v] := by
    have e1 := List.take_length (l := xs)
    rw [hl, List.take_add_one, h] at e1
    exact e1.symm
  rw [e]
  exact atI_last _ _
theorem rowV_last {f : Nat → Nat} {n : Nat} : atI (rowV f (n + 1)) (-1) = some (.int (f n : Int)) := at_end (rowV_len _ _) (rowV_get (Nat.lt_succ_self n))
def nxt (f : Nat → Nat) (c : Nat) (w : List Nat) : Nat → Nat
  | 0 => f 0 + 1
  | j + 1 => min (min (f j + if w[j]? = some c then 0 else 1) (f (j + 1) + 1)) (nxt f c w j + 1)
theorem cell_nxt {a b : List Nat} {i c : Nat} (h : a[i]? = some c) : ∀ j, cell a b (i + 1) j = nxt (cell a b i) c b j
  | 0 => by rw [cell_s0, nxt, cell_i0]
  | j + 1 => by
    rw [cell_ss, nxt, cell_nxt h j, h]
    have e : (some c = b[j]?) = (b[j]? = some c) := propext ⟨Eq.symm, Eq.symm⟩
    simp only [e]
/-! ### the defs -/
def IsWd (v : V) : Prop := ∃ w, v = tx w ∧ isW w = true
def Rws (H : Hp) (rs : List Addr) (n : Nat) (a b : List Nat) : Prop := rs.length = n + 1 ∧ ∀ i r, rs[i]? = some r → H r = some (.lst (rowV (cell a b i) (b.length + 1)))
def RowsAt (a b : List Nat) (v : V) (H : Hp) : Prop := ∃ p rs, v = .ref p ∧ H p = some (.lst (rs.map V.ref)) ∧ Rws H rs a.length a b
theorem rws_up {H H' : Hp} {rs : List Addr} {n : Nat} {a b : List Nat} (e : Ex H H') (h : Rws H rs n a b) : Rws H' rs n a b := ⟨h.1, fun i r hr => e _ _ (h.2 i r hr)⟩
theorem rowsAt_up (a b : List Nat) : Up (RowsAt a b) := fun _ _ _ e ⟨p, rs, hv, hp, h⟩ => ⟨p, rs, hv, e _ _ hp, rws_up e h⟩
def sp_need_word (K : PySem.W.Frag) (C : Addr) : Sp := fun vs H Q E => ∃ v, vs = [v] ∧ Any v H ∧ (IsWd v → RetV .non H Q) ∧ (¬ IsWd v → RetE C H E)
def sp_first_row (K : PySem.W.Frag) : Sp := fun vs H Q _ => ∃ w, vs = [tx w] ∧ w.length ≤ 1000 ∧ RetL (rowV id (w.length + 1)) H Q
def sp_next_row (K : PySem.W.Frag) : Sp := fun vs H Q _ => ∃ p f c w, vs = [.ref p, tx [c], tx w] ∧ SqL K H p (rowV f (w.length + 1)) ∧ w.length ≤ 1000 ∧ RetL (rowV (nxt f c w) (w.length + 1)) H Q
def sp_rows_of (K : PySem.W.Frag) : Sp := fun vs H Q _ => ∃ a b, vs = [tx a, tx b] ∧ a.length ≤ 1000 ∧ b.length ≤ 1000 ∧ RetG (RowsAt a b) H Q
def sp_table (K : PySem.W.Frag) (C : Addr) : Sp := fun vs H Q E => ∃ x y, vs = [x, y] ∧ Any x H ∧ Any y H ∧ (∀ a b, x = tx a → y = tx b → isW a = true → isW b = true → RetG (RowsAt a b) H Q) ∧ (¬ (IsWd x ∧ IsWd y) → RetE C H E)
/- need_word(thing): slots 0:thing -/
def T_need_word (K : PySem.W.Frag) (C_BadWord : Addr) (E : XK) : TS :=
 (tIfS (tNot (tB (tCall (sp_is_word K) [] E0 (tCons (tVar 0) tNil))))
 (tRaise E (.ref C_BadWord)) tNext)
def n_need_word : Nat := 1
/- first_row(word): slots 0:word -/
def T_first_row (K : PySem.W.Frag) : TS :=
 (tRet (tLstRg (tRg1 (tOp nAdd (tCB nLenS (tCons (tVar 0) tNil)) (tC (.int 1))))))
def n_first_row : Nat := 1
/- next_row(row, letter, word): slots 0:row 1:letter 2:word 3:found 4:at 5:straight -/
def T_next_row (K : PySem.W.Frag) : TS :=
 (tSeq (tAsg (tLst (tCons (tOp nAdd (tOp (nIxL K) (tVar 0) (tC (.int 0))) (tC (.int 1))) tNil)) (gName 3))
 (tSeq (tFor (iRng1 (tCons (tCB nLenS (tCons (tVar 2) tNil)) tNil)) (gName 4)
 (tSeq (tAsg (tOp (nIxL K) (tVar 0) (tVar 4)) (gName 5))
 (tSeq (tIfS (tTest (tOp nNe (tOp nIxS (tVar 2) (tVar 4)) (tVar 1)))
 (tAug 5 (tC (.int 1)) (ipI (fun i j => i + j))) tNext)
 (tDrop (tBM K "list" rAppend (tVar 3) (tCons (tCB nMin3 (tCons (tVar 5) (tCons (tOp nAdd (tOp (nIxL K) (tVar 0) (tOp nAdd (tVar 4) (tC (.int 1)))) (tC (.int 1))) (tCons (tOp nAdd (tOp (nIxL K) (tVar 3) (tVar 4)) (tC (.int 1))) tNil)))) tNil))))))
 (tRet (tVar 3))))
def n_next_row : Nat := 6
/- rows_of(one, other): slots 0:one 1:other 2:found 3:letter -/
def T_rows_of (K : PySem.W.Frag) : TS :=
 (tSeq (tAsg (tLst (tCons (tCall (sp_first_row K) [] E0 (tCons (tVar 1) tNil)) tNil)) (gName 2))
 (tSeq (tFor (iStr (tVar 0)) (gName 3)
 (tDrop (tBM K "list" rAppend (tVar 2) (tCons (tCall (sp_next_row K) [] E0 (tCons (tOp (nIxL K) (tVar 2) (tUn nNeg (tC (.int 1)))) (tCons (tVar 3) (tCons (tVar 1) tNil)))) tNil))))
 (tRet (tVar 2))))
def n_rows_of : Nat := 4
/- table(one, other): slots 0:one 1:other -/
def T_table (K : PySem.W.Frag) (C_BadWord : Addr) (E : XK) : TS :=
 (tSeq (tDrop (tCall (sp_need_word K C_BadWord) [] E (tCons (tVar 0) tNil)))
 (tSeq (tDrop (tCall (sp_need_word K C_BadWord) [] E (tCons (tVar 1) tNil)))
 (tRet (tCall (sp_rows_of K) [] E0 (tCons (tVar 0) (tCons (tVar 1) tNil))))))
def n_table : Nat := 2
theorem l_need_word {K C vs H Q E} (h : sp_need_word K C vs H Q E) : vs.length = 1 := by obtain ⟨v, rfl, _⟩ := h; rfl
theorem l_first_row {K vs H Q E} (h : sp_first_row K vs H Q E) : vs.length = 1 := by obtain ⟨v, rfl, _⟩ := h; rfl
theorem l_next_row {K vs H Q E} (h : sp_next_row K vs H Q E) : vs.length = 3 := by obtain ⟨_, _, _, _, rfl, _⟩ := h; rfl
theorem l_rows_of {K vs H Q E} (h : sp_rows_of K vs H Q E) : vs.length = 2 := by obtain ⟨_, _, rfl, _⟩ := h; rfl
theorem l_table {K C vs H Q E} (h : sp_table K C vs H Q E) : vs.length = 2 := by obtain ⟨_, _, rfl, _⟩ := h; rfl
section
variable {K : PySem.W.Frag} {vs : List V} {H : Hp} {Q : VK} {E : XK} {C : Addr} {σ : L2.St} {ta tb tc : TE}
theorem e_is_word {v : V} (h : Ev ta σ H v) (hv : Any v H) : ∃ b, Ev (tCall (sp_is_word K) [] E0 (tCons ta tNil)) σ H (.bl b) ∧ (b = true ↔ IsWd v) := by
  rcases hv with ⟨w, rfl, hw⟩ | ho
  · refine ⟨isW w, ev_call (ea_cons h ea_nil) fun H1 e Q q E => ⟨_, rfl, .inl ⟨w, rfl, hw, fun H2 e2 => q H2 e2⟩⟩, fun hh => ⟨w, rfl, hh⟩, ?_⟩
    rintro ⟨u, e, hu⟩
    rw [tx_inj.mp e]
    exact hu
  · refine ⟨false, ev_call (ea_cons h ea_nil) fun H1 e Q q E => ⟨_, rfl, .inr ⟨odd_up _ _ _ e ho, fun H2 e2 => q H2 e2⟩⟩, fun hh => (by cases hh), ?_⟩
    rintro ⟨u, rfl, hu⟩
    rcases ho with h | ⟨i, h⟩ | ⟨b, h⟩ | ⟨p, h, _⟩ <;> cases h
theorem R_need_word (h : sp_need_word K C vs H Q E) : T_need_word K C E (fin Q) (slots n_need_word vs) H := by
  obtain ⟨v, rfl, hv, kQ, kE⟩ := h
  show T_need_word K C E (fin Q) [some v] H
  unfold T_need_word
  obtain ⟨b, hb, hi⟩ := e_is_word (K := K) (ta := tVar 0) (σ := [some v]) (ev_var rfl) hv
  refine s_when (et_not (et_B hb)) (fun hh H1 e1 => ?_) (fun hh H1 e1 => ?_)
  · exact raise_ok (kE fun hw => by rw [hi.mpr hw] at hh; cases hh) e1
  · exact kQ (hi.mp (by simpa using hh)) _ e1
theorem rgV_row (n : Nat) : rgV 0 ((n : Int) + 1) = rowV id (n + 1) := by
  unfold rgV rowV
  have e : ((n : Int) + 1 - 0).toNat = n + 1 := by omega
  rw [e]
  exact List.map_congr_left fun j _ => by rw [Int.zero_add]; rfl
theorem R_first_row (h : sp_first_row K vs H Q E) : T_first_row K (fin Q) (slots n_first_row vs) H := by
  obtain ⟨w, rfl, hw, k⟩ := h
  show T_first_row K (fin Q) [some (tx w)] H
  unfold T_first_row
  refine s_retL (xs := rowV id (w.length + 1)) (fun H0 e Q q => ?_) fun p H1 hp e h1 => k p H1 hp e h1
  exact e_add (e_lenS (ev_var rfl) (by omega)) ev_c H0 e _ fun H1 e1 => ⟨_, rfl, RgOk.of_le (by decide) (by omega) (by decide) (by omega), fun p hp => by
    rw [rgV_row]
    exact q p _ (fresh_back e1 hp) (e1.trans (Ex.new hp)) upd_same⟩
theorem R_next_row (h : sp_next_row K vs H Q E) : T_next_row K (fin Q) (slots n_next_row vs) H := by
  obtain ⟨p, f, c, w, rfl, hp, hw, k⟩ := h
  show T_next_row K (fin Q) [some (.ref p), some (tx [c]), some (tx w), none, none, none] H
  unfold T_next_row
  refine q_asgL (el_lst (ea_cons (e_add (e_ixL (ev_var rfl) ev_c hp (rowV_at (j := 0) rfl (by omega))) ev_c) ea_nil) (by simp)) fun l H1 hl e1 hl1 => ?_
  refine q_forR1 (n := (w.length : Int)) (ea_cons (e_lenS (ev_var rfl) (by omega)) ea_nil) (by omega) (fun i σ H' => (∃ x4 x5, σ = [some (.ref p), some (tx [c]), some (tx w), some (.ref l), x4, x5]) ∧ Ex H H' ∧ H' l = some (.lst (rowV (nxt f c w) (i + 1)))) (fun H2 e2 => ⟨⟨_, _, rfl⟩, e1.trans e2, e2 _ _ hl1⟩) (fun i σ H' hi hp' => ?_) (fun σ H' hp' => ?_)
  · obtain ⟨⟨x4, x5, rfl⟩, e, hl'⟩ := hp'
    have hi' : i < w.length := by omega
    refine q_asg (e_ixL (ev_var rfl) (ev_var rfl) (ex_l e hp) (rowV_at (j := i) rfl (by omega))) fun H2 e2 => ?_
    have last : ∀ (s : Int) H3, Ex H H3 → H3 l = some (.lst (rowV (nxt f c w) (i + 1))) → s = ((f i + if w[i]? = some c then 0 else 1 : Nat) : Int) →
        (tDrop (tBM K "list" rAppend (tVar 3) (tCons (tCB nMin3 (tCons (tVar 5) (tCons (tOp nAdd (tOp (nIxL K) (tVar 0) (tOp nAdd (tVar 4) (tC (.int 1)))) (tC (.int 1))) (tCons (tOp nAdd (tOp (nIxL K) (tVar 3) (tVar 4)) (tC (.int 1))) tNil)))) tNil)))
        { nx := fun σ H' => (∃ x4 x5, σ = [some (.ref p), some (tx [c]), some (tx w), some (.ref l), x4, x5]) ∧ Ex H H' ∧ H' l = some (.lst (rowV (nxt f c w) (i + 1 + 1))), rt := Q, ct := fun σ H' => (∃ x4 x5, σ = [some (.ref p), some (tx [c]), some (tx w), some (.ref l), x4, x5]) ∧ Ex H H' ∧ H' l = some (.lst (rowV (nxt f c w) (i + 1 + 1))), bk := (tRet (tVar 3)) (fin Q) }
        [some (.ref p), some (tx [c]), some (tx w), some (.ref l), some (.int (i : Int)), some (.int s)] H3 := by
      intro s H3 e3 h3 hs
      refine s_app h3 (ev_var rfl) (e_min3 (ev_var rfl) (e_add (e_ixL (ev_var rfl) (e_add (ev_var rfl) ev_c) (ex_l e3 hp) (rowV_at (j := i + 1) (by omega) (by omega))) ev_c) (e_add (e_ixL (ev_var rfl) (ev_var rfl) (sq_of h3) (rowV_at (j := i) rfl (by omega))) ev_c)) (by rw [rowV_len]; omega) fun H4 e4 => ?_
      refine ⟨⟨_, _, rfl⟩, Ex.mut (e3.trans e4) hl, ?_⟩
      rw [upd_same, rowV_snoc _ (i + 1), hs]
      have en : min (min ((f i + if w[i]? = some c then 0 else 1 : Nat) : Int) ((f (i + 1) : Int) + 1)) ((nxt f c w i : Int) + 1) = ((nxt f c w (i + 1) : Nat) : Int) := by rw [nxt]; omega
      rw [en]
    have hc : w[i]? = some w[i] := List.getElem?_eq_getElem hi'
    refine Evl.q_when (b := !decide (w[i] = c)) (et_test (e_ne (e_ixS (ev_var rfl) (ev_var rfl) (by omega) (atI_nat hc)) (ev_var rfl) (by
      have e : decide (w[i] = c) = decide ([w[i]] = [c]) := dec_eq (by simp)
      rw [e]
      exact .ss))) (fun hh H3 e3 => ?_) (fun hh H3 e3 => ?_)
    · have hne : ¬ w[i] = c := by simpa using hh
      refine s_aug rfl ev_c fun H4 e4 => ?_
      exact last _ H4 (((e.trans e2).trans e3).trans e4) (e4 _ _ (e3 _ _ (e2 _ _ hl'))) (by rw [hc, if_neg (fun z => hne (Option.some.inj z))]; omega)
    · have he : w[i] = c := by simpa using hh
      exact last _ H3 ((e.trans e2).trans e3) (e3 _ _ (e2 _ _ hl')) (by rw [hc, if_pos (by rw [he])]; omega)
  · obtain ⟨⟨x4, x5, rfl⟩, e, hl'⟩ := hp'
    exact s_ret (ev_var rfl) fun H2 e2 => k l _ hl (e.trans e2) (e2 _ _ hl')
theorem el_first_row {w : List Nat} (h : Ev ta σ H (tx w)) (hw : w.length ≤ 1000) : EvL (tCall (sp_first_row K) [] E0 (tCons ta tNil)) σ H (rowV id (w.length + 1)) := el_call (ea_cons h ea_nil) fun H1 e Q q E => ⟨w, rfl, hw, q⟩
theorem el_next_row {p : Addr} {f : Nat → Nat} {c : Nat} {w : List Nat} (ha : Ev ta σ H (.ref p)) (hb : Ev tb σ H (tx [c])) (hc : Ev tc σ H (tx w)) (hp : SqL K H p (rowV f (w.length + 1))) (hw : w.length ≤ 1000) :
    EvL (tCall (sp_next_row K) [] E0 (tCons ta (tCons tb (tCons tc tNil)))) σ H (rowV (nxt f c w) (w.length + 1)) := el_call (ea_cons ha (ea_cons hb (ea_cons hc ea_nil))) fun H1 e Q q E => ⟨p, f, c, w, rfl, ex_l e hp, hw, q⟩
def IsRow (f : Nat → Nat) (n : Nat) (v : V) (H : Hp) : Prop := ∃ r, v = .ref r ∧ H r = some (.lst (rowV f n))
theorem isRow_up (f : Nat → Nat) (n : Nat) : Up (IsRow f n) := fun _ _ _ e ⟨r, hv, h⟩ => ⟨r, hv, e _ _ h⟩
theorem R_rows_of (h : sp_rows_of K vs H Q E) : T_rows_of K (fin Q) (slots n_rows_of vs) H := by
  obtain ⟨a, b, rfl, ha, hb, k⟩ := h
  show T_rows_of K (fin Q) [some (tx a), some (tx b), none, none] H
  unfold T_rows_of
  refine q_asgAll (isRow_up id (b.length + 1)) (all_cons (isRow_up _ _) (g_lst (el_first_row (ev_var rfl) hb) fun r H2 _ h => ⟨r, rfl, h⟩) all_nil) (by decide) fun vs l H1 hl e1 hl1 hall hlen => ?_
  obtain ⟨v, rfl⟩ := List.length_eq_one_iff.mp hlen
  obtain ⟨r0, rfl, hr0⟩ := hall v (by simp)
  have hrl : r0 ≠ l := fun z => by
    rw [z, hl1] at hr0
    have e := congrArg (fun xs => xs[0]?) (HO.lst.inj (Option.some.inj hr0))
    have e2 : (rowV id (b.length + 1))[0]? = some (.int ((id 0 : Nat) : Int)) := rowV_get (by omega)
    rw [show ([V.ref r0] : List V)[0]? = some (.ref r0) from rfl, e2] at e
    cases e
  refine q_forS (ev_var rfl) (fun i σ H' => (∃ x3, σ = [some (tx a), some (tx b), some (.ref l), x3]) ∧ ∃ rs, H' l = some (.lst (rs.map V.ref)) ∧ Ex H (del H' l) ∧ Rws (del H' l) rs i a b)
    (fun H2 e2 => ⟨⟨_, rfl⟩, [r0], e2 _ _ hl1, ex_del hl (e1.trans e2), rfl, fun i r hr => ?_⟩) (fun i c σ H' hc hp => ?_) (fun σ H' hp => ?_)
  · cases i with
    | zero =>
      injection hr with hr
      subst hr
      rw [del_ne hrl, e2 _ _ hr0, rowV_congr (f := cell a b 0) (g := id) fun j _ => cell_0 a b j]
    | succ i => simp at hr
  · obtain ⟨⟨x3, rfl⟩, rs, hl', e, hr⟩ := hp
    have hi : i < a.length := (List.getElem?_eq_some_iff.mp hc).1
    obtain ⟨r, hri⟩ : ∃ r, rs[i]? = some r := ⟨_, List.getElem?_eq_getElem (by rw [hr.1]; omega)⟩
    have hrow := del_ex _ _ (hr.2 i r hri)
    have hat : atI (rs.map V.ref) (-1) = some (.ref r) := at_end (n := i) (by rw [List.length_map, hr.1]) (by rw [List.getElem?_map, hri]; rfl)
    refine s_appL hl' (ev_var rfl) (el_next_row (e_ixL (ev_var rfl) (e_neg ev_c) (sq_of hl') hat) (ev_var rfl) (ev_var rfl) (sq_of hrow) hb) (by rw [List.length_map, hr.1]; omega) fun p H2 hp e2 hp2 => ?_
    have hpl : p ≠ l := fun z => by
      rw [z, hl'] at hp
      cases hp
    refine ⟨⟨_, rfl⟩, rs ++ [p], by rw [upd_same, List.map_append]; rfl, ?_⟩
    rw [del_upd]
    have e' := del_mono (l := l) e2
    refine ⟨e.trans e', by rw [List.length_append, hr.1]; rfl, fun k q hk => ?_⟩
    rcases Nat.lt_or_ge k rs.length with hlt | hge
    · rw [List.getElem?_append_left hlt] at hk
      exact e' _ _ (hr.2 k q hk)
    · rw [List.getElem?_append_right hge] at hk
      have hk0 : k = rs.length := by
        rcases Nat.lt_or_ge (k - rs.length) 1 with h | h
        · omega
        · rw [List.getElem?_eq_none (by simpa using h)] at hk; cases hk
      subst hk0
      rw [Nat.sub_self] at hk
      injection hk with hk
      subst hk
      rw [del_ne hpl, hp2, hr.1, rowV_congr fun j _ => (cell_nxt hc j).symm]
  · obtain ⟨⟨x3, rfl⟩, rs, hl', e, hr⟩ := hp
    exact s_ret (ev_var rfl) fun H2 e2 => k _ _ ((e.trans del_ex).trans e2) ⟨l, rs, rfl, e2 _ _ hl', rws_up (del_ex.trans e2) hr⟩
theorem g_rows_of {a b : List Nat} (h1 : Ev ta σ H (tx a)) (h2 : Ev tb σ H (tx b)) (ha : a.length ≤ 1000) (hb : b.length ≤ 1000) : EvG (tCall (sp_rows_of K) [] E0 (tCons ta (tCons tb tNil))) σ H (RowsAt a b) :=
  g_call (ea_cons h1 (ea_cons h2 ea_nil)) fun H1 e Q q E => ⟨a, b, rfl, ha, hb, q⟩
theorem isW_le {w : List Nat} (h : isW w = true) : w.length ≤ 24 := (of_decide_eq_true h).1
/-- need_word(x), a statement of its own -/
theorem q_need_word {x : V} {D : Ends} {tz : TS} (h : Ev ta σ H x) (hx : Any x H) (k : IsWd x → ∀ H1, Ex H H1 → tz D σ H1) (kE : ¬ IsWd x → RetE C H E) : tSeq (tDrop (tCall (sp_need_word K C) [] E (tCons ta tNil))) tz D σ H :=
  ea_cons h ea_nil H (Ex.refl H) (fun vs H1 => sp_need_word K C (vs ++ []) H1 (fun _ H2 => tz D σ H2) E) fun H1 e1 => ⟨x, rfl, any_up _ _ _ e1 hx, fun hw H2 e2 => k hw H2 (e1.trans e2), fun hw H2 e2 => kE hw H2 (e1.trans e2)⟩
theorem R_table (h : sp_table K C vs H Q E) : T_table K C E (fin Q) (slots n_table vs) H := by
  obtain ⟨x, y, rfl, hx, hy, k, kE⟩ := h
  show T_table K C E (fin Q) [some x, some y] H
  unfold T_table
  refine q_need_word (ev_var rfl) hx (fun hxw H1 e1 => ?_) (fun hxw => kE fun z => hxw z.1)
  refine q_need_word (ev_var rfl) (any_up _ _ _ e1 hy) (fun hyw H2 e2 => ?_) (fun hyw H2 e2 => kE (fun z => hyw z.2) H2 (e1.trans e2))
  obtain ⟨a, rfl, ha⟩ := hxw
  obtain ⟨b, rfl, hb⟩ := hyw
  have := isW_le ha
  have := isW_le hb
  exact s_retG (g_rows_of (ev_var rfl) (ev_var rfl) (by omega) (by omega)) fun v H3 e3 hv => k a b rfl rfl ha hb v H3 ((e1.trans e2).trans e3) hv
/-- a call of table with two words -/
theorem g_table {a b : List Nat} (h1 : Ev ta σ H (tx a)) (h2 : Ev tb σ H (tx b)) (ha : isW a = true) (hb : isW b = true) : EvG (tCall (sp_table K C) [] E (tCons ta (tCons tb tNil))) σ H (RowsAt a b) :=
  g_call (ea_cons h1 (ea_cons h2 ea_nil)) fun H1 e Q q E => ⟨_, _, rfl, .inl ⟨a, rfl, by have := isW_le ha; omega⟩, .inl ⟨b, rfl, by have := isW_le hb; omega⟩, fun a' b' e1 e2 _ _ => by
    rw [← tx_inj.mp e1, ← tx_inj.mp e2]
    exact q, fun hn => absurd ⟨⟨a, rfl, ha⟩, ⟨b, rfl, hb⟩⟩ hn⟩
/-- rows[i] -/
theorem g_row {a b : List Nat} {v : V} {i : Nat} {z : Int} (ha : Ev ta σ H v) (hv : RowsAt a b v H) (hb : Ev tb σ H (.int z)) (e : z = (i : Int)) (hi : i ≤ a.length) : ∃ r, Ev (tOp (nIxL K) ta tb) σ H (.ref r) ∧ H r = some (.lst (rowV (cell a b i) (b.length + 1))) := by
  obtain ⟨p, rs, rfl, hp, hr⟩ := hv
  obtain ⟨r, hri⟩ : ∃ r, rs[i]? = some r := ⟨_, List.getElem?_eq_getElem (by rw [hr.1]; omega)⟩
  subst e
  exact ⟨r, e_ixL ha hb (sq_of hp) (atI_nat (by rw [List.getElem?_map, hri]; rfl)), hr.2 i r hri⟩
/-- rows[i][j] -/
theorem e_cell {a b : List Nat} {v : V} {i j : Nat} {z z' : Int} (ha : Ev ta σ H v) (hv : RowsAt a b v H) (hb : Ev tb σ H (.int z)) (e : z = (i : Int)) (hi : i ≤ a.length) (hc : Ev tc σ H (.int z')) (e' : z' = (j : Int)) (hj : j ≤ b.length) :
    Ev (tOp (nIxL K) (tOp (nIxL K) ta tb) tc) σ H (.int (cell a b i j : Int)) := by
  obtain ⟨r, h1, h2⟩ := g_row (K := K) ha hv hb e hi
  exact e_ixL h1 hc (sq_of h2) (rowV_at e' (by omega))
end
end Nw

set_option Elab.async false
set_option linter.all false
set_option maxRecDepth 100000
/-! Nw.Two: two words of a script -/
namespace Nw
open PySem L2 Evl
def TwoW (v : V) (H : Hp) : Prop := ∃ p x y, v = .ref p ∧ H p = some (.tup [tx x, tx y]) ∧ isW x = true ∧ isW y = true
def sp_law_two (K : PySem.W.Frag) : Sp := fun vs H Q _ => ∃ (a : Addr) (ns : List Int), vs = [.ref a] ∧ SqL K H a (ns.map V.int) ∧ ns.length ≤ 63 ∧ RetG TwoW H Q
/- _law_two(_law_script): slots 0:_law_script 1:_law_mode 2:_law_most 3:_law_one 4:_law_other -/
def T_law_two (K : PySem.W.Frag) : TS :=
 (tSeq (tAsg (tCall (sp_law_at K) [] E0 (tCons (tVar 0) (tCons (tC (.int 0)) tNil))) (gName 1))
 (tSeq (tAsg (tC (.int 8)) (gName 2))
 (tSeq (tIfS (tTest (tOp nEq (tOp nMod (tCall (sp_law_at K) [] E0 (tCons (tVar 0) (tCons (tC (.int 1)) tNil))) (tC (.int 9))) (tC (.int 4))))
 (tAsg (tC (.int 24)) (gName 2)) tNext)
 (tSeq (tAsg (tCall (sp_law_word K) [] E0 (tCons (tVar 1) (tCons (tCall (sp_law_at K) [] E0 (tCons (tVar 0) (tCons (tC (.int 2)) tNil))) (tCons (tVar 2) tNil)))) (gName 3))
 (tSeq (tAsg (tCall (sp_law_word K) [] E0 (tCons (tVar 1) (tCons (tCall (sp_law_at K) [] E0 (tCons (tVar 0) (tCons (tC (.int 3)) tNil))) (tCons (tVar 2) tNil)))) (gName 4))
 (tSeq (tIfS (tTest (tOp nGt (tOp nMod (tOp nDiv (tCall (sp_law_at K) [] E0 (tCons (tVar 0) (tCons (tC (.int 1)) tNil))) (tC (.int 9))) (tC (.int 3))) (tC (.int 0))))
 (tAsg (tCall (sp_law_bent K) [] E0 (tCons (tVar 1) (tCons (tCall (sp_law_bent K) [] E0 (tCons (tVar 1) (tCons (tVar 3) (tCons (tCall (sp_law_at K) [] E0 (tCons (tVar 0) (tCons (tC (.int 3)) tNil))) tNil)))) (tCons (tCall (sp_law_at K) [] E0 (tCons (tVar 0) (tCons (tC (.int 4)) tNil))) tNil)))) (gName 4)) tNext)
 (tRet (tTup (tCons (tVar 3) (tCons (tVar 4) tNil))))))))))
def n_law_two : Nat := 5
theorem l_law_two {K vs H Q E} (h : sp_law_two K vs H Q E) : vs.length = 1 := by obtain ⟨_, _, rfl, _⟩ := h; rfl
section
variable {K : PySem.W.Frag} {vs : List V} {H : Hp} {Q : VK} {E : XK} {σ : L2.St} {ta tb tc : TE}
theorem word24 (v : V) (h : Word 24 v) : ∃ w, v = tx w ∧ isW w = true := by
  obtain ⟨w, rfl, lo, hl⟩ := h
  exact ⟨w, rfl, isW_good hl lo⟩
theorem word_le {m n : Nat} {v : V} (h : Word m v) (hm : m ≤ n) : Word n v := by
  obtain ⟨w, rfl, lo, hl⟩ := h
  exact ⟨w, rfl, lo, Nat.le_trans hl hm⟩
theorem g_bent {m c : Int} (ha : Ev ta σ H (.int m)) (hw : EvG tb σ H fun v _ => Word 24 v) (hc : Ev tc σ H (.int c)) : EvG (tCall (sp_law_bent K) [] E0 (tCons ta (tCons tb (tCons tc tNil)))) σ H (fun v _ => Word 24 v) := fun H0 e Q q =>
  ha H0 e _ fun H1 e1 => hw H1 (e.trans e1) _ fun v H2 e2 hv => hc H2 ((e.trans e1).trans e2) _ fun H3 e3 => by
    obtain ⟨w, rfl, lo, hl⟩ := hv
    exact ⟨m, w, c, rfl, lo, hl, fun v H4 e4 p => q v H4 (((e1.trans e2).trans e3).trans e4) p⟩
theorem R_law_two (h : sp_law_two K vs H Q E) : T_law_two K (fin Q) (slots n_law_two vs) H := by
  obtain ⟨a, ns, rfl, hS, hn, k⟩ := h
  show T_law_two K (fin Q) [some (.ref a), none, none, none, none] H
  unfold T_law_two
  refine q_asg (e_law_at (ev_var rfl) ev_c hS (by decide) hn) fun H1 e1 => ?_
  generalize cellAt ns 0 = m
  refine q_asg ev_c fun H2 e2 => ?_
  have hS2 := ex_l (e1.trans e2) hS
  have rest : ∀ (z : Int) H3, Ex H H3 → (z = 8 ∨ z = 24) → (tSeq (tAsg (tCall (sp_law_word K) [] E0 (tCons (tVar 1) (tCons (tCall (sp_law_at K) [] E0 (tCons (tVar 0) (tCons (tC (.int 2)) tNil))) (tCons (tVar 2) tNil)))) (gName 3))
 (tSeq (tAsg (tCall (sp_law_word K) [] E0 (tCons (tVar 1) (tCons (tCall (sp_law_at K) [] E0 (tCons (tVar 0) (tCons (tC (.int 3)) tNil))) (tCons (tVar 2) tNil)))) (gName 4))
 (tSeq (tIfS (tTest (tOp nGt (tOp nMod (tOp nDiv (tCall (sp_law_at K) [] E0 (tCons (tVar 0) (tCons (tC (.int 1)) tNil))) (tC (.int 9))) (tC (.int 3))) (tC (.int 0))))
 (tAsg (tCall (sp_law_bent K) [] E0 (tCons (tVar 1) (tCons (tCall (sp_law_bent K) [] E0 (tCons (tVar 1) (tCons (tVar 3) (tCons (tCall (sp_law_at K) [] E0 (tCons (tVar 0) (tCons (tC (.int 3)) tNil))) tNil)))) (tCons (tCall (sp_law_at K) [] E0 (tCons (tVar 0) (tCons (tC (.int 4)) tNil))) tNil)))) (gName 4)) tNext)
 (tRet (tTup (tCons (tVar 3) (tCons (tVar 4) tNil))))))) (fin Q) [some (.ref a), some (.int m), some (.int z), none, none] H3 := by
    intro z H3 e3 hz
    have hz' : 0 ≤ z ∧ z ≤ 60 ∧ z.toNat ≤ 24 := by rcases hz with rfl | rfl <;> decide
    refine q_asgG (g_word (ev_var rfl) (e_law_at (ev_var rfl) ev_c (ex_l e3 hS) (by decide) hn) (ev_var rfl) hz'.1 hz'.2.1) fun v H4 e4 hv => ?_
    refine q_asgG (g_word (ev_var rfl) (e_law_at (ev_var rfl) ev_c (ex_l (e3.trans e4) hS) (by decide) hn) (ev_var rfl) hz'.1 hz'.2.1) fun u H5 e5 hu => ?_
    have h1 := word_le hv hz'.2.2
    have e35 := (e3.trans e4).trans e5
    have fin' : ∀ y H6, Ex H H6 → Word 24 y → (tRet (tTup (tCons (tVar 3) (tCons (tVar 4) tNil)))) (fin Q) [some (.ref a), some (.int m), some (.int z), some v, some y] H6 := by
      intro y H6 e6 hy
      refine s_retU (eu_tup (ea_cons (ev_var rfl) (ea_cons (ev_var rfl) ea_nil)) (by simp)) fun p H7 hp e7 h7 => ?_
      obtain ⟨x, rfl, hx⟩ := word24 v h1
      obtain ⟨u', rfl, hu'⟩ := word24 y hy
      exact k _ _ (e6.trans e7) ⟨p, x, u', rfl, h7, hx, hu'⟩
    refine Evl.q_when (et_test (e_gt (e_mod (e_div (e_law_at (ev_var rfl) ev_c (ex_l e35 hS) (by decide) hn) ev_c (by decide)) ev_c (by decide)) ev_c)) (fun _ H6 e6 => ?_) (fun _ H6 e6 => ?_)
    · have hS6 := ex_l (e35.trans e6) hS
      refine s_asgG (g_bent (ev_var rfl) (g_bent (ev_var rfl) (g_ev (fun _ _ _ _ h => h) (ev_var rfl) h1) (e_law_at (ev_var rfl) ev_c hS6 (by decide) hn)) (e_law_at (ev_var rfl) ev_c hS6 (by decide) hn)) fun y H7 e7 hy => ?_
      exact fin' y H7 ((e35.trans e6).trans e7) hy
    · exact fin' u H6 (e35.trans e6) (word_le hu hz'.2.2)
  refine q_when (et_test (e_eq (e_mod (e_law_at (ev_var rfl) ev_c hS2 (by decide) hn) ev_c (by decide)) ev_c .ii)) (fun _ H3 e3 => ?_) (fun _ H3 e3 => ?_)
  · exact s_asg ev_c fun H4 e4 => rest 24 H4 (((e1.trans e2).trans e3).trans e4) (.inr rfl)
  · exact rest 8 H3 ((e1.trans e2).trans e3) (.inl rfl)
/-- one, other = _law_two(script) -/
theorem q_two {a : Addr} {ns : List Int} {i j : Nat} {D : Ends} {tz : TS} (h : Ev ta σ H (.ref a)) (hS : SqL K H a (ns.map V.int)) (hn : ns.length ≤ 63)
    (k : ∀ x y H1, Ex H H1 → isW x = true → isW y = true → tz D ((σ.set i (some (tx x))).set j (some (tx y))) H1) : tSeq (tAsg (tCall (sp_law_two K) [] E0 (tCons ta tNil)) (gTup K 2 (gCons (gName i) (gCons (gName j) gNil)))) tz D σ H :=
  g_call (P := TwoW) (ea_cons h ea_nil) (fun H1 e Q q E => ⟨a, ns, rfl, ex_l e hS, hn, q⟩) H (Ex.refl H) _ fun v H1 e1 hv => by
    obtain ⟨p, x, y, rfl, hp, hx, hy⟩ := hv
    exact ⟨p, _, rfl, SqT.of hp, rfl, _, _, rfl, _, _, rfl, rfl, k x y H1 e1 hx hy⟩
end
end Nw

set_option Elab.async false
set_option linter.all false
set_option maxRecDepth 100000
/-! Nw.Way: distance, steps_of, way; the law's own _law_led, _law_next, _law_far -/
namespace Nw
open PySem L2 Evl
/-! ### one step backwards -/
section
variable {a b : List Nat} {h f x y : Nat}
theorem glue_h (ha : h ≤ a.length) (b : List Nat) : (a.take h ++ b).take h = a.take h := by
  rw [List.take_append_of_le_length (by rw [List.length_take]; omega), List.take_take, Nat.min_self]
theorem glue_h' (ha : h ≤ a.length) (b : List Nat) : (a.take h ++ b).drop h = b := by
  rw [List.drop_append_of_le_length (by rw [List.length_take]; omega), List.drop_of_length_le (by rw [List.length_take]; omega)]
  rfl
theorem glue_1 (ha : a[h]? = some x) (b : List Nat) : a.take (h + 1) ++ b = a.take h ++ (x :: b) := by rw [take_snoc ha, List.append_assoc]; rfl
theorem drop_at (hb : b[f]? = some y) : b.drop f = y :: b.drop (f + 1) := by
  obtain ⟨hlt, rfl⟩ := List.getElem?_eq_some_iff.mp hb
  exact List.drop_eq_getElem_cons hlt
theorem same_step (ha : a[h]? = some x) (hb : b[f]? = some x) : a.take (h + 1) ++ b.drop (f + 1) = a.take h ++ b.drop f := by rw [glue_1 ha, drop_at hb]
theorem low_get (lo : Low b) (hb : b[f]? = some y) : 97 ≤ y ∧ y < 123 := lo y (List.mem_of_getElem? hb)
theorem good_turn (ha : a[h]? = some x) (hb : b[f]? = some y) (hn : x ≠ y) (lo : Low b) : Good (a.take (h + 1) ++ b.drop (f + 1)) [tx wTurn, .int (h : Int), tx [y]] (a.take h ++ b.drop f) := by
  have hl := (List.getElem?_eq_some_iff.mp ha).1
  have g := Good.turn (w := a.take (h + 1) ++ b.drop (f + 1)) (i := (h : Int)) (c := y) (by omega) (by rw [List.length_append, List.length_take]; omega) (low_get lo hb) (by
    rw [Int.toNat_natCast, glue_1 ha, List.getElem?_append_right (by rw [List.length_take]; omega), List.length_take, Nat.min_eq_left (by omega), Nat.sub_self]
    exact fun z => hn (Option.some.inj z))
  have e1 : (h : Int).toNat = h := Int.toNat_natCast h
  have e2 : ((h : Int) + 1).toNat = h + 1 := by omega
  rw [e1, e2, glue_h' hl, glue_1 ha, glue_h (by omega), List.append_assoc] at g
  rw [drop_at hb, glue_1 ha]
  exact g
theorem good_cut (ha : a[h]? = some x) (b : List Nat) : Good (a.take (h + 1) ++ b) [tx wCut, .int (h : Int)] (a.take h ++ b) := by
  have hl := (List.getElem?_eq_some_iff.mp ha).1
  have g := Good.cut (w := a.take (h + 1) ++ b) (i := (h : Int)) (by omega) (by rw [List.length_append, List.length_take]; omega)
  have e1 : (h : Int).toNat = h := Int.toNat_natCast h
  have e2 : ((h : Int) + 1).toNat = h + 1 := by omega
  rw [e1, e2, glue_h' hl, glue_1 ha, glue_h (by omega)] at g
  rw [glue_1 ha]
  exact g
theorem good_put (ha : h ≤ a.length) (hb : b[f]? = some y) (lo : Low b) : Good (a.take h ++ b.drop (f + 1)) [tx wPut, .int (h : Int), tx [y]] (a.take h ++ b.drop f) := by
  have g := Good.put (w := a.take h ++ b.drop (f + 1)) (i := (h : Int)) (c := y) (by omega) (by rw [List.length_append, List.length_take]; omega) (low_get lo hb)
  have e1 : (h : Int).toNat = h := Int.toNat_natCast h
  rw [e1, glue_h ha, glue_h' ha, List.append_assoc] at g
  rw [drop_at hb]
  exact g
end
/-- the changes found so far -/
structure Gone (H0 : Hp) (a : List Nat) (cs : List V) (w : List Nat) (l : Addr) (H : Hp) : Prop where
  new : H0 l = none
  at_ : H l = some (.lst cs)
  ex : Ex H0 H
  led : LedV (del H l) a cs w
  chg : ∀ c ∈ cs, Chg c (del H l)
theorem Gone.up {H0 H H' : Hp} {a w : List Nat} {cs : List V} {l : Addr} (e : Ex H H') (g : Gone H0 a cs w l H) : Gone H0 a cs w l H' :=
  ⟨g.new, e _ _ g.at_, g.ex.trans e, ledV_up (del_mono e) g.led, fun c hc => chg_up _ _ _ (del_mono e) (g.chg c hc)⟩
theorem Gone.snoc {H0 H H' : Hp} {a w w' : List Nat} {cs xs : List V} {l p : Addr} (g : Gone H0 a cs w l H) (e : Ex H H') (hp : H p = none) (hp' : H' p = some (.tup xs)) (hg : Good w xs w') : Gone H0 a (cs ++ [.ref p]) w' l (upd H' l (.lst (cs ++ [.ref p]))) := by
  have g' := g.up e
  have hne : p ≠ l := fun z => by rw [z, g.at_] at hp; cases hp
  have hd : del H' l p = some (.tup xs) := by rw [del_ne hne]; exact hp'
  refine ⟨g.new, upd_same, Ex.mut g'.ex g.new, ?_, fun c hc => ?_⟩
  · rw [del_upd]
    exact ledV_snoc g'.led ⟨xs, ⟨p, rfl, hd⟩, hg⟩
  · rw [del_upd]
    rcases List.mem_append.mp hc with hc | hc
    · exact g'.chg c hc
    · rw [List.mem_singleton] at hc
      subst hc
      exact good_chg hd hg
def WayV (a b : List Nat) (v : V) (H : Hp) : Prop := ∃ p cs, v = .ref p ∧ H p = some (.lst cs) ∧ LedV H a cs b ∧ cs.length = dist a b ∧ ∀ c ∈ cs, Chg c H
theorem wayV_up (a b : List Nat) : Up (WayV a b) := fun _ _ _ e ⟨p, cs, hv, hp, hl, hn, hc⟩ => ⟨p, cs, hv, e _ _ hp, ledV_up e hl, hn, fun c h => chg_up _ _ _ e (hc c h)⟩
def sp_distance (K : PySem.W.Frag) (C : Addr) : Sp := fun vs H Q E => ∃ x y, vs = [x, y] ∧ Any x H ∧ Any y H ∧ (∀ a b, x = tx a → y = tx b → isW a = true → isW b = true → RetV (.int (dist a b : Int)) H Q) ∧ (¬ (IsWd x ∧ IsWd y) → RetE C H E)
def sp_steps_of (K : PySem.W.Frag) : Sp := fun vs H Q _ => ∃ a b, vs = [tx a, tx b] ∧ isW a = true ∧ isW b = true ∧ (∀ p H2, H p = none → Ex H H2 → WayV a b (.ref p) H2 → Q (.ref p) H2)
def sp_way (K : PySem.W.Frag) (C : Addr) : Sp := fun vs H Q E => ∃ x y, vs = [x, y] ∧ Any x H ∧ Any y H ∧ (∀ a b, x = tx a → y = tx b → isW a = true → isW b = true → ∀ p H2, H p = none → Ex H H2 → WayV a b (.ref p) H2 → Q (.ref p) H2) ∧ (¬ (IsWd x ∧ IsWd y) → RetE C H E)
def sp_law_led (K : PySem.W.Frag) : Sp := fun vs H Q _ => ∃ (w : List Nat) (p : Addr) (cs : List V) (w' : List Nat), vs = [tx w, .ref p] ∧ H p = some (.lst cs) ∧ w.length + cs.length ≤ 900 ∧ LedV H w cs w' ∧ (∀ c ∈ cs, Chg c H) ∧ RetV (tx w') H Q
def sp_law_next (K : PySem.W.Frag) : Sp := sp_next_row K
def sp_law_far (K : PySem.W.Frag) : Sp := fun vs H Q _ => ∃ a b, vs = [tx a, tx b] ∧ a.length ≤ 1000 ∧ b.length ≤ 1000 ∧ RetV (.int (dist a b : Int)) H Q
/- distance(one, other): slots 0:one 1:other -/
def T_distance (K : PySem.W.Frag) (C_BadWord : Addr) (E : XK) : TS :=
 (tRet (tOp (nIxL K) (tOp (nIxL K) (tCall (sp_table K C_BadWord) [] E (tCons (tVar 0) (tCons (tVar 1) tNil))) (tUn nNeg (tC (.int 1)))) (tUn nNeg (tC (.int 1)))))
def n_distance : Nat := 2
/- steps_of(one, other): slots 0:one 1:other 2:rows 3:high 4:far 5:found 6:here -/
def T_steps_of (K : PySem.W.Frag) : TS :=
 (tSeq (tAsg (tCall (sp_rows_of K) [] E0 (tCons (tVar 0) (tCons (tVar 1) tNil))) (gName 2))
 (tSeq (tPar 3 4 (tCons (tCB nLenS (tCons (tVar 0) tNil)) (tCons (tCB nLenS (tCons (tVar 1) tNil)) tNil)))
 (tSeq (tAsg (tLst tNil) (gName 5))
 (tSeq (tWhile (tOr (tTest (tOp nGt (tVar 3) (tC (.int 0)))) (tTest (tOp nGt (tVar 4) (tC (.int 0)))))
 (tSeq (tAsg (tOp (nIxL K) (tOp (nIxL K) (tVar 2) (tVar 3)) (tVar 4)) (gName 6))
 (tIfS (tAnd (tTest (tOp nGt (tVar 3) (tC (.int 0)))) (tAnd (tTest (tOp nGt (tVar 4) (tC (.int 0)))) (tAnd (tTest (tOp nEq (tOp nIxS (tVar 0) (tOp nSub (tVar 3) (tC (.int 1)))) (tOp nIxS (tVar 1) (tOp nSub (tVar 4) (tC (.int 1)))))) (tTest (tOp nEq (tVar 6) (tOp (nIxL K) (tOp (nIxL K) (tVar 2) (tOp nSub (tVar 3) (tC (.int 1)))) (tOp nSub (tVar 4) (tC (.int 1)))))))))
 (tPar 3 4 (tCons (tOp nSub (tVar 3) (tC (.int 1))) (tCons (tOp nSub (tVar 4) (tC (.int 1))) tNil))) (tIfS (tAnd (tTest (tOp nGt (tVar 3) (tC (.int 0)))) (tAnd (tTest (tOp nGt (tVar 4) (tC (.int 0)))) (tTest (tOp nEq (tVar 6) (tOp nAdd (tOp (nIxL K) (tOp (nIxL K) (tVar 2) (tOp nSub (tVar 3) (tC (.int 1)))) (tOp nSub (tVar 4) (tC (.int 1)))) (tC (.int 1)))))))
 (tSeq (tDrop (tBM K "list" rAppend (tVar 5) (tCons (tTup (tCons (tC (tx [116, 117, 114, 110])) (tCons (tOp nSub (tVar 3) (tC (.int 1))) (tCons (tOp nIxS (tVar 1) (tOp nSub (tVar 4) (tC (.int 1)))) tNil)))) tNil)))
 (tPar 3 4 (tCons (tOp nSub (tVar 3) (tC (.int 1))) (tCons (tOp nSub (tVar 4) (tC (.int 1))) tNil)))) (tIfS (tAnd (tTest (tOp nGt (tVar 3) (tC (.int 0)))) (tTest (tOp nEq (tVar 6) (tOp nAdd (tOp (nIxL K) (tOp (nIxL K) (tVar 2) (tOp nSub (tVar 3) (tC (.int 1)))) (tVar 4)) (tC (.int 1))))))
 (tSeq (tDrop (tBM K "list" rAppend (tVar 5) (tCons (tTup (tCons (tC (tx [99, 117, 116])) (tCons (tOp nSub (tVar 3) (tC (.int 1))) tNil))) tNil)))
 (tAug 3 (tC (.int 1)) (ipI (fun i j => i - j)))) (tSeq (tDrop (tBM K "list" rAppend (tVar 5) (tCons (tTup (tCons (tC (tx [112, 117, 116])) (tCons (tVar 3) (tCons (tOp nIxS (tVar 1) (tOp nSub (tVar 4) (tC (.int 1)))) tNil)))) tNil)))
 (tAug 4 (tC (.int 1)) (ipI (fun i j => i - j)))))))))
 (tRet (tVar 5))))))
def n_steps_of : Nat := 7
/- way(one, other): slots 0:one 1:other -/
def T_way (K : PySem.W.Frag) (C_BadWord : Addr) (E : XK) : TS :=
 (tSeq (tDrop (tCall (sp_need_word K C_BadWord) [] E (tCons (tVar 0) tNil)))
 (tSeq (tDrop (tCall (sp_need_word K C_BadWord) [] E (tCons (tVar 1) tNil)))
 (tRet (tCall (sp_steps_of K) [] E0 (tCons (tVar 0) (tCons (tVar 1) tNil))))))
def n_way : Nat := 2
/- _law_led(_law_text, _law_changes): slots 0:_law_text 1:_law_changes 2:_law_change -/
def T_law_led (K : PySem.W.Frag) : TS :=
 (tSeq (tIfS (tNot (tB (tCB (nIsi K) (tCons (tVar 1) (tCons (tC (.ty "list")) tNil)))))
 (tRet (tC .non)) tNext)
 (tSeq (tFor (iList K (tVar 1)) (gName 2)
 (tSeq (tAsg (tCall (sp_law_step K) [] E0 (tCons (tVar 0) (tCons (tVar 2) tNil))) (gName 0))
 (tIfS (tTest (tOp nIsN (tVar 0) (tC .non)))
 (tRet (tC .non)) tNext)))
 (tRet (tVar 0))))
def n_law_led : Nat := 3
/- _law_next(_law_row, _law_letter_here, _law_word_here): slots 0:_law_row 1:_law_letter_here 2:_law_word_here 3:_law_found 4:_law_at_here 5:_law_more -/
def T_law_next (K : PySem.W.Frag) : TS :=
 (tSeq (tAsg (tLst (tCons (tOp nAdd (tOp (nIxL K) (tVar 0) (tC (.int 0))) (tC (.int 1))) tNil)) (gName 3))
 (tSeq (tFor (iRng1 (tCons (tCB nLenS (tCons (tVar 2) tNil)) tNil)) (gName 4)
 (tSeq (tAsg (tC (.int 1)) (gName 5))
 (tSeq (tIfS (tTest (tOp nEq (tOp nIxS (tVar 2) (tVar 4)) (tVar 1)))
 (tAsg (tC (.int 0)) (gName 5)) tNext)
 (tDrop (tBM K "list" rAppend (tVar 3) (tCons (tCB nMin3 (tCons (tOp nAdd (tOp (nIxL K) (tVar 0) (tVar 4)) (tVar 5)) (tCons (tOp nAdd (tOp (nIxL K) (tVar 0) (tOp nAdd (tVar 4) (tC (.int 1)))) (tC (.int 1))) (tCons (tOp nAdd (tOp (nIxL K) (tVar 3) (tVar 4)) (tC (.int 1))) tNil)))) tNil))))))
 (tRet (tVar 3))))
def n_law_next : Nat := 6
/- _law_far(_law_one, _law_other): slots 0:_law_one 1:_law_other 2:_law_row 3:_law_letter_here -/
def T_law_far (K : PySem.W.Frag) : TS :=
 (tSeq (tAsg (tLstRg (tRg1 (tOp nAdd (tCB nLenS (tCons (tVar 1) tNil)) (tC (.int 1))))) (gName 2))
 (tSeq (tFor (iStr (tVar 0)) (gName 3)
 (tAsg (tCall (sp_law_next K) [] E0 (tCons (tVar 2) (tCons (tVar 3) (tCons (tVar 1) tNil)))) (gName 2)))
 (tRet (tOp (nIxL K) (tVar 2) (tUn nNeg (tC (.int 1)))))))
def n_law_far : Nat := 4
theorem l_distance {K C vs H Q E} (h : sp_distance K C vs H Q E) : vs.length = 2 := by obtain ⟨_, _, rfl, _⟩ := h; rfl
theorem l_steps_of {K vs H Q E} (h : sp_steps_of K vs H Q E) : vs.length = 2 := by obtain ⟨_, _, rfl, _⟩ := h; rfl
theorem l_way {K C vs H Q E} (h : sp_way K C vs H Q E) : vs.length = 2 := by obtain ⟨_, _, rfl, _⟩ := h; rfl
theorem l_law_led {K vs H Q E} (h : sp_law_led K vs H Q E) : vs.length = 2 := by obtain ⟨_, _, _, _, rfl, _⟩ := h; rfl
theorem l_law_next {K vs H Q E} (h : sp_law_next K vs H Q E) : vs.length = 3 := l_next_row h
theorem l_law_far {K vs H Q E} (h : sp_law_far K vs H Q E) : vs.length = 2 := by obtain ⟨_, _, rfl, _⟩ := h; rfl
section
variable {K : PySem.W.Frag} {vs : List V} {H : Hp} {Q : VK} {E : XK} {C : Addr} {σ : L2.St} {ta tb tc : TE}
/-- rows[-1][-1] -/
theorem n_last {a b : List Nat} {v : V} {Q : VK} (h : RowsAt a b v H) (q : RetV (.int (dist a b : Int)) H Q) : nIxL K v (.int (-1)) H fun u H1 => tUn nNeg (tC (.int 1)) σ H1 fun y H2 => nIxL K u y H2 Q := by
  obtain ⟨p, rs, rfl, hp, hr⟩ := h
  obtain ⟨r, hri⟩ : ∃ r, rs[a.length]? = some r := ⟨_, List.getElem?_eq_getElem (by rw [hr.1]; omega)⟩
  exact ⟨p, _, _, .ref r, rfl, rfl, sq_of hp, at_end (n := a.length) (by rw [List.length_map, hr.1]) (by rw [List.getElem?_map, hri]; rfl), 1, rfl, r, _, _, _, rfl, rfl, sq_of (hr.2 _ r hri), rowV_last, q H (Ex.refl H)⟩
theorem R_distance (h : sp_distance K C vs H Q E) : T_distance K C E (fin Q) (slots n_distance vs) H := by
  obtain ⟨x, y, rfl, hx, hy, k, kE⟩ := h
  show T_distance K C E (fin Q) [some x, some y] H
  unfold T_distance
  exact ⟨_, rfl, _, rfl, x, y, rfl, hx, hy, fun a b e1 e2 ha hb v H2 e3 hv => ⟨1, rfl, n_last hv fun H3 e4 => k a b e1 e2 ha hb H3 (e3.trans e4)⟩, kE⟩
/-- a call of distance with two words -/
theorem e_distance {a b : List Nat} (h1 : Ev ta σ H (tx a)) (h2 : Ev tb σ H (tx b)) (ha : isW a = true) (hb : isW b = true) : Ev (tCall (sp_distance K C) [] E (tCons ta (tCons tb tNil))) σ H (.int (dist a b : Int)) :=
  ev_call (ea_cons h1 (ea_cons h2 ea_nil)) fun H1 e Q q E => ⟨_, _, rfl, .inl ⟨a, rfl, by have := isW_le ha; omega⟩, .inl ⟨b, rfl, by have := isW_le hb; omega⟩, fun a' b' e1 e2 _ _ => by
    rw [← tx_inj.mp e1, ← tx_inj.mp e2]
    exact fun H2 e3 => q H2 e3, fun hn => absurd ⟨⟨a, rfl, ha⟩, ⟨b, rfl, hb⟩⟩ hn⟩
theorem R_law_next (h : sp_law_next K vs H Q E) : T_law_next K (fin Q) (slots n_law_next vs) H := by
  obtain ⟨p, f, c, w, rfl, hp, hw, k⟩ := h
  show T_law_next K (fin Q) [some (.ref p), some (tx [c]), some (tx w), none, none, none] H
  unfold T_law_next
  refine q_asgL (el_lst (ea_cons (e_add (e_ixL (ev_var rfl) ev_c hp (rowV_at (j := 0) rfl (by omega))) ev_c) ea_nil) (by simp)) fun l H1 hl e1 hl1 => ?_
  refine q_forR1 (n := (w.length : Int)) (ea_cons (e_lenS (ev_var rfl) (by omega)) ea_nil) (by omega) (fun i σ H' => (∃ x4 x5, σ = [some (.ref p), some (tx [c]), some (tx w), some (.ref l), x4, x5]) ∧ Ex H H' ∧ H' l = some (.lst (rowV (nxt f c w) (i + 1)))) (fun H2 e2 => ⟨⟨_, _, rfl⟩, e1.trans e2, e2 _ _ hl1⟩) (fun i σ H' hi hp' => ?_) (fun σ H' hp' => ?_)
  · obtain ⟨⟨x4, x5, rfl⟩, e, hl'⟩ := hp'
    have hi' : i < w.length := by omega
    refine q_asg ev_c fun H2 e2 => ?_
    have hc : w[i]? = some w[i] := List.getElem?_eq_getElem hi'
    refine q_ifAsg (b := decide (w[i] = c)) (v := .int ((if w[i]? = some c then 0 else 1 : Nat) : Int)) (et_test (e_eq (e_ixS (ev_var rfl) (ev_var rfl) (by omega) (atI_nat hc)) (ev_var rfl) (by
      have e : decide (w[i] = c) = decide ([w[i]] = [c]) := dec_eq (by simp)
      rw [e]
      exact .ss))) (fun hh => ?_) (fun hh => ?_) fun H3 e3 => ?_
    · rw [hc, of_decide_eq_true hh, if_pos rfl]
      exact ev_c
    · rw [hc, if_neg (fun z => of_decide_eq_false hh (Option.some.inj z))]
      rfl
    · have e4 := (e.trans e2).trans e3
      have h4 := e3 _ _ (e2 _ _ hl')
      refine s_app h4 (ev_var rfl) (e_min3 (e_add (e_ixL (ev_var rfl) (ev_var rfl) (ex_l e4 hp) (rowV_at (j := i) rfl (by omega))) (ev_var rfl)) (e_add (e_ixL (ev_var rfl) (e_add (ev_var rfl) ev_c) (ex_l e4 hp) (rowV_at (j := i + 1) (by omega) (by omega))) ev_c) (e_add (e_ixL (ev_var rfl) (ev_var rfl) (sq_of h4) (rowV_at (j := i) rfl (by omega))) ev_c)) (by rw [rowV_len]; omega) fun H5 e5 => ?_
      refine ⟨⟨_, _, rfl⟩, Ex.mut (e4.trans e5) hl, ?_⟩
      rw [upd_same, rowV_snoc _ (i + 1)]
      have en : min (min ((f i : Int) + ((if w[i]? = some c then 0 else 1 : Nat) : Int)) ((f (i + 1) : Int) + 1)) ((nxt f c w i : Int) + 1) = ((nxt f c w (i + 1) : Nat) : Int) := by rw [nxt]; omega
      rw [en]
  · obtain ⟨⟨x4, x5, rfl⟩, e, hl'⟩ := hp'
    exact s_ret (ev_var rfl) fun H2 e2 => k l _ hl (e.trans e2) (e2 _ _ hl')
theorem R_law_far (h : sp_law_far K vs H Q E) : T_law_far K (fin Q) (slots n_law_far vs) H := by
  obtain ⟨a, b, rfl, ha, hb, k⟩ := h
  show T_law_far K (fin Q) [some (tx a), some (tx b), none, none] H
  unfold T_law_far
  refine q_asgL (xs := rowV id (b.length + 1)) (fun H0 e Q q => e_add (e_lenS (ev_var rfl) (by omega)) ev_c H0 e _ fun H1 e1 => ⟨_, rfl, RgOk.of_le (by decide) (by omega) (by decide) (by omega), fun p hp => by
    rw [rgV_row]
    exact q p _ (fresh_back e1 hp) (e1.trans (Ex.new hp)) upd_same⟩) fun l H1 hl e1 hl1 => ?_
  refine q_forS (ev_var rfl) (fun i σ H' => (∃ r x3, σ = [some (tx a), some (tx b), some (.ref r), x3] ∧ H' r = some (.lst (rowV (cell a b i) (b.length + 1)))) ∧ Ex H H') (fun H2 e2 => ⟨⟨_, _, rfl, ?_⟩, e1.trans e2⟩) (fun i c σ H' hc hp => ?_) (fun σ H' hp => ?_)
  · rw [e2 _ _ hl1, rowV_congr (f := cell a b 0) (g := id) fun j _ => cell_0 a b j]
  · obtain ⟨⟨r, x3, rfl, hr⟩, e⟩ := hp
    refine s_asgL (xs := rowV (nxt (cell a b i) c b) (b.length + 1)) (el_call (ea_cons (ev_var rfl) (ea_cons (ev_var rfl) (ea_cons (ev_var rfl) ea_nil))) fun H1 e Q q E => ⟨r, _, c, b, rfl, ex_l e (sq_of hr), hb, q⟩) fun p H2 hp e2 h2 => ?_
    refine ⟨⟨_, _, rfl, ?_⟩, e.trans e2⟩
    rw [h2, rowV_congr fun j _ => (cell_nxt hc j).symm]
  · obtain ⟨⟨r, x3, rfl, hr⟩, e⟩ := hp
    exact s_ret (e_ixL (ev_var rfl) (e_neg ev_c) (sq_of hr) rowV_last) fun H2 e2 => k _ (e.trans e2)
theorem e_law_far {a b : List Nat} (h1 : Ev ta σ H (tx a)) (h2 : Ev tb σ H (tx b)) (ha : a.length ≤ 1000) (hb : b.length ≤ 1000) : Ev (tCall (sp_law_far K) [] E0 (tCons ta (tCons tb tNil))) σ H (.int (dist a b : Int)) :=
  ev_call (ea_cons h1 (ea_cons h2 ea_nil)) fun H1 e Q q E => ⟨a, b, rfl, ha, hb, fun H2 e2 => q H2 e2⟩
theorem R_law_led (h : sp_law_led K vs H Q E) : T_law_led K (fin Q) (slots n_law_led vs) H := by
  obtain ⟨w, p, cs, w', rfl, hp, hw, hL, hc, k⟩ := h
  show T_law_led K (fin Q) [some (tx w), some (.ref p), none] H
  unfold T_law_led
  refine q_when (b := false) (et_not (et_B (e_is (b := true) (ev_var rfl) (ht_lst hp) (by decide +kernel)))) (fun hh => by cases hh) (fun _ H1 e1 => ?_)
  refine q_forLn (ev_var rfl) (sq_of (e1 _ _ hp)) (fun i σ H' => (∃ wi x, σ = [some (tx wi), some (.ref p), x] ∧ LedV H w (cs.take i) wi) ∧ Ex H H') (fun H2 e2 => ⟨⟨w, _, rfl, .nil⟩, e1.trans e2⟩) (fun i σ H' _ hp' => sq_of (hp'.2 _ _ hp)) (fun i c σ H' hi hp' => ?_) (fun σ H' hp' => ?_)
  · obtain ⟨⟨wi, x, rfl, hwi⟩, e⟩ := hp'
    obtain ⟨w2, hg⟩ := ledV_take hL hi hwi
    have hcc := hc c (List.mem_of_getElem? hi)
    have hlen := ledV_len hwi
    rw [List.length_take] at hlen
    refine q_asg (v := tx w2) (ev_call (ea_cons (ev_var rfl) (ea_cons (ev_var rfl) ea_nil)) fun H2 e2 Q q E => ⟨wi, c, rfl, by omega, chg_up _ _ _ (e.trans e2) hcc, fun w3 hg3 => ?_, fun hn => absurd ⟨w2, goodV_up (e.trans e2) hg⟩ hn⟩) fun H2 e2 => ?_
    · rw [goodV_inj (Ex.refl _) hg3 (goodV_up (e.trans e2) hg)]
      exact fun H3 e3 => q H3 e3
    · refine s_when (b := false) (et_is (et_test (e_isN (ev_var rfl))) (decide_eq_false fun z => nomatch z)) (fun hh => by cases hh) (fun _ H3 e3 => ?_)
      refine ⟨⟨w2, _, rfl, ?_⟩, (e.trans e2).trans e3⟩
      rw [List.take_add_one, hi]
      exact ledV_snoc hwi hg
  · obtain ⟨⟨wi, x, rfl, hwi⟩, e⟩ := hp'
    rw [List.take_length] at hwi
    rw [ledV_inj hwi hL]
    exact s_ret (ev_var rfl) fun H2 e2 => k _ (e.trans e2)
theorem e_law_led {a b : List Nat} {v : V} (h1 : Ev ta σ H (tx a)) (h2 : Ev tb σ H v) (hv : WayV a b v H) (hl : a.length + dist a b ≤ 900) : Ev (tCall (sp_law_led K) [] E0 (tCons ta (tCons tb tNil))) σ H (tx b) := by
  obtain ⟨p, cs, rfl, hp, hL, hn, hc⟩ := hv
  exact ev_call (ea_cons h1 (ea_cons h2 ea_nil)) fun H1 e Q q E => ⟨a, p, cs, b, rfl, e _ _ hp, by omega, ledV_up e hL, fun c h => chg_up _ _ _ e (hc c h), fun H2 e2 => q H2 e2⟩
end
end Nw

set_option Elab.async false
set_option linter.all false
set_option maxRecDepth 100000
/-! Nw.Rev: text[::-1], abs, max of two -/
namespace Nw
open PySem L2 Evl PyProof.Rows
def tRevS (te : TE) : TE := fun σ H Q => te σ H fun x H1 => ∃ w : List Nat, x = tx w ∧ w.length ≤ 1000 ∧ Q (tx w.reverse) H1
theorem rev_made (w : List Nat) (t : Tok) (l u o : Option (Int × Tok)) (hl : l.map (·.1) = none) (hu : u.map (·.1) = none) (ho : o.map (·.1) = some (-1)) : sliceMade ⟨w.toArray⟩ t l u o = .str ⟨w.reverse.toArray⟩ := by
  unfold sliceMade slicePicked
  rw [hl, hu, ho]
  show (if (false && _) = true then _ else _) = _
  rw [Bool.false_and, if_neg Bool.false_ne_true]
  have e : Builtin.Str.strSliceIndices none none (-1) (⟨w.toArray⟩ : Str).length = (List.range w.toArray.size).reverse := by
    rw [← PySem.W.krv_range, ← PySem.W.krv_sliceRange]
    rfl
  show Made.str ⟨((Builtin.Str.strSliceIndices none none (-1) (⟨w.toArray⟩ : Str).length).filterMap (w.toArray[·]?)).toArray⟩ = _
  rw [e, List.filterMap_reverse, PySem.W.krv_all]
section
variable {X : Cx}
theorem pe_rev {e : Expr} {te : TE} {k : Nat} {p1 p2 p3 pos : Pos} (he : PE X e te) : PE X (.Subscript e (.Slice none none (some (.UnaryOp .USub (.Constant (.int 1) k p1) p2)) p3) pos) (tRevS te) := by
  refine ⟨fun pins s σ H Q I h => Subscript_ (thn (he.run pins s σ H _ I h) ?_)⟩
  rintro v s1 ⟨x, H1, I1, r1, w, rfl, hw, q⟩
  obtain ⟨t, rfl⟩ := r1
  have neg1 : PO X (some (.UnaryOp .USub (.Constant (.int 1) k p1) p2)) (tPart (tUn (rU fun i => .int (-i)) (tC (.int 1)))) := po_some (pe_un un_neg pe_int)
  refine wpAny_Slice (thn (po_none.run pins s1 σ H1 (fun o H2 => o = none ∧ H2 = H1) I1 ⟨rfl, rfl⟩) ?_)
  rintro vl s2 ⟨l, H2, I2, pl, rfl, rfl⟩
  refine thn (po_none.run pins s2 σ H2 (fun o H3 => o = none ∧ H3 = H2) I2 ⟨rfl, rfl⟩) ?_
  rintro vu s3 ⟨u, H3, I3, pu, rfl, rfl⟩
  refine thn (neg1.run pins s3 σ H3 (fun o H4 => o = some (-1) ∧ H4 = H3) I3 ⟨1, rfl, -1, rfl, rfl, rfl⟩) ?_
  rintro vo s4 ⟨o, H4, I4, po, rfl, rfl⟩
  obtain ⟨l, rfl, hl⟩ := IsPart.raw pl
  obtain ⟨u, rfl, hu⟩ := IsPart.raw pu
  obtain ⟨o, rfl, ho⟩ := IsPart.raw po
  refine tail_any (ops := [.ref s4.heap.objs.size, .str ⟨w.toArray⟩ t]) (typeIs_str _ _ _) F.slot_str_getitem.lookup ?_ (by with_unfolding_all rfl)
  refine wpAny_getItem_str_slice (l := l) (u := u) (st := o) ⟨_, Heap.get?_push_size _ rfl, rfl, rfl⟩ ?_ ?_
  · rw [ho]; rfl
  · rw [rev_made w t l u o hl hu ho]
    have I5 := I4.kept (t' := s4.toks) (h' := s4.heap.push { cls := .type "slice", data := .fields #[partValue l, partValue u, partValue o] }) fun b ob q => Heap.get?_push_of_some _ q
    exact ⟨by rw [tx_len]; exact line1 (by rw [List.length_reverse]; omega), tx w.reverse, H4, I5.tok _, ⟨_, rfl⟩, q⟩
end
def nAbs : List V → Hp → VK → Prop := fun xs H Q => ∃ i, xs = [.int i] ∧ Q (.int (if i < 0 then -i else i)) H
def nMax2 : List V → Hp → VK → Prop := fun xs H Q => ∃ i j, xs = [.int i, .int j] ∧ Q (.int (if j > i then j else i)) H
theorem c_abs {X : Cx} : CallR X (.builtin "abs") nAbs := call_abs
theorem c_max2 {X : Cx} (hc : X.calm = true) : CallR X (.builtin "max") nMax2 := call_max2 hc
section
variable {K : PySem.W.Frag} {σ : L2.St} {H : Hp} {ta tb tc : TE} {i j k : Int} {w : List Nat}
theorem e_rev (ha : Ev ta σ H (tx w)) (hw : w.length ≤ 1000) : Ev (tRevS ta) σ H (tx w.reverse) := fun H1 e Q q => ha H1 e _ fun H2 e2 => ⟨w, rfl, hw, q H2 e2⟩
theorem e_abs (ha : Ev ta σ H (.int i)) : Ev (tCB nAbs (tCons ta tNil)) σ H (.int (if i < 0 then -i else i)) := ev_cb (ea_cons ha ea_nil) fun H1 e Q q => ⟨i, rfl, q H1 (Ex.refl H1)⟩
theorem e_max2 (ha : Ev ta σ H (.int i)) (hb : Ev tb σ H (.int j)) : Ev (tCB nMax2 (tCons ta (tCons tb tNil))) σ H (.int (if j > i then j else i)) := ev_cb (ea_cons ha (ea_cons hb ea_nil)) fun H1 e Q q => ⟨i, j, rfl, q H1 (Ex.refl H1)⟩
end
end Nw

set_option Elab.async false
set_option linter.all false
set_option maxRecDepth 100000
/-! k06: distances of three -/
namespace Nw
open PySem L2 Evl
def sp_law6 (K : PySem.W.Frag) : Sp := sp_law1 K
/- law(_law_script): slots 0:_law_script 1:_law_one 2:_law_other 3:_law_third 4:_law_far 5:_law_letter_here -/
def T_law6 (K : PySem.W.Frag) (C_BadWord : Addr) : TS :=
 (tSeq (tAsg (tCall (sp_law_two K) [] E0 (tCons (tVar 0) tNil)) (gTup K 2 (gCons (gName 1) (gCons (gName 2) gNil))))
 (tSeq (tAsg (tCall (sp_law_bent K) [] E0 (tCons (tCall (sp_law_at K) [] E0 (tCons (tVar 0) (tCons (tC (.int 0)) tNil))) (tCons (tCall (sp_law_bent K) [] E0 (tCons (tCall (sp_law_at K) [] E0 (tCons (tVar 0) (tCons (tC (.int 0)) tNil))) (tCons (tVar 2) (tCons (tCall (sp_law_at K) [] E0 (tCons (tVar 0) (tCons (tC (.int 5)) tNil))) tNil)))) (tCons (tCall (sp_law_at K) [] E0 (tCons (tVar 0) (tCons (tC (.int 6)) tNil))) tNil)))) (gName 3))
 (tSeq (tIfS (tTest (tOp nEq (tOp nMod (tOp nDiv (tCall (sp_law_at K) [] E0 (tCons (tVar 0) (tCons (tC (.int 1)) tNil))) (tC (.int 27))) (tC (.int 3))) (tC (.int 1))))
 (tAsg (tCall (sp_law_word K) [] E0 (tCons (tCall (sp_law_at K) [] E0 (tCons (tVar 0) (tCons (tC (.int 0)) tNil))) (tCons (tCall (sp_law_at K) [] E0 (tCons (tVar 0) (tCons (tC (.int 5)) tNil))) (tCons (tC (.int 8)) tNil)))) (gName 3)) tNext)
 (tSeq (tAsg (tCall (sp_distance K C_BadWord) [] E0 (tCons (tVar 1) (tCons (tVar 2) tNil))) (gName 4))
 (tSeq (tIfS (tOr (tNot (tB (tCall (sp_law_whole K) [] E0 (tCons (tVar 4) tNil)))) (tTest (tOp nNe (tOp nEq (tVar 4) (tC (.int 0))) (tOp nEq (tVar 1) (tVar 2)))))
 (tRet (tC (.bl false))) tNext)
 (tSeq (tIfS (tOr (tTest (tOp nNe (tCall (sp_distance K C_BadWord) [] E0 (tCons (tVar 2) (tCons (tVar 1) tNil))) (tVar 4))) (tTest (tOp nNe (tCall (sp_distance K C_BadWord) [] E0 (tCons (tRevS (tVar 1)) (tCons (tRevS (tVar 2)) tNil))) (tVar 4))))
 (tRet (tC (.bl false))) tNext)
 (tSeq (tIfS (tTest (tOp nGt (tVar 4) (tOp nAdd (tCall (sp_distance K C_BadWord) [] E0 (tCons (tVar 1) (tCons (tVar 3) tNil))) (tCall (sp_distance K C_BadWord) [] E0 (tCons (tVar 3) (tCons (tVar 2) tNil))))))
 (tRet (tC (.bl false))) tNext)
 (tSeq (tIfS (tNot (tTest (tChain nLe nLe (tCB nAbs (tCons (tOp nSub (tCB nLenS (tCons (tVar 1) tNil)) (tCB nLenS (tCons (tVar 2) tNil))) tNil)) (tVar 4) (tCB nMax2 (tCons (tCB nLenS (tCons (tVar 1) tNil)) (tCons (tCB nLenS (tCons (tVar 2) tNil)) tNil))))))
 (tRet (tC (.bl false))) tNext)
 (tSeq (tIfS (tTest (tOp nGt (tCB nMax2 (tCons (tCB nLenS (tCons (tVar 1) tNil)) (tCons (tCB nLenS (tCons (tVar 2) tNil)) tNil))) (tC (.int 23))))
 (tRet (tC (.bl true))) tNext)
 (tSeq (tAsg (tCall (sp_law_letter K) [] E0 (tCons (tCall (sp_law_at K) [] E0 (tCons (tVar 0) (tCons (tC (.int 0)) tNil))) (tCons (tCall (sp_law_at K) [] E0 (tCons (tVar 0) (tCons (tC (.int 7)) tNil))) tNil))) (gName 5))
 (tRet (tAndV (tOp nEq (tCall (sp_distance K C_BadWord) [] E0 (tCons (tOp nCat (tVar 1) (tVar 5)) (tCons (tOp nCat (tVar 2) (tVar 5)) tNil))) (tVar 4)) (tOp nEq (tCall (sp_distance K C_BadWord) [] E0 (tCons (tOp nCat (tVar 5) (tVar 1)) (tCons (tOp nCat (tVar 5) (tVar 2)) tNil))) (tVar 4))))))))))))))
def n_law6 : Nat := 6
theorem l_law6 {K vs H Q E} (h : sp_law6 K vs H Q E) : vs.length = 1 := by obtain ⟨_, _, rfl, _⟩ := h; rfl
theorem isW_rev {w : List Nat} (h : isW w = true) : isW w.reverse = true := by
  have h := of_decide_eq_true h
  exact isW_good (by rw [List.length_reverse]; exact h.1) fun c hc => h.2 c (List.mem_reverse.mp hc)
theorem isW_cat {a b : List Nat} (ha : isW a = true) (hb : Low b) (hl : a.length + b.length ≤ 24) : isW (a ++ b) = true := by
  have h := of_decide_eq_true ha
  exact isW_good (by rw [List.length_append]; exact hl) (low_app h.2 hb)
theorem isW_tac {a b : List Nat} (ha : isW a = true) (hb : Low b) (hl : a.length + b.length ≤ 24) : isW (b ++ a) = true := by
  have h := of_decide_eq_true ha
  exact isW_good (by rw [List.length_append]; omega) (low_app hb h.2)
section
variable {K : PySem.W.Frag} {vs : List V} {H : Hp} {Q : VK} {E : XK} {C : Addr} {σ : L2.St} {ta tb tc : TE}
theorem R_law6 (h : sp_law6 K vs H Q E) : T_law6 K C (fin Q) (slots n_law6 vs) H := by
  obtain ⟨s, ns, rfl, hS, hn, k⟩ := h
  show T_law6 K C (fin Q) [some (.ref s), none, none, none, none, none] H
  unfold T_law6
  refine q_two (ev_var rfl) hS hn fun a b H1 e1 ha hb => ?_
  have la := isW_le ha
  have lb := isW_le hb
  have wb : Word 24 (tx b) := ⟨b, rfl, (of_decide_eq_true hb).2, lb⟩
  have ats : ∀ {H' : Hp} {σ : L2.St} (k : Int), Ex H H' → σ[0]? = some (some (.ref s)) → 0 ≤ k → Ev (tCall (sp_law_at K) [] E0 (tCons (tVar 0) (tCons (tC (.int k)) tNil))) σ H' (.int (cellAt ns k)) := fun k e hσ h0 => e_law_at (ev_var hσ) ev_c (ex_l e hS) h0 hn
  refine q_asgG (g_bent (ats 0 e1 rfl (by decide)) (g_bent (ats 0 e1 rfl (by decide)) (g_ev (fun _ _ _ _ h => h) (ev_var rfl) wb) (ats 5 e1 rfl (by decide))) (ats 6 e1 rfl (by decide))) fun v H2 e2 hv => ?_
  have e12 := e1.trans e2
  have rest : ∀ u H3, Ex H H3 → Word 24 u → (tSeq (tAsg (tCall (sp_distance K C) [] E0 (tCons (tVar 1) (tCons (tVar 2) tNil))) (gName 4))
 (tSeq (tIfS (tOr (tNot (tB (tCall (sp_law_whole K) [] E0 (tCons (tVar 4) tNil)))) (tTest (tOp nNe (tOp nEq (tVar 4) (tC (.int 0))) (tOp nEq (tVar 1) (tVar 2)))))
 (tRet (tC (.bl false))) tNext)
 (tSeq (tIfS (tOr (tTest (tOp nNe (tCall (sp_distance K C) [] E0 (tCons (tVar 2) (tCons (tVar 1) tNil))) (tVar 4))) (tTest (tOp nNe (tCall (sp_distance K C) [] E0 (tCons (tRevS (tVar 1)) (tCons (tRevS (tVar 2)) tNil))) (tVar 4))))
 (tRet (tC (.bl false))) tNext)
 (tSeq (tIfS (tTest (tOp nGt (tVar 4) (tOp nAdd (tCall (sp_distance K C) [] E0 (tCons (tVar 1) (tCons (tVar 3) tNil))) (tCall (sp_distance K C) [] E0 (tCons (tVar 3) (tCons (tVar 2) tNil))))))
 (tRet (tC (.bl false))) tNext)
 (tSeq (tIfS (tNot (tTest (tChain nLe nLe (tCB nAbs (tCons (tOp nSub (tCB nLenS (tCons (tVar 1) tNil)) (tCB nLenS (tCons (tVar 2) tNil))) tNil)) (tVar 4) (tCB nMax2 (tCons (tCB nLenS (tCons (tVar 1) tNil)) (tCons (tCB nLenS (tCons (tVar 2) tNil)) tNil))))))
 (tRet (tC (.bl false))) tNext)
 (tSeq (tIfS (tTest (tOp nGt (tCB nMax2 (tCons (tCB nLenS (tCons (tVar 1) tNil)) (tCons (tCB nLenS (tCons (tVar 2) tNil)) tNil))) (tC (.int 23))))
 (tRet (tC (.bl true))) tNext)
 (tSeq (tAsg (tCall (sp_law_letter K) [] E0 (tCons (tCall (sp_law_at K) [] E0 (tCons (tVar 0) (tCons (tC (.int 0)) tNil))) (tCons (tCall (sp_law_at K) [] E0 (tCons (tVar 0) (tCons (tC (.int 7)) tNil))) tNil))) (gName 5))
 (tRet (tAndV (tOp nEq (tCall (sp_distance K C) [] E0 (tCons (tOp nCat (tVar 1) (tVar 5)) (tCons (tOp nCat (tVar 2) (tVar 5)) tNil))) (tVar 4)) (tOp nEq (tCall (sp_distance K C) [] E0 (tCons (tOp nCat (tVar 5) (tVar 1)) (tCons (tOp nCat (tVar 5) (tVar 2)) tNil))) (tVar 4)))))))))))
      (fin Q) [some (.ref s), some (tx a), some (tx b), some u, none, none] H3 := by
    intro u H3 e3 hu
    obtain ⟨c, rfl, hc⟩ := word24 u hu
    refine q_asg (e_distance (ev_var rfl) (ev_var rfl) ha hb) fun H4 e4 => ?_
    refine q_when (b := false) (et_is (et_or (a := false) (b := false) (et_not (et_B (b := true) (ev_call (ea_cons (ev_var rfl) ea_nil) fun H6 e6 Q q E => ⟨_, rfl, .inr (.inr (.inl ⟨_, rfl⟩)), fun H7 e7 => q H7 e7⟩))) fun _ => et_is (et_test (e_ne (e_eq (ev_var rfl) ev_c .ii) (e_eq (ev_var rfl) (ev_var rfl) .ss) .bb)) ?_) (by simp)) (fun hh => by cases hh) (fun _ H5 e5 => ?_)
    · have e : decide ((dist a b : Int) = 0) = decide (a = b) := dec_eq (by rw [← dist_zero]; omega)
      rw [e]
      simp
    refine q_when (b := false) (et_is (et_or (a := false) (b := false) (et_is (et_test (e_ne (e_distance (ev_var rfl) (ev_var rfl) hb ha) (ev_var rfl) .ii)) (by rw [dist_symm b a]; simp)) fun _ => et_is (et_test (e_ne (e_distance (e_rev (ev_var rfl) (by omega)) (e_rev (ev_var rfl) (by omega)) (isW_rev ha) (isW_rev hb)) (ev_var rfl) .ii)) (by rw [dist_rev]; simp)) (by simp)) (fun hh => by cases hh) (fun _ H6 e6 => ?_)
    refine q_when (b := false) (et_is (et_test (e_gt (ev_var rfl) (e_add (e_distance (ev_var rfl) (ev_var rfl) ha hc) (e_distance (ev_var rfl) (ev_var rfl) hc hb)))) (decide_eq_false (by have := dist_tri a b c; omega))) (fun hh => by cases hh) (fun _ H7 e7 => ?_)
    refine q_when (b := false) (et_is (et_not (et_test (e_chain2 (e_abs (e_sub (e_lenS (ev_var rfl) (by omega)) (e_lenS (ev_var rfl) (by omega)))) (ev_var rfl) (e_max2 (e_lenS (ev_var rfl) (by omega)) (e_lenS (ev_var rfl) (by omega)))))) ?_) (fun hh => by cases hh) (fun _ H8 e8 => ?_)
    · have h1 := dist_low a b
      have h2 := dist_high a b
      rw [decide_eq_true]
      · rfl
      · constructor
        · split <;> omega
        · split <;> omega
    refine q_when (b := decide (23 < max a.length b.length)) (et_is (et_test (e_gt (e_max2 (e_lenS (ev_var rfl) (by omega)) (e_lenS (ev_var rfl) (by omega))) ev_c)) (dec_eq (by split <;> omega))) (fun _ H9 e9 => ?_) (fun hh H9 e9 => ?_)
    · exact s_ret ev_c fun H10 e10 => k _
    have hl := of_decide_eq_false hh
    have e39 := (((((e3.trans e4).trans e5).trans e6).trans e7).trans e8).trans e9
    refine q_asgG (g_letter (ats 0 e39 rfl (by decide)) (ats 7 e39 rfl (by decide))) fun v H10 e10 hv => ?_
    obtain ⟨d, rfl, hd⟩ := hv
    have lo := low_one hd
    have l1 : [d].length = 1 := rfl
    refine s_ret (v := .bl true) (ev_is (ev_andV (e_eq (e_distance (e_cat (ev_var rfl) (ev_var rfl) (by omega)) (e_cat (ev_var rfl) (ev_var rfl) (by omega)) (isW_cat ha lo (by omega)) (isW_cat hb lo (by omega))) (ev_var rfl) .ii) fun _ => e_eq (e_distance (e_cat (ev_var rfl) (ev_var rfl) (by omega)) (e_cat (ev_var rfl) (ev_var rfl) (by omega)) (isW_tac ha lo (by omega)) (isW_tac hb lo (by omega))) (ev_var rfl) .ii) ?_) fun H11 e11 => k _
    rw [dist_snoc, List.singleton_append, List.singleton_append, dist_cons]
    simp
  refine q_when (et_test (e_eq (e_mod (e_div (ats 1 e12 rfl (by decide)) ev_c (by decide)) ev_c (by decide)) ev_c .ii)) (fun _ H3 e3 => ?_) (fun _ H3 e3 => ?_)
  · have e13 := e12.trans e3
    refine s_asgG (g_word (ats 0 e13 rfl (by decide)) (ats 5 e13 rfl (by decide)) ev_c (by decide) (by decide)) fun u H4 e4 hu => ?_
    exact rest u H4 (e13.trans e4) (word_le hu (by decide))
  · exact rest v H3 (e12.trans e3) hv
end
end Nw
namespace Row6
open PySem PySem.Spec PyProof.Rows L2 Evl Nw
def topS (i : Nat) : Stmt := PySem.Challenge.pw_nearword_k06_distances_of_three.main.body.getD i (.Pass ⟨0, 0, 0, 0⟩)
abbrev s_law_at : Stmt := topS 15
abbrev s_law_letter : Stmt := topS 17
abbrev s_law_bent : Stmt := topS 19
abbrev s_law_word : Stmt := topS 18
abbrev s_law_two : Stmt := topS 20
abbrev s_law_whole : Stmt := topS 16
abbrev s_is_word : Stmt := topS 6
abbrev s_need_word : Stmt := topS 7
abbrev s_first_row : Stmt := topS 9
abbrev s_next_row : Stmt := topS 10
abbrev s_rows_of : Stmt := topS 11
abbrev s_table : Stmt := topS 12
abbrev s_distance : Stmt := topS 13
abbrev s_law6 : Stmt := topS 21
theorem sc_law_at : FnScope ["_law_script", "_law_k"] ["_law_script", "_law_k"] (defScope s_law_at) := ⟨rfl, rfl, rfl, by decide +kernel, rfl, by decide +kernel, by decide +kernel⟩
theorem sc_law_letter : FnScope ["_law_mode", "_law_number", "_law_span", "_law_step"] ["_law_mode", "_law_number"] (defScope s_law_letter) := ⟨rfl, rfl, rfl, by decide +kernel, rfl, by decide +kernel, by decide +kernel⟩
theorem sc_law_bent : FnScope ["_law_mode", "_law_word_here", "_law_cell", "_law_k", "_law_more", "_law_at_here", "_law_letter_here"] ["_law_mode", "_law_word_here", "_law_cell"] (defScope s_law_bent) := ⟨rfl, rfl, rfl, by decide +kernel, rfl, by decide +kernel, by decide +kernel⟩
theorem sc_law_word : FnScope ["_law_mode", "_law_cell", "_law_most", "_law_size", "_law_found", "_law_k"] ["_law_mode", "_law_cell", "_law_most"] (defScope s_law_word) := ⟨rfl, rfl, rfl, by decide +kernel, rfl, by decide +kernel, by decide +kernel⟩
theorem sc_law_two : FnScope ["_law_script", "_law_mode", "_law_most", "_law_one", "_law_other"] ["_law_script"] (defScope s_law_two) := ⟨rfl, rfl, rfl, by decide +kernel, rfl, by decide +kernel, by decide +kernel⟩
theorem sc_law_whole : FnScope ["_law_thing"] ["_law_thing"] (defScope s_law_whole) := ⟨rfl, rfl, rfl, by decide +kernel, rfl, by decide +kernel, by decide +kernel⟩
theorem sc_is_word : FnScope ["thing", "letter"] ["thing"] (defScope s_is_word) := ⟨rfl, rfl, rfl, by decide +kernel, rfl, by decide +kernel, by decide +kernel⟩
theorem sc_need_word : FnScope ["thing"] ["thing"] (defScope s_need_word) := ⟨rfl, rfl, rfl, by decide +kernel, rfl, by decide +kernel, by decide +kernel⟩
theorem sc_first_row : FnScope ["word"] ["word"] (defScope s_first_row) := ⟨rfl, rfl, rfl, by decide +kernel, rfl, by decide +kernel, by decide +kernel⟩
theorem sc_next_row : FnScope ["row", "letter", "word", "found", "at", "straight"] ["row", "letter", "word"] (defScope s_next_row) := ⟨rfl, rfl, rfl, by decide +kernel, rfl, by decide +kernel, by decide +kernel⟩
theorem sc_rows_of : FnScope ["one", "other", "found", "letter"] ["one", "other"] (defScope s_rows_of) := ⟨rfl, rfl, rfl, by decide +kernel, rfl, by decide +kernel, by decide +kernel⟩
theorem sc_table : FnScope ["one", "other"] ["one", "other"] (defScope s_table) := ⟨rfl, rfl, rfl, by decide +kernel, rfl, by decide +kernel, by decide +kernel⟩
theorem sc_distance : FnScope ["one", "other"] ["one", "other"] (defScope s_distance) := ⟨rfl, rfl, rfl, by decide +kernel, rfl, by decide +kernel, by decide +kernel⟩
theorem sc_law6 : FnScope ["_law_script", "_law_one", "_law_other", "_law_third", "_law_far", "_law_letter_here"] ["_law_script"] (defScope s_law6) := ⟨rfl, rfl, rfl, by decide +kernel, rfl, by decide +kernel, by decide +kernel⟩
structure Txt (K : PySem.W.Frag) (mg : Str → Option Value) (C_BadWord : Addr) : Prop where
  abs : mg "abs" = none
  bool : mg "bool" = none
  int : mg "int" = none
  isinstance : mg "isinstance" = none
  len : mg "len" = none
  list : mg "list" = none
  max : mg "max" = none
  min : mg "min" = none
  range : mg "range" = none
  str : mg "str" = none
  c_LETTERS : ∃ t, mg "LETTERS" = some (.str ⟨abc.toArray⟩ t)
  c_MOST_LETTERS : ∃ t, mg "MOST_LETTERS" = some (.int 24 t)
  g_BadWord : mg "BadWord" = some (.ref C_BadWord)
  x_BadWord : PySem.W.excIn K C_BadWord [.type "ValueError", .type "Exception", .type "BaseException", .type "object"] "ValueError.__new__" = true
  k_BadWord : PySem.W.keepIn K (.ref C_BadWord) = true
  b_BadWord : PySem.W.subIn K (.ref C_BadWord) (.type "BaseException") = some true
  t_BadWord : PySem.W.typeIn K (.ref C_BadWord) = some (.type "type")
section
variable {P : Program} {w : World} {K : PySem.W.Frag} {mg : Str → Option Value} {base : Heap} {C_BadWord : Addr}
theorem ok_law_at {f : Addr} {fd : FuncData} (F : Fun K "_law_at" "_law_at" s_law_at f fd) (T : Txt K mg C_BadWord)  : FnOk P w K mg base CX0 1 f fd ["_law_script", "_law_k"] (sp_law_at K) := by
  refine F.ok sc_law_at (fun vs H Q E h => l_law_at h) (fun cdv A outer s H vs Q E hr h => ⟨T_law_at K, ?_, R_law_at h⟩)
  have hu := hu_of hr
  exact (pss_cons (ps_if (pt_cmpR o_lt (pv 1) (pe_callB c_lenL (by rfl) T.len PySem.boot_len (pa_cons (pv 0) pa_nil)) (nomark _))
     (pss_one (ps_ret (pe_ix x_list (pv 0) (pv 1) (fun _ _ => rfl)))) pss_nil)
     (pss_one (ps_ret pe_int)))
theorem ok_law_letter {f : Addr} {fd : FuncData} (F : Fun K "_law_letter" "_law_letter" s_law_letter f fd) (T : Txt K mg C_BadWord)  : FnOk P w K mg base CX0 1 f fd ["_law_mode", "_law_number"] (sp_law_letter K) := by
  refine F.ok sc_law_letter (fun vs H Q E h => l_law_letter h) (fun cdv A outer s H vs Q E hr h => ⟨T_law_letter K, ?_, R_law_letter h⟩)
  have hu := hu_of hr
  exact (pss_cons (ps_set (i := 2) sc_law_letter.nd rfl (Or.inl rfl) (pe_ix x_list (pe_lst (pa_cons pe_int (pa_cons pe_int (pa_cons pe_int pa_nil)))) (pe_op o_mod (pv 0) pe_int) (fun _ _ => rfl)))
     (pss_cons (ps_set (i := 3) sc_law_letter.nd rfl (Or.inl rfl) (pe_ix x_list (pe_lst (pa_cons pe_int (pa_cons pe_int (pa_cons pe_int (pa_cons pe_int pa_nil))))) (pe_op o_mod (pe_op o_div (pv 0) pe_int) pe_int) (fun _ _ => rfl)))
     (pss_one (ps_ret (pe_ix x_str (pe_tx (w := abc) (by decide +kernel)) (pe_op o_mod (pe_op o_add (pe_op o_div (pv 0) pe_int) (pe_op o_mul (pe_op o_mod (pv 1) (pv 2)) (pv 3))) pe_int) (fun _ _ => rfl))))))
theorem ok_law_bent {f : Addr} {fd : FuncData} (F : Fun K "_law_bent" "_law_bent" s_law_bent f fd) (T : Txt K mg C_BadWord) (c_law_letter : Cal P w K mg base CX0 1 "_law_letter" ["_law_mode", "_law_number"] (sp_law_letter K)) : FnOk P w K mg base CX0 2 f fd ["_law_mode", "_law_word_here", "_law_cell"] (sp_law_bent K) := by
  obtain ⟨f_law_letter, fd_law_letter, G_law_letter, g_law_letter, kp_law_letter, b_law_letter⟩ := c_law_letter.ex
  refine F.ok sc_law_bent (fun vs H Q E h => l_law_bent h) (fun cdv A outer s H vs Q E hr h => ⟨T_law_bent K, ?_, R_law_bent h⟩)
  have hu := hu_of hr
  exact (pss_cons (ps_for PassesOwn.never rfl (pi_range1 (by rfl) T.range (pa_cons (pe_op o_mod (pv 2) pe_int) pa_nil)) (pg_name (i := 3) sc_law_bent.nd rfl (Or.inl rfl))
     (pss_cons (ps_set (i := 4) sc_law_bent.nd rfl (Or.inl rfl) (pe_op o_add (pe_op o_div (pv 2) pe_int) (pe_op o_mul pe_int (pv 3))))
     (pss_cons (ps_set (i := 5) sc_law_bent.nd rfl (Or.inl rfl) (pe_op o_mod (pe_op o_div (pv 4) pe_int) (pe_op o_add (pe_callB c_lenS (by rfl) T.len PySem.boot_len (pa_cons (pv 1) pa_nil)) pe_int)))
     (pss_cons (ps_set (i := 6) sc_law_bent.nd rfl (Or.inl rfl) (pe_call G_law_letter (hr.mono (by decide)) (by rfl) g_law_letter kp_law_letter b_law_letter .nil pass0 (pa_cons (pv 0) (pa_cons (pe_op o_div (pv 4) pe_int) pa_nil))))
     (pss_cons (ps_if (PW.pt (pw_and (pt_cmpR o_eq (pe_op o_mod (pv 4) pe_int) pe_int (nomark _)) (pw_and1 (pt_cmpR o_lt (pe_callB c_lenS (by rfl) T.len PySem.boot_len (pa_cons (pv 1) pa_nil)) pe_int (nomark _)))))
     (pss_one (ps_set (i := 1) sc_law_bent.nd rfl (Or.inl rfl) (pe_op o_cat (pe_op o_cat (pe_slice l_str (pv 1) po_none (po_some (pv 5))) (pv 6)) (pe_slice l_str (pv 1) (po_some (pv 5)) po_none)))) (pss_one (ps_if (pt_cmpR o_eq (pe_op o_mod (pv 4) pe_int) pe_int (nomark _))
     (pss_one (ps_set (i := 1) sc_law_bent.nd rfl (Or.inl rfl) (pe_op o_cat (pe_slice l_str (pv 1) po_none (po_some (pv 5))) (pe_slice l_str (pv 1) (po_some (pe_op o_add (pv 5) pe_int)) po_none)))) (pss_one (ps_if (pt_cmpR o_lt (pv 5) (pe_callB c_lenS (by rfl) T.len PySem.boot_len (pa_cons (pv 1) pa_nil)) (nomark _))
     (pss_one (ps_set (i := 1) sc_law_bent.nd rfl (Or.inl rfl) (pe_op o_cat (pe_op o_cat (pe_slice l_str (pv 1) po_none (po_some (pv 5))) (pv 6)) (pe_slice l_str (pv 1) (po_some (pe_op o_add (pv 5) pe_int)) po_none)))) pss_nil)))))
     (pss_one (ps_set (i := 2) sc_law_bent.nd rfl (Or.inl rfl) (pe_op o_div (pv 2) pe_int))))))))
     (pss_one (ps_ret (pv 1))))
theorem ok_law_word {f : Addr} {fd : FuncData} (F : Fun K "_law_word" "_law_word" s_law_word f fd) (T : Txt K mg C_BadWord) (c_law_letter : Cal P w K mg base CX0 1 "_law_letter" ["_law_mode", "_law_number"] (sp_law_letter K)) : FnOk P w K mg base CX0 2 f fd ["_law_mode", "_law_cell", "_law_most"] (sp_law_word K) := by
  obtain ⟨f_law_letter, fd_law_letter, G_law_letter, g_law_letter, kp_law_letter, b_law_letter⟩ := c_law_letter.ex
  refine F.ok sc_law_word (fun vs H Q E h => l_law_word h) (fun cdv A outer s H vs Q E hr h => ⟨T_law_word K, ?_, R_law_word h⟩)
  have hu := hu_of hr
  exact (pss_cons (ps_set (i := 3) sc_law_word.nd rfl (Or.inl rfl) (pe_op o_mod (pv 1) (pe_op o_add (pv 2) pe_int)))
     (pss_cons (ps_set (i := 1) sc_law_word.nd rfl (Or.inl rfl) (pe_op o_div (pv 1) (pe_op o_add (pv 2) pe_int)))
     (pss_cons (ps_set (i := 4) sc_law_word.nd rfl (Or.inl rfl) (pe_tx (w := []) (by decide +kernel)))
     (pss_cons (ps_for PassesOwn.never rfl (pi_range1 (by rfl) T.range (pa_cons (pv 3) pa_nil)) (pg_name (i := 5) sc_law_word.nd rfl (Or.inl rfl))
     (pss_cons (ps_set (i := 4) sc_law_word.nd rfl (Or.inl rfl) (pe_op o_cat (pv 4) (pe_call G_law_letter (hr.mono (by decide)) (by rfl) g_law_letter kp_law_letter b_law_letter .nil pass0 (pa_cons (pv 0) (pa_cons (pe_op o_add (pv 1) (pe_op o_mul pe_int (pv 5))) pa_nil)))))
     (pss_one (ps_set (i := 1) sc_law_word.nd rfl (Or.inl rfl) (pe_op o_div (pv 1) pe_int)))))
     (pss_one (ps_ret (pv 4)))))))
theorem ok_law_two {f : Addr} {fd : FuncData} (F : Fun K "_law_two" "_law_two" s_law_two f fd) (T : Txt K mg C_BadWord) (c_law_at : Cal P w K mg base CX0 1 "_law_at" ["_law_script", "_law_k"] (sp_law_at K)) (c_law_bent : Cal P w K mg base CX0 2 "_law_bent" ["_law_mode", "_law_word_here", "_law_cell"] (sp_law_bent K)) (c_law_word : Cal P w K mg base CX0 2 "_law_word" ["_law_mode", "_law_cell", "_law_most"] (sp_law_word K)) : FnOk P w K mg base CX0 3 f fd ["_law_script"] (sp_law_two K) := by
  obtain ⟨f_law_at, fd_law_at, G_law_at, g_law_at, kp_law_at, b_law_at⟩ := c_law_at.ex
  obtain ⟨f_law_bent, fd_law_bent, G_law_bent, g_law_bent, kp_law_bent, b_law_bent⟩ := c_law_bent.ex
  obtain ⟨f_law_word, fd_law_word, G_law_word, g_law_word, kp_law_word, b_law_word⟩ := c_law_word.ex
  refine F.ok sc_law_two (fun vs H Q E h => l_law_two h) (fun cdv A outer s H vs Q E hr h => ⟨T_law_two K, ?_, R_law_two h⟩)
  have hu := hu_of hr
  exact (pss_cons (ps_set (i := 1) sc_law_two.nd rfl (Or.inl rfl) (pe_call G_law_at (hr.mono (by decide)) (by rfl) g_law_at kp_law_at b_law_at .nil pass0 (pa_cons (pv 0) (pa_cons pe_int pa_nil))))
     (pss_cons (ps_set (i := 2) sc_law_two.nd rfl (Or.inl rfl) pe_int)
     (pss_cons (ps_if (pt_cmpR o_eq (pe_op o_mod (pe_call G_law_at (hr.mono (by decide)) (by rfl) g_law_at kp_law_at b_law_at .nil pass0 (pa_cons (pv 0) (pa_cons pe_int pa_nil))) pe_int) pe_int (nomark _))
     (pss_one (ps_set (i := 2) sc_law_two.nd rfl (Or.inl rfl) pe_int)) pss_nil)
     (pss_cons (ps_set (i := 3) sc_law_two.nd rfl (Or.inl rfl) (pe_call G_law_word (hr.mono (by decide)) (by rfl) g_law_word kp_law_word b_law_word .nil pass0 (pa_cons (pv 1) (pa_cons (pe_call G_law_at (hr.mono (by decide)) (by rfl) g_law_at kp_law_at b_law_at .nil pass0 (pa_cons (pv 0) (pa_cons pe_int pa_nil))) (pa_cons (pv 2) pa_nil)))))
     (pss_cons (ps_set (i := 4) sc_law_two.nd rfl (Or.inl rfl) (pe_call G_law_word (hr.mono (by decide)) (by rfl) g_law_word kp_law_word b_law_word .nil pass0 (pa_cons (pv 1) (pa_cons (pe_call G_law_at (hr.mono (by decide)) (by rfl) g_law_at kp_law_at b_law_at .nil pass0 (pa_cons (pv 0) (pa_cons pe_int pa_nil))) (pa_cons (pv 2) pa_nil)))))
     (pss_cons (ps_if (pt_cmpR o_gt (pe_op o_mod (pe_op o_div (pe_call G_law_at (hr.mono (by decide)) (by rfl) g_law_at kp_law_at b_law_at .nil pass0 (pa_cons (pv 0) (pa_cons pe_int pa_nil))) pe_int) pe_int) pe_int (nomark _))
     (pss_one (ps_set (i := 4) sc_law_two.nd rfl (Or.inl rfl) (pe_call G_law_bent (hr.mono (by decide)) (by rfl) g_law_bent kp_law_bent b_law_bent .nil pass0 (pa_cons (pv 1) (pa_cons (pe_call G_law_bent (hr.mono (by decide)) (by rfl) g_law_bent kp_law_bent b_law_bent .nil pass0 (pa_cons (pv 1) (pa_cons (pv 3) (pa_cons (pe_call G_law_at (hr.mono (by decide)) (by rfl) g_law_at kp_law_at b_law_at .nil pass0 (pa_cons (pv 0) (pa_cons pe_int pa_nil))) pa_nil)))) (pa_cons (pe_call G_law_at (hr.mono (by decide)) (by rfl) g_law_at kp_law_at b_law_at .nil pass0 (pa_cons (pv 0) (pa_cons pe_int pa_nil))) pa_nil)))))) pss_nil)
     (pss_one (ps_ret (pe_tup (pa_cons (pv 3) (pa_cons (pv 4) pa_nil)))))))))))
theorem ok_law_whole {f : Addr} {fd : FuncData} (F : Fun K "_law_whole" "_law_whole" s_law_whole f fd) (T : Txt K mg C_BadWord)  : FnOk P w K mg base CX0 1 f fd ["_law_thing"] (sp_law_whole K) := by
  refine F.ok sc_law_whole (fun vs H Q E h => l_law_whole h) (fun cdv A outer s H vs Q E hr h => ⟨T_law_whole K, ?_, R_law_whole h⟩)
  have hu := hu_of hr
  exact (pss_one (ps_ret (pe_and (pe_callB c_isi (by rfl) T.isinstance (by decide +kernel) (pa_cons (pv 0) (pa_cons (pe_bltn (v := .ty "int") (by rfl) T.int (by decide +kernel) rfl) pa_nil))) (pe_one (pe_not (pe_callB c_isi (by rfl) T.isinstance (by decide +kernel) (pa_cons (pv 0) (pa_cons (pe_bltn (v := .ty "bool") (by rfl) T.bool (by decide +kernel) rfl) pa_nil))))))))
theorem ok_is_word {f : Addr} {fd : FuncData} (F : Fun K "is_word" "is_word" s_is_word f fd) (T : Txt K mg C_BadWord)  : FnOk P w K mg base CX0 1 f fd ["thing"] (sp_is_word K) := by
  obtain ⟨tk_LETTERS, g_LETTERS⟩ := T.c_LETTERS
  obtain ⟨tk_MOST_LETTERS, g_MOST_LETTERS⟩ := T.c_MOST_LETTERS
  refine F.ok sc_is_word (fun vs H Q E h => l_is_word h) (fun cdv A outer s H vs Q E hr h => ⟨T_is_word K, ?_, R_is_word h⟩)
  have hu := hu_of hr
  exact (pss_cons (ps_if (PW.pt (pw_or (pt_not (pt_val (pe_callB c_isi (by rfl) T.isinstance (by decide +kernel) (pa_cons (pv 0) (pa_cons (pe_bltn (v := .ty "str") (by rfl) T.str (by decide +kernel) rfl) pa_nil))))) (pw_or1 (pt_cmpR o_gt (pe_callB c_lenS (by rfl) T.len PySem.boot_len (pa_cons (pv 0) pa_nil)) (pe_glob rfl g_MOST_LETTERS ⟨_, rfl⟩) (nomark _)))))
     (pss_one (ps_ret pe_bl)) pss_nil)
     (pss_cons (ps_for PassesOwn.never rfl (pi_str (pv 0)) (pg_name (i := 1) sc_is_word.nd rfl (Or.inl rfl))
     (pss_one (ps_if (pt_cmpR o_notInS (pv 1) (pe_glob rfl g_LETTERS ⟨_, rfl⟩) (by rfl))
     (pss_one (ps_ret pe_bl)) pss_nil)))
     (pss_one (ps_ret pe_bl))))
theorem ok_need_word {f : Addr} {fd : FuncData} (F : Fun K "need_word" "need_word" s_need_word f fd) (T : Txt K mg C_BadWord) (c_is_word : Cal P w K mg base CX0 1 "is_word" ["thing"] (sp_is_word K)) : FnOk P w K mg base (L2.CX P w) 2 f fd ["thing"] (sp_need_word K C_BadWord) := by
  obtain ⟨f_is_word, fd_is_word, G_is_word, g_is_word, kp_is_word, b_is_word⟩ := c_is_word.ex
  refine F.okX sc_need_word (fun vs H Q E h => l_need_word h) (fun cdv A outer s H vs Q E hr h => ⟨T_need_word K C_BadWord E, ?_, R_need_word h⟩)
  have hu := hu_of hr
  exact (pss_one (ps_if (pt_not (pt_val (pe_call G_is_word (hr.mono (by decide)) (by rfl) g_is_word kp_is_word b_is_word .nil pass0 (pa_cons (pv 0) pa_nil))))
     (pss_one (ps_raise rfl (takes_of rfl rfl rfl rfl) (pmk_own PySem.F.excBase_ValueError T.x_BadWord T.g_BadWord T.k_BadWord (raises_own T.b_BadWord T.t_BadWord) (by exact rfl)))) pss_nil))
theorem ok_first_row {f : Addr} {fd : FuncData} (F : Fun K "first_row" "first_row" s_first_row f fd) (T : Txt K mg C_BadWord)  : FnOk P w K mg base CX0 1 f fd ["word"] (sp_first_row K) := by
  refine F.ok sc_first_row (fun vs H Q E h => l_first_row h) (fun cdv A outer s H vs Q E hr h => ⟨T_first_row K, ?_, R_first_row h⟩)
  have hu := hu_of hr
  exact (pss_one (ps_ret (pe_listRg rfl (by rfl) T.list (prg_1 (by rfl) T.range (pe_op o_add (pe_callB c_lenS (by rfl) T.len PySem.boot_len (pa_cons (pv 0) pa_nil)) pe_int)))))
theorem ok_next_row {f : Addr} {fd : FuncData} (F : Fun K "next_row" "next_row" s_next_row f fd) (T : Txt K mg C_BadWord)  : FnOk P w K mg base CX0 1 f fd ["row", "letter", "word"] (sp_next_row K) := by
  refine F.ok sc_next_row (fun vs H Q E h => l_next_row h) (fun cdv A outer s H vs Q E hr h => ⟨T_next_row K, ?_, R_next_row h⟩)
  have hu := hu_of hr
  exact (pss_cons (ps_set (i := 3) sc_next_row.nd rfl (Or.inl rfl) (pe_lst (pa_cons (pe_op o_add (pe_ix x_list (pv 0) pe_int (fun _ _ => rfl)) pe_int) pa_nil)))
     (pss_cons (ps_for PassesOwn.never rfl (pi_range1 (by rfl) T.range (pa_cons (pe_callB c_lenS (by rfl) T.len PySem.boot_len (pa_cons (pv 2) pa_nil)) pa_nil)) (pg_name (i := 4) sc_next_row.nd rfl (Or.inl rfl))
     (pss_cons (ps_set (i := 5) sc_next_row.nd rfl (Or.inl rfl) (pe_ix x_list (pv 0) (pv 4) (fun _ _ => rfl)))
     (pss_cons (ps_if (pt_cmpR o_ne (pe_ix x_str (pv 2) (pv 4) (fun _ _ => rfl)) (pv 1) (nomark _))
     (pss_one (ps_aug (i := 5) sc_next_row.nd rfl (Or.inl rfl) pe_int ip_add)) pss_nil)
     (pss_one (ps_expr (pe_bm PySem.F.plainAttrs_list PySem.F.slot_list_append PySem.F.type_list_append mt_append (pv 3) (pa_cons (pe_callB (c_min3 rfl) (by rfl) T.min (by decide +kernel) (pa_cons (pv 5) (pa_cons (pe_op o_add (pe_ix x_list (pv 0) (pe_op o_add (pv 4) pe_int) (fun _ _ => rfl)) pe_int) (pa_cons (pe_op o_add (pe_ix x_list (pv 3) (pv 4) (fun _ _ => rfl)) pe_int) pa_nil)))) pa_nil)))))))
     (pss_one (ps_ret (pv 3)))))
theorem ok_rows_of {f : Addr} {fd : FuncData} (F : Fun K "rows_of" "rows_of" s_rows_of f fd) (T : Txt K mg C_BadWord) (c_first_row : Cal P w K mg base CX0 1 "first_row" ["word"] (sp_first_row K)) (c_next_row : Cal P w K mg base CX0 1 "next_row" ["row", "letter", "word"] (sp_next_row K)) : FnOk P w K mg base CX0 2 f fd ["one", "other"] (sp_rows_of K) := by
  obtain ⟨f_first_row, fd_first_row, G_first_row, g_first_row, kp_first_row, b_first_row⟩ := c_first_row.ex
  obtain ⟨f_next_row, fd_next_row, G_next_row, g_next_row, kp_next_row, b_next_row⟩ := c_next_row.ex
  refine F.ok sc_rows_of (fun vs H Q E h => l_rows_of h) (fun cdv A outer s H vs Q E hr h => ⟨T_rows_of K, ?_, R_rows_of h⟩)
  have hu := hu_of hr
  exact (pss_cons (ps_set (i := 2) sc_rows_of.nd rfl (Or.inl rfl) (pe_lst (pa_cons (pe_call G_first_row (hr.mono (by decide)) (by rfl) g_first_row kp_first_row b_first_row .nil pass0 (pa_cons (pv 1) pa_nil)) pa_nil)))
     (pss_cons (ps_for PassesOwn.never rfl (pi_str (pv 0)) (pg_name (i := 3) sc_rows_of.nd rfl (Or.inl rfl))
     (pss_one (ps_expr (pe_bm PySem.F.plainAttrs_list PySem.F.slot_list_append PySem.F.type_list_append mt_append (pv 2) (pa_cons (pe_call G_next_row (hr.mono (by decide)) (by rfl) g_next_row kp_next_row b_next_row .nil pass0 (pa_cons (pe_ix x_list (pv 2) (pe_un o_neg pe_int) (fun _ _ => rfl)) (pa_cons (pv 3) (pa_cons (pv 1) pa_nil)))) pa_nil)))))
     (pss_one (ps_ret (pv 2)))))
theorem ok_table {f : Addr} {fd : FuncData} (F : Fun K "table" "table" s_table f fd) (T : Txt K mg C_BadWord) (c_need_word : Cal P w K mg base (L2.CX P w) 2 "need_word" ["thing"] (sp_need_word K C_BadWord)) (c_rows_of : Cal P w K mg base CX0 2 "rows_of" ["one", "other"] (sp_rows_of K)) : FnOk P w K mg base (L2.CX P w) 3 f fd ["one", "other"] (sp_table K C_BadWord) := by
  obtain ⟨f_need_word, fd_need_word, G_need_word, g_need_word, kp_need_word, b_need_word⟩ := c_need_word.ex
  obtain ⟨f_rows_of, fd_rows_of, G_rows_of, g_rows_of, kp_rows_of, b_rows_of⟩ := c_rows_of.ex
  refine F.okX sc_table (fun vs H Q E h => l_table h) (fun cdv A outer s H vs Q E hr h => ⟨T_table K C_BadWord E, ?_, R_table h⟩)
  have hu := hu_of hr
  exact (pss_cons (ps_expr (pe_call G_need_word (hr.mono (by decide)) (by rfl) g_need_word kp_need_word b_need_word .nil (passes_call (takes_of rfl rfl rfl rfl) (fun _ _ _ _ q => q)) (pa_cons (pv 0) pa_nil)))
     (pss_cons (ps_expr (pe_call G_need_word (hr.mono (by decide)) (by rfl) g_need_word kp_need_word b_need_word .nil (passes_call (takes_of rfl rfl rfl rfl) (fun _ _ _ _ q => q)) (pa_cons (pv 1) pa_nil)))
     (pss_one (ps_ret (pe_call G_rows_of (hr.mono (by decide)) (by rfl) g_rows_of kp_rows_of b_rows_of .nil pass0 (pa_cons (pv 0) (pa_cons (pv 1) pa_nil)))))))
theorem ok_distance {f : Addr} {fd : FuncData} (F : Fun K "distance" "distance" s_distance f fd) (T : Txt K mg C_BadWord) (c_table : Cal P w K mg base (L2.CX P w) 3 "table" ["one", "other"] (sp_table K C_BadWord)) : FnOk P w K mg base (L2.CX P w) 4 f fd ["one", "other"] (sp_distance K C_BadWord) := by
  obtain ⟨f_table, fd_table, G_table, g_table, kp_table, b_table⟩ := c_table.ex
  refine F.okX sc_distance (fun vs H Q E h => l_distance h) (fun cdv A outer s H vs Q E hr h => ⟨T_distance K C_BadWord E, ?_, R_distance h⟩)
  have hu := hu_of hr
  exact (pss_one (ps_ret (pe_ix x_list (pe_ix x_list (pe_call G_table (hr.mono (by decide)) (by rfl) g_table kp_table b_table .nil (passes_call (takes_of rfl rfl rfl rfl) (fun _ _ _ _ q => q)) (pa_cons (pv 0) (pa_cons (pv 1) pa_nil))) (pe_un o_neg pe_int) (fun _ _ => rfl)) (pe_un o_neg pe_int) (fun _ _ => rfl))))
theorem ok_law6 {f : Addr} {fd : FuncData} (F : Fun K "law" "law" s_law6 f fd) (T : Txt K mg C_BadWord) (c_law_at : Cal P w K mg base CX0 1 "_law_at" ["_law_script", "_law_k"] (sp_law_at K)) (c_law_bent : Cal P w K mg base CX0 2 "_law_bent" ["_law_mode", "_law_word_here", "_law_cell"] (sp_law_bent K)) (c_law_letter : Cal P w K mg base CX0 1 "_law_letter" ["_law_mode", "_law_number"] (sp_law_letter K)) (c_law_two : Cal P w K mg base CX0 3 "_law_two" ["_law_script"] (sp_law_two K)) (c_law_whole : Cal P w K mg base CX0 1 "_law_whole" ["_law_thing"] (sp_law_whole K)) (c_law_word : Cal P w K mg base CX0 2 "_law_word" ["_law_mode", "_law_cell", "_law_most"] (sp_law_word K)) (c_distance : Cal P w K mg base (L2.CX P w) 4 "distance" ["one", "other"] (sp_distance K C_BadWord)) : FnOk P w K mg base CX0 5 f fd ["_law_script"] (sp_law6 K) := by
  obtain ⟨f_law_at, fd_law_at, G_law_at, g_law_at, kp_law_at, b_law_at⟩ := c_law_at.ex
  obtain ⟨f_law_bent, fd_law_bent, G_law_bent, g_law_bent, kp_law_bent, b_law_bent⟩ := c_law_bent.ex
  obtain ⟨f_law_letter, fd_law_letter, G_law_letter, g_law_letter, kp_law_letter, b_law_letter⟩ := c_law_letter.ex
  obtain ⟨f_law_two, fd_law_two, G_law_two, g_law_two, kp_law_two, b_law_two⟩ := c_law_two.ex
  obtain ⟨f_law_whole, fd_law_whole, G_law_whole, g_law_whole, kp_law_whole, b_law_whole⟩ := c_law_whole.ex
  obtain ⟨f_law_word, fd_law_word, G_law_word, g_law_word, kp_law_word, b_law_word⟩ := c_law_word.ex
  obtain ⟨f_distance, fd_distance, G_distance, g_distance, kp_distance, b_distance⟩ := c_distance.ex
  refine F.ok sc_law6 (fun vs H Q E h => l_law6 h) (fun cdv A outer s H vs Q E hr h => ⟨T_law6 K C_BadWord, ?_, R_law6 h⟩)
  have hu := hu_of hr
  exact (pss_cons (ps_asg (pe_call G_law_two (hr.mono (by decide)) (by rfl) g_law_two kp_law_two b_law_two .nil pass0 (pa_cons (pv 0) pa_nil)) (pg_tup (by rfl) (pgs_cons (pg_name (i := 1) sc_law6.nd rfl (Or.inl rfl)) (pgs_cons (pg_name (i := 2) sc_law6.nd rfl (Or.inl rfl)) pgs_nil))))
     (pss_cons (ps_set (i := 3) sc_law6.nd rfl (Or.inl rfl) (pe_call G_law_bent (hr.mono (by decide)) (by rfl) g_law_bent kp_law_bent b_law_bent .nil pass0 (pa_cons (pe_call G_law_at (hr.mono (by decide)) (by rfl) g_law_at kp_law_at b_law_at .nil pass0 (pa_cons (pv 0) (pa_cons pe_int pa_nil))) (pa_cons (pe_call G_law_bent (hr.mono (by decide)) (by rfl) g_law_bent kp_law_bent b_law_bent .nil pass0 (pa_cons (pe_call G_law_at (hr.mono (by decide)) (by rfl) g_law_at kp_law_at b_law_at .nil pass0 (pa_cons (pv 0) (pa_cons pe_int pa_nil))) (pa_cons (pv 2) (pa_cons (pe_call G_law_at (hr.mono (by decide)) (by rfl) g_law_at kp_law_at b_law_at .nil pass0 (pa_cons (pv 0) (pa_cons pe_int pa_nil))) pa_nil)))) (pa_cons (pe_call G_law_at (hr.mono (by decide)) (by rfl) g_law_at kp_law_at b_law_at .nil pass0 (pa_cons (pv 0) (pa_cons pe_int pa_nil))) pa_nil)))))
     (pss_cons (ps_if (pt_cmpR o_eq (pe_op o_mod (pe_op o_div (pe_call G_law_at (hr.mono (by decide)) (by rfl) g_law_at kp_law_at b_law_at .nil pass0 (pa_cons (pv 0) (pa_cons pe_int pa_nil))) pe_int) pe_int) pe_int (nomark _))
     (pss_one (ps_set (i := 3) sc_law6.nd rfl (Or.inl rfl) (pe_call G_law_word (hr.mono (by decide)) (by rfl) g_law_word kp_law_word b_law_word .nil pass0 (pa_cons (pe_call G_law_at (hr.mono (by decide)) (by rfl) g_law_at kp_law_at b_law_at .nil pass0 (pa_cons (pv 0) (pa_cons pe_int pa_nil))) (pa_cons (pe_call G_law_at (hr.mono (by decide)) (by rfl) g_law_at kp_law_at b_law_at .nil pass0 (pa_cons (pv 0) (pa_cons pe_int pa_nil))) (pa_cons pe_int pa_nil)))))) pss_nil)
     (pss_cons (ps_set (i := 4) sc_law6.nd rfl (Or.inl rfl) (pe_call G_distance (hr.mono (by decide)) (by rfl) g_distance kp_distance b_distance .nil passL (pa_cons (pv 1) (pa_cons (pv 2) pa_nil))))
     (pss_cons (ps_if (PW.pt (pw_or (pt_not (pt_val (pe_call G_law_whole (hr.mono (by decide)) (by rfl) g_law_whole kp_law_whole b_law_whole .nil pass0 (pa_cons (pv 4) pa_nil)))) (pw_or1 (pt_cmpR o_ne (pe_cmpR o_eq (pv 4) pe_int (nomark _)) (pe_cmpR o_eq (pv 1) (pv 2) (nomark _)) (nomark _)))))
     (pss_one (ps_ret pe_bl)) pss_nil)
     (pss_cons (ps_if (PW.pt (pw_or (pt_cmpR o_ne (pe_call G_distance (hr.mono (by decide)) (by rfl) g_distance kp_distance b_distance .nil passL (pa_cons (pv 2) (pa_cons (pv 1) pa_nil))) (pv 4) (nomark _)) (pw_or1 (pt_cmpR o_ne (pe_call G_distance (hr.mono (by decide)) (by rfl) g_distance kp_distance b_distance .nil passL (pa_cons (pe_rev (pv 1)) (pa_cons (pe_rev (pv 2)) pa_nil))) (pv 4) (nomark _)))))
     (pss_one (ps_ret pe_bl)) pss_nil)
     (pss_cons (ps_if (pt_cmpR o_gt (pv 4) (pe_op o_add (pe_call G_distance (hr.mono (by decide)) (by rfl) g_distance kp_distance b_distance .nil passL (pa_cons (pv 1) (pa_cons (pv 3) pa_nil))) (pe_call G_distance (hr.mono (by decide)) (by rfl) g_distance kp_distance b_distance .nil passL (pa_cons (pv 3) (pa_cons (pv 2) pa_nil)))) (nomark _))
     (pss_one (ps_ret pe_bl)) pss_nil)
     (pss_cons (ps_if (pt_not (pt_chain o_le o_le (pe_callB c_abs (by rfl) T.abs (by decide +kernel) (pa_cons (pe_op o_sub (pe_callB c_lenS (by rfl) T.len PySem.boot_len (pa_cons (pv 1) pa_nil)) (pe_callB c_lenS (by rfl) T.len PySem.boot_len (pa_cons (pv 2) pa_nil))) pa_nil)) (pv 4) (pe_callB (c_max2 rfl) (by rfl) T.max (by decide +kernel) (pa_cons (pe_callB c_lenS (by rfl) T.len PySem.boot_len (pa_cons (pv 1) pa_nil)) (pa_cons (pe_callB c_lenS (by rfl) T.len PySem.boot_len (pa_cons (pv 2) pa_nil)) pa_nil)))))
     (pss_one (ps_ret pe_bl)) pss_nil)
     (pss_cons (ps_if (pt_cmpR o_gt (pe_callB (c_max2 rfl) (by rfl) T.max (by decide +kernel) (pa_cons (pe_callB c_lenS (by rfl) T.len PySem.boot_len (pa_cons (pv 1) pa_nil)) (pa_cons (pe_callB c_lenS (by rfl) T.len PySem.boot_len (pa_cons (pv 2) pa_nil)) pa_nil))) pe_int (nomark _))
     (pss_one (ps_ret pe_bl)) pss_nil)
     (pss_cons (ps_set (i := 5) sc_law6.nd rfl (Or.inl rfl) (pe_call G_law_letter (hr.mono (by decide)) (by rfl) g_law_letter kp_law_letter b_law_letter .nil pass0 (pa_cons (pe_call G_law_at (hr.mono (by decide)) (by rfl) g_law_at kp_law_at b_law_at .nil pass0 (pa_cons (pv 0) (pa_cons pe_int pa_nil))) (pa_cons (pe_call G_law_at (hr.mono (by decide)) (by rfl) g_law_at kp_law_at b_law_at .nil pass0 (pa_cons (pv 0) (pa_cons pe_int pa_nil))) pa_nil))))
     (pss_one (ps_ret (pe_and (pe_cmpR o_eq (pe_call G_distance (hr.mono (by decide)) (by rfl) g_distance kp_distance b_distance .nil passL (pa_cons (pe_op o_cat (pv 1) (pv 5)) (pa_cons (pe_op o_cat (pv 2) (pv 5)) pa_nil))) (pv 4) (nomark _)) (pe_one (pe_cmpR o_eq (pe_call G_distance (hr.mono (by decide)) (by rfl) g_distance kp_distance b_distance .nil passL (pa_cons (pe_op o_cat (pv 5) (pv 1)) (pa_cons (pe_op o_cat (pv 5) (pv 2)) pa_nil))) (pv 4) (nomark _))))))))))))))))
end
theorem all_mk {l : PySem.W.OpenLaw} {w : World} {K : PySem.W.Frag} {h : Heap} {mg : Str → Option Value} {fa : Addr} (X : K.In h) (G : h.Ns mainGlobals mg) (hfa : mg "law" = some (.ref fa))
    {f_law_at : Addr} {od_law_at an_law_at : Option Addr} {sl_law_at : Array (Option Value)} {oc_law_at kV_law_at dc_law_at pm_law_at cd_law_at ct_law_at : Value}
    {f_law_letter : Addr} {od_law_letter an_law_letter : Option Addr} {sl_law_letter : Array (Option Value)} {oc_law_letter kV_law_letter dc_law_letter pm_law_letter cd_law_letter ct_law_letter : Value}
    {f_law_bent : Addr} {od_law_bent an_law_bent : Option Addr} {sl_law_bent : Array (Option Value)} {oc_law_bent kV_law_bent dc_law_bent pm_law_bent cd_law_bent ct_law_bent : Value}
    {f_law_word : Addr} {od_law_word an_law_word : Option Addr} {sl_law_word : Array (Option Value)} {oc_law_word kV_law_word dc_law_word pm_law_word cd_law_word ct_law_word : Value}
    {f_law_two : Addr} {od_law_two an_law_two : Option Addr} {sl_law_two : Array (Option Value)} {oc_law_two kV_law_two dc_law_two pm_law_two cd_law_two ct_law_two : Value}
    {f_law_whole : Addr} {od_law_whole an_law_whole : Option Addr} {sl_law_whole : Array (Option Value)} {oc_law_whole kV_law_whole dc_law_whole pm_law_whole cd_law_whole ct_law_whole : Value}
    {f_is_word : Addr} {od_is_word an_is_word : Option Addr} {sl_is_word : Array (Option Value)} {oc_is_word kV_is_word dc_is_word pm_is_word cd_is_word ct_is_word : Value}
    {f_need_word : Addr} {od_need_word an_need_word : Option Addr} {sl_need_word : Array (Option Value)} {oc_need_word kV_need_word dc_need_word pm_need_word cd_need_word ct_need_word : Value}
    {f_first_row : Addr} {od_first_row an_first_row : Option Addr} {sl_first_row : Array (Option Value)} {oc_first_row kV_first_row dc_first_row pm_first_row cd_first_row ct_first_row : Value}
    {f_next_row : Addr} {od_next_row an_next_row : Option Addr} {sl_next_row : Array (Option Value)} {oc_next_row kV_next_row dc_next_row pm_next_row cd_next_row ct_next_row : Value}
    {f_rows_of : Addr} {od_rows_of an_rows_of : Option Addr} {sl_rows_of : Array (Option Value)} {oc_rows_of kV_rows_of dc_rows_of pm_rows_of cd_rows_of ct_rows_of : Value}
    {f_table : Addr} {od_table an_table : Option Addr} {sl_table : Array (Option Value)} {oc_table kV_table dc_table pm_table cd_table ct_table : Value}
    {f_distance : Addr} {od_distance an_distance : Option Addr} {sl_distance : Array (Option Value)} {oc_distance kV_distance dc_distance pm_distance cd_distance ct_distance : Value}
    {f_law6 : Addr} {od_law6 an_law6 : Option Addr} {sl_law6 : Array (Option Value)} {oc_law6 kV_law6 dc_law6 pm_law6 cd_law6 ct_law6 : Value}
    {t_LETTERS : Tok}
    {t_MOST_LETTERS : Tok}
    {C_BadWord : Addr}
    (a_law_at : PySem.W.nsIn K mainGlobals "_law_at" = some (some (.ref f_law_at))) (l_law_at : K.lookup f_law_at = some ⟨oc_law_at, od_law_at, .func (PySem.W.fnOf "_law_at" "_law_at" (defArgs s_law_at) (defBody s_law_at) (defScope s_law_at) .none kV_law_at dc_law_at pm_law_at an_law_at cd_law_at ct_law_at), sl_law_at⟩) (e_law_at : PySem.W.codeIn K cd_law_at "_law_at" = true) (k_law_at : PySem.W.keepIn K (.ref f_law_at) = true)
    (a_law_letter : PySem.W.nsIn K mainGlobals "_law_letter" = some (some (.ref f_law_letter))) (l_law_letter : K.lookup f_law_letter = some ⟨oc_law_letter, od_law_letter, .func (PySem.W.fnOf "_law_letter" "_law_letter" (defArgs s_law_letter) (defBody s_law_letter) (defScope s_law_letter) .none kV_law_letter dc_law_letter pm_law_letter an_law_letter cd_law_letter ct_law_letter), sl_law_letter⟩) (e_law_letter : PySem.W.codeIn K cd_law_letter "_law_letter" = true) (k_law_letter : PySem.W.keepIn K (.ref f_law_letter) = true)
    (a_law_bent : PySem.W.nsIn K mainGlobals "_law_bent" = some (some (.ref f_law_bent))) (l_law_bent : K.lookup f_law_bent = some ⟨oc_law_bent, od_law_bent, .func (PySem.W.fnOf "_law_bent" "_law_bent" (defArgs s_law_bent) (defBody s_law_bent) (defScope s_law_bent) .none kV_law_bent dc_law_bent pm_law_bent an_law_bent cd_law_bent ct_law_bent), sl_law_bent⟩) (e_law_bent : PySem.W.codeIn K cd_law_bent "_law_bent" = true) (k_law_bent : PySem.W.keepIn K (.ref f_law_bent) = true)
    (a_law_word : PySem.W.nsIn K mainGlobals "_law_word" = some (some (.ref f_law_word))) (l_law_word : K.lookup f_law_word = some ⟨oc_law_word, od_law_word, .func (PySem.W.fnOf "_law_word" "_law_word" (defArgs s_law_word) (defBody s_law_word) (defScope s_law_word) .none kV_law_word dc_law_word pm_law_word an_law_word cd_law_word ct_law_word), sl_law_word⟩) (e_law_word : PySem.W.codeIn K cd_law_word "_law_word" = true) (k_law_word : PySem.W.keepIn K (.ref f_law_word) = true)
    (a_law_two : PySem.W.nsIn K mainGlobals "_law_two" = some (some (.ref f_law_two))) (l_law_two : K.lookup f_law_two = some ⟨oc_law_two, od_law_two, .func (PySem.W.fnOf "_law_two" "_law_two" (defArgs s_law_two) (defBody s_law_two) (defScope s_law_two) .none kV_law_two dc_law_two pm_law_two an_law_two cd_law_two ct_law_two), sl_law_two⟩) (e_law_two : PySem.W.codeIn K cd_law_two "_law_two" = true) (k_law_two : PySem.W.keepIn K (.ref f_law_two) = true)
    (a_law_whole : PySem.W.nsIn K mainGlobals "_law_whole" = some (some (.ref f_law_whole))) (l_law_whole : K.lookup f_law_whole = some ⟨oc_law_whole, od_law_whole, .func (PySem.W.fnOf "_law_whole" "_law_whole" (defArgs s_law_whole) (defBody s_law_whole) (defScope s_law_whole) .none kV_law_whole dc_law_whole pm_law_whole an_law_whole cd_law_whole ct_law_whole), sl_law_whole⟩) (e_law_whole : PySem.W.codeIn K cd_law_whole "_law_whole" = true) (k_law_whole : PySem.W.keepIn K (.ref f_law_whole) = true)
    (a_is_word : PySem.W.nsIn K mainGlobals "is_word" = some (some (.ref f_is_word))) (l_is_word : K.lookup f_is_word = some ⟨oc_is_word, od_is_word, .func (PySem.W.fnOf "is_word" "is_word" (defArgs s_is_word) (defBody s_is_word) (defScope s_is_word) .none kV_is_word dc_is_word pm_is_word an_is_word cd_is_word ct_is_word), sl_is_word⟩) (e_is_word : PySem.W.codeIn K cd_is_word "is_word" = true) (k_is_word : PySem.W.keepIn K (.ref f_is_word) = true)
    (a_need_word : PySem.W.nsIn K mainGlobals "need_word" = some (some (.ref f_need_word))) (l_need_word : K.lookup f_need_word = some ⟨oc_need_word, od_need_word, .func (PySem.W.fnOf "need_word" "need_word" (defArgs s_need_word) (defBody s_need_word) (defScope s_need_word) .none kV_need_word dc_need_word pm_need_word an_need_word cd_need_word ct_need_word), sl_need_word⟩) (e_need_word : PySem.W.codeIn K cd_need_word "need_word" = true) (k_need_word : PySem.W.keepIn K (.ref f_need_word) = true)
    (a_first_row : PySem.W.nsIn K mainGlobals "first_row" = some (some (.ref f_first_row))) (l_first_row : K.lookup f_first_row = some ⟨oc_first_row, od_first_row, .func (PySem.W.fnOf "first_row" "first_row" (defArgs s_first_row) (defBody s_first_row) (defScope s_first_row) .none kV_first_row dc_first_row pm_first_row an_first_row cd_first_row ct_first_row), sl_first_row⟩) (e_first_row : PySem.W.codeIn K cd_first_row "first_row" = true) (k_first_row : PySem.W.keepIn K (.ref f_first_row) = true)
    (a_next_row : PySem.W.nsIn K mainGlobals "next_row" = some (some (.ref f_next_row))) (l_next_row : K.lookup f_next_row = some ⟨oc_next_row, od_next_row, .func (PySem.W.fnOf "next_row" "next_row" (defArgs s_next_row) (defBody s_next_row) (defScope s_next_row) .none kV_next_row dc_next_row pm_next_row an_next_row cd_next_row ct_next_row), sl_next_row⟩) (e_next_row : PySem.W.codeIn K cd_next_row "next_row" = true) (k_next_row : PySem.W.keepIn K (.ref f_next_row) = true)
    (a_rows_of : PySem.W.nsIn K mainGlobals "rows_of" = some (some (.ref f_rows_of))) (l_rows_of : K.lookup f_rows_of = some ⟨oc_rows_of, od_rows_of, .func (PySem.W.fnOf "rows_of" "rows_of" (defArgs s_rows_of) (defBody s_rows_of) (defScope s_rows_of) .none kV_rows_of dc_rows_of pm_rows_of an_rows_of cd_rows_of ct_rows_of), sl_rows_of⟩) (e_rows_of : PySem.W.codeIn K cd_rows_of "rows_of" = true) (k_rows_of : PySem.W.keepIn K (.ref f_rows_of) = true)
    (a_table : PySem.W.nsIn K mainGlobals "table" = some (some (.ref f_table))) (l_table : K.lookup f_table = some ⟨oc_table, od_table, .func (PySem.W.fnOf "table" "table" (defArgs s_table) (defBody s_table) (defScope s_table) .none kV_table dc_table pm_table an_table cd_table ct_table), sl_table⟩) (e_table : PySem.W.codeIn K cd_table "table" = true) (k_table : PySem.W.keepIn K (.ref f_table) = true)
    (a_distance : PySem.W.nsIn K mainGlobals "distance" = some (some (.ref f_distance))) (l_distance : K.lookup f_distance = some ⟨oc_distance, od_distance, .func (PySem.W.fnOf "distance" "distance" (defArgs s_distance) (defBody s_distance) (defScope s_distance) .none kV_distance dc_distance pm_distance an_distance cd_distance ct_distance), sl_distance⟩) (e_distance : PySem.W.codeIn K cd_distance "distance" = true) (k_distance : PySem.W.keepIn K (.ref f_distance) = true)
    (a_law6 : PySem.W.nsIn K mainGlobals "law" = some (some (.ref f_law6))) (l_law6 : K.lookup f_law6 = some ⟨oc_law6, od_law6, .func (PySem.W.fnOf "law" "law" (defArgs s_law6) (defBody s_law6) (defScope s_law6) .none kV_law6 dc_law6 pm_law6 an_law6 cd_law6 ct_law6), sl_law6⟩) (e_law6 : PySem.W.codeIn K cd_law6 "law" = true) (k_law6 : PySem.W.keepIn K (.ref f_law6) = true)
    (z_abs : PySem.W.nsIn K mainGlobals "abs" = some none)
    (z_bool : PySem.W.nsIn K mainGlobals "bool" = some none)
    (z_int : PySem.W.nsIn K mainGlobals "int" = some none)
    (z_isinstance : PySem.W.nsIn K mainGlobals "isinstance" = some none)
    (z_len : PySem.W.nsIn K mainGlobals "len" = some none)
    (z_list : PySem.W.nsIn K mainGlobals "list" = some none)
    (z_max : PySem.W.nsIn K mainGlobals "max" = some none)
    (z_min : PySem.W.nsIn K mainGlobals "min" = some none)
    (z_range : PySem.W.nsIn K mainGlobals "range" = some none)
    (z_str : PySem.W.nsIn K mainGlobals "str" = some none)
    (v_LETTERS : PySem.W.nsIn K mainGlobals "LETTERS" = some (some (.str "abcdefghijklmnopqrstuvwxyz" t_LETTERS)))
    (v_MOST_LETTERS : PySem.W.nsIn K mainGlobals "MOST_LETTERS" = some (some (.int 24 t_MOST_LETTERS)))
    (y_BadWord : PySem.W.nsIn K mainGlobals "BadWord" = some (some (.ref C_BadWord)))
    (x_BadWord : PySem.W.excIn K C_BadWord [.type "ValueError", .type "Exception", .type "BaseException", .type "object"] "ValueError.__new__" = true) (k_BadWord : PySem.W.keepIn K (.ref C_BadWord) = true) (b_BadWord : PySem.W.subIn K (.ref C_BadWord) (.type "BaseException") = some true) (t_BadWord : PySem.W.typeIn K (.ref C_BadWord) = some (.type "type"))
    : ∃ fd : FuncData, (∀ (s : Shared) (v : Value), BindsTo s fd ⟨[v], []⟩ [("_law_script", v)]) ∧ ∀ base : Heap, K.In base → base.Ns mainGlobals mg → FnOk l.prog w K mg base CX0 5 fa fd ["_law_script"] (sp_law6 K) := by
  have e := hfa.symm.trans (PySem.W.mg_of X G a_law6)
  cases e
  have T : Txt K mg C_BadWord := ⟨PySem.W.mg_none_of X G z_abs, PySem.W.mg_none_of X G z_bool, PySem.W.mg_none_of X G z_int, PySem.W.mg_none_of X G z_isinstance, PySem.W.mg_none_of X G z_len, PySem.W.mg_none_of X G z_list, PySem.W.mg_none_of X G z_max, PySem.W.mg_none_of X G z_min, PySem.W.mg_none_of X G z_range, PySem.W.mg_none_of X G z_str, ⟨t_LETTERS, (PySem.W.mg_of X G v_LETTERS).trans (congrArg (fun z => some (Value.str z t_LETTERS)) (by decide +kernel))⟩, ⟨t_MOST_LETTERS, PySem.W.mg_of X G v_MOST_LETTERS⟩, PySem.W.mg_of X G y_BadWord, x_BadWord, k_BadWord, b_BadWord, t_BadWord⟩
  have F_law_at := fun_mk (st := s_law_at) l_law_at e_law_at k_law_at
  have b_law_at := F_law_at.binds (ps := ["_law_script", "_law_k"]) fun _ _ _ _ _ _ us hl => match us, hl with | [_, _], _ => rfl
  have F_law_letter := fun_mk (st := s_law_letter) l_law_letter e_law_letter k_law_letter
  have b_law_letter := F_law_letter.binds (ps := ["_law_mode", "_law_number"]) fun _ _ _ _ _ _ us hl => match us, hl with | [_, _], _ => rfl
  have F_law_bent := fun_mk (st := s_law_bent) l_law_bent e_law_bent k_law_bent
  have b_law_bent := F_law_bent.binds (ps := ["_law_mode", "_law_word_here", "_law_cell"]) fun _ _ _ _ _ _ us hl => match us, hl with | [_, _, _], _ => rfl
  have F_law_word := fun_mk (st := s_law_word) l_law_word e_law_word k_law_word
  have b_law_word := F_law_word.binds (ps := ["_law_mode", "_law_cell", "_law_most"]) fun _ _ _ _ _ _ us hl => match us, hl with | [_, _, _], _ => rfl
  have F_law_two := fun_mk (st := s_law_two) l_law_two e_law_two k_law_two
  have b_law_two := F_law_two.binds (ps := ["_law_script"]) fun _ _ _ _ _ _ us hl => match us, hl with | [_], _ => rfl
  have F_law_whole := fun_mk (st := s_law_whole) l_law_whole e_law_whole k_law_whole
  have b_law_whole := F_law_whole.binds (ps := ["_law_thing"]) fun _ _ _ _ _ _ us hl => match us, hl with | [_], _ => rfl
  have F_is_word := fun_mk (st := s_is_word) l_is_word e_is_word k_is_word
  have b_is_word := F_is_word.binds (ps := ["thing"]) fun _ _ _ _ _ _ us hl => match us, hl with | [_], _ => rfl
  have F_need_word := fun_mk (st := s_need_word) l_need_word e_need_word k_need_word
  have b_need_word := F_need_word.binds (ps := ["thing"]) fun _ _ _ _ _ _ us hl => match us, hl with | [_], _ => rfl
  have F_first_row := fun_mk (st := s_first_row) l_first_row e_first_row k_first_row
  have b_first_row := F_first_row.binds (ps := ["word"]) fun _ _ _ _ _ _ us hl => match us, hl with | [_], _ => rfl
  have F_next_row := fun_mk (st := s_next_row) l_next_row e_next_row k_next_row
  have b_next_row := F_next_row.binds (ps := ["row", "letter", "word"]) fun _ _ _ _ _ _ us hl => match us, hl with | [_, _, _], _ => rfl
  have F_rows_of := fun_mk (st := s_rows_of) l_rows_of e_rows_of k_rows_of
  have b_rows_of := F_rows_of.binds (ps := ["one", "other"]) fun _ _ _ _ _ _ us hl => match us, hl with | [_, _], _ => rfl
  have F_table := fun_mk (st := s_table) l_table e_table k_table
  have b_table := F_table.binds (ps := ["one", "other"]) fun _ _ _ _ _ _ us hl => match us, hl with | [_, _], _ => rfl
  have F_distance := fun_mk (st := s_distance) l_distance e_distance k_distance
  have b_distance := F_distance.binds (ps := ["one", "other"]) fun _ _ _ _ _ _ us hl => match us, hl with | [_, _], _ => rfl
  have F_law6 := fun_mk (st := s_law6) l_law6 e_law6 k_law6
  have b_law6 := F_law6.binds (ps := ["_law_script"]) fun _ _ _ _ _ _ us hl => match us, hl with | [_], _ => rfl
  refine ⟨PySem.W.fnOf "law" "law" (defArgs s_law6) (defBody s_law6) (defScope s_law6) .none kV_law6 dc_law6 pm_law6 an_law6 cd_law6 ct_law6, fun s v => .of_eq rfl, fun base _ _ => ?_⟩
  have C_law_at : Cal l.prog w K mg base CX0 1 "_law_at" ["_law_script", "_law_k"] (sp_law_at K) := ⟨f_law_at, _, ok_law_at F_law_at T , PySem.W.mg_of X G a_law_at, k_law_at, b_law_at⟩
  have C_law_letter : Cal l.prog w K mg base CX0 1 "_law_letter" ["_law_mode", "_law_number"] (sp_law_letter K) := ⟨f_law_letter, _, ok_law_letter F_law_letter T , PySem.W.mg_of X G a_law_letter, k_law_letter, b_law_letter⟩
  have C_law_bent : Cal l.prog w K mg base CX0 2 "_law_bent" ["_law_mode", "_law_word_here", "_law_cell"] (sp_law_bent K) := ⟨f_law_bent, _, ok_law_bent F_law_bent T C_law_letter, PySem.W.mg_of X G a_law_bent, k_law_bent, b_law_bent⟩
  have C_law_word : Cal l.prog w K mg base CX0 2 "_law_word" ["_law_mode", "_law_cell", "_law_most"] (sp_law_word K) := ⟨f_law_word, _, ok_law_word F_law_word T C_law_letter, PySem.W.mg_of X G a_law_word, k_law_word, b_law_word⟩
  have C_law_two : Cal l.prog w K mg base CX0 3 "_law_two" ["_law_script"] (sp_law_two K) := ⟨f_law_two, _, ok_law_two F_law_two T C_law_at C_law_bent C_law_word, PySem.W.mg_of X G a_law_two, k_law_two, b_law_two⟩
  have C_law_whole : Cal l.prog w K mg base CX0 1 "_law_whole" ["_law_thing"] (sp_law_whole K) := ⟨f_law_whole, _, ok_law_whole F_law_whole T , PySem.W.mg_of X G a_law_whole, k_law_whole, b_law_whole⟩
  have C_is_word : Cal l.prog w K mg base CX0 1 "is_word" ["thing"] (sp_is_word K) := ⟨f_is_word, _, ok_is_word F_is_word T , PySem.W.mg_of X G a_is_word, k_is_word, b_is_word⟩
  have C_need_word : Cal l.prog w K mg base (L2.CX l.prog w) 2 "need_word" ["thing"] (sp_need_word K C_BadWord) := ⟨f_need_word, _, ok_need_word F_need_word T C_is_word, PySem.W.mg_of X G a_need_word, k_need_word, b_need_word⟩
  have C_first_row : Cal l.prog w K mg base CX0 1 "first_row" ["word"] (sp_first_row K) := ⟨f_first_row, _, ok_first_row F_first_row T , PySem.W.mg_of X G a_first_row, k_first_row, b_first_row⟩
  have C_next_row : Cal l.prog w K mg base CX0 1 "next_row" ["row", "letter", "word"] (sp_next_row K) := ⟨f_next_row, _, ok_next_row F_next_row T , PySem.W.mg_of X G a_next_row, k_next_row, b_next_row⟩
  have C_rows_of : Cal l.prog w K mg base CX0 2 "rows_of" ["one", "other"] (sp_rows_of K) := ⟨f_rows_of, _, ok_rows_of F_rows_of T C_first_row C_next_row, PySem.W.mg_of X G a_rows_of, k_rows_of, b_rows_of⟩
  have C_table : Cal l.prog w K mg base (L2.CX l.prog w) 3 "table" ["one", "other"] (sp_table K C_BadWord) := ⟨f_table, _, ok_table F_table T C_need_word C_rows_of, PySem.W.mg_of X G a_table, k_table, b_table⟩
  have C_distance : Cal l.prog w K mg base (L2.CX l.prog w) 4 "distance" ["one", "other"] (sp_distance K C_BadWord) := ⟨f_distance, _, ok_distance F_distance T C_table, PySem.W.mg_of X G a_distance, k_distance, b_distance⟩
  exact ok_law6 F_law6 T C_law_at C_law_bent C_law_letter C_law_two C_law_whole C_law_word C_distance
end Row6
open PySem PySem.W PyProof.Rows
set_option maxHeartbeats 0 in
theorem PySem.Challenge.cw_nearword_k06_distances_of_three_holds : PySem.Challenge.rw_nearword_k06_distances_of_three.Holds := by
  w_on; o_law; k_head; (case hw => w_witness2)
  k_fill
  refine L2.walk_of (l := PySem.Challenge.rw_nearword_k06_distances_of_three) (n := 63) (k := 5) (x := "_law_script") (CX := fun _ => L2.CX0) (sp := fun w => Nw.sp_law6 _) rfl (by decide) rfl ⟨rfl, by decide, by decide⟩ (fun w h Y => PySem.W.kIn_of Y) ?F (fun _ _ a ns hl _ hS => ⟨a, ns, rfl, hS, hl, fun _ => rfl⟩) (fun _ _ _ _ _ h => h)
  case F =>
    intro w mg fa h KX G hmg
    refine' Row6.all_mk KX G hmg ?a_law_at ?l_law_at ?e_law_at ?k_law_at ?a_law_letter ?l_law_letter ?e_law_letter ?k_law_letter ?a_law_bent ?l_law_bent ?e_law_bent ?k_law_bent ?a_law_word ?l_law_word ?e_law_word ?k_law_word ?a_law_two ?l_law_two ?e_law_two ?k_law_two ?a_law_whole ?l_law_whole ?e_law_whole ?k_law_whole ?a_is_word ?l_is_word ?e_is_word ?k_is_word ?a_need_word ?l_need_word ?e_need_word ?k_need_word ?a_first_row ?l_first_row ?e_first_row ?k_first_row ?a_next_row ?l_next_row ?e_next_row ?k_next_row ?a_rows_of ?l_rows_of ?e_rows_of ?k_rows_of ?a_table ?l_table ?e_table ?k_table ?a_distance ?l_distance ?e_distance ?k_distance ?a_law6 ?l_law6 ?e_law6 ?k_law6 ?z_abs ?z_bool ?z_int ?z_isinstance ?z_len ?z_list ?z_max ?z_min ?z_range ?z_str ?v_LETTERS ?v_MOST_LETTERS ?y_BadWord ?x_BadWord ?k_BadWord ?b_BadWord ?t_BadWord
    (case a_law_at => k_is)
    (case l_law_at => k_is)
    (case e_law_at => k_is)
    (case k_law_at => k_is)
    (case a_law_letter => k_is)
    (case l_law_letter => k_is)
    (case e_law_letter => k_is)
    (case k_law_letter => k_is)
    (case a_law_bent => k_is)
    (case l_law_bent => k_is)
    (case e_law_bent => k_is)
    (case k_law_bent => k_is)
    (case a_law_word => k_is)
    (case l_law_word => k_is)
    (case e_law_word => k_is)
    (case k_law_word => k_is)
    (case a_law_two => k_is)
    (case l_law_two => k_is)
    (case e_law_two => k_is)
    (case k_law_two => k_is)
    (case a_law_whole => k_is)
    (case l_law_whole => k_is)
    (case e_law_whole => k_is)
    (case k_law_whole => k_is)
    (case a_is_word => k_is)
    (case l_is_word => k_is)
    (case e_is_word => k_is)
    (case k_is_word => k_is)
    (case a_need_word => k_is)
    (case l_need_word => k_is)
    (case e_need_word => k_is)
    (case k_need_word => k_is)
    (case a_first_row => k_is)
    (case l_first_row => k_is)
    (case e_first_row => k_is)
    (case k_first_row => k_is)
    (case a_next_row => k_is)
    (case l_next_row => k_is)
    (case e_next_row => k_is)
    (case k_next_row => k_is)
    (case a_rows_of => k_is)
    (case l_rows_of => k_is)
    (case e_rows_of => k_is)
    (case k_rows_of => k_is)
    (case a_table => k_is)
    (case l_table => k_is)
    (case e_table => k_is)
    (case k_table => k_is)
    (case a_distance => k_is)
    (case l_distance => k_is)
    (case e_distance => k_is)
    (case k_distance => k_is)
    (case a_law6 => k_is)
    (case l_law6 => k_is)
    (case e_law6 => k_is)
    (case k_law6 => k_is)
    (case z_abs => k_is)
    (case z_bool => k_is)
    (case z_int => k_is)
    (case z_isinstance => k_is)
    (case z_len => k_is)
    (case z_list => k_is)
    (case z_max => k_is)
    (case z_min => k_is)
    (case z_range => k_is)
    (case z_str => k_is)
    (case v_LETTERS => k_is)
    (case v_MOST_LETTERS => k_is)
    (case y_BadWord => k_is)
    (case x_BadWord => first | k_exc | k_is)
    (case k_BadWord => k_is)
    (case b_BadWord => k_is)
    (case t_BadWord => k_is)

