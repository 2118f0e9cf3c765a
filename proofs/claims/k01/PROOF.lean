import PyProof.Rows.All
import Wide.All
import OpenK.AllK
import Wide.FinOn
import HandS.ForMost
import HandS.Evl
import HandS.IsInst
import HandS.WordsExc
import KE.Datum
import PySem.Challenge.RW_nearword_k01_what_is_a_word
set_option Elab.async false
set_option linter.all false
set_option maxRecDepth 100000
set_option Elab.async false
set_option linter.all false
set_option maxRecDepth 100000
/-! Nw.Base: texts as lists of codes, named operations, and what expressions evaluate to. -/
namespace Nw
open PySem L2 Evl

/-! ### texts as lists of codes -/
abbrev tx (w : List Nat) : V := .str ⟨w.toArray⟩
theorem tx_len (w : List Nat) : (⟨w.toArray⟩ : Str).length = w.length := by simp [Str.length]
theorem tx_app (a b : List Nat) : (⟨a.toArray⟩ : Str) ++ ⟨b.toArray⟩ = ⟨(a ++ b).toArray⟩ := TL.ext_tl (by rw [TL.tl_append])
theorem tx_inj {a b : List Nat} : (tx a = tx b) ↔ a = b := by
  constructor
  · intro h
    have h1 : (⟨a.toArray⟩ : Str) = ⟨b.toArray⟩ := V.str.inj h
    have h2 : a.toArray = b.toArray := congrArg Str.cps h1
    exact List.toArray_inj h2
  · intro h; rw [h]
theorem line1 {n : Nat} (h : n ≤ 100000) : n ≤ sizeLine := Evl.sz_of h

/-- the letters a to z -/
def abc : List Nat := (List.range 26).map (· + 97)
def Low (w : List Nat) : Prop := ∀ c ∈ w, 97 ≤ c ∧ c < 123
instance (w : List Nat) : Decidable (Low w) := by unfold Low; infer_instance
theorem mem_abc {c : Nat} : c ∈ abc ↔ 97 ≤ c ∧ c < 123 := by
  unfold abc
  rw [List.mem_map]
  constructor
  · rintro ⟨a, ha, rfl⟩
    rw [List.mem_range] at ha
    omega
  · intro h
    exact ⟨c - 97, List.mem_range.mpr (by omega), by omega⟩
theorem abc_at {i : Nat} (h : i < 26) : abc[i]? = some (i + 97) := by
  unfold abc
  rw [List.getElem?_map, List.getElem?_range h]
  rfl
theorem low_nil : Low [] := fun c h => by cases h
theorem low_app {a b : List Nat} (ha : Low a) (hb : Low b) : Low (a ++ b) := fun c h => (List.mem_append.mp h).elim (ha c) (hb c)
theorem low_take {a : List Nat} (n : Nat) (ha : Low a) : Low (a.take n) := fun c h => ha c (List.mem_of_mem_take h)
theorem low_drop {a : List Nat} (n : Nat) (ha : Low a) : Low (a.drop n) := fun c h => ha c (List.mem_of_mem_drop h)
theorem low_one {c : Nat} (h : 97 ≤ c ∧ c < 123) : Low [c] := fun d hd => by
  rw [List.mem_singleton] at hd
  subst hd
  exact h

/-! ### operations by name -/
def nAdd : R2 := rI0 fun i j => .int (i + j)
def nSub : R2 := rI0 fun i j => .int (i - j)
def nMul : R2 := rI CMul fun i j => .int (i * j)
def nDiv : R2 := rI CDiv fun i j => .int (i / j)
def nMod : R2 := rI (fun _ j => 0 < j) fun i j => .int (i % j)
def nCat : R2 := fun x y H Q => ∃ i j, x = .str i ∧ y = .str j ∧ i.length + j.length ≤ sizeLine ∧ Q (.str (i ++ j)) H
def nLt : R2 := rI0 fun i j => .bl (decide (i < j))
def nLe : R2 := rI0 fun i j => .bl (decide (i ≤ j))
def nGt : R2 := rI0 fun i j => .bl (decide (j < i))
def nGe : R2 := rI0 fun i j => .bl (decide (j ≤ i))
def nEq : R2 := rEq
def nNe : R2 := rNe
def nIsN : R2 := fun x y H Q => y = .non ∧ Q (.bl (decide (x = .non))) H
def nNotN : R2 := fun x y H Q => y = .non ∧ Q (.bl (!decide (x = .non))) H
def nInS : R2 := fun x y H Q => ∃ (c : Nat) (z : Str), x = .str ⟨#[c]⟩ ∧ y = .str z ∧ Q (.bl (decide (c ∈ z.cps.toList))) H
def nNotInS : R2 := fun x y H Q => ∃ (c : Nat) (z : Str), x = .str ⟨#[c]⟩ ∧ y = .str z ∧ Q (.bl (!decide (c ∈ z.cps.toList))) H
def nInL (K : PySem.W.Frag) : R2 := rIn K false
def nNotInL (K : PySem.W.Frag) : R2 := rIn K true
def nIxL (K : PySem.W.Frag) : R2 := rIxL K
def nIxT (K : PySem.W.Frag) : R2 := rIxT K
def nIxS : R2 := rIxS
def nSlS : V → Option Int → Option Int → Hp → VK → Prop := rSlS
def nSlL (K : PySem.W.Frag) : V → Option Int → Option Int → Hp → VK → Prop := rSlL K
def nLenS : List V → Hp → VK → Prop := fun xs H Q => ∃ z, xs = [.str z] ∧ z.length ≤ sizeLine ∧ Q (.int z.length) H
def nLenL (K : PySem.W.Frag) : List V → Hp → VK → Prop := fun xs H Q => ∃ p ys, xs = [.ref p] ∧ (SqL K H p ys ∨ SqT K H p ys) ∧ Q (.int ys.length) H
def nLenA (K : PySem.W.Frag) : List V → Hp → VK → Prop := fun xs H Q => ∃ x n, xs = [x] ∧ LenV K x H n ∧ Q (.int n) H
def nLenD : List V → Hp → VK → Prop := fun xs H Q => ∃ a kvs, xs = [V.ref a] ∧ H a = some (.dK kvs) ∧ Q (.int kvs.length) H
def nIsi (K : PySem.W.Frag) : List V → Hp → VK → Prop := rIsi K
def nLcat : R2 := rCat
section
variable {X : Cx}
theorem o_add : OpR X (binaryOp .Add) nAdd := op_add
theorem o_sub : OpR X (binaryOp .Sub) nSub := op_sub
theorem o_mul : OpR X (binaryOp .Mult) nMul := op_mul
theorem o_div : OpR X (binaryOp .FloorDiv) nDiv := op_fdiv
theorem o_mod : OpR X (binaryOp .Mod) nMod := op_mod
theorem o_cat : OpR X (binaryOp .Add) nCat := op_add_str
theorem o_lcat : OpR X (binaryOp .Add) nLcat := op_cat
theorem o_lt : OpR X (compareOp .Lt) nLt := op_lt
theorem o_le : OpR X (compareOp .LtE) nLe := op_le
theorem o_gt : OpR X (compareOp .Gt) nGt := op_gt
theorem o_ge : OpR X (compareOp .GtE) nGe := op_ge
theorem o_eq : OpR X (compareOp .Eq) nEq := op_eq
theorem o_ne : OpR X (compareOp .NotEq) nNe := op_ne
theorem o_isN : OpR X (compareOp .Is) nIsN := op_isN
theorem o_notN : OpR X (compareOp .IsNot) nNotN := op_notN
theorem o_inS : OpR X (compareOp .In) nInS := op_in_sign
theorem o_notInS : OpR X (compareOp .NotIn) nNotInS := op_notIn_sign
theorem o_inL : OpR X (compareOp .In) (nInL X.K) := op_in_seq
theorem o_notInL : OpR X (compareOp .NotIn) (nNotInL X.K) := op_notIn_seq
theorem x_list : IxR X (nIxL X.K) := ix_list
theorem x_tup : IxR X (nIxT X.K) := ix_tup
theorem x_str : IxR X nIxS := ix_str
theorem l_str : SlR X nSlS := sl_str
theorem l_list : SlR X (nSlL X.K) := sl_list
theorem c_lenS : CallR X (.builtin "len") nLenS := call_len_str
theorem c_lenL : CallR X (.builtin "len") (nLenL X.K) := call_len_seq
theorem c_lenA : CallR X (.builtin "len") (nLenA X.K) := call_len
theorem c_lenD : CallR X (.builtin "len") nLenD := call_lenD
theorem c_isi : CallR X (.builtin "isinstance") (nIsi X.K) := call_isi
theorem pe_tx {x : Str} {w : List Nat} {j : Nat} {pos : Pos} (h : x = ⟨w.toArray⟩) : PE X (.Constant (.str x) j pos) (tC (tx w)) := by
  subst h
  exact pe_str
end

/-! ### what evaluates to what -/
section
variable {K : PySem.W.Frag} {σ : L2.St} {H H' : Hp} {ta tb te tx' : TE} {t u : TT} {x y z v : V} {r : R2} {i j : Int} {a b : List Nat}
/-- a value of which P holds -/
def EvP (te : TE) (σ : L2.St) (H : Hp) (P : V → Prop) : Prop := ∀ H1, Ex H H1 → ∀ Q : VK, (∀ v H2, Ex H1 H2 → P v → Q v H2) → te σ H1 Q
theorem EvP.mono {P : V → Prop} (e : Ex H H') (h : EvP te σ H P) : EvP te σ H' P := fun H1 a Q q => h H1 (e.trans a) Q q
theorem e_add (ha : Ev ta σ H (.int i)) (hb : Ev tb σ H (.int j)) : Ev (tOp nAdd ta tb) σ H (.int (i + j)) := ev_op ha hb fun H1 e Q q => ⟨i, j, rfl, rfl, q H1 (Ex.refl H1)⟩
theorem e_sub (ha : Ev ta σ H (.int i)) (hb : Ev tb σ H (.int j)) : Ev (tOp nSub ta tb) σ H (.int (i - j)) := ev_op ha hb fun H1 e Q q => ⟨i, j, rfl, rfl, q H1 (Ex.refl H1)⟩
theorem e_mul (ha : Ev ta σ H (.int i)) (hb : Ev tb σ H (.int j)) (h : CMul i j) : Ev (tOp nMul ta tb) σ H (.int (i * j)) := ev_op ha hb fun H1 e Q q => ⟨i, j, rfl, rfl, h, q H1 (Ex.refl H1)⟩
theorem e_div (ha : Ev ta σ H (.int i)) (hb : Ev tb σ H (.int j)) (h : 0 < j ∧ j < 1073741824) : Ev (tOp nDiv ta tb) σ H (.int (i / j)) := ev_op ha hb fun H1 e Q q => ⟨i, j, rfl, rfl, h, q H1 (Ex.refl H1)⟩
theorem e_mod (ha : Ev ta σ H (.int i)) (hb : Ev tb σ H (.int j)) (h : 0 < j) : Ev (tOp nMod ta tb) σ H (.int (i % j)) := ev_op ha hb fun H1 e Q q => ⟨i, j, rfl, rfl, h, q H1 (Ex.refl H1)⟩
theorem e_cat (ha : Ev ta σ H (tx a)) (hb : Ev tb σ H (tx b)) (h : a.length + b.length ≤ 100000) : Ev (tOp nCat ta tb) σ H (tx (a ++ b)) := ev_op ha hb fun H1 e Q q =>
  ⟨_, _, rfl, rfl, by rw [tx_len, tx_len]; exact line1 h, by
    have q1 := q H1 (Ex.refl H1)
    rw [tx_app]
    exact q1⟩
theorem e_lt (ha : Ev ta σ H (.int i)) (hb : Ev tb σ H (.int j)) : Ev (tOp nLt ta tb) σ H (.bl (decide (i < j))) := ev_op ha hb fun H1 e Q q => ⟨i, j, rfl, rfl, q H1 (Ex.refl H1)⟩
theorem e_le (ha : Ev ta σ H (.int i)) (hb : Ev tb σ H (.int j)) : Ev (tOp nLe ta tb) σ H (.bl (decide (i ≤ j))) := ev_op ha hb fun H1 e Q q => ⟨i, j, rfl, rfl, q H1 (Ex.refl H1)⟩
theorem e_gt (ha : Ev ta σ H (.int i)) (hb : Ev tb σ H (.int j)) : Ev (tOp nGt ta tb) σ H (.bl (decide (j < i))) := ev_op ha hb fun H1 e Q q => ⟨i, j, rfl, rfl, q H1 (Ex.refl H1)⟩
theorem e_ge (ha : Ev ta σ H (.int i)) (hb : Ev tb σ H (.int j)) : Ev (tOp nGe ta tb) σ H (.bl (decide (j ≤ i))) := ev_op ha hb fun H1 e Q q => ⟨i, j, rfl, rfl, q H1 (Ex.refl H1)⟩
/-- == of scalars -/
inductive EqB : V → V → Bool → Prop where
  | ii {i j : Int} : EqB (.int i) (.int j) (decide (i = j))
  | ss {a b : List Nat} : EqB (tx a) (tx b) (decide (a = b))
  | bb {a b : Bool} : EqB (.bl a) (.bl b) (decide (a = b))
  | is {i : Int} {b : Str} : EqB (.int i) (.str b) false
  | si {i : Int} {b : Str} : EqB (.str b) (.int i) false
  | bs {i : Bool} {b : Str} : EqB (.bl i) (.str b) false
  | sb {i : Bool} {b : Str} : EqB (.str b) (.bl i) false
  | ns {b : Str} : EqB .non (.str b) false
  | sn {b : Str} : EqB (.str b) .non false
  | ni {b : Int} : EqB .non (.int b) false
  | in_ {b : Int} : EqB (.int b) .non false
  | nn : EqB .non .non true
theorem dec_eq {p q : Prop} [Decidable p] [Decidable q] (h : p ↔ q) : decide p = decide q := by
  by_cases hp : p
  · rw [decide_eq_true hp, decide_eq_true (h.mp hp)]
  · rw [decide_eq_false hp, decide_eq_false (fun z => hp (h.mpr z))]
theorem EqB.sc {x y : V} {b : Bool} (h : EqB x y b) : scal x y = true ∧ decide (x = y) = b := by
  cases h with
  | ii => exact ⟨rfl, dec_eq ⟨fun h => V.int.inj h, fun h => by rw [h]⟩⟩
  | ss => exact ⟨rfl, dec_eq tx_inj⟩
  | bb => exact ⟨rfl, dec_eq ⟨fun h => V.bl.inj h, fun h => by rw [h]⟩⟩
  | is => exact ⟨rfl, decide_eq_false (fun z => nomatch z)⟩
  | si => exact ⟨rfl, decide_eq_false (fun z => nomatch z)⟩
  | bs => exact ⟨rfl, decide_eq_false (fun z => nomatch z)⟩
  | sb => exact ⟨rfl, decide_eq_false (fun z => nomatch z)⟩
  | ns => exact ⟨rfl, decide_eq_false (fun z => nomatch z)⟩
  | sn => exact ⟨rfl, decide_eq_false (fun z => nomatch z)⟩
  | ni => exact ⟨rfl, decide_eq_false (fun z => nomatch z)⟩
  | in_ => exact ⟨rfl, decide_eq_false (fun z => nomatch z)⟩
  | nn => exact ⟨rfl, decide_eq_true rfl⟩
theorem e_eq {b : Bool} (ha : Ev ta σ H x) (hb : Ev tb σ H y) (h : EqB x y b) : Ev (tOp nEq ta tb) σ H (.bl b) := ev_op ha hb fun H1 e Q q => ⟨h.sc.1, by
  rw [h.sc.2]
  exact q H1 (Ex.refl H1)⟩
theorem e_ne {b : Bool} (ha : Ev ta σ H x) (hb : Ev tb σ H y) (h : EqB x y b) : Ev (tOp nNe ta tb) σ H (.bl (!b)) := ev_op ha hb fun H1 e Q q => ⟨h.sc.1, by
  rw [h.sc.2]
  exact q H1 (Ex.refl H1)⟩
theorem e_isN (ha : Ev ta σ H x) : Ev (tOp nIsN ta (tC .non)) σ H (.bl (decide (x = .non))) := ev_op ha ev_c fun H1 e Q q => ⟨rfl, q H1 (Ex.refl H1)⟩
theorem e_notN (ha : Ev ta σ H x) : Ev (tOp nNotN ta (tC .non)) σ H (.bl (!decide (x = .non))) := ev_op ha ev_c fun H1 e Q q => ⟨rfl, q H1 (Ex.refl H1)⟩
theorem e_inS {c : Nat} (ha : Ev ta σ H (tx [c])) (hb : Ev tb σ H (tx b)) : Ev (tOp nInS ta tb) σ H (.bl (decide (c ∈ b))) := ev_op ha hb fun H1 e Q q => ⟨c, _, rfl, rfl, q H1 (Ex.refl H1)⟩
theorem e_notInS {c : Nat} (ha : Ev ta σ H (tx [c])) (hb : Ev tb σ H (tx b)) : Ev (tOp nNotInS ta tb) σ H (.bl (!decide (c ∈ b))) := ev_op ha hb fun H1 e Q q => ⟨c, _, rfl, rfl, q H1 (Ex.refl H1)⟩
theorem e_lenS (ha : Ev ta σ H (tx a)) (h : a.length ≤ 100000) : Ev (tCB nLenS (tCons ta tNil)) σ H (.int (a.length : Int)) := ev_cb (ea_cons ha ea_nil) fun H1 e Q q => ⟨_, rfl, by rw [tx_len]; exact line1 h, by
  rw [tx_len]
  exact q H1 (Ex.refl H1)⟩
theorem e_lenL {p : Addr} {xs : List V} (ha : Ev ta σ H (.ref p)) (h : SqL K H p xs) : Ev (tCB (nLenL K) (tCons ta tNil)) σ H (.int (xs.length : Int)) := ev_cb (ea_cons ha ea_nil) fun H1 e Q q => ⟨p, xs, rfl, .inl (ex_l e h), q H1 (Ex.refl H1)⟩
theorem e_lenT {p : Addr} {xs : List V} (ha : Ev ta σ H (.ref p)) (h : SqT K H p xs) : Ev (tCB (nLenL K) (tCons ta tNil)) σ H (.int (xs.length : Int)) := ev_cb (ea_cons ha ea_nil) fun H1 e Q q => ⟨p, xs, rfl, .inr (ex_t e h), q H1 (Ex.refl H1)⟩
theorem atI_in {α : Type} {xs : List α} {i : Int} {v : α} (h0 : 0 ≤ i) (h : xs[i.toNat]? = some v) : atI xs i = some v := by
  have e : i = ((i.toNat : Nat) : Int) := by omega
  rw [e]
  exact atI_nat h
theorem e_ixS {c : Nat} (ha : Ev ta σ H (tx a)) (hb : Ev tb σ H (.int i)) (hl : a.length ≤ 100000) (h : atI a i = some c) : Ev (tOp nIxS ta tb) σ H (tx [c]) := ev_op ha hb fun H1 e Q q =>
  ⟨_, i, c, rfl, rfl, by rw [tx_len]; exact line1 hl, h, q H1 (Ex.refl H1)⟩
theorem e_ixL {p : Addr} {xs : List V} (ha : Ev ta σ H (.ref p)) (hb : Ev tb σ H (.int i)) (hs : SqL K H p xs) (h : atI xs i = some v) : Ev (tOp (nIxL K) ta tb) σ H v := ev_op ha hb fun H1 e Q q =>
  ⟨p, xs, i, v, rfl, rfl, ex_l e hs, h, q H1 (Ex.refl H1)⟩
theorem e_ixT {p : Addr} {xs : List V} (ha : Ev ta σ H (.ref p)) (hb : Ev tb σ H (.int i)) (hs : SqT K H p xs) (h : atI xs i = some v) : Ev (tOp (nIxT K) ta tb) σ H v := ev_op ha hb fun H1 e Q q =>
  ⟨p, xs, i, v, rfl, rfl, ex_t e hs, h, q H1 (Ex.refl H1)⟩
/-- [a, b, ..][i], the list made on the way -/
theorem e_ixN {xs : List V} (ha : EvL ta σ H xs) (hb : Ev tb σ H (.int i)) (h : atI xs i = some v) : Ev (tOp (nIxL K) ta tb) σ H v := ev_opL1 ha (fun H1 e => hb.mono e) fun p H1 hp e H2 e2 Q q =>
  ⟨p, xs, i, v, rfl, rfl, sq_of (e2 _ _ hp), h, q H2 (Ex.refl H2)⟩
theorem cut_eq (a : List Nat) (lo hi : Option Int) : cutS ⟨a.toArray⟩ lo hi = ⟨((a.drop (HT.sIx a.length 0 lo)).take (HT.sIx a.length a.length hi - HT.sIx a.length 0 lo)).toArray⟩ := by
  unfold cutS
  rw [tx_len]
theorem six {n d : Nat} {i : Int} (h0 : 0 ≤ i) : HT.sIx n d (some i) = min i.toNat n := by
  have e : i = ((i.toNat : Nat) : Int) := by omega
  rw [e, HT.sIx_nat]
  rfl
theorem e_take {ti : TE} (ha : Ev ta σ H (tx a)) (hb : Ev ti σ H (.int i)) (hl : a.length ≤ 100000) (h0 : 0 ≤ i) : Ev (tSl nSlS ta tNoPart (tPart ti)) σ H (tx (a.take i.toNat)) := fun H1 e Q q =>
  ha H1 e _ fun H2 e2 => hb H2 (e.trans e2) _ fun H3 e3 => ⟨i, rfl, _, rfl, by rw [tx_len]; exact line1 hl, by
    have q1 := q H3 (e2.trans e3)
    rw [cut_eq, six h0]
    show Q (.str ⟨((a.drop 0).take (min i.toNat a.length - 0)).toArray⟩) H3
    rw [List.drop_zero, Nat.sub_zero]
    have e4 : a.take (min i.toNat a.length) = a.take i.toNat := by
      rw [List.take_eq_take_iff]
      omega
    rw [e4]
    exact q1⟩
theorem e_drop {ti : TE} (ha : Ev ta σ H (tx a)) (hb : Ev ti σ H (.int i)) (hl : a.length ≤ 100000) (h0 : 0 ≤ i) : Ev (tSl nSlS ta (tPart ti) tNoPart) σ H (tx (a.drop i.toNat)) := fun H1 e Q q =>
  ha H1 e _ fun H2 e2 => hb H2 (e.trans e2) _ fun H3 e3 => ⟨i, rfl, _, rfl, by rw [tx_len]; exact line1 hl, by
    have q1 := q H3 (e2.trans e3)
    rw [cut_eq, six h0]
    show Q (.str ⟨((a.drop (min i.toNat a.length)).take (a.length - min i.toNat a.length)).toArray⟩) H3
    have e4 : (a.drop (min i.toNat a.length)).take (a.length - min i.toNat a.length) = a.drop i.toNat := by
      rw [List.take_of_length_le (by rw [List.length_drop]; omega)]
      by_cases h : i.toNat ≤ a.length
      · rw [Nat.min_eq_left h]
      · rw [Nat.min_eq_right (by omega), List.drop_of_length_le (Nat.le_refl _), List.drop_of_length_le (by omega)]
    rw [e4]
    exact q1⟩
/-- isinstance(x, T) -/
theorem e_isi {T : String} {t : Value} {b : Bool} (ha : Ev ta σ H x) (ht : TyX K H x t) (hs : ∀ H1, Ex H H1 → TyX K H1 x t) (hk : PySem.W.kitOne K t (.type T) = some b) : Ev (tCB (nIsi K) (tCons ta (tCons (tC (.ty T)) tNil))) σ H (.bl b) :=
  ev_cb (ea_cons ha (ea_cons ev_c ea_nil)) fun H1 e Q q => ⟨x, .ty T, t, .type T, b, rfl, .ty T, hs H1 e, hk, q H1 (Ex.refl H1)⟩
end

/-! ### what evaluates to something of which P holds, with the heap -/
def EvG (te : TE) (σ : L2.St) (H : Hp) (P : V → Hp → Prop) : Prop := ∀ H1, Ex H H1 → ∀ Q : VK, (∀ v H2, Ex H1 H2 → P v H2 → Q v H2) → te σ H1 Q
def EvAll (ta : TA) (σ : L2.St) (H : Hp) (P : V → Hp → Prop) (n : Nat) : Prop := ∀ H1, Ex H H1 → ∀ Q : List V → Hp → Prop, (∀ vs H2, Ex H1 H2 → (∀ v ∈ vs, P v H2) → vs.length = n → Q vs H2) → ta σ H1 Q
/-- P stays while the heap grows -/
def Up (P : V → Hp → Prop) : Prop := ∀ v H H', Ex H H' → P v H → P v H'
def RetG (P : V → Hp → Prop) (H : Hp) (Q : VK) : Prop := ∀ v H2, Ex H H2 → P v H2 → Q v H2
def SpG (sp : Sp) (vs : List V) (H : Hp) (P : V → Hp → Prop) : Prop := ∀ H1, Ex H H1 → ∀ Q : VK, RetG P H1 Q → ∀ E : XK, sp vs H1 Q E
section
variable {K : PySem.W.Frag} {σ : L2.St} {H H' : Hp} {ta tb te : TE} {tr : TA} {t : TT} {x y z v : V} {P P' : V → Hp → Prop} {n : Nat} {i : Int} {D : Ends} {tu tw tz : TS} {g : TG}
theorem EvG.mono (e : Ex H H') (h : EvG te σ H P) : EvG te σ H' P := fun H1 a Q q => h H1 (e.trans a) Q q
theorem EvG.imp (h : EvG te σ H P) (k : ∀ v H2, Ex H H2 → P v H2 → P' v H2) : EvG te σ H P' := fun H1 a Q q => h H1 a Q fun v H2 e p => q v H2 e (k v H2 (a.trans e) p)
theorem g_ev (hP : Up P) (h : Ev te σ H v) (p : P v H) : EvG te σ H P := fun H1 e Q q => h H1 e Q fun H2 e2 => q v H2 e2 (hP v H H2 (e.trans e2) p)
theorem ev_g (h : EvG te σ H fun v' _ => v' = v) : Ev te σ H v := fun H1 e Q q => h H1 e Q fun v' H2 e2 p => by
  subst p
  exact q H2 e2
theorem g_lst {xs : List V} (h : EvL te σ H xs) (p : ∀ a H2, Ex H H2 → H2 a = some (.lst xs) → P (.ref a) H2) : EvG te σ H P := fun H1 e Q q => h H1 e Q fun a H2 _ e2 h2 => q _ H2 e2 (p a H2 (e.trans e2) h2)
theorem g_tup {xs : List V} (h : EvU te σ H xs) (p : ∀ a H2, Ex H H2 → H2 a = some (.tup xs) → P (.ref a) H2) : EvG te σ H P := fun H1 e Q q => h H1 e Q fun a H2 _ e2 h2 => q _ H2 e2 (p a H2 (e.trans e2) h2)
theorem g_dnew (p : ∀ a H2, Ex H H2 → H2 a = some (.dK []) → P (.ref a) H2) : EvG tDNewK σ H P := fun H1 e Q q a ha => q _ _ (Ex.new ha) (p a _ (e.trans (Ex.new ha)) upd_same)
theorem all_nil : EvAll tNil σ H P 0 := fun H1 _ Q q => q [] H1 (Ex.refl H1) (fun v h => by cases h) rfl
theorem all_cons (hP : Up P) (h : EvG te σ H P) (hr : EvAll tr σ H P n) : EvAll (tCons te tr) σ H P (n + 1) := fun H1 e Q q =>
  h H1 e _ fun v H2 e2 p => hr H2 (e.trans e2) _ fun vs H3 e3 ps hl => q (v :: vs) H3 (e2.trans e3) (fun u hu => by
    rcases List.mem_cons.mp hu with rfl | hu
    · exact hP _ H2 H3 e3 p
    · exact ps u hu) (by rw [List.length_cons, hl])
/-- [a, b, ..][i] -/
theorem g_pick (hP : Up P) (h : EvAll tr σ H P n) (hi : Ev tb σ H (.int i)) (h0 : 0 ≤ i) (h1 : i < (n : Int)) (hn : n ≤ 100000) : EvG (tOp (nIxL K) (tLst tr) tb) σ H P := fun H1 e Q q =>
  h H1 e _ fun vs H2 e2 ps hl => ⟨by rw [hl]; exact line1 hn, fun p hp => hi _ ((e.trans e2).trans (Ex.new hp)) _ fun H3 e3 => by
    have hlt : i.toNat < vs.length := by omega
    refine ⟨p, vs, i, vs[i.toNat], rfl, rfl, sq_of (e3 _ _ upd_same), atI_in h0 (List.getElem?_eq_getElem hlt), ?_⟩
    exact q _ H3 (e2.trans ((Ex.new hp).trans e3)) (hP _ H2 H3 ((Ex.new hp).trans e3) (ps _ (List.getElem_mem hlt)))⟩
theorem g_call {sp : Sp} {dvs vs : List V} {E : XK} {ta : TA} (h : EvA ta σ H vs) (hs : SpG sp (vs ++ dvs) H P) : EvG (tCall sp dvs E ta) σ H P := fun H1 e Q q =>
  h H1 e _ fun H2 e2 => hs H2 (e.trans e2) Q (fun v H3 e3 p => q v H3 (e2.trans e3) p) E
/-- a call one of whose arguments is only known by what holds of it: raw -/
theorem q_asgG {j : Nat} (h : EvG te σ H P) (k : ∀ v H1, Ex H H1 → P v H1 → tz D (σ.set j (some v)) H1) : tSeq (tAsg te (gName j)) tz D σ H := h H (Ex.refl H) _ k
theorem s_asgG {j : Nat} (h : EvG te σ H P) (k : ∀ v H1, Ex H H1 → P v H1 → D.nx (σ.set j (some v)) H1) : tAsg te (gName j) D σ H := h H (Ex.refl H) _ k
theorem s_retG (h : EvG te σ H P) (k : ∀ v H1, Ex H H1 → P v H1 → D.rt v H1) : tRet te D σ H := h H (Ex.refl H) _ k
theorem q_ret (h : Ev te σ H v) (k : ∀ H1, Ex H H1 → D.rt v H1) : tSeq (tRet te) tz D σ H := h H (Ex.refl H) _ k
theorem RetG.go {Q : VK} (k : RetG P H Q) (e : Ex H H') (p : P v H') : Q v H' := k v H' e p
/-- for c in s: c in slot j -/
theorem s_forS {j : Nat} {w : List Nat} (h : Ev te σ H (tx w)) (Pv : Nat → L2.St → Hp → Prop) (h0 : ∀ H1, Ex H H1 → Pv 0 σ H1)
    (hs : ∀ i c σ' H', w[i]? = some c → Pv i σ' H' → tu { D with nx := Pv (i + 1), ct := Pv (i + 1), bk := D.nx } (σ'.set j (some (tx [c]))) H') (hd : ∀ σ' H', Pv w.length σ' H' → D.nx σ' H') : tFor (iStr te) (gName j) tu D σ H :=
  h H (Ex.refl H) _ fun H1 e => ⟨_, rfl, fun i m σ' H' => m = w.length - i ∧ i ≤ w.length ∧ Pv i σ' H', ⟨w.length, by simp, Nat.zero_le _, h0 H1 e⟩, fun i m σ' H' hw => by
    obtain ⟨rfl, hi, p⟩ := hw
    by_cases hlt : i < w.length
    · refine .inr ⟨by show i < (w.toArray).size; simpa using hlt, Pv (i + 1), fun σ2 H2 p' => ⟨w.length - (i + 1), by omega, rfl, hlt, p'⟩, fun x H2 y => ?_⟩
      obtain ⟨e1, c, hc, e2⟩ := y
      subst e1
      subst e2
      exact hs i c σ' _ (by
        have hc' : (w.toArray)[i]? = some c := hc
        rw [List.getElem?_toArray] at hc'
        exact hc') p
    · have e1 : i = w.length := by omega
      subst e1
      exact .inl ⟨by show (w.toArray).size ≤ w.length; simp, hd σ' H' p⟩⟩
theorem q_forS {j : Nat} {w : List Nat} (h : Ev te σ H (tx w)) (Pv : Nat → L2.St → Hp → Prop) (h0 : ∀ H1, Ex H H1 → Pv 0 σ H1)
    (hs : ∀ i c σ' H', w[i]? = some c → Pv i σ' H' → tu { D with nx := Pv (i + 1), ct := Pv (i + 1), bk := tz D } (σ'.set j (some (tx [c]))) H') (hd : ∀ σ' H', Pv w.length σ' H' → tz D σ' H') : tSeq (tFor (iStr te) (gName j) tu) tz D σ H :=
  s_forS (D := { D with nx := tz D }) h Pv h0 hs hd
end
/-- what a body is read with -/
abbrev fin (Q : VK) : Ends := { nx := fun _ H' => Q .non H', rt := Q }
abbrev slots (n : Nat) (vs : List V) : L2.St := vs.map some ++ List.replicate (n - vs.length) none
/-- things that are no texts -/
def Odd (v : V) (H : Hp) : Prop := v = .non ∨ (∃ i, v = .int i) ∨ (∃ b, v = .bl b) ∨ ∃ p, v = .ref p ∧ ((∃ xs, H p = some (.lst xs)) ∨ (∃ xs, H p = some (.tup xs)) ∨ ∃ kvs, H p = some (.dK kvs))
theorem odd_up : Up Odd := fun v H H' e h => by
  rcases h with h | h | h | ⟨p, hp, h⟩
  · exact .inl h
  · exact .inr (.inl h)
  · exact .inr (.inr (.inl h))
  · refine .inr (.inr (.inr ⟨p, hp, ?_⟩))
    rcases h with ⟨xs, h⟩ | ⟨xs, h⟩ | ⟨xs, h⟩
    · exact .inl ⟨xs, e _ _ h⟩
    · exact .inr (.inl ⟨xs, e _ _ h⟩)
    · exact .inr (.inr ⟨xs, e _ _ h⟩)
theorem odd_ty {K : PySem.W.Frag} {v : V} {H : Hp} (h : Odd v H) : ∃ t, TyX K H v t ∧ PySem.W.kitOne K t (.type "str") = some false := by
  rcases h with rfl | ⟨i, rfl⟩ | ⟨b, rfl⟩ | ⟨p, rfl, h⟩
  · exact ⟨_, .base .non, kit_ty (by decide +kernel)⟩
  · exact ⟨_, .base (.int i), kit_ty (by decide +kernel)⟩
  · exact ⟨_, .base (.bl b), kit_ty (by decide +kernel)⟩
  · rcases h with ⟨xs, h⟩ | ⟨xs, h⟩ | ⟨xs, h⟩
    · exact ⟨_, .base (.lst h), kit_ty (by decide +kernel)⟩
    · exact ⟨_, .base (.tup h), kit_ty (by decide +kernel)⟩
    · exact ⟨_, .base (.dK h), kit_ty (by decide +kernel)⟩
section
variable {K : PySem.W.Frag} {σ : L2.St} {H : Hp} {ta : TE}
theorem e_isStr {w : List Nat} (ha : Ev ta σ H (tx w)) : Ev (tCB (nIsi K) (tCons ta (tCons (tC (.ty "str")) tNil))) σ H (.bl true) :=
  e_isi (t := .type "str") ha (.base (.str _)) (fun _ _ => .base (.str _)) (kit_ty (by decide +kernel))
theorem e_isOdd {v : V} (ha : Ev ta σ H v) (h : Odd v H) : Ev (tCB (nIsi K) (tCons ta (tCons (tC (.ty "str")) tNil))) σ H (.bl false) :=
  ev_cb (ea_cons ha (ea_cons ev_c ea_nil)) fun H1 e Q q => by
    obtain ⟨t, h1, h2⟩ := odd_ty (K := K) (odd_up v H H1 e h)
    exact ⟨v, .ty "str", t, .type "str", false, rfl, .ty "str", h1, h2, q H1 (Ex.refl H1)⟩
theorem e_isBool {b : Bool} (ha : Ev ta σ H (.bl b)) : Ev (tCB (nIsi K) (tCons ta (tCons (tC (.ty "bool")) tNil))) σ H (.bl true) :=
  e_isi (t := .type "bool") ha (.base (.bl _)) (fun _ _ => .base (.bl _)) (kit_ty (by decide +kernel))
theorem e_lenA {w : List Nat} (ha : Ev ta σ H (tx w)) (h : w.length ≤ 100000) : Ev (tCB (nLenA K) (tCons ta tNil)) σ H (.int (w.length : Int)) := ev_cb (ea_cons ha ea_nil) fun H1 e Q q => ⟨_, _, rfl, ⟨by rw [tx_len]; exact line1 h, rfl⟩, by
  rw [tx_len]
  exact q H1 (Ex.refl H1)⟩
end

/-! ### == of data -/
section
variable {K : PySem.W.Frag} {H H' : Hp}
open PySem.W (Datum)
mutual
theorem dp_up (e : Ex H H') : ∀ (d : PyData) (v : V), Dp K H v d → Dp K H' v d
  | .none, _, h => by cases h; exact .non
  | .bool _, _, h => by cases h; exact .bl _
  | .int _, _, h => by cases h; exact .int _
  | .str _, _, h => by cases h; exact .str _
  | .list ds, _, h => by
    cases h with
    | lst hs ha => exact .lst (ex_l e hs) (dp_upAll e ds _ ha)
  | .tuple ds, _, h => by
    cases h with
    | tup hs ha => exact .tup (ex_t e hs) (dp_upAll e ds _ ha)
  | .dict _, _, h => by cases h
theorem dp_upAll (e : Ex H H') : ∀ (ds : List PyData) (vs : List V), DpAll K H vs ds → DpAll K H' vs ds
  | [], _, h => by cases h; exact .nil
  | d :: ds, _, h => by
    cases h with
    | cons h1 h2 => exact .cons (dp_up e d _ h1) (dp_upAll e ds _ h2)
end
def nEqD (K : PySem.W.Frag) : R2 := fun x y H Q => ∃ d e, Dp K H x d ∧ Dp K H y e ∧ d.plain = true ∧ e.plain = true ∧ min d.depth e.depth ≤ 64 ∧ Q (.bl (PyData.eqv d e)) H
def nNeD (K : PySem.W.Frag) : R2 := fun x y H Q => ∃ d e, Dp K H x d ∧ Dp K H y e ∧ d.plain = true ∧ e.plain = true ∧ min d.depth e.depth ≤ 64 ∧ Q (.bl (!PyData.eqv d e)) H
theorem o_eqD {X : Cx} (hu : X.A.units + 64 < cLine) : OpR X (compareOp .Eq) (nEqD X.K) := by
  intro pins s σ H x y v u Q I rx ry h
  obtain ⟨d, e, hd, he, sd, se, hm, q⟩ := h
  obtain ⟨as, r1⟩ := Dp.reads I d x v hd rx
  obtain ⟨bs, r2⟩ := Dp.reads I e y u he ry
  exact PySem.SeqAt.eq_plain r1 r2 sd se (by omega) ⟨.bl _, H, I, rfl, q⟩
theorem o_neD {X : Cx} (hu : X.A.units + 64 < cLine) : OpR X (compareOp .NotEq) (nNeD X.K) := by
  intro pins s σ H x y v u Q I rx ry h
  obtain ⟨d, e, hd, he, sd, se, hm, q⟩ := h
  obtain ⟨as, r1⟩ := Dp.reads I d x v hd rx
  obtain ⟨bs, r2⟩ := Dp.reads I e y u he ry
  exact PySem.SeqAt.ne_plain r1 r2 sd se (by omega) ⟨.bl _, H, I, rfl, q⟩
/-- v is x's value -/
def Is {α : Type} [DecidableEq α] [Datum α] (K : PySem.W.Frag) (H : Hp) (v : V) (x : α) : Prop := Dp K H v (Datum.toD x)
section
variable {α : Type} [DecidableEq α] [Datum α] {σ : L2.St} {ta tb : TE} {v w : V} {x y : α}
theorem Is.up (e : Ex H H') (h : Is K H v x) : Is K H' v x := dp_up e _ _ h
theorem n_eq {Q : VK} (h1 : Is K H v x) (h2 : Is K H w y) (hd : Datum.depth α ≤ 64) (q : Q (.bl (decide (x = y))) H) : nEqD K v w H Q :=
  ⟨_, _, h1, h2, Datum.plain x, Datum.plain y, Nat.le_trans (Nat.min_le_left _ _) (Nat.le_trans (Datum.depth_le x) hd), by rw [Datum.eqv]; exact q⟩
theorem n_ne {Q : VK} (h1 : Is K H v x) (h2 : Is K H w y) (hd : Datum.depth α ≤ 64) (q : Q (.bl (!decide (x = y))) H) : nNeD K v w H Q :=
  ⟨_, _, h1, h2, Datum.plain x, Datum.plain y, Nat.le_trans (Nat.min_le_left _ _) (Nat.le_trans (Datum.depth_le x) hd), by rw [Datum.eqv]; exact q⟩
end
/-- a list of flat values -/
theorem dpAll_map {α β : Type} (f : β → V) (g : β → PyData) (h : ∀ b, Dp K H (f b) (g b)) : ∀ bs : List β, DpAll K H (bs.map f) (bs.map g)
  | [] => .nil
  | b :: bs => .cons (h b) (dpAll_map (α := α) f g h bs)
theorem is_strs {p : Addr} {xs : List Str} (h : SqL K H p (xs.map V.str)) : Is K H (.ref p) xs := .lst h (dpAll_map (α := Unit) V.str PyData.str (fun b => .str b) xs)
theorem is_ints {p : Addr} {xs : List Int} (h : SqL K H p (xs.map V.int)) : Is K H (.ref p) xs := .lst h (dpAll_map (α := Unit) V.int PyData.int (fun b => .int b) xs)
theorem is_bls {p : Addr} {xs : List Bool} (h : SqL K H p (xs.map V.bl)) : Is K H (.ref p) xs := .lst h (dpAll_map (α := Unit) V.bl PyData.bool (fun b => .bl b) xs)
end
/-! over a text's signs, in a comprehension -/
section
variable {K : PySem.W.Frag} {σ : L2.St} {H : Hp} {tl te : TE} {t : TT}
theorem el_lcS {w : List Nat} {j : Nat} {vs : List Nat} (f : Nat → Bool) (v : Nat → V) (h : Ev tl σ H (tx w)) (hz : w.length ≤ 40000) (hw : ∀ x, wipe ((wipe σ vs).set j (some x)) vs = wipe σ vs)
    (ht : ∀ (i c : Nat) H1, Ex H H1 → w[i]? = some c → EvT t ((wipe σ vs).set j (some (tx [c]))) H1 (f i)) (he : ∀ (i c : Nat) H1, Ex H H1 → w[i]? = some c → f i = true → Ev te ((wipe σ vs).set j (some (tx [c]))) H1 (v i)) :
    EvL (tLc (iStr tl) (gName j) t te vs) σ H (given w.length f v) := fun H0 e Q q => h H0 e _ fun H1 e1 => ⟨_, rfl, fun Dl hD =>
  ⟨fun i m H' => m = w.length - i ∧ i ≤ w.length ∧ Cw H1 f v Dl i H', ⟨w.length, by simp, Nat.zero_le _, hD, Ex.new hD, upd_same⟩, fun i m H' hw' => by
    obtain ⟨rfl, hi, p⟩ := hw'
    by_cases hlt : i < w.length
    · refine .inr ⟨by show i < (w.toArray).size; simpa using hlt, Cw H1 f v Dl (i + 1), fun H2 p' => ⟨w.length - (i + 1), by omega, rfl, hlt, p'⟩, fun x H2 y => ?_⟩
      obtain ⟨e1', c, hc, e2⟩ := y
      subst e1'
      subst e2
      have hc' : w[i]? = some c := by
        have hc' : (w.toArray)[i]? = some c := hc
        rw [List.getElem?_toArray] at hc'
        exact hc'
      exact ⟨hw _, cw_turn p (by omega) (ht i c H1 (e.trans e1) hc') (fun hf => he i c H1 (e.trans e1) hc' hf)⟩
    · have e1' : i = w.length := by omega
      subst e1'
      exact .inl ⟨by show (w.toArray).size ≤ w.length; simp, q Dl H' (fresh_back e1 p.1) (e1.trans p.2.1) p.2.2⟩⟩⟩
end

/-! ### -x, join -/
def nNeg : V → Hp → VK → Prop := rU fun i => .int (-i)
def nJoin (K : PySem.W.Frag) : V → List V → Hp → VK → Prop := fun x xs H Q => ∃ a p, ∃ ys : List Str, x = .str a ∧ xs = [.ref p] ∧ (SqL K H p (ys.map V.str) ∨ SqT K H p (ys.map V.str)) ∧
    (ys.map (·.length)).sum + ys.length * a.length ≤ 16777216 ∧ Q (.str (Txt.join a ys)) H
section
variable {X : Cx}
theorem o_neg : UnR X (unaryOp .USub) nNeg := un_neg
end
theorem given_all (n : Nat) (v : Nat → V) : given n (fun _ => true) v = (List.range n).map v := by
  unfold given
  rw [List.filter_eq_self.mpr (fun _ _ => rfl)]
theorem joinL_nil : ∀ ps : List (List Nat), TL.joinL [] ps = ps.flatten
  | [] => rfl
  | [p] => by simp [TL.joinL]
  | p :: q :: r => by
    show p ++ ([] ++ TL.joinL [] (q :: r)) = (p :: q :: r).flatten
    rw [joinL_nil (q :: r)]
    simp
theorem join_signs (cs : List Nat) : Txt.join ⟨#[]⟩ (cs.map fun c => (⟨#[c]⟩ : Str)) = ⟨cs.toArray⟩ := by
  rw [TL.join_eq]
  apply TL.ext_tl
  rw [TL.tl_join]
  show TL.joinL [] _ = cs
  rw [joinL_nil, List.map_map]
  induction cs with
  | nil => rfl
  | cons c r ih => rw [List.map_cons, List.flatten_cons, ih]; rfl
section
variable {K : PySem.W.Frag} {σ : L2.St} {H : Hp} {tl ta : TE} {i : Int}
theorem e_neg (ha : Ev ta σ H (.int i)) : Ev (tUn nNeg ta) σ H (.int (-i)) := ev_un ha fun H1 e Q q => ⟨i, rfl, q H1 (Ex.refl H1)⟩
theorem sum_ones : ∀ cs : List Nat, ((cs.map fun c => (⟨#[c]⟩ : Str)).map (·.length)).sum = cs.length
  | [] => rfl
  | c :: r => by
    rw [List.map_cons, List.map_cons, List.sum_cons, sum_ones r, List.length_cons]
    show 1 + r.length = r.length + 1
    omega
theorem e_join {cs : List Nat} (h : EvL tl σ H (cs.map fun c => tx [c])) (hl : cs.length ≤ 100000) : Ev (tM1 (nJoin K) (tC (tx [])) tl) σ H (tx cs) := fun H1 e Q q =>
  ⟨⟨_, rfl⟩, h H1 e _ fun p H2 _ e2 hp => ⟨_, p, cs.map fun c => (⟨#[c]⟩ : Str), rfl, rfl, .inl (sq_of (by rw [hp, List.map_map]; rfl)), by
    rw [sum_ones]
    show cs.length + _ * 0 ≤ 16777216
    omega, by
    have q1 := q H2 e2
    show Q (.str (Txt.join ⟨#[]⟩ (cs.map fun c => (⟨#[c]⟩ : Str)))) H2
    rw [join_signs]
    exact q1⟩⟩
end

/-! ### a def of the module, to be called -/
structure Cal (P : Program) (w : World) (K : PySem.W.Frag) (mg : Str → Option Value) (base : Heap) (CX : CXT) (k : Nat) (x : Str) (ps : List Str) (sp : Sp) : Prop where
  ex : ∃ (f : Addr) (fd : FuncData), FnOk P w K mg base CX k f fd ps sp ∧ mg x = some (.ref f) ∧ PySem.W.keepIn K (.ref f) = true ∧ Binds K fd ps []
end Nw

set_option Elab.async false
set_option linter.all false
set_option maxRecDepth 100000
/-! k01: what is a word -/
namespace Nw
open PySem L2 Evl
/-- a word -/
def isW (w : List Nat) : Bool := decide (w.length ≤ 24 ∧ Low w)
/-- a text of at most 27 signs, or no text -/
def Thing (v : V) (H : Hp) : Prop := (∃ w, v = tx w ∧ w.length ≤ 27) ∨ Odd v H
theorem thing_up : Up Thing := fun v H H' e h => h.elim .inl fun h => .inr (odd_up v H H' e h)
def sp_is_word (K : PySem.W.Frag) : Sp := fun vs H Q _ => ∃ v, vs = [v] ∧ ((∃ w, v = tx w ∧ w.length ≤ 1000 ∧ RetV (.bl (isW w)) H Q) ∨ (Odd v H ∧ RetV (.bl false) H Q))
def sp_law_is_word (K : PySem.W.Frag) : Sp := sp_is_word K
def sp_law_sign (K : PySem.W.Frag) : Sp := fun vs H Q _ => ∃ c : Int, vs = [.int c] ∧ RetG (fun v _ => ∃ a, v = tx [a]) H Q
def sp_law_thing (K : PySem.W.Frag) : Sp := fun vs H Q _ => ∃ c : Int, vs = [.int c] ∧ RetG Thing H Q
/- is_word(thing): slots 0:thing 1:letter -/
def T_is_word (K : PySem.W.Frag) : TS :=
 (tSeq (tIfS (tOr (tNot (tB (tCB (nIsi K) (tCons (tVar 0) (tCons (tC (.ty "str")) tNil))))) (tTest (tOp nGt (tCB nLenS (tCons (tVar 0) tNil)) (tC (.int 24)))))
 (tRet (tC (.bl false))) tNext)
 (tSeq (tFor (iStr (tVar 0)) (gName 1)
 (tIfS (tTest (tOp nNotInS (tVar 1) (tC (tx abc))))
 (tRet (tC (.bl false))) tNext))
 (tRet (tC (.bl true)))))
def n_is_word : Nat := 2
/- _law_sign(_law_cell): slots 0:_law_cell 1:_law_signs -/
def T_law_sign (K : PySem.W.Frag) : TS :=
 (tSeq (tAsg (tC (tx [32, 33, 34, 35, 36, 38, 39, 40, 41, 42, 43, 44, 45, 46, 47, 48, 49, 50, 51, 52, 53, 54, 55, 56, 57, 58, 59, 60, 61, 62, 63, 64, 65, 66, 67, 68, 69, 70, 71, 72, 73, 74, 75, 76, 77, 78, 79, 80, 81, 82, 83, 84, 85, 86, 87, 88, 89, 90, 91, 92, 93, 94, 95, 96, 123, 124, 125, 126, 10, 9])) (gName 1))
 (tRet (tOp nIxS (tVar 1) (tOp nMod (tVar 0) (tCB nLenS (tCons (tVar 1) tNil))))))
def n_law_sign : Nat := 2
/- _law_thing(_law_cell): slots 0:_law_cell 1:_law_letters 2:_law_text 3:_law_k 4:_law_at -/
def T_law_thing (K : PySem.W.Frag) : TS :=
 (tSeq (tAsg (tC (tx abc)) (gName 1))
 (tSeq (tAsg (tM1 (nJoin K) (tC (tx [])) (tLc (iRng1 (tCons (tOp nMod (tOp nDiv (tVar 0) (tC (.int 7))) (tC (.int 27))) tNil)) (gName 3) tYes (tOp nIxS (tVar 1) (tOp nMod (tOp nAdd (tOp nDiv (tVar 0) (tC (.int 7))) (tOp nMul (tOp nMul (tC (.int 5)) (tVar 3)) (tOp nMod (tVar 0) (tC (.int 3))))) (tC (.int 26)))) [3])) (gName 2))
 (tSeq (tIfS (tTest (tOp nLt (tOp nMod (tVar 0) (tC (.int 7))) (tC (.int 3))))
 (tRet (tVar 2)) tNext)
 (tSeq (tIfS (tTest (tOp nLt (tOp nMod (tVar 0) (tC (.int 7))) (tC (.int 5))))
 (tSeq (tAsg (tOp nMod (tOp nDiv (tVar 0) (tC (.int 189))) (tOp nAdd (tCB nLenS (tCons (tVar 2) tNil)) (tC (.int 1)))) (gName 4))
 (tRet (tOp nCat (tOp nCat (tSl nSlS (tVar 2) tNoPart (tPart (tVar 4))) (tCall (sp_law_sign K) [] E0 (tCons (tOp nDiv (tVar 0) (tC (.int 77))) tNil))) (tSl nSlS (tVar 2) (tPart (tVar 4)) tNoPart)))) tNext)
 (tRet (tOp (nIxL K) (tLst (tCons (tC .non) (tCons (tC (.int 5)) (tCons (tC (.bl true)) (tCons (tTup (tCons (tC (tx [97])) tNil)) (tCons (tLst (tCons (tC (tx [97])) tNil)) (tCons tDNewK (tCons (tLst tNil) (tCons (tTup (tCons (tC (tx [97])) (tCons (tC (tx [98])) tNil))) (tCons (tC (.int 0)) (tCons (tUn nNeg (tC (.int 1))) (tCons (tC (.bl false)) (tCons (tDisp [((tC (tx [97])), (tC (.int 1)))]) tNil))))))))))))) (tOp nMod (tOp nDiv (tVar 0) (tC (.int 7))) (tC (.int 12)))))))))
def n_law_thing : Nat := 5
/- _law_is_word(_law_thing_here): slots 0:_law_thing_here 1:_law_letter -/
def T_law_is_word (K : PySem.W.Frag) : TS :=
 (tSeq (tIfS (tOr (tNot (tB (tCB (nIsi K) (tCons (tVar 0) (tCons (tC (.ty "str")) tNil))))) (tTest (tOp nGt (tCB nLenS (tCons (tVar 0) tNil)) (tC (.int 24)))))
 (tRet (tC (.bl false))) tNext)
 (tRet (tOp (nEqD K) (tLc (iStr (tVar 0)) (gName 1) (tTest (tOp nNotInS (tVar 1) (tC (tx abc)))) (tVar 1) [1]) (tLst tNil))))
def n_law_is_word : Nat := 2
theorem l_is_word {K vs H Q E} (h : sp_is_word K vs H Q E) : vs.length = 1 := by obtain ⟨v, rfl, _⟩ := h; rfl
theorem l_law_is_word {K vs H Q E} (h : sp_law_is_word K vs H Q E) : vs.length = 1 := l_is_word h
theorem l_law_sign {K vs H Q E} (h : sp_law_sign K vs H Q E) : vs.length = 1 := by obtain ⟨v, rfl, _⟩ := h; rfl
theorem l_law_thing {K vs H Q E} (h : sp_law_thing K vs H Q E) : vs.length = 1 := by obtain ⟨v, rfl, _⟩ := h; rfl
section
variable {K : PySem.W.Frag} {vs : List V} {H : Hp} {Q : VK} {E : XK}
theorem isW_long {w : List Nat} (h : 24 < w.length) : isW w = false := decide_eq_false fun z => by omega
theorem isW_bad {w : List Nat} {c : Nat} (h : c ∈ w) (hc : ¬ c ∈ abc) : isW w = false := decide_eq_false fun z => hc (mem_abc.mpr (z.2 c h))
theorem isW_good {w : List Nat} (h : w.length ≤ 24) (hl : Low w) : isW w = true := decide_eq_true ⟨h, hl⟩
theorem R_is_word (h : sp_is_word K vs H Q E) : T_is_word K (fin Q) (slots n_is_word vs) H := by
  obtain ⟨v, rfl, h⟩ := h
  show T_is_word K (fin Q) [some v, none] H
  unfold T_is_word
  rcases h with ⟨w, rfl, hl, k⟩ | ⟨ho, k⟩
  · refine q_when (b := decide (24 < w.length)) (et_is (et_or (et_not (et_B (e_isStr (ev_var rfl)))) (fun _ => et_test (e_gt (e_lenS (ev_var rfl) (by omega)) ev_c))) (by simp [dec_eq (show (24 : Int) < (w.length : Int) ↔ 24 < w.length by omega)])) (fun hb H1 e1 => ?_) (fun hb H1 e1 => ?_)
    · have hb' := of_decide_eq_true hb
      rw [isW_long hb'] at k
      exact s_ret ev_c fun H2 e2 => k _ (e1.trans e2)
    · have hb' := of_decide_eq_false hb
      refine q_forS (ev_var rfl) (fun i σ H' => (∃ x, σ = [some (tx w), x]) ∧ Ex H H' ∧ Low (w.take i)) (fun H2 e2 => ⟨⟨_, rfl⟩, e1.trans e2, by rw [List.take_zero]; exact low_nil⟩) (fun i c σ H' hc hp => ?_) (fun σ H' hp => ?_)
      · obtain ⟨⟨x, rfl⟩, e, lo⟩ := hp
        refine s_when (b := !decide (c ∈ abc)) (et_test (e_notInS (ev_var rfl) ev_c)) (fun hb H1 e1 => ?_) (fun hb H1 e1 => ?_)
        · have hn : ¬ c ∈ abc := by simpa using hb
          rw [isW_bad (List.mem_of_getElem? hc) hn] at k
          exact s_ret ev_c fun H2 e2 => k _ ((e.trans e1).trans e2)
        · have hn : c ∈ abc := by simpa using hb
          refine ⟨⟨_, rfl⟩, e.trans e1, ?_⟩
          rw [List.take_add_one, hc]
          exact low_app lo (low_one (mem_abc.mp hn))
      · obtain ⟨⟨x, rfl⟩, e, lo⟩ := hp
        rw [List.take_length] at lo
        rw [isW_good (by omega) lo] at k
        exact s_ret ev_c fun H2 e2 => k _ (e.trans e2)
  · refine q_when (b := true) (et_is (et_or (et_not (et_B (e_isOdd (ev_var rfl) ho))) (b := true) (fun hh => by cases hh)) (by simp)) (fun hb H1 e1 => ?_) (fun hb => by cases hb)
    exact s_ret ev_c fun H2 e2 => k _ (e1.trans e2)
theorem R_law_sign (h : sp_law_sign K vs H Q E) : T_law_sign K (fin Q) (slots n_law_sign vs) H := by
  obtain ⟨c, rfl, k⟩ := h
  show T_law_sign K (fin Q) [some (.int c), none] H
  unfold T_law_sign
  refine q_asg ev_c fun H1 e1 => ?_
  generalize hw : [32, 33, 34, 35, 36, 38, 39, 40, 41, 42, 43, 44, 45, 46, 47, 48, 49, 50, 51, 52, 53, 54, 55, 56, 57, 58, 59, 60, 61, 62, 63, 64, 65, 66, 67, 68, 69, 70, 71, 72, 73, 74, 75, 76, 77, 78, 79, 80, 81, 82, 83, 84, 85, 86, 87, 88, 89, 90, 91, 92, 93, 94, 95, 96, 123, 124, 125, 126, 10, 9] = w
  have hl : w.length = 70 := by rw [← hw]; rfl
  have h0 : 0 ≤ c % (w.length : Int) := Int.emod_nonneg _ (by omega)
  have h1 : c % (w.length : Int) < 70 := by have := Int.emod_lt_of_pos c (show (0 : Int) < (w.length : Int) by omega); omega
  have hlt : (c % (w.length : Int)).toNat < w.length := by omega
  refine s_ret (e_ixS (ev_var rfl) (e_mod (ev_var rfl) (e_lenS (ev_var rfl) (by omega)) (by omega)) (by omega) (atI_in h0 (List.getElem?_eq_getElem hlt))) fun H2 e2 => ?_
  exact k _ _ (e1.trans e2) ⟨_, rfl⟩
theorem g_sign {σ : L2.St} {te : TE} {j : Int} (h : Ev te σ H (.int j)) : EvG (tCall (sp_law_sign K) [] E0 (tCons te tNil)) σ H (fun v _ => ∃ a, v = tx [a]) :=
  g_call (ea_cons h ea_nil) fun H1 e Q q E => ⟨j, rfl, q⟩
theorem e_letter {σ : L2.St} {ta tb : TE} {i : Int} (ha : Ev ta σ H (tx abc)) (hb : Ev tb σ H (.int i)) (h0 : 0 ≤ i) (h1 : i < 26) : Ev (tOp nIxS ta tb) σ H (tx [i.toNat + 97]) :=
  e_ixS ha hb (by decide) (atI_in h0 (abc_at (by omega)))
theorem odd_non {H : Hp} : Odd .non H := .inl rfl
theorem odd_int {H : Hp} {i : Int} : Odd (.int i) H := .inr (.inl ⟨i, rfl⟩)
theorem odd_bl {H : Hp} {b : Bool} : Odd (.bl b) H := .inr (.inr (.inl ⟨b, rfl⟩))
theorem odd_l {H : Hp} {p : Addr} {xs : List V} (h : H p = some (.lst xs)) : Odd (.ref p) H := .inr (.inr (.inr ⟨p, rfl, .inl ⟨xs, h⟩⟩))
theorem odd_t {H : Hp} {p : Addr} {xs : List V} (h : H p = some (.tup xs)) : Odd (.ref p) H := .inr (.inr (.inr ⟨p, rfl, .inr (.inl ⟨xs, h⟩)⟩))
theorem odd_d {H : Hp} {p : Addr} {xs : List (Key × V)} (h : H p = some (.dK xs)) : Odd (.ref p) H := .inr (.inr (.inr ⟨p, rfl, .inr (.inr ⟨xs, h⟩)⟩))
theorem g_odd {σ : L2.St} {te : TE} {v : V} (h : Ev te σ H v) (o : ∀ H', Odd v H') : EvG te σ H Thing := g_ev thing_up h (.inr (o H))
theorem g_disp {σ : L2.St} {tk tv : TE} {k v : V} {kk : Key} (hk : Ev tk σ H k) (hv : Ev tv σ H v) (e1 : k = kV kk) : EvG (tDisp [(tk, tv)]) σ H Thing := fun H1 e Q q p hp =>
  hk _ (e.trans (Ex.new hp)) _ fun H2 e2 => hv H2 ((e.trans (Ex.new hp)).trans e2) _ fun H3 e3 =>
    ⟨e3 _ _ (e2 _ _ upd_same), [(kk, v)], by rw [e1]; rfl, (by show 1 ≤ 15; decide), q _ _ (Ex.mut (((Ex.new hp).trans e2).trans e3) hp) (.inr (odd_d upd_same))⟩
theorem R_law_thing (h : sp_law_thing K vs H Q E) : T_law_thing K (fin Q) (slots n_law_thing vs) H := by
  obtain ⟨c, rfl, k⟩ := h
  show T_law_thing K (fin Q) [some (.int c), none, none, none, none] H
  unfold T_law_thing
  refine q_asg ev_c fun H1 e1 => ?_
  have n0 : 0 ≤ c / 7 % 27 := Int.emod_nonneg _ (by omega)
  have n1 : c / 7 % 27 < 27 := Int.emod_lt_of_pos _ (by omega)
  have m0 : 0 ≤ c % 3 := Int.emod_nonneg _ (by omega)
  have m1 : c % 3 < 3 := Int.emod_lt_of_pos _ (by omega)
  let cs : List Nat := (List.range (c / 7 % 27).toNat).map fun (i : Nat) => ((c / 7 + 5 * (i : Int) * (c % 3)) % 26).toNat + 97
  have hl : cs.length ≤ 26 := by
    show ((List.range (c / 7 % 27).toNat).map _).length ≤ 26
    rw [List.length_map, List.length_range]; omega
  refine q_asg (v := tx cs) (e_join ?_ (by omega)) fun H2 e2 => ?_
  · have hg : cs.map (fun c => tx [c]) = given (c / 7 % 27).toNat (fun _ => true) (fun i => tx [((c / 7 + 5 * (i : Int) * (c % 3)) % 26).toNat + 97]) := by
      rw [given_all]
      show ((List.range (c / 7 % 27).toNat).map _).map _ = _
      rw [List.map_map]
      rfl
    rw [hg]
    refine el_lcR1 _ _ (ea_cons (e_mod (e_div (ev_var rfl) ev_c (by decide)) ev_c (by decide)) ea_nil) (by omega) (fun x => rfl) (fun i H2 e2 hi => ?_) (fun i H2 e2 hi _ => ?_)
    · exact fun H1 _ Q q => q H1 (Ex.refl H1)
    · exact e_letter (ev_var rfl) (e_mod (e_add (e_div (ev_var rfl) ev_c (by decide)) (e_mul (e_mul ev_c (ev_var rfl) (.inl (by decide))) (e_mod (ev_var rfl) ev_c (by decide)) (.inl (by omega)))) ev_c (by decide)) (Int.emod_nonneg _ (by omega)) (Int.emod_lt_of_pos _ (by omega))
  refine q_when (et_test (e_lt (e_mod (ev_var rfl) ev_c (by decide)) ev_c)) (fun hb H3 e3 => ?_) (fun hb H3 e3 => ?_)
  · exact s_ret (ev_var rfl) fun H4 e4 => k _ _ (((e1.trans e2).trans e3).trans e4) (.inl ⟨cs, rfl, by omega⟩)
  refine q_when (et_test (e_lt (e_mod (ev_var rfl) ev_c (by decide)) ev_c)) (fun hb H4 e4 => ?_) (fun hb H4 e4 => ?_)
  · have a0 : 0 ≤ c / 189 % ((cs.length : Int) + 1) := Int.emod_nonneg _ (by omega)
    refine q_asg (e_mod (e_div (ev_var rfl) ev_c (by decide)) (e_add (e_lenS (ev_var rfl) (by omega)) ev_c) (by omega)) fun H5 e5 => ?_
    generalize c / 189 % ((cs.length : Int) + 1) = a at a0
    have ht : (cs.take a.toNat).length ≤ 26 := by rw [List.length_take]; omega
    have hd : (cs.drop a.toNat).length ≤ 26 - a.toNat := by rw [List.length_drop]; omega
    have hd0 : (cs.take a.toNat).length + (cs.drop a.toNat).length = cs.length := by rw [← List.length_append, List.take_append_drop]
    -- text[:at] + sign(..) + text[at:]
    refine e_take (ev_var rfl) (ev_var rfl) (by omega) a0 H5 (Ex.refl H5) _ fun H6 e6 => ?_
    refine g_sign (e_div (ev_var rfl) ev_c (by decide)) H6 (Ex.refl H6) _ fun v H7 e7 hv => ?_
    obtain ⟨s, rfl⟩ := hv
    refine ⟨_, _, rfl, rfl, by rw [tx_len, tx_len]; exact line1 (by simp; omega), ?_⟩
    rw [tx_app]
    refine e_drop (ev_var rfl) (ev_var rfl) (by omega) a0 H7 (Ex.refl H7) _ fun H8 e8 => ?_
    refine ⟨_, _, rfl, rfl, by rw [tx_len, tx_len]; exact line1 (by simp; omega), ?_⟩
    rw [tx_app]
    exact k _ _ (((((((e1.trans e2).trans e3).trans e4).trans e5).trans e6).trans e7).trans e8) (.inl ⟨_, rfl, by simp only [List.length_append, List.length_cons, List.length_nil]; omega⟩)
  · refine s_retG (P := Thing) (g_pick (n := 12) thing_up ?_ (e_mod (e_div (ev_var rfl) ev_c (by decide)) ev_c (by decide)) (Int.emod_nonneg _ (by omega)) (Int.emod_lt_of_pos _ (by omega)) (by decide)) fun v H5 e5 p => k _ _ ((((e1.trans e2).trans e3).trans e4).trans e5) p
    refine all_cons thing_up (g_odd ev_c fun _ => odd_non) <| all_cons thing_up (g_odd ev_c fun _ => odd_int) <| all_cons thing_up (g_odd ev_c fun _ => odd_bl) <|
      all_cons thing_up (g_tup (eu_tup (ea_cons ev_c ea_nil) (by decide)) fun a H2 _ h => .inr (odd_t h)) <| all_cons thing_up (g_lst (el_lst (ea_cons ev_c ea_nil) (by decide)) fun a H2 _ h => .inr (odd_l h)) <|
      all_cons thing_up (g_dnew fun a H2 _ h => .inr (odd_d h)) <| all_cons thing_up (g_lst (el_lst ea_nil (by decide)) fun a H2 _ h => .inr (odd_l h)) <|
      all_cons thing_up (g_tup (eu_tup (ea_cons ev_c (ea_cons ev_c ea_nil)) (by decide)) fun a H2 _ h => .inr (odd_t h)) <| all_cons thing_up (g_odd ev_c fun _ => odd_int) <|
      all_cons thing_up (g_odd (e_neg ev_c) fun _ => odd_int) <| all_cons thing_up (g_odd ev_c fun _ => odd_bl) <| all_cons thing_up (g_disp (kk := .inr ⟨#[97]⟩) ev_c ev_c rfl) all_nil
theorem R_law_is_word (h : sp_law_is_word K vs H Q E) : T_law_is_word K (fin Q) (slots n_law_is_word vs) H := by
  obtain ⟨v, rfl, h⟩ := h
  show T_law_is_word K (fin Q) [some v, none] H
  unfold T_law_is_word
  rcases h with ⟨w, rfl, hl, k⟩ | ⟨ho, k⟩
  · refine q_when (b := decide (24 < w.length)) (et_is (et_or (et_not (et_B (e_isStr (ev_var rfl)))) (fun _ => et_test (e_gt (e_lenS (ev_var rfl) (by omega)) ev_c))) (by simp [dec_eq (show (24 : Int) < (w.length : Int) ↔ 24 < w.length by omega)])) (fun hb H1 e1 => ?_) (fun hb H1 e1 => ?_)
    · have hb' := of_decide_eq_true hb
      rw [isW_long hb'] at k
      exact s_ret ev_c fun H2 e2 => k _ (e1.trans e2)
    · have hb' := of_decide_eq_false hb
      let f : Nat → Bool := fun i => !decide ((w[i]?).getD 0 ∈ abc)
      have hf : given w.length f (fun i => tx [(w[i]?).getD 0]) = (((List.range w.length).filter f).map fun i => (⟨#[(w[i]?).getD 0]⟩ : Str)).map V.str := by
        unfold given
        rw [List.map_map]
        rfl
      have hE : EvL (tLc (iStr (tVar 0)) (gName 1) (tTest (tOp nNotInS (tVar 1) (tC (tx abc)))) (tVar 1) [1]) [some (tx w), none] H1 (given w.length f (fun i => tx [(w[i]?).getD 0])) := by
        refine el_lcS f _ (ev_var rfl) (by omega) (fun x => rfl) (fun i c H2 e2 hc => ?_) (fun i c H2 e2 hc _ => ?_)
        · refine et_is (et_test (e_notInS (ev_var rfl) ev_c)) ?_
          show _ = !decide ((w[i]?).getD 0 ∈ abc)
          rw [hc]; rfl
        · rw [hc]
          exact ev_var rfl
      refine s_ret (v := .bl (isW w)) (ev_opLL hE (el_lst ea_nil (by decide)) fun p q H2 hp hq e2 => fun H3 e3 Q3 q3 => ?_) fun H2 e2 => k _ (e1.trans e2)
      refine n_eq (x := (((List.range w.length).filter f).map fun i => (⟨#[(w[i]?).getD 0]⟩ : Str))) (y := ([] : List Str)) (is_strs (sq_of ?_)) (is_strs (sq_of (e3 _ _ hq))) (by decide) ?_
      · rw [← hf]
        exact e3 _ _ hp
      · have hk : decide ((((List.range w.length).filter f).map fun i => (⟨#[(w[i]?).getD 0]⟩ : Str)) = []) = isW w := by
            unfold isW
            refine dec_eq ⟨fun hn => ⟨by omega, fun c hc => ?_⟩, fun hw => ?_⟩
            · obtain ⟨i, hi⟩ := List.mem_iff_getElem?.mp hc
              rw [List.map_eq_nil_iff, List.filter_eq_nil_iff] at hn
              have h3 := hn i (List.mem_range.mpr (List.getElem?_eq_some_iff.mp hi).1)
              have h4 : (w[i]?).getD 0 ∈ abc := by simpa [f] using h3
              rw [hi] at h4
              exact mem_abc.mp h4
            · rw [List.map_eq_nil_iff, List.filter_eq_nil_iff]
              intro i hi
              have hi' := List.mem_range.mp hi
              have h4 : (w[i]?).getD 0 ∈ abc := by
                rw [List.getElem?_eq_getElem hi']
                exact mem_abc.mpr (hw.2 _ (List.getElem_mem hi'))
              simp only [f, h4, decide_true, Bool.not_true]
              exact Bool.false_ne_true
        rw [hk]
        exact q3 _ (Ex.refl _)
  · refine q_when (b := true) (et_is (et_or (et_not (et_B (e_isOdd (ev_var rfl) ho))) (b := true) (fun hh => by cases hh)) (by simp)) (fun hb H1 e1 => ?_) (fun hb => by cases hb)
    exact s_ret ev_c fun H2 e2 => k _ (e1.trans e2)
/-! ### the law -/
def sp_law1 (K : PySem.W.Frag) : Sp := fun vs H Q _ => ∃ (a : Addr) (ns : List Int), vs = [.ref a] ∧ SqL K H a (ns.map V.int) ∧ ns.length ≤ 63 ∧ ∀ H', Q (.bl true) H'
end
theorem l_law1 {K vs H Q E} (h : sp_law1 K vs H Q E) : vs.length = 1 := by obtain ⟨v, _, rfl, _⟩ := h; rfl
/- law(_law_script): slots 0:_law_script 1:_law_k 2:_law_thing_here 3:_law_found -/
def T_law1 (K : PySem.W.Frag) : TS :=
 (tSeq (tIfS (tOr (tTest (tOp nNe (tC (tx abc)) (tC (tx abc)))) (tOr (tTest (tOp nNe (tC (.int 24)) (tC (.int 24)))) (tTest (tOp nNe (tC (.int 400)) (tC (.int 400))))))
 (tRet (tC (.bl false))) tNext)
 (tSeq (tFor (iRng1 (tCons (tCB (nLenL K) (tCons (tVar 0) tNil)) tNil)) (gName 1)
 (tSeq (tAsg (tCall (sp_law_thing K) [] E0 (tCons (tOp nAdd (tOp (nIxL K) (tVar 0) (tVar 1)) (tOp nMul (tC (.int 1001)) (tVar 1))) tNil)) (gName 2))
 (tSeq (tAsg (tCall (sp_is_word K) [] E0 (tCons (tVar 2) tNil)) (gName 3))
 (tIfS (tOr (tNot (tB (tCB (nIsi K) (tCons (tVar 3) (tCons (tC (.ty "bool")) tNil))))) (tTest (tOp nNe (tVar 3) (tCall (sp_law_is_word K) [] E0 (tCons (tVar 2) tNil)))))
 (tRet (tC (.bl false))) tNext))))
 (tRet (tC (.bl true)))))
def n_law1 : Nat := 4
section
variable {K : PySem.W.Frag} {vs : List V} {H : Hp} {Q : VK} {E : XK}
theorem ints_at {ns : List Int} {i : Nat} (h : i < ns.length) : atI (ns.map V.int) (i : Int) = some (.int ns[i]) := atI_nat (by rw [List.getElem?_map, List.getElem?_eq_getElem h]; rfl)
theorem thing_isw {v : V} (h : Thing v H) : ∃ b, (∀ H1, Ex H H1 → ∀ Q E, RetV (.bl b) H1 Q → sp_is_word K [v] H1 Q E) := by
  rcases h with ⟨w, rfl, hl⟩ | h
  · exact ⟨isW w, fun H1 e Q E k => ⟨_, rfl, .inl ⟨w, rfl, by omega, k⟩⟩⟩
  · exact ⟨false, fun H1 e Q E k => ⟨_, rfl, .inr ⟨odd_up _ _ _ e h, k⟩⟩⟩
theorem R_law1 (h : sp_law1 K vs H Q E) : T_law1 K (fin Q) (slots n_law1 vs) H := by
  obtain ⟨a, ns, rfl, hS, hn, k⟩ := h
  show T_law1 K (fin Q) [some (.ref a), none, none, none] H
  unfold T_law1
  refine q_when (b := false) (et_is (et_or (et_test (e_ne ev_c ev_c .ss)) fun _ => et_or (et_test (e_ne ev_c ev_c .ii)) fun _ => et_test (e_ne ev_c ev_c .ii)) (by simp)) (fun hb => by cases hb) (fun _ H1 e1 => ?_)
  refine q_forR1 (n := (ns.length : Int)) (ea_cons (ev_is (e_lenL (ev_var rfl) (ex_l e1 hS)) (by rw [List.length_map])) ea_nil) (by omega) (fun i σ H' => (∃ x y z, σ = [some (.ref a), x, y, z]) ∧ Ex H H') (fun H2 e2 => ⟨⟨_, _, _, rfl⟩, e1.trans e2⟩) (fun i σ H' hi hp => ?_) (fun σ H' hp => ?_)
  · obtain ⟨⟨x, y, z, rfl⟩, e⟩ := hp
    have hi' : i < ns.length := by omega
    refine q_asgG (P := Thing) (g_call (ea_cons (e_add (e_ixL (ev_var rfl) (ev_var rfl) (ex_l e hS) (ints_at hi')) (e_mul ev_c (ev_var rfl) (.inl (by decide)))) ea_nil) fun H1 e Q q E => ⟨_, rfl, q⟩) fun v H2 e2 hv => ?_
    obtain ⟨b, hb⟩ := thing_isw (K := K) hv
    refine q_asg (v := .bl b) (ev_call (ea_cons (ev_var rfl) ea_nil) fun H1 e Q q E => hb H1 e Q E fun H2 e2 => q H2 e2) fun H3 e3 => ?_
    refine s_when (b := false) (et_is (et_or (et_not (et_B (e_isBool (ev_var rfl)))) fun _ => et_test (e_ne (ev_var rfl) (ev_call (z := .bl b) (ea_cons (ev_var rfl) ea_nil) fun H1 e4 Q q E => hb H1 (e3.trans e4) Q E fun H2 e2 => q H2 e2) .bb)) (by simp)) (fun hb => by cases hb) (fun _ H4 e4 => ?_)
    exact ⟨⟨_, _, _, rfl⟩, ((e.trans e2).trans e3).trans e4⟩
  · obtain ⟨⟨x, y, z, rfl⟩, e⟩ := hp
    exact s_ret ev_c fun H2 e2 => k _
end
end Nw
namespace Row1
open PySem PySem.Spec PyProof.Rows L2 Evl Nw
def topS (i : Nat) : Stmt := PySem.Challenge.pw_nearword_k01_what_is_a_word.main.body.getD i (.Pass ⟨0, 0, 0, 0⟩)
abbrev s_law_is_word : Stmt := topS 8
abbrev s_law_sign : Stmt := topS 6
abbrev s_law_thing : Stmt := topS 7
abbrev s_is_word : Stmt := topS 3
abbrev s_law1 : Stmt := topS 9
theorem sc_law_is_word : FnScope ["_law_thing_here", "_law_letter"] ["_law_thing_here"] (defScope s_law_is_word) := ⟨rfl, rfl, rfl, by decide +kernel, rfl, by decide +kernel, by decide +kernel⟩
theorem sc_law_sign : FnScope ["_law_cell", "_law_signs"] ["_law_cell"] (defScope s_law_sign) := ⟨rfl, rfl, rfl, by decide +kernel, rfl, by decide +kernel, by decide +kernel⟩
theorem sc_law_thing : FnScope ["_law_cell", "_law_letters", "_law_text", "_law_k", "_law_at"] ["_law_cell"] (defScope s_law_thing) := ⟨rfl, rfl, rfl, by decide +kernel, rfl, by decide +kernel, by decide +kernel⟩
theorem sc_is_word : FnScope ["thing", "letter"] ["thing"] (defScope s_is_word) := ⟨rfl, rfl, rfl, by decide +kernel, rfl, by decide +kernel, by decide +kernel⟩
theorem sc_law1 : FnScope ["_law_script", "_law_k", "_law_thing_here", "_law_found"] ["_law_script"] (defScope s_law1) := ⟨rfl, rfl, rfl, by decide +kernel, rfl, by decide +kernel, by decide +kernel⟩
structure Txt (K : PySem.W.Frag) (mg : Str → Option Value) : Prop where
  bool : mg "bool" = none
  isinstance : mg "isinstance" = none
  len : mg "len" = none
  range : mg "range" = none
  str : mg "str" = none
  c_LETTERS : ∃ t, mg "LETTERS" = some (.str ⟨abc.toArray⟩ t)
  c_MOST_LETTERS : ∃ t, mg "MOST_LETTERS" = some (.int 24 t)
  c_MOST_WORDS : ∃ t, mg "MOST_WORDS" = some (.int 400 t)
section
variable {P : Program} {w : World} {K : PySem.W.Frag} {mg : Str → Option Value} {base : Heap}
theorem ok_law_is_word {f : Addr} {fd : FuncData} (F : Fun K "_law_is_word" "_law_is_word" s_law_is_word f fd) (T : Txt K mg)  : FnOk P w K mg base CX0 1 f fd ["_law_thing_here"] (sp_law_is_word K) := by
  refine F.ok sc_law_is_word (fun vs H Q E h => l_law_is_word h) (fun cdv A outer s H vs Q E hr h => ⟨T_law_is_word K, ?_, R_law_is_word h⟩)
  have hu := hu_of hr
  exact (pss_cons (ps_if (PW.pt (pw_or (pt_not (pt_val (pe_callB c_isi (by rfl) T.isinstance (by decide +kernel) (pa_cons (pv 0) (pa_cons (pe_bltn (v := .ty "str") (by rfl) T.str (by decide +kernel) rfl) pa_nil))))) (pw_or1 (pt_cmpR o_gt (pe_callB c_lenS (by rfl) T.len PySem.boot_len (pa_cons (pv 0) pa_nil)) pe_int (nomark _)))))
     (pss_one (ps_ret pe_bl)) pss_nil)
     (pss_one (ps_ret (pe_cmpR (o_eqD hr.units) (pe_lc (own := [("_law_letter", 1)]) (g := (gName 1)) (tt := (tTest (tOp nNotInS (tVar 1) (tC (tx abc))))) (by rfl) sc_law_is_word.nd (pi_str (pv 0)) (blkOk_by (own := [("_law_letter", 1)]) (N := ["_law_thing_here", "_law_letter"]) (sc := defScope s_law_is_word) (by decide +kernel)) (fun _ _ _ _ _ => (pg_name (i := 1) sc_law_is_word.nd rfl (Or.inl rfl))) (fun _ _ _ _ _ => pts_one (pt_cmpR o_notInS (pv 1) (pe_tx (w := abc) (by decide +kernel)) (by rfl))) (fun _ _ _ _ _ => (pv 1))) (pe_lst pa_nil) (nomark _)))))
theorem ok_law_sign {f : Addr} {fd : FuncData} (F : Fun K "_law_sign" "_law_sign" s_law_sign f fd) (T : Txt K mg)  : FnOk P w K mg base CX0 1 f fd ["_law_cell"] (sp_law_sign K) := by
  refine F.ok sc_law_sign (fun vs H Q E h => l_law_sign h) (fun cdv A outer s H vs Q E hr h => ⟨T_law_sign K, ?_, R_law_sign h⟩)
  have hu := hu_of hr
  exact (pss_cons (ps_set (i := 1) sc_law_sign.nd rfl (Or.inl rfl) (pe_tx (w := [32, 33, 34, 35, 36, 38, 39, 40, 41, 42, 43, 44, 45, 46, 47, 48, 49, 50, 51, 52, 53, 54, 55, 56, 57, 58, 59, 60, 61, 62, 63, 64, 65, 66, 67, 68, 69, 70, 71, 72, 73, 74, 75, 76, 77, 78, 79, 80, 81, 82, 83, 84, 85, 86, 87, 88, 89, 90, 91, 92, 93, 94, 95, 96, 123, 124, 125, 126, 10, 9]) (by decide +kernel)))
     (pss_one (ps_ret (pe_ix x_str (pv 1) (pe_op o_mod (pv 0) (pe_callB c_lenS (by rfl) T.len PySem.boot_len (pa_cons (pv 1) pa_nil))) (fun _ _ => rfl)))))
theorem ok_law_thing {f : Addr} {fd : FuncData} (F : Fun K "_law_thing" "_law_thing" s_law_thing f fd) (T : Txt K mg) (c_law_sign : Cal P w K mg base CX0 1 "_law_sign" ["_law_cell"] (sp_law_sign K)) : FnOk P w K mg base CX0 2 f fd ["_law_cell"] (sp_law_thing K) := by
  obtain ⟨f_law_sign, fd_law_sign, G_law_sign, g_law_sign, kp_law_sign, b_law_sign⟩ := c_law_sign.ex
  refine F.ok sc_law_thing (fun vs H Q E h => l_law_thing h) (fun cdv A outer s H vs Q E hr h => ⟨T_law_thing K, ?_, R_law_thing h⟩)
  have hu := hu_of hr
  exact (pss_cons (ps_set (i := 1) sc_law_thing.nd rfl (Or.inr rfl) (pe_tx (w := abc) (by decide +kernel)))
     (pss_cons (ps_set (i := 2) sc_law_thing.nd rfl (Or.inl rfl) (pe_join (pe_tx (w := []) (by decide +kernel)) (pe_lc (own := [("_law_k", 3)]) (g := (gName 3)) (tt := tYes) (by rfl) sc_law_thing.nd (pi_range1 (by rfl) T.range (pa_cons (pe_op o_mod (pe_op o_div (pv 0) pe_int) pe_int) pa_nil)) (blkOk_by (own := [("_law_k", 3)]) (N := ["_law_cell", "_law_letters", "_law_text", "_law_k", "_law_at"]) (sc := defScope s_law_thing) (by decide +kernel)) (fun _ _ _ _ _ => (pg_name (i := 3) sc_law_thing.nd rfl (Or.inl rfl))) (fun _ _ _ _ _ => pts_nil) (fun _ _ _ _ _ => (pe_ix x_str (pv 1) (pe_op o_mod (pe_op o_add (pe_op o_div (pv 0) pe_int) (pe_op o_mul (pe_op o_mul pe_int (pv 3)) (pe_op o_mod (pv 0) pe_int))) pe_int) (fun _ _ => rfl))))))
     (pss_cons (ps_if (pt_cmpR o_lt (pe_op o_mod (pv 0) pe_int) pe_int (nomark _))
     (pss_one (ps_ret (pv 2))) pss_nil)
     (pss_cons (ps_if (pt_cmpR o_lt (pe_op o_mod (pv 0) pe_int) pe_int (nomark _))
     (pss_cons (ps_set (i := 4) sc_law_thing.nd rfl (Or.inl rfl) (pe_op o_mod (pe_op o_div (pv 0) pe_int) (pe_op o_add (pe_callB c_lenS (by rfl) T.len PySem.boot_len (pa_cons (pv 2) pa_nil)) pe_int)))
     (pss_one (ps_ret (pe_op o_cat (pe_op o_cat (pe_slice l_str (pv 2) po_none (po_some (pv 4))) (pe_call G_law_sign (hr.mono (by decide)) (by rfl) g_law_sign kp_law_sign b_law_sign .nil pass0 (pa_cons (pe_op o_div (pv 0) pe_int) pa_nil))) (pe_slice l_str (pv 2) (po_some (pv 4)) po_none))))) pss_nil)
     (pss_one (ps_ret (pe_ix x_list (pe_lst (pa_cons pe_non (pa_cons pe_int (pa_cons pe_bl (pa_cons (pe_tup (pa_cons (pe_tx (w := [97]) (by decide +kernel)) pa_nil)) (pa_cons (pe_lst (pa_cons (pe_tx (w := [97]) (by decide +kernel)) pa_nil)) (pa_cons pe_dnewK (pa_cons (pe_lst pa_nil) (pa_cons (pe_tup (pa_cons (pe_tx (w := [97]) (by decide +kernel)) (pa_cons (pe_tx (w := [98]) (by decide +kernel)) pa_nil))) (pa_cons pe_int (pa_cons (pe_un o_neg pe_int) (pa_cons pe_bl (pa_cons (pe_disp (pps_cons (pe_tx (w := [97]) (by decide +kernel)) pe_int pps_nil) (by rfl) (by rfl) (fun z => by cases z) (by decide)) pa_nil))))))))))))) (pe_op o_mod (pe_op o_div (pv 0) pe_int) pe_int) (fun _ _ => rfl))))))))
theorem ok_is_word {f : Addr} {fd : FuncData} (F : Fun K "is_word" "is_word" s_is_word f fd) (T : Txt K mg)  : FnOk P w K mg base CX0 1 f fd ["thing"] (sp_is_word K) := by
  obtain ⟨tk_LETTERS, g_LETTERS⟩ := T.c_LETTERS
  obtain ⟨tk_MOST_LETTERS, g_MOST_LETTERS⟩ := T.c_MOST_LETTERS
  refine F.ok sc_is_word (fun vs H Q E h => l_is_word h) (fun cdv A outer s H vs Q E hr h => ⟨T_is_word K, ?_, R_is_word h⟩)
  have hu := hu_of hr
  exact (pss_cons (ps_if (PW.pt (pw_or (pt_not (pt_val (pe_callB c_isi (by rfl) T.isinstance (by decide +kernel) (pa_cons (pv 0) (pa_cons (pe_bltn (v := .ty "str") (by rfl) T.str (by decide +kernel) rfl) pa_nil))))) (pw_or1 (pt_cmpR o_gt (pe_callB c_lenS (by rfl) T.len PySem.boot_len (pa_cons (pv 0) pa_nil)) (pe_glob rfl g_MOST_LETTERS ⟨_, rfl⟩) (nomark _)))))
     (pss_one (ps_ret pe_bl)) pss_nil)
     (pss_cons (ps_for PassesOwn.never rfl (pi_str (pv 0)) (pg_name (i := 1) sc_is_word.nd rfl (Or.inl rfl))
     (pss_one (ps_if (pt_cmpR o_notInS (pv 1) (pe_glob rfl g_LETTERS ⟨_, rfl⟩) (by rfl))
     (pss_one (ps_ret pe_bl)) pss_nil)))
     (pss_one (ps_ret pe_bl))))
theorem ok_law1 {f : Addr} {fd : FuncData} (F : Fun K "law" "law" s_law1 f fd) (T : Txt K mg) (c_law_is_word : Cal P w K mg base CX0 1 "_law_is_word" ["_law_thing_here"] (sp_law_is_word K)) (c_law_thing : Cal P w K mg base CX0 2 "_law_thing" ["_law_cell"] (sp_law_thing K)) (c_is_word : Cal P w K mg base CX0 1 "is_word" ["thing"] (sp_is_word K)) : FnOk P w K mg base CX0 3 f fd ["_law_script"] (sp_law1 K) := by
  obtain ⟨f_law_is_word, fd_law_is_word, G_law_is_word, g_law_is_word, kp_law_is_word, b_law_is_word⟩ := c_law_is_word.ex
  obtain ⟨f_law_thing, fd_law_thing, G_law_thing, g_law_thing, kp_law_thing, b_law_thing⟩ := c_law_thing.ex
  obtain ⟨f_is_word, fd_is_word, G_is_word, g_is_word, kp_is_word, b_is_word⟩ := c_is_word.ex
  obtain ⟨tk_LETTERS, g_LETTERS⟩ := T.c_LETTERS
  obtain ⟨tk_MOST_LETTERS, g_MOST_LETTERS⟩ := T.c_MOST_LETTERS
  obtain ⟨tk_MOST_WORDS, g_MOST_WORDS⟩ := T.c_MOST_WORDS
  refine F.ok sc_law1 (fun vs H Q E h => l_law1 h) (fun cdv A outer s H vs Q E hr h => ⟨T_law1 K, ?_, R_law1 h⟩)
  have hu := hu_of hr
  exact (pss_cons (ps_if (PW.pt (pw_or (pt_cmpR o_ne (pe_glob rfl g_LETTERS ⟨_, rfl⟩) (pe_tx (w := abc) (by decide +kernel)) (nomark _)) (pw_or (pt_cmpR o_ne (pe_glob rfl g_MOST_LETTERS ⟨_, rfl⟩) pe_int (nomark _)) (pw_or1 (pt_cmpR o_ne (pe_glob rfl g_MOST_WORDS ⟨_, rfl⟩) pe_int (nomark _))))))
     (pss_one (ps_ret pe_bl)) pss_nil)
     (pss_cons (ps_for PassesOwn.never rfl (pi_range1 (by rfl) T.range (pa_cons (pe_callB c_lenL (by rfl) T.len PySem.boot_len (pa_cons (pv 0) pa_nil)) pa_nil)) (pg_name (i := 1) sc_law1.nd rfl (Or.inl rfl))
     (pss_cons (ps_set (i := 2) sc_law1.nd rfl (Or.inl rfl) (pe_call G_law_thing (hr.mono (by decide)) (by rfl) g_law_thing kp_law_thing b_law_thing .nil pass0 (pa_cons (pe_op o_add (pe_ix x_list (pv 0) (pv 1) (fun _ _ => rfl)) (pe_op o_mul pe_int (pv 1))) pa_nil)))
     (pss_cons (ps_set (i := 3) sc_law1.nd rfl (Or.inl rfl) (pe_call G_is_word (hr.mono (by decide)) (by rfl) g_is_word kp_is_word b_is_word .nil pass0 (pa_cons (pv 2) pa_nil)))
     (pss_one (ps_if (PW.pt (pw_or (pt_not (pt_val (pe_callB c_isi (by rfl) T.isinstance (by decide +kernel) (pa_cons (pv 3) (pa_cons (pe_bltn (v := .ty "bool") (by rfl) T.bool (by decide +kernel) rfl) pa_nil))))) (pw_or1 (pt_cmpR o_ne (pv 3) (pe_call G_law_is_word (hr.mono (by decide)) (by rfl) g_law_is_word kp_law_is_word b_law_is_word .nil pass0 (pa_cons (pv 2) pa_nil)) (nomark _)))))
     (pss_one (ps_ret pe_bl)) pss_nil)))))
     (pss_one (ps_ret pe_bl))))
end
theorem all_mk {l : PySem.W.OpenLaw} {w : World} {K : PySem.W.Frag} {h : Heap} {mg : Str → Option Value} {fa : Addr} (X : K.In h) (G : h.Ns mainGlobals mg) (hfa : mg "law" = some (.ref fa))
    {f_law_is_word : Addr} {od_law_is_word an_law_is_word : Option Addr} {sl_law_is_word : Array (Option Value)} {oc_law_is_word kV_law_is_word dc_law_is_word pm_law_is_word cd_law_is_word ct_law_is_word : Value}
    {f_law_sign : Addr} {od_law_sign an_law_sign : Option Addr} {sl_law_sign : Array (Option Value)} {oc_law_sign kV_law_sign dc_law_sign pm_law_sign cd_law_sign ct_law_sign : Value}
    {f_law_thing : Addr} {od_law_thing an_law_thing : Option Addr} {sl_law_thing : Array (Option Value)} {oc_law_thing kV_law_thing dc_law_thing pm_law_thing cd_law_thing ct_law_thing : Value}
    {f_is_word : Addr} {od_is_word an_is_word : Option Addr} {sl_is_word : Array (Option Value)} {oc_is_word kV_is_word dc_is_word pm_is_word cd_is_word ct_is_word : Value}
    {f_law1 : Addr} {od_law1 an_law1 : Option Addr} {sl_law1 : Array (Option Value)} {oc_law1 kV_law1 dc_law1 pm_law1 cd_law1 ct_law1 : Value}
    {t_LETTERS : Tok}
    {t_MOST_LETTERS : Tok}
    {t_MOST_WORDS : Tok}
    (a_law_is_word : PySem.W.nsIn K mainGlobals "_law_is_word" = some (some (.ref f_law_is_word))) (l_law_is_word : K.lookup f_law_is_word = some ⟨oc_law_is_word, od_law_is_word, .func (PySem.W.fnOf "_law_is_word" "_law_is_word" (defArgs s_law_is_word) (defBody s_law_is_word) (defScope s_law_is_word) .none kV_law_is_word dc_law_is_word pm_law_is_word an_law_is_word cd_law_is_word ct_law_is_word), sl_law_is_word⟩) (e_law_is_word : PySem.W.codeIn K cd_law_is_word "_law_is_word" = true) (k_law_is_word : PySem.W.keepIn K (.ref f_law_is_word) = true)
    (a_law_sign : PySem.W.nsIn K mainGlobals "_law_sign" = some (some (.ref f_law_sign))) (l_law_sign : K.lookup f_law_sign = some ⟨oc_law_sign, od_law_sign, .func (PySem.W.fnOf "_law_sign" "_law_sign" (defArgs s_law_sign) (defBody s_law_sign) (defScope s_law_sign) .none kV_law_sign dc_law_sign pm_law_sign an_law_sign cd_law_sign ct_law_sign), sl_law_sign⟩) (e_law_sign : PySem.W.codeIn K cd_law_sign "_law_sign" = true) (k_law_sign : PySem.W.keepIn K (.ref f_law_sign) = true)
    (a_law_thing : PySem.W.nsIn K mainGlobals "_law_thing" = some (some (.ref f_law_thing))) (l_law_thing : K.lookup f_law_thing = some ⟨oc_law_thing, od_law_thing, .func (PySem.W.fnOf "_law_thing" "_law_thing" (defArgs s_law_thing) (defBody s_law_thing) (defScope s_law_thing) .none kV_law_thing dc_law_thing pm_law_thing an_law_thing cd_law_thing ct_law_thing), sl_law_thing⟩) (e_law_thing : PySem.W.codeIn K cd_law_thing "_law_thing" = true) (k_law_thing : PySem.W.keepIn K (.ref f_law_thing) = true)
    (a_is_word : PySem.W.nsIn K mainGlobals "is_word" = some (some (.ref f_is_word))) (l_is_word : K.lookup f_is_word = some ⟨oc_is_word, od_is_word, .func (PySem.W.fnOf "is_word" "is_word" (defArgs s_is_word) (defBody s_is_word) (defScope s_is_word) .none kV_is_word dc_is_word pm_is_word an_is_word cd_is_word ct_is_word), sl_is_word⟩) (e_is_word : PySem.W.codeIn K cd_is_word "is_word" = true) (k_is_word : PySem.W.keepIn K (.ref f_is_word) = true)
    (a_law1 : PySem.W.nsIn K mainGlobals "law" = some (some (.ref f_law1))) (l_law1 : K.lookup f_law1 = some ⟨oc_law1, od_law1, .func (PySem.W.fnOf "law" "law" (defArgs s_law1) (defBody s_law1) (defScope s_law1) .none kV_law1 dc_law1 pm_law1 an_law1 cd_law1 ct_law1), sl_law1⟩) (e_law1 : PySem.W.codeIn K cd_law1 "law" = true) (k_law1 : PySem.W.keepIn K (.ref f_law1) = true)
    (z_bool : PySem.W.nsIn K mainGlobals "bool" = some none)
    (z_isinstance : PySem.W.nsIn K mainGlobals "isinstance" = some none)
    (z_len : PySem.W.nsIn K mainGlobals "len" = some none)
    (z_range : PySem.W.nsIn K mainGlobals "range" = some none)
    (z_str : PySem.W.nsIn K mainGlobals "str" = some none)
    (v_LETTERS : PySem.W.nsIn K mainGlobals "LETTERS" = some (some (.str "abcdefghijklmnopqrstuvwxyz" t_LETTERS)))
    (v_MOST_LETTERS : PySem.W.nsIn K mainGlobals "MOST_LETTERS" = some (some (.int 24 t_MOST_LETTERS)))
    (v_MOST_WORDS : PySem.W.nsIn K mainGlobals "MOST_WORDS" = some (some (.int 400 t_MOST_WORDS)))
    : ∃ fd : FuncData, (∀ (s : Shared) (v : Value), BindsTo s fd ⟨[v], []⟩ [("_law_script", v)]) ∧ ∀ base : Heap, K.In base → base.Ns mainGlobals mg → FnOk l.prog w K mg base CX0 3 fa fd ["_law_script"] (sp_law1 K) := by
  have e := hfa.symm.trans (PySem.W.mg_of X G a_law1)
  cases e
  have T : Txt K mg := ⟨PySem.W.mg_none_of X G z_bool, PySem.W.mg_none_of X G z_isinstance, PySem.W.mg_none_of X G z_len, PySem.W.mg_none_of X G z_range, PySem.W.mg_none_of X G z_str, ⟨t_LETTERS, (PySem.W.mg_of X G v_LETTERS).trans (congrArg (fun z => some (Value.str z t_LETTERS)) (by decide +kernel))⟩, ⟨t_MOST_LETTERS, PySem.W.mg_of X G v_MOST_LETTERS⟩, ⟨t_MOST_WORDS, PySem.W.mg_of X G v_MOST_WORDS⟩⟩
  have F_law_is_word := fun_mk (st := s_law_is_word) l_law_is_word e_law_is_word k_law_is_word
  have b_law_is_word := F_law_is_word.binds (ps := ["_law_thing_here"]) fun _ _ _ _ _ _ us hl => match us, hl with | [_], _ => rfl
  have F_law_sign := fun_mk (st := s_law_sign) l_law_sign e_law_sign k_law_sign
  have b_law_sign := F_law_sign.binds (ps := ["_law_cell"]) fun _ _ _ _ _ _ us hl => match us, hl with | [_], _ => rfl
  have F_law_thing := fun_mk (st := s_law_thing) l_law_thing e_law_thing k_law_thing
  have b_law_thing := F_law_thing.binds (ps := ["_law_cell"]) fun _ _ _ _ _ _ us hl => match us, hl with | [_], _ => rfl
  have F_is_word := fun_mk (st := s_is_word) l_is_word e_is_word k_is_word
  have b_is_word := F_is_word.binds (ps := ["thing"]) fun _ _ _ _ _ _ us hl => match us, hl with | [_], _ => rfl
  have F_law1 := fun_mk (st := s_law1) l_law1 e_law1 k_law1
  have b_law1 := F_law1.binds (ps := ["_law_script"]) fun _ _ _ _ _ _ us hl => match us, hl with | [_], _ => rfl
  refine ⟨PySem.W.fnOf "law" "law" (defArgs s_law1) (defBody s_law1) (defScope s_law1) .none kV_law1 dc_law1 pm_law1 an_law1 cd_law1 ct_law1, fun s v => .of_eq rfl, fun base _ _ => ?_⟩
  have C_law_is_word : Cal l.prog w K mg base CX0 1 "_law_is_word" ["_law_thing_here"] (sp_law_is_word K) := ⟨f_law_is_word, _, ok_law_is_word F_law_is_word T , PySem.W.mg_of X G a_law_is_word, k_law_is_word, b_law_is_word⟩
  have C_law_sign : Cal l.prog w K mg base CX0 1 "_law_sign" ["_law_cell"] (sp_law_sign K) := ⟨f_law_sign, _, ok_law_sign F_law_sign T , PySem.W.mg_of X G a_law_sign, k_law_sign, b_law_sign⟩
  have C_law_thing : Cal l.prog w K mg base CX0 2 "_law_thing" ["_law_cell"] (sp_law_thing K) := ⟨f_law_thing, _, ok_law_thing F_law_thing T C_law_sign, PySem.W.mg_of X G a_law_thing, k_law_thing, b_law_thing⟩
  have C_is_word : Cal l.prog w K mg base CX0 1 "is_word" ["thing"] (sp_is_word K) := ⟨f_is_word, _, ok_is_word F_is_word T , PySem.W.mg_of X G a_is_word, k_is_word, b_is_word⟩
  exact ok_law1 F_law1 T C_law_is_word C_law_thing C_is_word
end Row1
open PySem PySem.W PyProof.Rows
set_option maxHeartbeats 0 in
theorem PySem.Challenge.cw_nearword_k01_what_is_a_word_holds : PySem.Challenge.rw_nearword_k01_what_is_a_word.Holds := by
  w_on; o_law; k_head; (case hw => w_witness2)
  k_fill
  refine L2.walk_of (l := PySem.Challenge.rw_nearword_k01_what_is_a_word) (n := 63) (k := 3) (x := "_law_script") (CX := fun _ => L2.CX0) (sp := fun w => Nw.sp_law1 _) rfl (by decide) rfl ⟨rfl, by decide, by decide⟩ (fun w h Y => PySem.W.kIn_of Y) ?F (fun _ _ a ns hl _ hS => ⟨a, ns, rfl, hS, hl, fun _ => rfl⟩) (fun _ _ _ _ _ h => h)
  case F =>
    intro w mg fa h KX G hmg
    refine' Row1.all_mk KX G hmg ?a_law_is_word ?l_law_is_word ?e_law_is_word ?k_law_is_word ?a_law_sign ?l_law_sign ?e_law_sign ?k_law_sign ?a_law_thing ?l_law_thing ?e_law_thing ?k_law_thing ?a_is_word ?l_is_word ?e_is_word ?k_is_word ?a_law1 ?l_law1 ?e_law1 ?k_law1 ?z_bool ?z_isinstance ?z_len ?z_range ?z_str ?v_LETTERS ?v_MOST_LETTERS ?v_MOST_WORDS
    (case a_law_is_word => k_is)
    (case l_law_is_word => k_is)
    (case e_law_is_word => k_is)
    (case k_law_is_word => k_is)
    (case a_law_sign => k_is)
    (case l_law_sign => k_is)
    (case e_law_sign => k_is)
    (case k_law_sign => k_is)
    (case a_law_thing => k_is)
    (case l_law_thing => k_is)
    (case e_law_thing => k_is)
    (case k_law_thing => k_is)
    (case a_is_word => k_is)
    (case l_is_word => k_is)
    (case e_is_word => k_is)
    (case k_is_word => k_is)
    (case a_law1 => k_is)
    (case l_law1 => k_is)
    (case e_law1 => k_is)
    (case k_law1 => k_is)
    (case z_bool => k_is)
    (case z_isinstance => k_is)
    (case z_len => k_is)
    (case z_range => k_is)
    (case z_str => k_is)
    (case v_LETTERS => k_is)
    (case v_MOST_LETTERS => k_is)
    (case v_MOST_WORDS => k_is)

