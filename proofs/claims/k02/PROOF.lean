import PyProof.Rows.All
import Wide.All
import OpenK.AllK
import Wide.FinOn
import HandS.ForMost
import HandS.Evl
import HandS.IsInst
import HandS.WordsExc
import HandS.TryOnly
import HandS.ExcOwn
import HandS.Steps
import HandS.More
import HandS.Conv
import KE.Datum
import HandS.ExcIs
import HandS.HotCalls
import PyProof.NeData
import PyProof.NeKinds
import PySem.Challenge.RW_nearword_k02_a_change_done
set_option Elab.async false
set_option linter.all false
set_option maxRecDepth 100000
set_option Elab.async false
set_option linter.all false
set_option maxRecDepth 100000
/-! Nw.Base: texts as lists of codes, named operations, and what expressions evaluate to. -/
namespace Nw
open PySem L2 Evl

/-! ### texts as lists of codes -/
abbrev tx (w : List Nat) : V := .str ⟨w.toArray⟩
theorem tx_len (w : List Nat) : (⟨w.toArray⟩ : Str).length = w.length := by simp [Str.length]
theorem tx_app (a b : List Nat) : (⟨a.toArray⟩ : Str) ++ ⟨b.toArray⟩ = ⟨(a ++ b).toArray⟩ := TL.ext_tl (by rw [TL.tl_append])
theorem tx_inj {a b : List Nat} : (tx a = tx b) ↔ a = b := by
  constructor
  · intro h
    have h1 : (⟨a.toArray⟩ : Str) = ⟨b.toArray⟩ := V.str.inj h
    have h2 : a.toArray = b.toArray := congrArg Str.cps h1
    exact List.toArray_inj h2
  · intro h; rw [h]
theorem line1 {n : Nat} (h : n ≤ 100000) : n ≤ sizeLine := Evl.sz_of h

/-- the letters a to z -/
def abc : List Nat := (List.range 26).map (· + 97)
def Low (w : List Nat) : Prop := ∀ c ∈ w, 97 ≤ c ∧ c < 123
instance (w : List Nat) : Decidable (Low w) := by unfold Low; infer_instance
theorem mem_abc {c : Nat} : c ∈ abc ↔ 97 ≤ c ∧ c < 123 := by
  unfold abc
  rw [List.mem_map]
  constructor
  · rintro ⟨a, ha, rfl⟩
    rw [List.mem_range] at ha
    omega
  · intro h
    exact ⟨c - 97, List.mem_range.mpr (by omega), by omega⟩
theorem abc_at {i : Nat} (h : i < 26) : abc[i]? = some (i + 97) := by
  unfold abc
  rw [List.getElem?_map, List.getElem?_range h]
  rfl
theorem low_nil : Low [] := fun c h => by cases h
theorem low_app {a b : List Nat} (ha : Low a) (hb : Low b) : Low (a ++ b) := fun c h => (List.mem_append.mp h).elim (ha c) (hb c)
theorem low_take {a : List Nat} (n : Nat) (ha : Low a) : Low (a.take n) := fun c h => ha c (List.mem_of_mem_take h)
theorem low_drop {a : List Nat} (n : Nat) (ha : Low a) : Low (a.drop n) := fun c h => ha c (List.mem_of_mem_drop h)
theorem low_one {c : Nat} (h : 97 ≤ c ∧ c < 123) : Low [c] := fun d hd => by
  rw [List.mem_singleton] at hd
  subst hd
  exact h

/-! ### operations by name -/
def nAdd : R2 := rI0 fun i j => .int (i + j)
def nSub : R2 := rI0 fun i j => .int (i - j)
def nMul : R2 := rI CMul fun i j => .int (i * j)
def nDiv : R2 := rI CDiv fun i j => .int (i / j)
def nMod : R2 := rI (fun _ j => 0 < j) fun i j => .int (i % j)
def nCat : R2 := fun x y H Q => ∃ i j, x = .str i ∧ y = .str j ∧ i.length + j.length ≤ sizeLine ∧ Q (.str (i ++ j)) H
def nLt : R2 := rI0 fun i j => .bl (decide (i < j))
def nLe : R2 := rI0 fun i j => .bl (decide (i ≤ j))
def nGt : R2 := rI0 fun i j => .bl (decide (j < i))
def nGe : R2 := rI0 fun i j => .bl (decide (j ≤ i))
def nEq : R2 := rEq
def nNe : R2 := rNe
def nIsN : R2 := fun x y H Q => y = .non ∧ Q (.bl (decide (x = .non))) H
def nNotN : R2 := fun x y H Q => y = .non ∧ Q (.bl (!decide (x = .non))) H
def nInS : R2 := fun x y H Q => ∃ (c : Nat) (z : Str), x = .str ⟨#[c]⟩ ∧ y = .str z ∧ Q (.bl (decide (c ∈ z.cps.toList))) H
def nNotInS : R2 := fun x y H Q => ∃ (c : Nat) (z : Str), x = .str ⟨#[c]⟩ ∧ y = .str z ∧ Q (.bl (!decide (c ∈ z.cps.toList))) H
def nInL (K : PySem.W.Frag) : R2 := rIn K false
def nNotInL (K : PySem.W.Frag) : R2 := rIn K true
def nIxL (K : PySem.W.Frag) : R2 := rIxL K
def nIxT (K : PySem.W.Frag) : R2 := rIxT K
def nIxS : R2 := rIxS
def nSlS : V → Option Int → Option Int → Hp → VK → Prop := rSlS
def nSlL (K : PySem.W.Frag) : V → Option Int → Option Int → Hp → VK → Prop := rSlL K
def nLenS : List V → Hp → VK → Prop := fun xs H Q => ∃ z, xs = [.str z] ∧ z.length ≤ sizeLine ∧ Q (.int z.length) H
def nLenL (K : PySem.W.Frag) : List V → Hp → VK → Prop := fun xs H Q => ∃ p ys, xs = [.ref p] ∧ (SqL K H p ys ∨ SqT K H p ys) ∧ Q (.int ys.length) H
def nLenA (K : PySem.W.Frag) : List V → Hp → VK → Prop := fun xs H Q => ∃ x n, xs = [x] ∧ LenV K x H n ∧ Q (.int n) H
def nLenD : List V → Hp → VK → Prop := fun xs H Q => ∃ a kvs, xs = [V.ref a] ∧ H a = some (.dK kvs) ∧ Q (.int kvs.length) H
def nIsi (K : PySem.W.Frag) : List V → Hp → VK → Prop := rIsi K
def nLcat : R2 := rCat
section
variable {X : Cx}
theorem o_add : OpR X (binaryOp .Add) nAdd := op_add
theorem o_sub : OpR X (binaryOp .Sub) nSub := op_sub
theorem o_mul : OpR X (binaryOp .Mult) nMul := op_mul
theorem o_div : OpR X (binaryOp .FloorDiv) nDiv := op_fdiv
theorem o_mod : OpR X (binaryOp .Mod) nMod := op_mod
theorem o_cat : OpR X (binaryOp .Add) nCat := op_add_str
theorem o_lcat : OpR X (binaryOp .Add) nLcat := op_cat
theorem o_lt : OpR X (compareOp .Lt) nLt := op_lt
theorem o_le : OpR X (compareOp .LtE) nLe := op_le
theorem o_gt : OpR X (compareOp .Gt) nGt := op_gt
theorem o_ge : OpR X (compareOp .GtE) nGe := op_ge
theorem o_eq : OpR X (compareOp .Eq) nEq := op_eq
theorem o_ne : OpR X (compareOp .NotEq) nNe := op_ne
theorem o_isN : OpR X (compareOp .Is) nIsN := op_isN
theorem o_notN : OpR X (compareOp .IsNot) nNotN := op_notN
theorem o_inS : OpR X (compareOp .In) nInS := op_in_sign
theorem o_notInS : OpR X (compareOp .NotIn) nNotInS := op_notIn_sign
theorem o_inL : OpR X (compareOp .In) (nInL X.K) := op_in_seq
theorem o_notInL : OpR X (compareOp .NotIn) (nNotInL X.K) := op_notIn_seq
theorem x_list : IxR X (nIxL X.K) := ix_list
theorem x_tup : IxR X (nIxT X.K) := ix_tup
theorem x_str : IxR X nIxS := ix_str
theorem l_str : SlR X nSlS := sl_str
theorem l_list : SlR X (nSlL X.K) := sl_list
theorem c_lenS : CallR X (.builtin "len") nLenS := call_len_str
theorem c_lenL : CallR X (.builtin "len") (nLenL X.K) := call_len_seq
theorem c_lenA : CallR X (.builtin "len") (nLenA X.K) := call_len
theorem c_lenD : CallR X (.builtin "len") nLenD := call_lenD
theorem c_isi : CallR X (.builtin "isinstance") (nIsi X.K) := call_isi
theorem pe_tx {x : Str} {w : List Nat} {j : Nat} {pos : Pos} (h : x = ⟨w.toArray⟩) : PE X (.Constant (.str x) j pos) (tC (tx w)) := by
  subst h
  exact pe_str
end

/-! ### what evaluates to what -/
section
variable {K : PySem.W.Frag} {σ : L2.St} {H H' : Hp} {ta tb te tx' : TE} {t u : TT} {x y z v : V} {r : R2} {i j : Int} {a b : List Nat}
/-- a value of which P holds -/
def EvP (te : TE) (σ : L2.St) (H : Hp) (P : V → Prop) : Prop := ∀ H1, Ex H H1 → ∀ Q : VK, (∀ v H2, Ex H1 H2 → P v → Q v H2) → te σ H1 Q
theorem EvP.mono {P : V → Prop} (e : Ex H H') (h : EvP te σ H P) : EvP te σ H' P := fun H1 a Q q => h H1 (e.trans a) Q q
theorem e_add (ha : Ev ta σ H (.int i)) (hb : Ev tb σ H (.int j)) : Ev (tOp nAdd ta tb) σ H (.int (i + j)) := ev_op ha hb fun H1 e Q q => ⟨i, j, rfl, rfl, q H1 (Ex.refl H1)⟩
theorem e_sub (ha : Ev ta σ H (.int i)) (hb : Ev tb σ H (.int j)) : Ev (tOp nSub ta tb) σ H (.int (i - j)) := ev_op ha hb fun H1 e Q q => ⟨i, j, rfl, rfl, q H1 (Ex.refl H1)⟩
theorem e_mul (ha : Ev ta σ H (.int i)) (hb : Ev tb σ H (.int j)) (h : CMul i j) : Ev (tOp nMul ta tb) σ H (.int (i * j)) := ev_op ha hb fun H1 e Q q => ⟨i, j, rfl, rfl, h, q H1 (Ex.refl H1)⟩
theorem e_div (ha : Ev ta σ H (.int i)) (hb : Ev tb σ H (.int j)) (h : 0 < j ∧ j < 1073741824) : Ev (tOp nDiv ta tb) σ H (.int (i / j)) := ev_op ha hb fun H1 e Q q => ⟨i, j, rfl, rfl, h, q H1 (Ex.refl H1)⟩
theorem e_mod (ha : Ev ta σ H (.int i)) (hb : Ev tb σ H (.int j)) (h : 0 < j) : Ev (tOp nMod ta tb) σ H (.int (i % j)) := ev_op ha hb fun H1 e Q q => ⟨i, j, rfl, rfl, h, q H1 (Ex.refl H1)⟩
theorem e_cat (ha : Ev ta σ H (tx a)) (hb : Ev tb σ H (tx b)) (h : a.length + b.length ≤ 100000) : Ev (tOp nCat ta tb) σ H (tx (a ++ b)) := ev_op ha hb fun H1 e Q q =>
  ⟨_, _, rfl, rfl, by rw [tx_len, tx_len]; exact line1 h, by
    have q1 := q H1 (Ex.refl H1)
    rw [tx_app]
    exact q1⟩
theorem e_lt (ha : Ev ta σ H (.int i)) (hb : Ev tb σ H (.int j)) : Ev (tOp nLt ta tb) σ H (.bl (decide (i < j))) := ev_op ha hb fun H1 e Q q => ⟨i, j, rfl, rfl, q H1 (Ex.refl H1)⟩
theorem e_le (ha : Ev ta σ H (.int i)) (hb : Ev tb σ H (.int j)) : Ev (tOp nLe ta tb) σ H (.bl (decide (i ≤ j))) := ev_op ha hb fun H1 e Q q => ⟨i, j, rfl, rfl, q H1 (Ex.refl H1)⟩
theorem e_gt (ha : Ev ta σ H (.int i)) (hb : Ev tb σ H (.int j)) : Ev (tOp nGt ta tb) σ H (.bl (decide (j < i))) := ev_op ha hb fun H1 e Q q => ⟨i, j, rfl, rfl, q H1 (Ex.refl H1)⟩
theorem e_ge (ha : Ev ta σ H (.int i)) (hb : Ev tb σ H (.int j)) : Ev (tOp nGe ta tb) σ H (.bl (decide (j ≤ i))) := ev_op ha hb fun H1 e Q q => ⟨i, j, rfl, rfl, q H1 (Ex.refl H1)⟩
/-- == of scalars -/
inductive EqB : V → V → Bool → Prop where
  | ii {i j : Int} : EqB (.int i) (.int j) (decide (i = j))
  | ss {a b : List Nat} : EqB (tx a) (tx b) (decide (a = b))
  | bb {a b : Bool} : EqB (.bl a) (.bl b) (decide (a = b))
  | is {i : Int} {b : Str} : EqB (.int i) (.str b) false
  | si {i : Int} {b : Str} : EqB (.str b) (.int i) false
  | bs {i : Bool} {b : Str} : EqB (.bl i) (.str b) false
  | sb {i : Bool} {b : Str} : EqB (.str b) (.bl i) false
  | ns {b : Str} : EqB .non (.str b) false
  | sn {b : Str} : EqB (.str b) .non false
  | ni {b : Int} : EqB .non (.int b) false
  | in_ {b : Int} : EqB (.int b) .non false
  | nn : EqB .non .non true
theorem dec_eq {p q : Prop} [Decidable p] [Decidable q] (h : p ↔ q) : decide p = decide q := by
  by_cases hp : p
  · rw [decide_eq_true hp, decide_eq_true (h.mp hp)]
  · rw [decide_eq_false hp, decide_eq_false (fun z => hp (h.mpr z))]
theorem EqB.sc {x y : V} {b : Bool} (h : EqB x y b) : scal x y = true ∧ decide (x = y) = b := by
  cases h with
  | ii => exact ⟨rfl, dec_eq ⟨fun h => V.int.inj h, fun h => by rw [h]⟩⟩
  | ss => exact ⟨rfl, dec_eq tx_inj⟩
  | bb => exact ⟨rfl, dec_eq ⟨fun h => V.bl.inj h, fun h => by rw [h]⟩⟩
  | is => exact ⟨rfl, decide_eq_false (fun z => nomatch z)⟩
  | si => exact ⟨rfl, decide_eq_false (fun z => nomatch z)⟩
  | bs => exact ⟨rfl, decide_eq_false (fun z => nomatch z)⟩
  | sb => exact ⟨rfl, decide_eq_false (fun z => nomatch z)⟩
  | ns => exact ⟨rfl, decide_eq_false (fun z => nomatch z)⟩
  | sn => exact ⟨rfl, decide_eq_false (fun z => nomatch z)⟩
  | ni => exact ⟨rfl, decide_eq_false (fun z => nomatch z)⟩
  | in_ => exact ⟨rfl, decide_eq_false (fun z => nomatch z)⟩
  | nn => exact ⟨rfl, decide_eq_true rfl⟩
theorem e_eq {b : Bool} (ha : Ev ta σ H x) (hb : Ev tb σ H y) (h : EqB x y b) : Ev (tOp nEq ta tb) σ H (.bl b) := ev_op ha hb fun H1 e Q q => ⟨h.sc.1, by
  rw [h.sc.2]
  exact q H1 (Ex.refl H1)⟩
theorem e_ne {b : Bool} (ha : Ev ta σ H x) (hb : Ev tb σ H y) (h : EqB x y b) : Ev (tOp nNe ta tb) σ H (.bl (!b)) := ev_op ha hb fun H1 e Q q => ⟨h.sc.1, by
  rw [h.sc.2]
  exact q H1 (Ex.refl H1)⟩
theorem e_isN (ha : Ev ta σ H x) : Ev (tOp nIsN ta (tC .non)) σ H (.bl (decide (x = .non))) := ev_op ha ev_c fun H1 e Q q => ⟨rfl, q H1 (Ex.refl H1)⟩
theorem e_notN (ha : Ev ta σ H x) : Ev (tOp nNotN ta (tC .non)) σ H (.bl (!decide (x = .non))) := ev_op ha ev_c fun H1 e Q q => ⟨rfl, q H1 (Ex.refl H1)⟩
theorem e_inS {c : Nat} (ha : Ev ta σ H (tx [c])) (hb : Ev tb σ H (tx b)) : Ev (tOp nInS ta tb) σ H (.bl (decide (c ∈ b))) := ev_op ha hb fun H1 e Q q => ⟨c, _, rfl, rfl, q H1 (Ex.refl H1)⟩
theorem e_notInS {c : Nat} (ha : Ev ta σ H (tx [c])) (hb : Ev tb σ H (tx b)) : Ev (tOp nNotInS ta tb) σ H (.bl (!decide (c ∈ b))) := ev_op ha hb fun H1 e Q q => ⟨c, _, rfl, rfl, q H1 (Ex.refl H1)⟩
theorem e_lenS (ha : Ev ta σ H (tx a)) (h : a.length ≤ 100000) : Ev (tCB nLenS (tCons ta tNil)) σ H (.int (a.length : Int)) := ev_cb (ea_cons ha ea_nil) fun H1 e Q q => ⟨_, rfl, by rw [tx_len]; exact line1 h, by
  rw [tx_len]
  exact q H1 (Ex.refl H1)⟩
theorem e_lenL {p : Addr} {xs : List V} (ha : Ev ta σ H (.ref p)) (h : SqL K H p xs) : Ev (tCB (nLenL K) (tCons ta tNil)) σ H (.int (xs.length : Int)) := ev_cb (ea_cons ha ea_nil) fun H1 e Q q => ⟨p, xs, rfl, .inl (ex_l e h), q H1 (Ex.refl H1)⟩
theorem e_lenT {p : Addr} {xs : List V} (ha : Ev ta σ H (.ref p)) (h : SqT K H p xs) : Ev (tCB (nLenL K) (tCons ta tNil)) σ H (.int (xs.length : Int)) := ev_cb (ea_cons ha ea_nil) fun H1 e Q q => ⟨p, xs, rfl, .inr (ex_t e h), q H1 (Ex.refl H1)⟩
theorem atI_in {α : Type} {xs : List α} {i : Int} {v : α} (h0 : 0 ≤ i) (h : xs[i.toNat]? = some v) : atI xs i = some v := by
  have e : i = ((i.toNat : Nat) : Int) := by omega
  rw [e]
  exact atI_nat h
theorem e_ixS {c : Nat} (ha : Ev ta σ H (tx a)) (hb : Ev tb σ H (.int i)) (hl : a.length ≤ 100000) (h : atI a i = some c) : Ev (tOp nIxS ta tb) σ H (tx [c]) := ev_op ha hb fun H1 e Q q =>
  ⟨_, i, c, rfl, rfl, by rw [tx_len]; exact line1 hl, h, q H1 (Ex.refl H1)⟩
theorem e_ixL {p : Addr} {xs : List V} (ha : Ev ta σ H (.ref p)) (hb : Ev tb σ H (.int i)) (hs : SqL K H p xs) (h : atI xs i = some v) : Ev (tOp (nIxL K) ta tb) σ H v := ev_op ha hb fun H1 e Q q =>
  ⟨p, xs, i, v, rfl, rfl, ex_l e hs, h, q H1 (Ex.refl H1)⟩
theorem e_ixT {p : Addr} {xs : List V} (ha : Ev ta σ H (.ref p)) (hb : Ev tb σ H (.int i)) (hs : SqT K H p xs) (h : atI xs i = some v) : Ev (tOp (nIxT K) ta tb) σ H v := ev_op ha hb fun H1 e Q q =>
  ⟨p, xs, i, v, rfl, rfl, ex_t e hs, h, q H1 (Ex.refl H1)⟩
/-- [a, b, ..][i], the list made on the way -/
theorem e_ixN {xs : List V} (ha : EvL ta σ H xs) (hb : Ev tb σ H (.int i)) (h : atI xs i = some v) : Ev (tOp (nIxL K) ta tb) σ H v := ev_opL1 ha (fun H1 e => hb.mono e) fun p H1 hp e H2 e2 Q q =>
  ⟨p, xs, i, v, rfl, rfl, sq_of (e2 _ _ hp), h, q H2 (Ex.refl H2)⟩
theorem cut_eq (a : List Nat) (lo hi : Option Int) : cutS ⟨a.toArray⟩ lo hi = ⟨((a.drop (HT.sIx a.length 0 lo)).take (HT.sIx a.length a.length hi - HT.sIx a.length 0 lo)).toArray⟩ := by
  unfold cutS
  rw [tx_len]
theorem six {n d : Nat} {i : Int} (h0 : 0 ≤ i) : HT.sIx n d (some i) = min i.toNat n := by
  have e : i = ((i.toNat : Nat) : Int) := by omega
  rw [e, HT.sIx_nat]
  rfl
theorem e_take {ti : TE} (ha : Ev ta σ H (tx a)) (hb : Ev ti σ H (.int i)) (hl : a.length ≤ 100000) (h0 : 0 ≤ i) : Ev (tSl nSlS ta tNoPart (tPart ti)) σ H (tx (a.take i.toNat)) := fun H1 e Q q =>
  ha H1 e _ fun H2 e2 => hb H2 (e.trans e2) _ fun H3 e3 => ⟨i, rfl, _, rfl, by rw [tx_len]; exact line1 hl, by
    have q1 := q H3 (e2.trans e3)
    rw [cut_eq, six h0]
    show Q (.str ⟨((a.drop 0).take (min i.toNat a.length - 0)).toArray⟩) H3
    rw [List.drop_zero, Nat.sub_zero]
    have e4 : a.take (min i.toNat a.length) = a.take i.toNat := by
      rw [List.take_eq_take_iff]
      omega
    rw [e4]
    exact q1⟩
theorem e_drop {ti : TE} (ha : Ev ta σ H (tx a)) (hb : Ev ti σ H (.int i)) (hl : a.length ≤ 100000) (h0 : 0 ≤ i) : Ev (tSl nSlS ta (tPart ti) tNoPart) σ H (tx (a.drop i.toNat)) := fun H1 e Q q =>
  ha H1 e _ fun H2 e2 => hb H2 (e.trans e2) _ fun H3 e3 => ⟨i, rfl, _, rfl, by rw [tx_len]; exact line1 hl, by
    have q1 := q H3 (e2.trans e3)
    rw [cut_eq, six h0]
    show Q (.str ⟨((a.drop (min i.toNat a.length)).take (a.length - min i.toNat a.length)).toArray⟩) H3
    have e4 : (a.drop (min i.toNat a.length)).take (a.length - min i.toNat a.length) = a.drop i.toNat := by
      rw [List.take_of_length_le (by rw [List.length_drop]; omega)]
      by_cases h : i.toNat ≤ a.length
      · rw [Nat.min_eq_left h]
      · rw [Nat.min_eq_right (by omega), List.drop_of_length_le (Nat.le_refl _), List.drop_of_length_le (by omega)]
    rw [e4]
    exact q1⟩
/-- isinstance(x, T) -/
theorem e_isi {T : String} {t : Value} {b : Bool} (ha : Ev ta σ H x) (ht : TyX K H x t) (hs : ∀ H1, Ex H H1 → TyX K H1 x t) (hk : PySem.W.kitOne K t (.type T) = some b) : Ev (tCB (nIsi K) (tCons ta (tCons (tC (.ty T)) tNil))) σ H (.bl b) :=
  ev_cb (ea_cons ha (ea_cons ev_c ea_nil)) fun H1 e Q q => ⟨x, .ty T, t, .type T, b, rfl, .ty T, hs H1 e, hk, q H1 (Ex.refl H1)⟩
end

/-! ### what evaluates to something of which P holds, with the heap -/
def EvG (te : TE) (σ : L2.St) (H : Hp) (P : V → Hp → Prop) : Prop := ∀ H1, Ex H H1 → ∀ Q : VK, (∀ v H2, Ex H1 H2 → P v H2 → Q v H2) → te σ H1 Q
def EvAll (ta : TA) (σ : L2.St) (H : Hp) (P : V → Hp → Prop) (n : Nat) : Prop := ∀ H1, Ex H H1 → ∀ Q : List V → Hp → Prop, (∀ vs H2, Ex H1 H2 → (∀ v ∈ vs, P v H2) → vs.length = n → Q vs H2) → ta σ H1 Q
/-- P stays while the heap grows -/
def Up (P : V → Hp → Prop) : Prop := ∀ v H H', Ex H H' → P v H → P v H'
def RetG (P : V → Hp → Prop) (H : Hp) (Q : VK) : Prop := ∀ v H2, Ex H H2 → P v H2 → Q v H2
def SpG (sp : Sp) (vs : List V) (H : Hp) (P : V → Hp → Prop) : Prop := ∀ H1, Ex H H1 → ∀ Q : VK, RetG P H1 Q → ∀ E : XK, sp vs H1 Q E
section
variable {K : PySem.W.Frag} {σ : L2.St} {H H' : Hp} {ta tb te : TE} {tr : TA} {t : TT} {x y z v : V} {P P' : V → Hp → Prop} {n : Nat} {i : Int} {D : Ends} {tu tw tz : TS} {g : TG}
theorem EvG.mono (e : Ex H H') (h : EvG te σ H P) : EvG te σ H' P := fun H1 a Q q => h H1 (e.trans a) Q q
theorem EvG.imp (h : EvG te σ H P) (k : ∀ v H2, Ex H H2 → P v H2 → P' v H2) : EvG te σ H P' := fun H1 a Q q => h H1 a Q fun v H2 e p => q v H2 e (k v H2 (a.trans e) p)
theorem g_ev (hP : Up P) (h : Ev te σ H v) (p : P v H) : EvG te σ H P := fun H1 e Q q => h H1 e Q fun H2 e2 => q v H2 e2 (hP v H H2 (e.trans e2) p)
theorem ev_g (h : EvG te σ H fun v' _ => v' = v) : Ev te σ H v := fun H1 e Q q => h H1 e Q fun v' H2 e2 p => by
  subst p
  exact q H2 e2
theorem g_lst {xs : List V} (h : EvL te σ H xs) (p : ∀ a H2, Ex H H2 → H2 a = some (.lst xs) → P (.ref a) H2) : EvG te σ H P := fun H1 e Q q => h H1 e Q fun a H2 _ e2 h2 => q _ H2 e2 (p a H2 (e.trans e2) h2)
theorem g_tup {xs : List V} (h : EvU te σ H xs) (p : ∀ a H2, Ex H H2 → H2 a = some (.tup xs) → P (.ref a) H2) : EvG te σ H P := fun H1 e Q q => h H1 e Q fun a H2 _ e2 h2 => q _ H2 e2 (p a H2 (e.trans e2) h2)
theorem g_dnew (p : ∀ a H2, Ex H H2 → H2 a = some (.dK []) → P (.ref a) H2) : EvG tDNewK σ H P := fun H1 e Q q a ha => q _ _ (Ex.new ha) (p a _ (e.trans (Ex.new ha)) upd_same)
theorem all_nil : EvAll tNil σ H P 0 := fun H1 _ Q q => q [] H1 (Ex.refl H1) (fun v h => by cases h) rfl
theorem all_cons (hP : Up P) (h : EvG te σ H P) (hr : EvAll tr σ H P n) : EvAll (tCons te tr) σ H P (n + 1) := fun H1 e Q q =>
  h H1 e _ fun v H2 e2 p => hr H2 (e.trans e2) _ fun vs H3 e3 ps hl => q (v :: vs) H3 (e2.trans e3) (fun u hu => by
    rcases List.mem_cons.mp hu with rfl | hu
    · exact hP _ H2 H3 e3 p
    · exact ps u hu) (by rw [List.length_cons, hl])
/-- [a, b, ..][i] -/
theorem g_pick (hP : Up P) (h : EvAll tr σ H P n) (hi : Ev tb σ H (.int i)) (h0 : 0 ≤ i) (h1 : i < (n : Int)) (hn : n ≤ 100000) : EvG (tOp (nIxL K) (tLst tr) tb) σ H P := fun H1 e Q q =>
  h H1 e _ fun vs H2 e2 ps hl => ⟨by rw [hl]; exact line1 hn, fun p hp => hi _ ((e.trans e2).trans (Ex.new hp)) _ fun H3 e3 => by
    have hlt : i.toNat < vs.length := by omega
    refine ⟨p, vs, i, vs[i.toNat], rfl, rfl, sq_of (e3 _ _ upd_same), atI_in h0 (List.getElem?_eq_getElem hlt), ?_⟩
    exact q _ H3 (e2.trans ((Ex.new hp).trans e3)) (hP _ H2 H3 ((Ex.new hp).trans e3) (ps _ (List.getElem_mem hlt)))⟩
theorem g_call {sp : Sp} {dvs vs : List V} {E : XK} {ta : TA} (h : EvA ta σ H vs) (hs : SpG sp (vs ++ dvs) H P) : EvG (tCall sp dvs E ta) σ H P := fun H1 e Q q =>
  h H1 e _ fun H2 e2 => hs H2 (e.trans e2) Q (fun v H3 e3 p => q v H3 (e2.trans e3) p) E
/-- a call one of whose arguments is only known by what holds of it: raw -/
theorem q_asgG {j : Nat} (h : EvG te σ H P) (k : ∀ v H1, Ex H H1 → P v H1 → tz D (σ.set j (some v)) H1) : tSeq (tAsg te (gName j)) tz D σ H := h H (Ex.refl H) _ k
theorem s_asgG {j : Nat} (h : EvG te σ H P) (k : ∀ v H1, Ex H H1 → P v H1 → D.nx (σ.set j (some v)) H1) : tAsg te (gName j) D σ H := h H (Ex.refl H) _ k
theorem s_retG (h : EvG te σ H P) (k : ∀ v H1, Ex H H1 → P v H1 → D.rt v H1) : tRet te D σ H := h H (Ex.refl H) _ k
theorem q_ret (h : Ev te σ H v) (k : ∀ H1, Ex H H1 → D.rt v H1) : tSeq (tRet te) tz D σ H := h H (Ex.refl H) _ k
theorem RetG.go {Q : VK} (k : RetG P H Q) (e : Ex H H') (p : P v H') : Q v H' := k v H' e p
/-- for c in s: c in slot j -/
theorem s_forS {j : Nat} {w : List Nat} (h : Ev te σ H (tx w)) (Pv : Nat → L2.St → Hp → Prop) (h0 : ∀ H1, Ex H H1 → Pv 0 σ H1)
    (hs : ∀ i c σ' H', w[i]? = some c → Pv i σ' H' → tu { D with nx := Pv (i + 1), ct := Pv (i + 1), bk := D.nx } (σ'.set j (some (tx [c]))) H') (hd : ∀ σ' H', Pv w.length σ' H' → D.nx σ' H') : tFor (iStr te) (gName j) tu D σ H :=
  h H (Ex.refl H) _ fun H1 e => ⟨_, rfl, fun i m σ' H' => m = w.length - i ∧ i ≤ w.length ∧ Pv i σ' H', ⟨w.length, by simp, Nat.zero_le _, h0 H1 e⟩, fun i m σ' H' hw => by
    obtain ⟨rfl, hi, p⟩ := hw
    by_cases hlt : i < w.length
    · refine .inr ⟨by show i < (w.toArray).size; simpa using hlt, Pv (i + 1), fun σ2 H2 p' => ⟨w.length - (i + 1), by omega, rfl, hlt, p'⟩, fun x H2 y => ?_⟩
      obtain ⟨e1, c, hc, e2⟩ := y
      subst e1
      subst e2
      exact hs i c σ' _ (by
        have hc' : (w.toArray)[i]? = some c := hc
        rw [List.getElem?_toArray] at hc'
        exact hc') p
    · have e1 : i = w.length := by omega
      subst e1
      exact .inl ⟨by show (w.toArray).size ≤ w.length; simp, hd σ' H' p⟩⟩
theorem q_forS {j : Nat} {w : List Nat} (h : Ev te σ H (tx w)) (Pv : Nat → L2.St → Hp → Prop) (h0 : ∀ H1, Ex H H1 → Pv 0 σ H1)
    (hs : ∀ i c σ' H', w[i]? = some c → Pv i σ' H' → tu { D with nx := Pv (i + 1), ct := Pv (i + 1), bk := tz D } (σ'.set j (some (tx [c]))) H') (hd : ∀ σ' H', Pv w.length σ' H' → tz D σ' H') : tSeq (tFor (iStr te) (gName j) tu) tz D σ H :=
  s_forS (D := { D with nx := tz D }) h Pv h0 hs hd
end
/-- what a body is read with -/
abbrev fin (Q : VK) : Ends := { nx := fun _ H' => Q .non H', rt := Q }
abbrev slots (n : Nat) (vs : List V) : L2.St := vs.map some ++ List.replicate (n - vs.length) none
/-- things that are no texts -/
def Odd (v : V) (H : Hp) : Prop := v = .non ∨ (∃ i, v = .int i) ∨ (∃ b, v = .bl b) ∨ ∃ p, v = .ref p ∧ ((∃ xs, H p = some (.lst xs)) ∨ (∃ xs, H p = some (.tup xs)) ∨ ∃ kvs, H p = some (.dK kvs))
theorem odd_up : Up Odd := fun v H H' e h => by
  rcases h with h | h | h | ⟨p, hp, h⟩
  · exact .inl h
  · exact .inr (.inl h)
  · exact .inr (.inr (.inl h))
  · refine .inr (.inr (.inr ⟨p, hp, ?_⟩))
    rcases h with ⟨xs, h⟩ | ⟨xs, h⟩ | ⟨xs, h⟩
    · exact .inl ⟨xs, e _ _ h⟩
    · exact .inr (.inl ⟨xs, e _ _ h⟩)
    · exact .inr (.inr ⟨xs, e _ _ h⟩)
theorem odd_ty {K : PySem.W.Frag} {v : V} {H : Hp} (h : Odd v H) : ∃ t, TyX K H v t ∧ PySem.W.kitOne K t (.type "str") = some false := by
  rcases h with rfl | ⟨i, rfl⟩ | ⟨b, rfl⟩ | ⟨p, rfl, h⟩
  · exact ⟨_, .base .non, kit_ty (by decide +kernel)⟩
  · exact ⟨_, .base (.int i), kit_ty (by decide +kernel)⟩
  · exact ⟨_, .base (.bl b), kit_ty (by decide +kernel)⟩
  · rcases h with ⟨xs, h⟩ | ⟨xs, h⟩ | ⟨xs, h⟩
    · exact ⟨_, .base (.lst h), kit_ty (by decide +kernel)⟩
    · exact ⟨_, .base (.tup h), kit_ty (by decide +kernel)⟩
    · exact ⟨_, .base (.dK h), kit_ty (by decide +kernel)⟩
section
variable {K : PySem.W.Frag} {σ : L2.St} {H : Hp} {ta : TE}
theorem e_isStr {w : List Nat} (ha : Ev ta σ H (tx w)) : Ev (tCB (nIsi K) (tCons ta (tCons (tC (.ty "str")) tNil))) σ H (.bl true) :=
  e_isi (t := .type "str") ha (.base (.str _)) (fun _ _ => .base (.str _)) (kit_ty (by decide +kernel))
theorem e_isOdd {v : V} (ha : Ev ta σ H v) (h : Odd v H) : Ev (tCB (nIsi K) (tCons ta (tCons (tC (.ty "str")) tNil))) σ H (.bl false) :=
  ev_cb (ea_cons ha (ea_cons ev_c ea_nil)) fun H1 e Q q => by
    obtain ⟨t, h1, h2⟩ := odd_ty (K := K) (odd_up v H H1 e h)
    exact ⟨v, .ty "str", t, .type "str", false, rfl, .ty "str", h1, h2, q H1 (Ex.refl H1)⟩
theorem e_isBool {b : Bool} (ha : Ev ta σ H (.bl b)) : Ev (tCB (nIsi K) (tCons ta (tCons (tC (.ty "bool")) tNil))) σ H (.bl true) :=
  e_isi (t := .type "bool") ha (.base (.bl _)) (fun _ _ => .base (.bl _)) (kit_ty (by decide +kernel))
theorem e_lenA {w : List Nat} (ha : Ev ta σ H (tx w)) (h : w.length ≤ 100000) : Ev (tCB (nLenA K) (tCons ta tNil)) σ H (.int (w.length : Int)) := ev_cb (ea_cons ha ea_nil) fun H1 e Q q => ⟨_, _, rfl, ⟨by rw [tx_len]; exact line1 h, rfl⟩, by
  rw [tx_len]
  exact q H1 (Ex.refl H1)⟩
end

/-! ### == of data -/
section
variable {K : PySem.W.Frag} {H H' : Hp}
open PySem.W (Datum)
mutual
theorem dp_up (e : Ex H H') : ∀ (d : PyData) (v : V), Dp K H v d → Dp K H' v d
  | .none, _, h => by cases h; exact .non
  | .bool _, _, h => by cases h; exact .bl _
  | .int _, _, h => by cases h; exact .int _
  | .str _, _, h => by cases h; exact .str _
  | .list ds, _, h => by
    cases h with
    | lst hs ha => exact .lst (ex_l e hs) (dp_upAll e ds _ ha)
  | .tuple ds, _, h => by
    cases h with
    | tup hs ha => exact .tup (ex_t e hs) (dp_upAll e ds _ ha)
  | .dict _, _, h => by cases h
theorem dp_upAll (e : Ex H H') : ∀ (ds : List PyData) (vs : List V), DpAll K H vs ds → DpAll K H' vs ds
  | [], _, h => by cases h; exact .nil
  | d :: ds, _, h => by
    cases h with
    | cons h1 h2 => exact .cons (dp_up e d _ h1) (dp_upAll e ds _ h2)
end
def nEqD (K : PySem.W.Frag) : R2 := fun x y H Q => ∃ d e, Dp K H x d ∧ Dp K H y e ∧ d.plain = true ∧ e.plain = true ∧ min d.depth e.depth ≤ 64 ∧ Q (.bl (PyData.eqv d e)) H
def nNeD (K : PySem.W.Frag) : R2 := fun x y H Q => ∃ d e, Dp K H x d ∧ Dp K H y e ∧ d.plain = true ∧ e.plain = true ∧ min d.depth e.depth ≤ 64 ∧ Q (.bl (!PyData.eqv d e)) H
theorem o_eqD {X : Cx} (hu : X.A.units + 64 < cLine) : OpR X (compareOp .Eq) (nEqD X.K) := by
  intro pins s σ H x y v u Q I rx ry h
  obtain ⟨d, e, hd, he, sd, se, hm, q⟩ := h
  obtain ⟨as, r1⟩ := Dp.reads I d x v hd rx
  obtain ⟨bs, r2⟩ := Dp.reads I e y u he ry
  exact PySem.SeqAt.eq_plain r1 r2 sd se (by omega) ⟨.bl _, H, I, rfl, q⟩
theorem o_neD {X : Cx} (hu : X.A.units + 64 < cLine) : OpR X (compareOp .NotEq) (nNeD X.K) := by
  intro pins s σ H x y v u Q I rx ry h
  obtain ⟨d, e, hd, he, sd, se, hm, q⟩ := h
  obtain ⟨as, r1⟩ := Dp.reads I d x v hd rx
  obtain ⟨bs, r2⟩ := Dp.reads I e y u he ry
  exact PySem.SeqAt.ne_plain r1 r2 sd se (by omega) ⟨.bl _, H, I, rfl, q⟩
/-- v is x's value -/
def Is {α : Type} [DecidableEq α] [Datum α] (K : PySem.W.Frag) (H : Hp) (v : V) (x : α) : Prop := Dp K H v (Datum.toD x)
section
variable {α : Type} [DecidableEq α] [Datum α] {σ : L2.St} {ta tb : TE} {v w : V} {x y : α}
theorem Is.up (e : Ex H H') (h : Is K H v x) : Is K H' v x := dp_up e _ _ h
theorem n_eq {Q : VK} (h1 : Is K H v x) (h2 : Is K H w y) (hd : Datum.depth α ≤ 64) (q : Q (.bl (decide (x = y))) H) : nEqD K v w H Q :=
  ⟨_, _, h1, h2, Datum.plain x, Datum.plain y, Nat.le_trans (Nat.min_le_left _ _) (Nat.le_trans (Datum.depth_le x) hd), by rw [Datum.eqv]; exact q⟩
theorem n_ne {Q : VK} (h1 : Is K H v x) (h2 : Is K H w y) (hd : Datum.depth α ≤ 64) (q : Q (.bl (!decide (x = y))) H) : nNeD K v w H Q :=
  ⟨_, _, h1, h2, Datum.plain x, Datum.plain y, Nat.le_trans (Nat.min_le_left _ _) (Nat.le_trans (Datum.depth_le x) hd), by rw [Datum.eqv]; exact q⟩
end
/-- a list of flat values -/
theorem dpAll_map {α β : Type} (f : β → V) (g : β → PyData) (h : ∀ b, Dp K H (f b) (g b)) : ∀ bs : List β, DpAll K H (bs.map f) (bs.map g)
  | [] => .nil
  | b :: bs => .cons (h b) (dpAll_map (α := α) f g h bs)
theorem is_strs {p : Addr} {xs : List Str} (h : SqL K H p (xs.map V.str)) : Is K H (.ref p) xs := .lst h (dpAll_map (α := Unit) V.str PyData.str (fun b => .str b) xs)
theorem is_ints {p : Addr} {xs : List Int} (h : SqL K H p (xs.map V.int)) : Is K H (.ref p) xs := .lst h (dpAll_map (α := Unit) V.int PyData.int (fun b => .int b) xs)
theorem is_bls {p : Addr} {xs : List Bool} (h : SqL K H p (xs.map V.bl)) : Is K H (.ref p) xs := .lst h (dpAll_map (α := Unit) V.bl PyData.bool (fun b => .bl b) xs)
end
/-! over a text's signs, in a comprehension -/
section
variable {K : PySem.W.Frag} {σ : L2.St} {H : Hp} {tl te : TE} {t : TT}
theorem el_lcS {w : List Nat} {j : Nat} {vs : List Nat} (f : Nat → Bool) (v : Nat → V) (h : Ev tl σ H (tx w)) (hz : w.length ≤ 40000) (hw : ∀ x, wipe ((wipe σ vs).set j (some x)) vs = wipe σ vs)
    (ht : ∀ (i c : Nat) H1, Ex H H1 → w[i]? = some c → EvT t ((wipe σ vs).set j (some (tx [c]))) H1 (f i)) (he : ∀ (i c : Nat) H1, Ex H H1 → w[i]? = some c → f i = true → Ev te ((wipe σ vs).set j (some (tx [c]))) H1 (v i)) :
    EvL (tLc (iStr tl) (gName j) t te vs) σ H (given w.length f v) := fun H0 e Q q => h H0 e _ fun H1 e1 => ⟨_, rfl, fun Dl hD =>
  ⟨fun i m H' => m = w.length - i ∧ i ≤ w.length ∧ Cw H1 f v Dl i H', ⟨w.length, by simp, Nat.zero_le _, hD, Ex.new hD, upd_same⟩, fun i m H' hw' => by
    obtain ⟨rfl, hi, p⟩ := hw'
    by_cases hlt : i < w.length
    · refine .inr ⟨by show i < (w.toArray).size; simpa using hlt, Cw H1 f v Dl (i + 1), fun H2 p' => ⟨w.length - (i + 1), by omega, rfl, hlt, p'⟩, fun x H2 y => ?_⟩
      obtain ⟨e1', c, hc, e2⟩ := y
      subst e1'
      subst e2
      have hc' : w[i]? = some c := by
        have hc' : (w.toArray)[i]? = some c := hc
        rw [List.getElem?_toArray] at hc'
        exact hc'
      exact ⟨hw _, cw_turn p (by omega) (ht i c H1 (e.trans e1) hc') (fun hf => he i c H1 (e.trans e1) hc' hf)⟩
    · have e1' : i = w.length := by omega
      subst e1'
      exact .inl ⟨by show (w.toArray).size ≤ w.length; simp, q Dl H' (fresh_back e1 p.1) (e1.trans p.2.1) p.2.2⟩⟩⟩
end

/-! ### -x, join -/
def nNeg : V → Hp → VK → Prop := rU fun i => .int (-i)
def nJoin (K : PySem.W.Frag) : V → List V → Hp → VK → Prop := fun x xs H Q => ∃ a p, ∃ ys : List Str, x = .str a ∧ xs = [.ref p] ∧ (SqL K H p (ys.map V.str) ∨ SqT K H p (ys.map V.str)) ∧
    (ys.map (·.length)).sum + ys.length * a.length ≤ 16777216 ∧ Q (.str (Txt.join a ys)) H
section
variable {X : Cx}
theorem o_neg : UnR X (unaryOp .USub) nNeg := un_neg
end
theorem given_all (n : Nat) (v : Nat → V) : given n (fun _ => true) v = (List.range n).map v := by
  unfold given
  rw [List.filter_eq_self.mpr (fun _ _ => rfl)]
theorem joinL_nil : ∀ ps : List (List Nat), TL.joinL [] ps = ps.flatten
  | [] => rfl
  | [p] => by simp [TL.joinL]
  | p :: q :: r => by
    show p ++ ([] ++ TL.joinL [] (q :: r)) = (p :: q :: r).flatten
    rw [joinL_nil (q :: r)]
    simp
theorem join_signs (cs : List Nat) : Txt.join ⟨#[]⟩ (cs.map fun c => (⟨#[c]⟩ : Str)) = ⟨cs.toArray⟩ := by
  rw [TL.join_eq]
  apply TL.ext_tl
  rw [TL.tl_join]
  show TL.joinL [] _ = cs
  rw [joinL_nil, List.map_map]
  induction cs with
  | nil => rfl
  | cons c r ih => rw [List.map_cons, List.flatten_cons, ih]; rfl
section
variable {K : PySem.W.Frag} {σ : L2.St} {H : Hp} {tl ta : TE} {i : Int}
theorem e_neg (ha : Ev ta σ H (.int i)) : Ev (tUn nNeg ta) σ H (.int (-i)) := ev_un ha fun H1 e Q q => ⟨i, rfl, q H1 (Ex.refl H1)⟩
theorem sum_ones : ∀ cs : List Nat, ((cs.map fun c => (⟨#[c]⟩ : Str)).map (·.length)).sum = cs.length
  | [] => rfl
  | c :: r => by
    rw [List.map_cons, List.map_cons, List.sum_cons, sum_ones r, List.length_cons]
    show 1 + r.length = r.length + 1
    omega
theorem e_join {cs : List Nat} (h : EvL tl σ H (cs.map fun c => tx [c])) (hl : cs.length ≤ 100000) : Ev (tM1 (nJoin K) (tC (tx [])) tl) σ H (tx cs) := fun H1 e Q q =>
  ⟨⟨_, rfl⟩, h H1 e _ fun p H2 _ e2 hp => ⟨_, p, cs.map fun c => (⟨#[c]⟩ : Str), rfl, rfl, .inl (sq_of (by rw [hp, List.map_map]; rfl)), by
    rw [sum_ones]
    show cs.length + _ * 0 ≤ 16777216
    omega, by
    have q1 := q H2 e2
    show Q (.str (Txt.join ⟨#[]⟩ (cs.map fun c => (⟨#[c]⟩ : Str)))) H2
    rw [join_signs]
    exact q1⟩⟩
end

/-! ### a def of the module, to be called -/
structure Cal (P : Program) (w : World) (K : PySem.W.Frag) (mg : Str → Option Value) (base : Heap) (CX : CXT) (k : Nat) (x : Str) (ps : List Str) (sp : Sp) : Prop where
  ex : ∃ (f : Addr) (fd : FuncData), FnOk P w K mg base CX k f fd ps sp ∧ mg x = some (.ref f) ∧ PySem.W.keepIn K (.ref f) = true ∧ Binds K fd ps []

/-! ### try: .. except C: (or C as n:) -/
def tTryOnly (K : PySem.W.Frag) (c : Value) (tb : WX → TS) (ts : Addr → Value → Option Addr → TS) : TS := fun D σ H => tb (wOnly K c ts (fun _ _ _ _ => False) D) D σ H
def tTryAs (K : PySem.W.Frag) (c : Value) (i : Nat) (tb : WX → TS) (ts : Addr → Value → Option Addr → TS) : TS := fun D σ H => tb (wAs K c i ts (fun _ _ _ _ => False) D) D σ H

/-! ### list(xs), xs.insert(i, y) -/
def nList (K : PySem.W.Frag) : List V → Hp → VK → Prop := fun xs H Q => ∃ p ys, xs = [.ref p] ∧ (SqL K H p ys ∨ SqT K H p ys) ∧ ∀ l, H l = none → Q (.ref l) (upd H l (.lst ys))
theorem c_list {X : Cx} : CallR X (.type "list") (nList X.K) := call_list_of
def rInsertN : V → List V → Hp → VK → Prop := fun x vs H Q => ∃ (l : Addr) (xs : List V) (i : Int) (y : V), x = .ref l ∧ vs = [.int i, y] ∧ H l = some (.lst xs) ∧ xs.length < sizeLine ∧ 0 ≤ i ∧ i < 2 ^ 63 ∧
    Q .non (upd H l (.lst (xs.take i.toNat ++ [y] ++ xs.drop i.toNat)))
theorem mt_insertN {X : Cx} : MtR X "list.insert" rInsertN := mt_insert
theorem el_listN {K : PySem.W.Frag} {σ : L2.St} {H : Hp} {ta : TE} {p : Addr} {xs : List V} (ha : Ev ta σ H (.ref p)) (h : SqL K H p xs) : EvL (tCB (nList K) (tCons ta tNil)) σ H xs := el_list ha h

/-! ### a heap without one place: what is known of all else stays where that one changes -/
def del (H : Hp) (l : Addr) : Hp := fun b => if b = l then none else H b
section
variable {H H' H0 : Hp} {l q : Addr} {o : HO}
theorem del_ne (h : q ≠ l) : del H l q = H q := by unfold del; rw [if_neg h]
theorem del_same : del H l l = none := by unfold del; rw [if_pos rfl]
theorem del_ex : Ex (del H l) H := fun b u h => by
  by_cases hb : b = l
  · rw [hb, del_same] at h; cases h
  · rw [del_ne hb] at h; exact h
theorem del_mono (e : Ex H H') : Ex (del H l) (del H' l) := fun b u h => by
  by_cases hb : b = l
  · rw [hb, del_same] at h; cases h
  · rw [del_ne hb] at h ⊢; exact e b u h
theorem del_upd : del (upd H l o) l = del H l := by
  funext b
  by_cases hb : b = l
  · rw [hb, del_same, del_same]
  · rw [del_ne hb, del_ne hb, upd_ne hb]
theorem ex_del (h0 : H0 l = none) (e : Ex H0 H) : Ex H0 (del H l) := fun b u h => by
  rw [del_ne (ne_of_none h h0)]
  exact e b u h
end
/-! ### slices of lists -/
section
variable {K : PySem.W.Frag} {σ : L2.St} {H : Hp} {te : TE} {tl th : TO} {a : Addr} {xs : List V} {lo hi : Option Int}
theorem el_slN (h : Ev te σ H (.ref a)) (h1 : EvO tl σ H lo) (h2 : EvO th σ H hi) (hs : SqL K H a xs) : EvL (tSl (nSlL K) te tl th) σ H (cutV xs lo hi) := el_sl h h1 h2 hs
theorem cut_from {i : Int} (h : 0 ≤ i) : cutV xs (some i) none = xs.drop i.toNat := by
  unfold cutV
  rw [six h]
  show (xs.drop (min i.toNat xs.length)).take (xs.length - min i.toNat xs.length) = xs.drop i.toNat
  rw [List.take_of_length_le (by rw [List.length_drop]; omega)]
  by_cases h : i.toNat ≤ xs.length
  · rw [Nat.min_eq_left h]
  · rw [Nat.min_eq_right (by omega), List.drop_of_length_le (Nat.le_refl _), List.drop_of_length_le (by omega)]
theorem cut_to {i : Int} (h : 0 ≤ i) : cutV xs none (some i) = xs.take i.toNat := by
  unfold cutV
  rw [six h]
  show (xs.drop 0).take (min i.toNat xs.length - 0) = xs.take i.toNat
  rw [List.drop_zero, Nat.sub_zero, List.take_eq_take_iff]
  omega
theorem cut_mid {i j : Int} (h : 0 ≤ i) (h' : 0 ≤ j) : cutV xs (some i) (some j) = (xs.drop i.toNat).take (j.toNat - i.toNat) := by
  unfold cutV
  rw [six h, six h']
  by_cases hi : i.toNat ≤ xs.length
  · rw [Nat.min_eq_left hi, List.take_eq_take_iff, List.length_drop]
    omega
  · rw [Nat.min_eq_right (show xs.length ≤ i.toNat by omega), List.drop_of_length_le (Nat.le_refl _), List.drop_of_length_le (show xs.length ≤ i.toNat by omega), List.take_nil, List.take_nil]
theorem ints_get {ns : List Int} {i : Nat} {x : V} (h : (ns.map V.int)[i]? = some x) : ∃ z, ns[i]? = some z ∧ x = .int z := by
  rw [List.getElem?_map] at h
  cases e : ns[i]? with
  | none => rw [e] at h; cases h
  | some z => rw [e] at h; exact ⟨z, rfl, (Option.some.inj h).symm⟩
end

section
variable {K : PySem.W.Frag} {σ : L2.St} {H : Hp} {ta tb te : TE} {tr : TA} {P : V → Hp → Prop} {n : Nat} {D : Ends} {tz : TS} {v : V}
/-- x = [..]: a new list of which P holds item by item -/
theorem q_asgAll {j : Nat} (hP : Up P) (h : EvAll tr σ H P n) (hn : n ≤ 100000) (k : ∀ vs p H1, H p = none → Ex H H1 → H1 p = some (.lst vs) → (∀ v ∈ vs, P v H1) → vs.length = n → tz D (σ.set j (some (.ref p))) H1) : tSeq (tAsg (tLst tr) (gName j)) tz D σ H :=
  h H (Ex.refl H) _ fun vs H1 e1 ps hl => ⟨by rw [hl]; exact line1 hn, fun p hp => k vs p _ (fresh_back e1 hp) (e1.trans (Ex.new hp)) upd_same (fun v hv => hP v H1 _ (Ex.new hp) (ps v hv)) hl⟩
/-- xs.insert(i, e) -/
theorem s_insert {l : Addr} {xs : List V} {i : Int} (hl : H l = some (.lst xs)) (ha : Ev ta σ H (.ref l)) (hi : Ev tb σ H (.int i)) (h : Ev te σ H v) (hz : xs.length < 100000) (h0 : 0 ≤ i) (h1 : i < 2 ^ 63)
    (k : ∀ H1, Ex H H1 → D.nx σ (upd H1 l (.lst (xs.take i.toNat ++ [v] ++ xs.drop i.toNat)))) : tDrop (tBM K "list" rInsertN ta (tCons tb (tCons te tNil))) D σ H :=
  ha H (Ex.refl H) _ fun H1 e1 => ⟨.inl ⟨rfl, xs, sq_of (e1 l _ hl)⟩, hi H1 e1 _ fun H2 e2 => h H2 (e1.trans e2) _ fun H3 e3 => ⟨l, xs, i, v, rfl, rfl, e3 _ _ (e2 _ _ (e1 _ _ hl)), Evl.sz_lt hz, h0, h1, k H3 ((e1.trans e2).trans e3)⟩⟩
end

/-- whether an error of the class at C is one of the class at D -/
theorem exm_by {K : PySem.W.Frag} {C D : Addr} {r : Bool} (p1 : PySem.W.subIn K (.ref D) (.type "BaseException") = some true) (p2 : PySem.W.isClsIn K D = true) (p3 : PySem.W.typeIn K (.ref D) = some (.type "type")) (p4 : PySem.W.subIn K (.ref C) (.ref D) = some r) :
    PySem.W.exmOne K (.ref C) (.ref D) = some r := by
  have q2 : (PySem.W.clsIn K D).isSome = true := p2
  unfold PySem.W.exmOne PySem.W.kitCls
  simp [p1, p3, q2, p4]
end Nw

set_option Elab.async false
set_option linter.all false
set_option maxRecDepth 100000
/-! Nw.Eq: == and != of any thing and a text. -/
namespace Nw
open PySem L2 Evl PyProof.Rows PySem.SeqAt PySem.MeetsSeq
set_option maxHeartbeats 1000000
theorem sub_sd : isSubtype (.type "str") (.type "dict") = pure false := by rw [isSubtype_type]; kernel_rfl
theorem d_eq_s (l : Addr) (o : Obj) (b : Str) (u : Tok) :
    PySem.Meets (Builtin.«dict.__eq__» ⟨[.ref l, .str b u], []⟩) (fun _ R s => s.heap.get? l = some o ∧ R (.ok (.ret .notImplemented)) s) :=
  .of_wp fun prog w A R s h => by obtain ⟨hp, g, d, tk, os⟩ := s; obtain ⟨hl, h⟩ := h; have f1 := sub_sd; wp_walk; exact ⟨_, rfl, h⟩
theorem d_ne_s (l : Addr) (o : Obj) (b : Str) (u : Tok) :
    PySem.Meets (Builtin.«dict.__ne__» ⟨[.ref l, .str b u], []⟩) (fun _ R s => s.heap.get? l = some o ∧ R (.ok (.ret .notImplemented)) s) :=
  .of_wp fun prog w A R s h => by obtain ⟨hp, g, d, tk, os⟩ := s; obtain ⟨hl, h⟩ := h; have f1 := sub_sd; wp_walk; exact ⟨_, rfl, h⟩
theorem s_eq_d (b : Str) (u : Tok) (l : Addr) (c : Value) (es : Array DictEntry) (ep : Nat) (dd : Option Addr) (sl : Array (Option Value)) :
    PySem.Meets (Builtin.«str.__eq__» ⟨[.str b u, .ref l], []⟩) (fun _ R s => s.heap.get? l = some { cls := c, dict := dd, data := .dict es ep, slots := sl } ∧ R (.ok (.ret .notImplemented)) s) :=
  .of_wp fun prog w A R s h => by obtain ⟨hp, g, d, tk, os⟩ := s; obtain ⟨hl, h⟩ := h; wp_walk using AutoSeq1.wpAny_loadPart' hl, wpAny_load hl; exact ⟨_, rfl, h⟩
theorem s_ne_d (b : Str) (u : Tok) (l : Addr) (c : Value) (es : Array DictEntry) (ep : Nat) (dd : Option Addr) (sl : Array (Option Value)) :
    PySem.Meets (Builtin.«str.__ne__» ⟨[.str b u, .ref l], []⟩) (fun _ R s => s.heap.get? l = some { cls := c, dict := dd, data := .dict es ep, slots := sl } ∧ R (.ok (.ret .notImplemented)) s) :=
  .of_wp fun prog w A R s h => by obtain ⟨hp, g, d, tk, os⟩ := s; obtain ⟨hl, h⟩ := h; wp_walk using AutoSeq1.wpAny_loadPart' hl, wpAny_load hl; exact ⟨_, rfl, h⟩
section
variable {A : Around} {s : Shared}
theorem rc_ds {l : Addr} {o : Obj} {es : Array DictEntry} {ep : Nat} (b : Str) (u : Tok) (ho : s.heap.get? l = some o) (hc : o.cls = .type "dict") (hd : o.data = .dict es ep) (hu : A.units < cLine) : RcAt A s (.ref l) (.str b u) false := fun prog w E Q h => by
  obtain ⟨cls, dd, data, sl⟩ := o
  simp only at hc hd
  subst hc hd
  exact rc_eq_decline_or (k := false) ⟨_, ho, rfl⟩ (typeIs_str s b u) (by decide) sub_sd F.slot_dict_eq F.slot_str_eq_refl
    (fun _ hq => call_meets F.slot_dict_eq ⟨_, ho, rfl⟩ F.entry_dict_eq (F.args_dict_eq_2 _ _) (d_eq_s l _ b u) ⟨ho, hq⟩)
    (fun _ hq => call_meets F.slot_str_eq_refl (typeIs_str s b u) F.entry_str_eq (F.args_str_eq_2 _ _) (s_eq_d b u l (.type "dict") es ep dd sl) ⟨ho, hq⟩)
    (fun _ hq => wpAny_of_eq (rfl : isSame (.ref l) (.str b u) = pure false) hq) (.inr hu) h
theorem rcne_ds {l : Addr} {o : Obj} {es : Array DictEntry} {ep : Nat} (b : Str) (u : Tok) (ho : s.heap.get? l = some o) (hc : o.cls = .type "dict") (hd : o.data = .dict es ep) (hu : A.units < cLine) : RcNeAt A s (.ref l) (.str b u) true := fun prog w E Q h => by
  obtain ⟨cls, dd, data, sl⟩ := o
  simp only at hc hd
  subst hc hd
  exact rc_ne_decline_or (k := false) ⟨_, ho, rfl⟩ (typeIs_str s b u) (by decide) sub_sd F.slot_dict_ne F.slot_str_ne_refl
    (fun _ hq => call_meets F.slot_dict_ne ⟨_, ho, rfl⟩ F.entry_dict_ne (F.args_dict_ne_2 _ _) (d_ne_s l _ b u) ⟨ho, hq⟩)
    (fun _ hq => call_meets F.slot_str_ne_refl (typeIs_str s b u) F.entry_str_ne (F.args_str_ne_2 _ _) (s_ne_d b u l (.type "dict") es ep dd sl) ⟨ho, hq⟩)
    (fun _ hq => wpAny_of_eq (rfl : isSame (.ref l) (.str b u) = pure false) hq) (.inr hu) h
end
/-- a text, or another thing -/
def Any (v : V) (H : Hp) : Prop := (∃ w, v = tx w ∧ w.length ≤ 1000) ∨ Odd v H
theorem any_up : Up Any := fun v H H' e h => h.elim .inl fun h => .inr (odd_up v H H' e h)
/-- thing == text, thing != text -/
def nEqS : R2 := fun x y H Q => ∃ b, y = tx b ∧ Any x H ∧ Q (.bl (decide (x = y))) H
def nNeS : R2 := fun x y H Q => ∃ b, y = tx b ∧ Any x H ∧ Q (.bl (!decide (x = y))) H
theorem no_ref_str {p : Addr} {b : Str} : decide (V.ref p = V.str b) = false := decide_eq_false fun z => nomatch z
theorem o_eqS {X : Cx} (hu : X.A.units + 64 < cLine) : OpR X (compareOp .Eq) nEqS := by
  intro pins s σ H x y v u Q I rx ry h
  obtain ⟨b, rfl, ha, q⟩ := h
  have sc : ∀ {x : V}, scal x (tx b) = true → RelV x v → Q (.bl (decide (x = tx b))) H → wpAny (model X.prog X.w) X.A (compareOp .Eq v u) (EP X pins σ Q) X.xe s := fun hs r q => op_eq pins s σ H _ _ v u Q I r ry ⟨hs, q⟩
  rcases ha with ⟨w, rfl, _⟩ | rfl | ⟨i, rfl⟩ | ⟨i, rfl⟩ | ⟨p, rfl, h⟩
  · exact sc rfl rx q
  · exact sc rfl rx q
  · exact sc rfl rx q
  · exact sc rfl rx q
  · rw [no_ref_str] at q
    cases rx
    obtain ⟨t, rfl⟩ := ry
    rcases h with ⟨xs, h⟩ | ⟨xs, h⟩ | ⟨xs, h⟩
    · obtain ⟨_, its, n, _, h1⟩ := (show ObjOk X.prog X.w H s.heap p (.lst xs) from I.hok p _ h)
      exact RcAt.list_str _ t (items := its.toArray) ⟨_, h1, rfl, n, rfl⟩ (by omega) _ _ _ _ ⟨.bl false, H, I, rfl, q⟩
    · obtain ⟨_, its, _, o, h1, h2, n, h3⟩ := (show ObjOk X.prog X.w H s.heap p (.tup xs) from I.hok p _ h)
      exact RcAt.tuple_str _ t (items := its.toArray) ⟨o, h1, h2, n, h3⟩ (by omega) _ _ _ _ ⟨.bl false, H, I, rfl, q⟩
    · obtain ⟨_, _, vs, _, o, es, ep, h1, h2, h3, _⟩ := (show ObjOk X.prog X.w H s.heap p (.dK xs) from I.hok p _ h)
      exact rc_ds _ t h1 h2.1 h3 (by omega) _ _ _ _ ⟨.bl false, H, I, rfl, q⟩
theorem o_neS {X : Cx} (hu : X.A.units + 64 < cLine) : OpR X (compareOp .NotEq) nNeS := by
  intro pins s σ H x y v u Q I rx ry h
  obtain ⟨b, rfl, ha, q⟩ := h
  have sc : ∀ {x : V}, scal x (tx b) = true → RelV x v → Q (.bl (!decide (x = tx b))) H → wpAny (model X.prog X.w) X.A (compareOp .NotEq v u) (EP X pins σ Q) X.xe s := fun hs r q => op_ne pins s σ H _ _ v u Q I r ry ⟨hs, q⟩
  rcases ha with ⟨w, rfl, _⟩ | rfl | ⟨i, rfl⟩ | ⟨i, rfl⟩ | ⟨p, rfl, h⟩
  · exact sc rfl rx q
  · exact sc rfl rx q
  · exact sc rfl rx q
  · exact sc rfl rx q
  · rw [no_ref_str] at q
    cases rx
    obtain ⟨t, rfl⟩ := ry
    rcases h with ⟨xs, h⟩ | ⟨xs, h⟩ | ⟨xs, h⟩
    · obtain ⟨_, its, n, _, h1⟩ := (show ObjOk X.prog X.w H s.heap p (.lst xs) from I.hok p _ h)
      exact RcNeAt.list_str _ t (items := its.toArray) ⟨_, h1, rfl, n, rfl⟩ (by omega) _ _ _ _ ⟨.bl true, H, I, rfl, q⟩
    · obtain ⟨_, its, _, o, h1, h2, n, h3⟩ := (show ObjOk X.prog X.w H s.heap p (.tup xs) from I.hok p _ h)
      exact RcNeAt.tuple_str _ t (items := its.toArray) ⟨o, h1, h2, n, h3⟩ (by omega) _ _ _ _ ⟨.bl true, H, I, rfl, q⟩
    · obtain ⟨_, _, vs, _, o, es, ep, h1, h2, h3, _⟩ := (show ObjOk X.prog X.w H s.heap p (.dK xs) from I.hok p _ h)
      exact rcne_ds _ t h1 h2.1 h3 (by omega) _ _ _ _ ⟨.bl true, H, I, rfl, q⟩
section
variable {K : PySem.W.Frag} {σ : L2.St} {H : Hp} {ta tb : TE} {x : V} {b : List Nat}
theorem e_eqS (ha : Ev ta σ H x) (hb : Ev tb σ H (tx b)) (h : Any x H) : Ev (tOp nEqS ta tb) σ H (.bl (decide (x = tx b))) := ev_op ha hb fun H1 e Q q => ⟨b, rfl, any_up _ _ _ e h, q H1 (Ex.refl H1)⟩
theorem e_neS (ha : Ev ta σ H x) (hb : Ev tb σ H (tx b)) (h : Any x H) : Ev (tOp nNeS ta tb) σ H (.bl (!decide (x = tx b))) := ev_op ha hb fun H1 e Q q => ⟨b, rfl, any_up _ _ _ e h, q H1 (Ex.refl H1)⟩
end
end Nw

set_option Elab.async false
set_option linter.all false
set_option maxRecDepth 100000
/-! k01: what is a word -/
namespace Nw
open PySem L2 Evl
/-- a word -/
def isW (w : List Nat) : Bool := decide (w.length ≤ 24 ∧ Low w)
/-- a text of at most 27 signs, or no text -/
def Thing (v : V) (H : Hp) : Prop := (∃ w, v = tx w ∧ w.length ≤ 27) ∨ Odd v H
theorem thing_up : Up Thing := fun v H H' e h => h.elim .inl fun h => .inr (odd_up v H H' e h)
def sp_is_word (K : PySem.W.Frag) : Sp := fun vs H Q _ => ∃ v, vs = [v] ∧ ((∃ w, v = tx w ∧ w.length ≤ 1000 ∧ RetV (.bl (isW w)) H Q) ∨ (Odd v H ∧ RetV (.bl false) H Q))
def sp_law_is_word (K : PySem.W.Frag) : Sp := sp_is_word K
def sp_law_sign (K : PySem.W.Frag) : Sp := fun vs H Q _ => ∃ c : Int, vs = [.int c] ∧ RetG (fun v _ => ∃ a, v = tx [a]) H Q
def sp_law_thing (K : PySem.W.Frag) : Sp := fun vs H Q _ => ∃ c : Int, vs = [.int c] ∧ RetG Thing H Q
/- is_word(thing): slots 0:thing 1:letter -/
def T_is_word (K : PySem.W.Frag) : TS :=
 (tSeq (tIfS (tOr (tNot (tB (tCB (nIsi K) (tCons (tVar 0) (tCons (tC (.ty "str")) tNil))))) (tTest (tOp nGt (tCB nLenS (tCons (tVar 0) tNil)) (tC (.int 24)))))
 (tRet (tC (.bl false))) tNext)
 (tSeq (tFor (iStr (tVar 0)) (gName 1)
 (tIfS (tTest (tOp nNotInS (tVar 1) (tC (tx abc))))
 (tRet (tC (.bl false))) tNext))
 (tRet (tC (.bl true)))))
def n_is_word : Nat := 2
/- _law_sign(_law_cell): slots 0:_law_cell 1:_law_signs -/
def T_law_sign (K : PySem.W.Frag) : TS :=
 (tSeq (tAsg (tC (tx [32, 33, 34, 35, 36, 38, 39, 40, 41, 42, 43, 44, 45, 46, 47, 48, 49, 50, 51, 52, 53, 54, 55, 56, 57, 58, 59, 60, 61, 62, 63, 64, 65, 66, 67, 68, 69, 70, 71, 72, 73, 74, 75, 76, 77, 78, 79, 80, 81, 82, 83, 84, 85, 86, 87, 88, 89, 90, 91, 92, 93, 94, 95, 96, 123, 124, 125, 126, 10, 9])) (gName 1))
 (tRet (tOp nIxS (tVar 1) (tOp nMod (tVar 0) (tCB nLenS (tCons (tVar 1) tNil))))))
def n_law_sign : Nat := 2
/- _law_thing(_law_cell): slots 0:_law_cell 1:_law_letters 2:_law_text 3:_law_k 4:_law_at -/
def T_law_thing (K : PySem.W.Frag) : TS :=
 (tSeq (tAsg (tC (tx abc)) (gName 1))
 (tSeq (tAsg (tM1 (nJoin K) (tC (tx [])) (tLc (iRng1 (tCons (tOp nMod (tOp nDiv (tVar 0) (tC (.int 7))) (tC (.int 27))) tNil)) (gName 3) tYes (tOp nIxS (tVar 1) (tOp nMod (tOp nAdd (tOp nDiv (tVar 0) (tC (.int 7))) (tOp nMul (tOp nMul (tC (.int 5)) (tVar 3)) (tOp nMod (tVar 0) (tC (.int 3))))) (tC (.int 26)))) [3])) (gName 2))
 (tSeq (tIfS (tTest (tOp nLt (tOp nMod (tVar 0) (tC (.int 7))) (tC (.int 3))))
 (tRet (tVar 2)) tNext)
 (tSeq (tIfS (tTest (tOp nLt (tOp nMod (tVar 0) (tC (.int 7))) (tC (.int 5))))
 (tSeq (tAsg (tOp nMod (tOp nDiv (tVar 0) (tC (.int 189))) (tOp nAdd (tCB nLenS (tCons (tVar 2) tNil)) (tC (.int 1)))) (gName 4))
 (tRet (tOp nCat (tOp nCat (tSl nSlS (tVar 2) tNoPart (tPart (tVar 4))) (tCall (sp_law_sign K) [] E0 (tCons (tOp nDiv (tVar 0) (tC (.int 77))) tNil))) (tSl nSlS (tVar 2) (tPart (tVar 4)) tNoPart)))) tNext)
 (tRet (tOp (nIxL K) (tLst (tCons (tC .non) (tCons (tC (.int 5)) (tCons (tC (.bl true)) (tCons (tTup (tCons (tC (tx [97])) tNil)) (tCons (tLst (tCons (tC (tx [97])) tNil)) (tCons tDNewK (tCons (tLst tNil) (tCons (tTup (tCons (tC (tx [97])) (tCons (tC (tx [98])) tNil))) (tCons (tC (.int 0)) (tCons (tUn nNeg (tC (.int 1))) (tCons (tC (.bl false)) (tCons (tDisp [((tC (tx [97])), (tC (.int 1)))]) tNil))))))))))))) (tOp nMod (tOp nDiv (tVar 0) (tC (.int 7))) (tC (.int 12)))))))))
def n_law_thing : Nat := 5
/- _law_is_word(_law_thing_here): slots 0:_law_thing_here 1:_law_letter -/
def T_law_is_word (K : PySem.W.Frag) : TS :=
 (tSeq (tIfS (tOr (tNot (tB (tCB (nIsi K) (tCons (tVar 0) (tCons (tC (.ty "str")) tNil))))) (tTest (tOp nGt (tCB nLenS (tCons (tVar 0) tNil)) (tC (.int 24)))))
 (tRet (tC (.bl false))) tNext)
 (tRet (tOp (nEqD K) (tLc (iStr (tVar 0)) (gName 1) (tTest (tOp nNotInS (tVar 1) (tC (tx abc)))) (tVar 1) [1]) (tLst tNil))))
def n_law_is_word : Nat := 2
theorem l_is_word {K vs H Q E} (h : sp_is_word K vs H Q E) : vs.length = 1 := by obtain ⟨v, rfl, _⟩ := h; rfl
theorem l_law_is_word {K vs H Q E} (h : sp_law_is_word K vs H Q E) : vs.length = 1 := l_is_word h
theorem l_law_sign {K vs H Q E} (h : sp_law_sign K vs H Q E) : vs.length = 1 := by obtain ⟨v, rfl, _⟩ := h; rfl
theorem l_law_thing {K vs H Q E} (h : sp_law_thing K vs H Q E) : vs.length = 1 := by obtain ⟨v, rfl, _⟩ := h; rfl
section
variable {K : PySem.W.Frag} {vs : List V} {H : Hp} {Q : VK} {E : XK}
theorem isW_long {w : List Nat} (h : 24 < w.length) : isW w = false := decide_eq_false fun z => by omega
theorem isW_bad {w : List Nat} {c : Nat} (h : c ∈ w) (hc : ¬ c ∈ abc) : isW w = false := decide_eq_false fun z => hc (mem_abc.mpr (z.2 c h))
theorem isW_good {w : List Nat} (h : w.length ≤ 24) (hl : Low w) : isW w = true := decide_eq_true ⟨h, hl⟩
theorem R_is_word (h : sp_is_word K vs H Q E) : T_is_word K (fin Q) (slots n_is_word vs) H := by
  obtain ⟨v, rfl, h⟩ := h
  show T_is_word K (fin Q) [some v, none] H
  unfold T_is_word
  rcases h with ⟨w, rfl, hl, k⟩ | ⟨ho, k⟩
  · refine q_when (b := decide (24 < w.length)) (et_is (et_or (et_not (et_B (e_isStr (ev_var rfl)))) (fun _ => et_test (e_gt (e_lenS (ev_var rfl) (by omega)) ev_c))) (by simp [dec_eq (show (24 : Int) < (w.length : Int) ↔ 24 < w.length by omega)])) (fun hb H1 e1 => ?_) (fun hb H1 e1 => ?_)
    · have hb' := of_decide_eq_true hb
      rw [isW_long hb'] at k
      exact s_ret ev_c fun H2 e2 => k _ (e1.trans e2)
    · have hb' := of_decide_eq_false hb
      refine q_forS (ev_var rfl) (fun i σ H' => (∃ x, σ = [some (tx w), x]) ∧ Ex H H' ∧ Low (w.take i)) (fun H2 e2 => ⟨⟨_, rfl⟩, e1.trans e2, by rw [List.take_zero]; exact low_nil⟩) (fun i c σ H' hc hp => ?_) (fun σ H' hp => ?_)
      · obtain ⟨⟨x, rfl⟩, e, lo⟩ := hp
        refine s_when (b := !decide (c ∈ abc)) (et_test (e_notInS (ev_var rfl) ev_c)) (fun hb H1 e1 => ?_) (fun hb H1 e1 => ?_)
        · have hn : ¬ c ∈ abc := by simpa using hb
          rw [isW_bad (List.mem_of_getElem? hc) hn] at k
          exact s_ret ev_c fun H2 e2 => k _ ((e.trans e1).trans e2)
        · have hn : c ∈ abc := by simpa using hb
          refine ⟨⟨_, rfl⟩, e.trans e1, ?_⟩
          rw [List.take_add_one, hc]
          exact low_app lo (low_one (mem_abc.mp hn))
      · obtain ⟨⟨x, rfl⟩, e, lo⟩ := hp
        rw [List.take_length] at lo
        rw [isW_good (by omega) lo] at k
        exact s_ret ev_c fun H2 e2 => k _ (e.trans e2)
  · refine q_when (b := true) (et_is (et_or (et_not (et_B (e_isOdd (ev_var rfl) ho))) (b := true) (fun hh => by cases hh)) (by simp)) (fun hb H1 e1 => ?_) (fun hb => by cases hb)
    exact s_ret ev_c fun H2 e2 => k _ (e1.trans e2)
theorem R_law_sign (h : sp_law_sign K vs H Q E) : T_law_sign K (fin Q) (slots n_law_sign vs) H := by
  obtain ⟨c, rfl, k⟩ := h
  show T_law_sign K (fin Q) [some (.int c), none] H
  unfold T_law_sign
  refine q_asg ev_c fun H1 e1 => ?_
  generalize hw : [32, 33, 34, 35, 36, 38, 39, 40, 41, 42, 43, 44, 45, 46, 47, 48, 49, 50, 51, 52, 53, 54, 55, 56, 57, 58, 59, 60, 61, 62, 63, 64, 65, 66, 67, 68, 69, 70, 71, 72, 73, 74, 75, 76, 77, 78, 79, 80, 81, 82, 83, 84, 85, 86, 87, 88, 89, 90, 91, 92, 93, 94, 95, 96, 123, 124, 125, 126, 10, 9] = w
  have hl : w.length = 70 := by rw [← hw]; rfl
  have h0 : 0 ≤ c % (w.length : Int) := Int.emod_nonneg _ (by omega)
  have h1 : c % (w.length : Int) < 70 := by have := Int.emod_lt_of_pos c (show (0 : Int) < (w.length : Int) by omega); omega
  have hlt : (c % (w.length : Int)).toNat < w.length := by omega
  refine s_ret (e_ixS (ev_var rfl) (e_mod (ev_var rfl) (e_lenS (ev_var rfl) (by omega)) (by omega)) (by omega) (atI_in h0 (List.getElem?_eq_getElem hlt))) fun H2 e2 => ?_
  exact k _ _ (e1.trans e2) ⟨_, rfl⟩
theorem g_sign {σ : L2.St} {te : TE} {j : Int} (h : Ev te σ H (.int j)) : EvG (tCall (sp_law_sign K) [] E0 (tCons te tNil)) σ H (fun v _ => ∃ a, v = tx [a]) :=
  g_call (ea_cons h ea_nil) fun H1 e Q q E => ⟨j, rfl, q⟩
theorem e_letter {σ : L2.St} {ta tb : TE} {i : Int} (ha : Ev ta σ H (tx abc)) (hb : Ev tb σ H (.int i)) (h0 : 0 ≤ i) (h1 : i < 26) : Ev (tOp nIxS ta tb) σ H (tx [i.toNat + 97]) :=
  e_ixS ha hb (by decide) (atI_in h0 (abc_at (by omega)))
theorem odd_non {H : Hp} : Odd .non H := .inl rfl
theorem odd_int {H : Hp} {i : Int} : Odd (.int i) H := .inr (.inl ⟨i, rfl⟩)
theorem odd_bl {H : Hp} {b : Bool} : Odd (.bl b) H := .inr (.inr (.inl ⟨b, rfl⟩))
theorem odd_l {H : Hp} {p : Addr} {xs : List V} (h : H p = some (.lst xs)) : Odd (.ref p) H := .inr (.inr (.inr ⟨p, rfl, .inl ⟨xs, h⟩⟩))
theorem odd_t {H : Hp} {p : Addr} {xs : List V} (h : H p = some (.tup xs)) : Odd (.ref p) H := .inr (.inr (.inr ⟨p, rfl, .inr (.inl ⟨xs, h⟩)⟩))
theorem odd_d {H : Hp} {p : Addr} {xs : List (Key × V)} (h : H p = some (.dK xs)) : Odd (.ref p) H := .inr (.inr (.inr ⟨p, rfl, .inr (.inr ⟨xs, h⟩)⟩))
theorem g_odd {σ : L2.St} {te : TE} {v : V} (h : Ev te σ H v) (o : ∀ H', Odd v H') : EvG te σ H Thing := g_ev thing_up h (.inr (o H))
theorem g_disp {σ : L2.St} {tk tv : TE} {k v : V} {kk : Key} (hk : Ev tk σ H k) (hv : Ev tv σ H v) (e1 : k = kV kk) : EvG (tDisp [(tk, tv)]) σ H Thing := fun H1 e Q q p hp =>
  hk _ (e.trans (Ex.new hp)) _ fun H2 e2 => hv H2 ((e.trans (Ex.new hp)).trans e2) _ fun H3 e3 =>
    ⟨e3 _ _ (e2 _ _ upd_same), [(kk, v)], by rw [e1]; rfl, (by show 1 ≤ 15; decide), q _ _ (Ex.mut (((Ex.new hp).trans e2).trans e3) hp) (.inr (odd_d upd_same))⟩
theorem R_law_thing (h : sp_law_thing K vs H Q E) : T_law_thing K (fin Q) (slots n_law_thing vs) H := by
  obtain ⟨c, rfl, k⟩ := h
  show T_law_thing K (fin Q) [some (.int c), none, none, none, none] H
  unfold T_law_thing
  refine q_asg ev_c fun H1 e1 => ?_
  have n0 : 0 ≤ c / 7 % 27 := Int.emod_nonneg _ (by omega)
  have n1 : c / 7 % 27 < 27 := Int.emod_lt_of_pos _ (by omega)
  have m0 : 0 ≤ c % 3 := Int.emod_nonneg _ (by omega)
  have m1 : c % 3 < 3 := Int.emod_lt_of_pos _ (by omega)
  let cs : List Nat := (List.range (c / 7 % 27).toNat).map fun (i : Nat) => ((c / 7 + 5 * (i : Int) * (c % 3)) % 26).toNat + 97
  have hl : cs.length ≤ 26 := by
    show ((List.range (c / 7 % 27).toNat).map _).length ≤ 26
    rw [List.length_map, List.length_range]; omega
  refine q_asg (v := tx cs) (e_join ?_ (by omega)) fun H2 e2 => ?_
  · have hg : cs.map (fun c => tx [c]) = given (c / 7 % 27).toNat (fun _ => true) (fun i => tx [((c / 7 + 5 * (i : Int) * (c % 3)) % 26).toNat + 97]) := by
      rw [given_all]
      show ((List.range (c / 7 % 27).toNat).map _).map _ = _
      rw [List.map_map]
      rfl
    rw [hg]
    refine el_lcR1 _ _ (ea_cons (e_mod (e_div (ev_var rfl) ev_c (by decide)) ev_c (by decide)) ea_nil) (by omega) (fun x => rfl) (fun i H2 e2 hi => ?_) (fun i H2 e2 hi _ => ?_)
    · exact fun H1 _ Q q => q H1 (Ex.refl H1)
    · exact e_letter (ev_var rfl) (e_mod (e_add (e_div (ev_var rfl) ev_c (by decide)) (e_mul (e_mul ev_c (ev_var rfl) (.inl (by decide))) (e_mod (ev_var rfl) ev_c (by decide)) (.inl (by omega)))) ev_c (by decide)) (Int.emod_nonneg _ (by omega)) (Int.emod_lt_of_pos _ (by omega))
  refine q_when (et_test (e_lt (e_mod (ev_var rfl) ev_c (by decide)) ev_c)) (fun hb H3 e3 => ?_) (fun hb H3 e3 => ?_)
  · exact s_ret (ev_var rfl) fun H4 e4 => k _ _ (((e1.trans e2).trans e3).trans e4) (.inl ⟨cs, rfl, by omega⟩)
  refine q_when (et_test (e_lt (e_mod (ev_var rfl) ev_c (by decide)) ev_c)) (fun hb H4 e4 => ?_) (fun hb H4 e4 => ?_)
  · have a0 : 0 ≤ c / 189 % ((cs.length : Int) + 1) := Int.emod_nonneg _ (by omega)
    refine q_asg (e_mod (e_div (ev_var rfl) ev_c (by decide)) (e_add (e_lenS (ev_var rfl) (by omega)) ev_c) (by omega)) fun H5 e5 => ?_
    generalize c / 189 % ((cs.length : Int) + 1) = a at a0
    have ht : (cs.take a.toNat).length ≤ 26 := by rw [List.length_take]; omega
    have hd : (cs.drop a.toNat).length ≤ 26 - a.toNat := by rw [List.length_drop]; omega
    have hd0 : (cs.take a.toNat).length + (cs.drop a.toNat).length = cs.length := by rw [← List.length_append, List.take_append_drop]
    -- text[:at] + sign(..) + text[at:]
    refine e_take (ev_var rfl) (ev_var rfl) (by omega) a0 H5 (Ex.refl H5) _ fun H6 e6 => ?_
    refine g_sign (e_div (ev_var rfl) ev_c (by decide)) H6 (Ex.refl H6) _ fun v H7 e7 hv => ?_
    obtain ⟨s, rfl⟩ := hv
    refine ⟨_, _, rfl, rfl, by rw [tx_len, tx_len]; exact line1 (by simp; omega), ?_⟩
    rw [tx_app]
    refine e_drop (ev_var rfl) (ev_var rfl) (by omega) a0 H7 (Ex.refl H7) _ fun H8 e8 => ?_
    refine ⟨_, _, rfl, rfl, by rw [tx_len, tx_len]; exact line1 (by simp; omega), ?_⟩
    rw [tx_app]
    exact k _ _ (((((((e1.trans e2).trans e3).trans e4).trans e5).trans e6).trans e7).trans e8) (.inl ⟨_, rfl, by simp only [List.length_append, List.length_cons, List.length_nil]; omega⟩)
  · refine s_retG (P := Thing) (g_pick (n := 12) thing_up ?_ (e_mod (e_div (ev_var rfl) ev_c (by decide)) ev_c (by decide)) (Int.emod_nonneg _ (by omega)) (Int.emod_lt_of_pos _ (by omega)) (by decide)) fun v H5 e5 p => k _ _ ((((e1.trans e2).trans e3).trans e4).trans e5) p
    refine all_cons thing_up (g_odd ev_c fun _ => odd_non) <| all_cons thing_up (g_odd ev_c fun _ => odd_int) <| all_cons thing_up (g_odd ev_c fun _ => odd_bl) <|
      all_cons thing_up (g_tup (eu_tup (ea_cons ev_c ea_nil) (by decide)) fun a H2 _ h => .inr (odd_t h)) <| all_cons thing_up (g_lst (el_lst (ea_cons ev_c ea_nil) (by decide)) fun a H2 _ h => .inr (odd_l h)) <|
      all_cons thing_up (g_dnew fun a H2 _ h => .inr (odd_d h)) <| all_cons thing_up (g_lst (el_lst ea_nil (by decide)) fun a H2 _ h => .inr (odd_l h)) <|
      all_cons thing_up (g_tup (eu_tup (ea_cons ev_c (ea_cons ev_c ea_nil)) (by decide)) fun a H2 _ h => .inr (odd_t h)) <| all_cons thing_up (g_odd ev_c fun _ => odd_int) <|
      all_cons thing_up (g_odd (e_neg ev_c) fun _ => odd_int) <| all_cons thing_up (g_odd ev_c fun _ => odd_bl) <| all_cons thing_up (g_disp (kk := .inr ⟨#[97]⟩) ev_c ev_c rfl) all_nil
theorem R_law_is_word (h : sp_law_is_word K vs H Q E) : T_law_is_word K (fin Q) (slots n_law_is_word vs) H := by
  obtain ⟨v, rfl, h⟩ := h
  show T_law_is_word K (fin Q) [some v, none] H
  unfold T_law_is_word
  rcases h with ⟨w, rfl, hl, k⟩ | ⟨ho, k⟩
  · refine q_when (b := decide (24 < w.length)) (et_is (et_or (et_not (et_B (e_isStr (ev_var rfl)))) (fun _ => et_test (e_gt (e_lenS (ev_var rfl) (by omega)) ev_c))) (by simp [dec_eq (show (24 : Int) < (w.length : Int) ↔ 24 < w.length by omega)])) (fun hb H1 e1 => ?_) (fun hb H1 e1 => ?_)
    · have hb' := of_decide_eq_true hb
      rw [isW_long hb'] at k
      exact s_ret ev_c fun H2 e2 => k _ (e1.trans e2)
    · have hb' := of_decide_eq_false hb
      let f : Nat → Bool := fun i => !decide ((w[i]?).getD 0 ∈ abc)
      have hf : given w.length f (fun i => tx [(w[i]?).getD 0]) = (((List.range w.length).filter f).map fun i => (⟨#[(w[i]?).getD 0]⟩ : Str)).map V.str := by
        unfold given
        rw [List.map_map]
        rfl
      have hE : EvL (tLc (iStr (tVar 0)) (gName 1) (tTest (tOp nNotInS (tVar 1) (tC (tx abc)))) (tVar 1) [1]) [some (tx w), none] H1 (given w.length f (fun i => tx [(w[i]?).getD 0])) := by
        refine el_lcS f _ (ev_var rfl) (by omega) (fun x => rfl) (fun i c H2 e2 hc => ?_) (fun i c H2 e2 hc _ => ?_)
        · refine et_is (et_test (e_notInS (ev_var rfl) ev_c)) ?_
          show _ = !decide ((w[i]?).getD 0 ∈ abc)
          rw [hc]; rfl
        · rw [hc]
          exact ev_var rfl
      refine s_ret (v := .bl (isW w)) (ev_opLL hE (el_lst ea_nil (by decide)) fun p q H2 hp hq e2 => fun H3 e3 Q3 q3 => ?_) fun H2 e2 => k _ (e1.trans e2)
      refine n_eq (x := (((List.range w.length).filter f).map fun i => (⟨#[(w[i]?).getD 0]⟩ : Str))) (y := ([] : List Str)) (is_strs (sq_of ?_)) (is_strs (sq_of (e3 _ _ hq))) (by decide) ?_
      · rw [← hf]
        exact e3 _ _ hp
      · have hk : decide ((((List.range w.length).filter f).map fun i => (⟨#[(w[i]?).getD 0]⟩ : Str)) = []) = isW w := by
            unfold isW
            refine dec_eq ⟨fun hn => ⟨by omega, fun c hc => ?_⟩, fun hw => ?_⟩
            · obtain ⟨i, hi⟩ := List.mem_iff_getElem?.mp hc
              rw [List.map_eq_nil_iff, List.filter_eq_nil_iff] at hn
              have h3 := hn i (List.mem_range.mpr (List.getElem?_eq_some_iff.mp hi).1)
              have h4 : (w[i]?).getD 0 ∈ abc := by simpa [f] using h3
              rw [hi] at h4
              exact mem_abc.mp h4
            · rw [List.map_eq_nil_iff, List.filter_eq_nil_iff]
              intro i hi
              have hi' := List.mem_range.mp hi
              have h4 : (w[i]?).getD 0 ∈ abc := by
                rw [List.getElem?_eq_getElem hi']
                exact mem_abc.mpr (hw.2 _ (List.getElem_mem hi'))
              simp only [f, h4, decide_true, Bool.not_true]
              exact Bool.false_ne_true
        rw [hk]
        exact q3 _ (Ex.refl _)
  · refine q_when (b := true) (et_is (et_or (et_not (et_B (e_isOdd (ev_var rfl) ho))) (b := true) (fun hh => by cases hh)) (by simp)) (fun hb H1 e1 => ?_) (fun hb => by cases hb)
    exact s_ret ev_c fun H2 e2 => k _ (e1.trans e2)
/-! ### the law -/
def sp_law1 (K : PySem.W.Frag) : Sp := fun vs H Q _ => ∃ (a : Addr) (ns : List Int), vs = [.ref a] ∧ SqL K H a (ns.map V.int) ∧ ns.length ≤ 63 ∧ ∀ H', Q (.bl true) H'
end
theorem l_law1 {K vs H Q E} (h : sp_law1 K vs H Q E) : vs.length = 1 := by obtain ⟨v, _, rfl, _⟩ := h; rfl
/- law(_law_script): slots 0:_law_script 1:_law_k 2:_law_thing_here 3:_law_found -/
def T_law1 (K : PySem.W.Frag) : TS :=
 (tSeq (tIfS (tOr (tTest (tOp nNe (tC (tx abc)) (tC (tx abc)))) (tOr (tTest (tOp nNe (tC (.int 24)) (tC (.int 24)))) (tTest (tOp nNe (tC (.int 400)) (tC (.int 400))))))
 (tRet (tC (.bl false))) tNext)
 (tSeq (tFor (iRng1 (tCons (tCB (nLenL K) (tCons (tVar 0) tNil)) tNil)) (gName 1)
 (tSeq (tAsg (tCall (sp_law_thing K) [] E0 (tCons (tOp nAdd (tOp (nIxL K) (tVar 0) (tVar 1)) (tOp nMul (tC (.int 1001)) (tVar 1))) tNil)) (gName 2))
 (tSeq (tAsg (tCall (sp_is_word K) [] E0 (tCons (tVar 2) tNil)) (gName 3))
 (tIfS (tOr (tNot (tB (tCB (nIsi K) (tCons (tVar 3) (tCons (tC (.ty "bool")) tNil))))) (tTest (tOp nNe (tVar 3) (tCall (sp_law_is_word K) [] E0 (tCons (tVar 2) tNil)))))
 (tRet (tC (.bl false))) tNext))))
 (tRet (tC (.bl true)))))
def n_law1 : Nat := 4
section
variable {K : PySem.W.Frag} {vs : List V} {H : Hp} {Q : VK} {E : XK}
theorem ints_at {ns : List Int} {i : Nat} (h : i < ns.length) : atI (ns.map V.int) (i : Int) = some (.int ns[i]) := atI_nat (by rw [List.getElem?_map, List.getElem?_eq_getElem h]; rfl)
theorem thing_isw {v : V} (h : Thing v H) : ∃ b, (∀ H1, Ex H H1 → ∀ Q E, RetV (.bl b) H1 Q → sp_is_word K [v] H1 Q E) := by
  rcases h with ⟨w, rfl, hl⟩ | h
  · exact ⟨isW w, fun H1 e Q E k => ⟨_, rfl, .inl ⟨w, rfl, by omega, k⟩⟩⟩
  · exact ⟨false, fun H1 e Q E k => ⟨_, rfl, .inr ⟨odd_up _ _ _ e h, k⟩⟩⟩
theorem R_law1 (h : sp_law1 K vs H Q E) : T_law1 K (fin Q) (slots n_law1 vs) H := by
  obtain ⟨a, ns, rfl, hS, hn, k⟩ := h
  show T_law1 K (fin Q) [some (.ref a), none, none, none] H
  unfold T_law1
  refine q_when (b := false) (et_is (et_or (et_test (e_ne ev_c ev_c .ss)) fun _ => et_or (et_test (e_ne ev_c ev_c .ii)) fun _ => et_test (e_ne ev_c ev_c .ii)) (by simp)) (fun hb => by cases hb) (fun _ H1 e1 => ?_)
  refine q_forR1 (n := (ns.length : Int)) (ea_cons (ev_is (e_lenL (ev_var rfl) (ex_l e1 hS)) (by rw [List.length_map])) ea_nil) (by omega) (fun i σ H' => (∃ x y z, σ = [some (.ref a), x, y, z]) ∧ Ex H H') (fun H2 e2 => ⟨⟨_, _, _, rfl⟩, e1.trans e2⟩) (fun i σ H' hi hp => ?_) (fun σ H' hp => ?_)
  · obtain ⟨⟨x, y, z, rfl⟩, e⟩ := hp
    have hi' : i < ns.length := by omega
    refine q_asgG (P := Thing) (g_call (ea_cons (e_add (e_ixL (ev_var rfl) (ev_var rfl) (ex_l e hS) (ints_at hi')) (e_mul ev_c (ev_var rfl) (.inl (by decide)))) ea_nil) fun H1 e Q q E => ⟨_, rfl, q⟩) fun v H2 e2 hv => ?_
    obtain ⟨b, hb⟩ := thing_isw (K := K) hv
    refine q_asg (v := .bl b) (ev_call (ea_cons (ev_var rfl) ea_nil) fun H1 e Q q E => hb H1 e Q E fun H2 e2 => q H2 e2) fun H3 e3 => ?_
    refine s_when (b := false) (et_is (et_or (et_not (et_B (e_isBool (ev_var rfl)))) fun _ => et_test (e_ne (ev_var rfl) (ev_call (z := .bl b) (ea_cons (ev_var rfl) ea_nil) fun H1 e4 Q q E => hb H1 (e3.trans e4) Q E fun H2 e2 => q H2 e2) .bb)) (by simp)) (fun hb => by cases hb) (fun _ H4 e4 => ?_)
    exact ⟨⟨_, _, _, rfl⟩, ((e.trans e2).trans e3).trans e4⟩
  · obtain ⟨⟨x, y, z, rfl⟩, e⟩ := hp
    exact s_ret ev_c fun H2 e2 => k _
end
end Nw

set_option Elab.async false
set_option linter.all false
set_option maxRecDepth 100000
/-! changes of texts: is_letter, is_whole, need_change, done, led; the law's own _law_whole, _law_step -/
namespace Nw
open PySem L2 Evl
theorem nd {p : Prop} [Decidable p] (h : (!decide p) = true) : ¬ p := by simpa using h
theorem nd' {p : Prop} [Decidable p] (h : (!decide p) = false) : p := by simpa using h
/-! ### things by their types -/
section
variable {K : PySem.W.Frag} {σ : L2.St} {H H' : Hp} {ta : TE} {v : V}
def isI : V → Bool
  | .int _ => true
  | _ => false
/-- v's type is n, and stays so -/
def HasTy (n : String) (v : V) (H : Hp) : Prop := ∀ (K : PySem.W.Frag) (H1 : Hp), Ex H H1 → TyX K H1 v (.type n)
theorem ht_str {w : Str} : HasTy "str" (.str w) H := fun _ _ _ => .base (.str _)
theorem ht_non : HasTy "NoneType" .non H := fun _ _ _ => .base .non
theorem ht_int {i : Int} : HasTy "int" (.int i) H := fun _ _ _ => .base (.int _)
theorem ht_bl {i : Bool} : HasTy "bool" (.bl i) H := fun _ _ _ => .base (.bl _)
theorem ht_lst {p : Addr} {xs : List V} (h : H p = some (.lst xs)) : HasTy "list" (.ref p) H := fun _ _ e => .base (.lst (e _ _ h))
theorem ht_tup {p : Addr} {xs : List V} (h : H p = some (.tup xs)) : HasTy "tuple" (.ref p) H := fun _ _ e => .base (.tup (e _ _ h))
theorem ht_dK {p : Addr} {xs : List (Key × V)} (h : H p = some (.dK xs)) : HasTy "dict" (.ref p) H := fun _ _ e => .base (.dK (e _ _ h))
/-- isinstance(v, T) -/
theorem e_is {n T : String} {b : Bool} (ha : Ev ta σ H v) (h : HasTy n v H) (hk : kitB n T = some b) : Ev (tCB (nIsi K) (tCons ta (tCons (tC (.ty T)) tNil))) σ H (.bl b) :=
  ev_cb (ea_cons ha (ea_cons ev_c ea_nil)) fun H1 e Q q => ⟨v, .ty T, .type n, .type T, b, rfl, .ty T, h K H1 e, kit_ty hk, q H1 (Ex.refl H1)⟩
/-- no tuple -/
def NoTup (v : V) (H : Hp) : Prop := (∃ w, v = tx w ∧ w.length ≤ 1000) ∨ v = .non ∨ (∃ i, v = .int i) ∨ (∃ b, v = .bl b) ∨ ∃ p, v = .ref p ∧ ((∃ xs, H p = some (.lst xs)) ∨ ∃ kvs, H p = some (.dK kvs))
def Tup (v : V) (xs : List V) (H : Hp) : Prop := ∃ p, v = .ref p ∧ H p = some (.tup xs)
theorem noTup_up : Up NoTup := fun v H H' e h => by
  rcases h with h | h | h | h | ⟨p, hp, ⟨xs, h⟩ | ⟨xs, h⟩⟩
  · exact .inl h
  · exact .inr (.inl h)
  · exact .inr (.inr (.inl h))
  · exact .inr (.inr (.inr (.inl h)))
  · exact .inr (.inr (.inr (.inr ⟨p, hp, .inl ⟨xs, e _ _ h⟩⟩)))
  · exact .inr (.inr (.inr (.inr ⟨p, hp, .inr ⟨xs, e _ _ h⟩⟩)))
theorem tup_up (xs : List V) : Up (fun v H => Tup v xs H) := fun v H H' e ⟨p, hp, h⟩ => ⟨p, hp, e _ _ h⟩
theorem e_isTup {xs : List V} (ha : Ev ta σ H v) (h : Tup v xs H) : Ev (tCB (nIsi K) (tCons ta (tCons (tC (.ty "tuple")) tNil))) σ H (.bl true) := by
  obtain ⟨p, rfl, h⟩ := h
  exact e_is ha (ht_tup h) (by decide +kernel)
theorem e_noTup (ha : Ev ta σ H v) (h : NoTup v H) : Ev (tCB (nIsi K) (tCons ta (tCons (tC (.ty "tuple")) tNil))) σ H (.bl false) := by
  rcases h with ⟨w, rfl, _⟩ | rfl | ⟨i, rfl⟩ | ⟨b, rfl⟩ | ⟨p, rfl, ⟨xs, h⟩ | ⟨xs, h⟩⟩
  · exact e_is ha ht_str (by decide +kernel)
  · exact e_is ha ht_non (by decide +kernel)
  · exact e_is ha ht_int (by decide +kernel)
  · exact e_is ha ht_bl (by decide +kernel)
  · exact e_is ha (ht_lst h) (by decide +kernel)
  · exact e_is ha (ht_dK h) (by decide +kernel)
theorem e_isInt (ha : Ev ta σ H v) (h : Any v H) : ∃ b c, Ev (tCB (nIsi K) (tCons ta (tCons (tC (.ty "int")) tNil))) σ H (.bl b) ∧ Ev (tCB (nIsi K) (tCons ta (tCons (tC (.ty "bool")) tNil))) σ H (.bl c) ∧ (b && !c) = isI v := by
  rcases h with ⟨w, rfl, _⟩ | rfl | ⟨i, rfl⟩ | ⟨b, rfl⟩ | ⟨p, rfl, ⟨xs, h⟩ | ⟨xs, h⟩ | ⟨xs, h⟩⟩
  · exact ⟨false, false, e_is ha ht_str (by decide +kernel), e_is ha ht_str (by decide +kernel), rfl⟩
  · exact ⟨false, false, e_is ha ht_non (by decide +kernel), e_is ha ht_non (by decide +kernel), rfl⟩
  · exact ⟨true, false, e_is ha ht_int (by decide +kernel), e_is ha ht_int (by decide +kernel), rfl⟩
  · exact ⟨true, true, e_is ha ht_bl (by decide +kernel), e_is ha ht_bl (by decide +kernel), rfl⟩
  · exact ⟨false, false, e_is ha (ht_lst h) (by decide +kernel), e_is ha (ht_lst h) (by decide +kernel), rfl⟩
  · exact ⟨false, false, e_is ha (ht_tup h) (by decide +kernel), e_is ha (ht_tup h) (by decide +kernel), rfl⟩
  · exact ⟨false, false, e_is ha (ht_dK h) (by decide +kernel), e_is ha (ht_dK h) (by decide +kernel), rfl⟩
end
/-! ### changes -/
abbrev wPut : List Nat := [112, 117, 116]
abbrev wCut : List Nat := [99, 117, 116]
abbrev wTurn : List Nat := [116, 117, 114, 110]
inductive Good (w : List Nat) : List V → List Nat → Prop
  | put {i : Int} {c : Nat} (h0 : 0 ≤ i) (h1 : i ≤ (w.length : Int)) (hc : 97 ≤ c ∧ c < 123) : Good w [tx wPut, .int i, tx [c]] (w.take i.toNat ++ [c] ++ w.drop i.toNat)
  | cut {i : Int} (h0 : 0 ≤ i) (h1 : i < (w.length : Int)) : Good w [tx wCut, .int i] (w.take i.toNat ++ w.drop (i + 1).toNat)
  | turn {i : Int} {c : Nat} (h0 : 0 ≤ i) (h1 : i < (w.length : Int)) (hc : 97 ≤ c ∧ c < 123) (hn : w[i.toNat]? ≠ some c) : Good w [tx wTurn, .int i, tx [c]] (w.take i.toNat ++ [c] ++ w.drop (i + 1).toNat)
def GoodV (w : List Nat) (v : V) (H : Hp) (w' : List Nat) : Prop := ∃ xs, Tup v xs H ∧ Good w xs w'
def Chg (v : V) (H : Hp) : Prop := (∃ xs, Tup v xs H ∧ xs.length ≤ 4 ∧ ∀ x ∈ xs, Any x H) ∨ NoTup v H
theorem chg_up : Up Chg := fun v H H' e h => by
  rcases h with ⟨xs, ht, hl, ha⟩ | h
  · exact .inl ⟨xs, tup_up xs v H H' e ht, hl, fun x hx => any_up x H H' e (ha x hx)⟩
  · exact .inr (noTup_up v H H' e h)
theorem tup_inj {v : V} {xs ys : List V} {H H' : Hp} (e : Ex H H') (h : Tup v xs H) (h' : Tup v ys H') : xs = ys := by
  obtain ⟨p, rfl, h⟩ := h
  obtain ⟨q, hq, h'⟩ := h'
  have hpq : p = q := V.ref.inj hq
  subst hpq
  rw [e _ _ h] at h'
  exact HO.tup.inj (Option.some.inj h')
theorem noTup_not {v : V} {xs : List V} {H H' : Hp} (e : Ex H H') (h : NoTup v H) (h' : Tup v xs H') : False := by
  obtain ⟨q, rfl, h'⟩ := h'
  rcases h with ⟨w, hw, _⟩ | hw | ⟨i, hw⟩ | ⟨b, hw⟩ | ⟨p, hp, ⟨xs, h⟩ | ⟨xs, h⟩⟩
  · cases hw
  · cases hw
  · cases hw
  · cases hw
  · cases hp; rw [e _ _ h] at h'; cases h'
  · cases hp; rw [e _ _ h] at h'; cases h'
theorem goodV_up {w : List Nat} {v : V} {H H' : Hp} {w' : List Nat} (e : Ex H H') (h : GoodV w v H w') : GoodV w v H' w' := by
  obtain ⟨xs, ht, hg⟩ := h
  exact ⟨xs, tup_up xs v H H' e ht, hg⟩
theorem goodV_down {w : List Nat} {v : V} {H H' : Hp} {w' : List Nat} (e : Ex H H') (hc : Chg v H) (h : GoodV w v H' w') : GoodV w v H w' := by
  obtain ⟨xs, ht, hg⟩ := h
  rcases hc with ⟨ys, ht', _⟩ | hn
  · rw [← tup_inj e ht' ht] at hg
    exact ⟨ys, ht', hg⟩
  · exact (noTup_not e hn ht).elim
/-- what a change makes is a text of letters, at most one longer -/
theorem good_len {w w' : List Nat} {xs : List V} (h : Good w xs w') : w'.length ≤ w.length + 1 := by
  cases h with
  | put h0 h1 hc => simp only [List.length_append, List.length_take, List.length_drop, List.length_cons, List.length_nil]; omega
  | cut h0 h1 => simp only [List.length_append, List.length_take, List.length_drop]; omega
  | turn h0 h1 hc hn => simp only [List.length_append, List.length_take, List.length_drop, List.length_cons, List.length_nil]; omega
theorem good_low {w w' : List Nat} {xs : List V} (h : Good w xs w') (hl : Low w) : Low w' := by
  cases h with
  | put h0 h1 hc => exact low_app (low_app (low_take _ hl) (low_one hc)) (low_drop _ hl)
  | cut h0 h1 => exact low_app (low_take _ hl) (low_drop _ hl)
  | turn h0 h1 hc hn => exact low_app (low_app (low_take _ hl) (low_one hc)) (low_drop _ hl)
def RetE (C : Addr) (H : Hp) (E : XK) : Prop := ∀ H2, Ex H H2 → E (.ref C) none H2
def IsL (v : V) : Prop := ∃ c, v = tx [c] ∧ 97 ≤ c ∧ c < 123
def sp_is_letter (K : PySem.W.Frag) : Sp := fun vs H Q _ => ∃ v, vs = [v] ∧ Any v H ∧ (IsL v → RetV (.bl true) H Q) ∧ (¬ IsL v → RetV (.bl false) H Q)
def sp_is_whole (K : PySem.W.Frag) : Sp := fun vs H Q _ => ∃ v, vs = [v] ∧ Any v H ∧ RetV (.bl (isI v)) H Q
def sp_law_whole (K : PySem.W.Frag) : Sp := sp_is_whole K
def sp_need_change (K : PySem.W.Frag) (C : Addr) : Sp := fun vs H Q E => ∃ w v, vs = [tx w, v] ∧ w.length ≤ 900 ∧ Chg v H ∧ ((∃ w', GoodV w v H w') → RetV .non H Q) ∧ ((¬ ∃ w', GoodV w v H w') → RetE C H E)
def sp_done (K : PySem.W.Frag) (C : Addr) : Sp := fun vs H Q E => ∃ w v, vs = [tx w, v] ∧ w.length ≤ 900 ∧ Chg v H ∧ (∀ w', GoodV w v H w' → RetV (tx w') H Q) ∧ ((¬ ∃ w', GoodV w v H w') → RetE C H E)
def sp_law_step (K : PySem.W.Frag) : Sp := fun vs H Q _ => ∃ w v, vs = [tx w, v] ∧ w.length ≤ 900 ∧ Chg v H ∧ (∀ w', GoodV w v H w' → RetV (tx w') H Q) ∧ ((¬ ∃ w', GoodV w v H w') → RetV .non H Q)
/- is_letter(thing): slots 0:thing -/
def T_is_letter (K : PySem.W.Frag) : TS :=
 (tRet (tAndV (tCB (nIsi K) (tCons (tVar 0) (tCons (tC (.ty "str")) tNil))) (tAndV (tOp nEq (tCB nLenS (tCons (tVar 0) tNil)) (tC (.int 1))) (tOp nInS (tVar 0) (tC (tx abc))))))
def n_is_letter : Nat := 1
/- is_whole(thing): slots 0:thing -/
def T_is_whole (K : PySem.W.Frag) : TS :=
 (tRet (tAndV (tCB (nIsi K) (tCons (tVar 0) (tCons (tC (.ty "int")) tNil))) (tNotV (tCB (nIsi K) (tCons (tVar 0) (tCons (tC (.ty "bool")) tNil))))))
def n_is_whole : Nat := 1
/- need_change(text, change): slots 0:text 1:change 2:beyond -/
def T_need_change (K : PySem.W.Frag) (C_BadChange : Addr) (E : XK) : TS :=
 (tSeq (tIfS (tOr (tNot (tB (tCB (nIsi K) (tCons (tVar 1) (tCons (tC (.ty "tuple")) tNil))))) (tOr (tTest (tOp nLt (tCB (nLenL K) (tCons (tVar 1) tNil)) (tC (.int 2)))) (tNot (tB (tCB (nIsi K) (tCons (tOp (nIxT K) (tVar 1) (tC (.int 0))) (tCons (tC (.ty "str")) tNil)))))))
 (tRaise E (.ref C_BadChange)) tNext)
 (tSeq (tIfS (tTest (tOp nNe (tCB (nLenL K) (tCons (tVar 1) tNil)) (tDGet2 (tDisp [((tC (tx [112, 117, 116])), (tC (.int 3))), ((tC (tx [99, 117, 116])), (tC (.int 2))), ((tC (tx [116, 117, 114, 110])), (tC (.int 3)))]) (tOp (nIxT K) (tVar 1) (tC (.int 0))) (tC (.int 0)))))
 (tRaise E (.ref C_BadChange)) tNext)
 (tSeq (tAsg (tCB nLenS (tCons (tVar 0) tNil)) (gName 2))
 (tSeq (tIfS (tTest (tOp nEq (tOp (nIxT K) (tVar 1) (tC (.int 0))) (tC (tx [112, 117, 116]))))
 (tAug 2 (tC (.int 1)) (ipI (fun i j => i + j))) tNext)
 (tSeq (tIfS (tOr (tNot (tB (tCall (sp_is_whole K) [] E0 (tCons (tOp (nIxT K) (tVar 1) (tC (.int 1))) tNil)))) (tNot (tTest (tChain nLe nLt (tC (.int 0)) (tOp (nIxT K) (tVar 1) (tC (.int 1))) (tVar 2)))))
 (tRaise E (.ref C_BadChange)) tNext)
 (tSeq (tIfS (tAnd (tTest (tOp nNe (tOp (nIxT K) (tVar 1) (tC (.int 0))) (tC (tx [99, 117, 116])))) (tNot (tB (tCall (sp_is_letter K) [] E0 (tCons (tOp (nIxT K) (tVar 1) (tC (.int 2))) tNil)))))
 (tRaise E (.ref C_BadChange)) tNext)
 (tIfS (tAnd (tTest (tOp nEq (tOp (nIxT K) (tVar 1) (tC (.int 0))) (tC (tx [116, 117, 114, 110])))) (tTest (tOp nEq (tOp (nIxT K) (tVar 1) (tC (.int 2))) (tOp nIxS (tVar 0) (tOp (nIxT K) (tVar 1) (tC (.int 1)))))))
 (tRaise E (.ref C_BadChange)) tNext)))))))
def n_need_change : Nat := 3
/- done(text, change): slots 0:text 1:change 2:place -/
def T_done (K : PySem.W.Frag) (C_BadChange : Addr) (E : XK) : TS :=
 (tSeq (tDrop (tCall (sp_need_change K C_BadChange) [] E (tCons (tVar 0) (tCons (tVar 1) tNil))))
 (tSeq (tAsg (tOp (nIxT K) (tVar 1) (tC (.int 1))) (gName 2))
 (tSeq (tIfS (tTest (tOp nEq (tOp (nIxT K) (tVar 1) (tC (.int 0))) (tC (tx [112, 117, 116]))))
 (tRet (tOp nCat (tOp nCat (tSl nSlS (tVar 0) tNoPart (tPart (tVar 2))) (tOp (nIxT K) (tVar 1) (tC (.int 2)))) (tSl nSlS (tVar 0) (tPart (tVar 2)) tNoPart))) tNext)
 (tSeq (tIfS (tTest (tOp nEq (tOp (nIxT K) (tVar 1) (tC (.int 0))) (tC (tx [99, 117, 116]))))
 (tRet (tOp nCat (tSl nSlS (tVar 0) tNoPart (tPart (tVar 2))) (tSl nSlS (tVar 0) (tPart (tOp nAdd (tVar 2) (tC (.int 1)))) tNoPart))) tNext)
 (tRet (tOp nCat (tOp nCat (tSl nSlS (tVar 0) tNoPart (tPart (tVar 2))) (tOp (nIxT K) (tVar 1) (tC (.int 2)))) (tSl nSlS (tVar 0) (tPart (tOp nAdd (tVar 2) (tC (.int 1)))) tNoPart)))))))
def n_done : Nat := 3
/- _law_whole(_law_thing): slots 0:_law_thing -/
def T_law_whole (K : PySem.W.Frag) : TS :=
 (tRet (tAndV (tCB (nIsi K) (tCons (tVar 0) (tCons (tC (.ty "int")) tNil))) (tNotV (tCB (nIsi K) (tCons (tVar 0) (tCons (tC (.ty "bool")) tNil))))))
def n_law_whole : Nat := 1
/- _law_step(_law_text, _law_change_here): slots 0:_law_text 1:_law_change_here 2:_law_place 3:_law_letter_here -/
def T_law_step (K : PySem.W.Frag) : TS :=
 (tSeq (tIfS (tOr (tNot (tB (tCB (nIsi K) (tCons (tVar 1) (tCons (tC (.ty "tuple")) tNil))))) (tOr (tTest (tOp nLt (tCB (nLenL K) (tCons (tVar 1) tNil)) (tC (.int 2)))) (tOr (tTest (tOp nGt (tCB (nLenL K) (tCons (tVar 1) tNil)) (tC (.int 3)))) (tNot (tB (tCall (sp_law_whole K) [] E0 (tCons (tOp (nIxT K) (tVar 1) (tC (.int 1))) tNil)))))))
 (tRet (tC .non)) tNext)
 (tSeq (tAsg (tOp (nIxT K) (tVar 1) (tC (.int 1))) (gName 2))
 (tSeq (tIfS (tTest (tOp nEq (tCB (nLenL K) (tCons (tVar 1) tNil)) (tC (.int 2))))
 (tSeq (tIfS (tOr (tTest (tOp nNeS (tOp (nIxT K) (tVar 1) (tC (.int 0))) (tC (tx [99, 117, 116])))) (tNot (tTest (tChain nLe nLt (tC (.int 0)) (tVar 2) (tCB nLenS (tCons (tVar 0) tNil))))))
 (tRet (tC .non)) tNext)
 (tRet (tOp nCat (tSl nSlS (tVar 0) tNoPart (tPart (tVar 2))) (tSl nSlS (tVar 0) (tPart (tOp nAdd (tVar 2) (tC (.int 1)))) tNoPart)))) tNext)
 (tSeq (tAsg (tOp (nIxT K) (tVar 1) (tC (.int 2))) (gName 3))
 (tSeq (tIfS (tOr (tNot (tB (tCB (nIsi K) (tCons (tVar 3) (tCons (tC (.ty "str")) tNil))))) (tOr (tTest (tOp nNe (tCB nLenS (tCons (tVar 3) tNil)) (tC (.int 1)))) (tTest (tOp nNotInS (tVar 3) (tC (tx abc))))))
 (tRet (tC .non)) tNext)
 (tSeq (tIfS (tAnd (tTest (tOp nEqS (tOp (nIxT K) (tVar 1) (tC (.int 0))) (tC (tx [112, 117, 116])))) (tTest (tChain nLe nLe (tC (.int 0)) (tVar 2) (tCB nLenS (tCons (tVar 0) tNil)))))
 (tRet (tOp nCat (tOp nCat (tSl nSlS (tVar 0) tNoPart (tPart (tVar 2))) (tVar 3)) (tSl nSlS (tVar 0) (tPart (tVar 2)) tNoPart))) tNext)
 (tSeq (tIfS (tAnd (tTest (tOp nEqS (tOp (nIxT K) (tVar 1) (tC (.int 0))) (tC (tx [116, 117, 114, 110])))) (tAnd (tTest (tChain nLe nLt (tC (.int 0)) (tVar 2) (tCB nLenS (tCons (tVar 0) tNil)))) (tTest (tOp nNe (tOp nIxS (tVar 0) (tVar 2)) (tVar 3)))))
 (tRet (tOp nCat (tOp nCat (tSl nSlS (tVar 0) tNoPart (tPart (tVar 2))) (tVar 3)) (tSl nSlS (tVar 0) (tPart (tOp nAdd (tVar 2) (tC (.int 1)))) tNoPart))) tNext)
 (tRet (tC .non)))))))))
def n_law_step : Nat := 4
theorem l_is_letter {K vs H Q E} (h : sp_is_letter K vs H Q E) : vs.length = 1 := by obtain ⟨v, rfl, _⟩ := h; rfl
theorem l_is_whole {K vs H Q E} (h : sp_is_whole K vs H Q E) : vs.length = 1 := by obtain ⟨v, rfl, _⟩ := h; rfl
theorem l_law_whole {K vs H Q E} (h : sp_law_whole K vs H Q E) : vs.length = 1 := l_is_whole h
theorem l_need_change {K C vs H Q E} (h : sp_need_change K C vs H Q E) : vs.length = 2 := by obtain ⟨w, v, rfl, _⟩ := h; rfl
theorem l_done {K C vs H Q E} (h : sp_done K C vs H Q E) : vs.length = 2 := by obtain ⟨w, v, rfl, _⟩ := h; rfl
theorem l_law_step {K vs H Q E} (h : sp_law_step K vs H Q E) : vs.length = 2 := by obtain ⟨w, v, rfl, _⟩ := h; rfl
section
variable {K : PySem.W.Frag} {vs : List V} {H : Hp} {Q : VK} {E : XK} {C : Addr}
theorem R_is_whole (h : sp_is_whole K vs H Q E) : T_is_whole K (fin Q) (slots n_is_whole vs) H := by
  obtain ⟨v, rfl, ha, k⟩ := h
  show T_is_whole K (fin Q) [some v] H
  unfold T_is_whole
  obtain ⟨b, c, h1, h2, h3⟩ := e_isInt (K := K) (σ := [some v]) (ta := tVar 0) (ev_var rfl) ha
  exact s_ret (ev_is (ev_andV h1 fun _ => ev_notV h2) (by rw [h3])) k
theorem R_law_whole (h : sp_law_whole K vs H Q E) : T_law_whole K (fin Q) (slots n_law_whole vs) H := R_is_whole h
theorem R_is_letter (h : sp_is_letter K vs H Q E) : T_is_letter K (fin Q) (slots n_is_letter vs) H := by
  obtain ⟨v, rfl, ha, k1, k2⟩ := h
  show T_is_letter K (fin Q) [some v] H
  unfold T_is_letter
  rcases ha with ⟨w, rfl, hl⟩ | ho
  · by_cases h1 : w.length = 1
    · obtain ⟨c, rfl⟩ := List.length_eq_one_iff.mp h1
      refine s_ret (ev_andV (e_isStr (ev_var rfl)) fun _ => ev_andV (e_eq (e_lenS (ev_var rfl) (by omega)) ev_c .ii) fun _ => e_inS (ev_var rfl) ev_c) fun H2 e2 => ?_
      by_cases hc : c ∈ abc
      · have h := k1 ⟨c, rfl, mem_abc.mp hc⟩ H2 e2
        simpa [hc] using h
      · have h := k2 (fun ⟨d, hd, hm⟩ => hc (by
          have e := tx_inj.mp hd
          injection e with e1 _
          subst e1
          exact mem_abc.mpr hm)) H2 e2
        simpa [hc] using h
    · refine s_ret (ev_is (ev_andV (e_isStr (ev_var rfl)) fun _ => ev_andV (b := false) (e_eq (e_lenS (ev_var rfl) (by omega)) ev_c .ii) fun hh => absurd (of_decide_eq_true hh) (by omega)) (by simp)) (k2 fun ⟨d, hd, _⟩ => h1 (by rw [tx_inj.mp hd]; rfl))
  · refine s_ret (ev_is (ev_andV (b := false) (e_isOdd (ev_var rfl) ho) fun hh => by cases hh) (by rfl)) (k2 fun ⟨d, hd, _⟩ => ?_)
    subst hd
    rcases ho with h | ⟨i, h⟩ | ⟨b, h⟩ | ⟨p, h, _⟩ <;> cases h
/-! ### need_change -/
def nOf (w : List Nat) : Int := if w = wPut then 3 else if w = wCut then 2 else if w = wTurn then 3 else 0
def kinds : List (Key × V) := [(.inr ⟨wPut.toArray⟩, .int 3), (.inr ⟨wCut.toArray⟩, .int 2), (.inr ⟨wTurn.toArray⟩, .int 3)]
theorem key_ne {a b : List Nat} (h : ¬ b = a) : ¬ (Sum.inr ⟨a.toArray⟩ : Key) = Sum.inr ⟨b.toArray⟩ := fun z => h (tx_inj.mp (congrArg V.str (Sum.inr.inj z))).symm
theorem kinds_at (w : List Nat) : (valV kinds (.inr ⟨w.toArray⟩)).getD (.int 0) = .int (nOf w) := by
  unfold kinds nOf
  by_cases h1 : w = wPut
  · rw [if_pos h1, h1, valV_pos rfl]; rfl
  rw [if_neg h1, valV_neg (key_ne h1)]
  by_cases h2 : w = wCut
  · rw [if_pos h2, h2, valV_pos rfl]; rfl
  rw [if_neg h2, valV_neg (key_ne h2)]
  by_cases h3 : w = wTurn
  · rw [if_pos h3, h3, valV_pos rfl]; rfl
  rw [if_neg h3, valV_neg (key_ne h3), valV_nil]; rfl
theorem kinds_merge : mergeK [] kinds = kinds := by decide +kernel
theorem e_kinds {σ : L2.St} {tk : TE} {w : List Nat} (h : Ev tk σ H (tx w)) :
    Ev (tDGet2 (tDisp [((tC (tx [112, 117, 116])), (tC (.int 3))), ((tC (tx [99, 117, 116])), (tC (.int 2))), ((tC (tx [116, 117, 114, 110])), (tC (.int 3)))]) tk (tC (.int 0))) σ H (.int (nOf w)) := fun H1 e Q q p hp => by
  refine ⟨upd_same, kinds, rfl, by decide, p, rfl, .inl ⟨_, .inl upd_same⟩, ?_⟩
  rw [upd_upd]
  refine h _ (e.trans (Ex.new hp)) _ fun H2 e2 => ⟨_, DGet.k (k := .inr ⟨w.toArray⟩) (e2 _ _ upd_same), ?_⟩
  rw [kinds_merge, kinds_at]
  exact q H2 ((Ex.new hp).trans e2)
theorem raise_ok {σ : L2.St} {H' : Hp} {D : Ends} (k : RetE C H E) (e : Ex H H') : tRaise E (.ref C) D σ H' := k H' e
theorem sq_tup {p : Addr} {xs : List V} {H H' : Hp} (e : Ex H H') (h : H p = some (.tup xs)) : SqT K H' p xs := .inl (.inl (e _ _ h))
theorem e_item {σ : L2.St} {ta : TE} {p : Addr} {xs : List V} {v : V} {k : Int} (ha : Ev ta σ H (.ref p)) (h : H p = some (.tup xs)) (hv : atI xs k = some v) : Ev (tOp (nIxT K) ta (tC (.int k))) σ H v :=
  e_ixT ha ev_c (sq_tup (Ex.refl H) h) hv
/-- 0 <= a < b -/
theorem e_chain {σ : L2.St} {ta tb tc : TE} {i j m : Int} (ha : Ev ta σ H (.int i)) (hb : Ev tb σ H (.int j)) (hc : Ev tc σ H (.int m)) : Ev (tChain nLe nLt ta tb tc) σ H (.bl (decide (i ≤ j ∧ j < m))) := fun H1 e Q q =>
  ha H1 e _ fun H2 e2 => hb H2 (e.trans e2) _ fun H3 e3 => ⟨i, j, rfl, rfl, _, rfl, by
    by_cases h : i ≤ j
    · rw [decide_eq_true h, if_pos rfl]
      refine hc H3 ((e.trans e2).trans e3) _ fun H4 e4 => ⟨j, m, rfl, rfl, ?_⟩
      have q1 := q H4 ((e2.trans e3).trans e4)
      rw [dec_eq (show i ≤ j ∧ j < m ↔ j < m from ⟨fun z => z.2, fun z => ⟨h, z⟩⟩)] at q1
      exact q1
    · rw [decide_eq_false h, if_neg (by decide)]
      have q1 := q H3 (e2.trans e3)
      rw [decide_eq_false (fun z => h z.1)] at q1
      exact q1⟩
theorem e_chain2 {σ : L2.St} {ta tb tc : TE} {i j m : Int} (ha : Ev ta σ H (.int i)) (hb : Ev tb σ H (.int j)) (hc : Ev tc σ H (.int m)) : Ev (tChain nLe nLe ta tb tc) σ H (.bl (decide (i ≤ j ∧ j ≤ m))) := fun H1 e Q q =>
  ha H1 e _ fun H2 e2 => hb H2 (e.trans e2) _ fun H3 e3 => ⟨i, j, rfl, rfl, _, rfl, by
    by_cases h : i ≤ j
    · rw [decide_eq_true h, if_pos rfl]
      refine hc H3 ((e.trans e2).trans e3) _ fun H4 e4 => ⟨j, m, rfl, rfl, ?_⟩
      have q1 := q H4 ((e2.trans e3).trans e4)
      rw [dec_eq (show i ≤ j ∧ j ≤ m ↔ j ≤ m from ⟨fun z => z.2, fun z => ⟨h, z⟩⟩)] at q1
      exact q1
    · rw [decide_eq_false h, if_neg (by decide)]
      have q1 := q H3 (e2.trans e3)
      rw [decide_eq_false (fun z => h z.1)] at q1
      exact q1⟩
theorem good_head {w w' : List Nat} {xs : List V} (h : Good w xs w') : ∃ a i r, xs = tx a :: .int i :: r ∧ 0 ≤ i ∧ (xs.length : Int) = nOf a := by
  cases h with
  | put h0 h1 hc => exact ⟨_, _, _, rfl, h0, rfl⟩
  | cut h0 h1 => exact ⟨_, _, _, rfl, h0, rfl⟩
  | turn h0 h1 hc hn => exact ⟨_, _, _, rfl, h0, rfl⟩
theorem no_good {w : List Nat} {v : V} {xs : List V} {H1 : Hp} (e : Ex H H1) (ht : Tup v xs H) (h : ∀ w', ¬ Good w xs w') : ¬ ∃ w', GoodV w v H w' := fun ⟨w', ys, ht', hg⟩ => h w' (by
  rw [tup_inj (Ex.refl H) ht ht']
  exact hg)
theorem isI_int {v : V} (h : isI v = true) : ∃ i, v = .int i := by
  cases v <;> first | exact ⟨_, rfl⟩ | cases h
/-- the last tests, from the place's on: m is how many places there are -/
theorem R_change_end {w : List Nat} {a : List Nat} {b : V} {r : List V} {p : Addr} {m : Int} {D : Ends} (hw : w.length ≤ 900) (hp : H p = some (.tup (tx a :: b :: r))) (hlen : ((tx a :: b :: r).length : Int) = nOf a) (hany : ∀ x ∈ (tx a :: b :: r), Any x H)
    (hm : m = (w.length : Int) + (if a = wPut then 1 else 0)) (kQ : (∃ w', Good w (tx a :: b :: r) w') → ∀ H2, Ex H H2 → D.nx [some (tx w), some (.ref p), some (.int m)] H2) (kE : (¬ ∃ w', Good w (tx a :: b :: r) w') → RetE C H E) :
    (tSeq (tIfS (tOr (tNot (tB (tCall (sp_is_whole K) [] E0 (tCons (tOp (nIxT K) (tVar 1) (tC (.int 1))) tNil)))) (tNot (tTest (tChain nLe nLt (tC (.int 0)) (tOp (nIxT K) (tVar 1) (tC (.int 1))) (tVar 2)))))
 (tRaise E (.ref C)) tNext)
 (tSeq (tIfS (tAnd (tTest (tOp nNe (tOp (nIxT K) (tVar 1) (tC (.int 0))) (tC (tx [99, 117, 116])))) (tNot (tB (tCall (sp_is_letter K) [] E0 (tCons (tOp (nIxT K) (tVar 1) (tC (.int 2))) tNil)))))
 (tRaise E (.ref C)) tNext)
 (tIfS (tAnd (tTest (tOp nEq (tOp (nIxT K) (tVar 1) (tC (.int 0))) (tC (tx [116, 117, 114, 110])))) (tTest (tOp nEq (tOp (nIxT K) (tVar 1) (tC (.int 2))) (tOp nIxS (tVar 0) (tOp (nIxT K) (tVar 1) (tC (.int 1)))))))
 (tRaise E (.ref C)) tNext))) D [some (tx w), some (.ref p), some (.int m)] H := by
  have hb : Any b H := hany b (by simp)
  have g0 : atI (tx a :: b :: r) 0 = some (tx a) := atI_nat (j := 0) rfl
  have g1 : atI (tx a :: b :: r) 1 = some b := atI_nat (j := 1) rfl
  have ew : ∀ H', Ex H H' → Ev (tCall (sp_is_whole K) [] E0 (tCons (tOp (nIxT K) (tVar 1) (tC (.int 1))) tNil)) [some (tx w), some (.ref p), some (.int m)] H' (.bl (isI b)) := fun H' e' =>
    ev_call (ea_cons (e_item (ev_var rfl) (e' _ _ hp) g1) ea_nil) fun H1 e Q q E => ⟨b, rfl, any_up _ _ _ (e'.trans e) hb, fun H2 e2 => q H2 e2⟩
  -- not is_whole(change[1]) or not 0 <= change[1] < beyond
  cases hI : isI b with
  | false =>
    refine q_when (b := true) (et_is (et_or (b := true) (et_not (et_B (ew H (Ex.refl H)))) fun hh => by rw [hI] at hh; cases hh) (by simp)) (fun _ H1 e1 => ?_) (fun hh => by cases hh)
    refine raise_ok (kE fun ⟨w', hg⟩ => ?_) e1
    obtain ⟨a', i, r', he, _⟩ := good_head hg
    injection he with h1 h2
    injection h2 with h3 h4
    rw [h3] at hI
    cases hI
  | true =>
  obtain ⟨i, rfl⟩ := isI_int hI
  refine q_when (b := !decide (0 ≤ i ∧ i < m)) (et_is (et_or (et_not (et_B (ew H (Ex.refl H)))) fun _ => et_not (et_test (e_chain ev_c (e_item (ev_var rfl) hp g1) (ev_var rfl)))) (by rw [hI]; rfl)) (fun hh H1 e1 => ?_) (fun hh H1 e1 => ?_)
  · have hno : ¬ (0 ≤ i ∧ i < m) := nd hh
    refine raise_ok (kE fun ⟨w', hg⟩ => hno ?_) e1
    rw [hm]
    cases hg with
    | put h0 h1 hc => exact ⟨h0, by rw [if_pos rfl]; omega⟩
    | cut h0 h1 => exact ⟨h0, by rw [if_neg (by decide)]; omega⟩
    | turn h0 h1 hc hn => exact ⟨h0, by rw [if_neg (by decide)]; omega⟩
  have him : 0 ≤ i ∧ i < m := by simpa using hh
  obtain ⟨hi0, him⟩ := him
  have hp1 := e1 _ _ hp
  -- change[0] != "cut" and not is_letter(change[2])
  by_cases hcut : a = wCut
  · subst hcut
    have hr : r = [] := by
      have e : ((tx wCut :: V.int i :: r).length : Int) = 2 := hlen
      simp only [List.length_cons] at e
      exact List.length_eq_zero_iff.mp (by omega)
    subst hr
    rw [if_neg (by decide)] at hm
    refine q_when (b := false) (et_is (et_and (b := false) (et_test (e_ne (e_item (ev_var rfl) hp1 g0) ev_c .ss)) fun hh => by simp at hh) (by simp)) (fun hh => by cases hh) (fun _ H2 e2 => ?_)
    refine s_when (b := false) (et_is (et_and (b := false) (et_test (e_eq (e_item (ev_var rfl) (e2 _ _ hp1) g0) ev_c .ss)) fun hh => by simp at hh) (by simp)) (fun hh => by cases hh) (fun _ H3 e3 => ?_)
    exact kQ ⟨_, .cut hi0 (by omega)⟩ _ ((e1.trans e2).trans e3)
  -- a third item
  have h3 : a = wPut ∨ a = wTurn := by
    unfold nOf at hlen
    by_cases hp' : a = wPut
    · exact .inl hp'
    · rw [if_neg hp', if_neg hcut] at hlen
      by_cases ht' : a = wTurn
      · exact .inr ht'
      · rw [if_neg ht'] at hlen
        simp only [List.length_cons] at hlen
        omega
  have hl3 : nOf a = 3 := by rcases h3 with rfl | rfl <;> rfl
  obtain ⟨c, rfl⟩ : ∃ c, r = [c] := List.length_eq_one_iff.mp (by
    rw [hl3] at hlen
    simp only [List.length_cons] at hlen
    omega)
  have hc : Any c H := hany c (by simp)
  have g2 : atI (tx a :: V.int i :: [c]) 2 = some c := atI_nat (j := 2) rfl
  by_cases hL : IsL c
  · have el : Ev (tCall (sp_is_letter K) [] E0 (tCons (tOp (nIxT K) (tVar 1) (tC (.int 2))) tNil)) [some (tx w), some (.ref p), some (.int m)] H1 (.bl true) :=
      ev_call (ea_cons (e_item (ev_var rfl) hp1 g2) ea_nil) fun H2 e Q q E => ⟨c, rfl, any_up _ _ _ (e1.trans e) hc, fun _ H3 e3 => q H3 e3, fun hn => absurd hL hn⟩
    refine q_when (b := false) (et_is (et_and (et_test (e_ne (e_item (ev_var rfl) hp1 g0) ev_c .ss)) fun hh => et_not (et_B el)) (by simp)) (fun hh => by cases hh) (fun _ H2 e2 => ?_)
    obtain ⟨l, rfl, hl⟩ := hL
    have hp2 := e2 _ _ hp1
    rcases h3 with rfl | rfl
    · rw [if_pos rfl] at hm
      refine s_when (b := false) (et_is (et_and (b := false) (et_test (e_eq (e_item (ev_var rfl) hp2 g0) ev_c .ss)) fun hh => by simp at hh) (by simp)) (fun hh => by cases hh) (fun _ H3 e3 => ?_)
      exact kQ ⟨_, .put hi0 (by omega) hl⟩ _ ((e1.trans e2).trans e3)
    · rw [if_neg (by decide)] at hm
      have hlt : i.toNat < w.length := by omega
      refine s_when (b := decide (l = w[i.toNat])) (et_is (et_and (et_test (e_eq (e_item (ev_var rfl) hp2 g0) ev_c .ss)) fun _ => et_test (e_eq (e_item (ev_var rfl) hp2 g2) (e_ixS (ev_var rfl) (e_item (ev_var rfl) hp2 g1) (by omega) (atI_in hi0 (List.getElem?_eq_getElem hlt))) .ss)) (by simp)) (fun hh H3 e3 => ?_) (fun hh H3 e3 => ?_)
      · have e := of_decide_eq_true hh
        refine raise_ok (kE fun ⟨w', hg⟩ => ?_) ((e1.trans e2).trans e3)
        cases hg with
        | turn h0 h1 hc hn => exact hn (by rw [e, List.getElem?_eq_getElem hlt])
      · have e := of_decide_eq_false hh
        exact kQ ⟨_, .turn hi0 (by omega) hl (by rw [List.getElem?_eq_getElem hlt]; exact fun z => e (Option.some.inj z).symm)⟩ _ ((e1.trans e2).trans e3)
  · have el : Ev (tCall (sp_is_letter K) [] E0 (tCons (tOp (nIxT K) (tVar 1) (tC (.int 2))) tNil)) [some (tx w), some (.ref p), some (.int m)] H1 (.bl false) :=
      ev_call (ea_cons (e_item (ev_var rfl) hp1 g2) ea_nil) fun H2 e Q q E => ⟨c, rfl, any_up _ _ _ (e1.trans e) hc, fun hn => absurd hn hL, fun _ H3 e3 => q H3 e3⟩
    refine q_when (b := true) (et_is (et_and (et_test (e_ne (e_item (ev_var rfl) hp1 g0) ev_c .ss)) fun hh => et_not (et_B el)) (by simp [hcut])) (fun _ H2 e2 => ?_) (fun hh => by cases hh)
    refine raise_ok (kE fun ⟨w', hg⟩ => hL ?_) (e1.trans e2)
    cases hg with
    | put h0 h1 hcc => exact ⟨_, rfl, hcc⟩
    | turn h0 h1 hcc hn => exact ⟨_, rfl, hcc⟩
theorem R_need_change (h : sp_need_change K C vs H Q E) : T_need_change K C E (fin Q) (slots n_need_change vs) H := by
  obtain ⟨w, v, rfl, hw, hc, kQ, kE⟩ := h
  show T_need_change K C E (fin Q) [some (tx w), some v, none] H
  unfold T_need_change
  rcases hc with ⟨xs, ht, hl, ha⟩ | hn
  · have hgood : (∃ w', Good w xs w') → ∃ w', GoodV w v H w' := fun ⟨w', hg⟩ => ⟨w', xs, ht, hg⟩
    have kE' : (∀ w', ¬ Good w xs w') → RetE C H E := fun hno => kE (no_good (Ex.refl H) ht hno)
    obtain ⟨p, rfl, hp⟩ := ht
    have elen : ∀ {H' : Hp} {σ : L2.St}, Ex H H' → σ[1]? = some (some (.ref p)) → Ev (tCB (nLenL K) (tCons (tVar 1) tNil)) σ H' (.int (xs.length : Int)) := fun e hσ => e_lenT (ev_var hσ) (sq_tup e hp)
    -- not isinstance(change, tuple) or len(change) < 2 or not isinstance(change[0], str)
    by_cases h2 : xs.length < 2
    · refine q_when (b := true) (et_is (et_or (et_not (et_B (e_isTup (ev_var rfl) ⟨p, rfl, hp⟩))) fun _ => et_or (b := true) (et_test (e_lt (elen (Ex.refl H) rfl) ev_c)) fun hh => absurd (of_decide_eq_false hh) (by omega)) (by simp)) (fun _ H1 e1 => ?_) (fun hh => by cases hh)
      refine raise_ok (kE' fun w' hg => ?_) e1
      obtain ⟨a, i, r, rfl, _⟩ := good_head hg
      simp only [List.length_cons] at h2
      omega
    obtain ⟨a0, b, r, rfl⟩ : ∃ a0 b r, xs = a0 :: b :: r := by
      match xs, h2 with
      | a0 :: b :: r, _ => exact ⟨a0, b, r, rfl⟩
      | [_], h => exact absurd (by simp) h
      | [], h => exact absurd (by simp) h
    have g0 : atI (a0 :: b :: r) 0 = some a0 := atI_nat (j := 0) rfl
    rcases ha a0 (by simp) with ⟨a, rfl, hla⟩ | ho
    · refine q_when (b := false) (et_is (et_or (et_not (et_B (e_isTup (ev_var rfl) ⟨p, rfl, hp⟩))) fun _ => et_or (et_test (e_lt (elen (Ex.refl H) rfl) ev_c)) fun _ => et_not (et_B (e_isStr (e_item (ev_var rfl) hp g0)))) (by simp; omega)) (fun hh => by cases hh) (fun _ H1 e1 => ?_)
      -- len(change) != {..}.get(change[0], 0)
      refine q_when (b := !decide (((tx a :: b :: r).length : Int) = nOf a)) (et_test (e_ne (elen e1 rfl) (e_kinds (e_item (ev_var rfl) (e1 _ _ hp) g0)) .ii)) (fun hh H2 e2 => ?_) (fun hh H2 e2 => ?_)
      · have hne : ¬ ((tx a :: b :: r).length : Int) = nOf a := by simpa using hh
        refine raise_ok (kE' fun w' hg => hne ?_) (e1.trans e2)
        obtain ⟨a', i, r', he, _, hlen⟩ := good_head hg
        injection he with h1 h2
        rw [tx_inj.mp h1]
        exact hlen
      have hlen : ((tx a :: b :: r).length : Int) = nOf a := by simpa using hh
      have e12 := e1.trans e2
      refine q_asg (e_lenS (ev_var rfl) (by omega)) fun H3 e3 => ?_
      have e13 := e12.trans e3
      by_cases hpt : a = wPut
      · refine q_when (b := true) (et_is (et_test (e_eq (e_item (ev_var rfl) (e13 _ _ hp) g0) ev_c .ss)) (by simp [hpt])) (fun _ H4 e4 => ?_) (fun hh => by cases hh)
        refine s_aug rfl ev_c fun H5 e5 => ?_
        have e15 := (e13.trans e4).trans e5
        exact R_change_end hw (e15 _ _ hp) hlen (fun x hx => any_up _ _ _ e15 (ha x hx)) (by rw [if_pos hpt]) (fun hg H6 e6 => kQ (hgood hg) _ (e15.trans e6)) (fun hno H6 e6 => kE' (fun w' hg => hno ⟨w', hg⟩) _ (e15.trans e6))
      · refine q_when (b := false) (et_is (et_test (e_eq (e_item (ev_var rfl) (e13 _ _ hp) g0) ev_c .ss)) (by simp [hpt])) (fun hh => by cases hh) (fun _ H4 e4 => ?_)
        have e15 := e13.trans e4
        exact R_change_end hw (e15 _ _ hp) hlen (fun x hx => any_up _ _ _ e15 (ha x hx)) (by rw [if_neg hpt]; omega) (fun hg H6 e6 => kQ (hgood hg) _ (e15.trans e6)) (fun hno H6 e6 => kE' (fun w' hg => hno ⟨w', hg⟩) _ (e15.trans e6))
    · refine q_when (b := true) (et_is (et_or (et_not (et_B (e_isTup (ev_var rfl) ⟨p, rfl, hp⟩))) fun _ => et_or (b := true) (et_test (e_lt (elen (Ex.refl H) rfl) ev_c)) fun hh => et_not (et_B (e_isOdd (e_item (ev_var rfl) hp g0) ho))) (by simp)) (fun _ H1 e1 => ?_) (fun hh => by cases hh)
      refine raise_ok (kE' fun w' hg => ?_) e1
      obtain ⟨a', i, r', he, _⟩ := good_head hg
      injection he with h1 h2
      rw [h1] at ho
      rcases ho with h | ⟨i, h⟩ | ⟨b, h⟩ | ⟨p, h, _⟩ <;> cases h
  · refine q_when (b := true) (et_is (et_or (et_not (et_B (e_noTup (ev_var rfl) hn))) (b := true) fun hh => by cases hh) (by simp)) (fun _ H1 e1 => ?_) (fun hh => by cases hh)
    exact raise_ok (kE fun ⟨w', xs, ht, hg⟩ => noTup_not (Ex.refl H) hn ht) e1
/-! ### done -/
theorem good_of {w : List Nat} {v : V} {H' : Hp} (e : Ex H H') (hc : Chg v H) : (∃ w', GoodV w v H' w') ↔ ∃ w', GoodV w v H w' :=
  ⟨fun ⟨w', h⟩ => ⟨w', goodV_down e hc h⟩, fun ⟨w', h⟩ => ⟨w', goodV_up e h⟩⟩
/-- text[:place] + letter + text[from:] -/
theorem e_glue {σ : L2.St} {tw ti tc tj : TE} {w : List Nat} {i j : Int} {c : Nat} (hw : w.length ≤ 900) (h1 : Ev tw σ H (tx w)) (h2 : Ev ti σ H (.int i)) (h3 : Ev tc σ H (tx [c])) (h4 : Ev tj σ H (.int j)) (hi : 0 ≤ i) (hj : 0 ≤ j) :
    Ev (tOp nCat (tOp nCat (tSl nSlS tw tNoPart (tPart ti)) tc) (tSl nSlS tw (tPart tj) tNoPart)) σ H (tx (w.take i.toNat ++ [c] ++ w.drop j.toNat)) :=
  e_cat (e_cat (e_take h1 h2 (by omega) hi) h3 (by simp only [List.length_take, List.length_cons, List.length_nil]; omega)) (e_drop h1 h4 (by omega) hj) (by simp only [List.length_append, List.length_take, List.length_drop, List.length_cons, List.length_nil]; omega)
theorem e_glue2 {σ : L2.St} {tw ti tj : TE} {w : List Nat} {i j : Int} (hw : w.length ≤ 900) (h1 : Ev tw σ H (tx w)) (h2 : Ev ti σ H (.int i)) (h4 : Ev tj σ H (.int j)) (hi : 0 ≤ i) (hj : 0 ≤ j) :
    Ev (tOp nCat (tSl nSlS tw tNoPart (tPart ti)) (tSl nSlS tw (tPart tj) tNoPart)) σ H (tx (w.take i.toNat ++ w.drop j.toNat)) :=
  e_cat (e_take h1 h2 (by omega) hi) (e_drop h1 h4 (by omega) hj) (by simp only [List.length_append, List.length_take, List.length_drop]; omega)
theorem R_done (h : sp_done K C vs H Q E) : T_done K C E (fin Q) (slots n_done vs) H := by
  obtain ⟨w, v, rfl, hw, hc, kQ, kE⟩ := h
  show T_done K C E (fin Q) [some (tx w), some v, none] H
  unfold T_done
  refine ⟨_, rfl, _, rfl, w, v, rfl, hw, hc, fun ⟨w', hg⟩ H1 e1 => ?_, kE⟩
  have kQ' := kQ w' hg
  obtain ⟨xs, ⟨p, rfl, hp⟩, hg⟩ := hg
  have hp1 := e1 _ _ hp
  show tSeq _ _ (fin Q) [some (tx w), some (.ref p), none] H1
  cases hg with
  | @put i c h0 h1 hcc =>
    refine q_asg (e_item (ev_var rfl) hp1 (atI_nat (j := 1) rfl)) fun H2 e2 => ?_
    refine q_when (b := true) (et_is (et_test (e_eq (e_item (ev_var rfl) (e2 _ _ hp1) (atI_nat (j := 0) rfl)) ev_c .ss)) (by simp)) (fun _ H3 e3 => ?_) (fun hh => by cases hh)
    have hp3 := e3 _ _ (e2 _ _ hp1)
    exact s_ret (e_glue hw (ev_var rfl) (ev_var rfl) (e_item (ev_var rfl) hp3 (atI_nat (j := 2) rfl)) (ev_var rfl) h0 h0) fun H4 e4 => kQ' _ (((e1.trans e2).trans e3).trans e4)
  | @cut i h0 h1 =>
    refine q_asg (e_item (ev_var rfl) hp1 (atI_nat (j := 1) rfl)) fun H2 e2 => ?_
    refine q_when (b := false) (et_is (et_test (e_eq (e_item (ev_var rfl) (e2 _ _ hp1) (atI_nat (j := 0) rfl)) ev_c .ss)) (by simp)) (fun hh => by cases hh) (fun _ H3 e3 => ?_)
    have hp3 := e3 _ _ (e2 _ _ hp1)
    refine q_when (b := true) (et_is (et_test (e_eq (e_item (ev_var rfl) hp3 (atI_nat (j := 0) rfl)) ev_c .ss)) (by simp)) (fun _ H4 e4 => ?_) (fun hh => by cases hh)
    exact s_ret (e_glue2 hw (ev_var rfl) (ev_var rfl) (e_add (ev_var rfl) ev_c) h0 (by omega)) fun H5 e5 => kQ' _ ((((e1.trans e2).trans e3).trans e4).trans e5)
  | @turn i c h0 h1 hcc hn =>
    refine q_asg (e_item (ev_var rfl) hp1 (atI_nat (j := 1) rfl)) fun H2 e2 => ?_
    refine q_when (b := false) (et_is (et_test (e_eq (e_item (ev_var rfl) (e2 _ _ hp1) (atI_nat (j := 0) rfl)) ev_c .ss)) (by simp)) (fun hh => by cases hh) (fun _ H3 e3 => ?_)
    have hp3 := e3 _ _ (e2 _ _ hp1)
    refine q_when (b := false) (et_is (et_test (e_eq (e_item (ev_var rfl) hp3 (atI_nat (j := 0) rfl)) ev_c .ss)) (by simp)) (fun hh => by cases hh) (fun _ H4 e4 => ?_)
    have hp4 := e4 _ _ hp3
    exact s_ret (e_glue hw (ev_var rfl) (ev_var rfl) (e_item (ev_var rfl) hp4 (atI_nat (j := 2) rfl)) (e_add (ev_var rfl) ev_c) h0 (by omega)) fun H5 e5 => kQ' _ ((((e1.trans e2).trans e3).trans e4).trans e5)
/-! ### the law's own step -/
theorem R_law_step (h : sp_law_step K vs H Q E) : T_law_step K (fin Q) (slots n_law_step vs) H := by
  obtain ⟨w, v, rfl, hw, hc, kQ, kN⟩ := h
  show T_law_step K (fin Q) [some (tx w), some v, none, none] H
  unfold T_law_step
  rcases hc with ⟨xs, ht, hl, ha⟩ | hn
  · have kN' : (∀ w', ¬ Good w xs w') → RetV .non H Q := fun hno => kN (no_good (Ex.refl H) ht hno)
    have kQ' : ∀ w', Good w xs w' → RetV (tx w') H Q := fun w' hg => kQ w' ⟨xs, ht, hg⟩
    have lenG : ∀ {w'}, Good w xs w' → xs.length = 2 ∨ xs.length = 3 := fun hg => by
      cases hg
      · exact .inr rfl
      · exact .inl rfl
      · exact .inr rfl
    obtain ⟨p, rfl, hp⟩ := ht
    have elen : ∀ {H' : Hp} {σ : L2.St}, Ex H H' → σ[1]? = some (some (.ref p)) → Ev (tCB (nLenL K) (tCons (tVar 1) tNil)) σ H' (.int (xs.length : Int)) := fun e hσ => e_lenT (ev_var hσ) (sq_tup e hp)
    have eT : EvT (tNot (tB (tCB (nIsi K) (tCons (tVar 1) (tCons (tC (.ty "tuple")) tNil))))) [some (tx w), some (.ref p), none, none] H (!true) := et_not (et_B (e_isTup (ev_var rfl) ⟨p, rfl, hp⟩))
    by_cases h2 : xs.length < 2
    · refine q_when (b := true) (et_is (et_or eT fun _ => et_or (b := true) (et_test (e_lt (elen (Ex.refl H) rfl) ev_c)) fun hh => absurd (of_decide_eq_false hh) (by omega)) (by simp)) (fun _ H1 e1 => ?_) (fun hh => by cases hh)
      exact s_ret ev_c fun H2 e2 => kN' (fun w' hg => by rcases lenG hg with h | h <;> omega) _ (e1.trans e2)
    by_cases h3 : 3 < xs.length
    · refine q_when (b := true) (et_is (et_or eT fun _ => et_or (et_test (e_lt (elen (Ex.refl H) rfl) ev_c)) fun _ => et_or (b := true) (et_test (e_gt (elen (Ex.refl H) rfl) ev_c)) fun hh => absurd (of_decide_eq_false hh) (by omega)) (by simp)) (fun _ H1 e1 => ?_) (fun hh => by cases hh)
      exact s_ret ev_c fun H2 e2 => kN' (fun w' hg => by rcases lenG hg with h | h <;> omega) _ (e1.trans e2)
    obtain ⟨a0, b, r, rfl⟩ : ∃ a0 b r, xs = a0 :: b :: r := by
      match xs, h2 with
      | a0 :: b :: r, _ => exact ⟨a0, b, r, rfl⟩
      | [_], h => exact absurd (by simp) h
      | [], h => exact absurd (by simp) h
    have hb : Any b H := ha b (by simp)
    have hA : Any a0 H := ha a0 (by simp)
    have g0 : atI (a0 :: b :: r) 0 = some a0 := atI_nat (j := 0) rfl
    have g1 : atI (a0 :: b :: r) 1 = some b := atI_nat (j := 1) rfl
    have ew : Ev (tCall (sp_law_whole K) [] E0 (tCons (tOp (nIxT K) (tVar 1) (tC (.int 1))) tNil)) [some (tx w), some (.ref p), none, none] H (.bl (isI b)) :=
      ev_call (ea_cons (e_item (ev_var rfl) hp g1) ea_nil) fun H1 e Q q E => ⟨b, rfl, any_up _ _ _ e hb, fun H2 e2 => q H2 e2⟩
    have d2 : decide (((a0 :: b :: r).length : Int) < 2) = false := decide_eq_false (by omega)
    have d3 : decide ((3 : Int) < ((a0 :: b :: r).length : Int)) = false := decide_eq_false (by omega)
    refine q_when (b := !isI b) (et_is (et_or eT fun _ => et_or (et_test (e_lt (elen (Ex.refl H) rfl) ev_c)) fun _ => et_or (et_test (e_gt (elen (Ex.refl H) rfl) ev_c)) fun _ => et_not (et_B ew)) (by rw [d2, d3]; rfl)) (fun hI H1 e1 => ?_) (fun hI H1 e1 => ?_)
    · refine s_ret ev_c fun H2 e2 => kN' (fun w' hg => ?_) _ (e1.trans e2)
      obtain ⟨a', i, r', he, _⟩ := good_head hg
      injection he with h1 h2
      injection h2 with h3 h4
      rw [h3] at hI
      cases hI
    obtain ⟨i, rfl⟩ := isI_int (by simpa using hI)
    refine q_asg (e_item (ev_var rfl) (e1 _ _ hp) g1) fun H2 e2 => ?_
    have e12 := e1.trans e2
    match r, h3 with
    | [], _ =>
      refine q_when (b := true) (et_is (et_test (e_eq (elen e12 rfl) ev_c .ii)) (by simp)) (fun _ H3 e3 => ?_) (fun hh => by cases hh)
      have e13 := e12.trans e3
      refine q_when (b := !decide (a0 = tx wCut) || !decide (0 ≤ i ∧ i < (w.length : Int))) (et_or (et_test (e_neS (e_item (ev_var rfl) (e13 _ _ hp) g0) ev_c (any_up _ _ _ e13 hA))) fun _ => et_not (et_test (e_chain ev_c (ev_var rfl) (e_lenS (ev_var rfl) (by omega))))) (fun hh H4 e4 => ?_) (fun hh H4 e4 => ?_)
      · refine s_ret ev_c fun H5 e5 => kN' (fun w' hg => ?_) _ ((e13.trans e4).trans e5)
        cases hg with
        | cut h0 h1 => simp [h0, h1] at hh
      · have hh' : a0 = tx wCut ∧ 0 ≤ i ∧ i < (w.length : Int) := by simpa using hh
        obtain ⟨rfl, h0, h1⟩ := hh'
        exact s_ret (e_glue2 hw (ev_var rfl) (ev_var rfl) (e_add (ev_var rfl) ev_c) h0 (by omega)) fun H5 e5 => kQ' _ (.cut h0 h1) _ ((e13.trans e4).trans e5)
    | [c], _ =>
      have hc : Any c H := ha c (by simp)
      have g2 : atI [a0, .int i, c] 2 = some c := atI_nat (j := 2) rfl
      refine q_when (b := false) (et_is (et_test (e_eq (elen e12 rfl) ev_c .ii)) (by simp)) (fun hh => by cases hh) (fun _ H3 e3 => ?_)
      have e13 := e12.trans e3
      refine q_asg (e_item (ev_var rfl) (e13 _ _ hp) g2) fun H4 e4 => ?_
      have e14 := e13.trans e4
      have noL : ¬ IsL c → ∀ w', ¬ Good w [a0, .int i, c] w' := fun hn w' hg => hn (by
        cases hg with
        | put h0 h1 hcc => exact ⟨_, rfl, hcc⟩
        | turn h0 h1 hcc hn => exact ⟨_, rfl, hcc⟩)
      rcases hc with ⟨l, rfl, hll⟩ | ho
      · by_cases h1 : l.length = 1
        · obtain ⟨c, rfl⟩ := List.length_eq_one_iff.mp h1
          refine q_when (b := !decide (c ∈ abc)) (et_is (et_or (et_not (et_B (e_isStr (ev_var rfl)))) fun _ => et_or (et_test (e_ne (e_lenS (ev_var rfl) (by omega)) ev_c .ii)) fun _ => et_test (e_notInS (ev_var rfl) ev_c)) (by simp)) (fun hh H5 e5 => ?_) (fun hh H5 e5 => ?_)
          · exact s_ret ev_c fun H6 e6 => kN' (noL fun ⟨d, hd, hm⟩ => nd hh (by
              have e := tx_inj.mp hd
              injection e with e1 _
              subst e1
              exact mem_abc.mpr hm)) _ ((e14.trans e5).trans e6)
          have hcc := mem_abc.mp (nd' hh)
          have e15 := e14.trans e5
          -- put
          refine q_when (b := decide (a0 = tx wPut) && decide (0 ≤ i ∧ i ≤ (w.length : Int))) (et_and (et_test (e_eqS (e_item (ev_var rfl) (e15 _ _ hp) g0) ev_c (any_up _ _ _ e15 hA))) fun _ => et_test (e_chain2 ev_c (ev_var rfl) (e_lenS (ev_var rfl) (by omega)))) (fun hh H6 e6 => ?_) (fun hh1 H6 e6 => ?_)
          · have hh' : a0 = tx wPut ∧ 0 ≤ i ∧ i ≤ (w.length : Int) := by simpa using hh
            obtain ⟨rfl, h0, h1⟩ := hh'
            exact s_ret (e_glue hw (ev_var rfl) (ev_var rfl) (ev_var rfl) (ev_var rfl) h0 h0) fun H7 e7 => kQ' _ (.put h0 h1 hcc) _ ((e15.trans e6).trans e7)
          have e16 := e15.trans e6
          -- turn
          by_cases hT : a0 = tx wTurn ∧ 0 ≤ i ∧ i < (w.length : Int)
          · obtain ⟨rfl, h0, h1⟩ := hT
            have hlt : i.toNat < w.length := by omega
            refine q_when (b := !decide (w[i.toNat] = c)) (et_is (et_and (et_test (e_eqS (e_item (ev_var rfl) (e16 _ _ hp) g0) ev_c (any_up _ _ _ e16 hA))) fun _ => et_and (et_test (e_chain ev_c (ev_var rfl) (e_lenS (ev_var rfl) (by omega)))) fun _ => et_test (e_ne (e_ixS (ev_var rfl) (ev_var rfl) (by omega) (atI_in h0 (List.getElem?_eq_getElem hlt))) (ev_var rfl) .ss)) (by simp [h0, h1])) (fun hh H7 e7 => ?_) (fun hh H7 e7 => ?_)
            · have hne := nd hh
              exact s_ret (e_glue hw (ev_var rfl) (ev_var rfl) (ev_var rfl) (e_add (ev_var rfl) ev_c) h0 (by omega)) fun H8 e8 => kQ' _ (.turn h0 h1 hcc (by rw [List.getElem?_eq_getElem hlt]; exact fun z => hne (Option.some.inj z))) _ ((e16.trans e7).trans e8)
            · have heq := nd' hh
              refine s_ret ev_c fun H8 e8 => kN' (fun w' hg => ?_) _ ((e16.trans e7).trans e8)
              cases hg with
              | turn h0 h1 hcc hn => exact hn (by rw [List.getElem?_eq_getElem hlt, heq])
          · refine q_when (b := false) (et_is (et_and (b := false) (et_test (e_eqS (e_item (ev_var rfl) (e16 _ _ hp) g0) ev_c (any_up _ _ _ e16 hA))) fun hh => et_is (et_and (b := false) (et_test (e_chain ev_c (ev_var rfl) (e_lenS (ev_var rfl) (by omega)))) fun h2 => absurd ⟨of_decide_eq_true hh, of_decide_eq_true h2⟩ hT) (by simp)) (by simp)) (fun hh => by cases hh) (fun _ H7 e7 => ?_)
            refine s_ret ev_c fun H8 e8 => kN' (fun w' hg => ?_) _ ((e16.trans e7).trans e8)
            cases hg with
            | put h0 h1 hcc => simp [h0, h1] at hh1
            | turn h0 h1 hcc hn => exact hT ⟨rfl, h0, h1⟩
        · refine q_when (b := true) (et_is (et_or (et_not (et_B (e_isStr (ev_var rfl)))) fun _ => et_or (b := true) (et_test (e_ne (e_lenS (ev_var rfl) (by omega)) ev_c .ii)) fun hh => absurd (nd' hh) (by omega)) (by simp)) (fun _ H5 e5 => ?_) (fun hh => by cases hh)
          exact s_ret ev_c fun H6 e6 => kN' (noL fun ⟨d, hd, hm⟩ => h1 (by rw [tx_inj.mp hd]; rfl)) _ ((e14.trans e5).trans e6)
      · refine q_when (b := true) (et_is (et_or (b := true) (et_not (et_B (e_isOdd (ev_var rfl) (odd_up _ _ _ e14 ho)))) fun hh => by cases hh) (by simp)) (fun _ H5 e5 => ?_) (fun hh => by cases hh)
        exact s_ret ev_c fun H6 e6 => kN' (noL fun ⟨d, hd, hm⟩ => by
          subst hd
          rcases ho with h | ⟨i, h⟩ | ⟨b, h⟩ | ⟨p, h, _⟩ <;> cases h) _ ((e14.trans e5).trans e6)
    | c :: d :: r', h => exact absurd (by simp only [List.length_cons]; omega) h
  · refine q_when (b := true) (et_is (et_or (b := true) (et_not (et_B (e_noTup (ev_var rfl) hn))) fun hh => by cases hh) (by simp)) (fun _ H1 e1 => ?_) (fun hh => by cases hh)
    exact s_ret ev_c fun H2 e2 => kN (fun ⟨w', xs, ht, hg⟩ => noTup_not (Ex.refl H) hn ht) _ (e1.trans e2)
end
end Nw

set_option Elab.async false
set_option linter.all false
set_option maxRecDepth 100000
/-! Nw.Led: several changes -/
namespace Nw
open PySem L2 Evl
/-! ### several changes -/
inductive LedV (H : Hp) : List Nat → List V → List Nat → Prop
  | nil {w} : LedV H w [] w
  | cons {w w1 w2 c cs} (h : GoodV w c H w1) (r : LedV H w1 cs w2) : LedV H w (c :: cs) w2
theorem good_inj {w a b : List Nat} {xs : List V} (h : Good w xs a) (h' : Good w xs b) : a = b := by
  cases h with
  | put h0 h1 hc => cases h'; rfl
  | cut h0 h1 => cases h'; rfl
  | turn h0 h1 hc hn => cases h'; rfl
theorem goodV_inj {w a b : List Nat} {v : V} {H H' : Hp} (e : Ex H H') (h : GoodV w v H a) (h' : GoodV w v H' b) : a = b := by
  obtain ⟨xs, ht, hg⟩ := h
  obtain ⟨ys, ht', hg'⟩ := h'
  rw [← tup_inj e ht ht'] at hg'
  exact good_inj hg hg'
theorem ledV_up {H H' : Hp} (e : Ex H H') {w w' : List Nat} {cs : List V} (h : LedV H w cs w') : LedV H' w cs w' := by
  induction h with
  | nil => exact .nil
  | cons h r ih => exact .cons (goodV_up e h) ih
theorem ledV_snoc {H : Hp} {w w1 w2 : List Nat} {cs : List V} {c : V} (h : LedV H w cs w1) (g : GoodV w1 c H w2) : LedV H w (cs ++ [c]) w2 := by
  induction h with
  | nil => exact .cons g .nil
  | cons h r ih => exact .cons h (ih g)
theorem ledV_inj {H : Hp} {w a b : List Nat} {cs : List V} (h : LedV H w cs a) (h' : LedV H w cs b) : a = b := by
  induction h with
  | nil => cases h'; rfl
  | cons h r ih =>
    cases h' with
    | cons k s =>
      rw [← goodV_inj (Ex.refl H) h k] at s
      exact ih s
theorem ledV_app {H : Hp} {w' : List Nat} : ∀ {as bs : List V} {w : List Nat}, LedV H w (as ++ bs) w' → ∃ w1, LedV H w as w1 ∧ LedV H w1 bs w'
  | [], bs, w, h => ⟨w, .nil, h⟩
  | a :: as, bs, w, h => by
    cases h with
    | cons h r =>
      obtain ⟨w1, h1, h2⟩ := ledV_app r
      exact ⟨w1, .cons h h1, h2⟩
theorem ledV_len {H : Hp} {w w' : List Nat} {cs : List V} (h : LedV H w cs w') : w'.length ≤ w.length + cs.length := by
  induction h with
  | nil => exact Nat.le_refl _
  | cons h r ih =>
    obtain ⟨xs, _, hg⟩ := h
    have := good_len hg
    simp only [List.length_cons]
    omega
theorem ledV_take {H : Hp} {w w' : List Nat} {cs : List V} {i : Nat} {c : V} (h : LedV H w cs w') (hc : cs[i]? = some c) {wi : List Nat} (hi : LedV H w (cs.take i) wi) : ∃ w2, GoodV wi c H w2 := by
  have e : cs = cs.take i ++ (c :: cs.drop (i + 1)) := by
    obtain ⟨hlt, rfl⟩ := List.getElem?_eq_some_iff.mp hc
    rw [← List.drop_eq_getElem_cons hlt, List.take_append_drop]
  rw [e] at h
  obtain ⟨w1, h1, h2⟩ := ledV_app h
  rw [ledV_inj hi h1]
  cases h2 with
  | cons g r => exact ⟨_, g⟩
theorem ledV_down {H H' : Hp} (e : Ex H H') {w w' : List Nat} {cs : List V} (hc : ∀ c ∈ cs, Chg c H) (h : LedV H' w cs w') : LedV H w cs w' := by
  induction h with
  | nil => exact .nil
  | cons h r ih => exact .cons (goodV_down e (hc _ (by simp)) h) (ih fun c h => hc c (by simp [h]))
/-- data of tuples of ints and texts -/
def DataC (c : V) (H : Hp) : Prop := ∀ K : PySem.W.Frag, ∃ d : PyData, Dp K H c d ∧ d.plain = true ∧ d.depth ≤ 5
theorem dataC_up : Up DataC := fun v H H' e h K => by
  obtain ⟨d, h1, h2, h3⟩ := h K
  exact ⟨d, dp_up e _ _ h1, h2, h3⟩
theorem data_non {H : Hp} : DataC .non H := fun K => ⟨_, .non, rfl, by decide⟩
theorem data_t2 {H : Hp} {p : Addr} {a : List Nat} {i : Int} (h : H p = some (.tup [tx a, .int i])) : DataC (.ref p) H := fun K => ⟨_, .tup (SqT.of h) (.cons (.str _) (.cons (.int _) .nil)), rfl, by simp [PyData.depth, PyData.depthAll]⟩
theorem data_t3 {H : Hp} {p : Addr} {a b : List Nat} {i : Int} (h : H p = some (.tup [tx a, .int i, tx b])) : DataC (.ref p) H := fun K => ⟨_, .tup (SqT.of h) (.cons (.str _) (.cons (.int _) (.cons (.str _) .nil))), rfl, by simp [PyData.depth, PyData.depthAll]⟩
theorem good_data {w w' : List Nat} {xs : List V} {p : Addr} {H : Hp} (h : H p = some (.tup xs)) (g : Good w xs w') : DataC (.ref p) H := by
  cases g with
  | put h0 h1 hc => exact data_t3 h
  | cut h0 h1 => exact data_t2 h
  | turn h0 h1 hc hn => exact data_t3 h
theorem any_tx {a : List Nat} {H : Hp} (h : a.length ≤ 1000) : Any (tx a) H := .inl ⟨a, rfl, h⟩
theorem any_int {i : Int} {H : Hp} : Any (.int i) H := .inr odd_int
theorem chg_t2 {H : Hp} {p : Addr} {a : List Nat} {i : Int} (h : H p = some (.tup [tx a, .int i])) (ha : a.length ≤ 1000) : Chg (.ref p) H := .inl ⟨_, ⟨p, rfl, h⟩, by simp, fun x hx => by
  rcases List.mem_cons.mp hx with rfl | hx
  · exact any_tx ha
  · rw [List.mem_singleton] at hx; subst hx; exact any_int⟩
theorem chg_t3 {H : Hp} {p : Addr} {a b : List Nat} {i : Int} (h : H p = some (.tup [tx a, .int i, tx b])) (ha : a.length ≤ 1000) (hb : b.length ≤ 1000) : Chg (.ref p) H := .inl ⟨_, ⟨p, rfl, h⟩, by simp, fun x hx => by
  rcases List.mem_cons.mp hx with rfl | hx
  · exact any_tx ha
  · rcases List.mem_cons.mp hx with rfl | hx
    · exact any_int
    · rw [List.mem_singleton] at hx; subst hx; exact any_tx hb⟩
theorem good_chg {w w' : List Nat} {xs : List V} {p : Addr} {H : Hp} (h : H p = some (.tup xs)) (g : Good w xs w') : Chg (.ref p) H := by
  cases g with
  | put h0 h1 hc => exact chg_t3 h (by decide) (by simp)
  | cut h0 h1 => exact chg_t2 h (by decide)
  | turn h0 h1 hc hn => exact chg_t3 h (by decide) (by simp)
end Nw

set_option Elab.async false
set_option linter.all false
set_option maxRecDepth 100000
/-! the laws' own small defs: _law_at, _law_letter, _law_word, _law_bent -/
namespace Nw
open PySem L2 Evl
def Word (n : Nat) (v : V) : Prop := ∃ w, v = tx w ∧ Low w ∧ w.length ≤ n
def cellAt (ns : List Int) (k : Int) : Int := (ns[k.toNat]?).getD 0
def sp_law_at (K : PySem.W.Frag) : Sp := fun vs H Q _ => ∃ (a : Addr) (ns : List Int) (k : Int), vs = [.ref a, .int k] ∧ SqL K H a (ns.map V.int) ∧ 0 ≤ k ∧ ns.length ≤ 63 ∧ RetV (.int (cellAt ns k)) H Q
def sp_law_letter (K : PySem.W.Frag) : Sp := fun vs H Q _ => ∃ m n : Int, vs = [.int m, .int n] ∧ RetG (fun v _ => IsL v) H Q
def sp_law_word (K : PySem.W.Frag) : Sp := fun vs H Q _ => ∃ m c most : Int, vs = [.int m, .int c, .int most] ∧ 0 ≤ most ∧ most ≤ 60 ∧ RetG (fun v _ => Word most.toNat v) H Q
def sp_law_bent (K : PySem.W.Frag) : Sp := fun vs H Q _ => ∃ (m : Int) (w : List Nat) (c : Int), vs = [.int m, tx w, .int c] ∧ Low w ∧ w.length ≤ 24 ∧ RetG (fun v _ => Word 24 v) H Q
/- _law_at(_law_script, _law_k): slots 0:_law_script 1:_law_k -/
def T_law_at (K : PySem.W.Frag) : TS :=
 (tSeq (tIfS (tTest (tOp nLt (tVar 1) (tCB (nLenL K) (tCons (tVar 0) tNil))))
 (tRet (tOp (nIxL K) (tVar 0) (tVar 1))) tNext)
 (tRet (tC (.int 0))))
def n_law_at : Nat := 2
/- _law_letter(_law_mode, _law_number): slots 0:_law_mode 1:_law_number 2:_law_span 3:_law_step -/
def T_law_letter (K : PySem.W.Frag) : TS :=
 (tSeq (tAsg (tOp (nIxL K) (tLst (tCons (tC (.int 2)) (tCons (tC (.int 3)) (tCons (tC (.int 26)) tNil)))) (tOp nMod (tVar 0) (tC (.int 3)))) (gName 2))
 (tSeq (tAsg (tOp (nIxL K) (tLst (tCons (tC (.int 1)) (tCons (tC (.int 3)) (tCons (tC (.int 5)) (tCons (tC (.int 7)) tNil))))) (tOp nMod (tOp nDiv (tVar 0) (tC (.int 78))) (tC (.int 4)))) (gName 3))
 (tRet (tOp nIxS (tC (tx abc)) (tOp nMod (tOp nAdd (tOp nDiv (tVar 0) (tC (.int 3))) (tOp nMul (tOp nMod (tVar 1) (tVar 2)) (tVar 3))) (tC (.int 26)))))))
def n_law_letter : Nat := 4
/- _law_word(_law_mode, _law_cell_here, _law_most): slots 0:_law_mode 1:_law_cell_here 2:_law_most 3:_law_size 4:_law_found 5:_law_k -/
def T_law_word (K : PySem.W.Frag) : TS :=
 (tSeq (tAsg (tOp nMod (tVar 1) (tOp nAdd (tVar 2) (tC (.int 1)))) (gName 3))
 (tSeq (tAsg (tOp nDiv (tVar 1) (tOp nAdd (tVar 2) (tC (.int 1)))) (gName 1))
 (tSeq (tAsg (tC (tx [])) (gName 4))
 (tSeq (tFor (iRng1 (tCons (tVar 3) tNil)) (gName 5)
 (tSeq (tAsg (tOp nCat (tVar 4) (tCall (sp_law_letter K) [] E0 (tCons (tVar 0) (tCons (tOp nAdd (tVar 1) (tOp nMul (tC (.int 3)) (tVar 5))) tNil)))) (gName 4))
 (tAsg (tOp nDiv (tVar 1) (tC (.int 26))) (gName 1))))
 (tRet (tVar 4))))))
def n_law_word : Nat := 6
/- _law_bent(_law_mode, _law_word_here, _law_cell_here): slots 0:_law_mode 1:_law_word_here 2:_law_cell_here 3:_law_k 4:_law_more 5:_law_at_here 6:_law_letter_here -/
def T_law_bent (K : PySem.W.Frag) : TS :=
 (tSeq (tFor (iRng1 (tCons (tOp nMod (tVar 2) (tC (.int 4))) tNil)) (gName 3)
 (tSeq (tAsg (tOp nAdd (tOp nDiv (tVar 2) (tC (.int 4))) (tOp nMul (tC (.int 11)) (tVar 3))) (gName 4))
 (tSeq (tAsg (tOp nMod (tOp nDiv (tVar 4) (tC (.int 3))) (tOp nAdd (tCB nLenS (tCons (tVar 1) tNil)) (tC (.int 1)))) (gName 5))
 (tSeq (tAsg (tCall (sp_law_letter K) [] E0 (tCons (tVar 0) (tCons (tOp nDiv (tVar 4) (tC (.int 75))) tNil))) (gName 6))
 (tSeq (tIfS (tAnd (tTest (tOp nEq (tOp nMod (tVar 4) (tC (.int 3))) (tC (.int 0)))) (tTest (tOp nLt (tCB nLenS (tCons (tVar 1) tNil)) (tC (.int 24)))))
 (tAsg (tOp nCat (tOp nCat (tSl nSlS (tVar 1) tNoPart (tPart (tVar 5))) (tVar 6)) (tSl nSlS (tVar 1) (tPart (tVar 5)) tNoPart)) (gName 1)) (tIfS (tTest (tOp nEq (tOp nMod (tVar 4) (tC (.int 3))) (tC (.int 1))))
 (tAsg (tOp nCat (tSl nSlS (tVar 1) tNoPart (tPart (tVar 5))) (tSl nSlS (tVar 1) (tPart (tOp nAdd (tVar 5) (tC (.int 1)))) tNoPart)) (gName 1)) (tIfS (tTest (tOp nLt (tVar 5) (tCB nLenS (tCons (tVar 1) tNil))))
 (tAsg (tOp nCat (tOp nCat (tSl nSlS (tVar 1) tNoPart (tPart (tVar 5))) (tVar 6)) (tSl nSlS (tVar 1) (tPart (tOp nAdd (tVar 5) (tC (.int 1)))) tNoPart)) (gName 1)) tNext)))
 (tAsg (tOp nDiv (tVar 2) (tC (.int 5))) (gName 2)))))))
 (tRet (tVar 1)))
def n_law_bent : Nat := 7
theorem l_law_at {K vs H Q E} (h : sp_law_at K vs H Q E) : vs.length = 2 := by obtain ⟨_, _, _, rfl, _⟩ := h; rfl
theorem l_law_letter {K vs H Q E} (h : sp_law_letter K vs H Q E) : vs.length = 2 := by obtain ⟨_, _, rfl, _⟩ := h; rfl
theorem l_law_word {K vs H Q E} (h : sp_law_word K vs H Q E) : vs.length = 3 := by obtain ⟨_, _, _, rfl, _⟩ := h; rfl
theorem l_law_bent {K vs H Q E} (h : sp_law_bent K vs H Q E) : vs.length = 3 := by obtain ⟨_, _, _, rfl, _⟩ := h; rfl
section
variable {K : PySem.W.Frag} {vs : List V} {H : Hp} {Q : VK} {E : XK} {σ : L2.St} {ta tb tc : TE}
theorem R_law_at (h : sp_law_at K vs H Q E) : T_law_at K (fin Q) (slots n_law_at vs) H := by
  obtain ⟨a, ns, k, rfl, hs, h0, hl, kQ⟩ := h
  show T_law_at K (fin Q) [some (.ref a), some (.int k)] H
  unfold T_law_at
  refine q_when (et_test (e_lt (ev_var rfl) (e_lenL (ev_var rfl) hs))) (fun hh H1 e1 => ?_) (fun hh H1 e1 => ?_)
  · have hlt := of_decide_eq_true hh
    rw [List.length_map] at hlt
    have hlt' : k.toNat < ns.length := by omega
    refine s_ret (e_ixL (ev_var rfl) (ev_var rfl) (ex_l e1 hs) (atI_in h0 (by rw [List.getElem?_map, List.getElem?_eq_getElem hlt']; rfl))) fun H2 e2 => ?_
    have e : cellAt ns k = ns[k.toNat] := by unfold cellAt; rw [List.getElem?_eq_getElem hlt']; rfl
    rw [← e]
    exact kQ _ (e1.trans e2)
  · have hlt := of_decide_eq_false hh
    rw [List.length_map] at hlt
    have e : cellAt ns k = 0 := by unfold cellAt; rw [List.getElem?_eq_none (by omega)]; rfl
    rw [e] at kQ
    exact s_ret ev_c fun H2 e2 => kQ _ (e1.trans e2)
theorem e_law_at {a : Addr} {ns : List Int} {k : Int} (ha : Ev ta σ H (.ref a)) (hb : Ev tb σ H (.int k)) (hs : SqL K H a (ns.map V.int)) (h0 : 0 ≤ k) (hl : ns.length ≤ 63) : Ev (tCall (sp_law_at K) [] E0 (tCons ta (tCons tb tNil))) σ H (.int (cellAt ns k)) :=
  ev_call (ea_cons ha (ea_cons hb ea_nil)) fun H1 e Q q E => ⟨a, ns, k, rfl, ex_l e hs, h0, hl, fun H2 e2 => q H2 e2⟩
/-- [a, b, ..][i] of written ints -/
def IntIn (P : Int → Prop) (v : V) (_ : Hp) : Prop := ∃ i, v = .int i ∧ P i
theorem intIn_up (P : Int → Prop) : Up (IntIn P) := fun _ _ _ _ h => h
theorem R_law_letter (h : sp_law_letter K vs H Q E) : T_law_letter K (fin Q) (slots n_law_letter vs) H := by
  obtain ⟨m, n, rfl, kQ⟩ := h
  show T_law_letter K (fin Q) [some (.int m), some (.int n), none, none] H
  unfold T_law_letter
  have g : ∀ {i : Int} {P : Int → Prop} {σ : L2.St} {H : Hp}, P i → EvG (tC (.int i)) σ H (IntIn P) := fun h => g_ev (intIn_up _) ev_c ⟨_, rfl, h⟩
  refine q_asgG (g_pick (n := 3) (intIn_up fun i => 0 < i ∧ i ≤ 26) (all_cons (intIn_up _) (g (by decide)) <| all_cons (intIn_up _) (g (by decide)) <| all_cons (intIn_up _) (g (by decide)) all_nil)
    (e_mod (ev_var rfl) ev_c (by decide)) (Int.emod_nonneg _ (by omega)) (Int.emod_lt_of_pos _ (by omega)) (by decide)) fun v H1 e1 hv => ?_
  obtain ⟨sp, rfl, hs0, hs1⟩ := hv
  refine q_asgG (g_pick (n := 4) (intIn_up fun i => 0 < i ∧ i ≤ 7) (all_cons (intIn_up _) (g (by decide)) <| all_cons (intIn_up _) (g (by decide)) <| all_cons (intIn_up _) (g (by decide)) <| all_cons (intIn_up _) (g (by decide)) all_nil)
    (e_mod (e_div (ev_var rfl) ev_c (by decide)) ev_c (by decide)) (Int.emod_nonneg _ (by omega)) (Int.emod_lt_of_pos _ (by omega)) (by decide)) fun v H2 e2 hv => ?_
  obtain ⟨st, rfl, ht0, ht1⟩ := hv
  refine s_ret (e_ixS ev_c (e_mod (e_add (e_div (ev_var rfl) ev_c (by decide)) (e_mul (e_mod (ev_var rfl) (ev_var rfl) hs0) (ev_var rfl) (.inr (by omega)))) ev_c (by decide)) (by decide)
    (atI_in (Int.emod_nonneg _ (by omega)) (abc_at (by have := Int.emod_lt_of_pos (m / 3 + n % sp * st) (show (0 : Int) < 26 by omega); have := Int.emod_nonneg (m / 3 + n % sp * st) (show (26 : Int) ≠ 0 by omega); omega)))) fun H3 e3 => ?_
  refine kQ _ _ ((e1.trans e2).trans e3) ⟨_, rfl, by omega, ?_⟩
  have := Int.emod_lt_of_pos (m / 3 + n % sp * st) (show (0 : Int) < 26 by omega)
  have := Int.emod_nonneg (m / 3 + n % sp * st) (show (26 : Int) ≠ 0 by omega)
  omega
theorem g_letter {i j : Int} (ha : Ev ta σ H (.int i)) (hb : Ev tb σ H (.int j)) : EvG (tCall (sp_law_letter K) [] E0 (tCons ta (tCons tb tNil))) σ H (fun v _ => IsL v) :=
  g_call (ea_cons ha (ea_cons hb ea_nil)) fun H1 e Q q E => ⟨i, j, rfl, q⟩
/-- a + a letter -/
theorem g_cat1 {a : List Nat} (ha : Ev ta σ H (tx a)) (hb : EvG tb σ H fun v _ => IsL v) (hl : a.length ≤ 1000) : EvG (tOp nCat ta tb) σ H (fun v _ => ∃ c, v = tx (a ++ [c]) ∧ 97 ≤ c ∧ c < 123) := fun H1 e Q q =>
  ha H1 e _ fun H2 e2 => hb H2 (e.trans e2) _ fun v H3 e3 hv => by
    obtain ⟨c, rfl, hc⟩ := hv
    refine ⟨_, _, rfl, rfl, by rw [tx_len, tx_len]; exact line1 (by simp; omega), ?_⟩
    rw [tx_app]
    exact q _ H3 (e2.trans e3) ⟨c, rfl, hc⟩
theorem R_law_word (h : sp_law_word K vs H Q E) : T_law_word K (fin Q) (slots n_law_word vs) H := by
  obtain ⟨m, c, most, rfl, h0, h1, kQ⟩ := h
  show T_law_word K (fin Q) [some (.int m), some (.int c), some (.int most), none, none, none] H
  unfold T_law_word
  refine q_asg (e_mod (ev_var rfl) (e_add (ev_var rfl) ev_c) (by omega)) fun H1 e1 => ?_
  refine q_asg (e_div (ev_var rfl) (e_add (ev_var rfl) ev_c) (by omega)) fun H2 e2 => ?_
  refine q_asg ev_c fun H3 e3 => ?_
  have s0 : 0 ≤ c % (most + 1) := Int.emod_nonneg _ (by omega)
  have s1 : c % (most + 1) < most + 1 := Int.emod_lt_of_pos _ (by omega)
  generalize c % (most + 1) = sz at s0 s1
  refine q_forR1 (n := sz) (ea_cons (ev_var rfl) ea_nil) (by omega) (fun i σ H' => (∃ c' w x, σ = [some (.int m), some (.int c'), some (.int most), some (.int sz), some (tx w), x] ∧ Low w ∧ w.length = i) ∧ Ex H H') (fun H4 e4 => ⟨⟨_, [], _, rfl, low_nil, rfl⟩, ((e1.trans e2).trans e3).trans e4⟩) (fun i σ H' hi hp => ?_) (fun σ H' hp => ?_)
  · obtain ⟨⟨c', w, x, rfl, lo, hl⟩, e⟩ := hp
    refine q_asgG (g_cat1 (ev_var rfl) (g_letter (ev_var rfl) (e_add (ev_var rfl) (e_mul ev_c (ev_var rfl) (.inl (by decide))))) (by omega)) fun v H5 e5 hv => ?_
    obtain ⟨d, rfl, hd⟩ := hv
    refine s_asg (e_div (ev_var rfl) ev_c (by decide)) fun H6 e6 => ?_
    exact ⟨⟨_, _, _, rfl, low_app lo (low_one hd), by simp [hl]⟩, (e.trans e5).trans e6⟩
  · obtain ⟨⟨c', w, x, rfl, lo, hl⟩, e⟩ := hp
    exact s_ret (ev_var rfl) fun H5 e5 => kQ _ _ (e.trans e5) ⟨w, rfl, lo, by omega⟩
theorem g_word {i j : Int} {n : Int} (ha : Ev ta σ H (.int i)) (hb : Ev tb σ H (.int j)) (hc : Ev tc σ H (.int n)) (h0 : 0 ≤ n) (h1 : n ≤ 60) : EvG (tCall (sp_law_word K) [] E0 (tCons ta (tCons tb (tCons tc tNil)))) σ H (fun v _ => Word n.toNat v) :=
  g_call (ea_cons ha (ea_cons hb (ea_cons hc ea_nil))) fun H1 e Q q E => ⟨i, j, n, rfl, h0, h1, q⟩
theorem R_law_bent (h : sp_law_bent K vs H Q E) : T_law_bent K (fin Q) (slots n_law_bent vs) H := by
  obtain ⟨m, w, c, rfl, lo, hl, kQ⟩ := h
  show T_law_bent K (fin Q) [some (.int m), some (tx w), some (.int c), none, none, none, none] H
  unfold T_law_bent
  have s0 : 0 ≤ c % 4 := Int.emod_nonneg _ (by omega)
  have s1 : c % 4 < 4 := Int.emod_lt_of_pos _ (by omega)
  refine q_forR1 (n := c % 4) (ea_cons (e_mod (ev_var rfl) ev_c (by decide)) ea_nil) (by omega) (fun i σ H' => (∃ c' w x y z t, σ = [some (.int m), some (tx w), some (.int c'), x, y, z, t] ∧ Low w ∧ w.length ≤ 24) ∧ Ex H H') (fun H4 e4 => ⟨⟨_, w, _, _, _, _, rfl, lo, hl⟩, e4⟩) (fun i σ H' hi hp => ?_) (fun σ H' hp => ?_)
  · obtain ⟨⟨c', w, x, y, z, t, rfl, lo, hl⟩, e⟩ := hp
    refine q_asg (e_add (e_div (ev_var rfl) ev_c (by decide)) (e_mul ev_c (ev_var rfl) (.inl (by decide)))) fun H1 e1 => ?_
    generalize c' / 4 + 11 * (i : Int) = more
    refine q_asg (e_mod (e_div (ev_var rfl) ev_c (by decide)) (e_add (e_lenS (ev_var rfl) (by omega)) ev_c) (by omega)) fun H2 e2 => ?_
    have a0 : 0 ≤ more / 3 % ((w.length : Int) + 1) := Int.emod_nonneg _ (by omega)
    have a1 : more / 3 % ((w.length : Int) + 1) < (w.length : Int) + 1 := Int.emod_lt_of_pos _ (by omega)
    generalize more / 3 % ((w.length : Int) + 1) = at_ at a0 a1
    refine q_asgG (g_letter (ev_var rfl) (e_div (ev_var rfl) ev_c (by decide))) fun v H3 e3 hv => ?_
    obtain ⟨d, rfl, hd⟩ := hv
    have e123 := ((e.trans e1).trans e2).trans e3
    -- behind the three ways the word is one again
    refine Evl.q_if (b := decide (more % 3 = 0) && decide ((w.length : Int) < 24)) (et_and (et_test (e_eq (e_mod (ev_var rfl) ev_c (by decide)) ev_c .ii)) fun _ => et_test (e_lt (e_lenS (ev_var rfl) (by omega)) ev_c)) (fun hh H4 e4 => ?_) (fun hh H4 e4 => ?_)
    · have hlt : (w.length : Int) < 24 := by simp at hh; omega
      refine s_asg (e_glue (by omega) (ev_var rfl) (ev_var rfl) (ev_var rfl) (ev_var rfl) a0 a0) fun H5 e5 => ?_
      refine s_asg (e_div (ev_var rfl) ev_c (by decide)) fun H6 e6 => ?_
      exact ⟨⟨_, _, _, _, _, _, rfl, low_app (low_app (low_take _ lo) (low_one hd)) (low_drop _ lo), by simp only [List.length_append, List.length_take, List.length_drop, List.length_cons, List.length_nil]; omega⟩, ((e123.trans e4).trans e5).trans e6⟩
    · refine s_if (b := decide (more % 3 = 1)) (et_test (e_eq (e_mod (ev_var rfl) ev_c (by decide)) ev_c .ii)) (fun hh H5 e5 => ?_) (fun hh H5 e5 => ?_)
      · refine s_asg (e_glue2 (by omega) (ev_var rfl) (ev_var rfl) (e_add (ev_var rfl) ev_c) a0 (by omega)) fun H6 e6 => ?_
        refine s_asg (e_div (ev_var rfl) ev_c (by decide)) fun H7 e7 => ?_
        exact ⟨⟨_, _, _, _, _, _, rfl, low_app (low_take _ lo) (low_drop _ lo), by simp only [List.length_append, List.length_take, List.length_drop]; omega⟩, (((e123.trans e4).trans e5).trans e6).trans e7⟩
      · refine s_when (b := decide (at_ < (w.length : Int))) (et_test (e_lt (ev_var rfl) (e_lenS (ev_var rfl) (by omega)))) (fun hh H6 e6 => ?_) (fun hh H6 e6 => ?_)
        · have hlt := of_decide_eq_true hh
          refine s_asg (e_glue (by omega) (ev_var rfl) (ev_var rfl) (ev_var rfl) (e_add (ev_var rfl) ev_c) a0 (by omega)) fun H7 e7 => ?_
          refine s_asg (e_div (ev_var rfl) ev_c (by decide)) fun H8 e8 => ?_
          exact ⟨⟨_, _, _, _, _, _, rfl, low_app (low_app (low_take _ lo) (low_one hd)) (low_drop _ lo), by simp only [List.length_append, List.length_take, List.length_drop, List.length_cons, List.length_nil]; omega⟩, ((((e123.trans e4).trans e5).trans e6).trans e7).trans e8⟩
        · refine s_asg (e_div (ev_var rfl) ev_c (by decide)) fun H8 e8 => ?_
          exact ⟨⟨_, _, _, _, _, _, rfl, lo, hl⟩, (((e123.trans e4).trans e5).trans e6).trans e8⟩
  · obtain ⟨⟨c', w, x, y, z, t, rfl, lo, hl⟩, e⟩ := hp
    exact s_ret (ev_var rfl) fun H5 e5 => kQ _ _ (e.trans e5) ⟨w, rfl, lo, hl⟩
end
end Nw

set_option Elab.async false
set_option linter.all false
set_option maxRecDepth 100000
/-! Nw.Exc: a def that is asked, within an except suite, about the error that is held there -/
namespace Nw
open PySem PySem.Spec PyProof.Rows L2 Evl
/-- the object p is an error of the class D -/
structure ErrAt (K : PySem.W.Frag) (D : Addr) (p : Addr × Obj) : Prop where
  cls : Zc (.ref D) none p.2
  flds : ∃ vs, p.2.data = .fields vs
/-- isinstance(e, c), e the error at a -/
def nIsX (K : PySem.W.Frag) (a : Addr) (cls : Value) (d : Option Addr) : List V → Hp → VK → Prop := fun xs H Q => ∃ D, cls = .ref D ∧ d = none ∧ ExcC K D ∧ rIsE K D a xs H Q
theorem call_isX {X : Cx} {a : Addr} {oe : Obj} {cls : Value} {d : Option Addr} (hp : (a, oe) ∈ X.pn) (hz : Zc cls d oe) (hf : ∃ vs, oe.data = .fields vs) : CallR X (.builtin "isinstance") (nIsX X.K a cls d) := by
  rintro pins s σ H xs us Q I r ⟨D, rfl, rfl, C, c, cv, b, rfl, hcv, e, q⟩
  obtain ⟨u1, u2, rfl, rx, rt⟩ := vals2 r
  obtain rfl : u1 = .ref a := rx
  obtain rfl := hcv _ rt
  have there := (I.pin (a, oe) (List.mem_append_left _ hp)).1
  have J : PySem.W.InstAt s.heap a oe D none := by
    obtain ⟨vs, hv⟩ := hf
    cases oe with
    | mk oc od oda osl =>
      obtain ⟨h1, h2⟩ := hz
      dsimp only at h1 h2 hv
      subst h1 h2 hv
      exact ⟨there, rfl, rfl, trivial⟩
  exact PySem.W.kia_one (PySem.W.handS_kitx_exc (ox := oe) (x := a) C.hg C.hk C.hs C.hd C.ha C.hn C.ht C.hm) I.kIn J e (fun z => nomatch z) fun tk => ⟨.bl b, H, I.kept (t' := tk) fun _ _ z => z, rfl, q⟩
/-- a def of one argument that is an error held -/
structure FnE (P : Program) (w : World) (K : PySem.W.Frag) (mg : Str → Option Value) (base : Heap) (k : Nat) (f : Addr) (fd : FuncData) (ps : List Str) (sp : Addr → Addr → Sp) : Prop where
  len : ∀ a D vs H Q E, sp a D vs H Q E → vs.length = ps.length
  run : ∀ (A : Around) (outer : List Env) (s : Shared) (H : Hp) (args : Args) (us : List Value) (vs : List V) (Q : VK) (E : XK) (p : Addr × Obj) (D : Addr), L2H.RoomH k A → L2H.PinOk outer H s p → ErrAt K D p → Env0 P w K mg base A outer s H → BindsTo s fd args (ps.zip us) → Vals vs us → sp p.1 D vs H Q E →
    codeAny (model P w) A (.call (.ref f) args) (CR CX0 outer P w H s Q E) s
theorem fnE_mk {P : Program} {w : World} {K : PySem.W.Frag} {mg : Str → Option Value} {base : Heap} {x qual : Str} {st : Stmt} {f : Addr} {fd : FuncData} {N ps : List Str} {k : Nat} {sp : Addr → Addr → Sp} (F : Fun K x qual st f fd) (S : FnScope N ps (defScope st))
    (len : ∀ a D vs H Q E, sp a D vs H Q E → vs.length = ps.length)
    (body : ∀ (cdv : Value) (A : Around) (outer : List Env) (s : Shared) (H : Hp) (vs : List V) (Q : VK) (E : XK) (a : Addr) (oe : Obj) (D : Addr), Zc (.ref D) none oe → (∃ vs, oe.data = .fields vs) → L2H.RoomH k (A.deeper (envOfC qual (defScope st) s.heap.objs.size f cdv)) → sp a D vs H Q E →
      ∃ t, PSs (L2H.cxH CX0 P w K mg base N qual (defScope st) f cdv A outer s H E (a, oe)) (defBody st) t ∧ t { nx := fun _ H' => Q .non H', rt := Q } (start N vs) H) : FnE P w K mg base (k + 1) f fd ps sp := by
  obtain ⟨oc, od, kV, doc, pm, an, cdv, ct, osl, rfl, lk, hcd⟩ := F.ex
  refine ⟨len, ?_⟩
  rintro A outer s H args us vs Q E ⟨a, oe⟩ D room pin err e0 binds r h
  obtain ⟨t, ht, hq⟩ := body cdv A outer s H vs Q E a oe D err.cls err.flds (room.deeper _) h
  have kin : K.In s.heap := e0.mod.kin.keeps fun b o e => (e0.bs b o e).1
  have lim : s.heap.NoLimit := e0.mod.nolimit.keeps fun b o e => (e0.bs b o e).1
  have kinds : ∀ y ∈ ps.zip us, (defScope st).names.lookup y.1 = some .local ∨ ((defScope st).names.lookup y.1 = some .cell ∧ ((cellsFrom (s.heap.objs.size + 1) (defScope st).names []).lookup y.1).isSome = true) := by
    rintro ⟨n, v⟩ hy
    rcases S.par n (List.of_mem_zip hy).1 with q | q
    · exact .inl q
    · exact .inr ⟨q, PySem.W.cellsFrom_some _ _ _ (.inl q)⟩
  refine codeAny_call_function room.depth (kin _ _ lk) rfl S.co S.gen rfl (PySem.W.codeRec_of kin hcd) (binds _ _ _ _ (wpAny_newFunctionEnv_cells S.kind kinds ?_))
  rintro env rfl s1 x
  refine ⟨lim.keeps x.toInCall.keep, codeAny_func (wpAny_mono (ht.run [] s1 (start N vs) H _ (L2H.inv_startH S pin e0 (len _ _ _ _ _ _ h) r x) hq) (fun fl s' hs => ?_) fun e s' hs => hs)⟩
  cases fl with
  | ret u =>
    obtain ⟨v, σ', H', J, rv, q⟩ := hs
    exact ⟨v, H', J.os, J.bare, J.base, J.hok, rv, q⟩
  | next =>
    obtain ⟨σ', H', J, q⟩ := hs
    exact ⟨.non, H', J.os, J.bare, J.base, J.hok, rfl, q⟩
  | brk => exact hs.choose_spec.choose_spec.2.elim
  | cont => exact hs.choose_spec.choose_spec.2.elim
/-- such a def's call -/
def tCallX (K : PySem.W.Frag) (sp : Addr → Addr → Sp) (a : Addr) (cls : Value) (d : Option Addr) (t : TA) : TE := fun σ H Q => ∃ D, cls = .ref D ∧ d = none ∧ t σ H fun vs H1 => sp a D vs H1 Q E0
theorem room_mark {k : Nat} {A : Around} {h : Option Value} (r : Room k A) : L2H.RoomH k (A.mark h) := ⟨r.dp, r.un⟩
theorem pe_callX {X : Cx} {k : Nat} {f a : Addr} {fd : FuncData} {ps : List Str} {sp : Addr → Addr → Sp} {x : Str} {oe : Obj} {cls : Value} {d : Option Addr} {q pos : Pos} {e : Expr} {es : List Expr} {t : TA} (F : FnE X.prog X.w X.K X.mg X.base k f fd ps sp) (room : L2H.RoomH k X.A) (hg : Gl X x) (hm : X.mg x = some (.ref f)) (hk : PySem.W.keepIn X.K (.ref f) = true) (hb : Binds X.K fd ps [])
    (hp : (a, oe) ∈ X.pn) (hz : Zc cls d oe) (hf : ∃ vs, oe.data = .fields vs) (ha : PA X (e :: es) t) (hdb : (x == ("__debug__" : Str)) = false := by decide) (he : starEach (e :: es) X.env = (false, eval e X.env) :: starEach es X.env := by rfl) (hpl : (backTo pos (starEach es X.env)).any (·.1) = false := by rfl) :
    PE X (.Call (.Name x q) (e :: es) [] pos) (tCallX X.K sp a cls d t) := by
  constructor
  rintro pins s σ H Q I ⟨D, rfl, rfl, h⟩
  refine wpAny_Call_Name_kw (ld_glob I hg hm (PySem.W.callWith_K (h₀ := X.base) I.ok.mod.kin hk (thn (ha.run pos pins s σ H _ I h) ?_) he hpl) hdb)
  rintro us s1 ⟨vs, H1, I1, r, h1⟩
  refine ⟨I1.kIn, ?_⟩
  have hl : us.length = ps.length := by rw [← r.length]; exact F.len _ _ _ _ _ _ h1
  have b := hb s1 us I1.kIn (by rw [List.append_nil]; exact hl)
  rw [List.append_nil] at b
  have P1 := I1.pin (a, oe) (List.mem_append_left _ hp)
  have pin : L2H.PinOk X.stack H1 s1 (a, oe) := ⟨P1.1, P1.2.1, fun hm => (List.mem_cons.mp (I1.stkSub a hm)).elim P1.2.2.1 P1.2.2.2.1, P1.2.2.2.2⟩
  refine wpAny_call (codeAny_mono (F.run X.A X.stack s1 H1 ⟨us, []⟩ us vs Q E0 (a, oe) D room pin ⟨hz, hf⟩ I1.env0 b r h1) fun r s' hq => ?_)
  match r, hq with
  | .error _, hq => exact hq.elim
  | .ok (.ret u), hq => exact I1.after hq
  | .ok .next, hq => exact hq.elim
  | .ok .brk, hq => exact hq.elim
  | .ok .cont, hq => exact hq.elim
structure CalE (P : Program) (w : World) (K : PySem.W.Frag) (mg : Str → Option Value) (base : Heap) (k : Nat) (x : Str) (ps : List Str) (sp : Addr → Addr → Sp) : Prop where
  ex : ∃ (f : Addr) (fd : FuncData), FnE P w K mg base k f fd ps sp ∧ mg x = some (.ref f) ∧ PySem.W.keepIn K (.ref f) = true ∧ Binds K fd ps []
/-! ### whose error it is -/
structure KindOf (K : PySem.W.Frag) (D W C M F : Addr) (w c m f : Bool) : Prop where
  exc : ExcC K D
  val : PySem.W.kitOne K (.ref D) (.type "ValueError") = some true
  wo : PySem.W.kitOne K (.ref D) (.ref W) = some w
  ch : PySem.W.kitOne K (.ref D) (.ref C) = some c
  mo : PySem.W.kitOne K (.ref D) (.ref M) = some m
  fu : PySem.W.kitOne K (.ref D) (.ref F) = some f
section
variable {K : PySem.W.Frag} {σ : L2.St} {H : Hp} {ta : TE} {a D : Addr} {b : Bool}
theorem e_isX {c : Addr} (h : Ev ta σ H (.ref a)) (C : ExcC K D) (hk : PySem.W.kitOne K (.ref D) (.ref c) = some b) : Ev (tCB (nIsX K a (.ref D) none) (tCons ta (tCons (tC (.ref c)) tNil))) σ H (.bl b) :=
  ev_cb (ea_cons h (ea_cons ev_c ea_nil)) fun H1 e Q q => ⟨D, rfl, rfl, C, .ref c, .ref c, b, rfl, fun u hu => hu, hk, q H1 (Ex.refl H1)⟩
theorem e_isXT {T : String} (h : Ev ta σ H (.ref a)) (C : ExcC K D) (hk : PySem.W.kitOne K (.ref D) (.type T) = some b) : Ev (tCB (nIsX K a (.ref D) none) (tCons ta (tCons (tC (.ty T)) tNil))) σ H (.bl b) :=
  ev_cb (ea_cons h (ea_cons ev_c ea_nil)) fun H1 e Q q => ⟨D, rfl, rfl, C, .ty T, .type T, b, rfl, fun u hu => hu, hk, q H1 (Ex.refl H1)⟩
theorem kit_same {K : PySem.W.Frag} {v : Value} : PySem.W.kitOne K v v = some true := by
  unfold PySem.W.kitOne
  simp
theorem kit_sub {K : PySem.W.Frag} {D C : Addr} {b : Bool} (hne : (D == C) = false) (h1 : PySem.W.isClsIn K C = true) (h2 : PySem.W.typeIn K (.ref C) = some (.type "type")) (h3 : PySem.W.subIn K (.ref D) (.ref C) = some b) : PySem.W.kitOne K (.ref D) (.ref C) = some b := by
  have e1 : (Value.ref D == Value.ref C) = false := by simpa using hne
  have e2 : ((PySem.W.clsIn K C).isSome && PySem.W.typeIn K (.ref C) == some (.type "type")) = true := by rw [h2]; exact (Bool.and_true _).trans h1
  unfold PySem.W.kitOne PySem.W.kitCls
  simp only [e1, e2, if_true]
  exact h3
theorem kit_val {K : PySem.W.Frag} {D : Addr} {b : Bool} (h : PySem.W.subIn K (.ref D) (.type "ValueError") = some b) : PySem.W.kitOne K (.ref D) (.type "ValueError") = some b := by
  have e1 : (Value.ref D == Value.type "ValueError") = false := rfl
  have e2 : PySem.W.kitMeta "ValueError" = true := by decide +kernel
  unfold PySem.W.kitOne PySem.W.kitCls
  simp only [e1, e2, if_true]
  exact h
end
end Nw

set_option Elab.async false
set_option linter.all false
set_option maxRecDepth 100000
/-! Nw.Kinds: _law_kinds -/
namespace Nw
open PySem L2 Evl
def sp_law_kinds (K : PySem.W.Frag) (CW CC CM CF : Addr) : Addr → Addr → Sp := fun a D vs H Q _ => vs = [.ref a] ∧ ∃ w c m f, KindOf K D CW CC CM CF w c m f ∧ RetL [.bl w, .bl c, .bl m, .bl f] H Q
/- _law_kinds(_law_error): slots 0:_law_error 1:_law_kinds_here -/
def T_law_kinds (K : PySem.W.Frag) (C_BadWord C_BadChange C_BadMost C_Full : Addr) (a D : Addr) : TS :=
 (tSeq (tIfS (tNot (tB (tCB (nIsX K a (.ref D) none) (tCons (tVar 0) (tCons (tC (.ty "ValueError")) tNil)))))
 (tRet (tLst tNil)) tNext)
 (tSeq (tAsg (tLst (tCons (tCB (nIsX K a (.ref D) none) (tCons (tVar 0) (tCons (tC (.ref C_BadWord)) tNil))) (tCons (tCB (nIsX K a (.ref D) none) (tCons (tVar 0) (tCons (tC (.ref C_BadChange)) tNil))) tNil))) (gName 1))
 (tRet (tOp nLcat (tVar 1) (tLst (tCons (tCB (nIsX K a (.ref D) none) (tCons (tVar 0) (tCons (tC (.ref C_BadMost)) tNil))) (tCons (tCB (nIsX K a (.ref D) none) (tCons (tVar 0) (tCons (tC (.ref C_Full)) tNil))) tNil)))))))
def n_law_kinds : Nat := 2
theorem l_law_kinds {K CW CC CM CF a D vs H Q E} (h : sp_law_kinds K CW CC CM CF a D vs H Q E) : vs.length = 1 := by obtain ⟨rfl, _⟩ := h; rfl
section
variable {K : PySem.W.Frag} {vs : List V} {H : Hp} {Q : VK} {E : XK} {CW CC CM CF a D : Addr} {σ : L2.St} {ta tb : TE} {tr : TA}
theorem el_lcat {xs ys : List V} {l : Addr} (ha : Ev ta σ H (.ref l)) (hl : H l = some (.lst xs)) (hb : EvL tb σ H ys) (hz : xs.length + ys.length ≤ 100000) : EvL (tOp nLcat ta tb) σ H (xs ++ ys) := fun H1 e Q q =>
  ha H1 e _ fun H2 e2 => hb H2 (e.trans e2) _ fun p H3 hp e3 h3 => ⟨l, p, xs, ys, rfl, rfl, e3 _ _ (e2 _ _ (e _ _ hl)), h3, line1 hz, fun r hr => q r _ (fresh_back (e2.trans e3) hr) ((e2.trans e3).trans (Ex.new hr)) upd_same⟩
theorem R_law_kinds (h : sp_law_kinds K CW CC CM CF a D vs H Q E) : T_law_kinds K CW CC CM CF a D (fin Q) (slots n_law_kinds vs) H := by
  obtain ⟨rfl, w, c, m, f, hk, k⟩ := h
  show T_law_kinds K CW CC CM CF a D (fin Q) [some (.ref a), none] H
  unfold T_law_kinds
  refine q_when (b := false) (et_not (et_B (b := true) (e_isXT (ev_var rfl) hk.exc hk.val))) (fun hh => by cases hh) (fun _ H1 e1 => ?_)
  refine q_asgL (el_lst (ea_cons (e_isX (ev_var rfl) hk.exc hk.wo) (ea_cons (e_isX (ev_var rfl) hk.exc hk.ch) ea_nil)) (by simp)) fun l H2 hl e2 hl2 => ?_
  exact s_retL (el_lcat (ev_var rfl) hl2 (el_lst (ea_cons (e_isX (ev_var rfl) hk.exc hk.mo) (ea_cons (e_isX (ev_var rfl) hk.exc hk.fu) ea_nil)) (by simp)) (by simp)) fun p H3 hp e3 h3 => k p H3 (fresh_back (e1.trans e2) hp) ((e1.trans e2).trans e3) h3
/-- _law_kinds(e) in the suite -/
theorem el_kinds {w c m f : Bool} (h : Ev ta σ H (.ref a)) (hk : KindOf K D CW CC CM CF w c m f) : EvL (tCallX K (sp_law_kinds K CW CC CM CF) a (.ref D) none (tCons ta tNil)) σ H [.bl w, .bl c, .bl m, .bl f] := fun H1 e Q q =>
  ⟨D, rfl, rfl, ea_cons h ea_nil H1 e (fun vs H2 => sp_law_kinds K CW CC CM CF a D vs H2 Q E0) fun H2 e2 => ⟨rfl, w, c, m, f, hk, fun p H3 hp e3 h3 => q p H3 (fresh_back e2 hp) (e2.trans e3) h3⟩⟩
/-- a list of truth values == another -/
theorem e_eqBls {xs ys : List Bool} (ha : EvL ta σ H (xs.map V.bl)) (hb : EvL tb σ H (ys.map V.bl)) : Ev (tOp (nEqD K) ta tb) σ H (.bl (decide (xs = ys))) := ev_opLL ha hb fun p q H1 hp hq e H2 e2 Q k =>
  n_eq (is_bls (sq_of (e2 _ _ hp))) (is_bls (sq_of (e2 _ _ hq))) (by decide) (k H2 (Ex.refl H2))
end
end Nw

set_option Elab.async false
set_option linter.all false
set_option maxRecDepth 100000
/-! k02: a change done -/
namespace Nw
open PySem L2 Evl
def sp_law_change (K : PySem.W.Frag) : Sp := fun vs H Q _ => ∃ (m : Int) (w : List Nat) (c : Int), vs = [.int m, tx w, .int c] ∧ w.length ≤ 900 ∧ RetG Chg H Q
def sp_law_done (K : PySem.W.Frag) : Sp := fun vs H Q _ => ∃ w v, vs = [tx w, v] ∧ w.length ≤ 900 ∧ Chg v H ∧ (∀ w', GoodV w v H w' → RetV (tx w') H Q) ∧ ((¬ ∃ w', GoodV w v H w') → RetV .non H Q)
def sp_law2 (K : PySem.W.Frag) : Sp := sp_law1 K
/- _law_change(_law_mode, _law_text, _law_cell): slots 0:_law_mode 1:_law_text 2:_law_cell 3:_law_place 4:_law_letter_here 5:_law_some -/
def T_law_change (K : PySem.W.Frag) : TS :=
 (tSeq (tAsg (tOp nSub (tOp nMod (tOp nDiv (tVar 2) (tC (.int 9))) (tOp nAdd (tCB nLenS (tCons (tVar 1) tNil)) (tC (.int 5)))) (tC (.int 2))) (gName 3))
 (tSeq (tAsg (tCall (sp_law_letter K) [] E0 (tCons (tVar 0) (tCons (tOp nDiv (tVar 2) (tC (.int 60))) tNil))) (gName 4))
 (tSeq (tIfS (tTest (tOp nEq (tOp nMod (tVar 2) (tC (.int 9))) (tC (.int 3))))
 (tAsg (tOp (nIxL K) (tLst (tCons (tCall (sp_law_sign K) [] E0 (tCons (tOp nDiv (tVar 2) (tC (.int 72))) tNil)) (tCons (tCall (sp_law_sign K) [] E0 (tCons (tOp nDiv (tVar 2) (tC (.int 72))) tNil)) (tCons (tC (tx [])) (tCons (tC (tx [97, 98])) (tCons (tC (tx [97, 97])) (tCons (tC (.int 5)) (tCons (tC .non) (tCons (tLst (tCons (tC (tx [97])) tNil)) tNil))))))))) (tOp nMod (tOp nDiv (tVar 2) (tC (.int 9))) (tC (.int 8)))) (gName 4)) tNext)
 (tSeq (tIfS (tTest (tOp nLt (tOp nMod (tVar 2) (tC (.int 9))) (tC (.int 7))))
 (tRet (tOp (nIxL K) (tLst (tCons (tTup (tCons (tC (tx [112, 117, 116])) (tCons (tVar 3) (tCons (tVar 4) tNil)))) (tCons (tTup (tCons (tC (tx [99, 117, 116])) (tCons (tVar 3) tNil))) (tCons (tTup (tCons (tC (tx [116, 117, 114, 110])) (tCons (tVar 3) (tCons (tVar 4) tNil)))) tNil)))) (tOp nMod (tOp nMod (tVar 2) (tC (.int 9))) (tC (.int 3))))) tNext)
 (tSeq (tAsg (tLst (tCons (tTup (tCons (tC (tx [112, 117, 116])) (tCons (tVar 3) tNil))) (tCons (tTup (tCons (tC (tx [99, 117, 116])) (tCons (tVar 3) (tCons (tC (tx [97])) tNil)))) (tCons (tTup (tCons (tC (tx [116, 117, 114, 110])) (tCons (tVar 3) tNil))) (tCons (tTup (tCons (tC (tx [80, 117, 116])) (tCons (tVar 3) (tCons (tC (tx [97])) tNil)))) (tCons (tLst (tCons (tC (tx [112, 117, 116])) (tCons (tC (.int 0)) (tCons (tC (tx [97])) tNil)))) tNil)))))) (gName 5))
 (tSeq (tAsg (tOp nLcat (tVar 5) (tLst (tCons (tTup (tCons (tC (tx [112, 117, 116])) (tCons (tC (.bl true)) (tCons (tC (tx [97])) tNil)))) (tCons (tTup (tCons (tC (tx [99, 117, 116])) (tCons (tC (.bl false)) tNil))) (tCons (tTup (tCons (tC (tx [99, 117, 116])) (tCons (tC .non) tNil))) (tCons (tTup (tCons (tC (tx [112, 117, 116])) (tCons (tC (tx [48])) (tCons (tC (tx [97])) tNil)))) (tCons (tTup tNil) (tCons (tTup (tCons (tC (tx [99, 117, 116])) tNil)) tNil)))))))) (gName 5))
 (tSeq (tAsg (tOp nLcat (tVar 5) (tLst (tCons (tC .non) (tCons (tC (.int 5)) (tCons (tC (tx [99, 117, 116])) (tCons (tTup (tCons (tLst (tCons (tC (tx [112, 117, 116])) tNil)) (tCons (tC (.int 0)) (tCons (tC (tx [97])) tNil)))) tNil)))))) (gName 5))
 (tSeq (tAsg (tOp nLcat (tVar 5) (tLst (tCons (tTup (tCons (tC (tx [112, 117, 116])) (tCons (tLst (tCons (tC (.int 0)) tNil)) (tCons (tC (tx [97])) tNil)))) (tCons (tTup (tCons tDNewK (tCons (tC (.int 0)) tNil))) (tCons (tTup (tCons (tC (tx [107, 101, 101, 112])) (tCons (tC (.int 0)) tNil))) (tCons (tTup (tCons (tC .non) (tCons (tC (.int 0)) tNil))) (tCons (tTup (tCons (tC (tx [112, 117, 116])) (tCons (tC (.int 0)) (tCons (tC (tx [97])) (tCons (tC (tx [98])) tNil))))) tNil))))))) (gName 5))
 (tRet (tOp (nIxL K) (tVar 5) (tOp nMod (tOp nDiv (tVar 2) (tC (.int 9))) (tC (.int 20)))))))))))))
def n_law_change : Nat := 6
/- _law_done(_law_text, _law_change_here): slots 0:_law_text 1:_law_change_here 2:_law_error -/
def T_law_done (K : PySem.W.Frag) (C_BadWord C_BadChange C_BadMost C_Full C_NearError : Addr) : TS :=
 (tSeq (tTryAs K (.ref C_NearError) 2 (fun W => (tRet (tCallS (sp_done K C_BadChange) (WE W) (tCons (tVar 0) (tCons (tVar 1) tNil))))) (fun a cls d => (tIfS (tAnd (tTest (tOp (nEqD K) (tCallX K (sp_law_kinds K C_BadWord C_BadChange C_BadMost C_Full) a cls d (tCons (tVar 2) tNil)) (tLst (tCons (tC (.bl false)) (tCons (tC (.bl true)) (tCons (tC (.bl false)) (tCons (tC (.bl false)) tNil))))))) (tB (tCB (nIsX K a cls d) (tCons (tVar 2) (tCons (tC (.ref C_BadChange)) tNil)))))
 (tRet (tC .non)) tNext)))
 (tRet (tC (.int 0))))
def n_law_done : Nat := 3
/- law(_law_script): slots 0:_law_script 1:_law_mode 2:_law_text 3:_law_cell 4:_law_change_here 5:_law_due 6:_law_found -/
def T_law2 (K : PySem.W.Frag) : TS :=
 (tSeq (tAsg (tCall (sp_law_at K) [] E0 (tCons (tVar 0) (tCons (tC (.int 0)) tNil))) (gName 1))
 (tSeq (tAsg (tCall (sp_law_word K) [] E0 (tCons (tVar 1) (tCons (tCall (sp_law_at K) [] E0 (tCons (tVar 0) (tCons (tC (.int 1)) tNil))) (tCons (tC (.int 6)) tNil)))) (gName 2))
 (tSeq (tIfS (tTest (tOp nEq (tOp nMod (tCall (sp_law_at K) [] E0 (tCons (tVar 0) (tCons (tC (.int 2)) tNil))) (tC (.int 9))) (tC (.int 1))))
 (tAsg (tCall (sp_law_word K) [] E0 (tCons (tVar 1) (tCons (tCall (sp_law_at K) [] E0 (tCons (tVar 0) (tCons (tC (.int 1)) tNil))) (tCons (tC (.int 60)) tNil)))) (gName 2)) tNext)
 (tSeq (tFor (iList K (tSl (nSlL K) (tVar 0) (tPart (tC (.int 3))) tNoPart)) (gName 3)
 (tSeq (tAsg (tCall (sp_law_change K) [] E0 (tCons (tVar 1) (tCons (tVar 2) (tCons (tVar 3) tNil)))) (gName 4))
 (tSeq (tAsg (tCall (sp_law_step K) [] E0 (tCons (tVar 2) (tCons (tVar 4) tNil))) (gName 5))
 (tSeq (tAsg (tCall (sp_law_done K) [] E0 (tCons (tVar 2) (tCons (tVar 4) tNil))) (gName 6))
 (tIfS (tOr (tAnd (tTest (tOp nIsN (tVar 5) (tC .non))) (tTest (tOp nNotN (tVar 6) (tC .non)))) (tAnd (tTest (tOp nNotN (tVar 5) (tC .non))) (tOr (tNot (tB (tCB (nIsi K) (tCons (tVar 6) (tCons (tC (.ty "str")) tNil))))) (tTest (tOp nNe (tVar 6) (tVar 5))))))
 (tRet (tC (.bl false))) tNext)))))
 (tRet (tC (.bl true)))))))
def n_law2 : Nat := 7
theorem l_law_change {K vs H Q E} (h : sp_law_change K vs H Q E) : vs.length = 3 := by obtain ⟨_, _, _, rfl, _⟩ := h; rfl
theorem l_law_done {K vs H Q E} (h : sp_law_done K vs H Q E) : vs.length = 2 := by obtain ⟨_, _, rfl, _⟩ := h; rfl
theorem l_law2 {K vs H Q E} (h : sp_law2 K vs H Q E) : vs.length = 1 := by obtain ⟨_, _, rfl, _⟩ := h; rfl
section
variable {K : PySem.W.Frag} {vs : List V} {H H' : Hp} {Q : VK} {E : XK} {CW CC CM CF CN : Addr} {σ : L2.St} {ta tb : TE} {tr : TA} {P : V → Hp → Prop}
/-- xs + [a, b, ..], all of P -/
theorem q_asgCat {D : Ends} {tz : TS} {j n : Nat} {xs : List V} {l : Addr} (hP : Up P) (ha : Ev ta σ H (.ref l)) (hl : H l = some (.lst xs)) (hx : ∀ v ∈ xs, P v H) (h : EvAll tr σ H P n) (hz : xs.length + n ≤ 1000)
    (k : ∀ ys p H1, H p = none → Ex H H1 → H1 p = some (.lst ys) → (∀ v ∈ ys, P v H1) → ys.length = xs.length + n → tz D (σ.set j (some (.ref p))) H1) : tSeq (tAsg (tOp nLcat ta (tLst tr)) (gName j)) tz D σ H :=
  ha H (Ex.refl H) _ fun H1 e1 => h H1 e1 _ fun vs H2 e2 ps hn => ⟨line1 (by omega), fun q hq => ⟨l, q, xs, vs, rfl, rfl, (Ex.new hq) _ _ (e2 _ _ (e1 _ _ hl)), upd_same, line1 (by omega), fun p hp => by
    have eq' : Ex H2 (upd H2 q (.lst vs)) := Ex.new hq
    have ep' : Ex (upd H2 q (.lst vs)) (upd (upd H2 q (.lst vs)) p (.lst (xs ++ vs))) := Ex.new hp
    have e12 := (e1.trans e2).trans eq'
    have e13 := e12.trans ep'
    refine k (xs ++ vs) p _ (fresh_back e12 hp) e13 upd_same (fun v hv => ?_) (by rw [List.length_append, hn])
    rcases List.mem_append.mp hv with hv | hv
    · exact hP _ _ _ e13 (hx v hv)
    · exact hP _ _ _ (eq'.trans ep') (ps v hv)⟩⟩
/-- xs[i], all of P -/
theorem g_ixAll {xs : List V} {l : Addr} {i : Int} {n : Nat} (hP : Up P) (ha : Ev ta σ H (.ref l)) (hl : H l = some (.lst xs)) (hx : ∀ v ∈ xs, P v H) (hb : Ev tb σ H (.int i)) (h0 : 0 ≤ i) (h1 : i < (n : Int)) (hn : xs.length = n) : EvG (tOp (nIxL K) ta tb) σ H P := fun H1 e Q q =>
  ha H1 e _ fun H2 e2 => hb H2 (e.trans e2) _ fun H3 e3 => by
    have hlt : i.toNat < xs.length := by omega
    exact ⟨l, xs, i, xs[i.toNat], rfl, rfl, sq_of (e3 _ _ (e2 _ _ (e _ _ hl))), atI_in h0 (List.getElem?_eq_getElem hlt), q _ H3 (e2.trans e3) (hP _ _ _ ((e.trans e2).trans e3) (hx _ (List.getElem_mem hlt)))⟩
/-- a tuple of at most four things -/
theorem g_tupC {n : Nat} (h : EvAll tr σ H Any n) (hn : n ≤ 4) : EvG (tTup tr) σ H Chg := fun H1 e Q q => h H1 e _ fun vs H2 e2 ps hl => ⟨line1 (by omega), fun p hp =>
  q _ _ (e2.trans (Ex.new hp)) (.inl ⟨vs, ⟨p, rfl, upd_same⟩, by omega, fun x hx => any_up _ _ _ (Ex.new hp) (ps x hx)⟩)⟩
theorem an_tx {w : List Nat} (h : w.length ≤ 1000) : EvG (tC (tx w)) σ H Any := g_ev any_up ev_c (.inl ⟨w, rfl, h⟩)
theorem an_int {i : Int} : EvG (tC (.int i)) σ H Any := g_ev any_up ev_c (.inr odd_int)
theorem an_bl {i : Bool} : EvG (tC (.bl i)) σ H Any := g_ev any_up ev_c (.inr (.inr (.inr (.inl ⟨i, rfl⟩))))
theorem an_non : EvG (tC .non) σ H Any := g_ev any_up ev_c (.inr (.inl rfl))
theorem an_lst {xs : List V} (h : EvL ta σ H xs) : EvG ta σ H Any := g_lst h fun a H2 e h => .inr (.inr (.inr (.inr ⟨a, rfl, .inl ⟨xs, h⟩⟩)))
theorem an_dict : EvG tDNewK σ H Any := g_dnew fun a H2 e h => .inr (.inr (.inr (.inr ⟨a, rfl, .inr (.inr ⟨_, h⟩)⟩)))
theorem an_var {v : V} {i : Nat} (h : σ[i]? = some (some v)) (hv : Any v H) : EvG (tVar i) σ H Any := g_ev any_up (ev_var h) hv
theorem ac {te : TE} {n : Nat} (h : EvG te σ H Any) (hr : EvAll tr σ H Any n) : EvAll (tCons te tr) σ H Any (n + 1) := all_cons any_up h hr
theorem cc {te : TE} {n : Nat} (h : EvG te σ H Chg) (hr : EvAll tr σ H Chg n) : EvAll (tCons te tr) σ H Chg (n + 1) := all_cons chg_up h hr
theorem R_law_change (h : sp_law_change K vs H Q E) : T_law_change K (fin Q) (slots n_law_change vs) H := by
  obtain ⟨m, w, c, rfl, hw, k⟩ := h
  show T_law_change K (fin Q) [some (.int m), some (tx w), some (.int c), none, none, none] H
  unfold T_law_change
  refine q_asg (e_sub (e_mod (e_div (ev_var rfl) ev_c (by decide)) (e_add (e_lenS (ev_var rfl) (by omega)) ev_c) (by omega)) ev_c) fun H1 e1 => ?_
  generalize c / 9 % ((w.length : Int) + 5) - 2 = i
  refine q_asgG (g_letter (ev_var rfl) (e_div (ev_var rfl) ev_c (by decide))) fun v H2 e2 hv => ?_
  have hv : Any v H2 := by
    obtain ⟨d, rfl, _⟩ := hv
    exact .inl ⟨[d], rfl, by simp⟩
  have e12 := e1.trans e2
  have oi : Any (.int i) H2 := .inr odd_int
  have rest : ∀ u H3, Ex H H3 → Any u H3 → (tSeq (tIfS (tTest (tOp nLt (tOp nMod (tVar 2) (tC (.int 9))) (tC (.int 7))))
 (tRet (tOp (nIxL K) (tLst (tCons (tTup (tCons (tC (tx [112, 117, 116])) (tCons (tVar 3) (tCons (tVar 4) tNil)))) (tCons (tTup (tCons (tC (tx [99, 117, 116])) (tCons (tVar 3) tNil))) (tCons (tTup (tCons (tC (tx [116, 117, 114, 110])) (tCons (tVar 3) (tCons (tVar 4) tNil)))) tNil)))) (tOp nMod (tOp nMod (tVar 2) (tC (.int 9))) (tC (.int 3))))) tNext)
 (tSeq (tAsg (tLst (tCons (tTup (tCons (tC (tx [112, 117, 116])) (tCons (tVar 3) tNil))) (tCons (tTup (tCons (tC (tx [99, 117, 116])) (tCons (tVar 3) (tCons (tC (tx [97])) tNil)))) (tCons (tTup (tCons (tC (tx [116, 117, 114, 110])) (tCons (tVar 3) tNil))) (tCons (tTup (tCons (tC (tx [80, 117, 116])) (tCons (tVar 3) (tCons (tC (tx [97])) tNil)))) (tCons (tLst (tCons (tC (tx [112, 117, 116])) (tCons (tC (.int 0)) (tCons (tC (tx [97])) tNil)))) tNil)))))) (gName 5))
 (tSeq (tAsg (tOp nLcat (tVar 5) (tLst (tCons (tTup (tCons (tC (tx [112, 117, 116])) (tCons (tC (.bl true)) (tCons (tC (tx [97])) tNil)))) (tCons (tTup (tCons (tC (tx [99, 117, 116])) (tCons (tC (.bl false)) tNil))) (tCons (tTup (tCons (tC (tx [99, 117, 116])) (tCons (tC .non) tNil))) (tCons (tTup (tCons (tC (tx [112, 117, 116])) (tCons (tC (tx [48])) (tCons (tC (tx [97])) tNil)))) (tCons (tTup tNil) (tCons (tTup (tCons (tC (tx [99, 117, 116])) tNil)) tNil)))))))) (gName 5))
 (tSeq (tAsg (tOp nLcat (tVar 5) (tLst (tCons (tC .non) (tCons (tC (.int 5)) (tCons (tC (tx [99, 117, 116])) (tCons (tTup (tCons (tLst (tCons (tC (tx [112, 117, 116])) tNil)) (tCons (tC (.int 0)) (tCons (tC (tx [97])) tNil)))) tNil)))))) (gName 5))
 (tSeq (tAsg (tOp nLcat (tVar 5) (tLst (tCons (tTup (tCons (tC (tx [112, 117, 116])) (tCons (tLst (tCons (tC (.int 0)) tNil)) (tCons (tC (tx [97])) tNil)))) (tCons (tTup (tCons tDNewK (tCons (tC (.int 0)) tNil))) (tCons (tTup (tCons (tC (tx [107, 101, 101, 112])) (tCons (tC (.int 0)) tNil))) (tCons (tTup (tCons (tC .non) (tCons (tC (.int 0)) tNil))) (tCons (tTup (tCons (tC (tx [112, 117, 116])) (tCons (tC (.int 0)) (tCons (tC (tx [97])) (tCons (tC (tx [98])) tNil))))) tNil))))))) (gName 5))
 (tRet (tOp (nIxL K) (tVar 5) (tOp nMod (tOp nDiv (tVar 2) (tC (.int 9))) (tC (.int 20))))))))))
      (fin Q) [some (.int m), some (tx w), some (.int c), some (.int i), some u, none] H3 := by
    intro u H3 e3 hu
    have s9 : 0 ≤ c % 9 := Int.emod_nonneg _ (by omega)
    refine q_when (et_test (e_lt (e_mod (ev_var rfl) ev_c (by decide)) ev_c)) (fun _ H4 e4 => ?_) (fun _ H4 e4 => ?_)
    · have hu4 := any_up _ _ _ e4 hu
      have hi4 : Any (.int i) H4 := .inr odd_int
      refine s_retG (g_pick (n := 3) chg_up (cc (g_tupC (ac (an_tx (by decide)) (ac (an_var rfl hi4) (ac (an_var rfl hu4) all_nil))) (by decide)) (cc (g_tupC (ac (an_tx (by decide)) (ac (an_var rfl hi4) all_nil)) (by decide)) (cc (g_tupC (ac (an_tx (by decide)) (ac (an_var rfl hi4) (ac (an_var rfl hu4) all_nil))) (by decide)) all_nil)))
        (e_mod (e_mod (ev_var rfl) ev_c (by decide)) ev_c (by decide)) (Int.emod_nonneg _ (by omega)) (Int.emod_lt_of_pos _ (by omega)) (by decide)) fun v H5 e5 hv => k _ _ ((e3.trans e4).trans e5) hv
    · have hi4 : ∀ {H5}, Any (.int i) H5 := .inr odd_int
      have ai : ∀ {H5 : Hp} {x5}, EvG (tVar 3) [some (.int m), some (tx w), some (.int c), some (.int i), some u, x5] H5 Any := an_var rfl (.inr odd_int)
      have at' : ∀ {H5 : Hp} {w : List Nat} {σ : L2.St}, w.length ≤ 4 → EvG (tC (tx w)) σ H5 Any := fun h => an_tx (by omega)
      have lc : ∀ {H5 : Hp} {σ : L2.St} {ta : TE} {xs : List V}, EvL ta σ H5 xs → EvG ta σ H5 Chg := fun h => g_lst h fun a H2 e h => .inr (.inr (.inr (.inr (.inr ⟨a, rfl, .inl ⟨_, h⟩⟩))))
      refine q_asgAll chg_up (cc (g_tupC (ac (at' (by decide)) (ac ai all_nil)) (by decide)) (cc (g_tupC (ac (at' (by decide)) (ac ai (ac (at' (by decide)) all_nil))) (by decide)) (cc (g_tupC (ac (at' (by decide)) (ac ai all_nil)) (by decide)) (cc (g_tupC (ac (at' (by decide)) (ac ai (ac (at' (by decide)) all_nil))) (by decide)) (cc (lc (el_lst (ea_cons ev_c (ea_cons ev_c (ea_cons ev_c ea_nil))) (by simp))) all_nil))))) (by decide) fun vs1 p1 H5 _ e5 h5 c5 l5 => ?_
      refine q_asgCat chg_up (ev_var rfl) h5 c5 (cc (g_tupC (ac (at' (by decide)) (ac an_bl (ac (at' (by decide)) all_nil))) (by decide)) (cc (g_tupC (ac (at' (by decide)) (ac an_bl all_nil)) (by decide)) (cc (g_tupC (ac (at' (by decide)) (ac an_non all_nil)) (by decide)) (cc (g_tupC (ac (at' (by decide)) (ac (at' (by decide)) (ac (at' (by decide)) all_nil))) (by decide)) (cc (g_tupC all_nil (by decide)) (cc (g_tupC (ac (at' (by decide)) all_nil) (by decide)) all_nil)))))) (by omega) fun vs2 p2 H6 _ e6 h6 c6 l6 => ?_
      refine q_asgCat chg_up (ev_var rfl) h6 c6 (cc (g_ev chg_up ev_c (.inr (.inr (.inl rfl)))) (cc (g_ev chg_up ev_c (.inr (.inr (.inr (.inl ⟨_, rfl⟩))))) (cc (g_ev chg_up ev_c (.inr (.inl ⟨_, rfl, by decide⟩))) (cc (g_tupC (ac (an_lst (el_lst (ea_cons ev_c ea_nil) (by simp))) (ac an_int (ac (at' (by decide)) all_nil))) (by decide)) all_nil)))) (by omega) fun vs3 p3 H7 _ e7 h7 c7 l7 => ?_
      refine q_asgCat chg_up (ev_var rfl) h7 c7 (cc (g_tupC (ac (at' (by decide)) (ac (an_lst (el_lst (ea_cons ev_c ea_nil) (by simp))) (ac (at' (by decide)) all_nil))) (by decide)) (cc (g_tupC (ac an_dict (ac an_int all_nil)) (by decide)) (cc (g_tupC (ac (at' (by decide)) (ac an_int all_nil)) (by decide)) (cc (g_tupC (ac an_non (ac an_int all_nil)) (by decide)) (cc (g_tupC (ac (at' (by decide)) (ac an_int (ac (at' (by decide)) (ac (at' (by decide)) all_nil)))) (by decide)) all_nil))))) (by omega) fun vs4 p4 H8 _ e8 h8 c8 l8 => ?_
      refine s_retG (g_ixAll (n := 20) chg_up (ev_var rfl) h8 c8 (e_mod (e_div (ev_var rfl) ev_c (by decide)) ev_c (by decide)) (Int.emod_nonneg _ (by omega)) (Int.emod_lt_of_pos _ (by omega)) (by omega)) fun v H9 e9 hv => k _ _ ((((((e3.trans e4).trans e5).trans e6).trans e7).trans e8).trans e9) hv
  have sg : ∀ {H3 : Hp} {σ : L2.St}, σ[2]? = some (some (.int c)) → EvG (tCall (sp_law_sign K) [] E0 (tCons (tOp nDiv (tVar 2) (tC (.int 72))) tNil)) σ H3 Any := fun hσ => (g_call (P := fun v _ => ∃ a, v = tx [a]) (ea_cons (e_div (ev_var hσ) ev_c (by decide)) ea_nil) fun H1 e Q q E => ⟨_, rfl, q⟩).imp fun v H2 e hv => by
    obtain ⟨a, rfl⟩ := hv
    exact .inl ⟨[a], rfl, by simp⟩
  refine q_when (et_test (e_eq (e_mod (ev_var rfl) ev_c (by decide)) ev_c .ii)) (fun _ H3 e3 => ?_) (fun _ H3 e3 => ?_)
  · refine s_asgG (g_pick (n := 8) any_up (ac (sg rfl) (ac (sg rfl) (ac (an_tx (by decide)) (ac (an_tx (by decide)) (ac (an_tx (by decide)) (ac an_int (ac an_non (ac (an_lst (el_lst (ea_cons ev_c ea_nil) (by simp))) all_nil))))))))
      (e_mod (e_div (ev_var rfl) ev_c (by decide)) ev_c (by decide)) (Int.emod_nonneg _ (by omega)) (Int.emod_lt_of_pos _ (by omega)) (by decide)) fun u H4 e4 hu => ?_
    exact rest u H4 ((e12.trans e3).trans e4) hu
  · exact rest v H3 (e12.trans e3) (any_up _ _ _ e3 hv)
theorem R_law_done (hx : PySem.W.exmOne K (.ref CC) (.ref CN) = some true) (hk : KindOf K CC CW CC CM CF false true false false) (h : sp_law_done K vs H Q E) : T_law_done K CW CC CM CF CN (fin Q) (slots n_law_done vs) H := by
  obtain ⟨w, v, rfl, hw, hc, kQ, kN⟩ := h
  show T_law_done K CW CC CM CF CN (fin Q) [some (tx w), some v, none] H
  unfold T_law_done
  refine ⟨_, rfl, _, rfl, w, v, rfl, hw, hc, kQ, fun hno H1 e1 => ⟨true, hx, fun _ a ha => ?_, fun hh => by cases hh⟩⟩
  refine s_when (b := true) (et_is (et_and (et_test (e_eqBls (xs := [false, true, false, false]) (ys := [false, true, false, false]) (el_kinds (ev_var rfl) hk) (el_lst (ea_cons ev_c (ea_cons ev_c (ea_cons ev_c (ea_cons ev_c ea_nil)))) (by simp)))) fun _ => et_B (e_isX (ev_var rfl) hk.exc hk.ch)) (by simp)) (fun _ H2 e2 => ?_) (fun hh => by cases hh)
  exact s_ret ev_c fun H3 e3 => kN hno _ ((e1.trans e2).trans e3)
theorem R_law2 (h : sp_law2 K vs H Q E) : T_law2 K (fin Q) (slots n_law2 vs) H := by
  obtain ⟨s, ns, rfl, hS, hn, k⟩ := h
  show T_law2 K (fin Q) [some (.ref s), none, none, none, none, none, none] H
  unfold T_law2
  refine q_asg (e_law_at (ev_var rfl) ev_c hS (by decide) hn) fun H1 e1 => ?_
  refine q_asgG (g_word (ev_var rfl) (e_law_at (ev_var rfl) ev_c (ex_l e1 hS) (by decide) hn) ev_c (by decide) (by decide)) fun v H2 e2 hv => ?_
  have e12 := e1.trans e2
  have rest : ∀ u H3, Ex H H3 → Word 60 u → (tSeq (tFor (iList K (tSl (nSlL K) (tVar 0) (tPart (tC (.int 3))) tNoPart)) (gName 3)
 (tSeq (tAsg (tCall (sp_law_change K) [] E0 (tCons (tVar 1) (tCons (tVar 2) (tCons (tVar 3) tNil)))) (gName 4))
 (tSeq (tAsg (tCall (sp_law_step K) [] E0 (tCons (tVar 2) (tCons (tVar 4) tNil))) (gName 5))
 (tSeq (tAsg (tCall (sp_law_done K) [] E0 (tCons (tVar 2) (tCons (tVar 4) tNil))) (gName 6))
 (tIfS (tOr (tAnd (tTest (tOp nIsN (tVar 5) (tC .non))) (tTest (tOp nNotN (tVar 6) (tC .non)))) (tAnd (tTest (tOp nNotN (tVar 5) (tC .non))) (tOr (tNot (tB (tCB (nIsi K) (tCons (tVar 6) (tCons (tC (.ty "str")) tNil))))) (tTest (tOp nNe (tVar 6) (tVar 5))))))
 (tRet (tC (.bl false))) tNext)))))
 (tRet (tC (.bl true)))) (fin Q) [some (.ref s), some (.int (cellAt ns 0)), some u, none, none, none, none] H3 := by
    intro u H3 e3 hu
    obtain ⟨w, rfl, _, hw⟩ := hu
    have ed : cutV (ns.map V.int) (some 3) none = (ns.drop 3).map V.int := by rw [cut_from (by decide), List.map_drop]; rfl
    have hld : (ns.drop 3).length ≤ 63 := by rw [List.length_drop]; omega
    refine q_forNLn (xs := (ns.drop 3).map V.int) (by rw [← ed]; exact el_slN (ev_var rfl) (eo_some ev_c) eo_none (ex_l e3 hS)) (fun b i σ H' => (∃ x3 x4 x5 x6, σ = [some (.ref s), some (.int (cellAt ns 0)), some (tx w), x3, x4, x5, x6]) ∧ H' b = some (.lst ((ns.drop 3).map V.int)))
      (fun b H4 hb0 e4 hb => ⟨⟨_, _, _, _, rfl⟩, hb⟩) (fun b i σ H' _ hp => sq_of hp.2) (fun b i x σ H' hi hp => ?_) (fun b σ H' hp => ?_)
    · obtain ⟨⟨x3, x4, x5, x6, rfl⟩, hb⟩ := hp
      obtain ⟨z, hz, rfl⟩ := ints_get hi
      refine q_asgG (g_call (P := Chg) (ea_cons (ev_var rfl) (ea_cons (ev_var rfl) (ea_cons (ev_var rfl) ea_nil))) fun H1 e Q q E => ⟨_, w, z, rfl, by omega, q⟩) fun v H4 e4 hv => ?_
      by_cases hg : ∃ w', GoodV w v H4 w'
      · obtain ⟨w', hg⟩ := hg
        have hs : ∀ {H5 : Hp}, Ex H4 H5 → ∀ w3, GoodV w v H5 w3 → w3 = w' := fun e w3 hg3 => goodV_inj (Ex.refl _) hg3 (goodV_up e hg)
        refine q_asg (v := tx w') (ev_call (ea_cons (ev_var rfl) (ea_cons (ev_var rfl) ea_nil)) fun H1 e Q q E => ⟨w, v, rfl, by omega, chg_up _ _ _ e hv, fun w3 hg3 => by rw [hs e w3 hg3]; exact fun H2 e2 => q H2 e2, fun hno => absurd ⟨w', goodV_up e hg⟩ hno⟩) fun H5 e5 => ?_
        refine q_asg (v := tx w') (ev_call (ea_cons (ev_var rfl) (ea_cons (ev_var rfl) ea_nil)) fun H1 e Q q E => ⟨w, v, rfl, by omega, chg_up _ _ _ (e5.trans e) hv, fun w3 hg3 => by rw [hs (e5.trans e) w3 hg3]; exact fun H2 e2 => q H2 e2, fun hno => absurd ⟨w', goodV_up (e5.trans e) hg⟩ hno⟩) fun H6 e6 => ?_
        refine s_when (b := false) (et_is (et_or (a := false) (b := false) (et_is (et_and (a := false) (b := false) (et_is (et_test (e_isN (ev_var rfl))) (decide_eq_false fun z => nomatch z)) fun hh => by cases hh) rfl) fun _ => et_is (et_and (a := true) (b := false) (et_is (et_test (e_notN (ev_var rfl))) (by rw [decide_eq_false fun z => nomatch z]; rfl)) fun _ => et_is (et_or (a := false) (b := false) (et_not (et_B (e_isStr (ev_var rfl)))) fun _ => et_is (et_test (e_ne (ev_var rfl) (ev_var rfl) .ss)) (by simp)) rfl) rfl) rfl) (fun hh => by cases hh) (fun _ H7 e7 => ?_)
        exact ⟨⟨_, _, _, _, rfl⟩, e7 _ _ (e6 _ _ (e5 _ _ (e4 _ _ hb)))⟩
      · have hs : ∀ {H5 : Hp}, Ex H4 H5 → ¬ ∃ w', GoodV w v H5 w' := fun e h => hg ((good_of e hv).mp h)
        refine q_asg (v := .non) (ev_call (ea_cons (ev_var rfl) (ea_cons (ev_var rfl) ea_nil)) fun H1 e Q q E => ⟨w, v, rfl, by omega, chg_up _ _ _ e hv, fun w3 hg3 => absurd ⟨w3, hg3⟩ (hs e), fun hno H2 e2 => q H2 e2⟩) fun H5 e5 => ?_
        refine q_asg (v := .non) (ev_call (ea_cons (ev_var rfl) (ea_cons (ev_var rfl) ea_nil)) fun H1 e Q q E => ⟨w, v, rfl, by omega, chg_up _ _ _ (e5.trans e) hv, fun w3 hg3 => absurd ⟨w3, hg3⟩ (hs (e5.trans e)), fun hno H2 e2 => q H2 e2⟩) fun H6 e6 => ?_
        refine s_when (b := false) (et_is (et_or (a := false) (b := false) (et_is (et_and (a := true) (b := false) (et_is (et_test (e_isN (ev_var rfl))) (decide_eq_true rfl)) fun _ => et_is (et_test (e_notN (ev_var rfl))) (by rw [decide_eq_true rfl]; rfl)) rfl) fun _ => et_is (et_and (a := false) (b := false) (et_is (et_test (e_notN (ev_var rfl))) (by rw [decide_eq_true rfl]; rfl)) fun hh => by cases hh) rfl) rfl) (fun hh => by cases hh) (fun _ H7 e7 => ?_)
        exact ⟨⟨_, _, _, _, rfl⟩, e7 _ _ (e6 _ _ (e5 _ _ (e4 _ _ hb)))⟩
    · exact s_ret ev_c fun H4 e4 => k _
  refine q_when (et_test (e_eq (e_mod (e_law_at (ev_var rfl) ev_c (ex_l e12 hS) (by decide) hn) ev_c (by decide)) ev_c .ii)) (fun _ H3 e3 => ?_) (fun _ H3 e3 => ?_)
  · have e13 := e12.trans e3
    refine s_asgG (g_word (ev_var rfl) (e_law_at (ev_var rfl) ev_c (ex_l e13 hS) (by decide) hn) ev_c (by decide) (by decide)) fun u H4 e4 hu => ?_
    exact rest u H4 (e13.trans e4) hu
  · obtain ⟨w, rfl, lo, hl⟩ := hv
    exact rest (tx w) H3 (e12.trans e3) ⟨w, rfl, lo, Nat.le_trans hl (by decide)⟩
end
end Nw
namespace Row2
open PySem PySem.Spec PyProof.Rows L2 Evl Nw
def topS (i : Nat) : Stmt := PySem.Challenge.pw_nearword_k02_a_change_done.main.body.getD i (.Pass ⟨0, 0, 0, 0⟩)
abbrev s_law_at : Stmt := topS 14
abbrev s_law_letter : Stmt := topS 16
abbrev s_law_sign : Stmt := topS 20
abbrev s_law_change : Stmt := topS 21
abbrev s_law_kinds : Stmt := topS 19
abbrev s_is_letter : Stmt := topS 8
abbrev s_is_whole : Stmt := topS 9
abbrev s_need_change : Stmt := topS 11
abbrev s_done : Stmt := topS 12
abbrev s_law_done : Stmt := topS 22
abbrev s_law_whole : Stmt := topS 15
abbrev s_law_step : Stmt := topS 18
abbrev s_law_word : Stmt := topS 17
abbrev s_law2 : Stmt := topS 23
theorem sc_law_at : FnScope ["_law_script", "_law_k"] ["_law_script", "_law_k"] (defScope s_law_at) := ⟨rfl, rfl, rfl, by decide +kernel, rfl, by decide +kernel, by decide +kernel⟩
theorem sc_law_letter : FnScope ["_law_mode", "_law_number", "_law_span", "_law_step_here"] ["_law_mode", "_law_number"] (defScope s_law_letter) := ⟨rfl, rfl, rfl, by decide +kernel, rfl, by decide +kernel, by decide +kernel⟩
theorem sc_law_sign : FnScope ["_law_cell", "_law_signs"] ["_law_cell"] (defScope s_law_sign) := ⟨rfl, rfl, rfl, by decide +kernel, rfl, by decide +kernel, by decide +kernel⟩
theorem sc_law_change : FnScope ["_law_mode", "_law_text", "_law_cell", "_law_place", "_law_letter_here", "_law_some"] ["_law_mode", "_law_text", "_law_cell"] (defScope s_law_change) := ⟨rfl, rfl, rfl, by decide +kernel, rfl, by decide +kernel, by decide +kernel⟩
theorem sc_law_kinds : FnScope ["_law_error", "_law_kinds_here"] ["_law_error"] (defScope s_law_kinds) := ⟨rfl, rfl, rfl, by decide +kernel, rfl, by decide +kernel, by decide +kernel⟩
theorem sc_is_letter : FnScope ["thing"] ["thing"] (defScope s_is_letter) := ⟨rfl, rfl, rfl, by decide +kernel, rfl, by decide +kernel, by decide +kernel⟩
theorem sc_is_whole : FnScope ["thing"] ["thing"] (defScope s_is_whole) := ⟨rfl, rfl, rfl, by decide +kernel, rfl, by decide +kernel, by decide +kernel⟩
theorem sc_need_change : FnScope ["text", "change", "beyond"] ["text", "change"] (defScope s_need_change) := ⟨rfl, rfl, rfl, by decide +kernel, rfl, by decide +kernel, by decide +kernel⟩
theorem sc_done : FnScope ["text", "change", "place"] ["text", "change"] (defScope s_done) := ⟨rfl, rfl, rfl, by decide +kernel, rfl, by decide +kernel, by decide +kernel⟩
theorem sc_law_done : FnScope ["_law_text", "_law_change_here", "_law_error"] ["_law_text", "_law_change_here"] (defScope s_law_done) := ⟨rfl, rfl, rfl, by decide +kernel, rfl, by decide +kernel, by decide +kernel⟩
theorem sc_law_whole : FnScope ["_law_thing"] ["_law_thing"] (defScope s_law_whole) := ⟨rfl, rfl, rfl, by decide +kernel, rfl, by decide +kernel, by decide +kernel⟩
theorem sc_law_step : FnScope ["_law_text", "_law_change_here", "_law_place", "_law_letter_here"] ["_law_text", "_law_change_here"] (defScope s_law_step) := ⟨rfl, rfl, rfl, by decide +kernel, rfl, by decide +kernel, by decide +kernel⟩
theorem sc_law_word : FnScope ["_law_mode", "_law_cell", "_law_most", "_law_size", "_law_found", "_law_k"] ["_law_mode", "_law_cell", "_law_most"] (defScope s_law_word) := ⟨rfl, rfl, rfl, by decide +kernel, rfl, by decide +kernel, by decide +kernel⟩
theorem sc_law2 : FnScope ["_law_script", "_law_mode", "_law_text", "_law_cell", "_law_change_here", "_law_due", "_law_found"] ["_law_script"] (defScope s_law2) := ⟨rfl, rfl, rfl, by decide +kernel, rfl, by decide +kernel, by decide +kernel⟩
structure Txt (K : PySem.W.Frag) (mg : Str → Option Value) (C_BadChange C_BadMost C_BadWord C_Full C_NearError : Addr) : Prop where
  ValueError : mg "ValueError" = none
  bool : mg "bool" = none
  int : mg "int" = none
  isinstance : mg "isinstance" = none
  len : mg "len" = none
  range : mg "range" = none
  str : mg "str" = none
  tuple : mg "tuple" = none
  c_LETTERS : ∃ t, mg "LETTERS" = some (.str ⟨abc.toArray⟩ t)
  g_BadChange : mg "BadChange" = some (.ref C_BadChange)
  g_BadMost : mg "BadMost" = some (.ref C_BadMost)
  g_BadWord : mg "BadWord" = some (.ref C_BadWord)
  g_Full : mg "Full" = some (.ref C_Full)
  g_NearError : mg "NearError" = some (.ref C_NearError)
  x_BadChange : PySem.W.excIn K C_BadChange [.type "ValueError", .type "Exception", .type "BaseException", .type "object"] "ValueError.__new__" = true
  k_BadChange : PySem.W.keepIn K (.ref C_BadChange) = true
  b_BadChange : PySem.W.subIn K (.ref C_BadChange) (.type "BaseException") = some true
  t_BadChange : PySem.W.typeIn K (.ref C_BadChange) = some (.type "type")
  e_BadChange_NearError : PySem.W.exmOne K (.ref C_BadChange) (.ref C_NearError) = some true
  q_BadChange : KindOf K C_BadChange C_BadWord C_BadChange C_BadMost C_Full false true false false
section
variable {P : Program} {w : World} {K : PySem.W.Frag} {mg : Str → Option Value} {base : Heap} {C_BadChange C_BadMost C_BadWord C_Full C_NearError : Addr}
theorem ok_law_at {f : Addr} {fd : FuncData} (F : Fun K "_law_at" "_law_at" s_law_at f fd) (T : Txt K mg C_BadChange C_BadMost C_BadWord C_Full C_NearError)  : FnOk P w K mg base CX0 1 f fd ["_law_script", "_law_k"] (sp_law_at K) := by
  refine F.ok sc_law_at (fun vs H Q E h => l_law_at h) (fun cdv A outer s H vs Q E hr h => ⟨T_law_at K, ?_, R_law_at h⟩)
  have hu := hu_of hr
  exact (pss_cons (ps_if (pt_cmpR o_lt (pv 1) (pe_callB c_lenL (by rfl) T.len PySem.boot_len (pa_cons (pv 0) pa_nil)) (nomark _))
     (pss_one (ps_ret (pe_ix x_list (pv 0) (pv 1) (fun _ _ => rfl)))) pss_nil)
     (pss_one (ps_ret pe_int)))
theorem ok_law_letter {f : Addr} {fd : FuncData} (F : Fun K "_law_letter" "_law_letter" s_law_letter f fd) (T : Txt K mg C_BadChange C_BadMost C_BadWord C_Full C_NearError)  : FnOk P w K mg base CX0 1 f fd ["_law_mode", "_law_number"] (sp_law_letter K) := by
  refine F.ok sc_law_letter (fun vs H Q E h => l_law_letter h) (fun cdv A outer s H vs Q E hr h => ⟨T_law_letter K, ?_, R_law_letter h⟩)
  have hu := hu_of hr
  exact (pss_cons (ps_set (i := 2) sc_law_letter.nd rfl (Or.inl rfl) (pe_ix x_list (pe_lst (pa_cons pe_int (pa_cons pe_int (pa_cons pe_int pa_nil)))) (pe_op o_mod (pv 0) pe_int) (fun _ _ => rfl)))
     (pss_cons (ps_set (i := 3) sc_law_letter.nd rfl (Or.inl rfl) (pe_ix x_list (pe_lst (pa_cons pe_int (pa_cons pe_int (pa_cons pe_int (pa_cons pe_int pa_nil))))) (pe_op o_mod (pe_op o_div (pv 0) pe_int) pe_int) (fun _ _ => rfl)))
     (pss_one (ps_ret (pe_ix x_str (pe_tx (w := abc) (by decide +kernel)) (pe_op o_mod (pe_op o_add (pe_op o_div (pv 0) pe_int) (pe_op o_mul (pe_op o_mod (pv 1) (pv 2)) (pv 3))) pe_int) (fun _ _ => rfl))))))
theorem ok_law_sign {f : Addr} {fd : FuncData} (F : Fun K "_law_sign" "_law_sign" s_law_sign f fd) (T : Txt K mg C_BadChange C_BadMost C_BadWord C_Full C_NearError)  : FnOk P w K mg base CX0 1 f fd ["_law_cell"] (sp_law_sign K) := by
  refine F.ok sc_law_sign (fun vs H Q E h => l_law_sign h) (fun cdv A outer s H vs Q E hr h => ⟨T_law_sign K, ?_, R_law_sign h⟩)
  have hu := hu_of hr
  exact (pss_cons (ps_set (i := 1) sc_law_sign.nd rfl (Or.inl rfl) (pe_tx (w := [32, 33, 34, 35, 36, 38, 39, 40, 41, 42, 43, 44, 45, 46, 47, 48, 49, 50, 51, 52, 53, 54, 55, 56, 57, 58, 59, 60, 61, 62, 63, 64, 65, 66, 67, 68, 69, 70, 71, 72, 73, 74, 75, 76, 77, 78, 79, 80, 81, 82, 83, 84, 85, 86, 87, 88, 89, 90, 91, 92, 93, 94, 95, 96, 123, 124, 125, 126, 10, 9]) (by decide +kernel)))
     (pss_one (ps_ret (pe_ix x_str (pv 1) (pe_op o_mod (pv 0) (pe_callB c_lenS (by rfl) T.len PySem.boot_len (pa_cons (pv 1) pa_nil))) (fun _ _ => rfl)))))
theorem ok_law_change {f : Addr} {fd : FuncData} (F : Fun K "_law_change" "_law_change" s_law_change f fd) (T : Txt K mg C_BadChange C_BadMost C_BadWord C_Full C_NearError) (c_law_letter : Cal P w K mg base CX0 1 "_law_letter" ["_law_mode", "_law_number"] (sp_law_letter K)) (c_law_sign : Cal P w K mg base CX0 1 "_law_sign" ["_law_cell"] (sp_law_sign K)) : FnOk P w K mg base CX0 2 f fd ["_law_mode", "_law_text", "_law_cell"] (sp_law_change K) := by
  obtain ⟨f_law_letter, fd_law_letter, G_law_letter, g_law_letter, kp_law_letter, b_law_letter⟩ := c_law_letter.ex
  obtain ⟨f_law_sign, fd_law_sign, G_law_sign, g_law_sign, kp_law_sign, b_law_sign⟩ := c_law_sign.ex
  refine F.ok sc_law_change (fun vs H Q E h => l_law_change h) (fun cdv A outer s H vs Q E hr h => ⟨T_law_change K, ?_, R_law_change h⟩)
  have hu := hu_of hr
  exact (pss_cons (ps_set (i := 3) sc_law_change.nd rfl (Or.inl rfl) (pe_op o_sub (pe_op o_mod (pe_op o_div (pv 2) pe_int) (pe_op o_add (pe_callB c_lenS (by rfl) T.len PySem.boot_len (pa_cons (pv 1) pa_nil)) pe_int)) pe_int))
     (pss_cons (ps_set (i := 4) sc_law_change.nd rfl (Or.inl rfl) (pe_call G_law_letter (hr.mono (by decide)) (by rfl) g_law_letter kp_law_letter b_law_letter .nil pass0 (pa_cons (pv 0) (pa_cons (pe_op o_div (pv 2) pe_int) pa_nil))))
     (pss_cons (ps_if (pt_cmpR o_eq (pe_op o_mod (pv 2) pe_int) pe_int (nomark _))
     (pss_one (ps_set (i := 4) sc_law_change.nd rfl (Or.inl rfl) (pe_ix x_list (pe_lst (pa_cons (pe_call G_law_sign (hr.mono (by decide)) (by rfl) g_law_sign kp_law_sign b_law_sign .nil pass0 (pa_cons (pe_op o_div (pv 2) pe_int) pa_nil)) (pa_cons (pe_call G_law_sign (hr.mono (by decide)) (by rfl) g_law_sign kp_law_sign b_law_sign .nil pass0 (pa_cons (pe_op o_div (pv 2) pe_int) pa_nil)) (pa_cons (pe_tx (w := []) (by decide +kernel)) (pa_cons (pe_tx (w := [97, 98]) (by decide +kernel)) (pa_cons (pe_tx (w := [97, 97]) (by decide +kernel)) (pa_cons pe_int (pa_cons pe_non (pa_cons (pe_lst (pa_cons (pe_tx (w := [97]) (by decide +kernel)) pa_nil)) pa_nil))))))))) (pe_op o_mod (pe_op o_div (pv 2) pe_int) pe_int) (fun _ _ => rfl)))) pss_nil)
     (pss_cons (ps_if (pt_cmpR o_lt (pe_op o_mod (pv 2) pe_int) pe_int (nomark _))
     (pss_one (ps_ret (pe_ix x_list (pe_lst (pa_cons (pe_tup (pa_cons (pe_tx (w := [112, 117, 116]) (by decide +kernel)) (pa_cons (pv 3) (pa_cons (pv 4) pa_nil)))) (pa_cons (pe_tup (pa_cons (pe_tx (w := [99, 117, 116]) (by decide +kernel)) (pa_cons (pv 3) pa_nil))) (pa_cons (pe_tup (pa_cons (pe_tx (w := [116, 117, 114, 110]) (by decide +kernel)) (pa_cons (pv 3) (pa_cons (pv 4) pa_nil)))) pa_nil)))) (pe_op o_mod (pe_op o_mod (pv 2) pe_int) pe_int) (fun _ _ => rfl)))) pss_nil)
     (pss_cons (ps_set (i := 5) sc_law_change.nd rfl (Or.inl rfl) (pe_lst (pa_cons (pe_tup (pa_cons (pe_tx (w := [112, 117, 116]) (by decide +kernel)) (pa_cons (pv 3) pa_nil))) (pa_cons (pe_tup (pa_cons (pe_tx (w := [99, 117, 116]) (by decide +kernel)) (pa_cons (pv 3) (pa_cons (pe_tx (w := [97]) (by decide +kernel)) pa_nil)))) (pa_cons (pe_tup (pa_cons (pe_tx (w := [116, 117, 114, 110]) (by decide +kernel)) (pa_cons (pv 3) pa_nil))) (pa_cons (pe_tup (pa_cons (pe_tx (w := [80, 117, 116]) (by decide +kernel)) (pa_cons (pv 3) (pa_cons (pe_tx (w := [97]) (by decide +kernel)) pa_nil)))) (pa_cons (pe_lst (pa_cons (pe_tx (w := [112, 117, 116]) (by decide +kernel)) (pa_cons pe_int (pa_cons (pe_tx (w := [97]) (by decide +kernel)) pa_nil)))) pa_nil)))))))
     (pss_cons (ps_set (i := 5) sc_law_change.nd rfl (Or.inl rfl) (pe_op o_lcat (pv 5) (pe_lst (pa_cons (pe_tup (pa_cons (pe_tx (w := [112, 117, 116]) (by decide +kernel)) (pa_cons pe_bl (pa_cons (pe_tx (w := [97]) (by decide +kernel)) pa_nil)))) (pa_cons (pe_tup (pa_cons (pe_tx (w := [99, 117, 116]) (by decide +kernel)) (pa_cons pe_bl pa_nil))) (pa_cons (pe_tup (pa_cons (pe_tx (w := [99, 117, 116]) (by decide +kernel)) (pa_cons pe_non pa_nil))) (pa_cons (pe_tup (pa_cons (pe_tx (w := [112, 117, 116]) (by decide +kernel)) (pa_cons (pe_tx (w := [48]) (by decide +kernel)) (pa_cons (pe_tx (w := [97]) (by decide +kernel)) pa_nil)))) (pa_cons (pe_tup pa_nil) (pa_cons (pe_tup (pa_cons (pe_tx (w := [99, 117, 116]) (by decide +kernel)) pa_nil)) pa_nil)))))))))
     (pss_cons (ps_set (i := 5) sc_law_change.nd rfl (Or.inl rfl) (pe_op o_lcat (pv 5) (pe_lst (pa_cons pe_non (pa_cons pe_int (pa_cons (pe_tx (w := [99, 117, 116]) (by decide +kernel)) (pa_cons (pe_tup (pa_cons (pe_lst (pa_cons (pe_tx (w := [112, 117, 116]) (by decide +kernel)) pa_nil)) (pa_cons pe_int (pa_cons (pe_tx (w := [97]) (by decide +kernel)) pa_nil)))) pa_nil)))))))
     (pss_cons (ps_set (i := 5) sc_law_change.nd rfl (Or.inl rfl) (pe_op o_lcat (pv 5) (pe_lst (pa_cons (pe_tup (pa_cons (pe_tx (w := [112, 117, 116]) (by decide +kernel)) (pa_cons (pe_lst (pa_cons pe_int pa_nil)) (pa_cons (pe_tx (w := [97]) (by decide +kernel)) pa_nil)))) (pa_cons (pe_tup (pa_cons pe_dnewK (pa_cons pe_int pa_nil))) (pa_cons (pe_tup (pa_cons (pe_tx (w := [107, 101, 101, 112]) (by decide +kernel)) (pa_cons pe_int pa_nil))) (pa_cons (pe_tup (pa_cons pe_non (pa_cons pe_int pa_nil))) (pa_cons (pe_tup (pa_cons (pe_tx (w := [112, 117, 116]) (by decide +kernel)) (pa_cons pe_int (pa_cons (pe_tx (w := [97]) (by decide +kernel)) (pa_cons (pe_tx (w := [98]) (by decide +kernel)) pa_nil))))) pa_nil))))))))
     (pss_one (ps_ret (pe_ix x_list (pv 5) (pe_op o_mod (pe_op o_div (pv 2) pe_int) pe_int) (fun _ _ => rfl))))))))))))
theorem ok_law_kinds {f : Addr} {fd : FuncData} (F : Fun K "_law_kinds" "_law_kinds" s_law_kinds f fd) (T : Txt K mg C_BadChange C_BadMost C_BadWord C_Full C_NearError) : FnE P w K mg base 1 f fd ["_law_error"] (sp_law_kinds K C_BadWord C_BadChange C_BadMost C_Full) := by
  refine fnE_mk F sc_law_kinds (fun a D vs H Q E h => l_law_kinds h) (fun cdv A outer s H vs Q E a oe D hz hf hr h => ⟨T_law_kinds K C_BadWord C_BadChange C_BadMost C_Full a D, ?_, R_law_kinds h⟩)
  exact (pss_cons (ps_if (pt_not (pt_val (pe_callB (call_isX List.mem_cons_self hz hf) (by rfl) T.isinstance (by decide +kernel) (pa_cons (pv 0) (pa_cons (pe_bltn (v := .ty "ValueError") (by rfl) T.ValueError (by decide +kernel) rfl) pa_nil)))))
     (pss_one (ps_ret (pe_lst pa_nil))) pss_nil)
     (pss_cons (ps_set (i := 1) sc_law_kinds.nd rfl (Or.inl rfl) (pe_lst (pa_cons (pe_callB (call_isX List.mem_cons_self hz hf) (by rfl) T.isinstance (by decide +kernel) (pa_cons (pv 0) (pa_cons (pe_glob rfl T.g_BadWord rfl) pa_nil))) (pa_cons (pe_callB (call_isX List.mem_cons_self hz hf) (by rfl) T.isinstance (by decide +kernel) (pa_cons (pv 0) (pa_cons (pe_glob rfl T.g_BadChange rfl) pa_nil))) pa_nil))))
     (pss_one (ps_ret (pe_op o_lcat (pv 1) (pe_lst (pa_cons (pe_callB (call_isX List.mem_cons_self hz hf) (by rfl) T.isinstance (by decide +kernel) (pa_cons (pv 0) (pa_cons (pe_glob rfl T.g_BadMost rfl) pa_nil))) (pa_cons (pe_callB (call_isX List.mem_cons_self hz hf) (by rfl) T.isinstance (by decide +kernel) (pa_cons (pv 0) (pa_cons (pe_glob rfl T.g_Full rfl) pa_nil))) pa_nil))))))))
theorem ok_is_letter {f : Addr} {fd : FuncData} (F : Fun K "is_letter" "is_letter" s_is_letter f fd) (T : Txt K mg C_BadChange C_BadMost C_BadWord C_Full C_NearError)  : FnOk P w K mg base CX0 1 f fd ["thing"] (sp_is_letter K) := by
  obtain ⟨tk_LETTERS, g_LETTERS⟩ := T.c_LETTERS
  refine F.ok sc_is_letter (fun vs H Q E h => l_is_letter h) (fun cdv A outer s H vs Q E hr h => ⟨T_is_letter K, ?_, R_is_letter h⟩)
  have hu := hu_of hr
  exact (pss_one (ps_ret (pe_and (pe_callB c_isi (by rfl) T.isinstance (by decide +kernel) (pa_cons (pv 0) (pa_cons (pe_bltn (v := .ty "str") (by rfl) T.str (by decide +kernel) rfl) pa_nil))) (pe_and (pe_cmpR o_eq (pe_callB c_lenS (by rfl) T.len PySem.boot_len (pa_cons (pv 0) pa_nil)) pe_int (nomark _)) (pe_one (pe_cmpR o_inS (pv 0) (pe_glob rfl g_LETTERS ⟨_, rfl⟩) (by rfl)))))))
theorem ok_is_whole {f : Addr} {fd : FuncData} (F : Fun K "is_whole" "is_whole" s_is_whole f fd) (T : Txt K mg C_BadChange C_BadMost C_BadWord C_Full C_NearError)  : FnOk P w K mg base CX0 1 f fd ["thing"] (sp_is_whole K) := by
  refine F.ok sc_is_whole (fun vs H Q E h => l_is_whole h) (fun cdv A outer s H vs Q E hr h => ⟨T_is_whole K, ?_, R_is_whole h⟩)
  have hu := hu_of hr
  exact (pss_one (ps_ret (pe_and (pe_callB c_isi (by rfl) T.isinstance (by decide +kernel) (pa_cons (pv 0) (pa_cons (pe_bltn (v := .ty "int") (by rfl) T.int (by decide +kernel) rfl) pa_nil))) (pe_one (pe_not (pe_callB c_isi (by rfl) T.isinstance (by decide +kernel) (pa_cons (pv 0) (pa_cons (pe_bltn (v := .ty "bool") (by rfl) T.bool (by decide +kernel) rfl) pa_nil))))))))
theorem ok_need_change {f : Addr} {fd : FuncData} (F : Fun K "need_change" "need_change" s_need_change f fd) (T : Txt K mg C_BadChange C_BadMost C_BadWord C_Full C_NearError) (c_is_letter : Cal P w K mg base CX0 1 "is_letter" ["thing"] (sp_is_letter K)) (c_is_whole : Cal P w K mg base CX0 1 "is_whole" ["thing"] (sp_is_whole K)) : FnOk P w K mg base (L2.CX P w) 2 f fd ["text", "change"] (sp_need_change K C_BadChange) := by
  obtain ⟨f_is_letter, fd_is_letter, G_is_letter, g_is_letter, kp_is_letter, b_is_letter⟩ := c_is_letter.ex
  obtain ⟨f_is_whole, fd_is_whole, G_is_whole, g_is_whole, kp_is_whole, b_is_whole⟩ := c_is_whole.ex
  refine F.okX sc_need_change (fun vs H Q E h => l_need_change h) (fun cdv A outer s H vs Q E hr h => ⟨T_need_change K C_BadChange E, ?_, R_need_change h⟩)
  have hu := hu_of hr
  exact (pss_cons (ps_if (PW.pt (pw_or (pt_not (pt_val (pe_callB c_isi (by rfl) T.isinstance (by decide +kernel) (pa_cons (pv 1) (pa_cons (pe_bltn (v := .ty "tuple") (by rfl) T.tuple (by decide +kernel) rfl) pa_nil))))) (pw_or (pt_cmpR o_lt (pe_callB c_lenL (by rfl) T.len PySem.boot_len (pa_cons (pv 1) pa_nil)) pe_int (nomark _)) (pw_or1 (pt_not (pt_val (pe_callB c_isi (by rfl) T.isinstance (by decide +kernel) (pa_cons (pe_ix x_tup (pv 1) pe_int (fun _ _ => rfl)) (pa_cons (pe_bltn (v := .ty "str") (by rfl) T.str (by decide +kernel) rfl) pa_nil)))))))))
     (pss_one (ps_raise rfl (takes_of rfl rfl rfl rfl) (pmk_own PySem.F.excBase_ValueError T.x_BadChange T.g_BadChange T.k_BadChange (raises_own T.b_BadChange T.t_BadChange) (by exact rfl)))) pss_nil)
     (pss_cons (ps_if (pt_cmpR o_ne (pe_callB c_lenL (by rfl) T.len PySem.boot_len (pa_cons (pv 1) pa_nil)) (pe_dget2 hu (pe_disp (pps_cons (pe_tx (w := [112, 117, 116]) (by decide +kernel)) pe_int (pps_cons (pe_tx (w := [99, 117, 116]) (by decide +kernel)) pe_int (pps_cons (pe_tx (w := [116, 117, 114, 110]) (by decide +kernel)) pe_int pps_nil))) (by rfl) (by rfl) (fun z => by cases z) (by decide)) (pe_ix x_tup (pv 1) pe_int (fun _ _ => rfl)) pe_int ⟨rfl, rfl, rfl, rfl⟩) (nomark _))
     (pss_one (ps_raise rfl (takes_of rfl rfl rfl rfl) (pmk_own PySem.F.excBase_ValueError T.x_BadChange T.g_BadChange T.k_BadChange (raises_own T.b_BadChange T.t_BadChange) (by exact rfl)))) pss_nil)
     (pss_cons (ps_set (i := 2) sc_need_change.nd rfl (Or.inl rfl) (pe_callB c_lenS (by rfl) T.len PySem.boot_len (pa_cons (pv 0) pa_nil)))
     (pss_cons (ps_if (pt_cmpR o_eq (pe_ix x_tup (pv 1) pe_int (fun _ _ => rfl)) (pe_tx (w := [112, 117, 116]) (by decide +kernel)) (nomark _))
     (pss_one (ps_aug (i := 2) sc_need_change.nd rfl (Or.inl rfl) pe_int ip_add)) pss_nil)
     (pss_cons (ps_if (PW.pt (pw_or (pt_not (pt_val (pe_call G_is_whole (hr.mono (by decide)) (by rfl) g_is_whole kp_is_whole b_is_whole .nil pass0 (pa_cons (pe_ix x_tup (pv 1) pe_int (fun _ _ => rfl)) pa_nil)))) (pw_or1 (pt_not (pt_chain o_le o_lt pe_int (pe_ix x_tup (pv 1) pe_int (fun _ _ => rfl)) (pv 2))))))
     (pss_one (ps_raise rfl (takes_of rfl rfl rfl rfl) (pmk_own PySem.F.excBase_ValueError T.x_BadChange T.g_BadChange T.k_BadChange (raises_own T.b_BadChange T.t_BadChange) (by exact rfl)))) pss_nil)
     (pss_cons (ps_if (PW.pt (pw_and (pt_cmpR o_ne (pe_ix x_tup (pv 1) pe_int (fun _ _ => rfl)) (pe_tx (w := [99, 117, 116]) (by decide +kernel)) (nomark _)) (pw_and1 (pt_not (pt_val (pe_call G_is_letter (hr.mono (by decide)) (by rfl) g_is_letter kp_is_letter b_is_letter .nil pass0 (pa_cons (pe_ix x_tup (pv 1) pe_int (fun _ _ => rfl)) pa_nil)))))))
     (pss_one (ps_raise rfl (takes_of rfl rfl rfl rfl) (pmk_own PySem.F.excBase_ValueError T.x_BadChange T.g_BadChange T.k_BadChange (raises_own T.b_BadChange T.t_BadChange) (by exact rfl)))) pss_nil)
     (pss_one (ps_if (PW.pt (pw_and (pt_cmpR o_eq (pe_ix x_tup (pv 1) pe_int (fun _ _ => rfl)) (pe_tx (w := [116, 117, 114, 110]) (by decide +kernel)) (nomark _)) (pw_and1 (pt_cmpR o_eq (pe_ix x_tup (pv 1) pe_int (fun _ _ => rfl)) (pe_ix x_str (pv 0) (pe_ix x_tup (pv 1) pe_int (fun _ _ => rfl)) (fun _ _ => rfl)) (nomark _)))))
     (pss_one (ps_raise rfl (takes_of rfl rfl rfl rfl) (pmk_own PySem.F.excBase_ValueError T.x_BadChange T.g_BadChange T.k_BadChange (raises_own T.b_BadChange T.t_BadChange) (by exact rfl)))) pss_nil))))))))
theorem ok_done {f : Addr} {fd : FuncData} (F : Fun K "done" "done" s_done f fd) (T : Txt K mg C_BadChange C_BadMost C_BadWord C_Full C_NearError) (c_need_change : Cal P w K mg base (L2.CX P w) 2 "need_change" ["text", "change"] (sp_need_change K C_BadChange)) : FnOk P w K mg base (L2.CX P w) 3 f fd ["text", "change"] (sp_done K C_BadChange) := by
  obtain ⟨f_need_change, fd_need_change, G_need_change, g_need_change, kp_need_change, b_need_change⟩ := c_need_change.ex
  refine F.okX sc_done (fun vs H Q E h => l_done h) (fun cdv A outer s H vs Q E hr h => ⟨T_done K C_BadChange E, ?_, R_done h⟩)
  have hu := hu_of hr
  exact (pss_cons (ps_expr (pe_call G_need_change (hr.mono (by decide)) (by rfl) g_need_change kp_need_change b_need_change .nil (passes_call (takes_of rfl rfl rfl rfl) (fun _ _ _ _ q => q)) (pa_cons (pv 0) (pa_cons (pv 1) pa_nil))))
     (pss_cons (ps_set (i := 2) sc_done.nd rfl (Or.inl rfl) (pe_ix x_tup (pv 1) pe_int (fun _ _ => rfl)))
     (pss_cons (ps_if (pt_cmpR o_eq (pe_ix x_tup (pv 1) pe_int (fun _ _ => rfl)) (pe_tx (w := [112, 117, 116]) (by decide +kernel)) (nomark _))
     (pss_one (ps_ret (pe_op o_cat (pe_op o_cat (pe_slice l_str (pv 0) po_none (po_some (pv 2))) (pe_ix x_tup (pv 1) pe_int (fun _ _ => rfl))) (pe_slice l_str (pv 0) (po_some (pv 2)) po_none)))) pss_nil)
     (pss_cons (ps_if (pt_cmpR o_eq (pe_ix x_tup (pv 1) pe_int (fun _ _ => rfl)) (pe_tx (w := [99, 117, 116]) (by decide +kernel)) (nomark _))
     (pss_one (ps_ret (pe_op o_cat (pe_slice l_str (pv 0) po_none (po_some (pv 2))) (pe_slice l_str (pv 0) (po_some (pe_op o_add (pv 2) pe_int)) po_none)))) pss_nil)
     (pss_one (ps_ret (pe_op o_cat (pe_op o_cat (pe_slice l_str (pv 0) po_none (po_some (pv 2))) (pe_ix x_tup (pv 1) pe_int (fun _ _ => rfl))) (pe_slice l_str (pv 0) (po_some (pe_op o_add (pv 2) pe_int)) po_none))))))))
theorem ok_law_done {f : Addr} {fd : FuncData} (F : Fun K "_law_done" "_law_done" s_law_done f fd) (T : Txt K mg C_BadChange C_BadMost C_BadWord C_Full C_NearError) (c_law_kinds : CalE P w K mg base 1 "_law_kinds" ["_law_error"] (sp_law_kinds K C_BadWord C_BadChange C_BadMost C_Full)) (c_done : Cal P w K mg base (L2.CX P w) 3 "done" ["text", "change"] (sp_done K C_BadChange)) : FnOk P w K mg base CX0 4 f fd ["_law_text", "_law_change_here"] (sp_law_done K) := by
  obtain ⟨f_law_kinds, fd_law_kinds, G_law_kinds, g_law_kinds, kp_law_kinds, b_law_kinds⟩ := c_law_kinds.ex
  obtain ⟨f_done, fd_done, G_done, g_done, kp_done, b_done⟩ := c_done.ex
  refine F.ok sc_law_done (fun vs H Q E h => l_law_done h) (fun cdv A outer s H vs Q E hr h => ⟨T_law_done K C_BadWord C_BadChange C_BadMost C_Full C_NearError, ?_, R_law_done T.e_BadChange_NearError T.q_BadChange h⟩)
  have hu := hu_of hr
  exact (pss_cons (ps_try_as (i := 2) (tb := fun W => (tRet (tCallS (sp_done K C_BadChange) (WE W) (tCons (tVar 0) (tCons (tVar 1) tNil))))) (ts := (fun a cls d => (tIfS (tAnd (tTest (tOp (nEqD K) (tCallX K (sp_law_kinds K C_BadWord C_BadChange C_BadMost C_Full) a cls d (tCons (tVar 2) tNil)) (tLst (tCons (tC (.bl false)) (tCons (tC (.bl true)) (tCons (tC (.bl false)) (tCons (tC (.bl false)) tNil))))))) (tB (tCB (nIsX K a cls d) (tCons (tVar 2) (tCons (tC (.ref C_BadChange)) tNil)))))
     (tRet (tC .non)) tNext))) (Wout := fun _ _ _ _ => False) rfl rfl sc_law_done.nd rfl rfl ⟨rfl, by decide, Or.inl T.g_NearError⟩ takes0 (fun W pn xe tk _ => (pss_one (ps_ret (pe_callS G_done (hr.mono (by decide)) (by rfl) g_done kp_done b_done (fun σ => passAt tk σ) (pa_cons (pv 0) (pa_cons (pv 1) pa_nil)))))) (fun a oe cls d pn hz hf => (pss_one (ps_if (PW.pt (pw_and (pt_cmpR (o_eqD hr.units) (pe_callX G_law_kinds (room_mark (hr.mono (by decide))) (by rfl) g_law_kinds kp_law_kinds b_law_kinds List.mem_cons_self hz hf (pa_cons (pv 2) pa_nil)) (pe_lst (pa_cons pe_bl (pa_cons pe_bl (pa_cons pe_bl (pa_cons pe_bl pa_nil))))) (nomark _)) (pw_and1 (pt_val (pe_callB (call_isX List.mem_cons_self hz hf) (by rfl) T.isinstance (by decide +kernel) (pa_cons (pv 2) (pa_cons (pe_glob rfl T.g_BadChange rfl) pa_nil)))))))
     (pss_one (ps_ret pe_non)) pss_nil))))
     (pss_one (ps_ret pe_int)))
theorem ok_law_whole {f : Addr} {fd : FuncData} (F : Fun K "_law_whole" "_law_whole" s_law_whole f fd) (T : Txt K mg C_BadChange C_BadMost C_BadWord C_Full C_NearError)  : FnOk P w K mg base CX0 1 f fd ["_law_thing"] (sp_law_whole K) := by
  refine F.ok sc_law_whole (fun vs H Q E h => l_law_whole h) (fun cdv A outer s H vs Q E hr h => ⟨T_law_whole K, ?_, R_law_whole h⟩)
  have hu := hu_of hr
  exact (pss_one (ps_ret (pe_and (pe_callB c_isi (by rfl) T.isinstance (by decide +kernel) (pa_cons (pv 0) (pa_cons (pe_bltn (v := .ty "int") (by rfl) T.int (by decide +kernel) rfl) pa_nil))) (pe_one (pe_not (pe_callB c_isi (by rfl) T.isinstance (by decide +kernel) (pa_cons (pv 0) (pa_cons (pe_bltn (v := .ty "bool") (by rfl) T.bool (by decide +kernel) rfl) pa_nil))))))))
theorem ok_law_step {f : Addr} {fd : FuncData} (F : Fun K "_law_step" "_law_step" s_law_step f fd) (T : Txt K mg C_BadChange C_BadMost C_BadWord C_Full C_NearError) (c_law_whole : Cal P w K mg base CX0 1 "_law_whole" ["_law_thing"] (sp_law_whole K)) : FnOk P w K mg base CX0 2 f fd ["_law_text", "_law_change_here"] (sp_law_step K) := by
  obtain ⟨f_law_whole, fd_law_whole, G_law_whole, g_law_whole, kp_law_whole, b_law_whole⟩ := c_law_whole.ex
  refine F.ok sc_law_step (fun vs H Q E h => l_law_step h) (fun cdv A outer s H vs Q E hr h => ⟨T_law_step K, ?_, R_law_step h⟩)
  have hu := hu_of hr
  exact (pss_cons (ps_if (PW.pt (pw_or (pt_not (pt_val (pe_callB c_isi (by rfl) T.isinstance (by decide +kernel) (pa_cons (pv 1) (pa_cons (pe_bltn (v := .ty "tuple") (by rfl) T.tuple (by decide +kernel) rfl) pa_nil))))) (pw_or (pt_cmpR o_lt (pe_callB c_lenL (by rfl) T.len PySem.boot_len (pa_cons (pv 1) pa_nil)) pe_int (nomark _)) (pw_or (pt_cmpR o_gt (pe_callB c_lenL (by rfl) T.len PySem.boot_len (pa_cons (pv 1) pa_nil)) pe_int (nomark _)) (pw_or1 (pt_not (pt_val (pe_call G_law_whole (hr.mono (by decide)) (by rfl) g_law_whole kp_law_whole b_law_whole .nil pass0 (pa_cons (pe_ix x_tup (pv 1) pe_int (fun _ _ => rfl)) pa_nil)))))))))
     (pss_one (ps_ret pe_non)) pss_nil)
     (pss_cons (ps_set (i := 2) sc_law_step.nd rfl (Or.inl rfl) (pe_ix x_tup (pv 1) pe_int (fun _ _ => rfl)))
     (pss_cons (ps_if (pt_cmpR o_eq (pe_callB c_lenL (by rfl) T.len PySem.boot_len (pa_cons (pv 1) pa_nil)) pe_int (nomark _))
     (pss_cons (ps_if (PW.pt (pw_or (pt_cmpR (o_neS hr.units) (pe_ix x_tup (pv 1) pe_int (fun _ _ => rfl)) (pe_tx (w := [99, 117, 116]) (by decide +kernel)) (nomark _)) (pw_or1 (pt_not (pt_chain o_le o_lt pe_int (pv 2) (pe_callB c_lenS (by rfl) T.len PySem.boot_len (pa_cons (pv 0) pa_nil)))))))
     (pss_one (ps_ret pe_non)) pss_nil)
     (pss_one (ps_ret (pe_op o_cat (pe_slice l_str (pv 0) po_none (po_some (pv 2))) (pe_slice l_str (pv 0) (po_some (pe_op o_add (pv 2) pe_int)) po_none))))) pss_nil)
     (pss_cons (ps_set (i := 3) sc_law_step.nd rfl (Or.inl rfl) (pe_ix x_tup (pv 1) pe_int (fun _ _ => rfl)))
     (pss_cons (ps_if (PW.pt (pw_or (pt_not (pt_val (pe_callB c_isi (by rfl) T.isinstance (by decide +kernel) (pa_cons (pv 3) (pa_cons (pe_bltn (v := .ty "str") (by rfl) T.str (by decide +kernel) rfl) pa_nil))))) (pw_or (pt_cmpR o_ne (pe_callB c_lenS (by rfl) T.len PySem.boot_len (pa_cons (pv 3) pa_nil)) pe_int (nomark _)) (pw_or1 (pt_cmpR o_notInS (pv 3) (pe_tx (w := abc) (by decide +kernel)) (by rfl))))))
     (pss_one (ps_ret pe_non)) pss_nil)
     (pss_cons (ps_if (PW.pt (pw_and (pt_cmpR (o_eqS hr.units) (pe_ix x_tup (pv 1) pe_int (fun _ _ => rfl)) (pe_tx (w := [112, 117, 116]) (by decide +kernel)) (nomark _)) (pw_and1 (pt_chain o_le o_le pe_int (pv 2) (pe_callB c_lenS (by rfl) T.len PySem.boot_len (pa_cons (pv 0) pa_nil))))))
     (pss_one (ps_ret (pe_op o_cat (pe_op o_cat (pe_slice l_str (pv 0) po_none (po_some (pv 2))) (pv 3)) (pe_slice l_str (pv 0) (po_some (pv 2)) po_none)))) pss_nil)
     (pss_cons (ps_if (PW.pt (pw_and (pt_cmpR (o_eqS hr.units) (pe_ix x_tup (pv 1) pe_int (fun _ _ => rfl)) (pe_tx (w := [116, 117, 114, 110]) (by decide +kernel)) (nomark _)) (pw_and (pt_chain o_le o_lt pe_int (pv 2) (pe_callB c_lenS (by rfl) T.len PySem.boot_len (pa_cons (pv 0) pa_nil))) (pw_and1 (pt_cmpR o_ne (pe_ix x_str (pv 0) (pv 2) (fun _ _ => rfl)) (pv 3) (nomark _))))))
     (pss_one (ps_ret (pe_op o_cat (pe_op o_cat (pe_slice l_str (pv 0) po_none (po_some (pv 2))) (pv 3)) (pe_slice l_str (pv 0) (po_some (pe_op o_add (pv 2) pe_int)) po_none)))) pss_nil)
     (pss_one (ps_ret pe_non)))))))))
theorem ok_law_word {f : Addr} {fd : FuncData} (F : Fun K "_law_word" "_law_word" s_law_word f fd) (T : Txt K mg C_BadChange C_BadMost C_BadWord C_Full C_NearError) (c_law_letter : Cal P w K mg base CX0 1 "_law_letter" ["_law_mode", "_law_number"] (sp_law_letter K)) : FnOk P w K mg base CX0 2 f fd ["_law_mode", "_law_cell", "_law_most"] (sp_law_word K) := by
  obtain ⟨f_law_letter, fd_law_letter, G_law_letter, g_law_letter, kp_law_letter, b_law_letter⟩ := c_law_letter.ex
  refine F.ok sc_law_word (fun vs H Q E h => l_law_word h) (fun cdv A outer s H vs Q E hr h => ⟨T_law_word K, ?_, R_law_word h⟩)
  have hu := hu_of hr
  exact (pss_cons (ps_set (i := 3) sc_law_word.nd rfl (Or.inl rfl) (pe_op o_mod (pv 1) (pe_op o_add (pv 2) pe_int)))
     (pss_cons (ps_set (i := 1) sc_law_word.nd rfl (Or.inl rfl) (pe_op o_div (pv 1) (pe_op o_add (pv 2) pe_int)))
     (pss_cons (ps_set (i := 4) sc_law_word.nd rfl (Or.inl rfl) (pe_tx (w := []) (by decide +kernel)))
     (pss_cons (ps_for PassesOwn.never rfl (pi_range1 (by rfl) T.range (pa_cons (pv 3) pa_nil)) (pg_name (i := 5) sc_law_word.nd rfl (Or.inl rfl))
     (pss_cons (ps_set (i := 4) sc_law_word.nd rfl (Or.inl rfl) (pe_op o_cat (pv 4) (pe_call G_law_letter (hr.mono (by decide)) (by rfl) g_law_letter kp_law_letter b_law_letter .nil pass0 (pa_cons (pv 0) (pa_cons (pe_op o_add (pv 1) (pe_op o_mul pe_int (pv 5))) pa_nil)))))
     (pss_one (ps_set (i := 1) sc_law_word.nd rfl (Or.inl rfl) (pe_op o_div (pv 1) pe_int)))))
     (pss_one (ps_ret (pv 4)))))))
theorem ok_law2 {f : Addr} {fd : FuncData} (F : Fun K "law" "law" s_law2 f fd) (T : Txt K mg C_BadChange C_BadMost C_BadWord C_Full C_NearError) (c_law_at : Cal P w K mg base CX0 1 "_law_at" ["_law_script", "_law_k"] (sp_law_at K)) (c_law_change : Cal P w K mg base CX0 2 "_law_change" ["_law_mode", "_law_text", "_law_cell"] (sp_law_change K)) (c_law_done : Cal P w K mg base CX0 4 "_law_done" ["_law_text", "_law_change_here"] (sp_law_done K)) (c_law_step : Cal P w K mg base CX0 2 "_law_step" ["_law_text", "_law_change_here"] (sp_law_step K)) (c_law_word : Cal P w K mg base CX0 2 "_law_word" ["_law_mode", "_law_cell", "_law_most"] (sp_law_word K)) : FnOk P w K mg base CX0 5 f fd ["_law_script"] (sp_law2 K) := by
  obtain ⟨f_law_at, fd_law_at, G_law_at, g_law_at, kp_law_at, b_law_at⟩ := c_law_at.ex
  obtain ⟨f_law_change, fd_law_change, G_law_change, g_law_change, kp_law_change, b_law_change⟩ := c_law_change.ex
  obtain ⟨f_law_done, fd_law_done, G_law_done, g_law_done, kp_law_done, b_law_done⟩ := c_law_done.ex
  obtain ⟨f_law_step, fd_law_step, G_law_step, g_law_step, kp_law_step, b_law_step⟩ := c_law_step.ex
  obtain ⟨f_law_word, fd_law_word, G_law_word, g_law_word, kp_law_word, b_law_word⟩ := c_law_word.ex
  refine F.ok sc_law2 (fun vs H Q E h => l_law2 h) (fun cdv A outer s H vs Q E hr h => ⟨T_law2 K, ?_, R_law2 h⟩)
  have hu := hu_of hr
  exact (pss_cons (ps_set (i := 1) sc_law2.nd rfl (Or.inl rfl) (pe_call G_law_at (hr.mono (by decide)) (by rfl) g_law_at kp_law_at b_law_at .nil pass0 (pa_cons (pv 0) (pa_cons pe_int pa_nil))))
     (pss_cons (ps_set (i := 2) sc_law2.nd rfl (Or.inl rfl) (pe_call G_law_word (hr.mono (by decide)) (by rfl) g_law_word kp_law_word b_law_word .nil pass0 (pa_cons (pv 1) (pa_cons (pe_call G_law_at (hr.mono (by decide)) (by rfl) g_law_at kp_law_at b_law_at .nil pass0 (pa_cons (pv 0) (pa_cons pe_int pa_nil))) (pa_cons pe_int pa_nil)))))
     (pss_cons (ps_if (pt_cmpR o_eq (pe_op o_mod (pe_call G_law_at (hr.mono (by decide)) (by rfl) g_law_at kp_law_at b_law_at .nil pass0 (pa_cons (pv 0) (pa_cons pe_int pa_nil))) pe_int) pe_int (nomark _))
     (pss_one (ps_set (i := 2) sc_law2.nd rfl (Or.inl rfl) (pe_call G_law_word (hr.mono (by decide)) (by rfl) g_law_word kp_law_word b_law_word .nil pass0 (pa_cons (pv 1) (pa_cons (pe_call G_law_at (hr.mono (by decide)) (by rfl) g_law_at kp_law_at b_law_at .nil pass0 (pa_cons (pv 0) (pa_cons pe_int pa_nil))) (pa_cons pe_int pa_nil)))))) pss_nil)
     (pss_cons (ps_for PassesOwn.never rfl (pi_list (pe_slice l_list (pv 0) (po_some pe_int) po_none)) (pg_name (i := 3) sc_law2.nd rfl (Or.inl rfl))
     (pss_cons (ps_set (i := 4) sc_law2.nd rfl (Or.inl rfl) (pe_call G_law_change (hr.mono (by decide)) (by rfl) g_law_change kp_law_change b_law_change .nil pass0 (pa_cons (pv 1) (pa_cons (pv 2) (pa_cons (pv 3) pa_nil)))))
     (pss_cons (ps_set (i := 5) sc_law2.nd rfl (Or.inl rfl) (pe_call G_law_step (hr.mono (by decide)) (by rfl) g_law_step kp_law_step b_law_step .nil pass0 (pa_cons (pv 2) (pa_cons (pv 4) pa_nil))))
     (pss_cons (ps_set (i := 6) sc_law2.nd rfl (Or.inl rfl) (pe_call G_law_done (hr.mono (by decide)) (by rfl) g_law_done kp_law_done b_law_done .nil pass0 (pa_cons (pv 2) (pa_cons (pv 4) pa_nil))))
     (pss_one (ps_if (PW.pt (pw_or (PW.pt (pw_and (pt_cmpR o_isN (pv 5) pe_non (nomark _)) (pw_and1 (pt_cmpR o_notN (pv 6) pe_non (nomark _))))) (pw_or1 (PW.pt (pw_and (pt_cmpR o_notN (pv 5) pe_non (nomark _)) (pw_and1 (PW.pt (pw_or (pt_not (pt_val (pe_callB c_isi (by rfl) T.isinstance (by decide +kernel) (pa_cons (pv 6) (pa_cons (pe_bltn (v := .ty "str") (by rfl) T.str (by decide +kernel) rfl) pa_nil))))) (pw_or1 (pt_cmpR o_ne (pv 6) (pv 5) (nomark _)))))))))))
     (pss_one (ps_ret pe_bl)) pss_nil))))))
     (pss_one (ps_ret pe_bl))))))
end
theorem all_mk {l : PySem.W.OpenLaw} {w : World} {K : PySem.W.Frag} {h : Heap} {mg : Str → Option Value} {fa : Addr} (X : K.In h) (G : h.Ns mainGlobals mg) (hfa : mg "law" = some (.ref fa))
    {f_law_at : Addr} {od_law_at an_law_at : Option Addr} {sl_law_at : Array (Option Value)} {oc_law_at kV_law_at dc_law_at pm_law_at cd_law_at ct_law_at : Value}
    {f_law_letter : Addr} {od_law_letter an_law_letter : Option Addr} {sl_law_letter : Array (Option Value)} {oc_law_letter kV_law_letter dc_law_letter pm_law_letter cd_law_letter ct_law_letter : Value}
    {f_law_sign : Addr} {od_law_sign an_law_sign : Option Addr} {sl_law_sign : Array (Option Value)} {oc_law_sign kV_law_sign dc_law_sign pm_law_sign cd_law_sign ct_law_sign : Value}
    {f_law_change : Addr} {od_law_change an_law_change : Option Addr} {sl_law_change : Array (Option Value)} {oc_law_change kV_law_change dc_law_change pm_law_change cd_law_change ct_law_change : Value}
    {f_law_kinds : Addr} {od_law_kinds an_law_kinds : Option Addr} {sl_law_kinds : Array (Option Value)} {oc_law_kinds kV_law_kinds dc_law_kinds pm_law_kinds cd_law_kinds ct_law_kinds : Value}
    {f_is_letter : Addr} {od_is_letter an_is_letter : Option Addr} {sl_is_letter : Array (Option Value)} {oc_is_letter kV_is_letter dc_is_letter pm_is_letter cd_is_letter ct_is_letter : Value}
    {f_is_whole : Addr} {od_is_whole an_is_whole : Option Addr} {sl_is_whole : Array (Option Value)} {oc_is_whole kV_is_whole dc_is_whole pm_is_whole cd_is_whole ct_is_whole : Value}
    {f_need_change : Addr} {od_need_change an_need_change : Option Addr} {sl_need_change : Array (Option Value)} {oc_need_change kV_need_change dc_need_change pm_need_change cd_need_change ct_need_change : Value}
    {f_done : Addr} {od_done an_done : Option Addr} {sl_done : Array (Option Value)} {oc_done kV_done dc_done pm_done cd_done ct_done : Value}
    {f_law_done : Addr} {od_law_done an_law_done : Option Addr} {sl_law_done : Array (Option Value)} {oc_law_done kV_law_done dc_law_done pm_law_done cd_law_done ct_law_done : Value}
    {f_law_whole : Addr} {od_law_whole an_law_whole : Option Addr} {sl_law_whole : Array (Option Value)} {oc_law_whole kV_law_whole dc_law_whole pm_law_whole cd_law_whole ct_law_whole : Value}
    {f_law_step : Addr} {od_law_step an_law_step : Option Addr} {sl_law_step : Array (Option Value)} {oc_law_step kV_law_step dc_law_step pm_law_step cd_law_step ct_law_step : Value}
    {f_law_word : Addr} {od_law_word an_law_word : Option Addr} {sl_law_word : Array (Option Value)} {oc_law_word kV_law_word dc_law_word pm_law_word cd_law_word ct_law_word : Value}
    {f_law2 : Addr} {od_law2 an_law2 : Option Addr} {sl_law2 : Array (Option Value)} {oc_law2 kV_law2 dc_law2 pm_law2 cd_law2 ct_law2 : Value}
    {t_LETTERS : Tok}
    {C_BadChange : Addr}
    {C_BadMost : Addr}
    {C_BadWord : Addr}
    {C_Full : Addr}
    {C_NearError : Addr}
    (a_law_at : PySem.W.nsIn K mainGlobals "_law_at" = some (some (.ref f_law_at))) (l_law_at : K.lookup f_law_at = some ⟨oc_law_at, od_law_at, .func (PySem.W.fnOf "_law_at" "_law_at" (defArgs s_law_at) (defBody s_law_at) (defScope s_law_at) .none kV_law_at dc_law_at pm_law_at an_law_at cd_law_at ct_law_at), sl_law_at⟩) (e_law_at : PySem.W.codeIn K cd_law_at "_law_at" = true) (k_law_at : PySem.W.keepIn K (.ref f_law_at) = true)
    (a_law_letter : PySem.W.nsIn K mainGlobals "_law_letter" = some (some (.ref f_law_letter))) (l_law_letter : K.lookup f_law_letter = some ⟨oc_law_letter, od_law_letter, .func (PySem.W.fnOf "_law_letter" "_law_letter" (defArgs s_law_letter) (defBody s_law_letter) (defScope s_law_letter) .none kV_law_letter dc_law_letter pm_law_letter an_law_letter cd_law_letter ct_law_letter), sl_law_letter⟩) (e_law_letter : PySem.W.codeIn K cd_law_letter "_law_letter" = true) (k_law_letter : PySem.W.keepIn K (.ref f_law_letter) = true)
    (a_law_sign : PySem.W.nsIn K mainGlobals "_law_sign" = some (some (.ref f_law_sign))) (l_law_sign : K.lookup f_law_sign = some ⟨oc_law_sign, od_law_sign, .func (PySem.W.fnOf "_law_sign" "_law_sign" (defArgs s_law_sign) (defBody s_law_sign) (defScope s_law_sign) .none kV_law_sign dc_law_sign pm_law_sign an_law_sign cd_law_sign ct_law_sign), sl_law_sign⟩) (e_law_sign : PySem.W.codeIn K cd_law_sign "_law_sign" = true) (k_law_sign : PySem.W.keepIn K (.ref f_law_sign) = true)
    (a_law_change : PySem.W.nsIn K mainGlobals "_law_change" = some (some (.ref f_law_change))) (l_law_change : K.lookup f_law_change = some ⟨oc_law_change, od_law_change, .func (PySem.W.fnOf "_law_change" "_law_change" (defArgs s_law_change) (defBody s_law_change) (defScope s_law_change) .none kV_law_change dc_law_change pm_law_change an_law_change cd_law_change ct_law_change), sl_law_change⟩) (e_law_change : PySem.W.codeIn K cd_law_change "_law_change" = true) (k_law_change : PySem.W.keepIn K (.ref f_law_change) = true)
    (a_law_kinds : PySem.W.nsIn K mainGlobals "_law_kinds" = some (some (.ref f_law_kinds))) (l_law_kinds : K.lookup f_law_kinds = some ⟨oc_law_kinds, od_law_kinds, .func (PySem.W.fnOf "_law_kinds" "_law_kinds" (defArgs s_law_kinds) (defBody s_law_kinds) (defScope s_law_kinds) .none kV_law_kinds dc_law_kinds pm_law_kinds an_law_kinds cd_law_kinds ct_law_kinds), sl_law_kinds⟩) (e_law_kinds : PySem.W.codeIn K cd_law_kinds "_law_kinds" = true) (k_law_kinds : PySem.W.keepIn K (.ref f_law_kinds) = true)
    (a_is_letter : PySem.W.nsIn K mainGlobals "is_letter" = some (some (.ref f_is_letter))) (l_is_letter : K.lookup f_is_letter = some ⟨oc_is_letter, od_is_letter, .func (PySem.W.fnOf "is_letter" "is_letter" (defArgs s_is_letter) (defBody s_is_letter) (defScope s_is_letter) .none kV_is_letter dc_is_letter pm_is_letter an_is_letter cd_is_letter ct_is_letter), sl_is_letter⟩) (e_is_letter : PySem.W.codeIn K cd_is_letter "is_letter" = true) (k_is_letter : PySem.W.keepIn K (.ref f_is_letter) = true)
    (a_is_whole : PySem.W.nsIn K mainGlobals "is_whole" = some (some (.ref f_is_whole))) (l_is_whole : K.lookup f_is_whole = some ⟨oc_is_whole, od_is_whole, .func (PySem.W.fnOf "is_whole" "is_whole" (defArgs s_is_whole) (defBody s_is_whole) (defScope s_is_whole) .none kV_is_whole dc_is_whole pm_is_whole an_is_whole cd_is_whole ct_is_whole), sl_is_whole⟩) (e_is_whole : PySem.W.codeIn K cd_is_whole "is_whole" = true) (k_is_whole : PySem.W.keepIn K (.ref f_is_whole) = true)
    (a_need_change : PySem.W.nsIn K mainGlobals "need_change" = some (some (.ref f_need_change))) (l_need_change : K.lookup f_need_change = some ⟨oc_need_change, od_need_change, .func (PySem.W.fnOf "need_change" "need_change" (defArgs s_need_change) (defBody s_need_change) (defScope s_need_change) .none kV_need_change dc_need_change pm_need_change an_need_change cd_need_change ct_need_change), sl_need_change⟩) (e_need_change : PySem.W.codeIn K cd_need_change "need_change" = true) (k_need_change : PySem.W.keepIn K (.ref f_need_change) = true)
    (a_done : PySem.W.nsIn K mainGlobals "done" = some (some (.ref f_done))) (l_done : K.lookup f_done = some ⟨oc_done, od_done, .func (PySem.W.fnOf "done" "done" (defArgs s_done) (defBody s_done) (defScope s_done) .none kV_done dc_done pm_done an_done cd_done ct_done), sl_done⟩) (e_done : PySem.W.codeIn K cd_done "done" = true) (k_done : PySem.W.keepIn K (.ref f_done) = true)
    (a_law_done : PySem.W.nsIn K mainGlobals "_law_done" = some (some (.ref f_law_done))) (l_law_done : K.lookup f_law_done = some ⟨oc_law_done, od_law_done, .func (PySem.W.fnOf "_law_done" "_law_done" (defArgs s_law_done) (defBody s_law_done) (defScope s_law_done) .none kV_law_done dc_law_done pm_law_done an_law_done cd_law_done ct_law_done), sl_law_done⟩) (e_law_done : PySem.W.codeIn K cd_law_done "_law_done" = true) (k_law_done : PySem.W.keepIn K (.ref f_law_done) = true)
    (a_law_whole : PySem.W.nsIn K mainGlobals "_law_whole" = some (some (.ref f_law_whole))) (l_law_whole : K.lookup f_law_whole = some ⟨oc_law_whole, od_law_whole, .func (PySem.W.fnOf "_law_whole" "_law_whole" (defArgs s_law_whole) (defBody s_law_whole) (defScope s_law_whole) .none kV_law_whole dc_law_whole pm_law_whole an_law_whole cd_law_whole ct_law_whole), sl_law_whole⟩) (e_law_whole : PySem.W.codeIn K cd_law_whole "_law_whole" = true) (k_law_whole : PySem.W.keepIn K (.ref f_law_whole) = true)
    (a_law_step : PySem.W.nsIn K mainGlobals "_law_step" = some (some (.ref f_law_step))) (l_law_step : K.lookup f_law_step = some ⟨oc_law_step, od_law_step, .func (PySem.W.fnOf "_law_step" "_law_step" (defArgs s_law_step) (defBody s_law_step) (defScope s_law_step) .none kV_law_step dc_law_step pm_law_step an_law_step cd_law_step ct_law_step), sl_law_step⟩) (e_law_step : PySem.W.codeIn K cd_law_step "_law_step" = true) (k_law_step : PySem.W.keepIn K (.ref f_law_step) = true)
    (a_law_word : PySem.W.nsIn K mainGlobals "_law_word" = some (some (.ref f_law_word))) (l_law_word : K.lookup f_law_word = some ⟨oc_law_word, od_law_word, .func (PySem.W.fnOf "_law_word" "_law_word" (defArgs s_law_word) (defBody s_law_word) (defScope s_law_word) .none kV_law_word dc_law_word pm_law_word an_law_word cd_law_word ct_law_word), sl_law_word⟩) (e_law_word : PySem.W.codeIn K cd_law_word "_law_word" = true) (k_law_word : PySem.W.keepIn K (.ref f_law_word) = true)
    (a_law2 : PySem.W.nsIn K mainGlobals "law" = some (some (.ref f_law2))) (l_law2 : K.lookup f_law2 = some ⟨oc_law2, od_law2, .func (PySem.W.fnOf "law" "law" (defArgs s_law2) (defBody s_law2) (defScope s_law2) .none kV_law2 dc_law2 pm_law2 an_law2 cd_law2 ct_law2), sl_law2⟩) (e_law2 : PySem.W.codeIn K cd_law2 "law" = true) (k_law2 : PySem.W.keepIn K (.ref f_law2) = true)
    (z_ValueError : PySem.W.nsIn K mainGlobals "ValueError" = some none)
    (z_bool : PySem.W.nsIn K mainGlobals "bool" = some none)
    (z_int : PySem.W.nsIn K mainGlobals "int" = some none)
    (z_isinstance : PySem.W.nsIn K mainGlobals "isinstance" = some none)
    (z_len : PySem.W.nsIn K mainGlobals "len" = some none)
    (z_range : PySem.W.nsIn K mainGlobals "range" = some none)
    (z_str : PySem.W.nsIn K mainGlobals "str" = some none)
    (z_tuple : PySem.W.nsIn K mainGlobals "tuple" = some none)
    (v_LETTERS : PySem.W.nsIn K mainGlobals "LETTERS" = some (some (.str "abcdefghijklmnopqrstuvwxyz" t_LETTERS)))
    (y_BadChange : PySem.W.nsIn K mainGlobals "BadChange" = some (some (.ref C_BadChange)))
    (y_BadMost : PySem.W.nsIn K mainGlobals "BadMost" = some (some (.ref C_BadMost)))
    (y_BadWord : PySem.W.nsIn K mainGlobals "BadWord" = some (some (.ref C_BadWord)))
    (y_Full : PySem.W.nsIn K mainGlobals "Full" = some (some (.ref C_Full)))
    (y_NearError : PySem.W.nsIn K mainGlobals "NearError" = some (some (.ref C_NearError)))
    (x_BadChange : PySem.W.excIn K C_BadChange [.type "ValueError", .type "Exception", .type "BaseException", .type "object"] "ValueError.__new__" = true) (k_BadChange : PySem.W.keepIn K (.ref C_BadChange) = true) (b_BadChange : PySem.W.subIn K (.ref C_BadChange) (.type "BaseException") = some true) (t_BadChange : PySem.W.typeIn K (.ref C_BadChange) = some (.type "type"))
    (f_NearError : PySem.W.subIn K (.ref C_NearError) (.type "BaseException") = some true) (h_NearError : PySem.W.isClsIn K C_NearError = true) (i_NearError : PySem.W.typeIn K (.ref C_NearError) = some (.type "type"))
    (j_BadChange_NearError : PySem.W.subIn K (.ref C_BadChange) (.ref C_NearError) = some true)
    (ga_BadChange : PySem.W.findIn K (.ref C_BadChange) "__getattribute__" = some (some (.builtin "BaseException.__getattribute__")))
    (gb_BadChange : PySem.W.findIn K (.ref C_BadChange) "__getattr__" = some none)
    (f_BadChange : PySem.W.subIn K (.ref C_BadChange) (.type "BaseException") = some true)
    (gd_BadChange : PySem.W.hasDictIn K C_BadChange = true)
    (ge_BadChange : PySem.W.findIn K (.ref C_BadChange) "__class__" = some (some (.builtin "object.__class__")))
    (gf : PySem.W.specialIn K (.builtin "object.__class__") "__get__" = some (some (.builtin "getset_descriptor.__get__")))
    (gg : PySem.W.takesIn K (.builtin "object.__class__") = some true)
    (gm_BadChange : PySem.W.mroIn K C_BadChange (.type "object") = some true)
    (d_BadChange_BadWord : (C_BadChange == C_BadWord) = false)
    (h_BadWord : PySem.W.isClsIn K C_BadWord = true)
    (i_BadWord : PySem.W.typeIn K (.ref C_BadWord) = some (.type "type"))
    (j_BadChange_BadWord : PySem.W.subIn K (.ref C_BadChange) (.ref C_BadWord) = some false)
    (d_BadChange_BadMost : (C_BadChange == C_BadMost) = false)
    (h_BadMost : PySem.W.isClsIn K C_BadMost = true)
    (i_BadMost : PySem.W.typeIn K (.ref C_BadMost) = some (.type "type"))
    (j_BadChange_BadMost : PySem.W.subIn K (.ref C_BadChange) (.ref C_BadMost) = some false)
    (d_BadChange_Full : (C_BadChange == C_Full) = false)
    (h_Full : PySem.W.isClsIn K C_Full = true)
    (i_Full : PySem.W.typeIn K (.ref C_Full) = some (.type "type"))
    (j_BadChange_Full : PySem.W.subIn K (.ref C_BadChange) (.ref C_Full) = some false)
    (gv_BadChange : PySem.W.subIn K (.ref C_BadChange) (.type "ValueError") = some true)
    : ∃ fd : FuncData, (∀ (s : Shared) (v : Value), BindsTo s fd ⟨[v], []⟩ [("_law_script", v)]) ∧ ∀ base : Heap, K.In base → base.Ns mainGlobals mg → FnOk l.prog w K mg base CX0 5 fa fd ["_law_script"] (sp_law2 K) := by
  have e := hfa.symm.trans (PySem.W.mg_of X G a_law2)
  cases e
  have T : Txt K mg C_BadChange C_BadMost C_BadWord C_Full C_NearError := ⟨PySem.W.mg_none_of X G z_ValueError, PySem.W.mg_none_of X G z_bool, PySem.W.mg_none_of X G z_int, PySem.W.mg_none_of X G z_isinstance, PySem.W.mg_none_of X G z_len, PySem.W.mg_none_of X G z_range, PySem.W.mg_none_of X G z_str, PySem.W.mg_none_of X G z_tuple, ⟨t_LETTERS, (PySem.W.mg_of X G v_LETTERS).trans (congrArg (fun z => some (Value.str z t_LETTERS)) (by decide +kernel))⟩, PySem.W.mg_of X G y_BadChange, PySem.W.mg_of X G y_BadMost, PySem.W.mg_of X G y_BadWord, PySem.W.mg_of X G y_Full, PySem.W.mg_of X G y_NearError, x_BadChange, k_BadChange, b_BadChange, t_BadChange, exm_by f_NearError h_NearError i_NearError j_BadChange_NearError, ⟨⟨ga_BadChange, gb_BadChange, f_BadChange, gd_BadChange, ge_BadChange, gf, gg, gm_BadChange⟩, kit_val gv_BadChange, kit_sub d_BadChange_BadWord h_BadWord i_BadWord j_BadChange_BadWord, kit_same, kit_sub d_BadChange_BadMost h_BadMost i_BadMost j_BadChange_BadMost, kit_sub d_BadChange_Full h_Full i_Full j_BadChange_Full⟩⟩
  have F_law_at := fun_mk (st := s_law_at) l_law_at e_law_at k_law_at
  have b_law_at := F_law_at.binds (ps := ["_law_script", "_law_k"]) fun _ _ _ _ _ _ us hl => match us, hl with | [_, _], _ => rfl
  have F_law_letter := fun_mk (st := s_law_letter) l_law_letter e_law_letter k_law_letter
  have b_law_letter := F_law_letter.binds (ps := ["_law_mode", "_law_number"]) fun _ _ _ _ _ _ us hl => match us, hl with | [_, _], _ => rfl
  have F_law_sign := fun_mk (st := s_law_sign) l_law_sign e_law_sign k_law_sign
  have b_law_sign := F_law_sign.binds (ps := ["_law_cell"]) fun _ _ _ _ _ _ us hl => match us, hl with | [_], _ => rfl
  have F_law_change := fun_mk (st := s_law_change) l_law_change e_law_change k_law_change
  have b_law_change := F_law_change.binds (ps := ["_law_mode", "_law_text", "_law_cell"]) fun _ _ _ _ _ _ us hl => match us, hl with | [_, _, _], _ => rfl
  have F_law_kinds := fun_mk (st := s_law_kinds) l_law_kinds e_law_kinds k_law_kinds
  have b_law_kinds := F_law_kinds.binds (ps := ["_law_error"]) fun _ _ _ _ _ _ us hl => match us, hl with | [_], _ => rfl
  have F_is_letter := fun_mk (st := s_is_letter) l_is_letter e_is_letter k_is_letter
  have b_is_letter := F_is_letter.binds (ps := ["thing"]) fun _ _ _ _ _ _ us hl => match us, hl with | [_], _ => rfl
  have F_is_whole := fun_mk (st := s_is_whole) l_is_whole e_is_whole k_is_whole
  have b_is_whole := F_is_whole.binds (ps := ["thing"]) fun _ _ _ _ _ _ us hl => match us, hl with | [_], _ => rfl
  have F_need_change := fun_mk (st := s_need_change) l_need_change e_need_change k_need_change
  have b_need_change := F_need_change.binds (ps := ["text", "change"]) fun _ _ _ _ _ _ us hl => match us, hl with | [_, _], _ => rfl
  have F_done := fun_mk (st := s_done) l_done e_done k_done
  have b_done := F_done.binds (ps := ["text", "change"]) fun _ _ _ _ _ _ us hl => match us, hl with | [_, _], _ => rfl
  have F_law_done := fun_mk (st := s_law_done) l_law_done e_law_done k_law_done
  have b_law_done := F_law_done.binds (ps := ["_law_text", "_law_change_here"]) fun _ _ _ _ _ _ us hl => match us, hl with | [_, _], _ => rfl
  have F_law_whole := fun_mk (st := s_law_whole) l_law_whole e_law_whole k_law_whole
  have b_law_whole := F_law_whole.binds (ps := ["_law_thing"]) fun _ _ _ _ _ _ us hl => match us, hl with | [_], _ => rfl
  have F_law_step := fun_mk (st := s_law_step) l_law_step e_law_step k_law_step
  have b_law_step := F_law_step.binds (ps := ["_law_text", "_law_change_here"]) fun _ _ _ _ _ _ us hl => match us, hl with | [_, _], _ => rfl
  have F_law_word := fun_mk (st := s_law_word) l_law_word e_law_word k_law_word
  have b_law_word := F_law_word.binds (ps := ["_law_mode", "_law_cell", "_law_most"]) fun _ _ _ _ _ _ us hl => match us, hl with | [_, _, _], _ => rfl
  have F_law2 := fun_mk (st := s_law2) l_law2 e_law2 k_law2
  have b_law2 := F_law2.binds (ps := ["_law_script"]) fun _ _ _ _ _ _ us hl => match us, hl with | [_], _ => rfl
  refine ⟨PySem.W.fnOf "law" "law" (defArgs s_law2) (defBody s_law2) (defScope s_law2) .none kV_law2 dc_law2 pm_law2 an_law2 cd_law2 ct_law2, fun s v => .of_eq rfl, fun base _ _ => ?_⟩
  have C_law_at : Cal l.prog w K mg base CX0 1 "_law_at" ["_law_script", "_law_k"] (sp_law_at K) := ⟨f_law_at, _, ok_law_at F_law_at T , PySem.W.mg_of X G a_law_at, k_law_at, b_law_at⟩
  have C_law_letter : Cal l.prog w K mg base CX0 1 "_law_letter" ["_law_mode", "_law_number"] (sp_law_letter K) := ⟨f_law_letter, _, ok_law_letter F_law_letter T , PySem.W.mg_of X G a_law_letter, k_law_letter, b_law_letter⟩
  have C_law_sign : Cal l.prog w K mg base CX0 1 "_law_sign" ["_law_cell"] (sp_law_sign K) := ⟨f_law_sign, _, ok_law_sign F_law_sign T , PySem.W.mg_of X G a_law_sign, k_law_sign, b_law_sign⟩
  have C_law_change : Cal l.prog w K mg base CX0 2 "_law_change" ["_law_mode", "_law_text", "_law_cell"] (sp_law_change K) := ⟨f_law_change, _, ok_law_change F_law_change T C_law_letter C_law_sign, PySem.W.mg_of X G a_law_change, k_law_change, b_law_change⟩
  have C_law_kinds : CalE l.prog w K mg base 1 "_law_kinds" ["_law_error"] (sp_law_kinds K C_BadWord C_BadChange C_BadMost C_Full) := ⟨f_law_kinds, _, ok_law_kinds F_law_kinds T, PySem.W.mg_of X G a_law_kinds, k_law_kinds, b_law_kinds⟩
  have C_is_letter : Cal l.prog w K mg base CX0 1 "is_letter" ["thing"] (sp_is_letter K) := ⟨f_is_letter, _, ok_is_letter F_is_letter T , PySem.W.mg_of X G a_is_letter, k_is_letter, b_is_letter⟩
  have C_is_whole : Cal l.prog w K mg base CX0 1 "is_whole" ["thing"] (sp_is_whole K) := ⟨f_is_whole, _, ok_is_whole F_is_whole T , PySem.W.mg_of X G a_is_whole, k_is_whole, b_is_whole⟩
  have C_need_change : Cal l.prog w K mg base (L2.CX l.prog w) 2 "need_change" ["text", "change"] (sp_need_change K C_BadChange) := ⟨f_need_change, _, ok_need_change F_need_change T C_is_letter C_is_whole, PySem.W.mg_of X G a_need_change, k_need_change, b_need_change⟩
  have C_done : Cal l.prog w K mg base (L2.CX l.prog w) 3 "done" ["text", "change"] (sp_done K C_BadChange) := ⟨f_done, _, ok_done F_done T C_need_change, PySem.W.mg_of X G a_done, k_done, b_done⟩
  have C_law_done : Cal l.prog w K mg base CX0 4 "_law_done" ["_law_text", "_law_change_here"] (sp_law_done K) := ⟨f_law_done, _, ok_law_done F_law_done T C_law_kinds C_done, PySem.W.mg_of X G a_law_done, k_law_done, b_law_done⟩
  have C_law_whole : Cal l.prog w K mg base CX0 1 "_law_whole" ["_law_thing"] (sp_law_whole K) := ⟨f_law_whole, _, ok_law_whole F_law_whole T , PySem.W.mg_of X G a_law_whole, k_law_whole, b_law_whole⟩
  have C_law_step : Cal l.prog w K mg base CX0 2 "_law_step" ["_law_text", "_law_change_here"] (sp_law_step K) := ⟨f_law_step, _, ok_law_step F_law_step T C_law_whole, PySem.W.mg_of X G a_law_step, k_law_step, b_law_step⟩
  have C_law_word : Cal l.prog w K mg base CX0 2 "_law_word" ["_law_mode", "_law_cell", "_law_most"] (sp_law_word K) := ⟨f_law_word, _, ok_law_word F_law_word T C_law_letter, PySem.W.mg_of X G a_law_word, k_law_word, b_law_word⟩
  exact ok_law2 F_law2 T C_law_at C_law_change C_law_done C_law_step C_law_word
end Row2
open PySem PySem.W PyProof.Rows
set_option maxHeartbeats 0 in
theorem PySem.Challenge.cw_nearword_k02_a_change_done_holds : PySem.Challenge.rw_nearword_k02_a_change_done.Holds := by
  w_on; o_law; k_head; (case hw => w_witness2)
  k_fill
  refine L2.walk_of (l := PySem.Challenge.rw_nearword_k02_a_change_done) (n := 63) (k := 5) (x := "_law_script") (CX := fun _ => L2.CX0) (sp := fun w => Nw.sp_law2 _) rfl (by decide) rfl ⟨rfl, by decide, by decide⟩ (fun w h Y => PySem.W.kIn_of Y) ?F (fun _ _ a ns hl _ hS => ⟨a, ns, rfl, hS, hl, fun _ => rfl⟩) (fun _ _ _ _ _ h => h)
  case F =>
    intro w mg fa h KX G hmg
    refine' Row2.all_mk KX G hmg ?a_law_at ?l_law_at ?e_law_at ?k_law_at ?a_law_letter ?l_law_letter ?e_law_letter ?k_law_letter ?a_law_sign ?l_law_sign ?e_law_sign ?k_law_sign ?a_law_change ?l_law_change ?e_law_change ?k_law_change ?a_law_kinds ?l_law_kinds ?e_law_kinds ?k_law_kinds ?a_is_letter ?l_is_letter ?e_is_letter ?k_is_letter ?a_is_whole ?l_is_whole ?e_is_whole ?k_is_whole ?a_need_change ?l_need_change ?e_need_change ?k_need_change ?a_done ?l_done ?e_done ?k_done ?a_law_done ?l_law_done ?e_law_done ?k_law_done ?a_law_whole ?l_law_whole ?e_law_whole ?k_law_whole ?a_law_step ?l_law_step ?e_law_step ?k_law_step ?a_law_word ?l_law_word ?e_law_word ?k_law_word ?a_law2 ?l_law2 ?e_law2 ?k_law2 ?z_ValueError ?z_bool ?z_int ?z_isinstance ?z_len ?z_range ?z_str ?z_tuple ?v_LETTERS ?y_BadChange ?y_BadMost ?y_BadWord ?y_Full ?y_NearError ?x_BadChange ?k_BadChange ?b_BadChange ?t_BadChange ?f_NearError ?h_NearError ?i_NearError ?j_BadChange_NearError ?ga_BadChange ?gb_BadChange ?f_BadChange ?gd_BadChange ?ge_BadChange ?gf ?gg ?gm_BadChange ?d_BadChange_BadWord ?h_BadWord ?i_BadWord ?j_BadChange_BadWord ?d_BadChange_BadMost ?h_BadMost ?i_BadMost ?j_BadChange_BadMost ?d_BadChange_Full ?h_Full ?i_Full ?j_BadChange_Full ?gv_BadChange
    (case a_law_at => k_is)
    (case l_law_at => k_is)
    (case e_law_at => k_is)
    (case k_law_at => k_is)
    (case a_law_letter => k_is)
    (case l_law_letter => k_is)
    (case e_law_letter => k_is)
    (case k_law_letter => k_is)
    (case a_law_sign => k_is)
    (case l_law_sign => k_is)
    (case e_law_sign => k_is)
    (case k_law_sign => k_is)
    (case a_law_change => k_is)
    (case l_law_change => k_is)
    (case e_law_change => k_is)
    (case k_law_change => k_is)
    (case a_law_kinds => k_is)
    (case l_law_kinds => k_is)
    (case e_law_kinds => k_is)
    (case k_law_kinds => k_is)
    (case a_is_letter => k_is)
    (case l_is_letter => k_is)
    (case e_is_letter => k_is)
    (case k_is_letter => k_is)
    (case a_is_whole => k_is)
    (case l_is_whole => k_is)
    (case e_is_whole => k_is)
    (case k_is_whole => k_is)
    (case a_need_change => k_is)
    (case l_need_change => k_is)
    (case e_need_change => k_is)
    (case k_need_change => k_is)
    (case a_done => k_is)
    (case l_done => k_is)
    (case e_done => k_is)
    (case k_done => k_is)
    (case a_law_done => k_is)
    (case l_law_done => k_is)
    (case e_law_done => k_is)
    (case k_law_done => k_is)
    (case a_law_whole => k_is)
    (case l_law_whole => k_is)
    (case e_law_whole => k_is)
    (case k_law_whole => k_is)
    (case a_law_step => k_is)
    (case l_law_step => k_is)
    (case e_law_step => k_is)
    (case k_law_step => k_is)
    (case a_law_word => k_is)
    (case l_law_word => k_is)
    (case e_law_word => k_is)
    (case k_law_word => k_is)
    (case a_law2 => k_is)
    (case l_law2 => k_is)
    (case e_law2 => k_is)
    (case k_law2 => k_is)
    (case z_ValueError => k_is)
    (case z_bool => k_is)
    (case z_int => k_is)
    (case z_isinstance => k_is)
    (case z_len => k_is)
    (case z_range => k_is)
    (case z_str => k_is)
    (case z_tuple => k_is)
    (case v_LETTERS => k_is)
    (case y_BadChange => k_is)
    (case y_BadMost => k_is)
    (case y_BadWord => k_is)
    (case y_Full => k_is)
    (case y_NearError => k_is)
    (case x_BadChange => first | k_exc | k_is)
    (case k_BadChange => k_is)
    (case b_BadChange => k_is)
    (case t_BadChange => k_is)
    (case f_NearError => k_is)
    (case h_NearError => k_is)
    (case i_NearError => k_is)
    (case j_BadChange_NearError => first | rfl | k_is)
    (case ga_BadChange => k_is)
    (case gb_BadChange => k_is)
    (case f_BadChange => k_is)
    (case gd_BadChange => k_is)
    (case ge_BadChange => k_is)
    (case gf => k_is)
    (case gg => k_is)
    (case gm_BadChange => k_is)
    (case d_BadChange_BadWord => first | rfl | k_is)
    (case h_BadWord => k_is)
    (case i_BadWord => k_is)
    (case j_BadChange_BadWord => first | rfl | k_is)
    (case d_BadChange_BadMost => first | rfl | k_is)
    (case h_BadMost => k_is)
    (case i_BadMost => k_is)
    (case j_BadChange_BadMost => first | rfl | k_is)
    (case d_BadChange_Full => first | rfl | k_is)
    (case h_Full => k_is)
    (case i_Full => k_is)
    (case j_BadChange_Full => first | rfl | k_is)
    (case gv_BadChange => k_is)

