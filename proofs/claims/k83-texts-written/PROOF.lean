import PyProof.Rows.All
import Wide.All
import OpenK.AllK
import Wide.FinOn
import PyProof.EqAt
import PyProof.EqKinds
import PyProof.TupleCall
import HandS.ForMost
import HandS.ForExc
import HandS.FStr
import HandS.IsInst
import HandS.ReplaceLit
import HandS.ReplaceList
import PyProof.P3Eq
import PyProof.StrLawsRepr
import PySem.Challenge.RW_farline_k83_texts_written
set_option Elab.async false
set_option linter.all false
set_option maxRecDepth 100000
set_option maxHeartbeats 4000000
/-! own layer: operations of any kind, steps backwards through readings, frames, data -/
namespace FL
open PySem PySem.Spec PyProof.Rows L2 CwR

/-! ### operations of any kind -/
def rAddS : R2 := fun x y H Q => ∃ i j, x = .str i ∧ y = .str j ∧ i.length + j.length ≤ sizeLine ∧ Q (.str (i ++ j)) H
def rAddI : R2 := rI0 fun i j => .int (i + j)
def rAddU (K : PySem.W.Frag) : R2 := fun x y H Q => rAddI x y H Q ∨ rAddS x y H Q ∨ rCat x y H Q ∨ rCatT K x y H Q
def rNegU : V → Hp → VK → Prop := rU fun i => .int (-i)
def rSubU : R2 := rI0 fun i j => .int (i - j)
def rMulU : R2 := rI CMul fun i j => .int (i * j)
def rModU : R2 := rI (fun _ j => 0 < j) fun i j => .int (i % j)
def rDivU : R2 := rI CDiv fun i j => .int (i / j)
def rPowU : R2 := rI CPow fun i j => .int (i ^ j.toNat)
def rLtU : R2 := rI0 fun i j => .bl (decide (i < j))
def rLeU : R2 := rI0 fun i j => .bl (decide (i ≤ j))
def rGtU : R2 := rI0 fun i j => .bl (decide (j < i))
def rGeU : R2 := rI0 fun i j => .bl (decide (j ≤ i))
def rIs : R2 := fun x y H Q => y = .non ∧ Q (.bl (decide (x = .non))) H
def rIsNot : R2 := fun x y H Q => y = .non ∧ Q (.bl (!decide (x = .non))) H
def rInS : R2 := fun x y H Q => ∃ (c : Nat) (z : Str), x = .str ⟨#[c]⟩ ∧ y = .str z ∧ Q (.bl (decide (c ∈ z.cps.toList))) H
def rNiS : R2 := fun x y H Q => ∃ (c : Nat) (z : Str), x = .str ⟨#[c]⟩ ∧ y = .str z ∧ Q (.bl (!decide (c ∈ z.cps.toList))) H
def rInT : R2 := fun x y H Q => ∃ i j, x = .str i ∧ y = .str j ∧ Q (.bl (!(Builtin.Str.occurrences j i 0 j.length 1).isEmpty)) H
def rNiT : R2 := fun x y H Q => ∃ i j, x = .str i ∧ y = .str j ∧ Q (.bl (!(!(Builtin.Str.occurrences j i 0 j.length 1).isEmpty))) H
def rInU (K : PySem.W.Frag) : R2 := fun x y H Q => rInS x y H Q ∨ rIn K false x y H Q ∨ rInT x y H Q
def rNiU (K : PySem.W.Frag) : R2 := fun x y H Q => rNiS x y H Q ∨ rIn K true x y H Q ∨ rNiT x y H Q
def rSlU (K : PySem.W.Frag) : V → Option Int → Option Int → Hp → VK → Prop := fun x lo hi H Q => rSlL K x lo hi H Q ∨ rSlT K x lo hi H Q ∨ rSlS x lo hi H Q
def rLenQ (K : PySem.W.Frag) : List V → Hp → VK → Prop := fun xs H Q => ∃ p ys, xs = [.ref p] ∧ (SqL K H p ys ∨ SqT K H p ys) ∧ Q (.int ys.length) H
def rLenS : List V → Hp → VK → Prop := fun xs H Q => ∃ z, xs = [.str z] ∧ z.length ≤ sizeLine ∧ Q (.int z.length) H
def rLenU (K : PySem.W.Frag) : List V → Hp → VK → Prop := fun xs H Q => rLenQ K xs H Q ∨ rLenS xs H Q
def rIntN : List V → Hp → VK → Prop := fun xs H Q => (∃ i, xs = [.int i] ∧ Q (.int i) H) ∨ ∃ k, xs = [.bl k] ∧ Q (.int (if k then 1 else 0)) H
def rIntS : List V → Hp → VK → Prop := fun xs H Q => ∃ a n, xs = [.str a] ∧ PySem.intText? a = some n ∧ a.length ≤ 640 ∧ Q (.int n) H
def rIntU : List V → Hp → VK → Prop := fun xs H Q => rIntN xs H Q ∨ rIntS xs H Q
def rStrU : List V → Hp → VK → Prop := fun xs H Q => ∃ i, xs = [.int i] ∧ i.natAbs.log2 < 1920 ∧ Q (.str (toString i)) H
def rListU (K : PySem.W.Frag) : List V → Hp → VK → Prop := fun xs H Q => ∃ p ys, xs = [.ref p] ∧ (SqL K H p ys ∨ SqT K H p ys) ∧ ∀ l, H l = none → Q (.ref l) (upd H l (.lst ys))
def rEqU (K : PySem.W.Frag) : R2 := fun x y H Q => rEq x y H Q ∨ rEqD K x y H Q
def rNeU (K : PySem.W.Frag) : R2 := fun x y H Q => rNe x y H Q ∨ rNeD K x y H Q
def rIsiU (K : PySem.W.Frag) : List V → Hp → VK → Prop := fun xs H Q => rIsi K xs H Q ∨ rIsiT K xs H Q
section
variable {X : Cx}
theorem u_eq (hu : X.A.units + 64 < cLine) : OpR X (compareOp .Eq) (rEqU X.K) := op_eq.or (op_eqD hu)
theorem u_ne (hu : X.A.units + 64 < cLine) : OpR X (compareOp .NotEq) (rNeU X.K) := op_ne.or (op_neD hu)
theorem u_add : OpR X (binaryOp .Add) (rAddU X.K) := op_add.or (op_add_str.or (op_cat.or op_catT))
theorem u_sub : OpR X (binaryOp .Sub) rSubU := op_sub
theorem u_mul : OpR X (binaryOp .Mult) rMulU := op_mul
theorem u_mod : OpR X (binaryOp .Mod) rModU := op_mod
theorem u_div : OpR X (binaryOp .FloorDiv) rDivU := op_fdiv
theorem u_pow : OpR X (binaryOp .Pow) rPowU := op_pow
theorem u_lt : OpR X (compareOp .Lt) rLtU := op_lt
theorem u_le : OpR X (compareOp .LtE) rLeU := op_le
theorem u_gt : OpR X (compareOp .Gt) rGtU := op_gt
theorem u_ge : OpR X (compareOp .GtE) rGeU := op_ge
theorem u_is : OpR X (compareOp .Is) rIs := op_isN
theorem u_isnot : OpR X (compareOp .IsNot) rIsNot := op_notN
theorem u_in : OpR X (compareOp .In) (rInU X.K) := op_in_sign.or (op_in_seq.or op_in_str)
theorem u_ni : OpR X (compareOp .NotIn) (rNiU X.K) := op_notIn_sign.or (op_notIn_seq.or op_notIn_str)
theorem u_sl : SlR X (rSlU X.K) := sl_list.or (sl_tup.or sl_str)
theorem u_len : CallR X (.builtin "len") (rLenU X.K) := call_len_seq.or call_len_str
theorem u_int : CallR X (.type "int") rIntU := call_int1.or call_int_str
theorem u_isi : CallR X (.builtin "isinstance") (rIsiU X.K) := call_isi.or call_isiT
theorem u_str : CallR X (.type "str") rStrU := call_str_int
theorem u_list : CallR X (.type "list") (rListU X.K) := call_list_of
end

/-! ### loops and comprehensions: what is asked behind the walked thing -/
def FrB (J : It) (g : TG) (t : TS) (D : Ends) (σ : L2.St) (H1 : Hp) : Prop := ∃ W : Nat → Nat → L2.St → Hp → Prop, (∃ m, W 0 m σ H1) ∧ ∀ i m σ H, W i m σ H →
  (J.stop i H ∧ D.nx σ H) ∨ (J.go i H ∧ ∃ N : L2.St → Hp → Prop, (∀ σ' H', N σ' H' → ∃ m', m' < m ∧ W (i + 1) m' σ' H') ∧ ∀ x H', J.yld i H x H' → g x σ H' fun σ2 H2 => t { D with nx := N, ct := N, bk := D.nx } σ2 H2)
def LcB (J : It) (g : TG) (tt : TT) (te : TE) (vs : List Nat) (σ : L2.St) (Q : VK) (H1 : Hp) : Prop := ∀ D, H1 D = none → ∃ W : Nat → Nat → Hp → Prop, (∃ m, W 0 m (upd H1 D (.lst []))) ∧ ∀ i m H, W i m H →
  (J.stop i H ∧ Q (.ref D) H) ∨ (J.go i H ∧ ∃ Nx : Hp → Prop, (∀ H', Nx H' → ∃ m', m' < m ∧ W (i + 1) m' H') ∧ ∀ x H', J.yld i H x H' → g x (wipe σ vs) H' fun σ2 H2 => wipe σ2 vs = wipe σ vs ∧ tt σ2 H2 fun b H3 =>
    if b = true then te σ2 H3 fun y H4 => ∃ acc, H4 D = some (.lst acc) ∧ acc.length < sizeLine ∧ Nx (upd H4 D (.lst (acc ++ [y]))) else Nx H3)
/-! ### steps backwards -/
section
variable {K : PySem.W.Frag} {σ : L2.St} {H : Hp} {Q : VK} {ta tb te : TE} {tt tu : TT} {t u : TS} {D : Ends} {r : R2} {v x y : V} {i j : Int} {a b : Str} {QB : Bool → Hp → Prop}
theorem w_seq (h : t { D with nx := u D } σ H) : tSeq t u D σ H := h
theorem w_set {n : Nat} (h : te σ H fun x H1 => D.nx (σ.set n (some x)) H1) : tAsg te (gName n) D σ H := h
theorem w_asg {g : TG} (h : te σ H fun x H1 => g x σ H1 D.nx) : tAsg te g D σ H := h
theorem w_ret (h : te σ H D.rt) : tRet te D σ H := h
theorem w_retN (h : D.rt .non H) : tRetN D σ H := h
theorem w_drop (h : te σ H fun _ H1 => D.nx σ H1) : tDrop te D σ H := h
theorem w_next (h : D.nx σ H) : tNext D σ H := h
theorem w_brk (h : D.bk σ H) : tBreak D σ H := h
theorem w_cont (h : D.ct σ H) : tCont D σ H := h
theorem w_if (h : tt σ H fun c H1 => if c = true then t D σ H1 else u D σ H1) : tIfS tt t u D σ H := h
theorem w_var {n : Nat} (e : σ[n]? = some (some v)) (h : Q v H) : tVar n σ H Q := ⟨v, e, h⟩
theorem w_c (h : Q v H) : tC v σ H Q := h
theorem w_op (h : ta σ H fun x H1 => tb σ H1 fun y H2 => r x y H2 Q) : tOp r ta tb σ H Q := h
theorem w_test (h : te σ H fun x H' => ∃ k, x = .bl k ∧ QB k H') : tTest te σ H QB := h
theorem w_tB (h : te σ H fun x H' => ∃ k, x = .bl k ∧ QB k H') : tB te σ H QB := h
theorem w_bl {k : Bool} {P : Bool → Prop} (h : P k) : ∃ k', V.bl k = V.bl k' ∧ P k' := ⟨k, rfl, h⟩
theorem w_and (h : tt σ H fun c H1 => if c = true then tu σ H1 QB else QB false H1) : tAnd tt tu σ H QB := h
theorem w_or (h : tt σ H fun c H1 => if c = true then QB true H1 else tu σ H1 QB) : tOr tt tu σ H QB := h
theorem w_not (h : tt σ H fun c H1 => QB (!c) H1) : tNot tt σ H QB := h
theorem w_ifE (h : tt σ H fun c H1 => if c = true then ta σ H1 Q else tb σ H1 Q) : tIf tt ta tb σ H Q := h
theorem w_nil {QA : List V → Hp → Prop} (h : QA [] H) : tNil σ H QA := h
theorem w_cons {QA : List V → Hp → Prop} {tr : TA} (h : ta σ H fun x H1 => tr σ H1 fun xs H2 => QA (x :: xs) H2) : tCons ta tr σ H QA := h
theorem w_tup {tr : TA} (h : tr σ H fun xs H1 => xs.length ≤ sizeLine ∧ ∀ p, H1 p = none → Q (.ref p) (upd H1 p (.tup xs))) : tTup tr σ H Q := h
theorem w_lst {tr : TA} (h : tr σ H fun xs H1 => xs.length ≤ sizeLine ∧ ∀ p, H1 p = none → Q (.ref p) (upd H1 p (.lst xs))) : tLst tr σ H Q := h
theorem w_cb {rc : List V → Hp → VK → Prop} {tr : TA} (h : tr σ H fun vs H1 => rc vs H1 Q) : tCB rc tr σ H Q := h
theorem w_call {sp : Sp} {E : XK} {tr : TA} (h : tr σ H fun vs H1 => sp vs H1 Q E) : tCall sp [] E tr σ H Q := by
  refine Eq.mp ?_ h
  show _ = tr σ H fun vs H1 => sp (vs ++ []) H1 Q E
  simp only [List.append_nil]
theorem w_andV (h : ta σ H fun x H1 => ∃ c, x = .bl c ∧ if c = true then tb σ H1 Q else Q (.bl false) H1) : tAndV ta tb σ H Q := h
theorem w_orV (h : ta σ H fun x H1 => ∃ c, x = .bl c ∧ if c = true then Q (.bl true) H1 else tb σ H1 Q) : tOrV ta tb σ H Q := h
theorem w_notV (h : ta σ H fun x H1 => ∃ c, x = .bl c ∧ Q (.bl (!c)) H1) : tNotV ta σ H Q := h
theorem w_sl {rs : V → Option Int → Option Int → Hp → VK → Prop} {tl th : TO} (h : te σ H fun x H1 => tl σ H1 fun l H2 => th σ H2 fun u H3 => rs x l u H3 Q) : tSl rs te tl th σ H Q := h
theorem w_noPart {QO : Option Int → Hp → Prop} (h : QO none H) : tNoPart σ H QO := h
theorem w_part {QO : Option Int → Hp → Prop} (h : te σ H fun x H1 => ∃ i, x = .int i ∧ QO (some i) H1) : tPart te σ H QO := h
theorem w_exI {i : Int} {P : Int → Prop} (h : P i) : ∃ i', V.int i = V.int i' ∧ P i' := ⟨i, rfl, h⟩
theorem w_exS {i : Str} {P : Str → Prop} (h : P i) : ∃ i', V.str i = V.str i' ∧ P i' := ⟨i, rfl, h⟩
/-! operations on known values -/
theorem w_addI (h : Q (.int (i + j)) H) : rAddU K (.int i) (.int j) H Q := .inl ⟨i, j, rfl, rfl, h⟩
theorem w_addS (h : Q (.str (a ++ b)) H) (hz : a.length + b.length ≤ sizeLine) : rAddU K (.str a) (.str b) H Q := .inr (.inl ⟨a, b, rfl, rfl, hz, h⟩)
theorem w_subI (h : Q (.int (i - j)) H) : rSubU (.int i) (.int j) H Q := ⟨i, j, rfl, rfl, h⟩
theorem w_mulI (h : Q (.int (i * j)) H) (hc : CMul i j) : rMulU (.int i) (.int j) H Q := ⟨i, j, rfl, rfl, hc, h⟩
theorem w_modI (h : Q (.int (i % j)) H) (hc : 0 < j) : rModU (.int i) (.int j) H Q := ⟨i, j, rfl, rfl, hc, h⟩
theorem w_divI (h : Q (.int (i / j)) H) (hc : CDiv i j) : rDivU (.int i) (.int j) H Q := ⟨i, j, rfl, rfl, hc, h⟩
theorem w_powI (h : Q (.int (i ^ j.toNat)) H) (hc : CPow i j) : rPowU (.int i) (.int j) H Q := ⟨i, j, rfl, rfl, hc, h⟩
theorem w_ltI (h : Q (.bl (decide (i < j))) H) : rLtU (.int i) (.int j) H Q := ⟨i, j, rfl, rfl, h⟩
theorem w_leI (h : Q (.bl (decide (i ≤ j))) H) : rLeU (.int i) (.int j) H Q := ⟨i, j, rfl, rfl, h⟩
theorem w_gtI (h : Q (.bl (decide (j < i))) H) : rGtU (.int i) (.int j) H Q := ⟨i, j, rfl, rfl, h⟩
theorem w_geI (h : Q (.bl (decide (j ≤ i))) H) : rGeU (.int i) (.int j) H Q := ⟨i, j, rfl, rfl, h⟩
theorem w_eqI (h : Q (.bl (decide (i = j))) H) : rEqU K (.int i) (.int j) H Q := .inl ⟨rfl, by rw [dec_int, Bool.beq_eq_decide_eq]; exact h⟩
theorem w_neI (h : Q (.bl (!decide (i = j))) H) : rNeU K (.int i) (.int j) H Q := .inl ⟨rfl, by rw [dec_int, Bool.beq_eq_decide_eq]; exact h⟩
theorem w_eqS (h : Q (.bl (decide (a = b))) H) : rEqU K (.str a) (.str b) H Q := .inl ⟨rfl, by rw [dec_str, Bool.beq_eq_decide_eq]; exact h⟩
theorem w_neS (h : Q (.bl (!decide (a = b))) H) : rNeU K (.str a) (.str b) H Q := .inl ⟨rfl, by rw [dec_str, Bool.beq_eq_decide_eq]; exact h⟩
theorem w_eqB {c d : Bool} (h : Q (.bl (decide (c = d))) H) : rEqU K (.bl c) (.bl d) H Q := .inl ⟨rfl, by rw [dec_bl, Bool.beq_eq_decide_eq]; exact h⟩
theorem w_neB {c d : Bool} (h : Q (.bl (!decide (c = d))) H) : rNeU K (.bl c) (.bl d) H Q := .inl ⟨rfl, by rw [dec_bl, Bool.beq_eq_decide_eq]; exact h⟩
theorem w_eqD {d e : PyData} (h : Q (.bl (PyData.eqv d e)) H) (hx : Dp K H x d) (hy : Dp K H y e) (sd : SeqAt.shaped d = true) (se : SeqAt.shaped e = true) : rEqU K x y H Q := .inr ⟨d, e, hx, hy, sd, se, h⟩
theorem w_neD {d e : PyData} (h : Q (.bl (!PyData.eqv d e)) H) (hx : Dp K H x d) (hy : Dp K H y e) (sd : SeqAt.shaped d = true) (se : SeqAt.shaped e = true) : rNeU K x y H Q := .inr ⟨d, e, hx, hy, sd, se, h⟩
theorem w_is (h : Q (.bl (decide (x = .non))) H) : rIs x .non H Q := ⟨rfl, h⟩
theorem w_isNot (h : Q (.bl (!decide (x = .non))) H) : rIsNot x .non H Q := ⟨rfl, h⟩
theorem w_inC {c : Nat} (h : Q (.bl (decide (c ∈ a.cps.toList))) H) : rInU K (.str ⟨#[c]⟩) (.str a) H Q := .inl ⟨c, a, rfl, rfl, h⟩
theorem w_niC {c : Nat} (h : Q (.bl (!decide (c ∈ a.cps.toList))) H) : rNiU K (.str ⟨#[c]⟩) (.str a) H Q := .inl ⟨c, a, rfl, rfl, h⟩
theorem w_lenS (h : Q (.int a.length) H) (hz : a.length ≤ sizeLine) : rLenU K [.str a] H Q := .inr ⟨a, rfl, hz, h⟩
theorem w_intI (h : Q (.int i) H) : rIntU [.int i] H Q := .inl (.inl ⟨i, rfl, h⟩)
theorem w_intB {c : Bool} (h : Q (.int (if c then 1 else 0)) H) : rIntU [.bl c] H Q := .inl (.inr ⟨c, rfl, h⟩)
theorem w_strI (h : Q (.str (toString i)) H) (hz : i.natAbs.log2 < 1920) : rStrU [.int i] H Q := ⟨i, rfl, hz, h⟩
theorem w_slS {lo hi : Option Int} (h : Q (.str (cutS a lo hi)) H) (hz : a.length ≤ sizeLine) : rSlU K (.str a) lo hi H Q := .inr (.inr ⟨a, rfl, hz, h⟩)
theorem w_ixL {p : Addr} {xs : List V} (h : Q v H) (hs : SqL K H p xs) (hx : atI xs i = some v) : rIx K (.ref p) (.int i) H Q := .inl ⟨p, xs, i, v, rfl, rfl, hs, hx, h⟩
theorem w_ixT {p : Addr} {xs : List V} (h : Q v H) (hs : SqT K H p xs) (hx : atI xs i = some v) : rIx K (.ref p) (.int i) H Q := .inr (.inl ⟨p, xs, i, v, rfl, rfl, hs, hx, h⟩)
theorem w_ixS {c : Nat} (h : Q (.str ⟨#[c]⟩) H) (hz : a.length ≤ sizeLine) (hx : atI a.cps.toList i = some c) : rIx K (.str a) (.int i) H Q := .inr (.inr ⟨a, i, c, rfl, rfl, hz, hx, h⟩)
theorem w_lenL {p : Addr} {xs : List V} (h : Q (.int xs.length) H) (hs : SqL K H p xs) : rLenU K [.ref p] H Q := .inl ⟨p, xs, rfl, .inl hs, h⟩
theorem w_lenT {p : Addr} {xs : List V} (h : Q (.int xs.length) H) (hs : SqT K H p xs) : rLenU K [.ref p] H Q := .inl ⟨p, xs, rfl, .inr hs, h⟩
theorem w_decTS {a b : Str} {A B : Prop} (h : a = b) (k : A) : if decide (a = b) = true then A else B := by
  rw [decide_eq_true h, if_pos rfl]; exact k
theorem w_decFS {a b : Str} {A B : Prop} (h : ¬ a = b) (k : B) : if decide (a = b) = true then A else B := by
  rw [decide_eq_false h, if_neg Bool.false_ne_true]; exact k
theorem w_ndecTS {a b : Str} {A B : Prop} (h : a = b) (k : B) : if (!decide (a = b)) = true then A else B := by
  rw [decide_eq_true h]; exact k
theorem w_ndecFS {a b : Str} {A B : Prop} (h : ¬ a = b) (k : A) : if (!decide (a = b)) = true then A else B := by
  rw [decide_eq_false h]; exact k
theorem w_sz {a : Str} {P : Prop} (h : a.length ≤ 1000000) (k : P) : a.length ≤ sizeLine ∧ P := ⟨Nat.le_trans h (by decide), k⟩
theorem w_addS' (h : Q (.str (a ++ b)) H) (hz : a.length + b.length ≤ 1000000) : rAddU K (.str a) (.str b) H Q := w_addS h (Nat.le_trans hz (by decide))
theorem w_strI' {n : Nat} (h : Q (.str (toString (n : Int))) H) (hz : n < 1000000) : rStrU [.int (n : Int)] H Q := w_strI h (by
  rw [Int.natAbs_natCast]
  by_cases z : n = 0
  · subst z; decide
  · exact (Nat.log2_lt z).mpr (Nat.lt_of_lt_of_le hz (Nat.le_trans (by decide : 1000000 ≤ 2 ^ 20) (Nat.pow_le_pow_right (by decide) (by decide)))))
theorem w_fmtN {A : Prop} {n : Nat} {B : Prop} (hz : n < 1000000) (h : B) : ((n : Int).natAbs.log2 < 1920 ∧ B) := ⟨by
  rw [Int.natAbs_natCast]
  by_cases z : n = 0
  · subst z; decide
  · exact (Nat.log2_lt z).mpr (Nat.lt_of_lt_of_le hz (Nat.le_trans (by decide : 1000000 ≤ 2 ^ 20) (Nat.pow_le_pow_right (by decide) (by decide)))), h⟩
theorem w_chain {r' : R2} {tc : TE} (h : ta σ H fun x H1 => tb σ H1 fun y H2 => r x y H2 fun z H3 => ∃ k, z = .bl k ∧ (if k = true then tc σ H3 fun w' H4 => r' y w' H4 Q else Q (.bl false) H3)) : tChain r r' ta tb tc σ H Q := h
theorem w_for {wi : TI} {g : TG} (h : wi σ H fun J H1 => FrB J g t D σ H1) : tFor wi g t D σ H := h
theorem w_lc {wi : TI} {g : TG} {ns : List Nat} (h : wi σ H fun J H1 => LcB J g tt te ns σ Q H1) : tLc wi g tt te ns σ H Q := h
theorem w_rng {r : Int} {P : Int → Prop} (h0 : 0 ≤ r ∧ r ≤ 1000000) (h : P r) : ∃ j : Int, [V.int r] = [.int j] ∧ -(2 ^ 62) ≤ j ∧ j < 2 ^ 62 ∧ P j := ⟨r, rfl, by omega, by omega, h⟩
theorem w_iStr {R : It → Hp → Prop} (h : te σ H fun v H1 => ∃ x, v = .str x ∧ R (Its x) H1) : iStr te σ H R := h
theorem w_iList {R : It → Hp → Prop} (h : te σ H fun x H1 => ∃ a, x = .ref a ∧ (∃ xs, SqL K H1 a xs) ∧ R (Itl K a) H1) : iList K te σ H R := h
theorem w_iTup {R : It → Hp → Prop} (h : te σ H fun x H1 => ∃ a, x = .ref a ∧ (∃ xs, SqT K H1 a xs) ∧ R (Itt K a) H1) : iTup K te σ H R := h
theorem w_iRng1 {tr : TA} {R : It → Hp → Prop} (h : tr σ H fun vs H1 => ∃ j : Int, vs = [.int j] ∧ -(2 ^ 62) ≤ j ∧ j < 2 ^ 62 ∧ R (Itr 0 j.toNat) H1) : iRng1 tr σ H R := h
theorem w_exR {p : Addr} {P : Addr → Prop} (h : P p) : ∃ a, V.ref p = V.ref a ∧ P a := ⟨p, rfl, h⟩
theorem w_exSqL {p : Addr} {xs : List V} {P : Prop} (hs : SqL K H p xs) (h : P) : (∃ xs, SqL K H p xs) ∧ P := ⟨⟨xs, hs⟩, h⟩
theorem w_nT {A B : Prop} (k : B) : if (!true) = true then A else B := k
theorem w_nF {A B : Prop} (k : A) : if (!false) = true then A else B := k
theorem w_yes {p : Prop} [Decidable p] {A B : Prop} (h : p) (k : A) : if decide p = true then A else B := by rw [decide_eq_true h, if_pos rfl]; exact k
theorem w_no {p : Prop} [Decidable p] {A B : Prop} (h : ¬ p) (k : B) : if decide p = true then A else B := by rw [decide_eq_false h, if_neg Bool.false_ne_true]; exact k
theorem w_nyes {p : Prop} [Decidable p] {A B : Prop} (h : p) (k : B) : if (!decide p) = true then A else B := by rw [decide_eq_true h]; exact k
theorem w_nno {p : Prop} [Decidable p] {A B : Prop} (h : ¬ p) (k : A) : if (!decide p) = true then A else B := by rw [decide_eq_false h]; exact k
theorem w_un {ru : V → Hp → VK → Prop} (h : ta σ H fun x H1 => ru x H1 Q) : tUn ru ta σ H Q := h
theorem w_negI (h : Q (.int (-i)) H) : rNegU (.int i) H Q := ⟨i, rfl, h⟩
theorem w_bm {T : String} {rm : V → List V → Hp → VK → Prop} {tr : TA} (h : te σ H fun x H1 => tyV K T x H1 ∧ tr σ H1 fun xs H2 => rm x xs H2 Q) : tBM K T rm te tr σ H Q := h
theorem w_bm0 {T : String} {rm : V → List V → Hp → VK → Prop} (h : te σ H fun x H1 => tyV K T x H1 ∧ rm x [] H1 Q) : tBM0 K T rm te σ H Q := h
theorem w_tyL {p : Addr} {xs : List V} {P : Prop} (hs : SqL K H p xs) (h : P) : tyV K "list" (.ref p) H ∧ P := ⟨.inl ⟨rfl, _, hs⟩, h⟩
theorem w_append {p : Addr} {xs : List V} (hp : H p = some (.lst xs)) (hl : xs.length ≤ 100000) (h : Q .non (upd H p (.lst (xs ++ [x])))) : rAppend (.ref p) [x] H Q :=
  ⟨p, xs, x, rfl, rfl, hp, Nat.lt_of_le_of_lt hl (by decide), h⟩
theorem w_len {xs : List V} {P : Prop} (h : xs.length ≤ 1000) (k : P) : xs.length ≤ sizeLine ∧ P := ⟨Nat.le_trans h (by decide), k⟩
theorem w_gsub {to ti : TE} {rs : TSet} {R : L2.St → Hp → Prop} (h : to σ H fun o H1 => ti σ H1 fun i H2 => rs o i v H2 fun H3 => R σ H3) : gSub to ti rs v σ H R := h
theorem w_gname {n : Nat} {R : L2.St → Hp → Prop} (h : R (σ.set n (some v)) H) : gName n v σ H R := h
theorem w_setL {p : Addr} {xs : List V} {n : Nat} {R : Hp → Prop} (hp : H p = some (.lst xs)) (hi : ixN xs.length i = some n) (h : R (upd H p (.lst (xs.set n v)))) : rSetL (.ref p) (.int i) v H R := ⟨p, xs, i, n, rfl, rfl, hp, hi, h⟩
theorem w_dec {p : Prop} [Decidable p] {A B : Prop} (h1 : p → A) (h2 : ¬ p → B) : if decide p = true then A else B := by
  by_cases h : p
  · rw [decide_eq_true h, if_pos rfl]; exact h1 h
  · rw [decide_eq_false h, if_neg Bool.false_ne_true]; exact h2 h
theorem w_ndec {p : Prop} [Decidable p] {A B : Prop} (h1 : ¬ p → A) (h2 : p → B) : if (!decide p) = true then A else B := by
  by_cases h : p
  · rw [decide_eq_true h]; exact h2 h
  · rw [decide_eq_false h]; exact h1 h
theorem len_small {n : Nat} (h : n ≤ 1000000) : n ≤ sizeLine := Nat.le_trans h (by decide)
end
/-! ### texts: joined, split, replaced -/
def rJoin (K : PySem.W.Frag) : V → List V → Hp → VK → Prop := fun x xs H Q => ∃ a p, ∃ ys : List Str, x = .str a ∧ xs = [.ref p] ∧ (SqL K H p (ys.map V.str) ∨ SqT K H p (ys.map V.str)) ∧ (ys.map (·.length)).sum + ys.length * a.length ≤ 16777216 ∧ Q (.str (Txt.join a ys)) H
def rSplit : V → List V → Hp → VK → Prop := fun x xs H Q => ∃ a b, x = .str a ∧ xs = [.str b] ∧ (b.length == 0) = false ∧ a.length + 2 ≤ sizeLine ∧ rNewStrs (Txt.split a b) H Q
def tJoin (K : PySem.W.Frag) (to te : TE) : TE := tM1 (rJoin K) to te
def tSplit (to te : TE) : TE := tM1 rSplit to te
def tJoined (ts : List TE) : TE := fun σ H Q => tJs ts Str.empty σ H fun out H1 => Q (.str out) H1
def tNotU (t : TT) : TE := fun σ H Q => t σ H fun c H1 => Q (.bl (!c)) H1
/-- an expression behind which a token has been given out -/
def PEG (X : Cx) (e : Expr) (t : TE) : Prop :=
  ∀ (pins : List (Addr × Obj)) (s : Shared) (σ : L2.St) (H : Hp) (Q : VK), Inv X pins σ H s → t σ H Q → wpAny (model X.prog X.w) X.A (eval e X.env) (fun u s' => 1 ≤ s'.toks ∧ EP X pins σ Q u s') X.xe s
section
variable {X : Cx} {e f : Expr} {te tf : TE} {pos : Pos}
theorem peg_str {x : Str} {j : Nat} : PEG X (.Constant (.str x) j pos) (tC (.str x)) := fun _ s _ H _ I h =>
  Calls.Constant_str ⟨Nat.succ_le_succ (Nat.zero_le _), .str x, H, I.tok _, ⟨_, rfl⟩, h⟩
theorem peg_op {op : Operator} {r : R2} (ho : OpR X (binaryOp op) r) (ha : PEG X e te) (hb : PE X f tf) : PEG X (.BinOp e op f pos) (tOp r te tf) := by
  intro pins s σ H Q I h
  refine wpAny_BinOp (thn (ha pins s σ H _ I h) fun v s1 ⟨k1, x, H1, I1, r1, q1⟩ => ?_)
  refine wpAny_mono (PySem.wpAny_toks_of k1 (hb.run pins s1 σ H1 _ I1 q1)) (fun u s2 ⟨k2, y, H2, I2, r2, q2⟩ => ?_) fun _ _ z => z.2
  exact wpAny_mono (PySem.wpAny_toks_of k2 (ho pins s2 σ H2 x y v u Q I2 r1 r2 q2)) (fun _ _ z => z) fun _ _ z => z.2
theorem pe_opG {op : Operator} {r : R2} (ho : OpR X (binaryOp op) r) (ha : PEG X e te) (hb : PET X f tf) : PE X (.BinOp e op f pos) (tOp r te tf) := by
  refine ⟨fun pins s σ H Q I h => ?_⟩
  refine wpAny_BinOp (thn (ha pins s σ H _ I h) fun v s1 ⟨k1, x, H1, I1, r1, q1⟩ => ?_)
  exact thn (hb pins s1 σ H1 _ k1 I1 q1) fun u s2 ⟨y, H2, I2, r2, q2⟩ => ho pins s2 σ H2 x y v u Q I2 r1 r2 q2
theorem pe_notT2 {tt : TT} (h : PT X e tt) (he : ∀ s Q E, wpAny (model X.prog X.w) X.A (isTrue e X.env (eval e X.env)) (fun b s1 => Q (.bool (!b)) s1) E s → wpAny (model X.prog X.w) X.A (eval (.UnaryOp .Not e pos) X.env) Q E s) : PE X (.UnaryOp .Not e pos) (tNotU tt) :=
  ⟨fun pins s σ H Q I q => he _ _ _ (thn (h.run pins s σ H _ I q) fun b s1 ⟨H1, I1, q1⟩ => ⟨.bl (!b), H1, I1, rfl, q1⟩)⟩
end
section
variable {K : PySem.W.Frag} {σ : L2.St} {H : Hp} {Q : VK} {to te : TE} {a b : Str} {i : Int} {t : TE} {ts : List TE} {QS : Str → Hp → Prop}
theorem w_join (h : to σ H fun x H1 => (∃ a, x = .str a) ∧ te σ H1 fun y H2 => rJoin K x [y] H2 Q) : tJoin K to te σ H Q := h
theorem w_split (h : to σ H fun x H1 => (∃ a, x = .str a) ∧ te σ H1 fun y H2 => rSplit x [y] H2 Q) : tSplit to te σ H Q := h
theorem w_isS {P : Prop} (h : P) : (∃ z, V.str a = .str z) ∧ P := ⟨⟨_, rfl⟩, h⟩
theorem w_joined (h : tJs ts Str.empty σ H fun out H1 => Q (.str out) H1) : tJoined ts σ H Q := h
theorem w_jsNil {acc : Str} (h : QS acc H) : tJs [] acc σ H QS := h
theorem w_jsCons {acc : Str} (h : t σ H fun x H1 => ∃ y : Str, x = .str y ∧ (acc ++ y).length ≤ sizeLine ∧ tJs ts (acc ++ y) σ H1 QS) : tJs (t :: ts) acc σ H QS := h
theorem w_fmtS (h : Q (.str a) H) (hz : a.length ≤ sizeLine) : tFmt (tC (.str a)) σ H Q := .inl ⟨a, rfl, hz, h⟩
theorem w_fmt (h : te σ H fun x H1 => (∃ y : Str, x = .str y ∧ y.length ≤ sizeLine ∧ Q (.str y) H1) ∨ ∃ i : Int, x = .int i ∧ i.natAbs.log2 < 1920 ∧ Q (.str (toString i)) H1) : tFmt te σ H Q := h
theorem w_fmtI {A : Prop} {P : Int → Prop} (h : P i) : A ∨ ∃ j : Int, V.int i = .int j ∧ P j := .inr ⟨i, rfl, h⟩
theorem w_repl (h : to σ H fun v H1 => ∃ x, v = .str x ∧ x.length + (x.length + 1) * b.length ≤ 16777216 ∧ Q (.str (Txt.replace x a b)) H1) : CwR.tReplC to a b σ H Q := h
end

end FL

/-! own layer: defs that are called where nothing is being written out (repr); the row's end for such -/
namespace FL
open PySem PySem.Spec PyProof.Rows L2

/-- a def's promise where no repr runs around -/
def OkG (P : Program) (w : World) (K : PySem.W.Frag) (mg : Str → Option Value) (base : Heap) (CX : CXT) (k : Nat) (f : Addr) (fd : FuncData) (ps : List Str) (sp : Sp) : Prop :=
  (∀ vs H Q E, sp vs H Q E → vs.length = ps.length) ∧
  ∀ (A : Around), A.guards = some [] → ∀ (o : List Env) (s : Shared) (H : Hp) (ar : Args) (us : List Value) (vs : List V) (Q : VK) (E : XK),
    Room k A → Env0 P w K mg base A o s H → BindsTo s fd ar (ps.zip us) → Vals vs us → sp vs H Q E → codeAny (model P w) A (.call (.ref f) ar) (CR CX o P w H s Q E) s

section
variable {P : Program} {w : World} {K : PySem.W.Frag} {mg : Str → Option Value} {base : Heap} {CX : CXT}
theorem okG_of {x qual : Str} {st : Stmt} {f : Addr} {fd : FuncData} {N ps : List Str} {k : Nat} {sp : Sp} (F : Fun K x qual st f fd) (S : FnScope N ps (defScope st)) (len : ∀ vs H Q E, sp vs H Q E → vs.length = ps.length)
    (hb : ∀ (cdv : Value) (A : Around) (o : List Env) (s : Shared) (H : Hp) (vs : List V) (Q : VK) (E : XK), A.guards = some [] → Room k (A.deeper (envOfC qual (defScope st) s.heap.objs.size f cdv)) → sp vs H Q E →
      ∃ t, PSs (cxOf CX P w K mg base N qual (defScope st) f cdv A o s H E) (defBody st) t ∧ t { nx := fun _ H' => Q .non H', rt := Q } (start N vs) H) : OkG P w K mg base CX (k + 1) f fd ps sp := by
  obtain ⟨oc, od, kV, doc, pm, an, cdv, ct, osl, rfl, lk, hcd⟩ := F.ex
  refine ⟨len, fun A hG o s H ar us vs Q E hr e0 hbi r hs => ?_⟩
  have nl := len _ _ _ _ hs
  have old : ∀ b u, base.get? b = some u → s.heap.get? b = some u := fun b u e => (e0.bs b u e).1
  have KX : K.In s.heap := e0.mod.kin.keeps old
  have par : ∀ y ∈ ps.zip us, (defScope st).names.lookup y.1 = some .local ∨ ((defScope st).names.lookup y.1 = some .cell ∧ ((cellsFrom (s.heap.objs.size + 1) (defScope st).names []).lookup y.1).isSome = true) := by
    rintro ⟨n, v⟩ hy
    rcases S.par n (List.of_mem_zip hy).1 with z | z
    · exact .inl z
    · exact .inr ⟨z, PySem.W.cellsFrom_some _ _ _ (.inl z)⟩
  refine codeAny_call_function hr.depth (KX _ _ lk) rfl S.co S.gen rfl (PySem.W.codeRec_of KX hcd) (hbi _ _ _ _ ?_)
  refine wpAny_newFunctionEnv_cells S.kind par fun env he s1 y => ?_
  subst he
  refine ⟨(e0.mod.nolimit.keeps old).keeps y.toInCall.keep, codeAny_func ?_⟩
  obtain ⟨t, ht, hq⟩ := hb cdv A o s H vs Q E hG (hr.deeper _) hs
  have I := inv_start (CX := CX) (E := E) S hr.hd e0 nl r y
  refine wpAny_mono (ht.run [] s1 (start N vs) H _ I hq) (fun fl s2 q => ?_) fun _ _ q => q
  have fin : ∀ {σ2 : L2.St} {H2 : Hp} {v : V} {u : Value}, Inv (cxOf CX P w K mg base N qual (defScope st) f cdv A o s H E) [] σ2 H2 s2 → RelV v u → Q v H2 → CE o P w H s Q u s2 :=
    fun {σ2 H2 v u} J rv z => ⟨v, H2, J.os, J.bare, J.base, J.hok, rv, z⟩
  cases fl with
  | ret u => obtain ⟨v, σ2, H2, J, rv, z⟩ := q; exact fin J rv z
  | next => obtain ⟨σ2, H2, J, z⟩ := q; exact fin (v := V.non) (u := Value.none) J rfl z
  | brk => obtain ⟨_, _, _, z⟩ := q; exact z.elim
  | cont => obtain ⟨_, _, _, z⟩ := q; exact z.elim
theorem OkG.of {k : Nat} {f : Addr} {fd : FuncData} {ps : List Str} {sp : Sp} (F : FnOk P w K mg base CX k f fd ps sp) : OkG P w K mg base CX k f fd ps sp :=
  ⟨F.len, fun A _ o s H ar us vs Q E hr e0 hb r hs => F.run A o s H ar us vs Q E hr e0 hb r hs⟩
end

section
variable {X : Cx}
theorem runG {k : Nat} {f : Addr} {fd : FuncData} {ps : List Str} {sp : Sp} {CX : CXT} {dvs : List V} {ds : List Value} {E : XK} {pins : List (Addr × Obj)} {σ : L2.St} {H : Hp} {s : Shared} {Q : VK} {us : List Value} {vs : List V} (hG : X.A.guards = some []) (F : OkG X.prog X.w X.K X.mg X.base CX k f fd ps sp)
    (hr : Room k X.A) (hb : Binds X.K fd ps ds) (hd : Vals dvs ds) (hx : Passes CX X E) (I : Inv X pins σ H s) (r : Vals vs us) (h : sp (vs ++ dvs) H Q E) : wpAny (model X.prog X.w) X.A (call (.ref f) us) (EP X pins σ Q) X.xe s := by
  have r2 : Vals (vs ++ dvs) (us ++ ds) := r.append hd
  have nl : (us ++ ds).length = ps.length := r2.length.symm.trans (F.1 _ _ _ _ h)
  refine wpAny_call (codeAny_mono (F.2 X.A hG X.stack s H ⟨us, []⟩ (us ++ ds) (vs ++ dvs) Q E hr I.env0 (hb s us I.kIn nl) r2 h) fun z s' hq => ?_)
  cases z with
  | error e => exact hx pins σ H s e s' I hq
  | ok fl => cases fl with
    | ret u => exact I.after hq
    | next => exact hq.elim
    | brk => exact hq.elim
    | cont => exact hq.elim
theorem pe_callG {k : Nat} {f : Addr} {fd : FuncData} {ps : List Str} {sp : Sp} {CX : CXT} {dvs : List V} {ds : List Value} {E : XK} {x : Str} {e : Expr} {es : List Expr} {t : TA} {p pos : Pos} (hG : X.A.guards = some []) (F : OkG X.prog X.w X.K X.mg X.base CX k f fd ps sp)
    (hr : Room k X.A) (hg : Gl X x) (hm : X.mg x = some (.ref f)) (hk : PySem.W.keepIn X.K (.ref f) = true) (hb : Binds X.K fd ps ds) (hd : Vals dvs ds) (hx : Passes CX X E) (ha : PA X (e :: es) t)
    (hdb : (x == ("__debug__" : Str)) = false := by decide) (he : starEach (e :: es) X.env = (false, eval e X.env) :: starEach es X.env := by rfl) (hpl : (backTo pos (starEach es X.env)).any (·.1) = false := by rfl) :
    PE X (.Call (.Name x p) (e :: es) [] pos) (tCall sp dvs E t) := by
  refine ⟨fun pins s σ H Q I h => wpAny_Call_Name_kw (ld_glob I hg hm ?_ hdb)⟩
  refine PySem.W.callWith_K (h₀ := X.base) I.ok.mod.kin hk (thn (ha.run pos pins s σ H _ I h) fun us s1 hh => ?_) he hpl
  obtain ⟨vs, H1, I1, r1, q1⟩ := hh
  exact ⟨I1.kIn, runG hG F hr hb hd hx I1 r1 q1⟩
/-- repr of data -/
def rReprD (K : PySem.W.Frag) : List V → Hp → VK → Prop := fun xs H Q => ∃ v d, xs = [v] ∧ (∃ a, v = .ref a) ∧ Dp K H v d ∧ d.showable = true ∧ d.hasDict = false ∧ d.depth ≤ 60 ∧ d.shown.length ≤ sizeLine ∧ Q (.str d.shown) H
theorem u_repr (hG : X.A.guards = some []) (hu : X.A.units + 64 < cLine) : CallR X (.builtin "repr") (rReprD X.K) := by
  intro pins s σ H xs us Q I r h
  obtain ⟨v, d, rfl, ⟨a, rfl⟩, hd, h1, h2, h3, h4, q⟩ := h
  obtain ⟨u1, rfl, ru⟩ := vals1 r
  obtain ⟨as, rd⟩ := Dp.reads I d _ _ hd ru
  cases ru
  refine repr_of_reads' rd h1 (fun z => by rw [h2] at z; cases z) hG (by omega) (fun b o e => e) (fun h' u tk k => ?_) h4
  exact ⟨.str d.shown, H, I.kept (t' := tk) k, ⟨u, rfl⟩, q⟩
end

section
/-- the script alone may be tracked at the law's entry -/
theorem law_callG {P : Program} {w : World} {K : PySem.W.Frag} {mg mb : Str → Option Value} {CX : CXT} {k : Nat} {fa a : Addr} {fd : FuncData} {x : Str} {sp : Sp} {s1 : Shared} {vs : List Value} {ns : List Int}
    (KX : K.In s1.heap) (hns : s1.heap.Ns mainGlobals mg) (hb : s1.heap.Ns builtinsNs mb) (hbb : ∀ y : Str, y ≠ "__name__" → mb y = bootBuiltins y) (hlim : s1.heap.NoLimit) (hg : s1.gens = #[])
    (ha : s1.heap.get? a = some { cls := .type "list", data := .seq vs.toArray }) (hi : IntsAre vs ns) (hl : ns.length ≤ sizeLine) (hr : Room k callerA)
    (F : ∀ base : Heap, K.In base → base.Ns mainGlobals mg → OkG P w K mg base CX k fa fd [x] sp) (hbind : ∀ (s : Shared) (u : Value), BindsTo s fd ⟨[u], []⟩ [(x, u)])
    (hsp : ∀ H : Hp, Only H → SqL K H a (ns.map V.int) → sp [.ref a] H (fun v _ => v = .bl true) fun _ _ _ => False)
    (hCX : ∀ H e s', CX [] H s1 (fun _ _ _ => False) e s' → False) :
    codeAny (model P w) callerA (.call (.ref fa) ⟨[.ref a], []⟩) (fun r s' => r = .ok (.ret (.bool true)) ∧ OldK s1.heap s'.heap ∧ s'.os = s1.os ∧ AllBare s'.gens) s1 := by
  have go : ∀ H : Hp, Only H → SqL K H a (ns.map V.int) → HOk P w H s1.heap → (∀ b, H b ≠ none → b = a) → (H a ≠ none → K.lookup a = none) →
      codeAny (model P w) callerA (.call (.ref fa) ⟨[.ref a], []⟩) (fun r s' => r = .ok (.ret (.bool true)) ∧ OldK s1.heap s'.heap ∧ s'.os = s1.os ∧ AllBare s'.gens) s1 := by
    intro H hO hS ok hA hK
    have free : ∀ {b : Addr} {o : Obj}, s1.heap.get? b = some o → (∀ zs n, o.data ≠ .seq zs n) ∨ K.lookup b ≠ none → H b = none := by
      intro b o e d
      cases z : H b with
      | none => rfl
      | some u =>
        have eb : b = a := hA b (by rw [z]; simp)
        subst eb
        rcases d with d | d
        · rw [ha] at e; cases e
          exact absurd rfl (d _ _)
        · exact absurd (hK (by rw [z]; simp)) d
    have nsK : ∀ {b : Addr} {m : Str → Option Value}, s1.heap.Ns b m → (hidT s1.heap H).Ns b m := by
      rintro b m ⟨o, es, ep, e, d, r⟩
      exact ⟨o, es, ep, hidT_get e (free e (.inl fun zs n z => by rw [d] at z; cases z)), d, r⟩
    have kb : K.In (hidT s1.heap H) := fun b o e => hidT_get (KX b o e) (free (KX b o e) (.inr (by rw [e]; simp)))
    have md : Mod K mg (hidT s1.heap H) := ⟨kb, nsK hns, ⟨mb, nsK hb, hbb⟩, let ⟨mc, h1, h2⟩ := hlim; ⟨mc, nsK h1, h2⟩⟩
    have nomem : ∀ b : Addr, b ∉ ([] : List Addr) := fun b z => by cases z
    have e0 : Env0 P w K mg (hidT s1.heap H) callerA [] s1 H := ⟨rfl, md, fun b o e => of_hidT e, Nat.le_of_eq (hidT_size _ _), trivial, fun b z => absurd z (nomem b), ok, .of_eq hg⟩
    refine codeAny_mono ((F _ kb (nsK hns)).2 callerA rfl [] s1 H ⟨[.ref a], []⟩ [.ref a] [.ref a] _ _ hr e0 (hbind s1 (.ref a)) (.cons rfl .nil) (hsp H hO hS)) fun z s' h => ?_
    cases z with
    | error e => exact (hCX H e s' h).elim
    | ok fl => cases fl with
      | next => exact h.elim
      | brk => exact h.elim
      | cont => exact h.elim
      | ret u =>
        obtain ⟨v, H', os, bare, un, ok', r', q⟩ := h
        have q' : v = .bl true := q
        subst q'
        obtain rfl : u = Value.bool true := r'
        refine ⟨rfl, OldK.of_keep fun b o e => ?_, os, bare⟩
        rcases hO b with z | ⟨ob, xs, z⟩
        · exact un.keep b o e z (nomem b) (nomem b)
        · have e1 := (ok b _ z).1
          have e2 := (ok' b _ (un.frzs b ob _ z)).1
          rw [e] at e1; cases e1
          exact e2
  have lv := hi.length
  have rv := vals_ints hi
  cases hk : K.lookup a with
  | some o =>
    have e := KX a o hk
    rw [ha] at e
    cases e
    refine go (fun _ => none) (fun _ => .inl rfl) (.inr ⟨_, vs.toArray, _, hk, rfl, rfl, rfl, by rw [List.size_toArray, lv]; exact hl, by simpa using rv⟩) (fun b u z => nomatch (show (none : Option HO) = some u from z)) (fun b z => absurd rfl z) fun z => absurd rfl z
  | none =>
    let F0 : HO := .frz { cls := .type "list", data := .seq vs.toArray } (.lst (ns.map V.int))
    have ate : (upd (fun _ => none) a F0) a = some F0 := upd_same
    have off : ∀ b, b ≠ a → (upd (fun _ => none) a F0) b = none := fun b hb => upd_ne hb
    refine go (upd (fun _ => none) a F0) (fun b => ?_) (.inl (.inr ⟨_, ate⟩)) (fun b u z => ?_) (fun b z => ?_) fun _ => hk
    · by_cases hb' : b = a
      · rw [hb', ate]; exact .inr ⟨_, _, rfl⟩
      · exact .inl (off b hb')
    · by_cases hb' : b = a
      · subst hb'
        rw [ate] at z; cases z
        exact ⟨ha, by rw [List.length_map]; exact hl, vs, _, rv, ha⟩
      · rw [off b hb'] at z; cases z
    · by_cases hb' : b = a
      · exact hb'
      · exact absurd (off b hb') z
theorem walk_ofG {l : PySem.W.OpenLaw} {n k : Nat} {q : Program} {loose : List Str} {XP : (Str → Option Value) → Heap → Prop} {YP : World → Heap → Prop} {d : DefRec} {K : Params → PySem.W.Frag} {CX : CXT} {sp : PySem.W.Frag → Sp} {x : Str}
    (hn : l.most = some n) (hn2 : n ≤ sizeLine) (hdf : d.params.defaults = []) (hr : Room k callerA)
    (hY : ∀ (w : World) (h : Heap), YP w h → (K w.params).In h)
    (F : ∀ (w : World) (mg : Str → Option Value) (fa : Addr) (h : Heap), (K w.params).In h → h.Ns mainGlobals mg → mg d.name = some (.ref fa) →
      ∃ fd : FuncData, (∀ (s : Shared) (u : Value), BindsTo s fd ⟨[u], []⟩ [(x, u)]) ∧
        ∀ base : Heap, (K w.params).In base → base.Ns mainGlobals mg → OkG l.prog w (K w.params) mg base CX k fa fd [x] (sp (K w.params)))
    (hsp : ∀ (K : PySem.W.Frag) (H : Hp) (a : Addr) (ns : List Int), ns.length ≤ n → Only H → SqL K H a (ns.map V.int) → sp K [.ref a] H (fun v _ => v = .bl true) fun _ _ _ => False)
    (hCX : ∀ (H : Hp) (s : Shared) (e : Value) (s' : Shared), CX [] H s (fun _ _ _ => False) e s' → False) :
    PySem.W.WalkO q loose XP YP l.row.toRowW d [] (fun f vs => PySem.call f vs) := by
  refine Att.attach_call hn hdf fun w s0 s1 mg mb fa o pm cd doc a vs ns G Y ho hd hcd hmg hobj hints hlen hg => ?_
  have KX := hY w _ Y
  obtain ⟨fd, hb, hF⟩ := F w mg fa _ KX G.T.g hmg
  exact law_callG KX G.T.g G.T.b G.T.builtins G.T.nolimit hg hobj hints (Nat.le_trans hlen hn2) hr hF hb (fun H hO hS => hsp (K w.params) H a ns hlen hO hS) fun H e s' => hCX H s1 e s'
end
end FL

/-! own layer: data through changes of the heap -/
namespace FL
open PySem PySem.Spec PyProof.Rows L2
section
variable {K : PySem.W.Frag} {H H' H1 : Hp}
theorem same_t {a : Addr} {xs : List V} (e : Same H H') (h : SqT K H a xs) : SqT K H' a xs := by
  rcases h with (h | ⟨o, h⟩) | h
  · exact .inl (.inl (e _ _ h))
  · exact .inl (.inr ⟨o, e _ _ h⟩)
  · exact .inr h
theorem same_new {p : Addr} {o : HO} (h : H p = none) : Same H (upd H p o) := fun a u e => by
  rw [upd_ne (ne_of_none e h)]; exact e
theorem dp_same (e : Same H H') {d : PyData} {v : V} (h : Dp K H v d) : Dp K H' v d :=
  Dp.rec (motive_1 := fun v d _ => Dp K H' v d) (motive_2 := fun vs ds _ => DpAll K H' vs ds) .non (fun b => .bl b) (fun i => .int i) (fun x => .str x)
    (fun h _ a => .lst (e.seq h) a) (fun h _ a => .tup (same_t e h) a) .nil (fun _ _ a b => .cons a b) h
theorem dps_same (e : Same H H') {ds : List PyData} {vs : List V} (h : DpAll K H vs ds) : DpAll K H' vs ds :=
  DpAll.rec (motive_1 := fun v d _ => Dp K H' v d) (motive_2 := fun vs ds _ => DpAll K H' vs ds) .non (fun b => .bl b) (fun i => .int i) (fun x => .str x)
    (fun h _ a => .lst (e.seq h) a) (fun h _ a => .tup (same_t e h) a) .nil (fun _ _ a b => .cons a b) h
/-- tuples and what is locked are kept -/
def TK (H H' : Hp) : Prop := (∀ b xs, H b = some (.tup xs) → H' b = some (.tup xs)) ∧ ∀ b o u, H b = some (.frz o u) → H' b = some (.frz o u)
theorem TK.refl (H : Hp) : TK H H := ⟨fun _ _ h => h, fun _ _ _ h => h⟩
theorem TK.trans (a : TK H H1) (b : TK H1 H') : TK H H' := ⟨fun c xs h => b.1 c xs (a.1 c xs h), fun c o u h => b.2 c o u (a.2 c o u h)⟩
theorem TK.of (e : Same H H') : TK H H' := ⟨fun _ _ h => e _ _ h, fun _ _ _ h => e _ _ h⟩
theorem TK.t {a : Addr} {xs : List V} (e : TK H H') (h : SqT K H a xs) : SqT K H' a xs := by
  rcases h with (h | ⟨o, h⟩) | h
  · exact .inl (.inl (e.1 _ _ h))
  · exact .inl (.inr ⟨o, e.2 _ _ _ h⟩)
  · exact .inr h
mutual
def noL : PyData → Bool
  | .list _ => false
  | .dict _ => false
  | .tuple ds => noLs ds
  | _ => true
def noLs : List PyData → Bool
  | [] => true
  | d :: ds => noL d && noLs ds
end
theorem noL_tup {ds : List PyData} (h : noL (.tuple ds) = true) : noLs ds = true := by unfold noL at h; exact h
theorem noLs_cons {d : PyData} {ds : List PyData} (h : noLs (d :: ds) = true) : noL d = true ∧ noLs ds = true := by
  rw [noLs] at h; exact Bool.and_eq_true_iff.mp h
theorem noL_lst {ds : List PyData} (h : noL (.list ds) = true) : False := by unfold noL at h; cases h
theorem dp_tk (e : TK H H') {d : PyData} {v : V} (h : Dp K H v d) : noL d = true → Dp K H' v d :=
  Dp.rec (motive_1 := fun v d _ => noL d = true → Dp K H' v d) (motive_2 := fun vs ds _ => noLs ds = true → DpAll K H' vs ds) (fun _ => .non) (fun b _ => .bl b) (fun i _ => .int i) (fun x _ => .str x)
    (fun _ _ _ z => (noL_lst z).elim) (fun h _ a z => .tup (e.t h) (a (noL_tup z))) (fun _ => .nil) (fun _ _ a b z => .cons (a (noLs_cons z).1) (b (noLs_cons z).2)) h
theorem dps_tk (e : TK H H') {ds : List PyData} {vs : List V} (h : DpAll K H vs ds) : noLs ds = true → DpAll K H' vs ds :=
  DpAll.rec (motive_1 := fun v d _ => noL d = true → Dp K H' v d) (motive_2 := fun vs ds _ => noLs ds = true → DpAll K H' vs ds) (fun _ => .non) (fun b _ => .bl b) (fun i _ => .int i) (fun x _ => .str x)
    (fun _ _ _ z => (noL_lst z).elim) (fun h _ a z => .tup (e.t h) (a (noL_tup z))) (fun _ => .nil) (fun _ _ a b z => .cons (a (noLs_cons z).1) (b (noLs_cons z).2)) h
/-- all but what stands at a is kept -/
def Fr (a : Addr) (H H' : Hp) : Prop := ∀ b o, b ≠ a → H b = some o → H' b = some o
theorem Fr.refl (a : Addr) (H : Hp) : Fr a H H := fun _ _ _ h => h
theorem Fr.trans {a : Addr} (x : Fr a H H1) (y : Fr a H1 H') : Fr a H H' := fun b o n h => y b o n (x b o n h)
theorem Fr.upd {a : Addr} {o : HO} (x : Fr a H H') : Fr a H (upd H' a o) := fun b u n h => by rw [upd_ne n]; exact x b u n h
theorem Fr.new {a p : Addr} {o : HO} (x : Fr a H H') (h : H' p = none) : Fr a H (L2.upd H' p o) := fun b u n e => by
  rw [upd_ne (ne_of_none (x b u n e) h)]; exact x b u n e
theorem Fr.of {a : Addr} (e : Same H H') : Fr a H H' := fun b o _ h => e b o h
theorem Fr.same {a : Addr} (x : Fr a H H') (n : H a = none) : Same H H' := fun b o h => x b o (fun z => by rw [z, n] at h; cases h) h
theorem Fr.tk {a : Addr} {xs : List V} (x : Fr a H H') (h : H a = some (.lst xs)) : TK H H' :=
  ⟨fun b ys e => x b _ (ne_of e h (by intro z; cases z)) e, fun b o u e => x b _ (ne_of e h (by intro z; cases z)) e⟩
theorem Fr.none {a p : Addr} (x : Fr a H H') (n : p ≠ a) (h : H' p = none) : H p = none := by
  cases z : H p with
  | none => rfl
  | some o => rw [x p o n z] at h; cases h
theorem dps_app {vs ws : List V} {ds es : List PyData} (h : DpAll K H vs ds) (h' : DpAll K H ws es) : DpAll K H (vs ++ ws) (ds ++ es) := by
  induction vs generalizing ds with
  | nil => cases h; exact h'
  | cons v vs ih => cases h with | cons a b => exact .cons a (ih b)
theorem dps_len {vs : List V} : ∀ {ds : List PyData}, DpAll K H vs ds → vs.length = ds.length := by
  induction vs with
  | nil => intro ds h; cases h; rfl
  | cons v vs ih => intro ds h; cases h with | cons a b => simp [ih b]
theorem dps_get {vs : List V} : ∀ {ds : List PyData} {i : Nat} {v : V}, DpAll K H vs ds → vs[i]? = some v → ∃ d, ds[i]? = some d ∧ Dp K H v d := by
  induction vs with
  | nil => intro ds i v h e; simp at e
  | cons w vs ih =>
    intro ds i v h e
    cases h with
    | cons a b =>
      cases i with
      | zero => simp at e; subst e; exact ⟨_, rfl, a⟩
      | succ i => simpa using ih b (by simpa using e)
/-! kinds of data read back -/
theorem dp_int {v : V} {i : Int} (h : Dp K H v (.int i)) : v = .int i := by cases h; rfl
theorem dp_str {v : V} {x : Str} (h : Dp K H v (.str x)) : v = .str x := by cases h; rfl
theorem dp_tup {v : V} {ds : List PyData} (h : Dp K H v (.tuple ds)) : ∃ a vs, v = .ref a ∧ SqT K H a vs ∧ DpAll K H vs ds := by cases h with | tup h a => exact ⟨_, _, rfl, h, a⟩
theorem dp_lst {v : V} {ds : List PyData} (h : Dp K H v (.list ds)) : ∃ a vs, v = .ref a ∧ SqL K H a vs ∧ DpAll K H vs ds := by cases h with | lst h a => exact ⟨_, _, rfl, h, a⟩
theorem dps_cons {vs : List V} {d : PyData} {ds : List PyData} (h : DpAll K H vs (d :: ds)) : ∃ v ws, vs = v :: ws ∧ Dp K H v d ∧ DpAll K H ws ds := by cases h with | cons a b => exact ⟨_, _, rfl, a, b⟩
theorem dps_nil {vs : List V} (h : DpAll K H vs []) : vs = [] := by cases h; rfl
end
end FL
namespace FL
open PySem PySem.Spec PyProof.Rows L2
section
variable {K : PySem.W.Frag} {σ : L2.St} {H : Hp} {Q : VK} {tl te : TE} {j : Nat} {vs : List Nat} {a : Addr} {xs : List V}
theorem get_app {α : Type} {l : List α} {x y : α} {i : Nat} (h : (l ++ [x])[i]? = some y) : (l[i]? = some y) ∨ (i = l.length ∧ y = x) := by
  by_cases c : i < l.length
  · rw [List.getElem?_append_left c] at h; exact .inl h
  · rw [List.getElem?_append_right (by omega)] at h
    have : i - l.length = 0 := by
      cases z : i - l.length with
      | zero => rfl
      | succ n => rw [z] at h; simp at h
    rw [this] at h
    exact .inr ⟨by omega, by simpa using h.symm⟩
/-- a comprehension over a list that stands still; nothing that stood is changed -/
theorem lcb_P (R : Nat → V → Hp → Prop) (hw : ∀ x, wipe ((wipe σ vs).set j (some x)) vs = wipe σ vs) (hx : SqL K H a xs) (hz : xs.length ≤ 1000000)
    (mono : ∀ i y H1 H2, TK H1 H2 → R i y H1 → R i y H2)
    (turn : ∀ i x H1 (T : VK), xs[i]? = some x → Same H H1 → (∀ y H2, Same H1 H2 → R i y H2 → T y H2) → te ((wipe σ vs).set j (some x)) H1 T)
    (k : ∀ p ys H1, H p = none → Same H H1 → H1 p = some (.lst ys) → ys.length = xs.length → (∀ i y, ys[i]? = some y → R i y H1) → Q (.ref p) H1) :
    LcB (Itl K a) (gName j) tYes te vs σ Q H := by
  intro D hD
  refine lc_list (xs := xs) (fun i H' => Same H H' ∧ ∃ ys, H' D = some (.lst ys) ∧ ys.length = i ∧ ∀ m y, ys[m]? = some y → R m y H') ⟨same_new hD, [], upd_same, rfl, fun m y z => by simp at z⟩ (fun i H' _ p => p.1.seq hx) (fun i x H' hi p => ?_) (fun H' p => ?_)
  · obtain ⟨e1, ys, h1, h2, h3⟩ := p
    have hi' := (List.getElem?_eq_some_iff.mp hi).1
    refine ⟨hw x, ?_⟩
    show te ((wipe σ vs).set j (some x)) H' fun y H4 => _
    refine turn i x H' _ hi e1 fun y H2 e2 hy => ⟨ys, e2 _ _ h1, Nat.lt_of_le_of_lt (show ys.length ≤ 1000000 by omega) (by decide), ?_⟩
    have tk : TK H2 (upd H2 D (.lst (ys ++ [y]))) := (Fr.refl D H2).upd.tk (e2 _ _ h1)
    refine ⟨fun b o e => ?_, _, upd_same, by simp [h2], fun m z hm => ?_⟩
    · rw [upd_ne (ne_of_none e hD)]; exact e2 _ _ (e1 _ _ e)
    · rcases get_app hm with hm | ⟨rfl, rfl⟩
      · exact mono _ _ _ _ ((TK.of e2).trans tk) (h3 m z hm)
      · rw [h2]; exact mono _ _ _ _ tk hy
  · obtain ⟨e1, ys, h1, h2, h3⟩ := p
    exact k D ys H' hD e1 h1 h2 h3
/-- a comprehension over range(n) that changes one list at d (not the comprehension's own) -/
theorem lcb_R {n : Nat} {d : Addr} (R : Nat → V → Hp → Prop) (S : Nat → Hp → Prop) (hw : ∀ x, wipe ((wipe σ vs).set j (some x)) vs = wipe σ vs) (hz : n ≤ 1000000)
    (hd : H d ≠ none) (s0 : S 0 H) (sk : ∀ i H1 H2, S i H1 → (H1 d = H2 d) → S i H2)
    (mono : ∀ i y H1 H2, TK H1 H2 → R i y H1 → R i y H2)
    (turn : ∀ i H1 (T : VK), i < n → Fr d H H1 → S i H1 → (∀ y H2, Fr d H1 H2 → TK H1 H2 → S (i + 1) H2 → R i y H2 → T y H2) → te ((wipe σ vs).set j (some (.int (0 + (i : Int))))) H1 T)
    (k : ∀ p ys H1, H p = none → Fr d H H1 → H1 p = some (.lst ys) → ys.length = n → (∀ i y, ys[i]? = some y → R i y H1) → S n H1 → Q (.ref p) H1) :
    LcB (Itr 0 n) (gName j) tYes te vs σ Q H := by
  intro D hD
  have nD : d ≠ D := fun z => hd (by rw [z]; exact hD)
  refine lc_range (lo := 0) (n := n) (fun i H' => Fr d H H' ∧ S i H' ∧ ∃ ys, H' D = some (.lst ys) ∧ ys.length = i ∧ ∀ m y, ys[m]? = some y → R m y H')
    ⟨fun b o _ e => same_new hD b o e, sk _ _ _ s0 (by rw [upd_ne nD]), [], upd_same, rfl, fun m y z => by simp at z⟩ (fun i H' hi p => ?_) (fun H' p => ?_)
  · obtain ⟨e1, s1, ys, h1, h2, h3⟩ := p
    refine ⟨hw _, ?_⟩
    show te ((wipe σ vs).set j (some (.int (0 + (i : Int))))) H' fun y H4 => _
    refine turn i H' _ hi e1 s1 fun y H2 e2 t2 s2 hy => ⟨ys, e2 D _ (Ne.symm nD) h1, Nat.lt_of_le_of_lt (show ys.length ≤ 1000000 by omega) (by decide), ?_⟩
    have hD2 := e2 D _ (Ne.symm nD) h1
    have tk : TK H2 (upd H2 D (.lst (ys ++ [y]))) := (Fr.refl D H2).upd.tk hD2
    refine ⟨fun b o nb e => ?_, sk _ _ _ s2 (by rw [upd_ne nD]), _, upd_same, by simp [h2], fun m z hm => ?_⟩
    · rw [upd_ne (ne_of_none e hD)]; exact e2 _ _ nb (e1 _ _ nb e)
    · rcases get_app hm with hm | ⟨rfl, rfl⟩
      · exact mono _ _ _ _ (t2.trans tk) (h3 m z hm)
      · rw [h2]; exact mono _ _ _ _ tk hy
  · obtain ⟨e1, s1, ys, h1, h2, h3⟩ := p
    exact k D ys H' hD e1 h1 h2 h3 s1
end
section
variable {K : PySem.W.Frag} {g : TG} {tb : TS} {D : Ends} {σ : L2.St} {H : Hp}
theorem frb_S {x : Str} (Pv : Nat → L2.St → Hp → Prop) (h0 : Pv 0 σ H)
    (hs : ∀ (i : Nat) c σ H, (TL.tl x)[i]? = some c → Pv i σ H → g (.str ⟨#[c]⟩) σ H fun σ2 H2 => tb { D with nx := Pv (i + 1), ct := Pv (i + 1), bk := D.nx } σ2 H2) (hd : ∀ σ H, Pv (TL.tl x).length σ H → D.nx σ H) : FrB (Its x) g tb D σ H := by
  have el : (TL.tl x).length = x.cps.size := by simp [TL.tl]
  refine ⟨fun i m σ H => m = x.cps.size - i ∧ i ≤ x.cps.size ∧ Pv i σ H, ⟨x.cps.size, by simp, Nat.zero_le _, h0⟩, ?_⟩
  rintro i m σ H ⟨rfl, hi, p⟩
  by_cases hlt : i < x.cps.size
  · refine .inr ⟨hlt, Pv (i + 1), fun σ' H' p' => ⟨x.cps.size - (i + 1), by omega, rfl, hlt, p'⟩, fun y H' q => ?_⟩
    obtain ⟨e, c, hc, e2⟩ := q
    subst e e2
    exact hs i c σ _ (by simpa [TL.tl] using hc) p
  · have e : i = x.cps.size := by omega
    subst e
    exact .inl ⟨Nat.le_refl _, hd σ H (by rw [el]; exact p)⟩
theorem frb_L {a : Addr} {xs : List V} (Pv : Nat → L2.St → Hp → Prop) (h0 : Pv 0 σ H) (hl : ∀ i σ H, i ≤ xs.length → Pv i σ H → SqL K H a xs)
    (hs : ∀ (i : Nat) x σ H, xs[i]? = some x → Pv i σ H → g x σ H fun σ2 H2 => tb { D with nx := Pv (i + 1), ct := Pv (i + 1), bk := D.nx } σ2 H2) (hd : ∀ σ H, Pv xs.length σ H → D.nx σ H) : FrB (Itl K a) g tb D σ H := for_list Pv h0 hl hs hd
theorem frb_T {a : Addr} {xs : List V} (Pv : Nat → L2.St → Hp → Prop) (h0 : Pv 0 σ H) (hl : ∀ i σ H, i ≤ xs.length → Pv i σ H → SqT K H a xs)
    (hs : ∀ (i : Nat) x σ H, xs[i]? = some x → Pv i σ H → g x σ H fun σ2 H2 => tb { D with nx := Pv (i + 1), ct := Pv (i + 1), bk := D.nx } σ2 H2) (hd : ∀ σ H, Pv xs.length σ H → D.nx σ H) : FrB (Itt K a) g tb D σ H := for_tup Pv h0 hl hs hd
theorem frb_R {n : Nat} (Pv : Nat → L2.St → Hp → Prop) (h0 : Pv 0 σ H)
    (hs : ∀ (i : Nat) σ H, i < n → Pv i σ H → g (.int (i : Int)) σ H fun σ2 H2 => tb { D with nx := Pv (i + 1), ct := Pv (i + 1), bk := D.nx } σ2 H2) (hd : ∀ σ H, Pv n σ H → D.nx σ H) : FrB (Itr 0 n) g tb D σ H := by
  refine for_range (lo := 0) (n := n) Pv h0 (fun i σ H hi p => ?_) hd
  rw [Int.zero_add]
  exact hs i σ H hi p
end
/-! ### slices of texts -/
theorem cut_from {x : Str} {n : Nat} : TL.tl (cutS x (some (n : Int)) none) = (TL.tl x).drop n := by
  show ((x.cps.toList.drop (HT.sIx x.length 0 (some (n : Int)))).take (HT.sIx x.length x.length none - HT.sIx x.length 0 (some (n : Int)))) = _
  have hl : x.cps.toList.length = x.length := by simp [Str.length]
  rw [HT.sIx_nat, HT.sIx_none]
  show _ = x.cps.toList.drop n
  by_cases h : n ≤ x.length
  · rw [Nat.min_eq_left h, List.take_of_length_le (by rw [List.length_drop]; omega)]
  · rw [Nat.min_eq_right (by omega), List.drop_of_length_le (by omega), List.drop_of_length_le (by omega)]
    simp
theorem cut_to {x : Str} {n : Nat} : TL.tl (cutS x none (some (n : Int))) = (TL.tl x).take n := by
  show ((x.cps.toList.drop (HT.sIx x.length 0 none)).take (HT.sIx x.length x.length (some (n : Int)) - HT.sIx x.length 0 none)) = _
  have hl : x.cps.toList.length = x.length := by simp [Str.length]
  rw [HT.sIx_nat, HT.sIx_none]
  show _ = x.cps.toList.take n
  rw [List.drop_zero, Nat.sub_zero]
  by_cases h : n ≤ x.length
  · rw [Nat.min_eq_left h]
  · rw [Nat.min_eq_right (by omega), List.take_of_length_le (by omega), List.take_of_length_le (by omega)]
section
variable {K : PySem.W.Frag} {g : TG} {tb : TS} {D : Ends} {σ : L2.St} {H H' H1 : Hp} {te : TE} {Q : VK}
theorem same_fr {a : Addr} (e : Same H H1) (f : Fr a H1 H') (n : H a = none) : Same H H' := fun b o h => f b o (fun z => by rw [z, n] at h; cases h) (e b o h)
theorem w_isiS {a : Str} (h : Q (.bl true) H) : rIsiU K [.str a, .ty "str"] H Q := .inl ⟨.str a, .ty "str", .type "str", .type "str", true, rfl, .ty _, .base (.str _), kit_ty (by decide +kernel), h⟩
/-- what stands but for p -/
def del (H : Hp) (p : Addr) : Hp := fun b => if b = p then none else H b
theorem del_ne {a p : Addr} (h : a ≠ p) : del H p a = H a := if_neg h
theorem del_self {p : Addr} : del H p p = none := if_pos rfl
theorem del_same {p : Addr} : Same (del H p) H := fun b o h => by
  unfold del at h
  split at h
  · cases h
  · exact h
theorem del_fr {p : Addr} (f : Fr p H H') : Same (del H p) (del H' p) := fun b o h => by
  by_cases z : b = p
  · rw [z, del_self] at h; cases h
  · rw [del_ne z] at h ⊢; exact f b o z h
theorem del_tk {p : Addr} {xs : List V} (h : H p = some (.lst xs)) : TK H (del H p) :=
  ⟨fun b ys e => by rw [del_ne (ne_of e h (by intro z; cases z))]; exact e, fun b o u e => by rw [del_ne (ne_of e h (by intro z; cases z))]; exact e⟩
/-- a comprehension whose test lets nothing through -/
theorem lcb_Z {tt : TT} {j : Nat} {vs : List Nat} {xs : List V} {a : Addr} (hw : ∀ x, wipe ((wipe σ vs).set j (some x)) vs = wipe σ vs) (hx : SqL K H a xs)
    (turn : ∀ (i : Nat) x H1 (T : Bool → Hp → Prop), xs[i]? = some x → T false H1 → tt ((wipe σ vs).set j (some x)) H1 T)
    (k : ∀ p, H p = none → Q (.ref p) (upd H p (.lst []))) : LcB (Itl K a) (gName j) tt te vs σ Q H := by
  intro D hD
  refine lc_list (xs := xs) (fun i H' => H' = upd H D (.lst [])) rfl (fun i H' _ p => by rw [p]; exact (same_new hD).seq hx) (fun i x H' hi p => ?_) (fun H' p => by rw [p]; exact k D hD)
  refine ⟨hw x, turn i x H' _ hi ?_⟩
  show (if false = true then _ else _)
  rw [if_neg Bool.false_ne_true]
  exact p
end
end FL

/-! own layer: how long a datum's written form is at most -/
namespace FL
open PySem PySem.Spec PyProof.Rows L2 TL
structure Sm (k n : Nat) (d : PyData) : Prop where
  lay : d.canLay0 = true
  shw : d.showable = true
  nd : d.hasDict = false
  dep : d.depth ≤ k
  len : d.shown.length ≤ n
theorem Sm.mono {k n k' n' : Nat} {d : PyData} (h : Sm k n d) (hk : k ≤ k') (hn : n ≤ n') : Sm k' n' d := ⟨h.lay, h.shw, h.nd, Nat.le_trans h.dep hk, Nat.le_trans h.len hn⟩
theorem Sm.shaped {k n : Nat} {d : PyData} (h : Sm k n d) (hk : k ≤ 64) : SeqAt.shaped d = true := by
  unfold SeqAt.shaped
  rw [h.lay, decide_eq_true (Nat.le_trans h.dep hk)]; rfl
theorem Sm.self {k n : Nat} {d : PyData} (h : Sm k n d) : PyData.eqv d d = true := SeqAt.eqv_refl d h.lay
theorem sm_str {x : Str} {n : Nat} (h : ∀ c ∈ tl x, c < 1114112) (hn : x.length ≤ n) : Sm 0 (10 * n + 2) (.str x) := by
  refine ⟨?_, by simp [PyData.showable], by simp [PyData.hasDict], by simp [PyData.depth], ?_⟩
  · simp only [PyData.canLay0, PyData.strOk]
    rw [Array.all_eq_true']
    intro c hc
    exact decide_eq_true (h c (by simpa [tl] using hc))
  · simp only [PyData.shown]
    exact Nat.le_trans (StrLaws.reprText_len x fun c hc => Nat.lt_of_lt_of_le (h c hc) (by decide)) (by omega)
theorem sm_int {p : Nat} (h : p < 1000000) : Sm 0 6 (.int (p : Int)) := by
  refine ⟨by simp [PyData.canLay0], ?_, by simp [PyData.hasDict], by simp [PyData.depth], ?_⟩
  · simp only [PyData.showable]
    exact decide_eq_true (w_fmtN (A := True) (B := True) h trivial).1
  · simp only [PyData.shown]
    rw [len_tl]
    have e := tl_num p
    rw [show tl (toString (p : Int)) = numL p from e]
    exact numL_len (by decide) (by simpa using h)
theorem sm_none : Sm 0 4 .none := ⟨by simp [PyData.canLay0], by simp [PyData.showable], by simp [PyData.hasDict], by simp [PyData.depth], by simp only [PyData.shown]; decide⟩
section
variable {k n : Nat} {ds : List PyData}
theorem sm_all (h : ∀ d ∈ ds, Sm k n d) : PyData.canLayAll0 ds = true ∧ PyData.showableAll ds = true ∧ PyData.hasDictAll ds = false ∧ PyData.depthAll ds ≤ k ∧ piled (PyData.shownAll ds) ≤ ds.length * (n + 2) := by
  induction ds with
  | nil => exact ⟨by simp [PyData.canLayAll0], by simp [PyData.showableAll], by simp [PyData.hasDictAll], by simp [PyData.depthAll], by simp [PyData.shownAll, piled]⟩
  | cons d ds ih =>
    obtain ⟨h1, h2, h3, h4, h5⟩ := ih fun x hx => h x (List.mem_cons_of_mem _ hx)
    have hd := h d (List.mem_cons_self ..)
    refine ⟨?_, ?_, ?_, ?_, ?_⟩
    · rw [PyData.canLayAll0, hd.lay, h1]; rfl
    · rw [PyData.showableAll, hd.shw, h2]; rfl
    · rw [PyData.hasDictAll, hd.nd, h3]; rfl
    · rw [PyData.depthAll]; exact Nat.max_le.mpr ⟨hd.dep, h4⟩
    · rw [PyData.shownAll, piled_cons, List.length_cons, Nat.succ_mul]
      have := hd.len
      omega
theorem sm_tup (h : ∀ d ∈ ds, Sm k n d) : Sm (k + 1) (3 + ds.length * (n + 2)) (.tuple ds) := by
  obtain ⟨h1, h2, h3, h4, h5⟩ := sm_all h
  refine ⟨by rw [PyData.canLay0, h1], by rw [PyData.showable, h2], by rw [PyData.hasDict, h3], by rw [PyData.depth]; omega, ?_⟩
  rw [PyData.shown]
  unfold tupleText
  rw [strLen_append, strLen_append]
  have e1 : ((("(" : String) : Str)).length = 1 := rfl
  have e3 : (((if (PyData.shownAll ds).length == 1 then ",)" else ")" : String) : Str)).length ≤ 2 := by split <;> decide
  have e2 : (Str.join ", " (PyData.shownAll ds)).length ≤ piled (PyData.shownAll ds) := by
    by_cases z : PyData.shownAll ds = []
    · rw [z]; exact Nat.le_of_eq rfl
    · have := join_length_add _ z; omega
  rw [e1]; omega
theorem textFrom_most : ∀ (ts : List Str) (k : Nat) (acc : Str), (textFrom k acc ts).length ≤ acc.length + piled ts
  | [], k, acc => by show acc.length ≤ _; omega
  | t :: r, k, acc => by
    have ih := textFrom_most r (k + 1) (acc ++ (if k > 0 then ", " else "" : String) ++ t)
    show (textFrom (k + 1) (acc ++ (if k > 0 then ", " else "" : String) ++ t) r).length ≤ _
    rw [strLen_append, strLen_append] at ih
    have e : (((if k > 0 then ", " else "" : String) : Str)).length ≤ 2 := by split <;> decide
    rw [piled_cons]; omega
theorem sm_lst (h : ∀ d ∈ ds, Sm k n d) : Sm (k + 1) (3 + ds.length * (n + 2)) (.list ds) := by
  obtain ⟨h1, h2, h3, h4, h5⟩ := sm_all h
  refine ⟨by rw [PyData.canLay0, h1], by rw [PyData.showable, h2], by rw [PyData.hasDict, h3], by rw [PyData.depth]; omega, ?_⟩
  rw [PyData.shown]
  unfold listText
  rw [strLen_append]
  have e1 : ((("[" : String) : Str)).length = 1 := rfl
  have e2 : ((("]" : String) : Str)).length = 1 := rfl
  have := textFrom_most (PyData.shownAll ds) 0 "["
  rw [e1] at this
  rw [e2]; omega
end
/-- a call of repr -/
theorem w_repr {K : PySem.W.Frag} {H : Hp} {Q : VK} {a : Addr} {k n : Nat} {d : PyData} (h : Q (.str d.shown) H) (hd : Dp K H (.ref a) d) (s : Sm k n d) (hk : k ≤ 60) (hn : n ≤ 1000000) : rReprD K [.ref a] H Q :=
  ⟨.ref a, d, rfl, ⟨a, rfl⟩, hd, s.shw, s.nd, Nat.le_trans s.dep hk, Nat.le_trans s.len (Nat.le_trans hn (by decide)), h⟩
theorem w_eqSm {K : PySem.W.Frag} {H : Hp} {Q : VK} {x y : V} {k n : Nat} {d : PyData} (h : Q (.bl true) H) (hx : Dp K H x d) (hy : Dp K H y d) (s : Sm k n d) (hk : k ≤ 60) : rEqU K x y H Q :=
  w_eqD (by rw [s.self]; exact h) hx hy (s.shaped (by omega)) (s.shaped (by omega))
theorem w_neSm {K : PySem.W.Frag} {H : Hp} {Q : VK} {x y : V} {k n : Nat} {d : PyData} (h : Q (.bl false) H) (hx : Dp K H x d) (hy : Dp K H y d) (s : Sm k n d) (hk : k ≤ 60) : rNeU K x y H Q :=
  w_neD (by rw [s.self]; exact h) hx hy (s.shaped (by omega)) (s.shaped (by omega))
end FL

/-! deeds, events, their texts; what each def of the texts promises -/
namespace FL
open PySem PySem.Spec PyProof.Rows L2
inductive Deed where
  | put (p c : Nat) | cut (p : Nat) | non
inductive Ev where
  | come (s : Nat) | make (s : Nat) (d : Deed)
@[reducible] def sgn (c : Nat) : Str := ⟨#[c]⟩
def okC (c : Nat) : Bool := c == 32 || (decide (97 ≤ c) && decide (c ≤ 122))
def Deed.d : Deed → PyData
  | .put p c => .tuple [.str "put", .int (p : Int), .str (sgn c)]
  | .cut p => .tuple [.str "cut", .int (p : Int)]
  | .non => .tuple [.str "none"]
def Deed.ok (m : Nat) : Deed → Bool
  | .put p c => decide (p < m) && okC c
  | .cut p => decide (p < m)
  | .non => true
def Ev.d : Ev → PyData
  | .come s => .tuple [.str "come", .int (s : Int)]
  | .make s e => .tuple [.str "make", .int (s : Int), e.d]
def Ev.ok (m : Nat) : Ev → Bool
  | .come s => decide (s < 2)
  | .make s e => decide (s < 2) && e.ok m
def ofL (l : List Nat) : Str := ⟨l.toArray⟩
open TL
theorem tl_ofL (l : List Nat) : tl (ofL l) = l := rfl
theorem tl_sgn (c : Nat) : tl (sgn c) = [c] := rfl
theorem tl_empty : tl Str.empty = [] := rfl
theorem eq_ofL {x : Str} {l : List Nat} (h : tl x = l) : x = ofL l := ext_tl (by rw [h]; rfl)
theorem lit_plus : tl (Str.ofString "+") = [43] := by decide +kernel
theorem lit_minus : tl (Str.ofString "-") = [45] := by decide +kernel
theorem lit_blank : tl (Str.ofString " ") = [32] := by decide +kernel
theorem lit_come : tl (Str.ofString " <") = [32, 60] := by decide +kernel
theorem lit_feed : tl (Str.ofString "\n") = [10] := by decide +kernel
theorem lit_0 : tl (Str.ofString "0") = [48] := by decide +kernel
theorem lit_under : tl (Str.ofString "_") = [95] := by decide +kernel
theorem numL3 {p : Nat} (h : p < 1000) : (numL p).length ≤ 3 := numL_len (by decide) (by simpa using h)
theorem numL1 {p : Nat} (h : p < 10) : (numL p).length ≤ 1 := numL_len (by decide) (by simpa using h)
def wC (c : Nat) : Nat := if c = 32 then 95 else c
def wDeed : Deed → List Nat
  | .put p c => 43 :: (numL p ++ [32, wC c])
  | .cut p => 45 :: numL p
  | .non => [48]
def wEv : Ev → List Nat
  | .come s => numL s ++ [32, 60]
  | .make s e => numL s ++ (32 :: wDeed e)
def wLines (ls : List (List Nat)) : List Nat := (ls.map (· ++ [10])).flatten
/-! the script's numbers: a deck -/
def DeckAt (H : Hp) (a : Addr) (n : Nat) : Prop := ∃ d w k : Int, H a = some (.lst [.int d, .int w, .int k]) ∧ 0 ≤ k ∧ k ≤ n
theorem DeckAt.tk {H H' : Hp} {a : Addr} {n : Nat} (h : DeckAt H a n) (x : Fr a H H') : TK H H' := by
  obtain ⟨d, w, k, e, _⟩ := h
  exact x.tk e
theorem DeckAt.mono {H : Hp} {a : Addr} {n m : Nat} (h : DeckAt H a n) (l : n ≤ m) : DeckAt H a m := by
  obtain ⟨d, w, k, e, h1, h2⟩ := h
  exact ⟨d, w, k, e, h1, by omega⟩
theorem DeckAt.same {H H' : Hp} {a : Addr} {n : Nat} (h : DeckAt H a n) (x : Same H H') : DeckAt H' a n := by
  obtain ⟨d, w, k, e, h1, h2⟩ := h
  exact ⟨d, w, k, x _ _ e, h1, h2⟩
theorem DeckAt.some {H : Hp} {a p : Addr} {n : Nat} (h : DeckAt H a n) (hp : H p = none) : p ≠ a := by
  obtain ⟨d, w, k, e, _⟩ := h
  exact (ne_of_none e hp).symm

section
variable (K : PySem.W.Frag)
def sp__law_take (_ : PySem.W.Frag) : Sp := fun vs H Q _ => ∃ (a : Addr) (n : Nat) (m : Int), vs = [.ref a, .int m] ∧ DeckAt H a n ∧ n ≤ 100000 ∧ 0 < m ∧ m < 1073741824 ∧
  ∀ (r : Int) H', 0 ≤ r → r < m → Fr a H H' → DeckAt H' a (n + 1) → Q (.int r) H'
def sp__law_deck (_ : PySem.W.Frag) : Sp := fun vs H Q _ => ∃ c k : Int, vs = [.int c, .int k] ∧ 0 ≤ k ∧
  ∀ p H', H p = none → Same H H' → DeckAt H' p k.toNat → Q (.ref p) H'
def sp__law_sign (_ : PySem.W.Frag) : Sp := fun vs H Q _ => ∃ (a : Addr) (n : Nat), vs = [.ref a] ∧ DeckAt H a n ∧ n ≤ 100000 ∧
  ∀ c H', okC c = true → Fr a H H' → DeckAt H' a (n + 1) → Q (.str (sgn c)) H'
def sp__law_deed : Sp := fun vs H Q _ => ∃ (a : Addr) (n m : Nat), vs = [.ref a, .int (m : Int)] ∧ DeckAt H a n ∧ n ≤ 99990 ∧ 0 < m ∧ m < 1073741824 ∧
  ∀ (e : Deed) v H', e.ok m = true → Fr a H H' → DeckAt H' a (n + 3) → Dp K H' v e.d → Q v H'
def sp__law_event : Sp := fun vs H Q _ => ∃ (a : Addr) (n : Nat), vs = [.ref a] ∧ DeckAt H a n ∧ n ≤ 99980 ∧
  ∀ (e : Ev) v H', e.ok 1000 = true → Fr a H H' → DeckAt H' a (n + 6) → Dp K H' v e.d → Q v H'
def sp_show_sign (_ : PySem.W.Frag) : Sp := fun vs H Q _ => ∃ c, vs = [.str (sgn c)] ∧ Q (.str (sgn (wC c))) H
def sp_show_deed : Sp := fun vs H Q _ => ∃ v e, vs = [v] ∧ Dp K H v (Deed.d e) ∧ e.ok 1000 = true ∧ Q (.str (ofL (wDeed e))) H
def sp__law_written : Sp := sp_show_deed K
def sp_show_event : Sp := fun vs H Q _ => ∃ v e, vs = [v] ∧ Dp K H v (Ev.d e) ∧ e.ok 1000 = true ∧ Q (.str (ofL (wEv e))) H
def sp__law_event_written : Sp := sp_show_event K
def sp_show_row : Sp := fun vs H Q _ => ∃ (v : V) (r : List Deed), vs = [v] ∧ Dp K H v (.list (r.map Deed.d)) ∧ (∀ e ∈ r, e.ok 1000 = true) ∧ r.length ≤ 50 ∧ ∀ H', Same H H' → Q (.str (ofL (wLines (r.map wDeed)))) H'
def sp_show_story : Sp := fun vs H Q _ => ∃ (v : V) (r : List Ev), vs = [v] ∧ Dp K H v (.list (r.map Ev.d)) ∧ (∀ e ∈ r, e.ok 1000 = true) ∧ r.length ≤ 50 ∧ ∀ H', Same H H' → Q (.str (ofL (wLines (r.map wEv)))) H'
def sp_read_sign (_ : PySem.W.Frag) : Sp := fun vs H Q _ => ∃ c, okC c = true ∧ vs = [.str (sgn (wC c))] ∧ Q (.str (sgn c)) H
def sp_read_number (_ : PySem.W.Frag) : Sp := fun vs H Q _ => ∃ p : Nat, p < 1000 ∧ vs = [.str (ofL (numL p))] ∧ Q (.int (p : Int)) H
def sp_read_deed : Sp := fun vs H Q _ => ∃ e : Deed, e.ok 1000 = true ∧ vs = [.str (ofL (wDeed e))] ∧ ∀ v H', Same H H' → Dp K H' v e.d → Q v H'
def sp_read_event : Sp := fun vs H Q _ => ∃ e : Ev, e.ok 1000 = true ∧ vs = [.str (ofL (wEv e))] ∧ ∀ v H', Same H H' → Dp K H' v e.d → Q v H'
def sp_lines_in (_ : PySem.W.Frag) : Sp := fun vs H Q _ => ∃ ls : List (List Nat), (∀ l ∈ ls, 10 ∉ l) ∧ (wLines ls).length ≤ 1000000 ∧ vs = [.str (ofL (wLines ls))] ∧ ∀ p H', H p = none → Same H H' → H' p = some (.lst (ls.map fun l => .str (ofL l))) → Q (.ref p) H'
def sp_read_row : Sp := fun vs H Q _ => ∃ r : List Deed, (∀ e ∈ r, e.ok 1000 = true) ∧ r.length ≤ 50 ∧ vs = [.str (ofL (wLines (r.map wDeed)))] ∧
  ∀ p ws H', H p = none → Same H H' → H' p = some (.lst ws) → DpAll K H' ws (r.map Deed.d) → Q (.ref p) H'
def sp_read_story : Sp := fun vs H Q _ => ∃ r : List Ev, (∀ e ∈ r, e.ok 1000 = true) ∧ r.length ≤ 50 ∧ vs = [.str (ofL (wLines (r.map wEv)))] ∧
  ∀ p ws H', H p = none → Same H H' → H' p = some (.lst ws) → DpAll K H' ws (r.map Ev.d) → Q (.ref p) H'
def sp_law : Sp := fun vs H Q _ => ∃ (a : Addr) (ns : List Int), vs = [.ref a] ∧ SqL K H a (ns.map V.int) ∧ ns.length ≤ 63 ∧ ∀ H', Q (.bl true) H'
end
end FL

namespace FL
open PySem PySem.Spec PyProof.Rows L2 CwR
abbrev N__law_deck : List Str := ["cell", "k"]
def t__law_deck (K : PySem.W.Frag) : TS := (tSeq (tIfS (tTest (tOp rGeU (tVar 0) (tOp rPowU (tC (.int 10)) (tC (.int 18))))) (tRet (tLst (tCons (tOp rSubU (tVar 0) (tOp rPowU (tC (.int 10)) (tC (.int 18)))) (tCons (tC (.int 0)) (tCons (tVar 1) tNil))))) tNext) (tRet (tLst (tCons (tVar 0) (tCons (tC (.int 1)) (tCons (tVar 1) tNil))))))
abbrev N__law_take : List Str := ["deck", "many", "come", "number"]
def t__law_take (K : PySem.W.Frag) : TS := (tSeq (tIfS (tTest (tOp (rEqU K) (tOp (rIx K) (tVar 0) (tC (.int 1))) (tC (.int 0)))) (tSeq (tAsg (tOp rModU (tOp (rIx K) (tVar 0) (tC (.int 0))) (tVar 1)) (gName 2)) (tSeq (tAsg (tOp rDivU (tOp (rIx K) (tVar 0) (tC (.int 0))) (tVar 1)) (gSub (tVar 0) (tC (.int 0)) rSetL)) (tRet (tVar 2)))) tNext) (tSeq (tAsg (tOp (rAddU K) (tOp (rIx K) (tVar 0) (tC (.int 2))) (tC (.int 1))) (gSub (tVar 0) (tC (.int 2)) rSetL)) (tSeq (tAsg (tOp rMulU (tOp rModU (tOp (rIx K) (tVar 0) (tC (.int 0))) (tC (.int 2147483647))) (tOp (rAddU K) (tOp rMulU (tOp (rIx K) (tVar 0) (tC (.int 2))) (tOp (rIx K) (tVar 0) (tC (.int 2)))) (tC (.int 48271)))) (gName 3)) (tSeq (tAsg (tOp rModU (tOp (rAddU K) (tOp (rAddU K) (tVar 3) (tOp (rIx K) (tVar 0) (tC (.int 2)))) (tC (.int 7))) (tC (.int 2147483629))) (gName 3)) (tSeq (tAsg (tOp rModU (tOp rMulU (tVar 3) (tVar 3)) (tC (.int 2147483587))) (gName 3)) (tRet (tOp rModU (tOp rDivU (tOp rModU (tOp rMulU (tVar 3) (tC (.int 69621))) (tC (.int 2147483563))) (tC (.int 8))) (tVar 1))))))))
abbrev N__law_sign : List Str := ["deck"]
def t__law_sign (K : PySem.W.Frag) : TS := (tRet (tOp (rIx K) (tC (.str "abcdefghijklmnopqrstuvwxyz ")) (tCall (sp__law_take K) [] E0 (tCons (tVar 0) (tCons (tC (.int 27)) tNil)))))
abbrev N__law_deed : List Str := ["deck", "place", "way"]
def t__law_deed (K : PySem.W.Frag) : TS := (tSeq (tAsg (tCall (sp__law_take K) [] E0 (tCons (tVar 0) (tCons (tC (.int 7)) tNil))) (gName 2)) (tSeq (tIfS (tTest (tOp rLtU (tVar 2) (tC (.int 4)))) (tRet (tTup (tCons (tC (.str "put")) (tCons (tCall (sp__law_take K) [] E0 (tCons (tVar 0) (tCons (tVar 1) tNil))) (tCons (tCall (sp__law_sign K) [] E0 (tCons (tVar 0) tNil)) tNil))))) tNext) (tSeq (tIfS (tTest (tOp rLtU (tVar 2) (tC (.int 6)))) (tRet (tTup (tCons (tC (.str "cut")) (tCons (tCall (sp__law_take K) [] E0 (tCons (tVar 0) (tCons (tVar 1) tNil))) tNil)))) tNext) (tRet (tTup (tCons (tC (.str "none")) tNil))))))
abbrev N__law_event : List Str := ["deck", "seat"]
def t__law_event (K : PySem.W.Frag) : TS := (tSeq (tAsg (tCall (sp__law_take K) [] E0 (tCons (tVar 0) (tCons (tC (.int 2)) tNil))) (gName 1)) (tSeq (tIfS (tTest (tOp (rEqU K) (tCall (sp__law_take K) [] E0 (tCons (tVar 0) (tCons (tC (.int 3)) tNil))) (tC (.int 0)))) (tRet (tTup (tCons (tC (.str "come")) (tCons (tVar 1) tNil)))) tNext) (tRet (tTup (tCons (tC (.str "make")) (tCons (tVar 1) (tCons (tCall (sp__law_deed K) [] E0 (tCons (tVar 0) (tCons (tOp (rIx K) (tLst (tCons (tC (.int 12)) (tCons (tC (.int 1000)) tNil))) (tCall (sp__law_take K) [] E0 (tCons (tVar 0) (tCons (tC (.int 2)) tNil)))) tNil))) tNil)))))))
abbrev N_show_sign : List Str := ["sign"]
def t_show_sign (K : PySem.W.Frag) : TS := (tSeq (tIfS (tTest (tOp (rEqU K) (tVar 0) (tC (.str " ")))) (tRet (tC (.str "_"))) tNext) (tRet (tVar 0)))
abbrev N_show_deed : List Str := ["deed"]
def t_show_deed (K : PySem.W.Frag) : TS := (tSeq (tIfS (tTest (tOp (rEqU K) (tOp (rIx K) (tVar 0) (tC (.int 0))) (tC (.str "put")))) (tRet (tOp (rAddU K) (tJoined [(tC (.str "+")), (tFmt (tOp (rIx K) (tVar 0) (tC (.int 1)))), (tC (.str " "))]) (tCall (sp_show_sign K) [] E0 (tCons (tOp (rIx K) (tVar 0) (tC (.int 2))) tNil)))) tNext) (tSeq (tIfS (tTest (tOp (rEqU K) (tOp (rIx K) (tVar 0) (tC (.int 0))) (tC (.str "cut")))) (tRet (tJoined [(tC (.str "-")), (tFmt (tOp (rIx K) (tVar 0) (tC (.int 1))))])) tNext) (tRet (tC (.str "0")))))
abbrev N_show_row : List Str := ["row", "deed"]
def t_show_row (K : PySem.W.Frag) : TS := (tRet (tJoin K (tC (.str "")) (tLc (iList K (tVar 0)) (gName 1) tYes (tOp (rAddU K) (tCall (sp_show_deed K) [] E0 (tCons (tVar 1) tNil)) (tC (.str "\n"))) [1])))
abbrev N_show_event : List Str := ["event"]
def t_show_event (K : PySem.W.Frag) : TS := (tSeq (tIfS (tTest (tOp (rEqU K) (tOp (rIx K) (tVar 0) (tC (.int 0))) (tC (.str "come")))) (tRet (tJoined [(tFmt (tOp (rIx K) (tVar 0) (tC (.int 1)))), (tC (.str " <"))])) tNext) (tRet (tOp (rAddU K) (tJoined [(tFmt (tOp (rIx K) (tVar 0) (tC (.int 1)))), (tC (.str " "))]) (tCall (sp_show_deed K) [] E0 (tCons (tOp (rIx K) (tVar 0) (tC (.int 2))) tNil)))))
abbrev N_show_story : List Str := ["story", "event"]
def t_show_story (K : PySem.W.Frag) : TS := (tRet (tJoin K (tC (.str "")) (tLc (iList K (tVar 0)) (gName 1) tYes (tOp (rAddU K) (tCall (sp_show_event K) [] E0 (tCons (tVar 1) tNil)) (tC (.str "\n"))) [1])))
abbrev N_read_number : List Str := ["word", "figure"]
def t_read_number (K : PySem.W.Frag) : TS := (tSeq (tIfS (tOr (tNot (tTest (tChain rLeU rLeU (tC (.int 1)) (tCB (rLenU K) (tCons (tVar 0) tNil)) (tC (.int 3))))) (tAnd (tTest (tOp (rEqU K) (tOp (rIx K) (tVar 0) (tC (.int 0))) (tC (.str "0")))) (tTest (tOp (rNeU K) (tVar 0) (tC (.str "0")))))) tNever tNext) (tSeq (tFor (iStr (tVar 0)) (gName 1) (tIfS (tTest (tOp (rNiU K) (tVar 1) (tC (.str "0123456789")))) tNever tNext)) (tRet (tCB rIntU (tCons (tVar 0) tNil)))))
abbrev N_read_sign : List Str := ["sign"]
def t_read_sign (K : PySem.W.Frag) : TS := (tSeq (tIfS (tTest (tOp (rEqU K) (tVar 0) (tC (.str "_")))) (tRet (tC (.str " "))) tNext) (tSeq (tIfS (tOr (tTest (tOp (rNeU K) (tCB (rLenU K) (tCons (tVar 0) tNil)) (tC (.int 1)))) (tOr (tTest (tOp (rEqU K) (tVar 0) (tC (.str " ")))) (tTest (tOp (rNiU K) (tVar 0) (tC (.str "abcdefghijklmnopqrstuvwxyz ")))))) tNever tNext) (tRet (tVar 0))))
abbrev N_read_deed : List Str := ["text", "words"]
def t_read_deed (K : PySem.W.Frag) : TS := (tSeq (tIfS (tTest (tOp (rEqU K) (tVar 0) (tC (.str "0")))) (tRet (tTup (tCons (tC (.str "none")) tNil))) tNext) (tSeq (tIfS (tTest (tOp (rEqU K) (tSl (rSlU K) (tVar 0) tNoPart (tPart (tC (.int 1)))) (tC (.str "-")))) (tRet (tTup (tCons (tC (.str "cut")) (tCons (tCall (sp_read_number K) [] E0 (tCons (tSl (rSlU K) (tVar 0) (tPart (tC (.int 1))) tNoPart) tNil)) tNil)))) tNext) (tSeq (tAsg (tSplit (tVar 0) (tC (.str " "))) (gName 1)) (tSeq (tIfS (tOr (tTest (tOp (rNeU K) (tSl (rSlU K) (tVar 0) tNoPart (tPart (tC (.int 1)))) (tC (.str "+")))) (tTest (tOp (rNeU K) (tCB (rLenU K) (tCons (tVar 1) tNil)) (tC (.int 2))))) tNever tNext) (tRet (tTup (tCons (tC (.str "put")) (tCons (tCall (sp_read_number K) [] E0 (tCons (tSl (rSlU K) (tOp (rIx K) (tVar 1) (tC (.int 0))) (tPart (tC (.int 1))) tNoPart) tNil)) (tCons (tCall (sp_read_sign K) [] E0 (tCons (tOp (rIx K) (tVar 1) (tC (.int 1))) tNil)) tNil)))))))))
abbrev N_lines_in : List Str := ["text", "lines"]
def t_lines_in (K : PySem.W.Frag) : TS := (tSeq (tAsg (tSplit (tVar 0) (tC (.str "\n"))) (gName 1)) (tSeq (tIfS (tTest (tOp (rNeU K) (tOp (rIx K) (tVar 1) (tUn rNegU (tC (.int 1)))) (tC (.str "")))) tNever tNext) (tRet (tSl (rSlU K) (tVar 1) tNoPart (tPart (tUn rNegU (tC (.int 1))))))))
abbrev N_read_row : List Str := ["text", "line"]
def t_read_row (K : PySem.W.Frag) : TS := (tRet (tLc (iList K (tCall (sp_lines_in K) [] E0 (tCons (tVar 0) tNil))) (gName 1) tYes (tCall (sp_read_deed K) [] E0 (tCons (tVar 1) tNil)) [1]))
abbrev N_read_event : List Str := ["line", "seat"]
def t_read_event (K : PySem.W.Frag) : TS := (tSeq (tIfS (tTest (tOp (rNiU K) (tSl (rSlU K) (tVar 0) tNoPart (tPart (tC (.int 2)))) (tTup (tCons (tC (.str "0 ")) (tCons (tC (.str "1 ")) tNil))))) tNever tNext) (tSeq (tAsg (tCB rIntU (tCons (tSl (rSlU K) (tVar 0) tNoPart (tPart (tC (.int 1)))) tNil)) (gName 1)) (tSeq (tIfS (tTest (tOp (rEqU K) (tSl (rSlU K) (tVar 0) (tPart (tC (.int 2))) tNoPart) (tC (.str "<")))) (tRet (tTup (tCons (tC (.str "come")) (tCons (tVar 1) tNil)))) tNext) (tRet (tTup (tCons (tC (.str "make")) (tCons (tVar 1) (tCons (tCall (sp_read_deed K) [] E0 (tCons (tSl (rSlU K) (tVar 0) (tPart (tC (.int 2))) tNoPart) tNil)) tNil))))))))
abbrev N_read_story : List Str := ["text", "line"]
def t_read_story (K : PySem.W.Frag) : TS := (tRet (tLc (iList K (tCall (sp_lines_in K) [] E0 (tCons (tVar 0) tNil))) (gName 1) tYes (tCall (sp_read_event K) [] E0 (tCons (tVar 1) tNil)) [1]))
abbrev N__law_written : List Str := ["deed"]
def t__law_written (K : PySem.W.Frag) : TS := (tSeq (tIfS (tTest (tOp (rEqU K) (tOp (rIx K) (tVar 0) (tC (.int 0))) (tC (.str "put")))) (tRet (tOp (rAddU K) (tOp (rAddU K) (tOp (rAddU K) (tC (.str "+")) (tCB rStrU (tCons (tOp (rIx K) (tVar 0) (tC (.int 1))) tNil))) (tC (.str " "))) (tReplC (tOp (rIx K) (tVar 0) (tC (.int 2))) " " "_"))) tNext) (tRet (tIf (tTest (tOp (rEqU K) (tOp (rIx K) (tVar 0) (tC (.int 0))) (tC (.str "cut")))) (tOp (rAddU K) (tC (.str "-")) (tCB rStrU (tCons (tOp (rIx K) (tVar 0) (tC (.int 1))) tNil))) (tC (.str "0")))))
abbrev N__law_event_written : List Str := ["event"]
def t__law_event_written (K : PySem.W.Frag) : TS := (tSeq (tIfS (tTest (tOp (rEqU K) (tOp (rIx K) (tVar 0) (tC (.int 0))) (tC (.str "come")))) (tRet (tOp (rAddU K) (tCB rStrU (tCons (tOp (rIx K) (tVar 0) (tC (.int 1))) tNil)) (tC (.str " <")))) tNext) (tRet (tOp (rAddU K) (tOp (rAddU K) (tCB rStrU (tCons (tOp (rIx K) (tVar 0) (tC (.int 1))) tNil)) (tC (.str " "))) (tCall (sp__law_written K) [] E0 (tCons (tOp (rIx K) (tVar 0) (tC (.int 2))) tNil)))))
abbrev N_law : List Str := ["script", "held", "cell", "deck", "row", "k", "most", "story", "due", "deed", "event", "handed", "told", "text", "texts", "found"]
def t_law (K : PySem.W.Frag) : TS := (tSeq (tAsg (tLst tNil) (gName 1)) (tSeq (tFor (iList K (tOp (rAddU K) (tSl (rSlU K) (tVar 0) tNoPart (tPart (tC (.int 30)))) (tLst (tCons (tC (.int 0)) tNil)))) (gName 2) (tSeq (tAsg (tCall (sp__law_deck K) [] E0 (tCons (tVar 2) (tCons (tC (.int 3)) tNil))) (gName 3)) (tSeq (tAsg (tLc (iRng1 (tCons (tCall (sp__law_take K) [] E0 (tCons (tVar 3) (tCons (tC (.int 21)) tNil))) tNil)) (gName 5) tYes (tCall (sp__law_deed K) [] E0 (tCons (tVar 3) (tCons (tOp (rIx K) (tLst (tCons (tC (.int 12)) (tCons (tC (.int 1000)) tNil))) (tCall (sp__law_take K) [] E0 (tCons (tVar 3) (tCons (tC (.int 2)) tNil)))) tNil))) [5]) (gName 4)) (tSeq (tAsg (tOp (rIx K) (tLst (tCons (tC (.int 21)) (tCons (tC (.int 41)) tNil))) (tCB rIntU (tCons (tOp (rEqU K) (tCall (sp__law_take K) [] E0 (tCons (tVar 3) (tCons (tC (.int 8)) tNil))) (tC (.int 3))) tNil))) (gName 6)) (tSeq (tAsg (tLc (iRng1 (tCons (tCall (sp__law_take K) [] E0 (tCons (tVar 3) (tCons (tVar 6) tNil))) tNil)) (gName 5) tYes (tCall (sp__law_event K) [] E0 (tCons (tVar 3) tNil)) [5]) (gName 7)) (tSeq (tAsg (tLst (tCons (tJoin K (tC (.str "")) (tLc (iList K (tVar 4)) (gName 9) tYes (tOp (rAddU K) (tCall (sp__law_written K) [] E0 (tCons (tVar 9) tNil)) (tC (.str "\n"))) [9])) tNil)) (gName 8)) (tSeq (tDrop (tBM K "list" rAppend (tVar 8) (tCons (tJoin K (tC (.str "")) (tLc (iList K (tVar 7)) (gName 10) tYes (tOp (rAddU K) (tCall (sp__law_event_written K) [] E0 (tCons (tVar 10) tNil)) (tC (.str "\n"))) [10])) tNil))) (tSeq (tAsg (tLst (tCons (tCB (rListU K) (tCons (tVar 4) tNil)) (tCons (tCB (rListU K) (tCons (tVar 7) tNil)) tNil))) (gName 11)) (tSeq (tAsg (tLst (tCons (tCall (sp_show_row K) [] E0 (tCons (tOp (rIx K) (tVar 11) (tC (.int 0))) tNil)) (tCons (tCall (sp_show_story K) [] E0 (tCons (tOp (rIx K) (tVar 11) (tC (.int 1))) tNil)) tNil))) (gName 12)) (tSeq (tIfS (tOr (tTest (tOp (rNeU K) (tVar 12) (tVar 8))) (tTest (tOp (rNeU K) (tVar 11) (tLst (tCons (tVar 4) (tCons (tVar 7) tNil)))))) (tRet (tC (.bl false))) tNext) (tSeq (tIfS (tTest (tOp (rNeU K) (tLc (iList K (tVar 12)) (gName 13) (tNot (tB (tCB (rIsiU K) (tCons (tVar 13) (tCons (tC (.ty "str")) tNil))))) (tVar 13) [13]) (tLst tNil))) (tRet (tC (.bl false))) tNext) (tDrop (tBM K "list" rAppend (tVar 1) (tCons (tTup (tCons (tVar 4) (tCons (tVar 7) (tCons (tVar 8) tNil)))) tNil)))))))))))))) (tSeq (tFor (iList K (tVar 1)) (gTup K 3 (gCons (gName 4) (gCons (gName 7) (gCons (gName 14) gNil)))) (tSeq (tAsg (tLst (tCons (tCall (sp_read_row K) [] E0 (tCons (tOp (rIx K) (tVar 14) (tC (.int 0))) tNil)) (tCons (tCall (sp_read_story K) [] E0 (tCons (tOp (rIx K) (tVar 14) (tC (.int 1))) tNil)) tNil))) (gName 15)) (tSeq (tIfS (tTest (tOp (rNeU K) (tCB (rReprD K) (tCons (tVar 15) tNil)) (tCB (rReprD K) (tCons (tLst (tCons (tVar 4) (tCons (tVar 7) tNil))) tNil)))) (tRet (tC (.bl false))) tNext) (tSeq (tDrop (tBM K "list" rAppend (tOp (rIx K) (tVar 15) (tC (.int 0))) (tCons (tC .non) tNil))) (tSeq (tDrop (tBM K "list" rAppend (tOp (rIx K) (tVar 15) (tC (.int 1))) (tCons (tC .non) tNil))) (tIfS (tTest (tOp (rNeU K) (tCB (rReprD K) (tCons (tLst (tCons (tCall (sp_read_row K) [] E0 (tCons (tOp (rIx K) (tVar 14) (tC (.int 0))) tNil)) (tCons (tCall (sp_read_story K) [] E0 (tCons (tOp (rIx K) (tVar 14) (tC (.int 1))) tNil)) tNil))) tNil)) (tCB (rReprD K) (tCons (tLst (tCons (tVar 4) (tCons (tVar 7) tNil))) tNil)))) (tRet (tC (.bl false))) tNext)))))) (tRet (tC (.bl true))))))
end FL

namespace FL
open PySem PySem.Spec PyProof.Rows L2 CwR
local macro_rules | `(tactic| walk_at "tls") => `(tactic| (simp only [TL.tl_append, TL.tl_num, tl_ofL, tl_sgn, tl_empty, lit_plus, lit_minus, lit_blank, lit_come, lit_feed, lit_0, lit_under, wDeed, wEv, List.nil_append, List.append_nil, List.cons_append, List.append_assoc]))
local macro_rules | `(tactic| walk_at "szt") => `(tactic| (simp only [TL.len_tl, TL.tl_append, TL.tl_num, tl_ofL, tl_sgn, tl_empty, lit_plus, lit_minus, lit_blank, lit_come, lit_feed, lit_0, lit_under, List.length_append, List.length_cons, List.length_nil]; omega))
local macro_rules | `(tactic| walk_at "beta") => `(tactic| (try dsimp only [List.set_cons_zero, List.set_cons_succ]))
local macro_rules | `(tactic| walk_at "sq") => `(tactic| first | assumption | exact SqL.of upd_same | exact SqT.of upd_same | exact SqL.of (by assumption) | exact SqT.of (by assumption))
local macro_rules | `(tactic| walk_at "wp1") => `(tactic| first
  | with_reducible refine w_seq ?_
  | with_reducible refine w_set ?_
  | ((with_reducible refine' w_var ?e ?k); (case e => exact rfl))
  | with_reducible refine w_c ?_
  | with_reducible refine w_op ?_
  | with_reducible refine w_ret ?_
  | with_reducible refine w_if ?_
  | with_reducible refine w_test ?_
  | with_reducible refine w_bl ?_
  | with_reducible refine w_cons ?_
  | with_reducible refine w_nil ?_
  | with_reducible refine w_call ?_
  | with_reducible refine w_cb ?_
  | with_reducible refine w_next ?_
  | with_reducible refine w_drop ?_
  | with_reducible refine w_asg ?_
  | with_reducible refine w_and ?_
  | with_reducible refine w_or ?_
  | with_reducible refine w_not ?_
  | with_reducible refine w_ifE ?_
  | with_reducible refine w_tB ?_
  | with_reducible refine iteT ?_
  | with_reducible refine iteF ?_
  | with_reducible refine w_addI ?_
  | with_reducible refine w_subI ?_
  | with_reducible refine w_ltI ?_
  | with_reducible refine w_leI ?_
  | with_reducible refine w_gtI ?_
  | with_reducible refine w_geI ?_
  | with_reducible refine w_eqI ?_
  | with_reducible refine w_neI ?_
  | with_reducible refine w_eqS ?_
  | with_reducible refine w_neS ?_
  | with_reducible refine w_is ?_
  | with_reducible refine w_isNot ?_
  | with_reducible refine w_intI ?_
  | with_reducible refine w_intB ?_
  | with_reducible refine w_inC ?_
  | with_reducible refine w_niC ?_
  | ((with_reducible refine' w_ixL ?k ?h ?x); (case h => walk_at "sq"); (case x => rfl))
  | ((with_reducible refine' w_ixT ?k ?h ?x); (case h => walk_at "sq"); (case x => rfl))
  | ((with_reducible refine w_modI ?k ?c); (case c => first | assumption | omega | decide))
  | ((with_reducible refine w_divI ?k ?c); (case c => exact ⟨by omega, by omega⟩))
  | ((with_reducible refine w_mulI ?k ?c); (case c => first | exact .inl ⟨by omega, by omega⟩ | exact .inr ⟨by omega, by omega⟩))
  | ((with_reducible refine w_powI ?k ?c); (case c => exact ⟨by decide, by decide, by decide⟩))
  | ((with_reducible refine' w_lenL ?k ?h); (case h => walk_at "sq"))
  | ((with_reducible refine' w_lenT ?k ?h); (case h => walk_at "sq"))
  | ((with_reducible refine w_len ?h ?k); (case h => exact Nat.le_of_ble_eq_true rfl))
  | ((with_reducible refine w_decTS ?h ?k); (case h => exact rfl))
  | ((with_reducible refine w_decFS ?h ?k); (case h => decide +kernel))
  | ((with_reducible refine w_ndecTS ?h ?k); (case h => exact rfl))
  | ((with_reducible refine w_ndecFS ?h ?k); (case h => decide +kernel))
  | ((with_reducible refine w_sz ?h ?k); (case h => walk_at "szt"))
  | ((with_reducible refine w_addS' ?k ?h); (case h => walk_at "szt"))
  | ((with_reducible refine w_strI' ?k ?h); (case h => omega))
  | ((with_reducible refine w_fmtN (A := True) ?h ?k); (case h => omega))
  | with_reducible refine w_chain ?_
  | with_reducible refine w_for ?_
  | with_reducible refine w_lc ?_
  | ((with_reducible refine w_rng ?h ?k); (case h => exact ⟨by omega, by omega⟩))
  | with_reducible refine w_iStr ?_
  | with_reducible refine w_iList ?_
  | with_reducible refine w_iRng1 ?_
  | with_reducible refine w_exR ?_
  | ((with_reducible refine' w_exSqL ?h ?k); (case h => walk_at "sq"))
  | ((with_reducible refine w_lenS ?k ?h); (case h => refine Nat.le_trans ?_ (by decide : 1000000 ≤ sizeLine); walk_at "szt"))
  | ((with_reducible refine w_slS ?k ?h); (case h => refine Nat.le_trans ?_ (by decide : 1000000 ≤ sizeLine); walk_at "szt"))
  | with_reducible refine w_nT ?_
  | with_reducible refine w_nF ?_
  | with_reducible refine w_un ?_
  | with_reducible refine w_negI ?_
  | with_reducible refine w_bm ?_
  | with_reducible refine w_bm0 ?_
  | ((with_reducible refine' w_tyL ?h ?k); (case h => walk_at "sq"))
  | ((with_reducible refine' w_append ?p ?l ?k); (case p => first | assumption | exact upd_same); (case l => first | exact Nat.le_of_ble_eq_true rfl | omega))
  | with_reducible refine w_gsub ?_
  | with_reducible refine w_gname ?_
  | ((with_reducible refine' w_setL ?p ?i ?k); (case p => first | assumption | exact upd_same); (case i => exact rfl))
  | with_reducible refine w_tup ?_
  | with_reducible refine w_lst ?_
  | with_reducible refine w_sl ?_
  | with_reducible refine w_noPart ?_
  | with_reducible refine w_part ?_
  | with_reducible refine w_exI ?_
  | with_reducible refine w_exS ?_
  | with_reducible refine w_join ?_
  | with_reducible refine w_split ?_
  | with_reducible refine w_isS ?_
  | with_reducible refine w_joined ?_
  | with_reducible refine w_jsNil ?_
  | with_reducible refine w_jsCons ?_
  | with_reducible refine w_fmt ?_
  | with_reducible refine w_fmtI ?_
  | with_reducible refine w_repl ?_
  | with_reducible refine w_andV ?_
  | with_reducible refine w_orV ?_
  | with_reducible refine w_notV ?_
  | with_reducible refine w_retN ?_
  | with_reducible refine w_brk ?_
  | with_reducible refine w_cont ?_)
local macro_rules | `(tactic| walk_at "wp") => `(tactic| ((try dsimp only); (repeat walk_at "wp1"); (walk_at "beta")))
section
variable {K : PySem.W.Frag} {vs : List V} {H : Hp} {Q : VK} {E : XK}
theorem pr__law_take (h : sp__law_take K vs H Q E) : t__law_take K { nx := fun _ H' => Q .non H', rt := Q } (start N__law_take vs) H := by
  obtain ⟨a, n, m, rfl, hd, hn, h0, h1, k⟩ := h
  obtain ⟨d, w, kk, ha, hk0, hk1⟩ := id hd
  unfold t__law_take
  walk_at "wp"
  refine w_dec ?_ ?_ <;> intro hw
  · walk_at "wp"
    exact k _ _ (Int.emod_nonneg _ (by omega)) (Int.emod_lt_of_pos _ h0) (Fr.refl a H).upd ⟨_, _, _, upd_same, hk0, by omega⟩
  · walk_at "wp"
    exact k _ _ (Int.emod_nonneg _ (by omega)) (Int.emod_lt_of_pos _ h0) (Fr.refl a H).upd ⟨_, _, _, upd_same, by omega, by omega⟩
theorem pr__law_deck (h : sp__law_deck K vs H Q E) : t__law_deck K { nx := fun _ H' => Q .non H', rt := Q } (start N__law_deck vs) H := by
  obtain ⟨c, i, rfl, h0, k⟩ := h
  unfold t__law_deck
  walk_at "wp"
  refine w_dec ?_ ?_ <;> intro hw
  · walk_at "wp"
    exact fun p hp => k p _ hp (same_new hp) ⟨_, _, _, upd_same, h0, by omega⟩
  · walk_at "wp"
    exact fun p hp => k p _ hp (same_new hp) ⟨_, _, _, upd_same, h0, by omega⟩
theorem pr__law_sign (h : sp__law_sign K vs H Q E) : t__law_sign K { nx := fun _ H' => Q .non H', rt := Q } (start N__law_sign vs) H := by
  obtain ⟨a, n, rfl, hd, hn, k⟩ := h
  unfold t__law_sign
  walk_at "wp"
  refine ⟨a, n, 27, rfl, hd, hn, by decide, by decide, fun r H1 h0 h1 fr hd1 => ?_⟩
  obtain ⟨j, rfl⟩ : ∃ j : Nat, r = (j : Int) := ⟨r.toNat, by omega⟩
  have hj : j < 27 := by omega
  have al : ∀ j, j < 27 → ∃ c, ("abcdefghijklmnopqrstuvwxyz " : Str).cps.toList[j]? = some c ∧ okC c = true := by decide +kernel
  obtain ⟨c, hc, hk⟩ := al j hj
  exact w_ixS (k c H1 hk fr hd1) (by decide) (atI_nat hc)
theorem pr__law_deed (h : sp__law_deed K vs H Q E) : t__law_deed K { nx := fun _ H' => Q .non H', rt := Q } (start N__law_deed vs) H := by
  obtain ⟨a, n, m, rfl, hd, hn, h0, h1, k⟩ := h
  unfold t__law_deed
  walk_at "wp"
  refine ⟨a, n, 7, rfl, hd, by omega, by decide, by decide, fun r H1 r0 r1 f1 d1 => ?_⟩
  walk_at "wp"
  refine w_dec ?_ ?_ <;> intro hw
  · walk_at "wp"
    refine ⟨a, n + 1, m, rfl, d1, by omega, by omega, by omega, fun q H2 q0 q1 f2 d2 => ?_⟩
    walk_at "wp"
    refine ⟨a, n + 2, rfl, d2, by omega, fun c H3 hc f3 d3 => ?_⟩
    walk_at "wp"
    intro p hp
    obtain ⟨j, rfl⟩ : ∃ j : Nat, q = (j : Int) := ⟨q.toNat, by omega⟩
    refine k (.put j c) _ _ ?_ (((f1.trans f2).trans f3).new hp) (d3.same (same_new hp)) ?_
    · simp [Deed.ok, hc]; omega
    · exact .tup (SqT.of upd_same) (.cons (.str _) (.cons (.int _) (.cons (.str _) .nil)))
  · walk_at "wp"
    refine w_dec ?_ ?_ <;> intro hw2
    · walk_at "wp"
      refine ⟨a, n + 1, m, rfl, d1, by omega, by omega, by omega, fun q H2 q0 q1 f2 d2 => ?_⟩
      walk_at "wp"
      intro p hp
      obtain ⟨j, rfl⟩ : ∃ j : Nat, q = (j : Int) := ⟨q.toNat, by omega⟩
      refine k (.cut j) _ _ ?_ ((f1.trans f2).new hp) ((d2.same (same_new hp)).mono (by omega)) ?_
      · simp [Deed.ok]; omega
      · exact .tup (SqT.of upd_same) (.cons (.str _) (.cons (.int _) .nil))
    · walk_at "wp"
      intro p hp
      refine k .non _ _ rfl (f1.new hp) ((d1.same (same_new hp)).mono (by omega)) ?_
      exact .tup (SqT.of upd_same) (.cons (.str _) .nil)
theorem noL_deed (e : Deed) : noL e.d = true := by cases e <;> rfl
theorem noL_ev (e : Ev) : noL e.d = true := by
  cases e with
  | come s => rfl
  | make s e => cases e <;> rfl
theorem pr__law_event (h : sp__law_event K vs H Q E) : t__law_event K { nx := fun _ H' => Q .non H', rt := Q } (start N__law_event vs) H := by
  obtain ⟨a, n, rfl, hd, hn, k⟩ := h
  unfold t__law_event
  walk_at "wp"
  refine ⟨a, n, 2, rfl, hd, by omega, by decide, by decide, fun s H1 s0 s1 f1 d1 => ?_⟩
  walk_at "wp"
  refine ⟨a, n + 1, 3, rfl, d1, by omega, by decide, by decide, fun r H2 r0 r1 f2 d2 => ?_⟩
  obtain ⟨s, rfl⟩ : ∃ j : Nat, s = (j : Int) := ⟨s.toNat, by omega⟩
  walk_at "wp"
  refine w_dec ?_ ?_ <;> intro hw
  · walk_at "wp"
    intro p hp
    refine k (.come s) _ _ ?_ ((f1.trans f2).new hp) ((d2.same (same_new hp)).mono (by omega)) ?_
    · simp [Ev.ok]; omega
    · exact .tup (SqT.of upd_same) (.cons (.str _) (.cons (.int _) .nil))
  · walk_at "wp"
    intro l hl
    walk_at "wp"
    refine ⟨a, n + 2, 2, rfl, d2.same (same_new hl), by omega, by decide, by decide, fun r2 H3 q0 q1 f3 d3 => ?_⟩
    have hl3 : H3 l = some (.lst [.int 12, .int 1000]) := f3 l _ (d2.some hl) upd_same
    obtain ⟨m, hm, hm2⟩ : ∃ m : Nat, atI [V.int 12, V.int 1000] r2 = some (.int (m : Int)) ∧ (m = 12 ∨ m = 1000) := by
      obtain rfl | rfl : r2 = 0 ∨ r2 = 1 := by omega
      · exact ⟨12, rfl, .inl rfl⟩
      · exact ⟨1000, rfl, .inr rfl⟩
    refine w_ixL ?_ (SqL.of hl3) hm
    walk_at "wp"
    refine ⟨a, n + 3, m, rfl, d3, by omega, by omega, by omega, fun e v H4 he f4 d4 hv => ?_⟩
    walk_at "wp"
    intro p hp
    refine k (.make s e) _ _ ?_ (((((f1.trans f2).new hl).trans f3).trans f4).new hp) (d4.same (same_new hp)) ?_
    · have he' : e.ok 1000 = true := by
        cases e <;> simp_all [Deed.ok] <;> omega
      simp [Ev.ok, he']; omega
    · exact .tup (SqT.of upd_same) (.cons (.str _) (.cons (.int _) (.cons (dp_same (same_new hp) hv) .nil)))
end
end FL

namespace FL
open PySem PySem.Spec PyProof.Rows L2 CwR TL
local macro_rules | `(tactic| walk_at "tls") => `(tactic| (simp only [TL.tl_append, TL.tl_num, tl_ofL, tl_sgn, tl_empty, lit_plus, lit_minus, lit_blank, lit_come, lit_feed, lit_0, lit_under, wDeed, wEv, List.nil_append, List.append_nil, List.cons_append, List.append_assoc]))
local macro_rules | `(tactic| walk_at "szt") => `(tactic| (simp only [TL.len_tl, TL.tl_append, TL.tl_num, tl_ofL, tl_sgn, tl_empty, lit_plus, lit_minus, lit_blank, lit_come, lit_feed, lit_0, lit_under, List.length_append, List.length_cons, List.length_nil]; omega))
local macro_rules | `(tactic| walk_at "beta") => `(tactic| (try dsimp only [List.set_cons_zero, List.set_cons_succ]))
local macro_rules | `(tactic| walk_at "sq") => `(tactic| first | assumption | exact SqL.of upd_same | exact SqT.of upd_same | exact SqL.of (by assumption) | exact SqT.of (by assumption))
local macro_rules | `(tactic| walk_at "wp1") => `(tactic| first
  | with_reducible refine w_seq ?_
  | with_reducible refine w_set ?_
  | ((with_reducible refine' w_var ?e ?k); (case e => exact rfl))
  | with_reducible refine w_c ?_
  | with_reducible refine w_op ?_
  | with_reducible refine w_ret ?_
  | with_reducible refine w_if ?_
  | with_reducible refine w_test ?_
  | with_reducible refine w_bl ?_
  | with_reducible refine w_cons ?_
  | with_reducible refine w_nil ?_
  | with_reducible refine w_call ?_
  | with_reducible refine w_cb ?_
  | with_reducible refine w_next ?_
  | with_reducible refine w_drop ?_
  | with_reducible refine w_asg ?_
  | with_reducible refine w_and ?_
  | with_reducible refine w_or ?_
  | with_reducible refine w_not ?_
  | with_reducible refine w_ifE ?_
  | with_reducible refine w_tB ?_
  | with_reducible refine iteT ?_
  | with_reducible refine iteF ?_
  | with_reducible refine w_addI ?_
  | with_reducible refine w_subI ?_
  | with_reducible refine w_ltI ?_
  | with_reducible refine w_leI ?_
  | with_reducible refine w_gtI ?_
  | with_reducible refine w_geI ?_
  | with_reducible refine w_eqI ?_
  | with_reducible refine w_neI ?_
  | with_reducible refine w_eqS ?_
  | with_reducible refine w_neS ?_
  | with_reducible refine w_is ?_
  | with_reducible refine w_isNot ?_
  | with_reducible refine w_intI ?_
  | with_reducible refine w_intB ?_
  | with_reducible refine w_inC ?_
  | with_reducible refine w_niC ?_
  | ((with_reducible refine' w_ixL ?k ?h ?x); (case h => walk_at "sq"); (case x => rfl))
  | ((with_reducible refine' w_ixT ?k ?h ?x); (case h => walk_at "sq"); (case x => rfl))
  | ((with_reducible refine w_modI ?k ?c); (case c => first | assumption | omega | decide))
  | ((with_reducible refine w_divI ?k ?c); (case c => exact ⟨by omega, by omega⟩))
  | ((with_reducible refine w_mulI ?k ?c); (case c => first | exact .inl ⟨by omega, by omega⟩ | exact .inr ⟨by omega, by omega⟩))
  | ((with_reducible refine w_powI ?k ?c); (case c => exact ⟨by decide, by decide, by decide⟩))
  | ((with_reducible refine' w_lenL ?k ?h); (case h => walk_at "sq"))
  | ((with_reducible refine' w_lenT ?k ?h); (case h => walk_at "sq"))
  | ((with_reducible refine w_len ?h ?k); (case h => exact Nat.le_of_ble_eq_true rfl))
  | ((with_reducible refine w_decTS ?h ?k); (case h => exact rfl))
  | ((with_reducible refine w_decFS ?h ?k); (case h => decide +kernel))
  | ((with_reducible refine w_ndecTS ?h ?k); (case h => exact rfl))
  | ((with_reducible refine w_ndecFS ?h ?k); (case h => decide +kernel))
  | ((with_reducible refine w_sz ?h ?k); (case h => walk_at "szt"))
  | ((with_reducible refine w_addS' ?k ?h); (case h => walk_at "szt"))
  | ((with_reducible refine w_strI' ?k ?h); (case h => omega))
  | ((with_reducible refine w_fmtN (A := True) ?h ?k); (case h => omega))
  | with_reducible refine w_chain ?_
  | with_reducible refine w_for ?_
  | with_reducible refine w_lc ?_
  | ((with_reducible refine w_rng ?h ?k); (case h => exact ⟨by omega, by omega⟩))
  | with_reducible refine w_iStr ?_
  | with_reducible refine w_iList ?_
  | with_reducible refine w_iRng1 ?_
  | with_reducible refine w_exR ?_
  | ((with_reducible refine' w_exSqL ?h ?k); (case h => walk_at "sq"))
  | ((with_reducible refine w_lenS ?k ?h); (case h => refine Nat.le_trans ?_ (by decide : 1000000 ≤ sizeLine); walk_at "szt"))
  | ((with_reducible refine w_slS ?k ?h); (case h => refine Nat.le_trans ?_ (by decide : 1000000 ≤ sizeLine); walk_at "szt"))
  | with_reducible refine w_nT ?_
  | with_reducible refine w_nF ?_
  | with_reducible refine w_un ?_
  | with_reducible refine w_negI ?_
  | with_reducible refine w_bm ?_
  | with_reducible refine w_bm0 ?_
  | ((with_reducible refine' w_tyL ?h ?k); (case h => walk_at "sq"))
  | ((with_reducible refine' w_append ?p ?l ?k); (case p => first | assumption | exact upd_same); (case l => first | exact Nat.le_of_ble_eq_true rfl | omega))
  | with_reducible refine w_gsub ?_
  | with_reducible refine w_gname ?_
  | ((with_reducible refine' w_setL ?p ?i ?k); (case p => first | assumption | exact upd_same); (case i => exact rfl))
  | with_reducible refine w_tup ?_
  | with_reducible refine w_lst ?_
  | with_reducible refine w_sl ?_
  | with_reducible refine w_noPart ?_
  | with_reducible refine w_part ?_
  | with_reducible refine w_exI ?_
  | with_reducible refine w_exS ?_
  | with_reducible refine w_join ?_
  | with_reducible refine w_split ?_
  | with_reducible refine w_isS ?_
  | with_reducible refine w_joined ?_
  | with_reducible refine w_jsNil ?_
  | with_reducible refine w_jsCons ?_
  | with_reducible refine w_fmt ?_
  | with_reducible refine w_fmtI ?_
  | with_reducible refine w_repl ?_
  | with_reducible refine w_andV ?_
  | with_reducible refine w_orV ?_
  | with_reducible refine w_notV ?_
  | with_reducible refine w_retN ?_
  | with_reducible refine w_brk ?_
  | with_reducible refine w_cont ?_)
local macro_rules | `(tactic| walk_at "wp") => `(tactic| ((try dsimp only); (repeat walk_at "wp1"); (walk_at "beta")))
section
variable {K : PySem.W.Frag} {vs : List V} {H : Hp} {Q : VK} {E : XK}
theorem pr_show_sign (h : sp_show_sign K vs H Q E) : t_show_sign K { nx := fun _ H' => Q .non H', rt := Q } (start N_show_sign vs) H := by
  obtain ⟨c, rfl, k⟩ := h
  unfold t_show_sign
  walk_at "wp"
  refine w_dec ?_ ?_ <;> intro hw
  · walk_at "wp"
    have e : c = 32 := by
      have e1 := congrArg tl hw
      simpa [tl_sgn, tl_ofString] using e1
    subst e
    exact k
  · walk_at "wp"
    have e : c ≠ 32 := fun z => hw (by subst z; rfl)
    unfold wC at k
    rw [if_neg e] at k
    exact k
theorem q_eq {x : Str} {l : List Nat} {Q : VK} {H : Hp} (k : Q (.str (ofL l)) H) (h : tl x = l) : Q (.str x) H := by
  rw [eq_ofL h]; exact k
theorem deed_at {v : V} {e : Deed} (hv : Dp K H v e.d) : ∃ a ws, v = .ref a ∧ SqT K H a ws ∧ (match e with | .put p c => ws = [.str "put", .int (p : Int), .str (sgn c)] | .cut p => ws = [.str "cut", .int (p : Int)] | .non => ws = [.str "none"]) := by
  cases e with
  | put p c => cases hv with | tup h a => cases a with | cons a b => cases b with | cons b c => cases c with | cons c d => cases d; cases a; cases b; cases c; exact ⟨_, _, rfl, h, rfl⟩
  | cut p => cases hv with | tup h a => cases a with | cons a b => cases b with | cons b c => cases c; cases a; cases b; exact ⟨_, _, rfl, h, rfl⟩
  | non => cases hv with | tup h a => cases a with | cons a b => cases b; cases a; exact ⟨_, _, rfl, h, rfl⟩
theorem ok_put {p c m : Nat} (h : (Deed.put p c).ok m = true) : p < m ∧ okC c = true := by simpa [Deed.ok] using h
theorem ok_cut {p m : Nat} (h : (Deed.cut p).ok m = true) : p < m := by simpa [Deed.ok] using h
theorem pr_show_deed (h : sp_show_deed K vs H Q E) : t_show_deed K { nx := fun _ H' => Q .non H', rt := Q } (start N_show_deed vs) H := by
  obtain ⟨v, e, rfl, hv, he, k⟩ := h
  obtain ⟨a, ws, rfl, ht, hw⟩ := deed_at hv
  unfold t_show_deed
  cases e with
  | put p c =>
    subst hw
    obtain ⟨hp, hc⟩ := ok_put he
    have h3 := numL3 hp
    walk_at "wp"
    refine ⟨c, rfl, ?_⟩
    walk_at "wp"
    exact q_eq k (by walk_at "tls")
  | cut p =>
    subst hw
    have hp := ok_cut he
    have h3 := numL3 hp
    walk_at "wp"
    exact q_eq k (by walk_at "tls")
  | non =>
    subst hw
    walk_at "wp"
    exact k
theorem repl_blank (c : Nat) : Txt.replace (sgn c) (Str.ofString " ") (Str.ofString "_") = sgn (wC c) := by
  refine ext_tl ?_
  show (Txt.replace (sgn c) (Str.ofString " ") (Str.ofString "_")).cps.toList = [wC c]
  rw [StrLaws.replace_list (by decide)]
  show StrLaws.replL (tl (Str.ofString " ")) (tl (Str.ofString "_")) [c] = [wC c]
  rw [lit_blank, lit_under]
  by_cases h : c = 32 <;> simp [StrLaws.replL, StrLaws.replS, wC, h]
theorem pr__law_written (h : sp__law_written K vs H Q E) : t__law_written K { nx := fun _ H' => Q .non H', rt := Q } (start N__law_written vs) H := by
  obtain ⟨v, e, rfl, hv, he, k⟩ := h
  obtain ⟨a, ws, rfl, ht, hw⟩ := deed_at hv
  unfold t__law_written
  cases e with
  | put p c =>
    subst hw
    obtain ⟨hp, hc⟩ := ok_put he
    have h3 := numL3 hp
    walk_at "wp"
    refine ⟨by show 1 + (1 + 1) * 1 ≤ 16777216; decide, ?_⟩
    rw [repl_blank]
    walk_at "wp"
    exact q_eq k (by walk_at "tls")
  | cut p =>
    subst hw
    have hp := ok_cut he
    have h3 := numL3 hp
    walk_at "wp"
    exact q_eq k (by walk_at "tls")
  | non =>
    subst hw
    walk_at "wp"
    exact k
theorem ev_at {v : V} {e : Ev} (hv : Dp K H v e.d) : ∃ a ws, v = .ref a ∧ SqT K H a ws ∧ (match e with | .come s => ws = [.str "come", .int (s : Int)] | .make s e => ∃ w, ws = [.str "make", .int (s : Int), w] ∧ Dp K H w e.d) := by
  cases e with
  | come p => cases hv with | tup h a => cases a with | cons a b => cases b with | cons b c => cases c; cases a; cases b; exact ⟨_, _, rfl, h, rfl⟩
  | make p e => cases hv with | tup h a => cases a with | cons a b => cases b with | cons b c => cases c with | cons c d => cases d; cases a; cases b; exact ⟨_, _, rfl, h, _, rfl, c⟩
theorem ok_come {s m : Nat} (h : (Ev.come s).ok m = true) : s < 2 := by simpa [Ev.ok] using h
theorem ok_make {s m : Nat} {e : Deed} (h : (Ev.make s e).ok m = true) : s < 2 ∧ e.ok m = true := by simpa [Ev.ok] using h
theorem wDeed_len {e : Deed} (h : e.ok 1000 = true) : (wDeed e).length ≤ 6 := by
  cases e with
  | put p c => have := numL3 (ok_put h).1; simp [wDeed]; omega
  | cut p => have := numL3 (ok_cut h); simp [wDeed]; omega
  | non => decide
theorem pr_show_event (h : sp_show_event K vs H Q E) : t_show_event K { nx := fun _ H' => Q .non H', rt := Q } (start N_show_event vs) H := by
  obtain ⟨v, e, rfl, hv, he, k⟩ := h
  obtain ⟨a, ws, rfl, ht, hw⟩ := ev_at hv
  unfold t_show_event
  cases e with
  | come s =>
    subst hw
    have hs := ok_come he
    have h3 := numL1 (p := s) (by omega)
    walk_at "wp"
    exact q_eq k (by walk_at "tls")
  | make s e =>
    obtain ⟨w, rfl, hd⟩ := hw
    obtain ⟨hs, he'⟩ := ok_make he
    have h3 := numL1 (p := s) (by omega)
    have h4 := wDeed_len he'
    walk_at "wp"
    refine ⟨w, e, rfl, hd, he', ?_⟩
    walk_at "wp"
    exact q_eq k (by walk_at "tls")
theorem pr__law_event_written (h : sp__law_event_written K vs H Q E) : t__law_event_written K { nx := fun _ H' => Q .non H', rt := Q } (start N__law_event_written vs) H := by
  obtain ⟨v, e, rfl, hv, he, k⟩ := h
  obtain ⟨a, ws, rfl, ht, hw⟩ := ev_at hv
  unfold t__law_event_written
  cases e with
  | come s =>
    subst hw
    have hs := ok_come he
    have h3 := numL1 (p := s) (by omega)
    walk_at "wp"
    exact q_eq k (by walk_at "tls")
  | make s e =>
    obtain ⟨w, rfl, hd⟩ := hw
    obtain ⟨hs, he'⟩ := ok_make he
    have h3 := numL1 (p := s) (by omega)
    have h4 := wDeed_len he'
    walk_at "wp"
    refine ⟨w, e, rfl, hd, he', ?_⟩
    walk_at "wp"
    exact q_eq k (by walk_at "tls")
end
end FL

namespace FL
open PySem PySem.Spec PyProof.Rows L2 CwR TL
local macro_rules | `(tactic| walk_at "tls") => `(tactic| (simp only [TL.tl_append, TL.tl_num, tl_ofL, tl_sgn, tl_empty, lit_plus, lit_minus, lit_blank, lit_come, lit_feed, lit_0, lit_under, wDeed, wEv, List.nil_append, List.append_nil, List.cons_append, List.append_assoc]))
local macro_rules | `(tactic| walk_at "szt") => `(tactic| (simp only [TL.len_tl, TL.tl_append, TL.tl_num, tl_ofL, tl_sgn, tl_empty, lit_plus, lit_minus, lit_blank, lit_come, lit_feed, lit_0, lit_under, List.length_append, List.length_cons, List.length_nil]; omega))
local macro_rules | `(tactic| walk_at "beta") => `(tactic| (try dsimp only [List.set_cons_zero, List.set_cons_succ]))
local macro_rules | `(tactic| walk_at "sq") => `(tactic| first | assumption | exact SqL.of upd_same | exact SqT.of upd_same | exact SqL.of (by assumption) | exact SqT.of (by assumption))
local macro_rules | `(tactic| walk_at "wp1") => `(tactic| first
  | with_reducible refine w_seq ?_
  | with_reducible refine w_set ?_
  | ((with_reducible refine' w_var ?e ?k); (case e => exact rfl))
  | with_reducible refine w_c ?_
  | with_reducible refine w_op ?_
  | with_reducible refine w_ret ?_
  | with_reducible refine w_if ?_
  | with_reducible refine w_test ?_
  | with_reducible refine w_bl ?_
  | with_reducible refine w_cons ?_
  | with_reducible refine w_nil ?_
  | with_reducible refine w_call ?_
  | with_reducible refine w_cb ?_
  | with_reducible refine w_next ?_
  | with_reducible refine w_drop ?_
  | with_reducible refine w_asg ?_
  | with_reducible refine w_and ?_
  | with_reducible refine w_or ?_
  | with_reducible refine w_not ?_
  | with_reducible refine w_ifE ?_
  | with_reducible refine w_tB ?_
  | with_reducible refine iteT ?_
  | with_reducible refine iteF ?_
  | with_reducible refine w_addI ?_
  | with_reducible refine w_subI ?_
  | with_reducible refine w_ltI ?_
  | with_reducible refine w_leI ?_
  | with_reducible refine w_gtI ?_
  | with_reducible refine w_geI ?_
  | with_reducible refine w_eqI ?_
  | with_reducible refine w_neI ?_
  | with_reducible refine w_eqS ?_
  | with_reducible refine w_neS ?_
  | with_reducible refine w_is ?_
  | with_reducible refine w_isNot ?_
  | with_reducible refine w_intI ?_
  | with_reducible refine w_intB ?_
  | with_reducible refine w_inC ?_
  | with_reducible refine w_niC ?_
  | ((with_reducible refine' w_ixL ?k ?h ?x); (case h => walk_at "sq"); (case x => rfl))
  | ((with_reducible refine' w_ixT ?k ?h ?x); (case h => walk_at "sq"); (case x => rfl))
  | ((with_reducible refine w_modI ?k ?c); (case c => first | assumption | omega | decide))
  | ((with_reducible refine w_divI ?k ?c); (case c => exact ⟨by omega, by omega⟩))
  | ((with_reducible refine w_mulI ?k ?c); (case c => first | exact .inl ⟨by omega, by omega⟩ | exact .inr ⟨by omega, by omega⟩))
  | ((with_reducible refine w_powI ?k ?c); (case c => exact ⟨by decide, by decide, by decide⟩))
  | ((with_reducible refine' w_lenL ?k ?h); (case h => walk_at "sq"))
  | ((with_reducible refine' w_lenT ?k ?h); (case h => walk_at "sq"))
  | ((with_reducible refine w_len ?h ?k); (case h => exact Nat.le_of_ble_eq_true rfl))
  | ((with_reducible refine w_decTS ?h ?k); (case h => exact rfl))
  | ((with_reducible refine w_decFS ?h ?k); (case h => decide +kernel))
  | ((with_reducible refine w_ndecTS ?h ?k); (case h => exact rfl))
  | ((with_reducible refine w_ndecFS ?h ?k); (case h => decide +kernel))
  | ((with_reducible refine w_sz ?h ?k); (case h => walk_at "szt"))
  | ((with_reducible refine w_addS' ?k ?h); (case h => walk_at "szt"))
  | ((with_reducible refine w_strI' ?k ?h); (case h => omega))
  | ((with_reducible refine w_fmtN (A := True) ?h ?k); (case h => omega))
  | with_reducible refine w_chain ?_
  | with_reducible refine w_for ?_
  | with_reducible refine w_lc ?_
  | ((with_reducible refine w_rng ?h ?k); (case h => exact ⟨by omega, by omega⟩))
  | with_reducible refine w_iStr ?_
  | with_reducible refine w_iList ?_
  | with_reducible refine w_iRng1 ?_
  | with_reducible refine w_exR ?_
  | ((with_reducible refine' w_exSqL ?h ?k); (case h => walk_at "sq"))
  | ((with_reducible refine w_lenS ?k ?h); (case h => refine Nat.le_trans ?_ (by decide : 1000000 ≤ sizeLine); walk_at "szt"))
  | ((with_reducible refine w_slS ?k ?h); (case h => refine Nat.le_trans ?_ (by decide : 1000000 ≤ sizeLine); walk_at "szt"))
  | with_reducible refine w_nT ?_
  | with_reducible refine w_nF ?_
  | with_reducible refine w_un ?_
  | with_reducible refine w_negI ?_
  | with_reducible refine w_bm ?_
  | with_reducible refine w_bm0 ?_
  | ((with_reducible refine' w_tyL ?h ?k); (case h => walk_at "sq"))
  | ((with_reducible refine' w_append ?p ?l ?k); (case p => first | assumption | exact upd_same); (case l => first | exact Nat.le_of_ble_eq_true rfl | omega))
  | with_reducible refine w_gsub ?_
  | with_reducible refine w_gname ?_
  | ((with_reducible refine' w_setL ?p ?i ?k); (case p => first | assumption | exact upd_same); (case i => exact rfl))
  | with_reducible refine w_tup ?_
  | with_reducible refine w_lst ?_
  | with_reducible refine w_sl ?_
  | with_reducible refine w_noPart ?_
  | with_reducible refine w_part ?_
  | with_reducible refine w_exI ?_
  | with_reducible refine w_exS ?_
  | with_reducible refine w_join ?_
  | with_reducible refine w_split ?_
  | with_reducible refine w_isS ?_
  | with_reducible refine w_joined ?_
  | with_reducible refine w_jsNil ?_
  | with_reducible refine w_jsCons ?_
  | with_reducible refine w_fmt ?_
  | with_reducible refine w_fmtI ?_
  | with_reducible refine w_repl ?_
  | with_reducible refine w_andV ?_
  | with_reducible refine w_orV ?_
  | with_reducible refine w_notV ?_
  | with_reducible refine w_retN ?_
  | with_reducible refine w_brk ?_
  | with_reducible refine w_cont ?_)
local macro_rules | `(tactic| walk_at "wp") => `(tactic| ((try dsimp only); (repeat walk_at "wp1"); (walk_at "beta")))
theorem pw_map {α β : Type} {ys : List β} {l : List α} {f : α → β} (hl : ys.length = l.length) (h : ∀ (i : Nat) y, ys[i]? = some y → ∃ e, l[i]? = some e ∧ y = f e) : ys = l.map f := by
  refine List.ext_getElem? fun i => ?_
  cases z : ys[i]? with
  | none =>
    rw [List.getElem?_map, List.getElem?_eq_none_iff.mpr (by rw [← hl]; exact List.getElem?_eq_none_iff.mp z)]; rfl
  | some y =>
    obtain ⟨e, h1, h2⟩ := h i y z
    rw [List.getElem?_map, h1, h2]; rfl
theorem sum_le {α : Type} {f : α → Nat} {c : Nat} : ∀ {l : List α}, (∀ x ∈ l, f x ≤ c) → (l.map f).sum ≤ c * l.length
  | [], _ => by simp
  | x :: l, h => by
    have h1 := h x (by simp)
    have h2 := sum_le (l := l) fun y hy => h y (by simp [hy])
    simp only [List.map_cons, List.sum_cons, List.length_cons, Nat.mul_succ]
    omega
theorem joinL_nil : ∀ l : List (List Nat), joinL [] l = l.flatten
  | [] => rfl
  | [p] => by simp [joinL]
  | p :: q :: r => by
    have e := joinL_nil (q :: r)
    simp only [joinL, List.flatten_cons, List.append_nil] at e ⊢
    rw [e, List.nil_append]
theorem tl_join0 (ls : List (List Nat)) : tl (Txt.join (Str.ofString "") (ls.map ofL)) = ls.flatten := by
  rw [join_eq, tl_join]
  have e : tl (Str.ofString "") = [] := by decide +kernel
  rw [e, joinL_nil, List.map_map]
  congr 1
  exact List.map_id'' (fun _ => rfl) ls
theorem wEv_len {e : Ev} (h : e.ok 1000 = true) : (wEv e).length ≤ 8 := by
  cases e with
  | come s => have := numL1 (p := s) (by have := ok_come h; omega); simp [wEv]; omega
  | make s e => have := numL1 (p := s) (by have := (ok_make h).1; omega); have := wDeed_len (ok_make h).2; simp [wEv]; omega
section
variable {K : PySem.W.Frag} {vs : List V} {H : Hp} {Q : VK} {E : XK}
theorem join_lines {α : Type} {l : List α} {f : α → List Nat} {ys : List V} {p : Addr} (hl : l.length ≤ 50) (hf : ∀ e ∈ l, (f e).length ≤ 10) (hp : H p = some (.lst ys)) (hy : ys = l.map fun e => .str (ofL (f e ++ [10])))
    (k : Q (.str (ofL (wLines (l.map f)))) H) : rJoin K (.str (Str.ofString "")) [.ref p] H Q := by
  refine ⟨Str.ofString "", p, (l.map fun e => f e ++ [10]).map ofL, rfl, rfl, .inl (SqL.of ?_), ?_, ?_⟩
  · rw [hp, hy, List.map_map, List.map_map]; rfl
  · have h1 : (((l.map fun e => f e ++ [10]).map ofL).map (·.length)).sum ≤ 11 * l.length := by
      rw [List.map_map, List.map_map]
      refine sum_le fun e he => ?_
      have := hf e he
      show (ofL (f e ++ [10])).length ≤ 11
      rw [len_tl, tl_ofL]; simp; omega
    have h2 : (Str.ofString "").length = 0 := by decide +kernel
    rw [h2]; omega
  · refine q_eq k ?_
    rw [tl_join0]
    unfold wLines
    rw [List.map_map]; rfl
theorem pr_show_row (h : sp_show_row K vs H Q E) : t_show_row K { nx := fun _ H' => Q .non H', rt := Q } (start N_show_row vs) H := by
  obtain ⟨v, r, rfl, hv, he, hl, k⟩ := h
  obtain ⟨a, ws, rfl, hs, hd⟩ := dp_lst hv
  unfold t_show_row
  have hlen := dps_len hd
  rw [List.length_map] at hlen
  walk_at "wp"
  refine lcb_P (fun i y _ => ∃ e, r[i]? = some e ∧ y = .str (ofL (wDeed e ++ [10]))) (fun _ => rfl) hs (by omega) (fun _ _ _ _ _ h => h) (fun i x H1 T hi e1 hT => ?_) (fun p ys H1 hp e1 h1 h2 h3 => ?_)
  · obtain ⟨d, hd1, hx⟩ := dps_get hd hi
    obtain ⟨e, her, rfl⟩ : ∃ e, r[i]? = some e ∧ d = e.d := by
      rw [List.getElem?_map] at hd1
      cases z : r[i]? with
      | none => rw [z] at hd1; simp at hd1
      | some e => rw [z] at hd1; simp at hd1; exact ⟨e, rfl, hd1.symm⟩
    have hok := he e (List.mem_of_getElem? her)
    have h6 := wDeed_len hok
    walk_at "wp"
    refine ⟨x, e, rfl, dp_same e1 hx, hok, ?_⟩
    walk_at "wp"
    exact hT _ _ (Same.refl _) ⟨e, her, congrArg V.str (eq_ofL (by walk_at "tls"))⟩
  · exact join_lines hl (fun e he' => Nat.le_trans (wDeed_len (he e he')) (by decide)) h1 (pw_map (by omega) h3) (k H1 e1)
theorem pr_show_story (h : sp_show_story K vs H Q E) : t_show_story K { nx := fun _ H' => Q .non H', rt := Q } (start N_show_story vs) H := by
  obtain ⟨v, r, rfl, hv, he, hl, k⟩ := h
  obtain ⟨a, ws, rfl, hs, hd⟩ := dp_lst hv
  unfold t_show_story
  have hlen := dps_len hd
  rw [List.length_map] at hlen
  walk_at "wp"
  refine lcb_P (fun i y _ => ∃ e, r[i]? = some e ∧ y = .str (ofL (wEv e ++ [10]))) (fun _ => rfl) hs (by omega) (fun _ _ _ _ _ h => h) (fun i x H1 T hi e1 hT => ?_) (fun p ys H1 hp e1 h1 h2 h3 => ?_)
  · obtain ⟨d, hd1, hx⟩ := dps_get hd hi
    obtain ⟨e, her, rfl⟩ : ∃ e, r[i]? = some e ∧ d = e.d := by
      rw [List.getElem?_map] at hd1
      cases z : r[i]? with
      | none => rw [z] at hd1; simp at hd1
      | some e => rw [z] at hd1; simp at hd1; exact ⟨e, rfl, hd1.symm⟩
    have hok := he e (List.mem_of_getElem? her)
    have h6 := wEv_len hok
    walk_at "wp"
    refine ⟨x, e, rfl, dp_same e1 hx, hok, ?_⟩
    walk_at "wp"
    exact hT _ _ (Same.refl _) ⟨e, her, congrArg V.str (eq_ofL (by simp only [TL.tl_append, tl_ofL, lit_feed]))⟩
  · exact join_lines hl (fun e he' => Nat.le_trans (wEv_len (he e he')) (by decide)) h1 (pw_map (by omega) h3) (k H1 e1)
end
end FL

namespace FL
open PySem PySem.Spec PyProof.Rows L2 CwR TL
local macro_rules | `(tactic| walk_at "tls") => `(tactic| (simp only [TL.tl_append, TL.tl_num, tl_ofL, tl_sgn, tl_empty, lit_plus, lit_minus, lit_blank, lit_come, lit_feed, lit_0, lit_under, wDeed, wEv, List.nil_append, List.append_nil, List.cons_append, List.append_assoc]))
local macro_rules | `(tactic| walk_at "szt") => `(tactic| (simp only [TL.len_tl, TL.tl_append, TL.tl_num, tl_ofL, tl_sgn, tl_empty, lit_plus, lit_minus, lit_blank, lit_come, lit_feed, lit_0, lit_under, List.length_append, List.length_cons, List.length_nil]; omega))
local macro_rules | `(tactic| walk_at "beta") => `(tactic| (try dsimp only [List.set_cons_zero, List.set_cons_succ]))
local macro_rules | `(tactic| walk_at "sq") => `(tactic| first | assumption | exact SqL.of upd_same | exact SqT.of upd_same | exact SqL.of (by assumption) | exact SqT.of (by assumption))
local macro_rules | `(tactic| walk_at "wp1") => `(tactic| first
  | with_reducible refine w_seq ?_
  | with_reducible refine w_set ?_
  | ((with_reducible refine' w_var ?e ?k); (case e => exact rfl))
  | with_reducible refine w_c ?_
  | with_reducible refine w_op ?_
  | with_reducible refine w_ret ?_
  | with_reducible refine w_if ?_
  | with_reducible refine w_test ?_
  | with_reducible refine w_bl ?_
  | with_reducible refine w_cons ?_
  | with_reducible refine w_nil ?_
  | with_reducible refine w_call ?_
  | with_reducible refine w_cb ?_
  | with_reducible refine w_next ?_
  | with_reducible refine w_drop ?_
  | with_reducible refine w_asg ?_
  | with_reducible refine w_and ?_
  | with_reducible refine w_or ?_
  | with_reducible refine w_not ?_
  | with_reducible refine w_ifE ?_
  | with_reducible refine w_tB ?_
  | with_reducible refine iteT ?_
  | with_reducible refine iteF ?_
  | with_reducible refine w_addI ?_
  | with_reducible refine w_subI ?_
  | with_reducible refine w_ltI ?_
  | with_reducible refine w_leI ?_
  | with_reducible refine w_gtI ?_
  | with_reducible refine w_geI ?_
  | with_reducible refine w_eqI ?_
  | with_reducible refine w_neI ?_
  | with_reducible refine w_eqS ?_
  | with_reducible refine w_neS ?_
  | with_reducible refine w_is ?_
  | with_reducible refine w_isNot ?_
  | with_reducible refine w_intI ?_
  | with_reducible refine w_intB ?_
  | with_reducible refine w_inC ?_
  | with_reducible refine w_niC ?_
  | ((with_reducible refine' w_ixL ?k ?h ?x); (case h => walk_at "sq"); (case x => rfl))
  | ((with_reducible refine' w_ixT ?k ?h ?x); (case h => walk_at "sq"); (case x => rfl))
  | ((with_reducible refine w_modI ?k ?c); (case c => first | assumption | omega | decide))
  | ((with_reducible refine w_divI ?k ?c); (case c => exact ⟨by omega, by omega⟩))
  | ((with_reducible refine w_mulI ?k ?c); (case c => first | exact .inl ⟨by omega, by omega⟩ | exact .inr ⟨by omega, by omega⟩))
  | ((with_reducible refine w_powI ?k ?c); (case c => exact ⟨by decide, by decide, by decide⟩))
  | ((with_reducible refine' w_lenL ?k ?h); (case h => walk_at "sq"))
  | ((with_reducible refine' w_lenT ?k ?h); (case h => walk_at "sq"))
  | ((with_reducible refine w_len ?h ?k); (case h => exact Nat.le_of_ble_eq_true rfl))
  | ((with_reducible refine w_decTS ?h ?k); (case h => exact rfl))
  | ((with_reducible refine w_decFS ?h ?k); (case h => decide +kernel))
  | ((with_reducible refine w_ndecTS ?h ?k); (case h => exact rfl))
  | ((with_reducible refine w_ndecFS ?h ?k); (case h => decide +kernel))
  | ((with_reducible refine w_sz ?h ?k); (case h => walk_at "szt"))
  | ((with_reducible refine w_addS' ?k ?h); (case h => walk_at "szt"))
  | ((with_reducible refine w_strI' ?k ?h); (case h => omega))
  | ((with_reducible refine w_fmtN (A := True) ?h ?k); (case h => omega))
  | with_reducible refine w_chain ?_
  | with_reducible refine w_for ?_
  | with_reducible refine w_lc ?_
  | ((with_reducible refine w_rng ?h ?k); (case h => exact ⟨by omega, by omega⟩))
  | with_reducible refine w_iStr ?_
  | with_reducible refine w_iList ?_
  | with_reducible refine w_iRng1 ?_
  | with_reducible refine w_exR ?_
  | ((with_reducible refine' w_exSqL ?h ?k); (case h => walk_at "sq"))
  | ((with_reducible refine w_lenS ?k ?h); (case h => refine Nat.le_trans ?_ (by decide : 1000000 ≤ sizeLine); walk_at "szt"))
  | ((with_reducible refine w_slS ?k ?h); (case h => refine Nat.le_trans ?_ (by decide : 1000000 ≤ sizeLine); walk_at "szt"))
  | with_reducible refine w_nT ?_
  | with_reducible refine w_nF ?_
  | with_reducible refine w_un ?_
  | with_reducible refine w_negI ?_
  | with_reducible refine w_bm ?_
  | with_reducible refine w_bm0 ?_
  | ((with_reducible refine' w_tyL ?h ?k); (case h => walk_at "sq"))
  | ((with_reducible refine' w_append ?p ?l ?k); (case p => first | assumption | exact upd_same); (case l => first | exact Nat.le_of_ble_eq_true rfl | omega))
  | with_reducible refine w_gsub ?_
  | with_reducible refine w_gname ?_
  | ((with_reducible refine' w_setL ?p ?i ?k); (case p => first | assumption | exact upd_same); (case i => exact rfl))
  | with_reducible refine w_tup ?_
  | with_reducible refine w_lst ?_
  | with_reducible refine w_sl ?_
  | with_reducible refine w_noPart ?_
  | with_reducible refine w_part ?_
  | with_reducible refine w_exI ?_
  | with_reducible refine w_exS ?_
  | with_reducible refine w_join ?_
  | with_reducible refine w_split ?_
  | with_reducible refine w_isS ?_
  | with_reducible refine w_joined ?_
  | with_reducible refine w_jsNil ?_
  | with_reducible refine w_jsCons ?_
  | with_reducible refine w_fmt ?_
  | with_reducible refine w_fmtI ?_
  | with_reducible refine w_repl ?_
  | with_reducible refine w_andV ?_
  | with_reducible refine w_orV ?_
  | with_reducible refine w_notV ?_
  | with_reducible refine w_retN ?_
  | with_reducible refine w_brk ?_
  | with_reducible refine w_cont ?_)
local macro_rules | `(tactic| walk_at "wp") => `(tactic| ((try dsimp only); (repeat walk_at "wp1"); (walk_at "beta")))
theorem numL_head : ∀ p, p < 1000 → (numL p).head? = some 48 → numL p = [48] := by decide +kernel
section
variable {K : PySem.W.Frag} {vs : List V} {H : Hp} {Q : VK} {E : XK}
theorem okC_alpha {c : Nat} (h : okC c = true) : c ∈ (("abcdefghijklmnopqrstuvwxyz " : Str).cps.toList) := by
  have all : ∀ c, c < 123 → okC c = true → c ∈ (("abcdefghijklmnopqrstuvwxyz " : Str).cps.toList) := by decide +kernel
  refine all c ?_ h
  simp [okC] at h; omega
theorem pr_read_sign (h : sp_read_sign K vs H Q E) : t_read_sign K { nx := fun _ H' => Q .non H', rt := Q } (start N_read_sign vs) H := by
  obtain ⟨c, hc, rfl, k⟩ := h
  unfold t_read_sign
  walk_at "wp"
  refine w_dec ?_ ?_ <;> intro hw
  · walk_at "wp"
    have e1 := congrArg tl hw
    rw [lit_under, tl_sgn] at e1
    have e : c = 32 := by
      unfold wC at e1
      split at e1
      · assumption
      · rename_i z
        have : c = 95 := by simpa using e1
        subst this; simp [okC] at hc
    subst e
    exact k
  · walk_at "wp"
    have e : c ≠ 32 := fun z => hw (by subst z; rfl)
    have ew : wC c = c := by unfold wC; rw [if_neg e]
    rw [ew]
    refine w_ndec ?_ ?_ <;> intro hl
    · exact absurd (show ((sgn c).length : Int) = 1 from rfl) hl
    walk_at "wp"
    refine w_dec ?_ ?_ <;> intro hb
    · have e1 := congrArg tl hb
      rw [lit_blank, tl_sgn] at e1
      exact absurd (by simpa using e1) e
    walk_at "wp"
    refine w_ndec ?_ ?_ <;> intro hm
    · exact absurd (okC_alpha hc) hm
    walk_at "wp"
    exact k
theorem pr_read_number (h : sp_read_number K vs H Q E) : t_read_number K { nx := fun _ H' => Q .non H', rt := Q } (start N_read_number vs) H := by
  obtain ⟨p, hp, rfl, k⟩ := h
  unfold t_read_number
  have h3 := numL3 hp
  have h1 : 0 < (numL p).length := List.length_pos_iff.mpr (numL_ne p)
  walk_at "wp"
  refine w_yes ?_ ?_
  · rw [len_tl, tl_ofL]; omega
  walk_at "wp"
  refine w_nyes ?_ ?_
  · rw [len_tl, tl_ofL]; omega
  walk_at "wp"
  obtain ⟨c, l, e⟩ : ∃ c l, numL p = c :: l := by
    cases z : numL p with
    | nil => rw [z] at h1; simp at h1
    | cons c l => exact ⟨c, l, rfl⟩
  refine w_ixS (c := c) ?_ (Nat.le_trans (by rw [len_tl, tl_ofL]; exact h3) (by decide)) (atI_nat (j := 0) (by show (numL p)[0]? = some c; rw [e]; rfl))
  walk_at "wp"
  have go : FrB (Its (ofL (numL p))) (gName 1) (tIfS (tTest (tOp (rNiU K) (tVar 1) (tC (V.str (Str.ofString "0123456789"))))) tNever tNext)
      { nx := tRet (tCB rIntU (tCons (tVar 0) tNil)) { nx := fun _ H' => Q V.non H', rt := Q }, rt := Q } (L2.start N_read_number [V.str (ofL (numL p))]) H := by
    refine frb_S (fun i σ H' => H' = H ∧ ∃ v, σ = [some (V.str (ofL (numL p))), v]) ⟨rfl, none, rfl⟩ (fun i c σ H' hc p0 => ?_) (fun σ H' p0 => ?_)
    · obtain ⟨rfl, v, rfl⟩ := p0
      walk_at "wp"
      refine w_nyes ?_ ?_
      · have dg := numL_digits p c (List.mem_of_getElem? hc)
        have all : ∀ c, c < 58 → 48 ≤ c → c ∈ (("0123456789" : Str).cps.toList) := by decide +kernel
        exact all c (by omega) (by omega)
      · walk_at "wp"
        exact ⟨rfl, _, rfl⟩
    · obtain ⟨rfl, v, rfl⟩ := p0
      walk_at "wp"
      refine .inr ⟨_, _, rfl, ?_, ?_, k⟩
      · rw [← eq_ofL (tl_num p)]
        exact int_num (Nat.le_trans h3 (by decide))
      · rw [len_tl, tl_ofL]; omega
  refine w_dec ?_ ?_ <;> intro hz
  · have e0 : c = 48 := by
      have e1 := congrArg tl hz
      rw [lit_0, tl_sgn] at e1
      simpa using e1
    have e1 := numL_head p hp (by rw [e, e0]; rfl)
    walk_at "wp"
    refine w_nyes ?_ ?_
    · exact (eq_ofL (l := numL p) (by rw [lit_0, e1])).symm
    walk_at "wp"
    exact go
  · walk_at "wp"
    exact go
theorem dfree {p s : Nat} (h : s < 48 ∨ 57 < s) : s ∉ numL p := numL_free h
theorem cutV_last {xs : List V} {x : V} : cutV (xs ++ [x]) none (some (-1)) = xs := by
  have hl : (xs ++ [x]).length = xs.length + 1 := by simp
  have e : HT.sIx (xs ++ [x]).length (xs ++ [x]).length (some (-1)) = xs.length := by
    rw [hl]
    have h := HT.clip_eq (-1) (xs.length + 1) (xs.length + 1)
    rw [if_pos (by decide)] at h
    omega
  unfold cutV
  rw [e, HT.sIx_none, List.drop_zero, Nat.sub_zero, List.take_left']
  rfl
theorem split_two {l m : List Nat} (hl : 32 ∉ l) (hm : 32 ∉ m) : Txt.split (ofL (l ++ 32 :: m)) (Str.ofString " ") = [ofL l, ofL m] := by
  have e : ofL (l ++ 32 :: m) = Txt.join (Str.ofString " ") [ofL l, ofL m] := by
    refine ext_tl ?_
    rw [join_eq, tl_join, lit_blank]
    rfl
  rw [e]
  refine split_join lit_blank (by decide +kernel) (by simp) fun p hp => ?_
  simp only [List.mem_cons, List.not_mem_nil, or_false] at hp
  rcases hp with rfl | rfl
  · exact hl
  · exact hm
theorem lines_join : ∀ ls : List (List Nat), joinL [10] (ls ++ [[]]) = wLines ls
  | [] => rfl
  | [l] => by simp [joinL, wLines]
  | l :: m :: r => by
    have e := lines_join (m :: r)
    simp only [List.cons_append] at e ⊢
    rw [joinL, e]
    simp [wLines]
theorem split_lines {ls : List (List Nat)} (h : ∀ l ∈ ls, 10 ∉ l) : Txt.split (ofL (wLines ls)) (Str.ofString "\n") = ls.map ofL ++ [ofL []] := by
  have e : ofL (wLines ls) = Txt.join (Str.ofString "\n") (ls.map ofL ++ [ofL []]) := by
    refine ext_tl ?_
    rw [join_eq, tl_join, lit_feed, ← lines_join, List.map_append, List.map_map]
    congr 1
    have : (tl ∘ ofL) = id := rfl
    rw [this, List.map_id]; rfl
  rw [e]
  refine split_join lit_feed (by decide +kernel) (by simp) fun p hp => ?_
  rcases List.mem_append.mp hp with hp | hp
  · obtain ⟨l, hl, rfl⟩ := List.mem_map.mp hp
    exact h l hl
  · rw [List.mem_singleton.mp hp]; simp [tl_ofL]
theorem wC_ok {c : Nat} (h : okC c = true) : wC c ≠ 32 ∧ wC c ≠ 10 := by
  have h' := h
  simp [okC] at h'
  unfold wC
  split <;> omega
theorem pr_read_deed (h : sp_read_deed K vs H Q E) : t_read_deed K { nx := fun _ H' => Q .non H', rt := Q } (start N_read_deed vs) H := by
  obtain ⟨e, he, rfl, k⟩ := h
  unfold t_read_deed
  have hl := wDeed_len he
  walk_at "wp"
  cases e with
  | non =>
    refine w_yes ?_ ?_
    · exact (eq_ofL lit_0).symm
    walk_at "wp"
    intro p hp
    exact k _ _ (same_new hp) (.tup (SqT.of upd_same) (.cons (.str _) .nil))
  | cut p =>
    have hp := ok_cut he
    refine w_no ?_ ?_
    · intro z
      have z1 := congrArg tl z
      rw [tl_ofL, lit_0] at z1
      simp [wDeed] at z1
    walk_at "wp"
    have c1 : cutS (ofL (wDeed (.cut p))) none (some 1) = Str.ofString "-" := ext_tl ((cut_to (n := 1)).trans (by rw [lit_minus]; rfl))
    have c2 : cutS (ofL (wDeed (.cut p))) (some 1) none = ofL (numL p) := ext_tl ((cut_from (n := 1)).trans rfl)
    rw [c2]
    refine ⟨p, hp, rfl, ?_⟩
    walk_at "wp"
    intro q hq
    exact k _ _ (same_new hq) (.tup (SqT.of upd_same) (.cons (.str _) (.cons (.int _) .nil)))
  | put p c =>
    obtain ⟨hp, hc⟩ := ok_put he
    refine w_no ?_ ?_
    · intro z
      have z1 := congrArg tl z
      rw [tl_ofL, lit_0] at z1
      simp [wDeed] at z1
    walk_at "wp"
    have c1 : cutS (ofL (wDeed (.put p c))) none (some 1) = Str.ofString "+" := ext_tl ((cut_to (n := 1)).trans (by rw [lit_plus]; rfl))
    rw [c1]
    walk_at "wp"
    have es : Txt.split (ofL (wDeed (.put p c))) (Str.ofString " ") = [ofL (43 :: numL p), ofL [wC c]] := by
      refine split_two (l := 43 :: numL p) ?_ ?_
      · simp only [List.mem_cons, not_or]
        exact ⟨by decide, dfree (by omega)⟩
      · simp only [List.mem_cons, List.not_mem_nil, or_false]
        exact fun z => (wC_ok hc).1 z.symm
    refine ⟨_, _, rfl, rfl, by decide +kernel, Nat.le_trans (show (ofL (wDeed (.put p c))).length + 2 ≤ 1000 by rw [len_tl, tl_ofL]; omega) (by decide), fun q hq => ?_⟩
    rw [es]
    have hq' : SqL K (upd H q (.lst ([ofL (43 :: numL p), ofL [wC c]].map V.str))) q [.str (ofL (43 :: numL p)), .str (ofL [wC c])] := SqL.of upd_same
    walk_at "wp"
    refine w_ndec ?_ ?_ <;> intro z
    · exact absurd rfl z
    walk_at "wp"
    have h3 := numL3 hp
    refine w_slS ?_ (Nat.le_trans (show (ofL (43 :: numL p)).length ≤ 1000 by rw [len_tl, tl_ofL]; simp; omega) (by decide))
    have c2 : cutS (ofL (43 :: numL p)) (some 1) none = ofL (numL p) := ext_tl ((cut_from (n := 1)).trans rfl)
    rw [c2]
    walk_at "wp"
    refine ⟨p, hp, rfl, ?_⟩
    walk_at "wp"
    refine ⟨c, hc, rfl, ?_⟩
    walk_at "wp"
    intro u hu
    exact k _ _ ((same_new hq).trans (same_new hu)) (.tup (SqT.of upd_same) (.cons (.str _) (.cons (.int _) (.cons (.str _) .nil))))
theorem pr_lines_in (h : sp_lines_in K vs H Q E) : t_lines_in K { nx := fun _ H' => Q .non H', rt := Q } (start N_lines_in vs) H := by
  obtain ⟨ls, h10, hz, rfl, k⟩ := h
  unfold t_lines_in
  walk_at "wp"
  refine ⟨_, _, rfl, rfl, by decide +kernel, Nat.le_trans (show (ofL (wLines ls)).length + 2 ≤ 1000002 by rw [len_tl, tl_ofL]; omega) (by decide), fun q hq => ?_⟩
  rw [split_lines h10]
  have hq' : SqL K (upd H q (.lst ((ls.map ofL ++ [ofL []]).map V.str))) q ((ls.map fun l => V.str (ofL l)) ++ [.str (ofL [])]) := by
    refine SqL.of (upd_same.trans ?_)
    rw [List.map_append, List.map_map]; rfl
  walk_at "wp"
  refine w_ixL ?_ hq' (atI_last _ _)
  walk_at "wp"
  refine .inl ⟨_, _, rfl, hq', fun u hu => ?_⟩
  rw [cutV_last]
  have h1 := same_new (o := HO.lst ((ls.map ofL ++ [ofL []]).map V.str)) hq
  exact k u _ (h1.free hu) (h1.trans (same_new hu)) upd_same
theorem wDeed_no {e : Deed} (h : e.ok 1000 = true) : 10 ∉ wDeed e := by
  cases e with
  | put p c =>
    have h1 := wC_ok (ok_put h).2
    simp only [wDeed, List.mem_cons, List.mem_append, List.not_mem_nil, or_false, not_or]
    exact ⟨by decide, dfree (by omega), by decide, fun z => h1.2 z.symm⟩
  | cut p =>
    simp only [wDeed, List.mem_cons, not_or]
    exact ⟨by decide, dfree (by omega)⟩
  | non => decide
theorem wEv_no {e : Ev} (h : e.ok 1000 = true) : 10 ∉ wEv e := by
  cases e with
  | come s =>
    simp only [wEv, List.mem_cons, List.mem_append, List.not_mem_nil, or_false, not_or]
    exact ⟨dfree (by omega), by decide, by decide⟩
  | make s e =>
    simp only [wEv, List.mem_cons, List.mem_append, not_or]
    exact ⟨dfree (by omega), by decide, wDeed_no (ok_make h).2⟩
theorem wLines_len {α : Type} {f : α → List Nat} : ∀ {l : List α}, (∀ e ∈ l, (f e).length ≤ 10) → (wLines (l.map f)).length ≤ 11 * l.length
  | [], _ => by simp [wLines]
  | x :: l, h => by
    have h1 := h x (by simp)
    have h2 := wLines_len (l := l) fun y hy => h y (by simp [hy])
    simp only [wLines, List.map_cons, List.flatten_cons, List.length_append, List.length_cons, List.length_nil] at h2 ⊢
    omega
theorem dps_of {α : Type} {f : α → PyData} {H : Hp} {ys : List V} : ∀ {l : List α}, ys.length = l.length → (∀ (i : Nat) y, ys[i]? = some y → ∃ e, l[i]? = some e ∧ Dp K H y (f e)) → DpAll K H ys (l.map f) := by
  induction ys with
  | nil =>
    intro l hl h
    cases l with
    | nil => exact .nil
    | cons x l => simp at hl
  | cons y ys ih =>
    intro l hl h
    cases l with
    | nil => simp at hl
    | cons x l =>
      obtain ⟨e, h1, h2⟩ := h 0 y rfl
      simp at h1; subst h1
      exact .cons h2 (ih (by simpa using hl) fun i z hz => by simpa using h (i + 1) z (by simpa using hz))
theorem pr_read_row (h : sp_read_row K vs H Q E) : t_read_row K { nx := fun _ H' => Q .non H', rt := Q } (start N_read_row vs) H := by
  obtain ⟨r, hr, hl, rfl, k⟩ := h
  unfold t_read_row
  have hw := wLines_len (f := wDeed) (l := r) fun e he => Nat.le_trans (wDeed_len (hr e he)) (by decide)
  walk_at "wp"
  refine ⟨r.map wDeed, fun l hl' => ?_, by omega, rfl, fun a H0 ha e0 h0 => ?_⟩
  · obtain ⟨e, he, rfl⟩ := List.mem_map.mp hl'
    exact wDeed_no (hr e he)
  walk_at "wp"
  refine lcb_P (xs := (r.map wDeed).map fun l => V.str (ofL l)) (fun i y H1 => ∃ e, r[i]? = some e ∧ Dp K H1 y e.d) (fun _ => rfl) (SqL.of h0) (by simp; omega) (fun i y H1 H2 tk h => ?_) (fun i x H1 T hi _ hT => ?_) (fun p ys H1 hp e1 h1 h2 h3 => ?_)
  · obtain ⟨e, h1, h2⟩ := h
    exact ⟨e, h1, dp_tk tk h2 (noL_deed e)⟩
  · rw [List.map_map, List.getElem?_map] at hi
    cases z : r[i]? with
    | none => rw [z] at hi; simp at hi
    | some e =>
      rw [z] at hi
      simp only [Option.map_some, Option.some.injEq, Function.comp] at hi
      subst hi
      walk_at "wp"
      refine ⟨e, hr e (List.mem_of_getElem? z), rfl, fun v H2 e2 hv => hT v H2 e2 ⟨e, z, hv⟩⟩
  · exact k p ys H1 (e0.free hp) (e0.trans e1) h1 (dps_of (by rw [h2]; simp) h3)
theorem numL_01 {s : Nat} (h : s < 2) : numL s = [48 + s] := numL_lt (by omega)
theorem wEv_head {e : Ev} (h : e.ok 1000 = true) : ∃ s r, s < 2 ∧ wEv e = (48 + s) :: 32 :: r ∧ (e = .come s ∧ r = [60] ∨ ∃ d, e = .make s d ∧ r = wDeed d ∧ d.ok 1000 = true) := by
  cases e with
  | come s => exact ⟨s, [60], ok_come h, by simp [wEv, numL_01 (ok_come h)], .inl ⟨rfl, rfl⟩⟩
  | make s d => exact ⟨s, wDeed d, (ok_make h).1, by simp [wEv, numL_01 (ok_make h).1], .inr ⟨d, rfl, rfl, (ok_make h).2⟩⟩
theorem pr_read_event (h : sp_read_event K vs H Q E) : t_read_event K { nx := fun _ H' => Q .non H', rt := Q } (start N_read_event vs) H := by
  obtain ⟨e, he, rfl, k⟩ := h
  unfold t_read_event
  have hl := wEv_len he
  obtain ⟨s, r, hs, ew, hr⟩ := wEv_head he
  rw [ew] at hl ⊢
  simp only [List.length_cons] at hl
  walk_at "wp"
  intro p hp
  have c2 : cutS (ofL ((48 + s) :: 32 :: r)) none (some 2) = ofL [48 + s, 32] := ext_tl ((cut_to (n := 2)).trans rfl)
  refine .inr (.inl ⟨p, _, rfl, .inr (SqT.of upd_same), rfl, rfl, ?_⟩)
  have hin : inV (.str (cutS (ofL ((48 + s) :: 32 :: r)) none (some 2))) [V.str (Str.ofString "0 "), V.str (Str.ofString "1 ")] = true := by
    rw [c2]
    have : s = 0 ∨ s = 1 := by omega
    rcases this with rfl | rfl <;> decide +kernel
  rw [if_pos rfl, hin]
  walk_at "wp"
  have c1 : cutS (ofL ((48 + s) :: 32 :: r)) none (some 1) = ofL (numL s) := ext_tl ((cut_to (n := 1)).trans (by rw [tl_ofL, tl_ofL, numL_01 hs]; rfl))
  rw [c1]
  refine .inr ⟨_, (s : Int), rfl, ?_, ?_, ?_⟩
  · rw [← eq_ofL (tl_num s)]
    exact int_num (by rw [numL_01 hs]; show 1 ≤ 4300; decide)
  · rw [len_tl, tl_ofL, numL_01 hs]; show 1 ≤ 640; decide
  walk_at "wp"
  have cr : cutS (ofL ((48 + s) :: 32 :: r)) (some 2) none = ofL r := ext_tl ((cut_from (n := 2)).trans rfl)
  rcases hr with ⟨rfl, rfl⟩ | ⟨d, rfl, rfl, hd⟩
  · refine w_yes ?_ ?_
    · rw [cr]; exact (eq_ofL (x := Str.ofString "<") (by decide +kernel)).symm
    walk_at "wp"
    intro q hq
    exact k _ _ ((same_new hp).trans (same_new hq)) (.tup (SqT.of upd_same) (.cons (.str _) (.cons (.int _) .nil)))
  · refine w_no ?_ ?_
    · rw [cr]
      intro z
      have z1 := congrArg tl z
      rw [tl_ofL, show tl (Str.ofString "<") = [60] by decide +kernel] at z1
      cases d <;> simp [wDeed] at z1
    walk_at "wp"
    rw [cr]
    refine ⟨d, hd, rfl, fun v H2 e2 hv => ?_⟩
    walk_at "wp"
    intro q hq
    exact k _ _ (((same_new hp).trans e2).trans (same_new hq)) (.tup (SqT.of upd_same) (.cons (.str _) (.cons (.int _) (.cons (dp_same (same_new hq) hv) .nil))))
theorem pr_read_story (h : sp_read_story K vs H Q E) : t_read_story K { nx := fun _ H' => Q .non H', rt := Q } (start N_read_story vs) H := by
  obtain ⟨r, hr, hl, rfl, k⟩ := h
  unfold t_read_story
  have hw := wLines_len (f := wEv) (l := r) fun e he => Nat.le_trans (wEv_len (hr e he)) (by decide)
  walk_at "wp"
  refine ⟨r.map wEv, fun l hl' => ?_, by omega, rfl, fun a H0 ha e0 h0 => ?_⟩
  · obtain ⟨e, he, rfl⟩ := List.mem_map.mp hl'
    exact wEv_no (hr e he)
  walk_at "wp"
  refine lcb_P (xs := (r.map wEv).map fun l => V.str (ofL l)) (fun i y H1 => ∃ e, r[i]? = some e ∧ Dp K H1 y e.d) (fun _ => rfl) (SqL.of h0) (by simp; omega) (fun i y H1 H2 tk h => ?_) (fun i x H1 T hi _ hT => ?_) (fun p ys H1 hp e1 h1 h2 h3 => ?_)
  · obtain ⟨e, h1, h2⟩ := h
    exact ⟨e, h1, dp_tk tk h2 (noL_ev e)⟩
  · rw [List.map_map, List.getElem?_map] at hi
    cases z : r[i]? with
    | none => rw [z] at hi; simp at hi
    | some e =>
      rw [z] at hi
      simp only [Option.map_some, Option.some.injEq, Function.comp] at hi
      subst hi
      walk_at "wp"
      refine ⟨e, hr e (List.mem_of_getElem? z), rfl, fun v H2 e2 hv => hT v H2 e2 ⟨e, z, hv⟩⟩
  · exact k p ys H1 (e0.free hp) (e0.trans e1) h1 (dps_of (by rw [h2]; simp) h3)
end
end FL

namespace FL
open PySem PySem.Spec PyProof.Rows L2 CwR TL
local macro_rules | `(tactic| walk_at "tls") => `(tactic| (simp only [TL.tl_append, TL.tl_num, tl_ofL, tl_sgn, tl_empty, lit_plus, lit_minus, lit_blank, lit_come, lit_feed, lit_0, lit_under, wDeed, wEv, List.nil_append, List.append_nil, List.cons_append, List.append_assoc]))
local macro_rules | `(tactic| walk_at "szt") => `(tactic| (simp only [TL.len_tl, TL.tl_append, TL.tl_num, tl_ofL, tl_sgn, tl_empty, lit_plus, lit_minus, lit_blank, lit_come, lit_feed, lit_0, lit_under, List.length_append, List.length_cons, List.length_nil]; omega))
local macro_rules | `(tactic| walk_at "beta") => `(tactic| (try dsimp only [List.set_cons_zero, List.set_cons_succ]))
local macro_rules | `(tactic| walk_at "sq") => `(tactic| first | assumption | exact SqL.of upd_same | exact SqT.of upd_same | exact SqL.of (by assumption) | exact SqT.of (by assumption))
local macro_rules | `(tactic| walk_at "wp1") => `(tactic| first
  | with_reducible refine w_seq ?_
  | with_reducible refine w_set ?_
  | ((with_reducible refine' w_var ?e ?k); (case e => exact rfl))
  | with_reducible refine w_c ?_
  | with_reducible refine w_op ?_
  | with_reducible refine w_ret ?_
  | with_reducible refine w_if ?_
  | with_reducible refine w_test ?_
  | with_reducible refine w_bl ?_
  | with_reducible refine w_cons ?_
  | with_reducible refine w_nil ?_
  | with_reducible refine w_call ?_
  | with_reducible refine w_cb ?_
  | with_reducible refine w_next ?_
  | with_reducible refine w_drop ?_
  | with_reducible refine w_asg ?_
  | with_reducible refine w_and ?_
  | with_reducible refine w_or ?_
  | with_reducible refine w_not ?_
  | with_reducible refine w_ifE ?_
  | with_reducible refine w_tB ?_
  | with_reducible refine iteT ?_
  | with_reducible refine iteF ?_
  | with_reducible refine w_addI ?_
  | with_reducible refine w_subI ?_
  | with_reducible refine w_ltI ?_
  | with_reducible refine w_leI ?_
  | with_reducible refine w_gtI ?_
  | with_reducible refine w_geI ?_
  | with_reducible refine w_eqI ?_
  | with_reducible refine w_neI ?_
  | with_reducible refine w_eqS ?_
  | with_reducible refine w_neS ?_
  | with_reducible refine w_is ?_
  | with_reducible refine w_isNot ?_
  | with_reducible refine w_intI ?_
  | with_reducible refine w_intB ?_
  | with_reducible refine w_inC ?_
  | with_reducible refine w_niC ?_
  | ((with_reducible refine' w_ixL ?k ?h ?x); (case h => walk_at "sq"); (case x => rfl))
  | ((with_reducible refine' w_ixT ?k ?h ?x); (case h => walk_at "sq"); (case x => rfl))
  | ((with_reducible refine w_modI ?k ?c); (case c => first | assumption | omega | decide))
  | ((with_reducible refine w_divI ?k ?c); (case c => exact ⟨by omega, by omega⟩))
  | ((with_reducible refine w_mulI ?k ?c); (case c => first | exact .inl ⟨by omega, by omega⟩ | exact .inr ⟨by omega, by omega⟩))
  | ((with_reducible refine w_powI ?k ?c); (case c => exact ⟨by decide, by decide, by decide⟩))
  | ((with_reducible refine' w_lenL ?k ?h); (case h => walk_at "sq"))
  | ((with_reducible refine' w_lenT ?k ?h); (case h => walk_at "sq"))
  | ((with_reducible refine w_len ?h ?k); (case h => exact Nat.le_of_ble_eq_true rfl))
  | ((with_reducible refine w_decTS ?h ?k); (case h => exact rfl))
  | ((with_reducible refine w_decFS ?h ?k); (case h => decide +kernel))
  | ((with_reducible refine w_ndecTS ?h ?k); (case h => exact rfl))
  | ((with_reducible refine w_ndecFS ?h ?k); (case h => decide +kernel))
  | ((with_reducible refine w_sz ?h ?k); (case h => walk_at "szt"))
  | ((with_reducible refine w_addS' ?k ?h); (case h => walk_at "szt"))
  | ((with_reducible refine w_strI' ?k ?h); (case h => omega))
  | ((with_reducible refine w_fmtN (A := True) ?h ?k); (case h => omega))
  | with_reducible refine w_chain ?_
  | with_reducible refine w_for ?_
  | with_reducible refine w_lc ?_
  | ((with_reducible refine w_rng ?h ?k); (case h => exact ⟨by omega, by omega⟩))
  | with_reducible refine w_iStr ?_
  | with_reducible refine w_iList ?_
  | with_reducible refine w_iRng1 ?_
  | with_reducible refine w_exR ?_
  | ((with_reducible refine' w_exSqL ?h ?k); (case h => walk_at "sq"))
  | ((with_reducible refine w_lenS ?k ?h); (case h => refine Nat.le_trans ?_ (by decide : 1000000 ≤ sizeLine); walk_at "szt"))
  | ((with_reducible refine w_slS ?k ?h); (case h => refine Nat.le_trans ?_ (by decide : 1000000 ≤ sizeLine); walk_at "szt"))
  | with_reducible refine w_nT ?_
  | with_reducible refine w_nF ?_
  | with_reducible refine w_un ?_
  | with_reducible refine w_negI ?_
  | with_reducible refine w_bm ?_
  | with_reducible refine w_bm0 ?_
  | ((with_reducible refine' w_tyL ?h ?k); (case h => walk_at "sq"))
  | ((with_reducible refine' w_append ?p ?l ?k); (case p => first | assumption | exact upd_same); (case l => first | exact Nat.le_of_ble_eq_true rfl | omega))
  | with_reducible refine w_gsub ?_
  | with_reducible refine w_gname ?_
  | ((with_reducible refine' w_setL ?p ?i ?k); (case p => first | assumption | exact upd_same); (case i => exact rfl))
  | with_reducible refine w_tup ?_
  | with_reducible refine w_lst ?_
  | with_reducible refine w_sl ?_
  | with_reducible refine w_noPart ?_
  | with_reducible refine w_part ?_
  | with_reducible refine w_exI ?_
  | with_reducible refine w_exS ?_
  | with_reducible refine w_join ?_
  | with_reducible refine w_split ?_
  | with_reducible refine w_isS ?_
  | with_reducible refine w_joined ?_
  | with_reducible refine w_jsNil ?_
  | with_reducible refine w_jsCons ?_
  | with_reducible refine w_fmt ?_
  | with_reducible refine w_fmtI ?_
  | with_reducible refine w_repl ?_
  | with_reducible refine w_andV ?_
  | with_reducible refine w_orV ?_
  | with_reducible refine w_notV ?_
  | with_reducible refine w_retN ?_
  | with_reducible refine w_brk ?_
  | with_reducible refine w_cont ?_)
local macro_rules | `(tactic| walk_at "wp") => `(tactic| ((try dsimp only); (repeat walk_at "wp1"); (walk_at "beta")))
theorem DeckAt.at' {H1 H2 : Hp} {d : Addr} {n : Nat} (h : DeckAt H1 d n) (e : H1 d = H2 d) : DeckAt H2 d n := by
  obtain ⟨x, w, k, h1, h2⟩ := h
  exact ⟨x, w, k, e ▸ h1, h2⟩
theorem DeckAt.nn {H1 : Hp} {d : Addr} {n : Nat} (h : DeckAt H1 d n) : H1 d ≠ none := by
  obtain ⟨x, w, k, h1, h2⟩ := h
  rw [h1]; simp
theorem mem_cutV {xs : List V} {lo hi : Option Int} {x : V} (h : x ∈ cutV xs lo hi) : x ∈ xs := List.mem_of_mem_drop (List.mem_of_mem_take h)
def goodR (r : List Deed) : Prop := (∀ e ∈ r, e.ok 1000 = true) ∧ r.length ≤ 50
def goodS (r : List Ev) : Prop := (∀ e ∈ r, e.ok 1000 = true) ∧ r.length ≤ 50
def duD (r : List Deed) (s : List Ev) : PyData := .list [.str (ofL (wLines (r.map wDeed))), .str (ofL (wLines (s.map wEv)))]
def twoD (r : List Deed) (s : List Ev) : PyData := .list [.list (r.map Deed.d), .list (s.map Ev.d)]
def heldD (r : List Deed) (s : List Ev) : PyData := .tuple [.list (r.map Deed.d), .list (s.map Ev.d), duD r s]
def Held (K : PySem.W.Frag) (H : Hp) (w : V) : Prop := ∃ r s, goodR r ∧ goodS s ∧ Dp K H w (heldD r s)
theorem noLs_map {α : Type} {f : α → PyData} (h : ∀ e, noL (f e) = true) : ∀ l : List α, noLs (l.map f) = true
  | [] => by simp [noLs]
  | x :: l => by rw [List.map_cons, noLs, h, noLs_map h l]; rfl
/-- a list of data written out by pairs -/
theorem list_of {α : Type} {K : PySem.W.Frag} {H : Hp} {f : α → PyData} {P : α → Prop} : ∀ {ys : List V}, (∀ (i : Nat) y, ys[i]? = some y → ∃ e, P e ∧ Dp K H y (f e)) → ∃ l : List α, l.length = ys.length ∧ (∀ e ∈ l, P e) ∧ DpAll K H ys (l.map f)
  | [], _ => ⟨[], rfl, by simp, .nil⟩
  | y :: ys, h => by
    obtain ⟨e, h1, h2⟩ := h 0 y rfl
    obtain ⟨l, h3, h4, h5⟩ := list_of (ys := ys) fun i z hz => h (i + 1) z (by simpa using hz)
    exact ⟨e :: l, by simp [h3], fun z hz => by rcases List.mem_cons.mp hz with rfl | hz; exact h1; exact h4 z hz, .cons h2 h5⟩
theorem numL_asc {p c : Nat} (h : c ∈ numL p) : c < 128 := by have := numL_digits p c h; omega
theorem wC_asc {c : Nat} (h : okC c = true) : wC c < 128 ∧ c < 128 := by
  have h' := h
  simp [okC] at h'
  unfold wC
  split <;> omega
theorem wDeed_asc {e : Deed} (h : e.ok 1000 = true) : ∀ c ∈ wDeed e, c < 128 := by
  intro c hc
  cases e with
  | put p x =>
    simp only [wDeed, List.mem_cons, List.mem_append, List.not_mem_nil, or_false] at hc
    rcases hc with rfl | hc | rfl | rfl
    · decide
    · exact numL_asc hc
    · decide
    · exact (wC_asc (ok_put h).2).1
  | cut p =>
    simp only [wDeed, List.mem_cons] at hc
    rcases hc with rfl | hc
    · decide
    · exact numL_asc hc
  | non =>
    simp only [wDeed, List.mem_cons, List.not_mem_nil, or_false] at hc
    subst hc; decide
theorem wEv_asc {e : Ev} (h : e.ok 1000 = true) : ∀ c ∈ wEv e, c < 128 := by
  intro c hc
  cases e with
  | come s =>
    simp only [wEv, List.mem_cons, List.mem_append, List.not_mem_nil, or_false] at hc
    rcases hc with hc | rfl | rfl
    · exact numL_asc hc
    · decide
    · decide
  | make s e =>
    simp only [wEv, List.mem_cons, List.mem_append] at hc
    rcases hc with hc | rfl | hc
    · exact numL_asc hc
    · decide
    · exact wDeed_asc (ok_make h).2 c hc
theorem wLines_asc {α : Type} {f : α → List Nat} {l : List α} (h : ∀ e ∈ l, ∀ c ∈ f e, c < 128) : ∀ c ∈ tl (ofL (wLines (l.map f))), c < 1114112 := by
  intro c hc
  rw [tl_ofL] at hc
  unfold wLines at hc
  rw [List.mem_flatten] at hc
  obtain ⟨m, hm, hcm⟩ := hc
  rw [List.map_map, List.mem_map] at hm
  obtain ⟨e, he, rfl⟩ := hm
  rcases List.mem_append.mp hcm with hcm | hcm
  · exact Nat.lt_trans (h e he c hcm) (by decide)
  · rw [List.mem_singleton.mp hcm]; decide
theorem sm_sgn {c : Nat} (h : okC c = true) : Sm 0 42 (.str (sgn c)) := (sm_str (n := 1) (fun x hx => by rw [tl_sgn, List.mem_singleton] at hx; have := (wC_asc h).2; omega) (show (sgn c).length ≤ 1 from Nat.le_refl 1)).mono (by decide) (by decide)
theorem sm_word {s : String} {l : List Nat} (h : tl (Str.ofString s) = l) (h1 : l.length ≤ 4) (h2 : ∀ x ∈ l, x < 128) : Sm 0 42 (.str (Str.ofString s)) := sm_str (n := 4) (fun x hx => by rw [h] at hx; have := h2 x hx; omega) (by rw [len_tl, h]; exact h1)
theorem sm_deed {e : Deed} (h : e.ok 1000 = true) : Sm 1 140 e.d := by
  cases e with
  | put p c =>
    obtain ⟨h1, h2⟩ := ok_put h
    refine (sm_tup (k := 0) (n := 42) fun d hd => ?_).mono (Nat.le_refl _) (by decide : 3 + 3 * (42 + 2) ≤ 140)
    simp only [List.mem_cons, List.not_mem_nil, or_false] at hd
    rcases hd with rfl | rfl | rfl
    · exact sm_word (l := [112, 117, 116]) (by decide +kernel) (by decide) (by decide)
    · exact (sm_int (by omega)).mono (by decide) (by decide)
    · exact sm_sgn h2
  | cut p =>
    have h1 := ok_cut h
    refine (sm_tup (k := 0) (n := 42) fun d hd => ?_).mono (Nat.le_refl _) (by decide : 3 + 2 * (42 + 2) ≤ 140)
    simp only [List.mem_cons, List.not_mem_nil, or_false] at hd
    rcases hd with rfl | rfl
    · exact sm_word (l := [99, 117, 116]) (by decide +kernel) (by decide) (by decide)
    · exact (sm_int (by omega)).mono (by decide) (by decide)
  | non =>
    refine (sm_tup (k := 0) (n := 42) fun d hd => ?_).mono (Nat.le_refl _) (by decide : 3 + 1 * (42 + 2) ≤ 140)
    simp only [List.mem_cons, List.not_mem_nil, or_false] at hd
    subst hd
    exact sm_word (l := [110, 111, 110, 101]) (by decide +kernel) (by decide) (by decide)
theorem sm_ev {e : Ev} (h : e.ok 1000 = true) : Sm 2 440 e.d := by
  cases e with
  | come s =>
    have h1 := ok_come h
    refine (sm_tup (k := 0) (n := 42) fun d hd => ?_).mono (by decide) (by decide : 3 + 2 * (42 + 2) ≤ 440)
    simp only [List.mem_cons, List.not_mem_nil, or_false] at hd
    rcases hd with rfl | rfl
    · exact sm_word (l := [99, 111, 109, 101]) (by decide +kernel) (by decide) (by decide)
    · exact (sm_int (by omega)).mono (by decide) (by decide)
  | make s e =>
    obtain ⟨h1, h2⟩ := ok_make h
    refine (sm_tup (k := 1) (n := 140) fun d hd => ?_).mono (by decide) (by decide : 3 + 3 * (140 + 2) ≤ 440)
    simp only [List.mem_cons, List.not_mem_nil, or_false] at hd
    rcases hd with rfl | rfl | rfl
    · exact (sm_word (l := [109, 97, 107, 101]) (by decide +kernel) (by decide) (by decide)).mono (by decide) (by decide)
    · exact (sm_int (by omega)).mono (by decide) (by decide)
    · exact sm_deed h2
theorem sm_two {r : List Deed} {s : List Ev} (gR : goodR r) (gS : goodS s) : Sm 4 50000 (twoD r s) := by
  refine (sm_lst (k := 3) (n := 23000) fun d hd => ?_).mono (Nat.le_refl _) (by decide : 3 + 2 * (23000 + 2) ≤ 50000)
  simp only [List.mem_cons, List.not_mem_nil, or_false] at hd
  rcases hd with rfl | rfl
  · refine (sm_lst (k := 2) (n := 140) fun d hd => ?_).mono (by decide) (by have := gR.2; simp; omega)
    obtain ⟨e, he, rfl⟩ := List.mem_map.mp hd
    exact (sm_deed (gR.1 e he)).mono (by decide) (Nat.le_refl _)
  · refine (sm_lst (k := 2) (n := 440) fun d hd => ?_).mono (by decide) (by have := gS.2; simp; omega)
    obtain ⟨e, he, rfl⟩ := List.mem_map.mp hd
    exact sm_ev (gS.1 e he)
theorem sm_du {r : List Deed} {s : List Ev} (gR : goodR r) (gS : goodS s) : Sm 1 15000 (duD r s) := by
  refine (sm_lst (k := 0) (n := 6002) fun d hd => ?_).mono (Nat.le_refl _) (by decide : 3 + 2 * (6002 + 2) ≤ 15000)
  have h1 := wLines_len (f := wDeed) (l := r) fun e he => Nat.le_trans (wDeed_len (gR.1 e he)) (by decide)
  have h2 := wLines_len (f := wEv) (l := s) fun e he => Nat.le_trans (wEv_len (gS.1 e he)) (by decide)
  have := gR.2
  have := gS.2
  simp only [List.mem_cons, List.not_mem_nil, or_false] at hd
  rcases hd with rfl | rfl
  · exact sm_str (n := 600) (wLines_asc fun e he => wDeed_asc (gR.1 e he)) (by rw [len_tl, tl_ofL]; omega)
  · exact sm_str (n := 600) (wLines_asc fun e he => wEv_asc (gS.1 e he)) (by rw [len_tl, tl_ofL]; omega)
theorem del_upd {H : Hp} {p : Addr} {o : HO} : del (upd H p o) p = del H p := by
  funext b
  unfold del upd
  split <;> rfl
section
variable {K : PySem.W.Frag} {vs : List V} {H : Hp} {Q : VK} {E : XK}
def Sg (a hd : Addr) (σ : L2.St) : Prop := ∃ v2 v3 v4 v5 v6 v7 v8 v9 v10 v11 v12 v13 v14 v15, σ = [some (V.ref a), some (V.ref hd), v2, v3, v4, v5, v6, v7, v8, v9, v10, v11, v12, v13, v14, v15]
def Pv1 (K : PySem.W.Frag) (a hd : Addr) (H1 : Hp) (i : Nat) (σ : L2.St) (H' : Hp) : Prop := Sg a hd σ ∧ Fr hd H1 H' ∧ ∃ ws, H' hd = some (.lst ws) ∧ ws.length = i ∧ ∀ w ∈ ws, Held K (del H' hd) w
theorem pr_law (h : sp_law K vs H Q E) : t_law K { nx := fun _ H' => Q .non H', rt := Q } (start N_law vs) H := by
  obtain ⟨a, ns, rfl, hs, hl, k⟩ := h
  unfold t_law
  walk_at "wp"
  intro hd hhd
  walk_at "wp"
  have hs1 := (same_new (o := HO.lst []) hhd).seq hs
  refine .inl ⟨a, _, rfl, hs1, fun c hc => ?_⟩
  walk_at "wp"
  intro z hz
  have hcl : (cutV (ns.map V.int) none (some 30)).length ≤ 63 := by
    have := cutV_length (ns.map V.int) none (some 30)
    rw [List.length_map] at this
    omega
  refine .inr (.inr (.inl ⟨c, z, _, _, rfl, rfl, (same_new hz) _ _ upd_same, upd_same, ?_, fun q hq => ?_⟩))
  · exact Nat.le_trans (show _ ≤ 1000 by simp; omega) (by decide)
  walk_at "wp"
  have ehd := ((same_new (o := HO.lst (cutV (ns.map V.int) none (some 30))) hc).trans ((same_new (o := HO.lst [V.int 0]) hz).trans (same_new (o := HO.lst (cutV (ns.map V.int) none (some 30) ++ [V.int 0])) hq))) hd _ upd_same
  have eq0 : (upd (upd (upd (upd H hd (HO.lst [])) c (HO.lst (cutV (ns.map V.int) none (some 30)))) z (HO.lst [V.int 0])) q (HO.lst (cutV (ns.map V.int) none (some 30) ++ [V.int 0]))) q = some (HO.lst (cutV (ns.map V.int) none (some 30) ++ [V.int 0])) := upd_same
  have nq : q ≠ hd := (ne_of_none (((same_new (o := HO.lst (cutV (ns.map V.int) none (some 30))) hc).trans (same_new (o := HO.lst [V.int 0]) hz)) hd _ upd_same) hq).symm
  revert ehd eq0
  generalize upd (upd (upd (upd H hd (HO.lst [])) c (HO.lst (cutV (ns.map V.int) none (some 30)))) z (HO.lst [V.int 0])) q (HO.lst (cutV (ns.map V.int) none (some 30) ++ [V.int 0])) = H1
  intro ehd eq0
  refine frb_L (xs := cutV (ns.map V.int) none (some 30) ++ [V.int 0]) (Pv1 K a hd H1) ⟨⟨none, none, none, none, none, none, none, none, none, none, none, none, none, none, rfl⟩, Fr.refl _ _, [], ehd, rfl, by simp⟩ (fun i σ H' _ p => SqL.of (p.2.1 q _ nq eq0)) (fun i x σ H0 hi p => ?_) (fun σ H0 p => ?_)
  · obtain ⟨⟨v2, v3, v4, v5, v6, v7, v8, v9, v10, v11, v12, v13, v14, v15, rfl⟩, f0, ws, hw, hlen, hall⟩ := p
    have hi2 : i ≤ 63 := by
      have := (List.getElem?_eq_some_iff.mp hi).1
      simp at this; omega
    obtain ⟨n, rfl⟩ : ∃ n, x = V.int n := by
      rcases List.mem_append.mp (List.mem_of_getElem? hi) with h | h
      · obtain ⟨n, _, rfl⟩ := List.mem_map.mp (mem_cutV h); exact ⟨n, rfl⟩
      · rw [List.mem_singleton.mp h]; exact ⟨0, rfl⟩
    walk_at "wp"
    refine ⟨n, 3, rfl, by decide, fun d H2 hd0 e2 k2 => ?_⟩
    walk_at "wp"
    refine ⟨d, 3, 21, rfl, k2, by decide, by decide, by decide, fun r H3 r0 r1 f3 k3 => ?_⟩
    have e3 := same_fr e2 f3 hd0
    walk_at "wp"
    refine lcb_R (d := d) (fun _ y H => ∃ e : Deed, e.ok 1000 = true ∧ Dp K H y e.d) (fun i H => DeckAt H d (4 + 4 * i)) (fun _ => rfl) (by omega) k3.nn k3 (fun i _ _ h e => h.at' e) (fun i y H1 H2 tk h => ?_) (fun i H4 T hi4 f4 s4 hT => ?_) (fun p ys H4 hp f4 h1 h2 h3 s4 => ?_)
    · obtain ⟨e, h1, h2⟩ := h
      exact ⟨e, h1, dp_tk tk h2 (noL_deed e)⟩
    · walk_at "wp"
      intro l hl
      walk_at "wp"
      refine ⟨d, 4 + 4 * i, 2, rfl, s4.same (same_new hl), by omega, by decide, by decide, fun r2 H5 q0 q1 f5 d5 => ?_⟩
      have hl3 : H5 l = some (.lst [.int 12, .int 1000]) := f5 l _ (s4.some hl) upd_same
      obtain ⟨m, hm, hm2⟩ : ∃ m : Nat, atI [V.int 12, V.int 1000] r2 = some (.int (m : Int)) ∧ (m = 12 ∨ m = 1000) := by
        obtain rfl | rfl : r2 = 0 ∨ r2 = 1 := by omega
        · exact ⟨12, rfl, .inl rfl⟩
        · exact ⟨1000, rfl, .inr rfl⟩
      refine w_ixL ?_ (SqL.of hl3) hm
      walk_at "wp"
      refine ⟨d, _, m, rfl, d5, by omega, by omega, by omega, fun e v H6 he f6 d6 hv => ?_⟩
      have f46 : Fr d H4 H6 := ((Fr.of (same_new hl)).trans f5).trans f6
      refine hT v H6 f46 (s4.tk f46) (d6.mono (by omega)) ⟨e, ?_, hv⟩
      cases e <;> simp_all [Deed.ok] <;> omega
    have e4 := same_fr e3 f4 hd0
    obtain ⟨row, hrl, hrok, hrd⟩ := list_of h3
    have npd : p ≠ d := fun z => k3.nn (by rw [← z]; exact hp)
    walk_at "wp"
    intro l2 hl2
    walk_at "wp"
    refine ⟨d, _, 8, rfl, s4.same (same_new hl2), by omega, by decide, by decide, fun r5 H5 q0 q1 f5 d5 => ?_⟩
    have e5 := same_fr (e4.trans (same_new hl2)) f5 hd0
    have hp5 : H5 p = some (.lst ys) := f5 p _ npd (same_new hl2 _ _ h1)
    have t5 : TK H4 H5 := (TK.of (same_new hl2)).trans ((s4.same (same_new hl2)).tk f5)
    have hrd5 := dps_tk t5 hrd (noLs_map noL_deed row)
    have hl25 : H5 l2 = some (.lst [.int 21, .int 41]) := f5 l2 _ (s4.some hl2) upd_same
    walk_at "wp"
    obtain ⟨m, hm, hm2⟩ : ∃ m : Nat, atI [V.int 21, V.int 41] (if decide (r5 = 3) = true then 1 else 0) = some (.int (m : Int)) ∧ 0 < m ∧ m ≤ 41 := by
      by_cases z : r5 = 3
      · rw [decide_eq_true z]; exact ⟨41, rfl, by decide, by decide⟩
      · rw [decide_eq_false z]; exact ⟨21, rfl, by decide, by decide⟩
    refine w_ixL ?_ (SqL.of hl25) hm
    walk_at "wp"
    refine ⟨d, _, m, rfl, d5, by omega, by omega, by omega, fun r6 H6 u0 u1 f6 k6 => ?_⟩
    have e6 := same_fr e5 f6 hd0
    have hp6 : H6 p = some (.lst ys) := f6 p _ npd hp5
    have hrd6 := dps_tk (d5.tk f6) hrd5 (noLs_map noL_deed row)
    walk_at "wp"
    refine lcb_R (d := d) (fun _ y H => ∃ e : Ev, e.ok 1000 = true ∧ Dp K H y e.d) (fun i H => DeckAt H d (200 + 6 * i)) (fun _ => rfl) (by omega) k6.nn (k6.mono (by omega)) (fun i _ _ h e => h.at' e) (fun i y H1 H2 tk h => ?_) (fun i H7 T hi7 f7 s7 hT => ?_) (fun p2 zs H7 hp2 f7 h4 h5 h6 s7 => ?_)
    · obtain ⟨e, h1, h2⟩ := h
      exact ⟨e, h1, dp_tk tk h2 (noL_ev e)⟩
    · walk_at "wp"
      refine ⟨d, _, rfl, s7, by omega, fun e v H8 he f8 d8 hv => ?_⟩
      exact hT v H8 f8 (s7.tk f8) (d8.mono (by omega)) ⟨e, he, hv⟩
    have e7 := same_fr e6 f7 hd0
    have hp7 : H7 p = some (.lst ys) := f7 p _ npd hp6
    have hrd7 := dps_tk (k6.tk f7) hrd6 (noLs_map noL_deed row)
    obtain ⟨story, hsl, hsok, hsd⟩ := list_of h6
    have gR : goodR row := ⟨hrok, by omega⟩
    have gS : goodS story := ⟨hsok, by omega⟩
    walk_at "wp"
    refine lcb_P (fun i y _ => ∃ e, row[i]? = some e ∧ y = .str (ofL (wDeed e ++ [10]))) (fun _ => rfl) (SqL.of hp7) (by omega) (fun _ _ _ _ _ h => h) (fun i x H8 T hi8 e8 hT => ?_) (fun c1 us H8 hc1 e8 j1 j2 j3 => ?_)
    · obtain ⟨dd, hd1, hx⟩ := dps_get hrd7 hi8
      obtain ⟨e, her, rfl⟩ : ∃ e, row[i]? = some e ∧ dd = e.d := by
        rw [List.getElem?_map] at hd1
        cases z : row[i]? with
        | none => rw [z] at hd1; simp at hd1
        | some e => rw [z] at hd1; simp at hd1; exact ⟨e, rfl, hd1.symm⟩
      have hok := hrok e (List.mem_of_getElem? her)
      have h6 := wDeed_len hok
      walk_at "wp"
      refine ⟨x, e, rfl, dp_same e8 hx, hok, ?_⟩
      walk_at "wp"
      exact hT _ _ (Same.refl _) ⟨e, her, congrArg V.str (eq_ofL (by walk_at "tls"))⟩
    refine join_lines (f := wDeed) gR.2 (fun e he' => Nat.le_trans (wDeed_len (hrok e he')) (by decide)) j1 (pw_map (by omega) j3) ?_
    walk_at "wp"
    intro du hdu
    have hp28 : (upd H8 du (HO.lst [V.str (ofL (wLines (row.map wDeed)))])) p2 = some (.lst zs) := same_new hdu _ _ (e8 _ _ h4)
    walk_at "wp"
    refine lcb_P (fun i y _ => ∃ e, story[i]? = some e ∧ y = .str (ofL (wEv e ++ [10]))) (fun _ => rfl) (SqL.of hp28) (by omega) (fun _ _ _ _ _ h => h) (fun i x H9 T hi9 e9 hT => ?_) (fun c2 us2 H9 hc2 e9 j4 j5 j6 => ?_)
    · obtain ⟨dd, hd1, hx⟩ := dps_get hsd hi9
      obtain ⟨e, her, rfl⟩ : ∃ e, story[i]? = some e ∧ dd = e.d := by
        rw [List.getElem?_map] at hd1
        cases z : story[i]? with
        | none => rw [z] at hd1; simp at hd1
        | some e => rw [z] at hd1; simp at hd1; exact ⟨e, rfl, hd1.symm⟩
      have hok := hsok e (List.mem_of_getElem? her)
      have h6 := wEv_len hok
      walk_at "wp"
      refine ⟨x, e, rfl, dp_same ((e8.trans (same_new hdu)).trans e9) hx, hok, ?_⟩
      walk_at "wp"
      exact hT _ _ (Same.refl _) ⟨e, her, congrArg V.str (eq_ofL (by simp only [TL.tl_append, tl_ofL, lit_feed]))⟩
    refine join_lines (f := wEv) gS.2 (fun e he' => Nat.le_trans (wEv_len (hsok e he')) (by decide)) j4 (pw_map (by omega) j6) ?_
    have hdu9 := e9 _ _ (upd_same (H := H8) (a := du) (o := HO.lst [V.str (ofL (wLines (row.map wDeed)))]))
    have e89 : Same H7 H9 := (e8.trans (same_new hdu)).trans e9
    have du7 : H7 du = none := e8.free hdu
    have ndp : p ≠ du := ne_of_none hp7 du7
    have ndp2 : p2 ≠ du := ne_of_none h4 du7
    walk_at "wp"
    have tk10 : TK H9 (upd H9 du (HO.lst ([V.str (ofL (wLines (row.map wDeed)))] ++ [V.str (ofL (wLines (story.map wEv)))]))) := (Fr.refl du H9).upd.tk hdu9
    have e10 : Same H0 (upd H9 du (HO.lst ([V.str (ofL (wLines (row.map wDeed)))] ++ [V.str (ofL (wLines (story.map wEv)))]))) := same_fr (e7.trans e89) (Fr.refl du H9).upd (e7.free du7)
    have hp10 : (upd H9 du (HO.lst ([V.str (ofL (wLines (row.map wDeed)))] ++ [V.str (ofL (wLines (story.map wEv)))]))) p = some (.lst ys) := by rw [upd_ne ndp]; exact e89 _ _ hp7
    have hq10 : (upd H9 du (HO.lst ([V.str (ofL (wLines (row.map wDeed)))] ++ [V.str (ofL (wLines (story.map wEv)))]))) p2 = some (.lst zs) := by rw [upd_ne ndp2]; exact e89 _ _ h4
    have hdu10 : (upd H9 du (HO.lst ([V.str (ofL (wLines (row.map wDeed)))] ++ [V.str (ofL (wLines (story.map wEv)))]))) du = some (.lst [V.str (ofL (wLines (row.map wDeed))), V.str (ofL (wLines (story.map wEv)))]) := upd_same
    have tk7 := (TK.of e89).trans tk10
    revert tk7 e10 hp10 hq10 hdu10
    generalize (upd H9 du (HO.lst ([V.str (ofL (wLines (row.map wDeed)))] ++ [V.str (ofL (wLines (story.map wEv)))]))) = H10
    intro e10 hp10 hq10 hdu10 tk7
    have rowD := dps_tk tk7 hrd7 (noLs_map noL_deed row)
    have stoD := dps_tk tk7 hsd (noLs_map noL_ev story)
    refine ⟨p, ys, rfl, .inl (SqL.of hp10), fun la hla => ?_⟩
    walk_at "wp"
    have s11 := same_new (o := HO.lst ys) hla
    refine ⟨p2, zs, rfl, .inl (SqL.of (s11 _ _ hq10)), fun lb hlb => ?_⟩
    have s12 := same_new (o := HO.lst zs) hlb
    walk_at "wp"
    intro lh hlh
    have s13 := same_new (o := HO.lst [V.ref la, V.ref lb]) hlh
    walk_at "wp"
    have e13 := (s11.trans s12).trans s13
    have laD : Dp K _ (V.ref la) (.list (row.map Deed.d)) := .lst (SqL.of ((s12.trans s13) _ _ upd_same)) (dps_same e13 rowD)
    have lbD : Dp K _ (V.ref lb) (.list (story.map Ev.d)) := .lst (SqL.of (s13 _ _ upd_same)) (dps_same e13 stoD)
    refine ⟨_, row, rfl, laD, gR.1, gR.2, fun H14 e14 => ?_⟩
    have hlh14 := e14 _ _ (upd_same (a := lh))
    walk_at "wp"
    refine ⟨_, story, rfl, dp_same e14 lbD, gS.1, gS.2, fun H15 e15 => ?_⟩
    walk_at "wp"
    intro lt hlt
    have s16 := same_new (o := HO.lst [V.str (ofL (wLines (row.map wDeed))), V.str (ofL (wLines (story.map wEv)))]) hlt
    have e16 := (e14.trans e15).trans s16
    have hlt16 := upd_same (H := H15) (a := lt) (o := HO.lst [V.str (ofL (wLines (row.map wDeed))), V.str (ofL (wLines (story.map wEv)))])
    have e10' := e13.trans e16
    have rowD16 := dps_same e10' rowD
    have stoD16 := dps_same e10' stoD
    have hp16 := e10' _ _ hp10
    have hq16 := e10' _ _ hq10
    have hdu16 := e10' _ _ hdu10
    have laD16 := dp_same e16 laD
    have lbD16 := dp_same e16 lbD
    have hlh16 := e16 _ _ (upd_same (a := lh))
    have e016 := e10.trans e10'
    walk_at "wp"
    refine w_neSm ?_ (.lst (SqL.of hlt16) (.cons (.str _) (.cons (.str _) .nil))) (.lst (SqL.of hdu16) (.cons (.str _) (.cons (.str _) .nil))) (sm_du gR gS) (by decide)
    walk_at "wp"
    intro lw hlw
    have s17 := same_new (o := HO.lst [V.ref p, V.ref p2]) hlw
    refine w_neSm (d := twoD row story) ?_ (.lst (SqL.of (s17 _ _ hlh16)) (.cons (dp_same s17 laD16) (.cons (dp_same s17 lbD16) .nil))) (.lst (SqL.of upd_same) (.cons (dp_same s17 (.lst (SqL.of hp16) rowD16)) (.cons (dp_same s17 (.lst (SqL.of hq16) stoD16)) .nil))) (sm_two gR gS) (by decide)
    have hlt17 := s17 _ _ hlt16
    walk_at "wp"
    refine lcb_Z (fun _ => rfl) (SqL.of hlt17) (fun i x H18 T hi hT => ?_) (fun c3 hc3 => ?_)
    · obtain ⟨t, rfl⟩ : ∃ t, x = V.str t := by
        have := List.mem_of_getElem? hi
        simp only [List.mem_cons, List.not_mem_nil, or_false] at this
        rcases this with rfl | rfl <;> exact ⟨_, rfl⟩
      walk_at "wp"
      refine w_isiS ?_
      walk_at "wp"
      exact hT
    walk_at "wp"
    intro c4 hc4
    have s18 := same_new (o := HO.lst []) hc3
    have s19 := same_new (o := HO.lst []) hc4
    refine w_neSm (d := .list []) ?_ (.lst (SqL.of (s19 _ _ upd_same)) .nil) (.lst (SqL.of upd_same) .nil) (sm_lst (k := 0) (n := 0) (by simp)) (by decide)
    have e19 := e016.trans (s17.trans (s18.trans s19))
    have rest := (s17.trans (s18.trans s19))
    have hw19 := e19 _ _ hw
    have hp19 := rest _ _ hp16
    have hq19 := rest _ _ hq16
    have hdu19 := rest _ _ hdu16
    have row19 := dps_same rest rowD16
    have sto19 := dps_same rest stoD16
    revert e19 hw19 hp19 hq19 hdu19 row19 sto19
    generalize upd (upd (upd (upd H15 lt (HO.lst [V.str (ofL (wLines (row.map wDeed))), V.str (ofL (wLines (story.map wEv)))])) lw (HO.lst [V.ref p, V.ref p2])) c3 (HO.lst [])) c4 (HO.lst []) = H19
    intro e19 hw19 hp19 hq19 hdu19 row19 sto19
    walk_at "wp"
    intro t ht
    have s20 := same_new (o := HO.tup [V.ref p, V.ref p2, V.ref du]) ht
    walk_at "wp"
    refine w_append (s20 _ _ hw19) (by omega) ?_
    walk_at "wp"
    have e20 := e19.trans s20
    have f20 : Fr hd H0 (upd (upd H19 t (HO.tup [V.ref p, V.ref p2, V.ref du])) hd (HO.lst (ws ++ [V.ref t]))) := (Fr.of e20).upd
    refine ⟨⟨_, _, _, _, _, _, _, _, _, _, _, _, _, _, rfl⟩, f0.trans f20, ws ++ [V.ref t], upd_same, by simp [hlen], fun w hw' => ?_⟩
    rcases List.mem_append.mp hw' with hw' | hw'
    · obtain ⟨r, s, g1, g2, g3⟩ := hall w hw'
      exact ⟨r, s, g1, g2, dp_same (del_fr f20) g3⟩
    · rw [List.mem_singleton.mp hw']
      refine ⟨row, story, gR, gS, ?_⟩
      rw [del_upd]
      have np : p ≠ hd := (ne_of_none (e3 _ _ hw) hp).symm
      have nq' : p2 ≠ hd := (ne_of_none (e6 _ _ hw) hp2).symm
      have ndu : du ≠ hd := (ne_of_none (e7 _ _ hw) du7).symm
      have nt : t ≠ hd := (ne_of_none hw19 ht).symm
      have tkd := (TK.of s20).trans (del_tk (s20 _ _ hw19))
      refine .tup (SqT.of (by rw [del_ne nt]; exact upd_same)) (.cons (.lst (SqL.of (by rw [del_ne np]; exact s20 _ _ hp19)) (dps_tk tkd row19 (noLs_map noL_deed row))) (.cons (.lst (SqL.of (by rw [del_ne nq']; exact s20 _ _ hq19)) (dps_tk tkd sto19 (noLs_map noL_ev story))) (.cons (.lst (SqL.of (by rw [del_ne ndu]; exact s20 _ _ hdu19)) (.cons (.str _) (.cons (.str _) .nil))) .nil)))
  · obtain ⟨⟨v2, v3, v4, v5, v6, v7, v8, v9, v10, v11, v12, v13, v14, v15, rfl⟩, f0, ws, hw, hlen, hall⟩ := p
    walk_at "wp"
    refine frb_L (xs := ws) (fun i σ H' => Sg a hd σ ∧ Same H0 H') ⟨⟨_, _, _, _, _, _, _, _, _, _, _, _, _, _, rfl⟩, Same.refl _⟩ (fun i σ H' _ p => SqL.of (p.2 _ _ hw)) (fun i x σ H2 hi p => ?_) (fun σ H2 p => ?_)
    · obtain ⟨⟨v2, v3, v4, v5, v6, v7, v8, v9, v10, v11, v12, v13, v14, v15, rfl⟩, e2⟩ := p
      obtain ⟨r, s, gR, gS, g3⟩ := hall x (List.mem_of_getElem? hi)
      have g4 := dp_same (del_same.trans e2) g3
      obtain ⟨t, us, rfl, ht, hus⟩ := dp_tup g4
      obtain ⟨u1, us, rfl, d1, hus⟩ := dps_cons hus
      obtain ⟨u2, us, rfl, d2, hus⟩ := dps_cons hus
      obtain ⟨u3, us, rfl, d3, hus⟩ := dps_cons hus
      obtain rfl := dps_nil hus
      obtain ⟨q3, ss, rfl, hq3, hss⟩ := dp_lst d3
      obtain ⟨s1, ss, rfl, k1, hss⟩ := dps_cons hss
      obtain ⟨s2, ss, rfl, k2, hss⟩ := dps_cons hss
      obtain rfl := dps_nil hss
      obtain rfl := dp_str k1
      obtain rfl := dp_str k2
      refine ⟨t, _, rfl, ht, rfl, _, _, rfl, _, _, rfl, _, _, rfl, rfl, ?_⟩
      walk_at "wp"
      refine ⟨r, gR.1, gR.2, rfl, fun p1 w1 H3 hp1 e3 j1 j2 => ?_⟩
      have hq33 := e3.seq hq3
      walk_at "wp"
      refine ⟨s, gS.1, gS.2, rfl, fun p2 w2 H4 hp2 e4 j3 j4 => ?_⟩
      have hq34 := e4.seq hq33
      walk_at "wp"
      intro pf hpf
      have s5 := same_new (o := HO.lst [V.ref p1, V.ref p2]) hpf
      have hp15 := s5 _ _ (e4 _ _ j1)
      have hp25 := s5 _ _ j3
      have dp1 := dps_same (e4.trans s5) j2
      have dp2 := dps_same s5 j4
      have hpf5 := upd_same (H := H4) (a := pf) (o := HO.lst [V.ref p1, V.ref p2])
      have d15 := dp_same ((e3.trans e4).trans s5) d1
      have d25 := dp_same ((e3.trans e4).trans s5) d2
      have hq35 := s5.seq hq34
      have e25 := (e3.trans e4).trans s5
      have n12 : p1 ≠ p2 := ne_of_none j1 hp2
      revert hp15 hp25 dp1 dp2 hpf5 d15 d25 hq35 e25
      generalize upd H4 pf (HO.lst [V.ref p1, V.ref p2]) = H5
      intro hp15 hp25 dp1 dp2 hpf5 d15 d25 hq35 e25
      walk_at "wp"
      refine w_repr (d := twoD r s) ?_ (.lst (SqL.of hpf5) (.cons (.lst (SqL.of hp15) dp1) (.cons (.lst (SqL.of hp25) dp2) .nil))) (sm_two gR gS) (by decide) (by decide)
      walk_at "wp"
      intro pw hpw
      have s6 := same_new (o := HO.lst [u1, u2]) hpw
      walk_at "wp"
      refine w_repr (d := twoD r s) ?_ (.lst (SqL.of upd_same) (.cons (dp_same s6 d15) (.cons (dp_same s6 d25) .nil))) (sm_two gR gS) (by decide) (by decide)
      have hpf6 := s6 _ _ hpf5
      have hp16 := s6 _ _ hp15
      have hp26 := s6 _ _ hp25
      have npf1 : pf ≠ p1 := (ne_of_none (e4 _ _ j1) hpf).symm
      have npf2 : pf ≠ p2 := (ne_of_none j3 hpf).symm
      have l1 := dps_len dp1
      have l2 := dps_len dp2
      have g1 := gR.2
      have g2 := gS.2
      rw [List.length_map] at l1 l2
      walk_at "wp"
      have e27 := same_fr (e25.trans s6) (Fr.upd (o := HO.lst (w1 ++ [V.non])) (Fr.refl p1 (upd H5 pw (HO.lst [u1, u2])))) hp1
      have hpf7 : (upd (upd H5 pw (HO.lst [u1, u2])) p1 (HO.lst (w1 ++ [V.non]))) pf = some (.lst [V.ref p1, V.ref p2]) := by rw [upd_ne npf1]; exact hpf6
      have hp27 : (upd (upd H5 pw (HO.lst [u1, u2])) p1 (HO.lst (w1 ++ [V.non]))) p2 = some (.lst w2) := by rw [upd_ne n12.symm]; exact hp26
      walk_at "wp"
      have e28 := same_fr e27 (Fr.upd (o := HO.lst (w2 ++ [V.non])) (Fr.refl p2 (upd (upd H5 pw (HO.lst [u1, u2])) p1 (HO.lst (w1 ++ [V.non]))))) (e3.free hp2)
      revert e28
      generalize upd (upd (upd H5 pw (HO.lst [u1, u2])) p1 (HO.lst (w1 ++ [V.non]))) p2 (HO.lst (w2 ++ [V.non])) = H8
      intro e28
      have hq38 := e28.seq hq3
      walk_at "wp"
      refine ⟨r, gR.1, gR.2, rfl, fun p3 w3 H9 hp3 e9 j5 j6 => ?_⟩
      have hq39 := e9.seq hq38
      walk_at "wp"
      refine ⟨s, gS.1, gS.2, rfl, fun p4 w4 H10 hp4 e10 j7 j8 => ?_⟩
      walk_at "wp"
      intro px hpx
      have s11 := same_new (o := HO.lst [V.ref p3, V.ref p4]) hpx
      walk_at "wp"
      refine w_repr (d := twoD r s) ?_ (.lst (SqL.of upd_same) (.cons (.lst (SqL.of (s11 _ _ (e10 _ _ j5))) (dps_same (e10.trans s11) j6)) (.cons (.lst (SqL.of (s11 _ _ j7)) (dps_same s11 j8)) .nil))) (sm_two gR gS) (by decide) (by decide)
      walk_at "wp"
      intro py hpy
      have s12 := same_new (o := HO.lst [u1, u2]) hpy
      have e2z := (((e28.trans e9).trans e10).trans s11).trans s12
      walk_at "wp"
      refine w_repr (d := twoD r s) ?_ (.lst (SqL.of upd_same) (.cons (dp_same e2z d1) (.cons (dp_same e2z d2) .nil))) (sm_two gR gS) (by decide) (by decide)
      walk_at "wp"
      exact ⟨⟨_, _, _, _, _, _, _, _, _, _, _, _, _, _, rfl⟩, e2.trans e2z⟩
    · obtain ⟨⟨v2, v3, v4, v5, v6, v7, v8, v9, v10, v11, v12, v13, v14, v15, rfl⟩, e2⟩ := p
      walk_at "wp"
      exact k _
end
end FL

namespace FL
open PySem PySem.Spec PyProof.Rows L2 CwR
def top (i : Nat) : Stmt := PySem.Challenge.pw_farline_k83_texts_written.main.body.getD i (.Pass ⟨0, 0, 0, 0⟩)
abbrev s__law_deck : Stmt := top 22
abbrev s__law_take : Stmt := top 21
abbrev s__law_sign : Stmt := top 23
abbrev s__law_deed : Stmt := top 25
abbrev s__law_event : Stmt := top 27
abbrev s_show_sign : Stmt := top 7
abbrev s_show_deed : Stmt := top 9
abbrev s_show_row : Stmt := top 13
abbrev s_show_event : Stmt := top 15
abbrev s_show_story : Stmt := top 17
abbrev s_read_number : Stmt := top 10
abbrev s_read_sign : Stmt := top 8
abbrev s_read_deed : Stmt := top 11
abbrev s_lines_in : Stmt := top 12
abbrev s_read_row : Stmt := top 14
abbrev s_read_event : Stmt := top 16
abbrev s_read_story : Stmt := top 18
abbrev s__law_written : Stmt := top 26
abbrev s__law_event_written : Stmt := top 28
abbrev s_law : Stmt := top 29
section
variable {P : Program} {w : World} {K : PySem.W.Frag} {mg : Str → Option Value} {base : Heap}
theorem sc__law_deck : FnScope N__law_deck ["cell", "k"] (defScope s__law_deck) := ⟨rfl, rfl, rfl, by decide +kernel, rfl, by decide +kernel, by decide +kernel⟩
theorem ok__law_deck {f : Addr} {fd : FuncData} (F : Fun K "_law_deck" "_law_deck" s__law_deck f fd)  : FnOk P w K mg base CX0 1 f fd ["cell", "k"] (sp__law_deck K) := by
  have nd := sc__law_deck.nd
  refine F.ok sc__law_deck (fun vs H Q E h => ?_) (fun cdv A o s H vs Q E hr h => ⟨t__law_deck K, ?_, pr__law_deck h⟩)
  · first | (obtain ⟨rfl, _⟩ := h; rfl) | (obtain ⟨_, rfl, _⟩ := h; rfl) | (obtain ⟨_, _, rfl, _⟩ := h; rfl) | (obtain ⟨_, _, _, rfl, _⟩ := h; rfl) | (obtain ⟨_, _, _, _, rfl, _⟩ := h; rfl) | (obtain ⟨_, _, _, _, _, rfl, _⟩ := h; rfl)
  · exact (pss_cons (ps_if (pt_cmpR u_ge (pv 0) (pe_op u_pow pe_int pe_int) (nomark _)) (pss_one (ps_ret (pe_lst (pa_cons (pe_op u_sub (pv 0) (pe_op u_pow pe_int pe_int)) (pa_cons pe_int (pa_cons (pv 1) pa_nil)))))) pss_nil) (pss_one (ps_ret (pe_lst (pa_cons (pv 0) (pa_cons pe_int (pa_cons (pv 1) pa_nil)))))))
theorem sc__law_take : FnScope N__law_take ["deck", "many"] (defScope s__law_take) := ⟨rfl, rfl, rfl, by decide +kernel, rfl, by decide +kernel, by decide +kernel⟩
theorem ok__law_take {f : Addr} {fd : FuncData} (F : Fun K "_law_take" "_law_take" s__law_take f fd)  : FnOk P w K mg base CX0 1 f fd ["deck", "many"] (sp__law_take K) := by
  have nd := sc__law_take.nd
  refine F.ok sc__law_take (fun vs H Q E h => ?_) (fun cdv A o s H vs Q E hr h => ⟨t__law_take K, ?_, pr__law_take h⟩)
  · first | (obtain ⟨rfl, _⟩ := h; rfl) | (obtain ⟨_, rfl, _⟩ := h; rfl) | (obtain ⟨_, _, rfl, _⟩ := h; rfl) | (obtain ⟨_, _, _, rfl, _⟩ := h; rfl) | (obtain ⟨_, _, _, _, rfl, _⟩ := h; rfl) | (obtain ⟨_, _, _, _, _, rfl, _⟩ := h; rfl)
  · exact (pss_cons (ps_if (pt_cmpR (u_eq hr.units) (pe_ix ix_seq (pv 0) pe_int (fun _ _ => rfl)) pe_int (nomark _)) (pss_cons (ps_set (i := 2) nd rfl (by first | exact Or.inl rfl | exact Or.inr rfl) (pe_op u_mod (pe_ix ix_seq (pv 0) pe_int (fun _ _ => rfl)) (pv 1))) (pss_cons (ps_asg (pe_op u_div (pe_ix ix_seq (pv 0) pe_int (fun _ _ => rfl)) (pv 1)) (pg_sub (pv 0) pe_int set_list)) (pss_one (ps_ret (pv 2))))) pss_nil) (pss_cons (ps_asg (pe_op u_add (pe_ix ix_seq (pv 0) pe_int (fun _ _ => rfl)) pe_int) (pg_sub (pv 0) pe_int set_list)) (pss_cons (ps_set (i := 3) nd rfl (by first | exact Or.inl rfl | exact Or.inr rfl) (pe_op u_mul (pe_op u_mod (pe_ix ix_seq (pv 0) pe_int (fun _ _ => rfl)) pe_int) (pe_op u_add (pe_op u_mul (pe_ix ix_seq (pv 0) pe_int (fun _ _ => rfl)) (pe_ix ix_seq (pv 0) pe_int (fun _ _ => rfl))) pe_int))) (pss_cons (ps_set (i := 3) nd rfl (by first | exact Or.inl rfl | exact Or.inr rfl) (pe_op u_mod (pe_op u_add (pe_op u_add (pv 3) (pe_ix ix_seq (pv 0) pe_int (fun _ _ => rfl))) pe_int) pe_int)) (pss_cons (ps_set (i := 3) nd rfl (by first | exact Or.inl rfl | exact Or.inr rfl) (pe_op u_mod (pe_op u_mul (pv 3) (pv 3)) pe_int)) (pss_one (ps_ret (pe_op u_mod (pe_op u_div (pe_op u_mod (pe_op u_mul (pv 3) pe_int) pe_int) pe_int) (pv 1)))))))))
theorem sc__law_sign : FnScope N__law_sign ["deck"] (defScope s__law_sign) := ⟨rfl, rfl, rfl, by decide +kernel, rfl, by decide +kernel, by decide +kernel⟩
theorem ok__law_sign {f : Addr} {fd : FuncData} (F : Fun K "_law_sign" "_law_sign" s__law_sign f fd) {f__law_take : Addr} {fd__law_take : FuncData} (G__law_take : FnOk P w K mg base CX0 1 f__law_take fd__law_take ["deck", "many"] (sp__law_take K)) (g__law_take : mg "_law_take" = some (.ref f__law_take)) (k__law_take : PySem.W.keepIn K (.ref f__law_take) = true) (b__law_take : Binds K fd__law_take ["deck", "many"] []) : FnOk P w K mg base CX0 2 f fd ["deck"] (sp__law_sign K) := by
  have nd := sc__law_sign.nd
  refine F.ok sc__law_sign (fun vs H Q E h => ?_) (fun cdv A o s H vs Q E hr h => ⟨t__law_sign K, ?_, pr__law_sign h⟩)
  · first | (obtain ⟨rfl, _⟩ := h; rfl) | (obtain ⟨_, rfl, _⟩ := h; rfl) | (obtain ⟨_, _, rfl, _⟩ := h; rfl) | (obtain ⟨_, _, _, rfl, _⟩ := h; rfl) | (obtain ⟨_, _, _, _, rfl, _⟩ := h; rfl) | (obtain ⟨_, _, _, _, _, rfl, _⟩ := h; rfl)
  · exact (pss_one (ps_ret (pe_ix ix_seq pe_str (pe_call G__law_take (hr.mono (by decide)) rfl g__law_take k__law_take b__law_take .nil pass0 (pa_cons (pv 0) (pa_cons pe_int pa_nil))) (fun _ _ => rfl))))
theorem sc__law_deed : FnScope N__law_deed ["deck", "place"] (defScope s__law_deed) := ⟨rfl, rfl, rfl, by decide +kernel, rfl, by decide +kernel, by decide +kernel⟩
theorem ok__law_deed {f : Addr} {fd : FuncData} (F : Fun K "_law_deed" "_law_deed" s__law_deed f fd) {f__law_sign : Addr} {fd__law_sign : FuncData} (G__law_sign : FnOk P w K mg base CX0 2 f__law_sign fd__law_sign ["deck"] (sp__law_sign K)) (g__law_sign : mg "_law_sign" = some (.ref f__law_sign)) (k__law_sign : PySem.W.keepIn K (.ref f__law_sign) = true) (b__law_sign : Binds K fd__law_sign ["deck"] []) {f__law_take : Addr} {fd__law_take : FuncData} (G__law_take : FnOk P w K mg base CX0 1 f__law_take fd__law_take ["deck", "many"] (sp__law_take K)) (g__law_take : mg "_law_take" = some (.ref f__law_take)) (k__law_take : PySem.W.keepIn K (.ref f__law_take) = true) (b__law_take : Binds K fd__law_take ["deck", "many"] []) : FnOk P w K mg base CX0 3 f fd ["deck", "place"] (sp__law_deed K) := by
  have nd := sc__law_deed.nd
  refine F.ok sc__law_deed (fun vs H Q E h => ?_) (fun cdv A o s H vs Q E hr h => ⟨t__law_deed K, ?_, pr__law_deed h⟩)
  · first | (obtain ⟨rfl, _⟩ := h; rfl) | (obtain ⟨_, rfl, _⟩ := h; rfl) | (obtain ⟨_, _, rfl, _⟩ := h; rfl) | (obtain ⟨_, _, _, rfl, _⟩ := h; rfl) | (obtain ⟨_, _, _, _, rfl, _⟩ := h; rfl) | (obtain ⟨_, _, _, _, _, rfl, _⟩ := h; rfl)
  · exact (pss_cons (ps_set (i := 2) nd rfl (by first | exact Or.inl rfl | exact Or.inr rfl) (pe_call G__law_take (hr.mono (by decide)) rfl g__law_take k__law_take b__law_take .nil pass0 (pa_cons (pv 0) (pa_cons pe_int pa_nil)))) (pss_cons (ps_if (pt_cmpR u_lt (pv 2) pe_int (nomark _)) (pss_one (ps_ret (pe_tup (pa_cons pe_str (pa_cons (pe_call G__law_take (hr.mono (by decide)) rfl g__law_take k__law_take b__law_take .nil pass0 (pa_cons (pv 0) (pa_cons (pv 1) pa_nil))) (pa_cons (pe_call G__law_sign (hr.mono (by decide)) rfl g__law_sign k__law_sign b__law_sign .nil pass0 (pa_cons (pv 0) pa_nil)) pa_nil)))))) pss_nil) (pss_cons (ps_if (pt_cmpR u_lt (pv 2) pe_int (nomark _)) (pss_one (ps_ret (pe_tup (pa_cons pe_str (pa_cons (pe_call G__law_take (hr.mono (by decide)) rfl g__law_take k__law_take b__law_take .nil pass0 (pa_cons (pv 0) (pa_cons (pv 1) pa_nil))) pa_nil))))) pss_nil) (pss_one (ps_ret (pe_tup (pa_cons pe_str pa_nil)))))))
theorem sc__law_event : FnScope N__law_event ["deck"] (defScope s__law_event) := ⟨rfl, rfl, rfl, by decide +kernel, rfl, by decide +kernel, by decide +kernel⟩
theorem ok__law_event {f : Addr} {fd : FuncData} (F : Fun K "_law_event" "_law_event" s__law_event f fd) {f__law_deed : Addr} {fd__law_deed : FuncData} (G__law_deed : FnOk P w K mg base CX0 3 f__law_deed fd__law_deed ["deck", "place"] (sp__law_deed K)) (g__law_deed : mg "_law_deed" = some (.ref f__law_deed)) (k__law_deed : PySem.W.keepIn K (.ref f__law_deed) = true) (b__law_deed : Binds K fd__law_deed ["deck", "place"] []) {f__law_take : Addr} {fd__law_take : FuncData} (G__law_take : FnOk P w K mg base CX0 1 f__law_take fd__law_take ["deck", "many"] (sp__law_take K)) (g__law_take : mg "_law_take" = some (.ref f__law_take)) (k__law_take : PySem.W.keepIn K (.ref f__law_take) = true) (b__law_take : Binds K fd__law_take ["deck", "many"] []) : FnOk P w K mg base CX0 4 f fd ["deck"] (sp__law_event K) := by
  have nd := sc__law_event.nd
  refine F.ok sc__law_event (fun vs H Q E h => ?_) (fun cdv A o s H vs Q E hr h => ⟨t__law_event K, ?_, pr__law_event h⟩)
  · first | (obtain ⟨rfl, _⟩ := h; rfl) | (obtain ⟨_, rfl, _⟩ := h; rfl) | (obtain ⟨_, _, rfl, _⟩ := h; rfl) | (obtain ⟨_, _, _, rfl, _⟩ := h; rfl) | (obtain ⟨_, _, _, _, rfl, _⟩ := h; rfl) | (obtain ⟨_, _, _, _, _, rfl, _⟩ := h; rfl)
  · exact (pss_cons (ps_set (i := 1) nd rfl (by first | exact Or.inl rfl | exact Or.inr rfl) (pe_call G__law_take (hr.mono (by decide)) rfl g__law_take k__law_take b__law_take .nil pass0 (pa_cons (pv 0) (pa_cons pe_int pa_nil)))) (pss_cons (ps_if (pt_cmpR (u_eq hr.units) (pe_call G__law_take (hr.mono (by decide)) rfl g__law_take k__law_take b__law_take .nil pass0 (pa_cons (pv 0) (pa_cons pe_int pa_nil))) pe_int (nomark _)) (pss_one (ps_ret (pe_tup (pa_cons pe_str (pa_cons (pv 1) pa_nil))))) pss_nil) (pss_one (ps_ret (pe_tup (pa_cons pe_str (pa_cons (pv 1) (pa_cons (pe_call G__law_deed (hr.mono (by decide)) rfl g__law_deed k__law_deed b__law_deed .nil pass0 (pa_cons (pv 0) (pa_cons (pe_ix ix_seq (pe_lst (pa_cons pe_int (pa_cons pe_int pa_nil))) (pe_call G__law_take (hr.mono (by decide)) rfl g__law_take k__law_take b__law_take .nil pass0 (pa_cons (pv 0) (pa_cons pe_int pa_nil))) (fun _ _ => rfl)) pa_nil))) pa_nil))))))))
theorem sc_show_sign : FnScope N_show_sign ["sign"] (defScope s_show_sign) := ⟨rfl, rfl, rfl, by decide +kernel, rfl, by decide +kernel, by decide +kernel⟩
theorem ok_show_sign {f : Addr} {fd : FuncData} (F : Fun K "show_sign" "show_sign" s_show_sign f fd)  : FnOk P w K mg base CX0 1 f fd ["sign"] (sp_show_sign K) := by
  have nd := sc_show_sign.nd
  refine F.ok sc_show_sign (fun vs H Q E h => ?_) (fun cdv A o s H vs Q E hr h => ⟨t_show_sign K, ?_, pr_show_sign h⟩)
  · first | (obtain ⟨rfl, _⟩ := h; rfl) | (obtain ⟨_, rfl, _⟩ := h; rfl) | (obtain ⟨_, _, rfl, _⟩ := h; rfl) | (obtain ⟨_, _, _, rfl, _⟩ := h; rfl) | (obtain ⟨_, _, _, _, rfl, _⟩ := h; rfl) | (obtain ⟨_, _, _, _, _, rfl, _⟩ := h; rfl)
  · exact (pss_cons (ps_if (pt_cmpR (u_eq hr.units) (pv 0) pe_str (nomark _)) (pss_one (ps_ret pe_str)) pss_nil) (pss_one (ps_ret (pv 0))))
theorem sc_show_deed : FnScope N_show_deed ["deed"] (defScope s_show_deed) := ⟨rfl, rfl, rfl, by decide +kernel, rfl, by decide +kernel, by decide +kernel⟩
theorem ok_show_deed {f : Addr} {fd : FuncData} (F : Fun K "show_deed" "show_deed" s_show_deed f fd) {f_show_sign : Addr} {fd_show_sign : FuncData} (G_show_sign : FnOk P w K mg base CX0 1 f_show_sign fd_show_sign ["sign"] (sp_show_sign K)) (g_show_sign : mg "show_sign" = some (.ref f_show_sign)) (k_show_sign : PySem.W.keepIn K (.ref f_show_sign) = true) (b_show_sign : Binds K fd_show_sign ["sign"] []) : FnOk P w K mg base CX0 2 f fd ["deed"] (sp_show_deed K) := by
  have nd := sc_show_deed.nd
  refine F.ok sc_show_deed (fun vs H Q E h => ?_) (fun cdv A o s H vs Q E hr h => ⟨t_show_deed K, ?_, pr_show_deed h⟩)
  · first | (obtain ⟨rfl, _⟩ := h; rfl) | (obtain ⟨_, rfl, _⟩ := h; rfl) | (obtain ⟨_, _, rfl, _⟩ := h; rfl) | (obtain ⟨_, _, _, rfl, _⟩ := h; rfl) | (obtain ⟨_, _, _, _, rfl, _⟩ := h; rfl) | (obtain ⟨_, _, _, _, _, rfl, _⟩ := h; rfl)
  · exact (pss_cons (ps_if (pt_cmpR (u_eq hr.units) (pe_ix ix_seq (pv 0) pe_int (fun _ _ => rfl)) pe_str (nomark _)) (pss_one (ps_ret (pe_op u_add (pe_joined (PJ.cons pe_str (PJ.cons (pe_fmt (pe_ix ix_seq (pv 0) pe_int (fun _ _ => rfl))) (PJ.cons pe_str PJ.nil)))) (pe_call G_show_sign (hr.mono (by decide)) rfl g_show_sign k_show_sign b_show_sign .nil pass0 (pa_cons (pe_ix ix_seq (pv 0) pe_int (fun _ _ => rfl)) pa_nil))))) pss_nil) (pss_cons (ps_if (pt_cmpR (u_eq hr.units) (pe_ix ix_seq (pv 0) pe_int (fun _ _ => rfl)) pe_str (nomark _)) (pss_one (ps_ret (pe_joined (PJ.cons pe_str (PJ.cons (pe_fmt (pe_ix ix_seq (pv 0) pe_int (fun _ _ => rfl))) PJ.nil))))) pss_nil) (pss_one (ps_ret pe_str))))
theorem sc_show_row : FnScope N_show_row ["row"] (defScope s_show_row) := ⟨rfl, rfl, rfl, by decide +kernel, rfl, by decide +kernel, by decide +kernel⟩
theorem ok_show_row {f : Addr} {fd : FuncData} (F : Fun K "show_row" "show_row" s_show_row f fd) {f_show_deed : Addr} {fd_show_deed : FuncData} (G_show_deed : FnOk P w K mg base CX0 2 f_show_deed fd_show_deed ["deed"] (sp_show_deed K)) (g_show_deed : mg "show_deed" = some (.ref f_show_deed)) (k_show_deed : PySem.W.keepIn K (.ref f_show_deed) = true) (b_show_deed : Binds K fd_show_deed ["deed"] []) : FnOk P w K mg base CX0 3 f fd ["row"] (sp_show_row K) := by
  have nd := sc_show_row.nd
  refine F.ok sc_show_row (fun vs H Q E h => ?_) (fun cdv A o s H vs Q E hr h => ⟨t_show_row K, ?_, pr_show_row h⟩)
  · first | (obtain ⟨rfl, _⟩ := h; rfl) | (obtain ⟨_, rfl, _⟩ := h; rfl) | (obtain ⟨_, _, rfl, _⟩ := h; rfl) | (obtain ⟨_, _, _, rfl, _⟩ := h; rfl) | (obtain ⟨_, _, _, _, rfl, _⟩ := h; rfl) | (obtain ⟨_, _, _, _, _, rfl, _⟩ := h; rfl)
  · exact (pss_one (ps_ret (pe_join pe_str (pe_lc (own := [("deed", 1)]) (g := (gName 1)) (tt := tYes) (te := (tOp (rAddU K) (tCall (sp_show_deed K) [] E0 (tCons (tVar 1) tNil)) (tC (.str "\n")))) rfl nd (pi_list (pv 0)) (blkOk_by (own := [("deed", 1)]) (N := N_show_row) (sc := defScope s_show_row) (by decide +kernel)) (fun _ _ _ _ _ => (pg_name (i := 1) nd rfl (by first | exact Or.inl rfl | exact Or.inr rfl))) (fun _ _ _ _ _ => pts_nil) (fun _ _ _ _ _ => (pe_op u_add (pe_call G_show_deed (hr.mono (by decide)) rfl g_show_deed k_show_deed b_show_deed .nil pass0 (pa_cons (pv 1) pa_nil)) pe_str))))))
theorem sc_show_event : FnScope N_show_event ["event"] (defScope s_show_event) := ⟨rfl, rfl, rfl, by decide +kernel, rfl, by decide +kernel, by decide +kernel⟩
theorem ok_show_event {f : Addr} {fd : FuncData} (F : Fun K "show_event" "show_event" s_show_event f fd) {f_show_deed : Addr} {fd_show_deed : FuncData} (G_show_deed : FnOk P w K mg base CX0 2 f_show_deed fd_show_deed ["deed"] (sp_show_deed K)) (g_show_deed : mg "show_deed" = some (.ref f_show_deed)) (k_show_deed : PySem.W.keepIn K (.ref f_show_deed) = true) (b_show_deed : Binds K fd_show_deed ["deed"] []) : FnOk P w K mg base CX0 3 f fd ["event"] (sp_show_event K) := by
  have nd := sc_show_event.nd
  refine F.ok sc_show_event (fun vs H Q E h => ?_) (fun cdv A o s H vs Q E hr h => ⟨t_show_event K, ?_, pr_show_event h⟩)
  · first | (obtain ⟨rfl, _⟩ := h; rfl) | (obtain ⟨_, rfl, _⟩ := h; rfl) | (obtain ⟨_, _, rfl, _⟩ := h; rfl) | (obtain ⟨_, _, _, rfl, _⟩ := h; rfl) | (obtain ⟨_, _, _, _, rfl, _⟩ := h; rfl) | (obtain ⟨_, _, _, _, _, rfl, _⟩ := h; rfl)
  · exact (pss_cons (ps_if (pt_cmpR (u_eq hr.units) (pe_ix ix_seq (pv 0) pe_int (fun _ _ => rfl)) pe_str (nomark _)) (pss_one (ps_ret (pe_joined (PJ.cons (pe_fmt (pe_ix ix_seq (pv 0) pe_int (fun _ _ => rfl))) (PJ.cons pe_str PJ.nil))))) pss_nil) (pss_one (ps_ret (pe_op u_add (pe_joined (PJ.cons (pe_fmt (pe_ix ix_seq (pv 0) pe_int (fun _ _ => rfl))) (PJ.cons pe_str PJ.nil))) (pe_call G_show_deed (hr.mono (by decide)) rfl g_show_deed k_show_deed b_show_deed .nil pass0 (pa_cons (pe_ix ix_seq (pv 0) pe_int (fun _ _ => rfl)) pa_nil))))))
theorem sc_show_story : FnScope N_show_story ["story"] (defScope s_show_story) := ⟨rfl, rfl, rfl, by decide +kernel, rfl, by decide +kernel, by decide +kernel⟩
theorem ok_show_story {f : Addr} {fd : FuncData} (F : Fun K "show_story" "show_story" s_show_story f fd) {f_show_event : Addr} {fd_show_event : FuncData} (G_show_event : FnOk P w K mg base CX0 3 f_show_event fd_show_event ["event"] (sp_show_event K)) (g_show_event : mg "show_event" = some (.ref f_show_event)) (k_show_event : PySem.W.keepIn K (.ref f_show_event) = true) (b_show_event : Binds K fd_show_event ["event"] []) : FnOk P w K mg base CX0 4 f fd ["story"] (sp_show_story K) := by
  have nd := sc_show_story.nd
  refine F.ok sc_show_story (fun vs H Q E h => ?_) (fun cdv A o s H vs Q E hr h => ⟨t_show_story K, ?_, pr_show_story h⟩)
  · first | (obtain ⟨rfl, _⟩ := h; rfl) | (obtain ⟨_, rfl, _⟩ := h; rfl) | (obtain ⟨_, _, rfl, _⟩ := h; rfl) | (obtain ⟨_, _, _, rfl, _⟩ := h; rfl) | (obtain ⟨_, _, _, _, rfl, _⟩ := h; rfl) | (obtain ⟨_, _, _, _, _, rfl, _⟩ := h; rfl)
  · exact (pss_one (ps_ret (pe_join pe_str (pe_lc (own := [("event", 1)]) (g := (gName 1)) (tt := tYes) (te := (tOp (rAddU K) (tCall (sp_show_event K) [] E0 (tCons (tVar 1) tNil)) (tC (.str "\n")))) rfl nd (pi_list (pv 0)) (blkOk_by (own := [("event", 1)]) (N := N_show_story) (sc := defScope s_show_story) (by decide +kernel)) (fun _ _ _ _ _ => (pg_name (i := 1) nd rfl (by first | exact Or.inl rfl | exact Or.inr rfl))) (fun _ _ _ _ _ => pts_nil) (fun _ _ _ _ _ => (pe_op u_add (pe_call G_show_event (hr.mono (by decide)) rfl g_show_event k_show_event b_show_event .nil pass0 (pa_cons (pv 1) pa_nil)) pe_str))))))
theorem sc_read_number : FnScope N_read_number ["word"] (defScope s_read_number) := ⟨rfl, rfl, rfl, by decide +kernel, rfl, by decide +kernel, by decide +kernel⟩
theorem ok_read_number {f : Addr} {fd : FuncData} (F : Fun K "read_number" "read_number" s_read_number f fd) {t_FIGURES : Tok} (g_FIGURES : mg "FIGURES" = some (Value.str "0123456789" t_FIGURES)) {t_MOST_FIGURES : Tok} (g_MOST_FIGURES : mg "MOST_FIGURES" = some (Value.int 3 t_MOST_FIGURES)) (n_int : mg "int" = none) (n_len : mg "len" = none) : FnOk P w K mg base CX0 1 f fd ["word"] (sp_read_number K) := by
  have nd := sc_read_number.nd
  refine F.ok sc_read_number (fun vs H Q E h => ?_) (fun cdv A o s H vs Q E hr h => ⟨t_read_number K, ?_, pr_read_number h⟩)
  · first | (obtain ⟨rfl, _⟩ := h; rfl) | (obtain ⟨_, rfl, _⟩ := h; rfl) | (obtain ⟨_, _, rfl, _⟩ := h; rfl) | (obtain ⟨_, _, _, rfl, _⟩ := h; rfl) | (obtain ⟨_, _, _, _, rfl, _⟩ := h; rfl) | (obtain ⟨_, _, _, _, _, rfl, _⟩ := h; rfl)
  · exact (pss_cons (ps_if (PW.pt (pw_or (pt_not (pt_chain u_le u_le pe_int (pe_callB u_len (by rfl) n_len (by decide +kernel) (pa_cons (pv 0) pa_nil)) (pe_glob rfl g_MOST_FIGURES ⟨_, rfl⟩))) (pw_or1 (PW.pt (pw_and (pt_cmpR (u_eq hr.units) (pe_ix ix_seq (pv 0) pe_int (fun _ _ => rfl)) pe_str (nomark _)) (pw_and1 (pt_cmpR (u_ne hr.units) (pv 0) pe_str (nomark _)))))))) (pss_one ps_never) pss_nil) (pss_cons (ps_for PassesOwn.never rfl (pi_str (pv 0)) (pg_name (i := 1) nd rfl (by first | exact Or.inl rfl | exact Or.inr rfl)) (pss_one (ps_if (pt_cmpR u_ni (pv 1) (pe_glob rfl g_FIGURES ⟨_, rfl⟩) (by rfl)) (pss_one ps_never) pss_nil))) (pss_one (ps_ret (pe_callTy u_int (by rfl) n_int (by decide +kernel) (pa_cons (pv 0) pa_nil))))))
theorem sc_read_sign : FnScope N_read_sign ["sign"] (defScope s_read_sign) := ⟨rfl, rfl, rfl, by decide +kernel, rfl, by decide +kernel, by decide +kernel⟩
theorem ok_read_sign {f : Addr} {fd : FuncData} (F : Fun K "read_sign" "read_sign" s_read_sign f fd) {t_SIGNS : Tok} (g_SIGNS : mg "SIGNS" = some (Value.str "abcdefghijklmnopqrstuvwxyz " t_SIGNS)) (n_len : mg "len" = none) : FnOk P w K mg base CX0 1 f fd ["sign"] (sp_read_sign K) := by
  have nd := sc_read_sign.nd
  refine F.ok sc_read_sign (fun vs H Q E h => ?_) (fun cdv A o s H vs Q E hr h => ⟨t_read_sign K, ?_, pr_read_sign h⟩)
  · first | (obtain ⟨rfl, _⟩ := h; rfl) | (obtain ⟨_, rfl, _⟩ := h; rfl) | (obtain ⟨_, _, rfl, _⟩ := h; rfl) | (obtain ⟨_, _, _, rfl, _⟩ := h; rfl) | (obtain ⟨_, _, _, _, rfl, _⟩ := h; rfl) | (obtain ⟨_, _, _, _, _, rfl, _⟩ := h; rfl)
  · exact (pss_cons (ps_if (pt_cmpR (u_eq hr.units) (pv 0) pe_str (nomark _)) (pss_one (ps_ret pe_str)) pss_nil) (pss_cons (ps_if (PW.pt (pw_or (pt_cmpR (u_ne hr.units) (pe_callB u_len (by rfl) n_len (by decide +kernel) (pa_cons (pv 0) pa_nil)) pe_int (nomark _)) (pw_or (pt_cmpR (u_eq hr.units) (pv 0) pe_str (nomark _)) (pw_or1 (pt_cmpR u_ni (pv 0) (pe_glob rfl g_SIGNS ⟨_, rfl⟩) (by rfl)))))) (pss_one ps_never) pss_nil) (pss_one (ps_ret (pv 0)))))
theorem sc_read_deed : FnScope N_read_deed ["text"] (defScope s_read_deed) := ⟨rfl, rfl, rfl, by decide +kernel, rfl, by decide +kernel, by decide +kernel⟩
theorem ok_read_deed {f : Addr} {fd : FuncData} (F : Fun K "read_deed" "read_deed" s_read_deed f fd) {f_read_number : Addr} {fd_read_number : FuncData} (G_read_number : FnOk P w K mg base CX0 1 f_read_number fd_read_number ["word"] (sp_read_number K)) (g_read_number : mg "read_number" = some (.ref f_read_number)) (k_read_number : PySem.W.keepIn K (.ref f_read_number) = true) (b_read_number : Binds K fd_read_number ["word"] []) {f_read_sign : Addr} {fd_read_sign : FuncData} (G_read_sign : FnOk P w K mg base CX0 1 f_read_sign fd_read_sign ["sign"] (sp_read_sign K)) (g_read_sign : mg "read_sign" = some (.ref f_read_sign)) (k_read_sign : PySem.W.keepIn K (.ref f_read_sign) = true) (b_read_sign : Binds K fd_read_sign ["sign"] []) (n_len : mg "len" = none) : FnOk P w K mg base CX0 2 f fd ["text"] (sp_read_deed K) := by
  have nd := sc_read_deed.nd
  refine F.ok sc_read_deed (fun vs H Q E h => ?_) (fun cdv A o s H vs Q E hr h => ⟨t_read_deed K, ?_, pr_read_deed h⟩)
  · first | (obtain ⟨rfl, _⟩ := h; rfl) | (obtain ⟨_, rfl, _⟩ := h; rfl) | (obtain ⟨_, _, rfl, _⟩ := h; rfl) | (obtain ⟨_, _, _, rfl, _⟩ := h; rfl) | (obtain ⟨_, _, _, _, rfl, _⟩ := h; rfl) | (obtain ⟨_, _, _, _, _, rfl, _⟩ := h; rfl)
  · exact (pss_cons (ps_if (pt_cmpR (u_eq hr.units) (pv 0) pe_str (nomark _)) (pss_one (ps_ret (pe_tup (pa_cons pe_str pa_nil)))) pss_nil) (pss_cons (ps_if (pt_cmpR (u_eq hr.units) (pe_slice u_sl (pv 0) po_none (po_some pe_int)) pe_str (nomark _)) (pss_one (ps_ret (pe_tup (pa_cons pe_str (pa_cons (pe_call G_read_number (hr.mono (by decide)) rfl g_read_number k_read_number b_read_number .nil pass0 (pa_cons (pe_slice u_sl (pv 0) (po_some pe_int) po_none) pa_nil)) pa_nil))))) pss_nil) (pss_cons (ps_set (i := 1) nd rfl (by first | exact Or.inl rfl | exact Or.inr rfl) (pe_split (pv 0) pe_str)) (pss_cons (ps_if (PW.pt (pw_or (pt_cmpR (u_ne hr.units) (pe_slice u_sl (pv 0) po_none (po_some pe_int)) pe_str (nomark _)) (pw_or1 (pt_cmpR (u_ne hr.units) (pe_callB u_len (by rfl) n_len (by decide +kernel) (pa_cons (pv 1) pa_nil)) pe_int (nomark _))))) (pss_one ps_never) pss_nil) (pss_one (ps_ret (pe_tup (pa_cons pe_str (pa_cons (pe_call G_read_number (hr.mono (by decide)) rfl g_read_number k_read_number b_read_number .nil pass0 (pa_cons (pe_slice u_sl (pe_ix ix_seq (pv 1) pe_int (fun _ _ => rfl)) (po_some pe_int) po_none) pa_nil)) (pa_cons (pe_call G_read_sign (hr.mono (by decide)) rfl g_read_sign k_read_sign b_read_sign .nil pass0 (pa_cons (pe_ix ix_seq (pv 1) pe_int (fun _ _ => rfl)) pa_nil)) pa_nil))))))))))
theorem sc_lines_in : FnScope N_lines_in ["text"] (defScope s_lines_in) := ⟨rfl, rfl, rfl, by decide +kernel, rfl, by decide +kernel, by decide +kernel⟩
theorem ok_lines_in {f : Addr} {fd : FuncData} (F : Fun K "lines_in" "lines_in" s_lines_in f fd)  : FnOk P w K mg base CX0 1 f fd ["text"] (sp_lines_in K) := by
  have nd := sc_lines_in.nd
  refine F.ok sc_lines_in (fun vs H Q E h => ?_) (fun cdv A o s H vs Q E hr h => ⟨t_lines_in K, ?_, pr_lines_in h⟩)
  · first | (obtain ⟨rfl, _⟩ := h; rfl) | (obtain ⟨_, rfl, _⟩ := h; rfl) | (obtain ⟨_, _, rfl, _⟩ := h; rfl) | (obtain ⟨_, _, _, rfl, _⟩ := h; rfl) | (obtain ⟨_, _, _, _, rfl, _⟩ := h; rfl) | (obtain ⟨_, _, _, _, _, rfl, _⟩ := h; rfl)
  · exact (pss_cons (ps_set (i := 1) nd rfl (by first | exact Or.inl rfl | exact Or.inr rfl) (pe_split (pv 0) pe_str)) (pss_cons (ps_if (pt_cmpR (u_ne hr.units) (pe_ix ix_seq (pv 1) (pe_un un_neg pe_int) (fun _ _ => rfl)) pe_str (nomark _)) (pss_one ps_never) pss_nil) (pss_one (ps_ret (pe_slice u_sl (pv 1) po_none (po_some (pe_un un_neg pe_int)))))))
theorem sc_read_row : FnScope N_read_row ["text"] (defScope s_read_row) := ⟨rfl, rfl, rfl, by decide +kernel, rfl, by decide +kernel, by decide +kernel⟩
theorem ok_read_row {f : Addr} {fd : FuncData} (F : Fun K "read_row" "read_row" s_read_row f fd) {f_lines_in : Addr} {fd_lines_in : FuncData} (G_lines_in : FnOk P w K mg base CX0 1 f_lines_in fd_lines_in ["text"] (sp_lines_in K)) (g_lines_in : mg "lines_in" = some (.ref f_lines_in)) (k_lines_in : PySem.W.keepIn K (.ref f_lines_in) = true) (b_lines_in : Binds K fd_lines_in ["text"] []) {f_read_deed : Addr} {fd_read_deed : FuncData} (G_read_deed : FnOk P w K mg base CX0 2 f_read_deed fd_read_deed ["text"] (sp_read_deed K)) (g_read_deed : mg "read_deed" = some (.ref f_read_deed)) (k_read_deed : PySem.W.keepIn K (.ref f_read_deed) = true) (b_read_deed : Binds K fd_read_deed ["text"] []) : FnOk P w K mg base CX0 3 f fd ["text"] (sp_read_row K) := by
  have nd := sc_read_row.nd
  refine F.ok sc_read_row (fun vs H Q E h => ?_) (fun cdv A o s H vs Q E hr h => ⟨t_read_row K, ?_, pr_read_row h⟩)
  · first | (obtain ⟨rfl, _⟩ := h; rfl) | (obtain ⟨_, rfl, _⟩ := h; rfl) | (obtain ⟨_, _, rfl, _⟩ := h; rfl) | (obtain ⟨_, _, _, rfl, _⟩ := h; rfl) | (obtain ⟨_, _, _, _, rfl, _⟩ := h; rfl) | (obtain ⟨_, _, _, _, _, rfl, _⟩ := h; rfl)
  · exact (pss_one (ps_ret (pe_lc (own := [("line", 1)]) (g := (gName 1)) (tt := tYes) (te := (tCall (sp_read_deed K) [] E0 (tCons (tVar 1) tNil))) rfl nd (pi_list (pe_call G_lines_in (hr.mono (by decide)) rfl g_lines_in k_lines_in b_lines_in .nil pass0 (pa_cons (pv 0) pa_nil))) (blkOk_by (own := [("line", 1)]) (N := N_read_row) (sc := defScope s_read_row) (by decide +kernel)) (fun _ _ _ _ _ => (pg_name (i := 1) nd rfl (by first | exact Or.inl rfl | exact Or.inr rfl))) (fun _ _ _ _ _ => pts_nil) (fun _ _ _ _ _ => (pe_call G_read_deed (hr.mono (by decide)) rfl g_read_deed k_read_deed b_read_deed .nil pass0 (pa_cons (pv 1) pa_nil))))))
theorem sc_read_event : FnScope N_read_event ["line"] (defScope s_read_event) := ⟨rfl, rfl, rfl, by decide +kernel, rfl, by decide +kernel, by decide +kernel⟩
theorem ok_read_event {f : Addr} {fd : FuncData} (F : Fun K "read_event" "read_event" s_read_event f fd) {f_read_deed : Addr} {fd_read_deed : FuncData} (G_read_deed : FnOk P w K mg base CX0 2 f_read_deed fd_read_deed ["text"] (sp_read_deed K)) (g_read_deed : mg "read_deed" = some (.ref f_read_deed)) (k_read_deed : PySem.W.keepIn K (.ref f_read_deed) = true) (b_read_deed : Binds K fd_read_deed ["text"] []) (n_int : mg "int" = none) : FnOk P w K mg base CX0 3 f fd ["line"] (sp_read_event K) := by
  have nd := sc_read_event.nd
  refine F.ok sc_read_event (fun vs H Q E h => ?_) (fun cdv A o s H vs Q E hr h => ⟨t_read_event K, ?_, pr_read_event h⟩)
  · first | (obtain ⟨rfl, _⟩ := h; rfl) | (obtain ⟨_, rfl, _⟩ := h; rfl) | (obtain ⟨_, _, rfl, _⟩ := h; rfl) | (obtain ⟨_, _, _, rfl, _⟩ := h; rfl) | (obtain ⟨_, _, _, _, rfl, _⟩ := h; rfl) | (obtain ⟨_, _, _, _, _, rfl, _⟩ := h; rfl)
  · exact (pss_cons (ps_if (pt_cmpR u_ni (pe_slice u_sl (pv 0) po_none (po_some pe_int)) (pe_tup (pa_cons pe_str (pa_cons pe_str pa_nil))) (by rfl)) (pss_one ps_never) pss_nil) (pss_cons (ps_set (i := 1) nd rfl (by first | exact Or.inl rfl | exact Or.inr rfl) (pe_callTy u_int (by rfl) n_int (by decide +kernel) (pa_cons (pe_slice u_sl (pv 0) po_none (po_some pe_int)) pa_nil))) (pss_cons (ps_if (pt_cmpR (u_eq hr.units) (pe_slice u_sl (pv 0) (po_some pe_int) po_none) pe_str (nomark _)) (pss_one (ps_ret (pe_tup (pa_cons pe_str (pa_cons (pv 1) pa_nil))))) pss_nil) (pss_one (ps_ret (pe_tup (pa_cons pe_str (pa_cons (pv 1) (pa_cons (pe_call G_read_deed (hr.mono (by decide)) rfl g_read_deed k_read_deed b_read_deed .nil pass0 (pa_cons (pe_slice u_sl (pv 0) (po_some pe_int) po_none) pa_nil)) pa_nil)))))))))
theorem sc_read_story : FnScope N_read_story ["text"] (defScope s_read_story) := ⟨rfl, rfl, rfl, by decide +kernel, rfl, by decide +kernel, by decide +kernel⟩
theorem ok_read_story {f : Addr} {fd : FuncData} (F : Fun K "read_story" "read_story" s_read_story f fd) {f_lines_in : Addr} {fd_lines_in : FuncData} (G_lines_in : FnOk P w K mg base CX0 1 f_lines_in fd_lines_in ["text"] (sp_lines_in K)) (g_lines_in : mg "lines_in" = some (.ref f_lines_in)) (k_lines_in : PySem.W.keepIn K (.ref f_lines_in) = true) (b_lines_in : Binds K fd_lines_in ["text"] []) {f_read_event : Addr} {fd_read_event : FuncData} (G_read_event : FnOk P w K mg base CX0 3 f_read_event fd_read_event ["line"] (sp_read_event K)) (g_read_event : mg "read_event" = some (.ref f_read_event)) (k_read_event : PySem.W.keepIn K (.ref f_read_event) = true) (b_read_event : Binds K fd_read_event ["line"] []) : FnOk P w K mg base CX0 4 f fd ["text"] (sp_read_story K) := by
  have nd := sc_read_story.nd
  refine F.ok sc_read_story (fun vs H Q E h => ?_) (fun cdv A o s H vs Q E hr h => ⟨t_read_story K, ?_, pr_read_story h⟩)
  · first | (obtain ⟨rfl, _⟩ := h; rfl) | (obtain ⟨_, rfl, _⟩ := h; rfl) | (obtain ⟨_, _, rfl, _⟩ := h; rfl) | (obtain ⟨_, _, _, rfl, _⟩ := h; rfl) | (obtain ⟨_, _, _, _, rfl, _⟩ := h; rfl) | (obtain ⟨_, _, _, _, _, rfl, _⟩ := h; rfl)
  · exact (pss_one (ps_ret (pe_lc (own := [("line", 1)]) (g := (gName 1)) (tt := tYes) (te := (tCall (sp_read_event K) [] E0 (tCons (tVar 1) tNil))) rfl nd (pi_list (pe_call G_lines_in (hr.mono (by decide)) rfl g_lines_in k_lines_in b_lines_in .nil pass0 (pa_cons (pv 0) pa_nil))) (blkOk_by (own := [("line", 1)]) (N := N_read_story) (sc := defScope s_read_story) (by decide +kernel)) (fun _ _ _ _ _ => (pg_name (i := 1) nd rfl (by first | exact Or.inl rfl | exact Or.inr rfl))) (fun _ _ _ _ _ => pts_nil) (fun _ _ _ _ _ => (pe_call G_read_event (hr.mono (by decide)) rfl g_read_event k_read_event b_read_event .nil pass0 (pa_cons (pv 1) pa_nil))))))
theorem sc__law_written : FnScope N__law_written ["deed"] (defScope s__law_written) := ⟨rfl, rfl, rfl, by decide +kernel, rfl, by decide +kernel, by decide +kernel⟩
theorem ok__law_written {f : Addr} {fd : FuncData} (F : Fun K "_law_written" "_law_written" s__law_written f fd) (n_str : mg "str" = none) : FnOk P w K mg base CX0 1 f fd ["deed"] (sp__law_written K) := by
  have nd := sc__law_written.nd
  refine F.ok sc__law_written (fun vs H Q E h => ?_) (fun cdv A o s H vs Q E hr h => ⟨t__law_written K, ?_, pr__law_written h⟩)
  · first | (obtain ⟨rfl, _⟩ := h; rfl) | (obtain ⟨_, rfl, _⟩ := h; rfl) | (obtain ⟨_, _, rfl, _⟩ := h; rfl) | (obtain ⟨_, _, _, rfl, _⟩ := h; rfl) | (obtain ⟨_, _, _, _, rfl, _⟩ := h; rfl) | (obtain ⟨_, _, _, _, _, rfl, _⟩ := h; rfl)
  · exact (pss_cons (ps_if (pt_cmpR (u_eq hr.units) (pe_ix ix_seq (pv 0) pe_int (fun _ _ => rfl)) pe_str (nomark _)) (pss_one (ps_ret (pe_opG u_add (peg_op u_add (peg_op u_add peg_str (pe_callTy u_str (by rfl) n_str (by decide +kernel) (pa_cons (pe_ix ix_seq (pv 0) pe_int (fun _ _ => rfl)) pa_nil))) pe_str) (pet_replC (pe_ix ix_seq (pv 0) pe_int (fun _ _ => rfl)))))) pss_nil) (pss_one (ps_ret (pe_ifExp (pt_cmpR (u_eq hr.units) (pe_ix ix_seq (pv 0) pe_int (fun _ _ => rfl)) pe_str (nomark _)) (pe_op u_add pe_str (pe_callTy u_str (by rfl) n_str (by decide +kernel) (pa_cons (pe_ix ix_seq (pv 0) pe_int (fun _ _ => rfl)) pa_nil))) pe_str))))
theorem sc__law_event_written : FnScope N__law_event_written ["event"] (defScope s__law_event_written) := ⟨rfl, rfl, rfl, by decide +kernel, rfl, by decide +kernel, by decide +kernel⟩
theorem ok__law_event_written {f : Addr} {fd : FuncData} (F : Fun K "_law_event_written" "_law_event_written" s__law_event_written f fd) {f__law_written : Addr} {fd__law_written : FuncData} (G__law_written : FnOk P w K mg base CX0 1 f__law_written fd__law_written ["deed"] (sp__law_written K)) (g__law_written : mg "_law_written" = some (.ref f__law_written)) (k__law_written : PySem.W.keepIn K (.ref f__law_written) = true) (b__law_written : Binds K fd__law_written ["deed"] []) (n_str : mg "str" = none) : FnOk P w K mg base CX0 2 f fd ["event"] (sp__law_event_written K) := by
  have nd := sc__law_event_written.nd
  refine F.ok sc__law_event_written (fun vs H Q E h => ?_) (fun cdv A o s H vs Q E hr h => ⟨t__law_event_written K, ?_, pr__law_event_written h⟩)
  · first | (obtain ⟨rfl, _⟩ := h; rfl) | (obtain ⟨_, rfl, _⟩ := h; rfl) | (obtain ⟨_, _, rfl, _⟩ := h; rfl) | (obtain ⟨_, _, _, rfl, _⟩ := h; rfl) | (obtain ⟨_, _, _, _, rfl, _⟩ := h; rfl) | (obtain ⟨_, _, _, _, _, rfl, _⟩ := h; rfl)
  · exact (pss_cons (ps_if (pt_cmpR (u_eq hr.units) (pe_ix ix_seq (pv 0) pe_int (fun _ _ => rfl)) pe_str (nomark _)) (pss_one (ps_ret (pe_op u_add (pe_callTy u_str (by rfl) n_str (by decide +kernel) (pa_cons (pe_ix ix_seq (pv 0) pe_int (fun _ _ => rfl)) pa_nil)) pe_str))) pss_nil) (pss_one (ps_ret (pe_op u_add (pe_op u_add (pe_callTy u_str (by rfl) n_str (by decide +kernel) (pa_cons (pe_ix ix_seq (pv 0) pe_int (fun _ _ => rfl)) pa_nil)) pe_str) (pe_call G__law_written (hr.mono (by decide)) rfl g__law_written k__law_written b__law_written .nil pass0 (pa_cons (pe_ix ix_seq (pv 0) pe_int (fun _ _ => rfl)) pa_nil))))))
theorem sc_law : FnScope N_law ["script"] (defScope s_law) := ⟨rfl, rfl, rfl, by decide +kernel, rfl, by decide +kernel, by decide +kernel⟩
theorem ok_law {f : Addr} {fd : FuncData} (F : Fun K "law" "law" s_law f fd) {f__law_deck : Addr} {fd__law_deck : FuncData} (G__law_deck : FnOk P w K mg base CX0 1 f__law_deck fd__law_deck ["cell", "k"] (sp__law_deck K)) (g__law_deck : mg "_law_deck" = some (.ref f__law_deck)) (k__law_deck : PySem.W.keepIn K (.ref f__law_deck) = true) (b__law_deck : Binds K fd__law_deck ["cell", "k"] []) {f__law_deed : Addr} {fd__law_deed : FuncData} (G__law_deed : FnOk P w K mg base CX0 3 f__law_deed fd__law_deed ["deck", "place"] (sp__law_deed K)) (g__law_deed : mg "_law_deed" = some (.ref f__law_deed)) (k__law_deed : PySem.W.keepIn K (.ref f__law_deed) = true) (b__law_deed : Binds K fd__law_deed ["deck", "place"] []) {f__law_event : Addr} {fd__law_event : FuncData} (G__law_event : FnOk P w K mg base CX0 4 f__law_event fd__law_event ["deck"] (sp__law_event K)) (g__law_event : mg "_law_event" = some (.ref f__law_event)) (k__law_event : PySem.W.keepIn K (.ref f__law_event) = true) (b__law_event : Binds K fd__law_event ["deck"] []) {f__law_event_written : Addr} {fd__law_event_written : FuncData} (G__law_event_written : FnOk P w K mg base CX0 2 f__law_event_written fd__law_event_written ["event"] (sp__law_event_written K)) (g__law_event_written : mg "_law_event_written" = some (.ref f__law_event_written)) (k__law_event_written : PySem.W.keepIn K (.ref f__law_event_written) = true) (b__law_event_written : Binds K fd__law_event_written ["event"] []) {f__law_take : Addr} {fd__law_take : FuncData} (G__law_take : FnOk P w K mg base CX0 1 f__law_take fd__law_take ["deck", "many"] (sp__law_take K)) (g__law_take : mg "_law_take" = some (.ref f__law_take)) (k__law_take : PySem.W.keepIn K (.ref f__law_take) = true) (b__law_take : Binds K fd__law_take ["deck", "many"] []) {f__law_written : Addr} {fd__law_written : FuncData} (G__law_written : FnOk P w K mg base CX0 1 f__law_written fd__law_written ["deed"] (sp__law_written K)) (g__law_written : mg "_law_written" = some (.ref f__law_written)) (k__law_written : PySem.W.keepIn K (.ref f__law_written) = true) (b__law_written : Binds K fd__law_written ["deed"] []) {f_read_row : Addr} {fd_read_row : FuncData} (G_read_row : FnOk P w K mg base CX0 3 f_read_row fd_read_row ["text"] (sp_read_row K)) (g_read_row : mg "read_row" = some (.ref f_read_row)) (k_read_row : PySem.W.keepIn K (.ref f_read_row) = true) (b_read_row : Binds K fd_read_row ["text"] []) {f_read_story : Addr} {fd_read_story : FuncData} (G_read_story : FnOk P w K mg base CX0 4 f_read_story fd_read_story ["text"] (sp_read_story K)) (g_read_story : mg "read_story" = some (.ref f_read_story)) (k_read_story : PySem.W.keepIn K (.ref f_read_story) = true) (b_read_story : Binds K fd_read_story ["text"] []) {f_show_row : Addr} {fd_show_row : FuncData} (G_show_row : FnOk P w K mg base CX0 3 f_show_row fd_show_row ["row"] (sp_show_row K)) (g_show_row : mg "show_row" = some (.ref f_show_row)) (k_show_row : PySem.W.keepIn K (.ref f_show_row) = true) (b_show_row : Binds K fd_show_row ["row"] []) {f_show_story : Addr} {fd_show_story : FuncData} (G_show_story : FnOk P w K mg base CX0 4 f_show_story fd_show_story ["story"] (sp_show_story K)) (g_show_story : mg "show_story" = some (.ref f_show_story)) (k_show_story : PySem.W.keepIn K (.ref f_show_story) = true) (b_show_story : Binds K fd_show_story ["story"] []) (n_int : mg "int" = none) (n_isinstance : mg "isinstance" = none) (n_list : mg "list" = none) (n_range : mg "range" = none) (n_repr : mg "repr" = none) (n_str : mg "str" = none) : OkG P w K mg base CX0 5 f fd ["script"] (sp_law K) := by
  have nd := sc_law.nd
  refine okG_of F sc_law (fun vs H Q E h => ?_) (fun cdv A o s H vs Q E hG hr h => ⟨t_law K, PSs.nox ?_, pr_law h⟩)
  · first | (obtain ⟨rfl, _⟩ := h; rfl) | (obtain ⟨_, rfl, _⟩ := h; rfl) | (obtain ⟨_, _, rfl, _⟩ := h; rfl) | (obtain ⟨_, _, _, rfl, _⟩ := h; rfl) | (obtain ⟨_, _, _, _, rfl, _⟩ := h; rfl) | (obtain ⟨_, _, _, _, _, rfl, _⟩ := h; rfl)
  · exact (pss_cons (ps_set (i := 1) nd rfl (by first | exact Or.inl rfl | exact Or.inr rfl) (pe_lst pa_nil)) (pss_cons (ps_for PassesOwn.never rfl (pi_list (pe_op u_add (pe_slice u_sl (pv 0) po_none (po_some pe_int)) (pe_lst (pa_cons pe_int pa_nil)))) (pg_name (i := 2) nd rfl (by first | exact Or.inl rfl | exact Or.inr rfl)) (pss_cons (ps_set (i := 3) nd rfl (by first | exact Or.inl rfl | exact Or.inr rfl) (pe_call G__law_deck (hr.mono (by decide)) rfl g__law_deck k__law_deck b__law_deck .nil pass0 (pa_cons (pv 2) (pa_cons pe_int pa_nil)))) (pss_cons (ps_setLc (i := 4) (own := [("k", 5)]) (g := (gName 5)) (tt := tYes) (te := (tCall (sp__law_deed K) [] E0 (tCons (tVar 3) (tCons (tOp (rIx K) (tLst (tCons (tC (.int 12)) (tCons (tC (.int 1000)) tNil))) (tCall (sp__law_take K) [] E0 (tCons (tVar 3) (tCons (tC (.int 2)) tNil)))) tNil)))) rfl nd rfl rfl (sw_true rfl rfl rfl (by decide +kernel)) (pi_range1 (by rfl) n_range (pa_cons (pe_call G__law_take (hr.mono (by decide)) rfl g__law_take k__law_take b__law_take .nil pass0 (pa_cons (pv 3) (pa_cons pe_int pa_nil))) pa_nil)) (blkOk_by (own := [("k", 5)]) (N := N_law) (sc := defScope s_law) (by decide +kernel)) (fun _ _ _ _ _ => (pg_name (i := 5) nd rfl (by first | exact Or.inl rfl | exact Or.inr rfl))) (fun _ _ _ _ _ => pts_nil) (fun _ _ _ _ _ => (pe_call G__law_deed (hr.mono (by decide)) rfl g__law_deed k__law_deed b__law_deed .nil pass0 (pa_cons (pv 3) (pa_cons (pe_ix ix_seq (pe_lst (pa_cons pe_int (pa_cons pe_int pa_nil))) (pe_call G__law_take (hr.mono (by decide)) rfl g__law_take k__law_take b__law_take .nil pass0 (pa_cons (pv 3) (pa_cons pe_int pa_nil))) (fun _ _ => rfl)) pa_nil))))) (pss_cons (ps_set (i := 6) nd rfl (by first | exact Or.inl rfl | exact Or.inr rfl) (pe_ix ix_seq (pe_lst (pa_cons pe_int (pa_cons pe_int pa_nil))) (pe_callTy u_int (by rfl) n_int (by decide +kernel) (pa_cons (pe_cmpR (u_eq hr.units) (pe_call G__law_take (hr.mono (by decide)) rfl g__law_take k__law_take b__law_take .nil pass0 (pa_cons (pv 3) (pa_cons pe_int pa_nil))) pe_int (nomark _)) pa_nil)) (fun _ _ => rfl))) (pss_cons (ps_setLc (i := 7) (own := [("k", 5)]) (g := (gName 5)) (tt := tYes) (te := (tCall (sp__law_event K) [] E0 (tCons (tVar 3) tNil))) rfl nd rfl rfl (sw_true rfl rfl rfl (by decide +kernel)) (pi_range1 (by rfl) n_range (pa_cons (pe_call G__law_take (hr.mono (by decide)) rfl g__law_take k__law_take b__law_take .nil pass0 (pa_cons (pv 3) (pa_cons (pv 6) pa_nil))) pa_nil)) (blkOk_by (own := [("k", 5)]) (N := N_law) (sc := defScope s_law) (by decide +kernel)) (fun _ _ _ _ _ => (pg_name (i := 5) nd rfl (by first | exact Or.inl rfl | exact Or.inr rfl))) (fun _ _ _ _ _ => pts_nil) (fun _ _ _ _ _ => (pe_call G__law_event (hr.mono (by decide)) rfl g__law_event k__law_event b__law_event .nil pass0 (pa_cons (pv 3) pa_nil)))) (pss_cons (ps_set (i := 8) nd rfl (by first | exact Or.inl rfl | exact Or.inr rfl) (pe_lst (pa_cons (pe_join pe_str (pe_lc (own := [("deed", 9)]) (g := (gName 9)) (tt := tYes) (te := (tOp (rAddU K) (tCall (sp__law_written K) [] E0 (tCons (tVar 9) tNil)) (tC (.str "\n")))) rfl nd (pi_list (pv 4)) (blkOk_by (own := [("deed", 9)]) (N := N_law) (sc := defScope s_law) (by decide +kernel)) (fun _ _ _ _ _ => (pg_name (i := 9) nd rfl (by first | exact Or.inl rfl | exact Or.inr rfl))) (fun _ _ _ _ _ => pts_nil) (fun _ _ _ _ _ => (pe_op u_add (pe_call G__law_written (hr.mono (by decide)) rfl g__law_written k__law_written b__law_written .nil pass0 (pa_cons (pv 9) pa_nil)) pe_str)))) pa_nil))) (pss_cons (ps_expr (pe_bm PySem.F.plainAttrs_list PySem.F.slot_list_append PySem.F.type_list_append mt_append (pv 8) (pa_cons (pe_join pe_str (pe_lc (own := [("event", 10)]) (g := (gName 10)) (tt := tYes) (te := (tOp (rAddU K) (tCall (sp__law_event_written K) [] E0 (tCons (tVar 10) tNil)) (tC (.str "\n")))) rfl nd (pi_list (pv 7)) (blkOk_by (own := [("event", 10)]) (N := N_law) (sc := defScope s_law) (by decide +kernel)) (fun _ _ _ _ _ => (pg_name (i := 10) nd rfl (by first | exact Or.inl rfl | exact Or.inr rfl))) (fun _ _ _ _ _ => pts_nil) (fun _ _ _ _ _ => (pe_op u_add (pe_call G__law_event_written (hr.mono (by decide)) rfl g__law_event_written k__law_event_written b__law_event_written .nil pass0 (pa_cons (pv 10) pa_nil)) pe_str)))) pa_nil))) (pss_cons (ps_set (i := 11) nd rfl (by first | exact Or.inl rfl | exact Or.inr rfl) (pe_lst (pa_cons (pe_callTy u_list (by rfl) n_list (by decide +kernel) (pa_cons (pv 4) pa_nil)) (pa_cons (pe_callTy u_list (by rfl) n_list (by decide +kernel) (pa_cons (pv 7) pa_nil)) pa_nil)))) (pss_cons (ps_set (i := 12) nd rfl (by first | exact Or.inl rfl | exact Or.inr rfl) (pe_lst (pa_cons (pe_call G_show_row (hr.mono (by decide)) rfl g_show_row k_show_row b_show_row .nil pass0 (pa_cons (pe_ix ix_seq (pv 11) pe_int (fun _ _ => rfl)) pa_nil)) (pa_cons (pe_call G_show_story (hr.mono (by decide)) rfl g_show_story k_show_story b_show_story .nil pass0 (pa_cons (pe_ix ix_seq (pv 11) pe_int (fun _ _ => rfl)) pa_nil)) pa_nil)))) (pss_cons (ps_if (PW.pt (pw_or (pt_cmpR (u_ne hr.units) (pv 12) (pv 8) (nomark _)) (pw_or1 (pt_cmpR (u_ne hr.units) (pv 11) (pe_lst (pa_cons (pv 4) (pa_cons (pv 7) pa_nil))) (nomark _))))) (pss_one (ps_ret pe_bl)) pss_nil) (pss_cons (ps_if (pt_cmpR (u_ne hr.units) (pe_lc (own := [("text", 13)]) (g := (gName 13)) (tt := (tNot (tB (tCB (rIsiU K) (tCons (tVar 13) (tCons (tC (.ty "str")) tNil)))))) (te := (tVar 13)) rfl nd (pi_list (pv 12)) (blkOk_by (own := [("text", 13)]) (N := N_law) (sc := defScope s_law) (by decide +kernel)) (fun _ _ _ _ _ => (pg_name (i := 13) nd rfl (by first | exact Or.inl rfl | exact Or.inr rfl))) (fun _ _ _ _ _ => (pts_one (pt_not (pt_val (pe_callB u_isi (by rfl) n_isinstance (by decide +kernel) (pa_cons (pv 13) (pa_cons (pe_bltn (by rfl) n_str (by decide +kernel) rfl) pa_nil))))))) (fun _ _ _ _ _ => (pv 13))) (pe_lst pa_nil) (nomark _)) (pss_one (ps_ret pe_bl)) pss_nil) (pss_one (ps_expr (pe_bm PySem.F.plainAttrs_list PySem.F.slot_list_append PySem.F.type_list_append mt_append (pv 1) (pa_cons (pe_tup (pa_cons (pv 4) (pa_cons (pv 7) (pa_cons (pv 8) pa_nil)))) pa_nil))))))))))))))) (pss_cons (ps_for PassesOwn.never rfl (pi_list (pv 1)) (pg_tup rfl (pgs_cons (pg_name (i := 4) nd rfl (by first | exact Or.inl rfl | exact Or.inr rfl)) (pgs_cons (pg_name (i := 7) nd rfl (by first | exact Or.inl rfl | exact Or.inr rfl)) (pgs_cons (pg_name (i := 14) nd rfl (by first | exact Or.inl rfl | exact Or.inr rfl)) pgs_nil)))) (pss_cons (ps_set (i := 15) nd rfl (by first | exact Or.inl rfl | exact Or.inr rfl) (pe_lst (pa_cons (pe_call G_read_row (hr.mono (by decide)) rfl g_read_row k_read_row b_read_row .nil pass0 (pa_cons (pe_ix ix_seq (pv 14) pe_int (fun _ _ => rfl)) pa_nil)) (pa_cons (pe_call G_read_story (hr.mono (by decide)) rfl g_read_story k_read_story b_read_story .nil pass0 (pa_cons (pe_ix ix_seq (pv 14) pe_int (fun _ _ => rfl)) pa_nil)) pa_nil)))) (pss_cons (ps_if (pt_cmpR (u_ne hr.units) (pe_callB (u_repr hG hr.units) (by rfl) n_repr (by decide +kernel) (pa_cons (pv 15) pa_nil)) (pe_callB (u_repr hG hr.units) (by rfl) n_repr (by decide +kernel) (pa_cons (pe_lst (pa_cons (pv 4) (pa_cons (pv 7) pa_nil))) pa_nil)) (nomark _)) (pss_one (ps_ret pe_bl)) pss_nil) (pss_cons (ps_expr (pe_bm PySem.F.plainAttrs_list PySem.F.slot_list_append PySem.F.type_list_append mt_append (pe_ix ix_seq (pv 15) pe_int (fun _ _ => rfl)) (pa_cons pe_non pa_nil))) (pss_cons (ps_expr (pe_bm PySem.F.plainAttrs_list PySem.F.slot_list_append PySem.F.type_list_append mt_append (pe_ix ix_seq (pv 15) pe_int (fun _ _ => rfl)) (pa_cons pe_non pa_nil))) (pss_one (ps_if (pt_cmpR (u_ne hr.units) (pe_callB (u_repr hG hr.units) (by rfl) n_repr (by decide +kernel) (pa_cons (pe_lst (pa_cons (pe_call G_read_row (hr.mono (by decide)) rfl g_read_row k_read_row b_read_row .nil pass0 (pa_cons (pe_ix ix_seq (pv 14) pe_int (fun _ _ => rfl)) pa_nil)) (pa_cons (pe_call G_read_story (hr.mono (by decide)) rfl g_read_story k_read_story b_read_story .nil pass0 (pa_cons (pe_ix ix_seq (pv 14) pe_int (fun _ _ => rfl)) pa_nil)) pa_nil))) pa_nil)) (pe_callB (u_repr hG hr.units) (by rfl) n_repr (by decide +kernel) (pa_cons (pe_lst (pa_cons (pv 4) (pa_cons (pv 7) pa_nil))) pa_nil)) (nomark _)) (pss_one (ps_ret pe_bl)) pss_nil))))))) (pss_one (ps_ret pe_bl)))))
end
theorem all_mk {l : PySem.W.OpenLaw} {w : World} {K : PySem.W.Frag} {h : Heap} {mg : Str → Option Value} {fa : Addr} (X : K.In h) (G : h.Ns mainGlobals mg) (hfa : mg "law" = some (.ref fa))
    {f0 : Addr} {od0 an0 : Option Addr} {sl0 : Array (Option Value)} {oc0 kV0 dc0 pm0 cd0 ct0 : Value}
    {f1 : Addr} {od1 an1 : Option Addr} {sl1 : Array (Option Value)} {oc1 kV1 dc1 pm1 cd1 ct1 : Value}
    {f2 : Addr} {od2 an2 : Option Addr} {sl2 : Array (Option Value)} {oc2 kV2 dc2 pm2 cd2 ct2 : Value}
    {f3 : Addr} {od3 an3 : Option Addr} {sl3 : Array (Option Value)} {oc3 kV3 dc3 pm3 cd3 ct3 : Value}
    {f4 : Addr} {od4 an4 : Option Addr} {sl4 : Array (Option Value)} {oc4 kV4 dc4 pm4 cd4 ct4 : Value}
    {f5 : Addr} {od5 an5 : Option Addr} {sl5 : Array (Option Value)} {oc5 kV5 dc5 pm5 cd5 ct5 : Value}
    {f6 : Addr} {od6 an6 : Option Addr} {sl6 : Array (Option Value)} {oc6 kV6 dc6 pm6 cd6 ct6 : Value}
    {f7 : Addr} {od7 an7 : Option Addr} {sl7 : Array (Option Value)} {oc7 kV7 dc7 pm7 cd7 ct7 : Value}
    {f8 : Addr} {od8 an8 : Option Addr} {sl8 : Array (Option Value)} {oc8 kV8 dc8 pm8 cd8 ct8 : Value}
    {f9 : Addr} {od9 an9 : Option Addr} {sl9 : Array (Option Value)} {oc9 kV9 dc9 pm9 cd9 ct9 : Value}
    {f10 : Addr} {od10 an10 : Option Addr} {sl10 : Array (Option Value)} {oc10 kV10 dc10 pm10 cd10 ct10 : Value}
    {f11 : Addr} {od11 an11 : Option Addr} {sl11 : Array (Option Value)} {oc11 kV11 dc11 pm11 cd11 ct11 : Value}
    {f12 : Addr} {od12 an12 : Option Addr} {sl12 : Array (Option Value)} {oc12 kV12 dc12 pm12 cd12 ct12 : Value}
    {f13 : Addr} {od13 an13 : Option Addr} {sl13 : Array (Option Value)} {oc13 kV13 dc13 pm13 cd13 ct13 : Value}
    {f14 : Addr} {od14 an14 : Option Addr} {sl14 : Array (Option Value)} {oc14 kV14 dc14 pm14 cd14 ct14 : Value}
    {f15 : Addr} {od15 an15 : Option Addr} {sl15 : Array (Option Value)} {oc15 kV15 dc15 pm15 cd15 ct15 : Value}
    {f16 : Addr} {od16 an16 : Option Addr} {sl16 : Array (Option Value)} {oc16 kV16 dc16 pm16 cd16 ct16 : Value}
    {f17 : Addr} {od17 an17 : Option Addr} {sl17 : Array (Option Value)} {oc17 kV17 dc17 pm17 cd17 ct17 : Value}
    {f18 : Addr} {od18 an18 : Option Addr} {sl18 : Array (Option Value)} {oc18 kV18 dc18 pm18 cd18 ct18 : Value}
    {f19 : Addr} {od19 an19 : Option Addr} {sl19 : Array (Option Value)} {oc19 kV19 dc19 pm19 cd19 ct19 : Value}
    {t_FIGURES : Tok}
    {t_MOST_FIGURES : Tok}
    {t_SIGNS : Tok}
    (a0 : PySem.W.nsIn K mainGlobals "_law_deck" = some (some (.ref f0))) (l0 : K.lookup f0 = some ⟨oc0, od0, .func (PySem.W.fnOf "_law_deck" "_law_deck" (defArgs s__law_deck) (defBody s__law_deck) (defScope s__law_deck) .none kV0 dc0 pm0 an0 cd0 ct0), sl0⟩) (c0 : PySem.W.codeIn K cd0 "_law_deck" = true) (k0 : PySem.W.keepIn K (.ref f0) = true)
    (a1 : PySem.W.nsIn K mainGlobals "_law_take" = some (some (.ref f1))) (l1 : K.lookup f1 = some ⟨oc1, od1, .func (PySem.W.fnOf "_law_take" "_law_take" (defArgs s__law_take) (defBody s__law_take) (defScope s__law_take) .none kV1 dc1 pm1 an1 cd1 ct1), sl1⟩) (c1 : PySem.W.codeIn K cd1 "_law_take" = true) (k1 : PySem.W.keepIn K (.ref f1) = true)
    (a2 : PySem.W.nsIn K mainGlobals "_law_sign" = some (some (.ref f2))) (l2 : K.lookup f2 = some ⟨oc2, od2, .func (PySem.W.fnOf "_law_sign" "_law_sign" (defArgs s__law_sign) (defBody s__law_sign) (defScope s__law_sign) .none kV2 dc2 pm2 an2 cd2 ct2), sl2⟩) (c2 : PySem.W.codeIn K cd2 "_law_sign" = true) (k2 : PySem.W.keepIn K (.ref f2) = true)
    (a3 : PySem.W.nsIn K mainGlobals "_law_deed" = some (some (.ref f3))) (l3 : K.lookup f3 = some ⟨oc3, od3, .func (PySem.W.fnOf "_law_deed" "_law_deed" (defArgs s__law_deed) (defBody s__law_deed) (defScope s__law_deed) .none kV3 dc3 pm3 an3 cd3 ct3), sl3⟩) (c3 : PySem.W.codeIn K cd3 "_law_deed" = true) (k3 : PySem.W.keepIn K (.ref f3) = true)
    (a4 : PySem.W.nsIn K mainGlobals "_law_event" = some (some (.ref f4))) (l4 : K.lookup f4 = some ⟨oc4, od4, .func (PySem.W.fnOf "_law_event" "_law_event" (defArgs s__law_event) (defBody s__law_event) (defScope s__law_event) .none kV4 dc4 pm4 an4 cd4 ct4), sl4⟩) (c4 : PySem.W.codeIn K cd4 "_law_event" = true) (k4 : PySem.W.keepIn K (.ref f4) = true)
    (a5 : PySem.W.nsIn K mainGlobals "show_sign" = some (some (.ref f5))) (l5 : K.lookup f5 = some ⟨oc5, od5, .func (PySem.W.fnOf "show_sign" "show_sign" (defArgs s_show_sign) (defBody s_show_sign) (defScope s_show_sign) .none kV5 dc5 pm5 an5 cd5 ct5), sl5⟩) (c5 : PySem.W.codeIn K cd5 "show_sign" = true) (k5 : PySem.W.keepIn K (.ref f5) = true)
    (a6 : PySem.W.nsIn K mainGlobals "show_deed" = some (some (.ref f6))) (l6 : K.lookup f6 = some ⟨oc6, od6, .func (PySem.W.fnOf "show_deed" "show_deed" (defArgs s_show_deed) (defBody s_show_deed) (defScope s_show_deed) .none kV6 dc6 pm6 an6 cd6 ct6), sl6⟩) (c6 : PySem.W.codeIn K cd6 "show_deed" = true) (k6 : PySem.W.keepIn K (.ref f6) = true)
    (a7 : PySem.W.nsIn K mainGlobals "show_row" = some (some (.ref f7))) (l7 : K.lookup f7 = some ⟨oc7, od7, .func (PySem.W.fnOf "show_row" "show_row" (defArgs s_show_row) (defBody s_show_row) (defScope s_show_row) .none kV7 dc7 pm7 an7 cd7 ct7), sl7⟩) (c7 : PySem.W.codeIn K cd7 "show_row" = true) (k7 : PySem.W.keepIn K (.ref f7) = true)
    (a8 : PySem.W.nsIn K mainGlobals "show_event" = some (some (.ref f8))) (l8 : K.lookup f8 = some ⟨oc8, od8, .func (PySem.W.fnOf "show_event" "show_event" (defArgs s_show_event) (defBody s_show_event) (defScope s_show_event) .none kV8 dc8 pm8 an8 cd8 ct8), sl8⟩) (c8 : PySem.W.codeIn K cd8 "show_event" = true) (k8 : PySem.W.keepIn K (.ref f8) = true)
    (a9 : PySem.W.nsIn K mainGlobals "show_story" = some (some (.ref f9))) (l9 : K.lookup f9 = some ⟨oc9, od9, .func (PySem.W.fnOf "show_story" "show_story" (defArgs s_show_story) (defBody s_show_story) (defScope s_show_story) .none kV9 dc9 pm9 an9 cd9 ct9), sl9⟩) (c9 : PySem.W.codeIn K cd9 "show_story" = true) (k9 : PySem.W.keepIn K (.ref f9) = true)
    (a10 : PySem.W.nsIn K mainGlobals "read_number" = some (some (.ref f10))) (l10 : K.lookup f10 = some ⟨oc10, od10, .func (PySem.W.fnOf "read_number" "read_number" (defArgs s_read_number) (defBody s_read_number) (defScope s_read_number) .none kV10 dc10 pm10 an10 cd10 ct10), sl10⟩) (c10 : PySem.W.codeIn K cd10 "read_number" = true) (k10 : PySem.W.keepIn K (.ref f10) = true)
    (a11 : PySem.W.nsIn K mainGlobals "read_sign" = some (some (.ref f11))) (l11 : K.lookup f11 = some ⟨oc11, od11, .func (PySem.W.fnOf "read_sign" "read_sign" (defArgs s_read_sign) (defBody s_read_sign) (defScope s_read_sign) .none kV11 dc11 pm11 an11 cd11 ct11), sl11⟩) (c11 : PySem.W.codeIn K cd11 "read_sign" = true) (k11 : PySem.W.keepIn K (.ref f11) = true)
    (a12 : PySem.W.nsIn K mainGlobals "read_deed" = some (some (.ref f12))) (l12 : K.lookup f12 = some ⟨oc12, od12, .func (PySem.W.fnOf "read_deed" "read_deed" (defArgs s_read_deed) (defBody s_read_deed) (defScope s_read_deed) .none kV12 dc12 pm12 an12 cd12 ct12), sl12⟩) (c12 : PySem.W.codeIn K cd12 "read_deed" = true) (k12 : PySem.W.keepIn K (.ref f12) = true)
    (a13 : PySem.W.nsIn K mainGlobals "lines_in" = some (some (.ref f13))) (l13 : K.lookup f13 = some ⟨oc13, od13, .func (PySem.W.fnOf "lines_in" "lines_in" (defArgs s_lines_in) (defBody s_lines_in) (defScope s_lines_in) .none kV13 dc13 pm13 an13 cd13 ct13), sl13⟩) (c13 : PySem.W.codeIn K cd13 "lines_in" = true) (k13 : PySem.W.keepIn K (.ref f13) = true)
    (a14 : PySem.W.nsIn K mainGlobals "read_row" = some (some (.ref f14))) (l14 : K.lookup f14 = some ⟨oc14, od14, .func (PySem.W.fnOf "read_row" "read_row" (defArgs s_read_row) (defBody s_read_row) (defScope s_read_row) .none kV14 dc14 pm14 an14 cd14 ct14), sl14⟩) (c14 : PySem.W.codeIn K cd14 "read_row" = true) (k14 : PySem.W.keepIn K (.ref f14) = true)
    (a15 : PySem.W.nsIn K mainGlobals "read_event" = some (some (.ref f15))) (l15 : K.lookup f15 = some ⟨oc15, od15, .func (PySem.W.fnOf "read_event" "read_event" (defArgs s_read_event) (defBody s_read_event) (defScope s_read_event) .none kV15 dc15 pm15 an15 cd15 ct15), sl15⟩) (c15 : PySem.W.codeIn K cd15 "read_event" = true) (k15 : PySem.W.keepIn K (.ref f15) = true)
    (a16 : PySem.W.nsIn K mainGlobals "read_story" = some (some (.ref f16))) (l16 : K.lookup f16 = some ⟨oc16, od16, .func (PySem.W.fnOf "read_story" "read_story" (defArgs s_read_story) (defBody s_read_story) (defScope s_read_story) .none kV16 dc16 pm16 an16 cd16 ct16), sl16⟩) (c16 : PySem.W.codeIn K cd16 "read_story" = true) (k16 : PySem.W.keepIn K (.ref f16) = true)
    (a17 : PySem.W.nsIn K mainGlobals "_law_written" = some (some (.ref f17))) (l17 : K.lookup f17 = some ⟨oc17, od17, .func (PySem.W.fnOf "_law_written" "_law_written" (defArgs s__law_written) (defBody s__law_written) (defScope s__law_written) .none kV17 dc17 pm17 an17 cd17 ct17), sl17⟩) (c17 : PySem.W.codeIn K cd17 "_law_written" = true) (k17 : PySem.W.keepIn K (.ref f17) = true)
    (a18 : PySem.W.nsIn K mainGlobals "_law_event_written" = some (some (.ref f18))) (l18 : K.lookup f18 = some ⟨oc18, od18, .func (PySem.W.fnOf "_law_event_written" "_law_event_written" (defArgs s__law_event_written) (defBody s__law_event_written) (defScope s__law_event_written) .none kV18 dc18 pm18 an18 cd18 ct18), sl18⟩) (c18 : PySem.W.codeIn K cd18 "_law_event_written" = true) (k18 : PySem.W.keepIn K (.ref f18) = true)
    (a19 : PySem.W.nsIn K mainGlobals "law" = some (some (.ref f19))) (l19 : K.lookup f19 = some ⟨oc19, od19, .func (PySem.W.fnOf "law" "law" (defArgs s_law) (defBody s_law) (defScope s_law) .none kV19 dc19 pm19 an19 cd19 ct19), sl19⟩) (c19 : PySem.W.codeIn K cd19 "law" = true) (k19 : PySem.W.keepIn K (.ref f19) = true)
    (z_int : PySem.W.nsIn K mainGlobals "int" = some none)
    (z_isinstance : PySem.W.nsIn K mainGlobals "isinstance" = some none)
    (z_len : PySem.W.nsIn K mainGlobals "len" = some none)
    (z_list : PySem.W.nsIn K mainGlobals "list" = some none)
    (z_range : PySem.W.nsIn K mainGlobals "range" = some none)
    (z_repr : PySem.W.nsIn K mainGlobals "repr" = some none)
    (z_str : PySem.W.nsIn K mainGlobals "str" = some none)
    (y_FIGURES : PySem.W.nsIn K mainGlobals "FIGURES" = some (some (Value.str "0123456789" t_FIGURES)))
    (y_MOST_FIGURES : PySem.W.nsIn K mainGlobals "MOST_FIGURES" = some (some (Value.int 3 t_MOST_FIGURES)))
    (y_SIGNS : PySem.W.nsIn K mainGlobals "SIGNS" = some (some (Value.str "abcdefghijklmnopqrstuvwxyz " t_SIGNS)))
    : ∃ fd : FuncData, (∀ (s : Shared) (v : Value), BindsTo s fd ⟨[v], []⟩ [("script", v)]) ∧ ∀ base : Heap, K.In base → base.Ns mainGlobals mg → OkG l.prog w K mg base CX0 5 fa fd ["script"] (sp_law K) := by
  have e := hfa.symm.trans (PySem.W.mg_of X G a19)
  cases e
  have n_int := PySem.W.mg_none_of X G z_int
  have n_isinstance := PySem.W.mg_none_of X G z_isinstance
  have n_len := PySem.W.mg_none_of X G z_len
  have n_list := PySem.W.mg_none_of X G z_list
  have n_range := PySem.W.mg_none_of X G z_range
  have n_repr := PySem.W.mg_none_of X G z_repr
  have n_str := PySem.W.mg_none_of X G z_str
  have g_FIGURES := PySem.W.mg_of X G y_FIGURES
  have g_MOST_FIGURES := PySem.W.mg_of X G y_MOST_FIGURES
  have g_SIGNS := PySem.W.mg_of X G y_SIGNS
  have F0 := fun_mk (st := s__law_deck) l0 c0 k0
  have b0 := F0.binds (ps := ["cell", "k"]) fun _ _ _ _ _ _ us hl => match us, hl with | [_, _], _ => rfl
  have g0 := PySem.W.mg_of X G a0
  have F1 := fun_mk (st := s__law_take) l1 c1 k1
  have b1 := F1.binds (ps := ["deck", "many"]) fun _ _ _ _ _ _ us hl => match us, hl with | [_, _], _ => rfl
  have g1 := PySem.W.mg_of X G a1
  have F2 := fun_mk (st := s__law_sign) l2 c2 k2
  have b2 := F2.binds (ps := ["deck"]) fun _ _ _ _ _ _ us hl => match us, hl with | [_], _ => rfl
  have g2 := PySem.W.mg_of X G a2
  have F3 := fun_mk (st := s__law_deed) l3 c3 k3
  have b3 := F3.binds (ps := ["deck", "place"]) fun _ _ _ _ _ _ us hl => match us, hl with | [_, _], _ => rfl
  have g3 := PySem.W.mg_of X G a3
  have F4 := fun_mk (st := s__law_event) l4 c4 k4
  have b4 := F4.binds (ps := ["deck"]) fun _ _ _ _ _ _ us hl => match us, hl with | [_], _ => rfl
  have g4 := PySem.W.mg_of X G a4
  have F5 := fun_mk (st := s_show_sign) l5 c5 k5
  have b5 := F5.binds (ps := ["sign"]) fun _ _ _ _ _ _ us hl => match us, hl with | [_], _ => rfl
  have g5 := PySem.W.mg_of X G a5
  have F6 := fun_mk (st := s_show_deed) l6 c6 k6
  have b6 := F6.binds (ps := ["deed"]) fun _ _ _ _ _ _ us hl => match us, hl with | [_], _ => rfl
  have g6 := PySem.W.mg_of X G a6
  have F7 := fun_mk (st := s_show_row) l7 c7 k7
  have b7 := F7.binds (ps := ["row"]) fun _ _ _ _ _ _ us hl => match us, hl with | [_], _ => rfl
  have g7 := PySem.W.mg_of X G a7
  have F8 := fun_mk (st := s_show_event) l8 c8 k8
  have b8 := F8.binds (ps := ["event"]) fun _ _ _ _ _ _ us hl => match us, hl with | [_], _ => rfl
  have g8 := PySem.W.mg_of X G a8
  have F9 := fun_mk (st := s_show_story) l9 c9 k9
  have b9 := F9.binds (ps := ["story"]) fun _ _ _ _ _ _ us hl => match us, hl with | [_], _ => rfl
  have g9 := PySem.W.mg_of X G a9
  have F10 := fun_mk (st := s_read_number) l10 c10 k10
  have b10 := F10.binds (ps := ["word"]) fun _ _ _ _ _ _ us hl => match us, hl with | [_], _ => rfl
  have g10 := PySem.W.mg_of X G a10
  have F11 := fun_mk (st := s_read_sign) l11 c11 k11
  have b11 := F11.binds (ps := ["sign"]) fun _ _ _ _ _ _ us hl => match us, hl with | [_], _ => rfl
  have g11 := PySem.W.mg_of X G a11
  have F12 := fun_mk (st := s_read_deed) l12 c12 k12
  have b12 := F12.binds (ps := ["text"]) fun _ _ _ _ _ _ us hl => match us, hl with | [_], _ => rfl
  have g12 := PySem.W.mg_of X G a12
  have F13 := fun_mk (st := s_lines_in) l13 c13 k13
  have b13 := F13.binds (ps := ["text"]) fun _ _ _ _ _ _ us hl => match us, hl with | [_], _ => rfl
  have g13 := PySem.W.mg_of X G a13
  have F14 := fun_mk (st := s_read_row) l14 c14 k14
  have b14 := F14.binds (ps := ["text"]) fun _ _ _ _ _ _ us hl => match us, hl with | [_], _ => rfl
  have g14 := PySem.W.mg_of X G a14
  have F15 := fun_mk (st := s_read_event) l15 c15 k15
  have b15 := F15.binds (ps := ["line"]) fun _ _ _ _ _ _ us hl => match us, hl with | [_], _ => rfl
  have g15 := PySem.W.mg_of X G a15
  have F16 := fun_mk (st := s_read_story) l16 c16 k16
  have b16 := F16.binds (ps := ["text"]) fun _ _ _ _ _ _ us hl => match us, hl with | [_], _ => rfl
  have g16 := PySem.W.mg_of X G a16
  have F17 := fun_mk (st := s__law_written) l17 c17 k17
  have b17 := F17.binds (ps := ["deed"]) fun _ _ _ _ _ _ us hl => match us, hl with | [_], _ => rfl
  have g17 := PySem.W.mg_of X G a17
  have F18 := fun_mk (st := s__law_event_written) l18 c18 k18
  have b18 := F18.binds (ps := ["event"]) fun _ _ _ _ _ _ us hl => match us, hl with | [_], _ => rfl
  have g18 := PySem.W.mg_of X G a18
  have F19 := fun_mk (st := s_law) l19 c19 k19
  refine ⟨PySem.W.fnOf "law" "law" (defArgs s_law) (defBody s_law) (defScope s_law) .none kV19 dc19 pm19 an19 cd19 ct19, fun s v => .of_eq rfl, fun base _ _ => ?_⟩
  have G0 := ok__law_deck (P := l.prog) (w := w) (mg := mg) (base := base) F0
  have G1 := ok__law_take (P := l.prog) (w := w) (mg := mg) (base := base) F1
  have G2 := ok__law_sign (P := l.prog) (w := w) (mg := mg) (base := base) F2 G1 g1 k1 b1
  have G3 := ok__law_deed (P := l.prog) (w := w) (mg := mg) (base := base) F3 G2 g2 k2 b2 G1 g1 k1 b1
  have G4 := ok__law_event (P := l.prog) (w := w) (mg := mg) (base := base) F4 G3 g3 k3 b3 G1 g1 k1 b1
  have G5 := ok_show_sign (P := l.prog) (w := w) (mg := mg) (base := base) F5
  have G6 := ok_show_deed (P := l.prog) (w := w) (mg := mg) (base := base) F6 G5 g5 k5 b5
  have G7 := ok_show_row (P := l.prog) (w := w) (mg := mg) (base := base) F7 G6 g6 k6 b6
  have G8 := ok_show_event (P := l.prog) (w := w) (mg := mg) (base := base) F8 G6 g6 k6 b6
  have G9 := ok_show_story (P := l.prog) (w := w) (mg := mg) (base := base) F9 G8 g8 k8 b8
  have G10 := ok_read_number (P := l.prog) (w := w) (mg := mg) (base := base) F10 g_FIGURES g_MOST_FIGURES n_int n_len
  have G11 := ok_read_sign (P := l.prog) (w := w) (mg := mg) (base := base) F11 g_SIGNS n_len
  have G12 := ok_read_deed (P := l.prog) (w := w) (mg := mg) (base := base) F12 G10 g10 k10 b10 G11 g11 k11 b11 n_len
  have G13 := ok_lines_in (P := l.prog) (w := w) (mg := mg) (base := base) F13
  have G14 := ok_read_row (P := l.prog) (w := w) (mg := mg) (base := base) F14 G13 g13 k13 b13 G12 g12 k12 b12
  have G15 := ok_read_event (P := l.prog) (w := w) (mg := mg) (base := base) F15 G12 g12 k12 b12 n_int
  have G16 := ok_read_story (P := l.prog) (w := w) (mg := mg) (base := base) F16 G13 g13 k13 b13 G15 g15 k15 b15
  have G17 := ok__law_written (P := l.prog) (w := w) (mg := mg) (base := base) F17 n_str
  have G18 := ok__law_event_written (P := l.prog) (w := w) (mg := mg) (base := base) F18 G17 g17 k17 b17 n_str
  exact ok_law (P := l.prog) (w := w) (mg := mg) (base := base) F19 G0 g0 k0 b0 G3 g3 k3 b3 G4 g4 k4 b4 G18 g18 k18 b18 G1 g1 k1 b1 G17 g17 k17 b17 G14 g14 k14 b14 G16 g16 k16 b16 G7 g7 k7 b7 G9 g9 k9 b9 n_int n_isinstance n_list n_range n_repr n_str
end FL
open PySem PySem.W PyProof.Rows in
set_option maxRecDepth 100000 in
set_option maxHeartbeats 0 in
theorem PySem.Challenge.cw_farline_k83_texts_written_holds : PySem.Challenge.rw_farline_k83_texts_written.Holds := by
  w_on; o_law; k_head; (case hw => w_witness2)
  k_fill
  refine FL.walk_ofG (l := PySem.Challenge.rw_farline_k83_texts_written) (n := 63) (k := 5) (x := "script") (CX := L2.CX0) (sp := FL.sp_law) rfl (by decide) rfl ⟨rfl, by decide, by decide⟩ (fun w h Y => PySem.W.kIn_of Y) ?F (fun K H a ns hl _ hS => ⟨a, ns, rfl, hS, hl, fun _ => rfl⟩) fun _ _ _ _ z => z
  case F =>
    intro w mg fa h KX G hmg
    refine' FL.all_mk KX G hmg ?a0 ?l0 ?c0 ?k0 ?a1 ?l1 ?c1 ?k1 ?a2 ?l2 ?c2 ?k2 ?a3 ?l3 ?c3 ?k3 ?a4 ?l4 ?c4 ?k4 ?a5 ?l5 ?c5 ?k5 ?a6 ?l6 ?c6 ?k6 ?a7 ?l7 ?c7 ?k7 ?a8 ?l8 ?c8 ?k8 ?a9 ?l9 ?c9 ?k9 ?a10 ?l10 ?c10 ?k10 ?a11 ?l11 ?c11 ?k11 ?a12 ?l12 ?c12 ?k12 ?a13 ?l13 ?c13 ?k13 ?a14 ?l14 ?c14 ?k14 ?a15 ?l15 ?c15 ?k15 ?a16 ?l16 ?c16 ?k16 ?a17 ?l17 ?c17 ?k17 ?a18 ?l18 ?c18 ?k18 ?a19 ?l19 ?c19 ?k19 ?z_int ?z_isinstance ?z_len ?z_list ?z_range ?z_repr ?z_str ?y_FIGURES ?y_MOST_FIGURES ?y_SIGNS
    (case a0 => k_is)
    (case l0 => k_is)
    (case c0 => k_is)
    (case k0 => k_is)
    (case a1 => k_is)
    (case l1 => k_is)
    (case c1 => k_is)
    (case k1 => k_is)
    (case a2 => k_is)
    (case l2 => k_is)
    (case c2 => k_is)
    (case k2 => k_is)
    (case a3 => k_is)
    (case l3 => k_is)
    (case c3 => k_is)
    (case k3 => k_is)
    (case a4 => k_is)
    (case l4 => k_is)
    (case c4 => k_is)
    (case k4 => k_is)
    (case a5 => k_is)
    (case l5 => k_is)
    (case c5 => k_is)
    (case k5 => k_is)
    (case a6 => k_is)
    (case l6 => k_is)
    (case c6 => k_is)
    (case k6 => k_is)
    (case a7 => k_is)
    (case l7 => k_is)
    (case c7 => k_is)
    (case k7 => k_is)
    (case a8 => k_is)
    (case l8 => k_is)
    (case c8 => k_is)
    (case k8 => k_is)
    (case a9 => k_is)
    (case l9 => k_is)
    (case c9 => k_is)
    (case k9 => k_is)
    (case a10 => k_is)
    (case l10 => k_is)
    (case c10 => k_is)
    (case k10 => k_is)
    (case a11 => k_is)
    (case l11 => k_is)
    (case c11 => k_is)
    (case k11 => k_is)
    (case a12 => k_is)
    (case l12 => k_is)
    (case c12 => k_is)
    (case k12 => k_is)
    (case a13 => k_is)
    (case l13 => k_is)
    (case c13 => k_is)
    (case k13 => k_is)
    (case a14 => k_is)
    (case l14 => k_is)
    (case c14 => k_is)
    (case k14 => k_is)
    (case a15 => k_is)
    (case l15 => k_is)
    (case c15 => k_is)
    (case k15 => k_is)
    (case a16 => k_is)
    (case l16 => k_is)
    (case c16 => k_is)
    (case k16 => k_is)
    (case a17 => k_is)
    (case l17 => k_is)
    (case c17 => k_is)
    (case k17 => k_is)
    (case a18 => k_is)
    (case l18 => k_is)
    (case c18 => k_is)
    (case k18 => k_is)
    (case a19 => k_is)
    (case l19 => k_is)
    (case c19 => k_is)
    (case k19 => k_is)
    (case z_int => k_is)
    (case z_isinstance => k_is)
    (case z_len => k_is)
    (case z_list => k_is)
    (case z_range => k_is)
    (case z_repr => k_is)
    (case z_str => k_is)
    (case y_FIGURES => k_is)
    (case y_MOST_FIGURES => k_is)
    (case y_SIGNS => k_is)
#print axioms PySem.Challenge.cw_farline_k83_texts_written_holds

