import PyProof.Rows.All
import Wide.All
import OpenK.AllK
import Wide.FinOn
import PyProof.EqAt
import PyProof.EqKinds
import PyProof.TupleCall
import HandS.ForMost
import HandS.ForExc
import HandS.FStr
import HandS.IsInst
import HandS.ReplaceLit
import HandS.ReplaceList
import PyProof.P3Eq
import PyProof.StrLawsRepr
import HandS.More
import HandS.Style
import HandS.TupAny
import KE.DatumOrd
import PySem.Challenge.RW_farline_k82_whole_plain_stories_tell_ali
set_option Elab.async false
set_option linter.all false
set_option maxRecDepth 100000
set_option maxHeartbeats 4000000
/-! own layer: operations of any kind, steps backwards through readings, frames, data -/
namespace FL
open PySem PySem.Spec PyProof.Rows L2 CwR

/-! ### operations of any kind -/
def rAddS : R2 := fun x y H Q => ∃ i j, x = .str i ∧ y = .str j ∧ i.length + j.length ≤ sizeLine ∧ Q (.str (i ++ j)) H
def rAddI : R2 := rI0 fun i j => .int (i + j)
def rAddU (K : PySem.W.Frag) : R2 := fun x y H Q => rAddI x y H Q ∨ rAddS x y H Q ∨ rCat x y H Q ∨ rCatT K x y H Q
def rNegU : V → Hp → VK → Prop := rU fun i => .int (-i)
def rSubU : R2 := rI0 fun i j => .int (i - j)
def rMulU : R2 := rI CMul fun i j => .int (i * j)
def rModU : R2 := rI (fun _ j => 0 < j) fun i j => .int (i % j)
def rDivU : R2 := rI CDiv fun i j => .int (i / j)
def rPowU : R2 := rI CPow fun i j => .int (i ^ j.toNat)
def rLtU : R2 := rI0 fun i j => .bl (decide (i < j))
def rLeU : R2 := rI0 fun i j => .bl (decide (i ≤ j))
def rGtU : R2 := rI0 fun i j => .bl (decide (j < i))
def rGeU : R2 := rI0 fun i j => .bl (decide (j ≤ i))
def rIs : R2 := fun x y H Q => y = .non ∧ Q (.bl (decide (x = .non))) H
def rIsNot : R2 := fun x y H Q => y = .non ∧ Q (.bl (!decide (x = .non))) H
def rInS : R2 := fun x y H Q => ∃ (c : Nat) (z : Str), x = .str ⟨#[c]⟩ ∧ y = .str z ∧ Q (.bl (decide (c ∈ z.cps.toList))) H
def rNiS : R2 := fun x y H Q => ∃ (c : Nat) (z : Str), x = .str ⟨#[c]⟩ ∧ y = .str z ∧ Q (.bl (!decide (c ∈ z.cps.toList))) H
def rInT : R2 := fun x y H Q => ∃ i j, x = .str i ∧ y = .str j ∧ Q (.bl (!(Builtin.Str.occurrences j i 0 j.length 1).isEmpty)) H
def rNiT : R2 := fun x y H Q => ∃ i j, x = .str i ∧ y = .str j ∧ Q (.bl (!(!(Builtin.Str.occurrences j i 0 j.length 1).isEmpty))) H
def rInU (K : PySem.W.Frag) : R2 := fun x y H Q => rInS x y H Q ∨ rIn K false x y H Q ∨ rInT x y H Q
def rNiU (K : PySem.W.Frag) : R2 := fun x y H Q => rNiS x y H Q ∨ rIn K true x y H Q ∨ rNiT x y H Q
def rSlU (K : PySem.W.Frag) : V → Option Int → Option Int → Hp → VK → Prop := fun x lo hi H Q => rSlL K x lo hi H Q ∨ rSlT K x lo hi H Q ∨ rSlS x lo hi H Q
def rLenQ (K : PySem.W.Frag) : List V → Hp → VK → Prop := fun xs H Q => ∃ p ys, xs = [.ref p] ∧ (SqL K H p ys ∨ SqT K H p ys) ∧ Q (.int ys.length) H
def rLenS : List V → Hp → VK → Prop := fun xs H Q => ∃ z, xs = [.str z] ∧ z.length ≤ sizeLine ∧ Q (.int z.length) H
def rLenU (K : PySem.W.Frag) : List V → Hp → VK → Prop := fun xs H Q => rLenQ K xs H Q ∨ rLenS xs H Q
def rIntN : List V → Hp → VK → Prop := fun xs H Q => (∃ i, xs = [.int i] ∧ Q (.int i) H) ∨ ∃ k, xs = [.bl k] ∧ Q (.int (if k then 1 else 0)) H
def rIntS : List V → Hp → VK → Prop := fun xs H Q => ∃ a n, xs = [.str a] ∧ PySem.intText? a = some n ∧ a.length ≤ 640 ∧ Q (.int n) H
def rIntU : List V → Hp → VK → Prop := fun xs H Q => rIntN xs H Q ∨ rIntS xs H Q
def rStrU : List V → Hp → VK → Prop := fun xs H Q => ∃ i, xs = [.int i] ∧ i.natAbs.log2 < 1920 ∧ Q (.str (toString i)) H
def rListU (K : PySem.W.Frag) : List V → Hp → VK → Prop := fun xs H Q => ∃ p ys, xs = [.ref p] ∧ (SqL K H p ys ∨ SqT K H p ys) ∧ ∀ l, H l = none → Q (.ref l) (upd H l (.lst ys))
def rEqU (K : PySem.W.Frag) : R2 := fun x y H Q => rEq x y H Q ∨ rEqD K x y H Q
def rNeU (K : PySem.W.Frag) : R2 := fun x y H Q => rNe x y H Q ∨ rNeD K x y H Q
def rIsiU (K : PySem.W.Frag) : List V → Hp → VK → Prop := fun xs H Q => rIsi K xs H Q ∨ rIsiT K xs H Q
section
variable {X : Cx}
theorem u_eq (hu : X.A.units + 64 < cLine) : OpR X (compareOp .Eq) (rEqU X.K) := op_eq.or (op_eqD hu)
theorem u_ne (hu : X.A.units + 64 < cLine) : OpR X (compareOp .NotEq) (rNeU X.K) := op_ne.or (op_neD hu)
theorem u_add : OpR X (binaryOp .Add) (rAddU X.K) := op_add.or (op_add_str.or (op_cat.or op_catT))
theorem u_sub : OpR X (binaryOp .Sub) rSubU := op_sub
theorem u_mul : OpR X (binaryOp .Mult) rMulU := op_mul
theorem u_mod : OpR X (binaryOp .Mod) rModU := op_mod
theorem u_div : OpR X (binaryOp .FloorDiv) rDivU := op_fdiv
theorem u_pow : OpR X (binaryOp .Pow) rPowU := op_pow
theorem u_lt : OpR X (compareOp .Lt) rLtU := op_lt
theorem u_le : OpR X (compareOp .LtE) rLeU := op_le
theorem u_gt : OpR X (compareOp .Gt) rGtU := op_gt
theorem u_ge : OpR X (compareOp .GtE) rGeU := op_ge
theorem u_is : OpR X (compareOp .Is) rIs := op_isN
theorem u_isnot : OpR X (compareOp .IsNot) rIsNot := op_notN
theorem u_in : OpR X (compareOp .In) (rInU X.K) := op_in_sign.or (op_in_seq.or op_in_str)
theorem u_ni : OpR X (compareOp .NotIn) (rNiU X.K) := op_notIn_sign.or (op_notIn_seq.or op_notIn_str)
theorem u_sl : SlR X (rSlU X.K) := sl_list.or (sl_tup.or sl_str)
theorem u_len : CallR X (.builtin "len") (rLenU X.K) := call_len_seq.or call_len_str
theorem u_int : CallR X (.type "int") rIntU := call_int1.or call_int_str
theorem u_isi : CallR X (.builtin "isinstance") (rIsiU X.K) := call_isi.or call_isiT
theorem u_str : CallR X (.type "str") rStrU := call_str_int
theorem u_list : CallR X (.type "list") (rListU X.K) := call_list_of
end

/-! ### loops and comprehensions: what is asked behind the walked thing -/
def FrB (J : It) (g : TG) (t : TS) (D : Ends) (σ : L2.St) (H1 : Hp) : Prop := ∃ W : Nat → Nat → L2.St → Hp → Prop, (∃ m, W 0 m σ H1) ∧ ∀ i m σ H, W i m σ H →
  (J.stop i H ∧ D.nx σ H) ∨ (J.go i H ∧ ∃ N : L2.St → Hp → Prop, (∀ σ' H', N σ' H' → ∃ m', m' < m ∧ W (i + 1) m' σ' H') ∧ ∀ x H', J.yld i H x H' → g x σ H' fun σ2 H2 => t { D with nx := N, ct := N, bk := D.nx } σ2 H2)
def LcB (J : It) (g : TG) (tt : TT) (te : TE) (vs : List Nat) (σ : L2.St) (Q : VK) (H1 : Hp) : Prop := ∀ D, H1 D = none → ∃ W : Nat → Nat → Hp → Prop, (∃ m, W 0 m (upd H1 D (.lst []))) ∧ ∀ i m H, W i m H →
  (J.stop i H ∧ Q (.ref D) H) ∨ (J.go i H ∧ ∃ Nx : Hp → Prop, (∀ H', Nx H' → ∃ m', m' < m ∧ W (i + 1) m' H') ∧ ∀ x H', J.yld i H x H' → g x (wipe σ vs) H' fun σ2 H2 => wipe σ2 vs = wipe σ vs ∧ tt σ2 H2 fun b H3 =>
    if b = true then te σ2 H3 fun y H4 => ∃ acc, H4 D = some (.lst acc) ∧ acc.length < sizeLine ∧ Nx (upd H4 D (.lst (acc ++ [y]))) else Nx H3)
/-! ### steps backwards -/
section
variable {K : PySem.W.Frag} {σ : L2.St} {H : Hp} {Q : VK} {ta tb te : TE} {tt tu : TT} {t u : TS} {D : Ends} {r : R2} {v x y : V} {i j : Int} {a b : Str} {QB : Bool → Hp → Prop}
theorem w_seq (h : t { D with nx := u D } σ H) : tSeq t u D σ H := h
theorem w_set {n : Nat} (h : te σ H fun x H1 => D.nx (σ.set n (some x)) H1) : tAsg te (gName n) D σ H := h
theorem w_asg {g : TG} (h : te σ H fun x H1 => g x σ H1 D.nx) : tAsg te g D σ H := h
theorem w_ret (h : te σ H D.rt) : tRet te D σ H := h
theorem w_retN (h : D.rt .non H) : tRetN D σ H := h
theorem w_drop (h : te σ H fun _ H1 => D.nx σ H1) : tDrop te D σ H := h
theorem w_next (h : D.nx σ H) : tNext D σ H := h
theorem w_brk (h : D.bk σ H) : tBreak D σ H := h
theorem w_cont (h : D.ct σ H) : tCont D σ H := h
theorem w_if (h : tt σ H fun c H1 => if c = true then t D σ H1 else u D σ H1) : tIfS tt t u D σ H := h
theorem w_var {n : Nat} (e : σ[n]? = some (some v)) (h : Q v H) : tVar n σ H Q := ⟨v, e, h⟩
theorem w_c (h : Q v H) : tC v σ H Q := h
theorem w_op (h : ta σ H fun x H1 => tb σ H1 fun y H2 => r x y H2 Q) : tOp r ta tb σ H Q := h
theorem w_test (h : te σ H fun x H' => ∃ k, x = .bl k ∧ QB k H') : tTest te σ H QB := h
theorem w_tB (h : te σ H fun x H' => ∃ k, x = .bl k ∧ QB k H') : tB te σ H QB := h
theorem w_bl {k : Bool} {P : Bool → Prop} (h : P k) : ∃ k', V.bl k = V.bl k' ∧ P k' := ⟨k, rfl, h⟩
theorem w_and (h : tt σ H fun c H1 => if c = true then tu σ H1 QB else QB false H1) : tAnd tt tu σ H QB := h
theorem w_or (h : tt σ H fun c H1 => if c = true then QB true H1 else tu σ H1 QB) : tOr tt tu σ H QB := h
theorem w_not (h : tt σ H fun c H1 => QB (!c) H1) : tNot tt σ H QB := h
theorem w_ifE (h : tt σ H fun c H1 => if c = true then ta σ H1 Q else tb σ H1 Q) : tIf tt ta tb σ H Q := h
theorem w_nil {QA : List V → Hp → Prop} (h : QA [] H) : tNil σ H QA := h
theorem w_cons {QA : List V → Hp → Prop} {tr : TA} (h : ta σ H fun x H1 => tr σ H1 fun xs H2 => QA (x :: xs) H2) : tCons ta tr σ H QA := h
theorem w_tup {tr : TA} (h : tr σ H fun xs H1 => xs.length ≤ sizeLine ∧ ∀ p, H1 p = none → Q (.ref p) (upd H1 p (.tup xs))) : tTup tr σ H Q := h
theorem w_lst {tr : TA} (h : tr σ H fun xs H1 => xs.length ≤ sizeLine ∧ ∀ p, H1 p = none → Q (.ref p) (upd H1 p (.lst xs))) : tLst tr σ H Q := h
theorem w_cb {rc : List V → Hp → VK → Prop} {tr : TA} (h : tr σ H fun vs H1 => rc vs H1 Q) : tCB rc tr σ H Q := h
theorem w_call {sp : Sp} {E : XK} {tr : TA} (h : tr σ H fun vs H1 => sp vs H1 Q E) : tCall sp [] E tr σ H Q := by
  refine Eq.mp ?_ h
  show _ = tr σ H fun vs H1 => sp (vs ++ []) H1 Q E
  simp only [List.append_nil]
theorem w_andV (h : ta σ H fun x H1 => ∃ c, x = .bl c ∧ if c = true then tb σ H1 Q else Q (.bl false) H1) : tAndV ta tb σ H Q := h
theorem w_orV (h : ta σ H fun x H1 => ∃ c, x = .bl c ∧ if c = true then Q (.bl true) H1 else tb σ H1 Q) : tOrV ta tb σ H Q := h
theorem w_notV (h : ta σ H fun x H1 => ∃ c, x = .bl c ∧ Q (.bl (!c)) H1) : tNotV ta σ H Q := h
theorem w_sl {rs : V → Option Int → Option Int → Hp → VK → Prop} {tl th : TO} (h : te σ H fun x H1 => tl σ H1 fun l H2 => th σ H2 fun u H3 => rs x l u H3 Q) : tSl rs te tl th σ H Q := h
theorem w_noPart {QO : Option Int → Hp → Prop} (h : QO none H) : tNoPart σ H QO := h
theorem w_part {QO : Option Int → Hp → Prop} (h : te σ H fun x H1 => ∃ i, x = .int i ∧ QO (some i) H1) : tPart te σ H QO := h
theorem w_exI {i : Int} {P : Int → Prop} (h : P i) : ∃ i', V.int i = V.int i' ∧ P i' := ⟨i, rfl, h⟩
theorem w_exS {i : Str} {P : Str → Prop} (h : P i) : ∃ i', V.str i = V.str i' ∧ P i' := ⟨i, rfl, h⟩
/-! operations on known values -/
theorem w_addI (h : Q (.int (i + j)) H) : rAddU K (.int i) (.int j) H Q := .inl ⟨i, j, rfl, rfl, h⟩
theorem w_addS (h : Q (.str (a ++ b)) H) (hz : a.length + b.length ≤ sizeLine) : rAddU K (.str a) (.str b) H Q := .inr (.inl ⟨a, b, rfl, rfl, hz, h⟩)
theorem w_subI (h : Q (.int (i - j)) H) : rSubU (.int i) (.int j) H Q := ⟨i, j, rfl, rfl, h⟩
theorem w_mulI (h : Q (.int (i * j)) H) (hc : CMul i j) : rMulU (.int i) (.int j) H Q := ⟨i, j, rfl, rfl, hc, h⟩
theorem w_modI (h : Q (.int (i % j)) H) (hc : 0 < j) : rModU (.int i) (.int j) H Q := ⟨i, j, rfl, rfl, hc, h⟩
theorem w_divI (h : Q (.int (i / j)) H) (hc : CDiv i j) : rDivU (.int i) (.int j) H Q := ⟨i, j, rfl, rfl, hc, h⟩
theorem w_powI (h : Q (.int (i ^ j.toNat)) H) (hc : CPow i j) : rPowU (.int i) (.int j) H Q := ⟨i, j, rfl, rfl, hc, h⟩
theorem w_ltI (h : Q (.bl (decide (i < j))) H) : rLtU (.int i) (.int j) H Q := ⟨i, j, rfl, rfl, h⟩
theorem w_leI (h : Q (.bl (decide (i ≤ j))) H) : rLeU (.int i) (.int j) H Q := ⟨i, j, rfl, rfl, h⟩
theorem w_gtI (h : Q (.bl (decide (j < i))) H) : rGtU (.int i) (.int j) H Q := ⟨i, j, rfl, rfl, h⟩
theorem w_geI (h : Q (.bl (decide (j ≤ i))) H) : rGeU (.int i) (.int j) H Q := ⟨i, j, rfl, rfl, h⟩
theorem w_eqI (h : Q (.bl (decide (i = j))) H) : rEqU K (.int i) (.int j) H Q := .inl ⟨rfl, by rw [dec_int, Bool.beq_eq_decide_eq]; exact h⟩
theorem w_neI (h : Q (.bl (!decide (i = j))) H) : rNeU K (.int i) (.int j) H Q := .inl ⟨rfl, by rw [dec_int, Bool.beq_eq_decide_eq]; exact h⟩
theorem w_eqS (h : Q (.bl (decide (a = b))) H) : rEqU K (.str a) (.str b) H Q := .inl ⟨rfl, by rw [dec_str, Bool.beq_eq_decide_eq]; exact h⟩
theorem w_neS (h : Q (.bl (!decide (a = b))) H) : rNeU K (.str a) (.str b) H Q := .inl ⟨rfl, by rw [dec_str, Bool.beq_eq_decide_eq]; exact h⟩
theorem w_eqB {c d : Bool} (h : Q (.bl (decide (c = d))) H) : rEqU K (.bl c) (.bl d) H Q := .inl ⟨rfl, by rw [dec_bl, Bool.beq_eq_decide_eq]; exact h⟩
theorem w_neB {c d : Bool} (h : Q (.bl (!decide (c = d))) H) : rNeU K (.bl c) (.bl d) H Q := .inl ⟨rfl, by rw [dec_bl, Bool.beq_eq_decide_eq]; exact h⟩
theorem w_eqD {d e : PyData} (h : Q (.bl (PyData.eqv d e)) H) (hx : Dp K H x d) (hy : Dp K H y e) (sd : SeqAt.shaped d = true) (se : SeqAt.shaped e = true) : rEqU K x y H Q := .inr ⟨d, e, hx, hy, sd, se, h⟩
theorem w_neD {d e : PyData} (h : Q (.bl (!PyData.eqv d e)) H) (hx : Dp K H x d) (hy : Dp K H y e) (sd : SeqAt.shaped d = true) (se : SeqAt.shaped e = true) : rNeU K x y H Q := .inr ⟨d, e, hx, hy, sd, se, h⟩
theorem w_is (h : Q (.bl (decide (x = .non))) H) : rIs x .non H Q := ⟨rfl, h⟩
theorem w_isNot (h : Q (.bl (!decide (x = .non))) H) : rIsNot x .non H Q := ⟨rfl, h⟩
theorem w_inC {c : Nat} (h : Q (.bl (decide (c ∈ a.cps.toList))) H) : rInU K (.str ⟨#[c]⟩) (.str a) H Q := .inl ⟨c, a, rfl, rfl, h⟩
theorem w_niC {c : Nat} (h : Q (.bl (!decide (c ∈ a.cps.toList))) H) : rNiU K (.str ⟨#[c]⟩) (.str a) H Q := .inl ⟨c, a, rfl, rfl, h⟩
theorem w_lenS (h : Q (.int a.length) H) (hz : a.length ≤ sizeLine) : rLenU K [.str a] H Q := .inr ⟨a, rfl, hz, h⟩
theorem w_intI (h : Q (.int i) H) : rIntU [.int i] H Q := .inl (.inl ⟨i, rfl, h⟩)
theorem w_intB {c : Bool} (h : Q (.int (if c then 1 else 0)) H) : rIntU [.bl c] H Q := .inl (.inr ⟨c, rfl, h⟩)
theorem w_strI (h : Q (.str (toString i)) H) (hz : i.natAbs.log2 < 1920) : rStrU [.int i] H Q := ⟨i, rfl, hz, h⟩
theorem w_slS {lo hi : Option Int} (h : Q (.str (cutS a lo hi)) H) (hz : a.length ≤ sizeLine) : rSlU K (.str a) lo hi H Q := .inr (.inr ⟨a, rfl, hz, h⟩)
theorem w_ixL {p : Addr} {xs : List V} (h : Q v H) (hs : SqL K H p xs) (hx : atI xs i = some v) : rIx K (.ref p) (.int i) H Q := .inl ⟨p, xs, i, v, rfl, rfl, hs, hx, h⟩
theorem w_ixT {p : Addr} {xs : List V} (h : Q v H) (hs : SqT K H p xs) (hx : atI xs i = some v) : rIx K (.ref p) (.int i) H Q := .inr (.inl ⟨p, xs, i, v, rfl, rfl, hs, hx, h⟩)
theorem w_ixS {c : Nat} (h : Q (.str ⟨#[c]⟩) H) (hz : a.length ≤ sizeLine) (hx : atI a.cps.toList i = some c) : rIx K (.str a) (.int i) H Q := .inr (.inr ⟨a, i, c, rfl, rfl, hz, hx, h⟩)
theorem w_lenL {p : Addr} {xs : List V} (h : Q (.int xs.length) H) (hs : SqL K H p xs) : rLenU K [.ref p] H Q := .inl ⟨p, xs, rfl, .inl hs, h⟩
theorem w_lenT {p : Addr} {xs : List V} (h : Q (.int xs.length) H) (hs : SqT K H p xs) : rLenU K [.ref p] H Q := .inl ⟨p, xs, rfl, .inr hs, h⟩
theorem w_decTS {a b : Str} {A B : Prop} (h : a = b) (k : A) : if decide (a = b) = true then A else B := by
  rw [decide_eq_true h, if_pos rfl]; exact k
theorem w_decFS {a b : Str} {A B : Prop} (h : ¬ a = b) (k : B) : if decide (a = b) = true then A else B := by
  rw [decide_eq_false h, if_neg Bool.false_ne_true]; exact k
theorem w_ndecTS {a b : Str} {A B : Prop} (h : a = b) (k : B) : if (!decide (a = b)) = true then A else B := by
  rw [decide_eq_true h]; exact k
theorem w_ndecFS {a b : Str} {A B : Prop} (h : ¬ a = b) (k : A) : if (!decide (a = b)) = true then A else B := by
  rw [decide_eq_false h]; exact k
theorem w_sz {a : Str} {P : Prop} (h : a.length ≤ 1000000) (k : P) : a.length ≤ sizeLine ∧ P := ⟨Nat.le_trans h (by decide), k⟩
theorem w_addS' (h : Q (.str (a ++ b)) H) (hz : a.length + b.length ≤ 1000000) : rAddU K (.str a) (.str b) H Q := w_addS h (Nat.le_trans hz (by decide))
theorem w_strI' {n : Nat} (h : Q (.str (toString (n : Int))) H) (hz : n < 1000000) : rStrU [.int (n : Int)] H Q := w_strI h (by
  rw [Int.natAbs_natCast]
  by_cases z : n = 0
  · subst z; decide
  · exact (Nat.log2_lt z).mpr (Nat.lt_of_lt_of_le hz (Nat.le_trans (by decide : 1000000 ≤ 2 ^ 20) (Nat.pow_le_pow_right (by decide) (by decide)))))
theorem w_fmtN {A : Prop} {n : Nat} {B : Prop} (hz : n < 1000000) (h : B) : ((n : Int).natAbs.log2 < 1920 ∧ B) := ⟨by
  rw [Int.natAbs_natCast]
  by_cases z : n = 0
  · subst z; decide
  · exact (Nat.log2_lt z).mpr (Nat.lt_of_lt_of_le hz (Nat.le_trans (by decide : 1000000 ≤ 2 ^ 20) (Nat.pow_le_pow_right (by decide) (by decide)))), h⟩
theorem w_chain {r' : R2} {tc : TE} (h : ta σ H fun x H1 => tb σ H1 fun y H2 => r x y H2 fun z H3 => ∃ k, z = .bl k ∧ (if k = true then tc σ H3 fun w' H4 => r' y w' H4 Q else Q (.bl false) H3)) : tChain r r' ta tb tc σ H Q := h
theorem w_for {wi : TI} {g : TG} (h : wi σ H fun J H1 => FrB J g t D σ H1) : tFor wi g t D σ H := h
theorem w_lc {wi : TI} {g : TG} {ns : List Nat} (h : wi σ H fun J H1 => LcB J g tt te ns σ Q H1) : tLc wi g tt te ns σ H Q := h
theorem w_rng {r : Int} {P : Int → Prop} (h0 : 0 ≤ r ∧ r ≤ 1000000) (h : P r) : ∃ j : Int, [V.int r] = [.int j] ∧ -(2 ^ 62) ≤ j ∧ j < 2 ^ 62 ∧ P j := ⟨r, rfl, by omega, by omega, h⟩
theorem w_iStr {R : It → Hp → Prop} (h : te σ H fun v H1 => ∃ x, v = .str x ∧ R (Its x) H1) : iStr te σ H R := h
theorem w_iList {R : It → Hp → Prop} (h : te σ H fun x H1 => ∃ a, x = .ref a ∧ (∃ xs, SqL K H1 a xs) ∧ R (Itl K a) H1) : iList K te σ H R := h
theorem w_iTup {R : It → Hp → Prop} (h : te σ H fun x H1 => ∃ a, x = .ref a ∧ (∃ xs, SqT K H1 a xs) ∧ R (Itt K a) H1) : iTup K te σ H R := h
theorem w_iRng1 {tr : TA} {R : It → Hp → Prop} (h : tr σ H fun vs H1 => ∃ j : Int, vs = [.int j] ∧ -(2 ^ 62) ≤ j ∧ j < 2 ^ 62 ∧ R (Itr 0 j.toNat) H1) : iRng1 tr σ H R := h
theorem w_exR {p : Addr} {P : Addr → Prop} (h : P p) : ∃ a, V.ref p = V.ref a ∧ P a := ⟨p, rfl, h⟩
theorem w_exSqL {p : Addr} {xs : List V} {P : Prop} (hs : SqL K H p xs) (h : P) : (∃ xs, SqL K H p xs) ∧ P := ⟨⟨xs, hs⟩, h⟩
theorem w_nT {A B : Prop} (k : B) : if (!true) = true then A else B := k
theorem w_nF {A B : Prop} (k : A) : if (!false) = true then A else B := k
theorem w_yes {p : Prop} [Decidable p] {A B : Prop} (h : p) (k : A) : if decide p = true then A else B := by rw [decide_eq_true h, if_pos rfl]; exact k
theorem w_no {p : Prop} [Decidable p] {A B : Prop} (h : ¬ p) (k : B) : if decide p = true then A else B := by rw [decide_eq_false h, if_neg Bool.false_ne_true]; exact k
theorem w_nyes {p : Prop} [Decidable p] {A B : Prop} (h : p) (k : B) : if (!decide p) = true then A else B := by rw [decide_eq_true h]; exact k
theorem w_nno {p : Prop} [Decidable p] {A B : Prop} (h : ¬ p) (k : A) : if (!decide p) = true then A else B := by rw [decide_eq_false h]; exact k
theorem w_un {ru : V → Hp → VK → Prop} (h : ta σ H fun x H1 => ru x H1 Q) : tUn ru ta σ H Q := h
theorem w_negI (h : Q (.int (-i)) H) : rNegU (.int i) H Q := ⟨i, rfl, h⟩
theorem w_bm {T : String} {rm : V → List V → Hp → VK → Prop} {tr : TA} (h : te σ H fun x H1 => tyV K T x H1 ∧ tr σ H1 fun xs H2 => rm x xs H2 Q) : tBM K T rm te tr σ H Q := h
theorem w_bm0 {T : String} {rm : V → List V → Hp → VK → Prop} (h : te σ H fun x H1 => tyV K T x H1 ∧ rm x [] H1 Q) : tBM0 K T rm te σ H Q := h
theorem w_tyL {p : Addr} {xs : List V} {P : Prop} (hs : SqL K H p xs) (h : P) : tyV K "list" (.ref p) H ∧ P := ⟨.inl ⟨rfl, _, hs⟩, h⟩
theorem w_append {p : Addr} {xs : List V} (hp : H p = some (.lst xs)) (hl : xs.length ≤ 100000) (h : Q .non (upd H p (.lst (xs ++ [x])))) : rAppend (.ref p) [x] H Q :=
  ⟨p, xs, x, rfl, rfl, hp, Nat.lt_of_le_of_lt hl (by decide), h⟩
theorem w_len {xs : List V} {P : Prop} (h : xs.length ≤ 1000) (k : P) : xs.length ≤ sizeLine ∧ P := ⟨Nat.le_trans h (by decide), k⟩
theorem w_gsub {to ti : TE} {rs : TSet} {R : L2.St → Hp → Prop} (h : to σ H fun o H1 => ti σ H1 fun i H2 => rs o i v H2 fun H3 => R σ H3) : gSub to ti rs v σ H R := h
theorem w_gname {n : Nat} {R : L2.St → Hp → Prop} (h : R (σ.set n (some v)) H) : gName n v σ H R := h
theorem w_setL {p : Addr} {xs : List V} {n : Nat} {R : Hp → Prop} (hp : H p = some (.lst xs)) (hi : ixN xs.length i = some n) (h : R (upd H p (.lst (xs.set n v)))) : rSetL (.ref p) (.int i) v H R := ⟨p, xs, i, n, rfl, rfl, hp, hi, h⟩
theorem w_dec {p : Prop} [Decidable p] {A B : Prop} (h1 : p → A) (h2 : ¬ p → B) : if decide p = true then A else B := by
  by_cases h : p
  · rw [decide_eq_true h, if_pos rfl]; exact h1 h
  · rw [decide_eq_false h, if_neg Bool.false_ne_true]; exact h2 h
theorem w_ndec {p : Prop} [Decidable p] {A B : Prop} (h1 : ¬ p → A) (h2 : p → B) : if (!decide p) = true then A else B := by
  by_cases h : p
  · rw [decide_eq_true h]; exact h2 h
  · rw [decide_eq_false h]; exact h1 h
theorem len_small {n : Nat} (h : n ≤ 1000000) : n ≤ sizeLine := Nat.le_trans h (by decide)
end
/-! ### texts: joined, split, replaced -/
def rJoin (K : PySem.W.Frag) : V → List V → Hp → VK → Prop := fun x xs H Q => ∃ a p, ∃ ys : List Str, x = .str a ∧ xs = [.ref p] ∧ (SqL K H p (ys.map V.str) ∨ SqT K H p (ys.map V.str)) ∧ (ys.map (·.length)).sum + ys.length * a.length ≤ 16777216 ∧ Q (.str (Txt.join a ys)) H
def rSplit : V → List V → Hp → VK → Prop := fun x xs H Q => ∃ a b, x = .str a ∧ xs = [.str b] ∧ (b.length == 0) = false ∧ a.length + 2 ≤ sizeLine ∧ rNewStrs (Txt.split a b) H Q
def tJoin (K : PySem.W.Frag) (to te : TE) : TE := tM1 (rJoin K) to te
def tSplit (to te : TE) : TE := tM1 rSplit to te
def tJoined (ts : List TE) : TE := fun σ H Q => tJs ts Str.empty σ H fun out H1 => Q (.str out) H1
def tNotU (t : TT) : TE := fun σ H Q => t σ H fun c H1 => Q (.bl (!c)) H1
/-- an expression behind which a token has been given out -/
def PEG (X : Cx) (e : Expr) (t : TE) : Prop :=
  ∀ (pins : List (Addr × Obj)) (s : Shared) (σ : L2.St) (H : Hp) (Q : VK), Inv X pins σ H s → t σ H Q → wpAny (model X.prog X.w) X.A (eval e X.env) (fun u s' => 1 ≤ s'.toks ∧ EP X pins σ Q u s') X.xe s
section
variable {X : Cx} {e f : Expr} {te tf : TE} {pos : Pos}
theorem peg_str {x : Str} {j : Nat} : PEG X (.Constant (.str x) j pos) (tC (.str x)) := fun _ s _ H _ I h =>
  Calls.Constant_str ⟨Nat.succ_le_succ (Nat.zero_le _), .str x, H, I.tok _, ⟨_, rfl⟩, h⟩
theorem peg_op {op : Operator} {r : R2} (ho : OpR X (binaryOp op) r) (ha : PEG X e te) (hb : PE X f tf) : PEG X (.BinOp e op f pos) (tOp r te tf) := by
  intro pins s σ H Q I h
  refine wpAny_BinOp (thn (ha pins s σ H _ I h) fun v s1 ⟨k1, x, H1, I1, r1, q1⟩ => ?_)
  refine wpAny_mono (PySem.wpAny_toks_of k1 (hb.run pins s1 σ H1 _ I1 q1)) (fun u s2 ⟨k2, y, H2, I2, r2, q2⟩ => ?_) fun _ _ z => z.2
  exact wpAny_mono (PySem.wpAny_toks_of k2 (ho pins s2 σ H2 x y v u Q I2 r1 r2 q2)) (fun _ _ z => z) fun _ _ z => z.2
theorem pe_opG {op : Operator} {r : R2} (ho : OpR X (binaryOp op) r) (ha : PEG X e te) (hb : PET X f tf) : PE X (.BinOp e op f pos) (tOp r te tf) := by
  refine ⟨fun pins s σ H Q I h => ?_⟩
  refine wpAny_BinOp (thn (ha pins s σ H _ I h) fun v s1 ⟨k1, x, H1, I1, r1, q1⟩ => ?_)
  exact thn (hb pins s1 σ H1 _ k1 I1 q1) fun u s2 ⟨y, H2, I2, r2, q2⟩ => ho pins s2 σ H2 x y v u Q I2 r1 r2 q2
theorem pe_notT2 {tt : TT} (h : PT X e tt) (he : ∀ s Q E, wpAny (model X.prog X.w) X.A (isTrue e X.env (eval e X.env)) (fun b s1 => Q (.bool (!b)) s1) E s → wpAny (model X.prog X.w) X.A (eval (.UnaryOp .Not e pos) X.env) Q E s) : PE X (.UnaryOp .Not e pos) (tNotU tt) :=
  ⟨fun pins s σ H Q I q => he _ _ _ (thn (h.run pins s σ H _ I q) fun b s1 ⟨H1, I1, q1⟩ => ⟨.bl (!b), H1, I1, rfl, q1⟩)⟩
end
section
variable {K : PySem.W.Frag} {σ : L2.St} {H : Hp} {Q : VK} {to te : TE} {a b : Str} {i : Int} {t : TE} {ts : List TE} {QS : Str → Hp → Prop}
theorem w_join (h : to σ H fun x H1 => (∃ a, x = .str a) ∧ te σ H1 fun y H2 => rJoin K x [y] H2 Q) : tJoin K to te σ H Q := h
theorem w_split (h : to σ H fun x H1 => (∃ a, x = .str a) ∧ te σ H1 fun y H2 => rSplit x [y] H2 Q) : tSplit to te σ H Q := h
theorem w_isS {P : Prop} (h : P) : (∃ z, V.str a = .str z) ∧ P := ⟨⟨_, rfl⟩, h⟩
theorem w_joined (h : tJs ts Str.empty σ H fun out H1 => Q (.str out) H1) : tJoined ts σ H Q := h
theorem w_jsNil {acc : Str} (h : QS acc H) : tJs [] acc σ H QS := h
theorem w_jsCons {acc : Str} (h : t σ H fun x H1 => ∃ y : Str, x = .str y ∧ (acc ++ y).length ≤ sizeLine ∧ tJs ts (acc ++ y) σ H1 QS) : tJs (t :: ts) acc σ H QS := h
theorem w_fmtS (h : Q (.str a) H) (hz : a.length ≤ sizeLine) : tFmt (tC (.str a)) σ H Q := .inl ⟨a, rfl, hz, h⟩
theorem w_fmt (h : te σ H fun x H1 => (∃ y : Str, x = .str y ∧ y.length ≤ sizeLine ∧ Q (.str y) H1) ∨ ∃ i : Int, x = .int i ∧ i.natAbs.log2 < 1920 ∧ Q (.str (toString i)) H1) : tFmt te σ H Q := h
theorem w_fmtI {A : Prop} {P : Int → Prop} (h : P i) : A ∨ ∃ j : Int, V.int i = .int j ∧ P j := .inr ⟨i, rfl, h⟩
theorem w_repl (h : to σ H fun v H1 => ∃ x, v = .str x ∧ x.length + (x.length + 1) * b.length ≤ 16777216 ∧ Q (.str (Txt.replace x a b)) H1) : CwR.tReplC to a b σ H Q := h
end

end FL

/-! own layer: defs that are called where nothing is being written out (repr); the row's end for such -/
namespace FL
open PySem PySem.Spec PyProof.Rows L2

/-- a def's promise where no repr runs around -/
def OkG (P : Program) (w : World) (K : PySem.W.Frag) (mg : Str → Option Value) (base : Heap) (CX : CXT) (k : Nat) (f : Addr) (fd : FuncData) (ps : List Str) (sp : Sp) : Prop :=
  (∀ vs H Q E, sp vs H Q E → vs.length = ps.length) ∧
  ∀ (A : Around), A.guards = some [] → ∀ (o : List Env) (s : Shared) (H : Hp) (ar : Args) (us : List Value) (vs : List V) (Q : VK) (E : XK),
    Room k A → Env0 P w K mg base A o s H → BindsTo s fd ar (ps.zip us) → Vals vs us → sp vs H Q E → codeAny (model P w) A (.call (.ref f) ar) (CR CX o P w H s Q E) s

section
variable {P : Program} {w : World} {K : PySem.W.Frag} {mg : Str → Option Value} {base : Heap} {CX : CXT}
theorem okG_of {x qual : Str} {st : Stmt} {f : Addr} {fd : FuncData} {N ps : List Str} {k : Nat} {sp : Sp} (F : Fun K x qual st f fd) (S : FnScope N ps (defScope st)) (len : ∀ vs H Q E, sp vs H Q E → vs.length = ps.length)
    (hb : ∀ (cdv : Value) (A : Around) (o : List Env) (s : Shared) (H : Hp) (vs : List V) (Q : VK) (E : XK), A.guards = some [] → Room k (A.deeper (envOfC qual (defScope st) s.heap.objs.size f cdv)) → sp vs H Q E →
      ∃ t, PSs (cxOf CX P w K mg base N qual (defScope st) f cdv A o s H E) (defBody st) t ∧ t { nx := fun _ H' => Q .non H', rt := Q } (start N vs) H) : OkG P w K mg base CX (k + 1) f fd ps sp := by
  obtain ⟨oc, od, kV, doc, pm, an, cdv, ct, osl, rfl, lk, hcd⟩ := F.ex
  refine ⟨len, fun A hG o s H ar us vs Q E hr e0 hbi r hs => ?_⟩
  have nl := len _ _ _ _ hs
  have old : ∀ b u, base.get? b = some u → s.heap.get? b = some u := fun b u e => (e0.bs b u e).1
  have KX : K.In s.heap := e0.mod.kin.keeps old
  have par : ∀ y ∈ ps.zip us, (defScope st).names.lookup y.1 = some .local ∨ ((defScope st).names.lookup y.1 = some .cell ∧ ((cellsFrom (s.heap.objs.size + 1) (defScope st).names []).lookup y.1).isSome = true) := by
    rintro ⟨n, v⟩ hy
    rcases S.par n (List.of_mem_zip hy).1 with z | z
    · exact .inl z
    · exact .inr ⟨z, PySem.W.cellsFrom_some _ _ _ (.inl z)⟩
  refine codeAny_call_function hr.depth (KX _ _ lk) rfl S.co S.gen rfl (PySem.W.codeRec_of KX hcd) (hbi _ _ _ _ ?_)
  refine wpAny_newFunctionEnv_cells S.kind par fun env he s1 y => ?_
  subst he
  refine ⟨(e0.mod.nolimit.keeps old).keeps y.toInCall.keep, codeAny_func ?_⟩
  obtain ⟨t, ht, hq⟩ := hb cdv A o s H vs Q E hG (hr.deeper _) hs
  have I := inv_start (CX := CX) (E := E) S hr.hd e0 nl r y
  refine wpAny_mono (ht.run [] s1 (start N vs) H _ I hq) (fun fl s2 q => ?_) fun _ _ q => q
  have fin : ∀ {σ2 : L2.St} {H2 : Hp} {v : V} {u : Value}, Inv (cxOf CX P w K mg base N qual (defScope st) f cdv A o s H E) [] σ2 H2 s2 → RelV v u → Q v H2 → CE o P w H s Q u s2 :=
    fun {σ2 H2 v u} J rv z => ⟨v, H2, J.os, J.bare, J.base, J.hok, rv, z⟩
  cases fl with
  | ret u => obtain ⟨v, σ2, H2, J, rv, z⟩ := q; exact fin J rv z
  | next => obtain ⟨σ2, H2, J, z⟩ := q; exact fin (v := V.non) (u := Value.none) J rfl z
  | brk => obtain ⟨_, _, _, z⟩ := q; exact z.elim
  | cont => obtain ⟨_, _, _, z⟩ := q; exact z.elim
theorem OkG.of {k : Nat} {f : Addr} {fd : FuncData} {ps : List Str} {sp : Sp} (F : FnOk P w K mg base CX k f fd ps sp) : OkG P w K mg base CX k f fd ps sp :=
  ⟨F.len, fun A _ o s H ar us vs Q E hr e0 hb r hs => F.run A o s H ar us vs Q E hr e0 hb r hs⟩
end

section
variable {X : Cx}
theorem runG {k : Nat} {f : Addr} {fd : FuncData} {ps : List Str} {sp : Sp} {CX : CXT} {dvs : List V} {ds : List Value} {E : XK} {pins : List (Addr × Obj)} {σ : L2.St} {H : Hp} {s : Shared} {Q : VK} {us : List Value} {vs : List V} (hG : X.A.guards = some []) (F : OkG X.prog X.w X.K X.mg X.base CX k f fd ps sp)
    (hr : Room k X.A) (hb : Binds X.K fd ps ds) (hd : Vals dvs ds) (hx : Passes CX X E) (I : Inv X pins σ H s) (r : Vals vs us) (h : sp (vs ++ dvs) H Q E) : wpAny (model X.prog X.w) X.A (call (.ref f) us) (EP X pins σ Q) X.xe s := by
  have r2 : Vals (vs ++ dvs) (us ++ ds) := r.append hd
  have nl : (us ++ ds).length = ps.length := r2.length.symm.trans (F.1 _ _ _ _ h)
  refine wpAny_call (codeAny_mono (F.2 X.A hG X.stack s H ⟨us, []⟩ (us ++ ds) (vs ++ dvs) Q E hr I.env0 (hb s us I.kIn nl) r2 h) fun z s' hq => ?_)
  cases z with
  | error e => exact hx pins σ H s e s' I hq
  | ok fl => cases fl with
    | ret u => exact I.after hq
    | next => exact hq.elim
    | brk => exact hq.elim
    | cont => exact hq.elim
theorem pe_callG {k : Nat} {f : Addr} {fd : FuncData} {ps : List Str} {sp : Sp} {CX : CXT} {dvs : List V} {ds : List Value} {E : XK} {x : Str} {e : Expr} {es : List Expr} {t : TA} {p pos : Pos} (hG : X.A.guards = some []) (F : OkG X.prog X.w X.K X.mg X.base CX k f fd ps sp)
    (hr : Room k X.A) (hg : Gl X x) (hm : X.mg x = some (.ref f)) (hk : PySem.W.keepIn X.K (.ref f) = true) (hb : Binds X.K fd ps ds) (hd : Vals dvs ds) (hx : Passes CX X E) (ha : PA X (e :: es) t)
    (hdb : (x == ("__debug__" : Str)) = false := by decide) (he : starEach (e :: es) X.env = (false, eval e X.env) :: starEach es X.env := by rfl) (hpl : (backTo pos (starEach es X.env)).any (·.1) = false := by rfl) :
    PE X (.Call (.Name x p) (e :: es) [] pos) (tCall sp dvs E t) := by
  refine ⟨fun pins s σ H Q I h => wpAny_Call_Name_kw (ld_glob I hg hm ?_ hdb)⟩
  refine PySem.W.callWith_K (h₀ := X.base) I.ok.mod.kin hk (thn (ha.run pos pins s σ H _ I h) fun us s1 hh => ?_) he hpl
  obtain ⟨vs, H1, I1, r1, q1⟩ := hh
  exact ⟨I1.kIn, runG hG F hr hb hd hx I1 r1 q1⟩
/-- repr of data -/
def rReprD (K : PySem.W.Frag) : List V → Hp → VK → Prop := fun xs H Q => ∃ v d, xs = [v] ∧ (∃ a, v = .ref a) ∧ Dp K H v d ∧ d.showable = true ∧ d.hasDict = false ∧ d.depth ≤ 60 ∧ d.shown.length ≤ sizeLine ∧ Q (.str d.shown) H
theorem u_repr (hG : X.A.guards = some []) (hu : X.A.units + 64 < cLine) : CallR X (.builtin "repr") (rReprD X.K) := by
  intro pins s σ H xs us Q I r h
  obtain ⟨v, d, rfl, ⟨a, rfl⟩, hd, h1, h2, h3, h4, q⟩ := h
  obtain ⟨u1, rfl, ru⟩ := vals1 r
  obtain ⟨as, rd⟩ := Dp.reads I d _ _ hd ru
  cases ru
  refine repr_of_reads' rd h1 (fun z => by rw [h2] at z; cases z) hG (by omega) (fun b o e => e) (fun h' u tk k => ?_) h4
  exact ⟨.str d.shown, H, I.kept (t' := tk) k, ⟨u, rfl⟩, q⟩
end

section
/-- the script alone may be tracked at the law's entry -/
theorem law_callG {P : Program} {w : World} {K : PySem.W.Frag} {mg mb : Str → Option Value} {CX : CXT} {k : Nat} {fa a : Addr} {fd : FuncData} {x : Str} {sp : Sp} {s1 : Shared} {vs : List Value} {ns : List Int}
    (KX : K.In s1.heap) (hns : s1.heap.Ns mainGlobals mg) (hb : s1.heap.Ns builtinsNs mb) (hbb : ∀ y : Str, y ≠ "__name__" → mb y = bootBuiltins y) (hlim : s1.heap.NoLimit) (hg : s1.gens = #[])
    (ha : s1.heap.get? a = some { cls := .type "list", data := .seq vs.toArray }) (hi : IntsAre vs ns) (hl : ns.length ≤ sizeLine) (hr : Room k callerA)
    (F : ∀ base : Heap, K.In base → base.Ns mainGlobals mg → OkG P w K mg base CX k fa fd [x] sp) (hbind : ∀ (s : Shared) (u : Value), BindsTo s fd ⟨[u], []⟩ [(x, u)])
    (hsp : ∀ H : Hp, Only H → SqL K H a (ns.map V.int) → sp [.ref a] H (fun v _ => v = .bl true) fun _ _ _ => False)
    (hCX : ∀ H e s', CX [] H s1 (fun _ _ _ => False) e s' → False) :
    codeAny (model P w) callerA (.call (.ref fa) ⟨[.ref a], []⟩) (fun r s' => r = .ok (.ret (.bool true)) ∧ OldK s1.heap s'.heap ∧ s'.os = s1.os ∧ AllBare s'.gens) s1 := by
  have go : ∀ H : Hp, Only H → SqL K H a (ns.map V.int) → HOk P w H s1.heap → (∀ b, H b ≠ none → b = a) → (H a ≠ none → K.lookup a = none) →
      codeAny (model P w) callerA (.call (.ref fa) ⟨[.ref a], []⟩) (fun r s' => r = .ok (.ret (.bool true)) ∧ OldK s1.heap s'.heap ∧ s'.os = s1.os ∧ AllBare s'.gens) s1 := by
    intro H hO hS ok hA hK
    have free : ∀ {b : Addr} {o : Obj}, s1.heap.get? b = some o → (∀ zs n, o.data ≠ .seq zs n) ∨ K.lookup b ≠ none → H b = none := by
      intro b o e d
      cases z : H b with
      | none => rfl
      | some u =>
        have eb : b = a := hA b (by rw [z]; simp)
        subst eb
        rcases d with d | d
        · rw [ha] at e; cases e
          exact absurd rfl (d _ _)
        · exact absurd (hK (by rw [z]; simp)) d
    have nsK : ∀ {b : Addr} {m : Str → Option Value}, s1.heap.Ns b m → (hidT s1.heap H).Ns b m := by
      rintro b m ⟨o, es, ep, e, d, r⟩
      exact ⟨o, es, ep, hidT_get e (free e (.inl fun zs n z => by rw [d] at z; cases z)), d, r⟩
    have kb : K.In (hidT s1.heap H) := fun b o e => hidT_get (KX b o e) (free (KX b o e) (.inr (by rw [e]; simp)))
    have md : Mod K mg (hidT s1.heap H) := ⟨kb, nsK hns, ⟨mb, nsK hb, hbb⟩, let ⟨mc, h1, h2⟩ := hlim; ⟨mc, nsK h1, h2⟩⟩
    have nomem : ∀ b : Addr, b ∉ ([] : List Addr) := fun b z => by cases z
    have e0 : Env0 P w K mg (hidT s1.heap H) callerA [] s1 H := ⟨rfl, md, fun b o e => of_hidT e, Nat.le_of_eq (hidT_size _ _), trivial, fun b z => absurd z (nomem b), ok, .of_eq hg⟩
    refine codeAny_mono ((F _ kb (nsK hns)).2 callerA rfl [] s1 H ⟨[.ref a], []⟩ [.ref a] [.ref a] _ _ hr e0 (hbind s1 (.ref a)) (.cons rfl .nil) (hsp H hO hS)) fun z s' h => ?_
    cases z with
    | error e => exact (hCX H e s' h).elim
    | ok fl => cases fl with
      | next => exact h.elim
      | brk => exact h.elim
      | cont => exact h.elim
      | ret u =>
        obtain ⟨v, H', os, bare, un, ok', r', q⟩ := h
        have q' : v = .bl true := q
        subst q'
        obtain rfl : u = Value.bool true := r'
        refine ⟨rfl, OldK.of_keep fun b o e => ?_, os, bare⟩
        rcases hO b with z | ⟨ob, xs, z⟩
        · exact un.keep b o e z (nomem b) (nomem b)
        · have e1 := (ok b _ z).1
          have e2 := (ok' b _ (un.frzs b ob _ z)).1
          rw [e] at e1; cases e1
          exact e2
  have lv := hi.length
  have rv := vals_ints hi
  cases hk : K.lookup a with
  | some o =>
    have e := KX a o hk
    rw [ha] at e
    cases e
    refine go (fun _ => none) (fun _ => .inl rfl) (.inr ⟨_, vs.toArray, _, hk, rfl, rfl, rfl, by rw [List.size_toArray, lv]; exact hl, by simpa using rv⟩) (fun b u z => nomatch (show (none : Option HO) = some u from z)) (fun b z => absurd rfl z) fun z => absurd rfl z
  | none =>
    let F0 : HO := .frz { cls := .type "list", data := .seq vs.toArray } (.lst (ns.map V.int))
    have ate : (upd (fun _ => none) a F0) a = some F0 := upd_same
    have off : ∀ b, b ≠ a → (upd (fun _ => none) a F0) b = none := fun b hb => upd_ne hb
    refine go (upd (fun _ => none) a F0) (fun b => ?_) (.inl (.inr ⟨_, ate⟩)) (fun b u z => ?_) (fun b z => ?_) fun _ => hk
    · by_cases hb' : b = a
      · rw [hb', ate]; exact .inr ⟨_, _, rfl⟩
      · exact .inl (off b hb')
    · by_cases hb' : b = a
      · subst hb'
        rw [ate] at z; cases z
        exact ⟨ha, by rw [List.length_map]; exact hl, vs, _, rv, ha⟩
      · rw [off b hb'] at z; cases z
    · by_cases hb' : b = a
      · exact hb'
      · exact absurd (off b hb') z
theorem walk_ofG {l : PySem.W.OpenLaw} {n k : Nat} {q : Program} {loose : List Str} {XP : (Str → Option Value) → Heap → Prop} {YP : World → Heap → Prop} {d : DefRec} {K : Params → PySem.W.Frag} {CX : CXT} {sp : PySem.W.Frag → Sp} {x : Str}
    (hn : l.most = some n) (hn2 : n ≤ sizeLine) (hdf : d.params.defaults = []) (hr : Room k callerA)
    (hY : ∀ (w : World) (h : Heap), YP w h → (K w.params).In h)
    (F : ∀ (w : World) (mg : Str → Option Value) (fa : Addr) (h : Heap), (K w.params).In h → h.Ns mainGlobals mg → mg d.name = some (.ref fa) →
      ∃ fd : FuncData, (∀ (s : Shared) (u : Value), BindsTo s fd ⟨[u], []⟩ [(x, u)]) ∧
        ∀ base : Heap, (K w.params).In base → base.Ns mainGlobals mg → OkG l.prog w (K w.params) mg base CX k fa fd [x] (sp (K w.params)))
    (hsp : ∀ (K : PySem.W.Frag) (H : Hp) (a : Addr) (ns : List Int), ns.length ≤ n → Only H → SqL K H a (ns.map V.int) → sp K [.ref a] H (fun v _ => v = .bl true) fun _ _ _ => False)
    (hCX : ∀ (H : Hp) (s : Shared) (e : Value) (s' : Shared), CX [] H s (fun _ _ _ => False) e s' → False) :
    PySem.W.WalkO q loose XP YP l.row.toRowW d [] (fun f vs => PySem.call f vs) := by
  refine Att.attach_call hn hdf fun w s0 s1 mg mb fa o pm cd doc a vs ns G Y ho hd hcd hmg hobj hints hlen hg => ?_
  have KX := hY w _ Y
  obtain ⟨fd, hb, hF⟩ := F w mg fa _ KX G.T.g hmg
  exact law_callG KX G.T.g G.T.b G.T.builtins G.T.nolimit hg hobj hints (Nat.le_trans hlen hn2) hr hF hb (fun H hO hS => hsp (K w.params) H a ns hlen hO hS) fun H e s' => hCX H s1 e s'
end
end FL

/-! own layer: data through changes of the heap -/
namespace FL
open PySem PySem.Spec PyProof.Rows L2
section
variable {K : PySem.W.Frag} {H H' H1 : Hp}
theorem same_t {a : Addr} {xs : List V} (e : Same H H') (h : SqT K H a xs) : SqT K H' a xs := by
  rcases h with (h | ⟨o, h⟩) | h
  · exact .inl (.inl (e _ _ h))
  · exact .inl (.inr ⟨o, e _ _ h⟩)
  · exact .inr h
theorem same_new {p : Addr} {o : HO} (h : H p = none) : Same H (upd H p o) := fun a u e => by
  rw [upd_ne (ne_of_none e h)]; exact e
theorem dp_same (e : Same H H') {d : PyData} {v : V} (h : Dp K H v d) : Dp K H' v d :=
  Dp.rec (motive_1 := fun v d _ => Dp K H' v d) (motive_2 := fun vs ds _ => DpAll K H' vs ds) .non (fun b => .bl b) (fun i => .int i) (fun x => .str x)
    (fun h _ a => .lst (e.seq h) a) (fun h _ a => .tup (same_t e h) a) .nil (fun _ _ a b => .cons a b) h
theorem dps_same (e : Same H H') {ds : List PyData} {vs : List V} (h : DpAll K H vs ds) : DpAll K H' vs ds :=
  DpAll.rec (motive_1 := fun v d _ => Dp K H' v d) (motive_2 := fun vs ds _ => DpAll K H' vs ds) .non (fun b => .bl b) (fun i => .int i) (fun x => .str x)
    (fun h _ a => .lst (e.seq h) a) (fun h _ a => .tup (same_t e h) a) .nil (fun _ _ a b => .cons a b) h
/-- tuples and what is locked are kept -/
def TK (H H' : Hp) : Prop := (∀ b xs, H b = some (.tup xs) → H' b = some (.tup xs)) ∧ ∀ b o u, H b = some (.frz o u) → H' b = some (.frz o u)
theorem TK.refl (H : Hp) : TK H H := ⟨fun _ _ h => h, fun _ _ _ h => h⟩
theorem TK.trans (a : TK H H1) (b : TK H1 H') : TK H H' := ⟨fun c xs h => b.1 c xs (a.1 c xs h), fun c o u h => b.2 c o u (a.2 c o u h)⟩
theorem TK.of (e : Same H H') : TK H H' := ⟨fun _ _ h => e _ _ h, fun _ _ _ h => e _ _ h⟩
theorem TK.t {a : Addr} {xs : List V} (e : TK H H') (h : SqT K H a xs) : SqT K H' a xs := by
  rcases h with (h | ⟨o, h⟩) | h
  · exact .inl (.inl (e.1 _ _ h))
  · exact .inl (.inr ⟨o, e.2 _ _ _ h⟩)
  · exact .inr h
mutual
def noL : PyData → Bool
  | .list _ => false
  | .dict _ => false
  | .tuple ds => noLs ds
  | _ => true
def noLs : List PyData → Bool
  | [] => true
  | d :: ds => noL d && noLs ds
end
theorem noL_tup {ds : List PyData} (h : noL (.tuple ds) = true) : noLs ds = true := by unfold noL at h; exact h
theorem noLs_cons {d : PyData} {ds : List PyData} (h : noLs (d :: ds) = true) : noL d = true ∧ noLs ds = true := by
  rw [noLs] at h; exact Bool.and_eq_true_iff.mp h
theorem noL_lst {ds : List PyData} (h : noL (.list ds) = true) : False := by unfold noL at h; cases h
theorem dp_tk (e : TK H H') {d : PyData} {v : V} (h : Dp K H v d) : noL d = true → Dp K H' v d :=
  Dp.rec (motive_1 := fun v d _ => noL d = true → Dp K H' v d) (motive_2 := fun vs ds _ => noLs ds = true → DpAll K H' vs ds) (fun _ => .non) (fun b _ => .bl b) (fun i _ => .int i) (fun x _ => .str x)
    (fun _ _ _ z => (noL_lst z).elim) (fun h _ a z => .tup (e.t h) (a (noL_tup z))) (fun _ => .nil) (fun _ _ a b z => .cons (a (noLs_cons z).1) (b (noLs_cons z).2)) h
theorem dps_tk (e : TK H H') {ds : List PyData} {vs : List V} (h : DpAll K H vs ds) : noLs ds = true → DpAll K H' vs ds :=
  DpAll.rec (motive_1 := fun v d _ => noL d = true → Dp K H' v d) (motive_2 := fun vs ds _ => noLs ds = true → DpAll K H' vs ds) (fun _ => .non) (fun b _ => .bl b) (fun i _ => .int i) (fun x _ => .str x)
    (fun _ _ _ z => (noL_lst z).elim) (fun h _ a z => .tup (e.t h) (a (noL_tup z))) (fun _ => .nil) (fun _ _ a b z => .cons (a (noLs_cons z).1) (b (noLs_cons z).2)) h
/-- all but what stands at a is kept -/
def Fr (a : Addr) (H H' : Hp) : Prop := ∀ b o, b ≠ a → H b = some o → H' b = some o
theorem Fr.refl (a : Addr) (H : Hp) : Fr a H H := fun _ _ _ h => h
theorem Fr.trans {a : Addr} (x : Fr a H H1) (y : Fr a H1 H') : Fr a H H' := fun b o n h => y b o n (x b o n h)
theorem Fr.upd {a : Addr} {o : HO} (x : Fr a H H') : Fr a H (upd H' a o) := fun b u n h => by rw [upd_ne n]; exact x b u n h
theorem Fr.new {a p : Addr} {o : HO} (x : Fr a H H') (h : H' p = none) : Fr a H (L2.upd H' p o) := fun b u n e => by
  rw [upd_ne (ne_of_none (x b u n e) h)]; exact x b u n e
theorem Fr.of {a : Addr} (e : Same H H') : Fr a H H' := fun b o _ h => e b o h
theorem Fr.same {a : Addr} (x : Fr a H H') (n : H a = none) : Same H H' := fun b o h => x b o (fun z => by rw [z, n] at h; cases h) h
theorem Fr.tk {a : Addr} {xs : List V} (x : Fr a H H') (h : H a = some (.lst xs)) : TK H H' :=
  ⟨fun b ys e => x b _ (ne_of e h (by intro z; cases z)) e, fun b o u e => x b _ (ne_of e h (by intro z; cases z)) e⟩
theorem Fr.none {a p : Addr} (x : Fr a H H') (n : p ≠ a) (h : H' p = none) : H p = none := by
  cases z : H p with
  | none => rfl
  | some o => rw [x p o n z] at h; cases h
theorem dps_app {vs ws : List V} {ds es : List PyData} (h : DpAll K H vs ds) (h' : DpAll K H ws es) : DpAll K H (vs ++ ws) (ds ++ es) := by
  induction vs generalizing ds with
  | nil => cases h; exact h'
  | cons v vs ih => cases h with | cons a b => exact .cons a (ih b)
theorem dps_len {vs : List V} : ∀ {ds : List PyData}, DpAll K H vs ds → vs.length = ds.length := by
  induction vs with
  | nil => intro ds h; cases h; rfl
  | cons v vs ih => intro ds h; cases h with | cons a b => simp [ih b]
theorem dps_get {vs : List V} : ∀ {ds : List PyData} {i : Nat} {v : V}, DpAll K H vs ds → vs[i]? = some v → ∃ d, ds[i]? = some d ∧ Dp K H v d := by
  induction vs with
  | nil => intro ds i v h e; simp at e
  | cons w vs ih =>
    intro ds i v h e
    cases h with
    | cons a b =>
      cases i with
      | zero => simp at e; subst e; exact ⟨_, rfl, a⟩
      | succ i => simpa using ih b (by simpa using e)
/-! kinds of data read back -/
theorem dp_int {v : V} {i : Int} (h : Dp K H v (.int i)) : v = .int i := by cases h; rfl
theorem dp_str {v : V} {x : Str} (h : Dp K H v (.str x)) : v = .str x := by cases h; rfl
theorem dp_tup {v : V} {ds : List PyData} (h : Dp K H v (.tuple ds)) : ∃ a vs, v = .ref a ∧ SqT K H a vs ∧ DpAll K H vs ds := by cases h with | tup h a => exact ⟨_, _, rfl, h, a⟩
theorem dp_lst {v : V} {ds : List PyData} (h : Dp K H v (.list ds)) : ∃ a vs, v = .ref a ∧ SqL K H a vs ∧ DpAll K H vs ds := by cases h with | lst h a => exact ⟨_, _, rfl, h, a⟩
theorem dps_cons {vs : List V} {d : PyData} {ds : List PyData} (h : DpAll K H vs (d :: ds)) : ∃ v ws, vs = v :: ws ∧ Dp K H v d ∧ DpAll K H ws ds := by cases h with | cons a b => exact ⟨_, _, rfl, a, b⟩
theorem dps_nil {vs : List V} (h : DpAll K H vs []) : vs = [] := by cases h; rfl
end
end FL
namespace FL
open PySem PySem.Spec PyProof.Rows L2
section
variable {K : PySem.W.Frag} {σ : L2.St} {H : Hp} {Q : VK} {tl te : TE} {j : Nat} {vs : List Nat} {a : Addr} {xs : List V}
theorem get_app {α : Type} {l : List α} {x y : α} {i : Nat} (h : (l ++ [x])[i]? = some y) : (l[i]? = some y) ∨ (i = l.length ∧ y = x) := by
  by_cases c : i < l.length
  · rw [List.getElem?_append_left c] at h; exact .inl h
  · rw [List.getElem?_append_right (by omega)] at h
    have : i - l.length = 0 := by
      cases z : i - l.length with
      | zero => rfl
      | succ n => rw [z] at h; simp at h
    rw [this] at h
    exact .inr ⟨by omega, by simpa using h.symm⟩
/-- a comprehension over a list that stands still; nothing that stood is changed -/
theorem lcb_P (R : Nat → V → Hp → Prop) (hw : ∀ x, wipe ((wipe σ vs).set j (some x)) vs = wipe σ vs) (hx : SqL K H a xs) (hz : xs.length ≤ 1000000)
    (mono : ∀ i y H1 H2, TK H1 H2 → R i y H1 → R i y H2)
    (turn : ∀ i x H1 (T : VK), xs[i]? = some x → Same H H1 → (∀ y H2, Same H1 H2 → R i y H2 → T y H2) → te ((wipe σ vs).set j (some x)) H1 T)
    (k : ∀ p ys H1, H p = none → Same H H1 → H1 p = some (.lst ys) → ys.length = xs.length → (∀ i y, ys[i]? = some y → R i y H1) → Q (.ref p) H1) :
    LcB (Itl K a) (gName j) tYes te vs σ Q H := by
  intro D hD
  refine lc_list (xs := xs) (fun i H' => Same H H' ∧ ∃ ys, H' D = some (.lst ys) ∧ ys.length = i ∧ ∀ m y, ys[m]? = some y → R m y H') ⟨same_new hD, [], upd_same, rfl, fun m y z => by simp at z⟩ (fun i H' _ p => p.1.seq hx) (fun i x H' hi p => ?_) (fun H' p => ?_)
  · obtain ⟨e1, ys, h1, h2, h3⟩ := p
    have hi' := (List.getElem?_eq_some_iff.mp hi).1
    refine ⟨hw x, ?_⟩
    show te ((wipe σ vs).set j (some x)) H' fun y H4 => _
    refine turn i x H' _ hi e1 fun y H2 e2 hy => ⟨ys, e2 _ _ h1, Nat.lt_of_le_of_lt (show ys.length ≤ 1000000 by omega) (by decide), ?_⟩
    have tk : TK H2 (upd H2 D (.lst (ys ++ [y]))) := (Fr.refl D H2).upd.tk (e2 _ _ h1)
    refine ⟨fun b o e => ?_, _, upd_same, by simp [h2], fun m z hm => ?_⟩
    · rw [upd_ne (ne_of_none e hD)]; exact e2 _ _ (e1 _ _ e)
    · rcases get_app hm with hm | ⟨rfl, rfl⟩
      · exact mono _ _ _ _ ((TK.of e2).trans tk) (h3 m z hm)
      · rw [h2]; exact mono _ _ _ _ tk hy
  · obtain ⟨e1, ys, h1, h2, h3⟩ := p
    exact k D ys H' hD e1 h1 h2 h3
/-- a comprehension over range(n) that changes one list at d (not the comprehension's own) -/
theorem lcb_R {n : Nat} {d : Addr} (R : Nat → V → Hp → Prop) (S : Nat → Hp → Prop) (hw : ∀ x, wipe ((wipe σ vs).set j (some x)) vs = wipe σ vs) (hz : n ≤ 1000000)
    (hd : H d ≠ none) (s0 : S 0 H) (sk : ∀ i H1 H2, S i H1 → (H1 d = H2 d) → S i H2)
    (mono : ∀ i y H1 H2, TK H1 H2 → R i y H1 → R i y H2)
    (turn : ∀ i H1 (T : VK), i < n → Fr d H H1 → S i H1 → (∀ y H2, Fr d H1 H2 → TK H1 H2 → S (i + 1) H2 → R i y H2 → T y H2) → te ((wipe σ vs).set j (some (.int (0 + (i : Int))))) H1 T)
    (k : ∀ p ys H1, H p = none → Fr d H H1 → H1 p = some (.lst ys) → ys.length = n → (∀ i y, ys[i]? = some y → R i y H1) → S n H1 → Q (.ref p) H1) :
    LcB (Itr 0 n) (gName j) tYes te vs σ Q H := by
  intro D hD
  have nD : d ≠ D := fun z => hd (by rw [z]; exact hD)
  refine lc_range (lo := 0) (n := n) (fun i H' => Fr d H H' ∧ S i H' ∧ ∃ ys, H' D = some (.lst ys) ∧ ys.length = i ∧ ∀ m y, ys[m]? = some y → R m y H')
    ⟨fun b o _ e => same_new hD b o e, sk _ _ _ s0 (by rw [upd_ne nD]), [], upd_same, rfl, fun m y z => by simp at z⟩ (fun i H' hi p => ?_) (fun H' p => ?_)
  · obtain ⟨e1, s1, ys, h1, h2, h3⟩ := p
    refine ⟨hw _, ?_⟩
    show te ((wipe σ vs).set j (some (.int (0 + (i : Int))))) H' fun y H4 => _
    refine turn i H' _ hi e1 s1 fun y H2 e2 t2 s2 hy => ⟨ys, e2 D _ (Ne.symm nD) h1, Nat.lt_of_le_of_lt (show ys.length ≤ 1000000 by omega) (by decide), ?_⟩
    have hD2 := e2 D _ (Ne.symm nD) h1
    have tk : TK H2 (upd H2 D (.lst (ys ++ [y]))) := (Fr.refl D H2).upd.tk hD2
    refine ⟨fun b o nb e => ?_, sk _ _ _ s2 (by rw [upd_ne nD]), _, upd_same, by simp [h2], fun m z hm => ?_⟩
    · rw [upd_ne (ne_of_none e hD)]; exact e2 _ _ nb (e1 _ _ nb e)
    · rcases get_app hm with hm | ⟨rfl, rfl⟩
      · exact mono _ _ _ _ (t2.trans tk) (h3 m z hm)
      · rw [h2]; exact mono _ _ _ _ tk hy
  · obtain ⟨e1, s1, ys, h1, h2, h3⟩ := p
    exact k D ys H' hD e1 h1 h2 h3 s1
end
section
variable {K : PySem.W.Frag} {g : TG} {tb : TS} {D : Ends} {σ : L2.St} {H : Hp}
theorem frb_S {x : Str} (Pv : Nat → L2.St → Hp → Prop) (h0 : Pv 0 σ H)
    (hs : ∀ (i : Nat) c σ H, (TL.tl x)[i]? = some c → Pv i σ H → g (.str ⟨#[c]⟩) σ H fun σ2 H2 => tb { D with nx := Pv (i + 1), ct := Pv (i + 1), bk := D.nx } σ2 H2) (hd : ∀ σ H, Pv (TL.tl x).length σ H → D.nx σ H) : FrB (Its x) g tb D σ H := by
  have el : (TL.tl x).length = x.cps.size := by simp [TL.tl]
  refine ⟨fun i m σ H => m = x.cps.size - i ∧ i ≤ x.cps.size ∧ Pv i σ H, ⟨x.cps.size, by simp, Nat.zero_le _, h0⟩, ?_⟩
  rintro i m σ H ⟨rfl, hi, p⟩
  by_cases hlt : i < x.cps.size
  · refine .inr ⟨hlt, Pv (i + 1), fun σ' H' p' => ⟨x.cps.size - (i + 1), by omega, rfl, hlt, p'⟩, fun y H' q => ?_⟩
    obtain ⟨e, c, hc, e2⟩ := q
    subst e e2
    exact hs i c σ _ (by simpa [TL.tl] using hc) p
  · have e : i = x.cps.size := by omega
    subst e
    exact .inl ⟨Nat.le_refl _, hd σ H (by rw [el]; exact p)⟩
theorem frb_L {a : Addr} {xs : List V} (Pv : Nat → L2.St → Hp → Prop) (h0 : Pv 0 σ H) (hl : ∀ i σ H, i ≤ xs.length → Pv i σ H → SqL K H a xs)
    (hs : ∀ (i : Nat) x σ H, xs[i]? = some x → Pv i σ H → g x σ H fun σ2 H2 => tb { D with nx := Pv (i + 1), ct := Pv (i + 1), bk := D.nx } σ2 H2) (hd : ∀ σ H, Pv xs.length σ H → D.nx σ H) : FrB (Itl K a) g tb D σ H := for_list Pv h0 hl hs hd
theorem frb_T {a : Addr} {xs : List V} (Pv : Nat → L2.St → Hp → Prop) (h0 : Pv 0 σ H) (hl : ∀ i σ H, i ≤ xs.length → Pv i σ H → SqT K H a xs)
    (hs : ∀ (i : Nat) x σ H, xs[i]? = some x → Pv i σ H → g x σ H fun σ2 H2 => tb { D with nx := Pv (i + 1), ct := Pv (i + 1), bk := D.nx } σ2 H2) (hd : ∀ σ H, Pv xs.length σ H → D.nx σ H) : FrB (Itt K a) g tb D σ H := for_tup Pv h0 hl hs hd
theorem frb_R {n : Nat} (Pv : Nat → L2.St → Hp → Prop) (h0 : Pv 0 σ H)
    (hs : ∀ (i : Nat) σ H, i < n → Pv i σ H → g (.int (i : Int)) σ H fun σ2 H2 => tb { D with nx := Pv (i + 1), ct := Pv (i + 1), bk := D.nx } σ2 H2) (hd : ∀ σ H, Pv n σ H → D.nx σ H) : FrB (Itr 0 n) g tb D σ H := by
  refine for_range (lo := 0) (n := n) Pv h0 (fun i σ H hi p => ?_) hd
  rw [Int.zero_add]
  exact hs i σ H hi p
end
/-! ### slices of texts -/
theorem cut_from {x : Str} {n : Nat} : TL.tl (cutS x (some (n : Int)) none) = (TL.tl x).drop n := by
  show ((x.cps.toList.drop (HT.sIx x.length 0 (some (n : Int)))).take (HT.sIx x.length x.length none - HT.sIx x.length 0 (some (n : Int)))) = _
  have hl : x.cps.toList.length = x.length := by simp [Str.length]
  rw [HT.sIx_nat, HT.sIx_none]
  show _ = x.cps.toList.drop n
  by_cases h : n ≤ x.length
  · rw [Nat.min_eq_left h, List.take_of_length_le (by rw [List.length_drop]; omega)]
  · rw [Nat.min_eq_right (by omega), List.drop_of_length_le (by omega), List.drop_of_length_le (by omega)]
    simp
theorem cut_to {x : Str} {n : Nat} : TL.tl (cutS x none (some (n : Int))) = (TL.tl x).take n := by
  show ((x.cps.toList.drop (HT.sIx x.length 0 none)).take (HT.sIx x.length x.length (some (n : Int)) - HT.sIx x.length 0 none)) = _
  have hl : x.cps.toList.length = x.length := by simp [Str.length]
  rw [HT.sIx_nat, HT.sIx_none]
  show _ = x.cps.toList.take n
  rw [List.drop_zero, Nat.sub_zero]
  by_cases h : n ≤ x.length
  · rw [Nat.min_eq_left h]
  · rw [Nat.min_eq_right (by omega), List.take_of_length_le (by omega), List.take_of_length_le (by omega)]
section
variable {K : PySem.W.Frag} {g : TG} {tb : TS} {D : Ends} {σ : L2.St} {H H' H1 : Hp} {te : TE} {Q : VK}
theorem same_fr {a : Addr} (e : Same H H1) (f : Fr a H1 H') (n : H a = none) : Same H H' := fun b o h => f b o (fun z => by rw [z, n] at h; cases h) (e b o h)
theorem w_isiS {a : Str} (h : Q (.bl true) H) : rIsiU K [.str a, .ty "str"] H Q := .inl ⟨.str a, .ty "str", .type "str", .type "str", true, rfl, .ty _, .base (.str _), kit_ty (by decide +kernel), h⟩
/-- what stands but for p -/
def del (H : Hp) (p : Addr) : Hp := fun b => if b = p then none else H b
theorem del_ne {a p : Addr} (h : a ≠ p) : del H p a = H a := if_neg h
theorem del_self {p : Addr} : del H p p = none := if_pos rfl
theorem del_same {p : Addr} : Same (del H p) H := fun b o h => by
  unfold del at h
  split at h
  · cases h
  · exact h
theorem del_fr {p : Addr} (f : Fr p H H') : Same (del H p) (del H' p) := fun b o h => by
  by_cases z : b = p
  · rw [z, del_self] at h; cases h
  · rw [del_ne z] at h ⊢; exact f b o z h
theorem del_tk {p : Addr} {xs : List V} (h : H p = some (.lst xs)) : TK H (del H p) :=
  ⟨fun b ys e => by rw [del_ne (ne_of e h (by intro z; cases z))]; exact e, fun b o u e => by rw [del_ne (ne_of e h (by intro z; cases z))]; exact e⟩
/-- a comprehension whose test lets nothing through -/
theorem lcb_Z {tt : TT} {j : Nat} {vs : List Nat} {xs : List V} {a : Addr} (hw : ∀ x, wipe ((wipe σ vs).set j (some x)) vs = wipe σ vs) (hx : SqL K H a xs)
    (turn : ∀ (i : Nat) x H1 (T : Bool → Hp → Prop), xs[i]? = some x → T false H1 → tt ((wipe σ vs).set j (some x)) H1 T)
    (k : ∀ p, H p = none → Q (.ref p) (upd H p (.lst []))) : LcB (Itl K a) (gName j) tt te vs σ Q H := by
  intro D hD
  refine lc_list (xs := xs) (fun i H' => H' = upd H D (.lst [])) rfl (fun i H' _ p => by rw [p]; exact (same_new hD).seq hx) (fun i x H' hi p => ?_) (fun H' p => by rw [p]; exact k D hD)
  refine ⟨hw x, turn i x H' _ hi ?_⟩
  show (if false = true then _ else _)
  rw [if_neg Bool.false_ne_true]
  exact p
end
end FL

/-! own layer: how long a datum's written form is at most -/
namespace FL
open PySem PySem.Spec PyProof.Rows L2 TL
structure Sm (k n : Nat) (d : PyData) : Prop where
  lay : d.canLay0 = true
  shw : d.showable = true
  nd : d.hasDict = false
  dep : d.depth ≤ k
  len : d.shown.length ≤ n
theorem Sm.mono {k n k' n' : Nat} {d : PyData} (h : Sm k n d) (hk : k ≤ k') (hn : n ≤ n') : Sm k' n' d := ⟨h.lay, h.shw, h.nd, Nat.le_trans h.dep hk, Nat.le_trans h.len hn⟩
theorem Sm.shaped {k n : Nat} {d : PyData} (h : Sm k n d) (hk : k ≤ 64) : SeqAt.shaped d = true := by
  unfold SeqAt.shaped
  rw [h.lay, decide_eq_true (Nat.le_trans h.dep hk)]; rfl
theorem Sm.self {k n : Nat} {d : PyData} (h : Sm k n d) : PyData.eqv d d = true := SeqAt.eqv_refl d h.lay
theorem sm_str {x : Str} {n : Nat} (h : ∀ c ∈ tl x, c < 1114112) (hn : x.length ≤ n) : Sm 0 (10 * n + 2) (.str x) := by
  refine ⟨?_, by simp [PyData.showable], by simp [PyData.hasDict], by simp [PyData.depth], ?_⟩
  · simp only [PyData.canLay0, PyData.strOk]
    rw [Array.all_eq_true']
    intro c hc
    exact decide_eq_true (h c (by simpa [tl] using hc))
  · simp only [PyData.shown]
    exact Nat.le_trans (StrLaws.reprText_len x fun c hc => Nat.lt_of_lt_of_le (h c hc) (by decide)) (by omega)
theorem sm_int {p : Nat} (h : p < 1000000) : Sm 0 6 (.int (p : Int)) := by
  refine ⟨by simp [PyData.canLay0], ?_, by simp [PyData.hasDict], by simp [PyData.depth], ?_⟩
  · simp only [PyData.showable]
    exact decide_eq_true (w_fmtN (A := True) (B := True) h trivial).1
  · simp only [PyData.shown]
    rw [len_tl]
    have e := tl_num p
    rw [show tl (toString (p : Int)) = numL p from e]
    exact numL_len (by decide) (by simpa using h)
theorem sm_none : Sm 0 4 .none := ⟨by simp [PyData.canLay0], by simp [PyData.showable], by simp [PyData.hasDict], by simp [PyData.depth], by simp only [PyData.shown]; decide⟩
section
variable {k n : Nat} {ds : List PyData}
theorem sm_all (h : ∀ d ∈ ds, Sm k n d) : PyData.canLayAll0 ds = true ∧ PyData.showableAll ds = true ∧ PyData.hasDictAll ds = false ∧ PyData.depthAll ds ≤ k ∧ piled (PyData.shownAll ds) ≤ ds.length * (n + 2) := by
  induction ds with
  | nil => exact ⟨by simp [PyData.canLayAll0], by simp [PyData.showableAll], by simp [PyData.hasDictAll], by simp [PyData.depthAll], by simp [PyData.shownAll, piled]⟩
  | cons d ds ih =>
    obtain ⟨h1, h2, h3, h4, h5⟩ := ih fun x hx => h x (List.mem_cons_of_mem _ hx)
    have hd := h d (List.mem_cons_self ..)
    refine ⟨?_, ?_, ?_, ?_, ?_⟩
    · rw [PyData.canLayAll0, hd.lay, h1]; rfl
    · rw [PyData.showableAll, hd.shw, h2]; rfl
    · rw [PyData.hasDictAll, hd.nd, h3]; rfl
    · rw [PyData.depthAll]; exact Nat.max_le.mpr ⟨hd.dep, h4⟩
    · rw [PyData.shownAll, piled_cons, List.length_cons, Nat.succ_mul]
      have := hd.len
      omega
theorem sm_tup (h : ∀ d ∈ ds, Sm k n d) : Sm (k + 1) (3 + ds.length * (n + 2)) (.tuple ds) := by
  obtain ⟨h1, h2, h3, h4, h5⟩ := sm_all h
  refine ⟨by rw [PyData.canLay0, h1], by rw [PyData.showable, h2], by rw [PyData.hasDict, h3], by rw [PyData.depth]; omega, ?_⟩
  rw [PyData.shown]
  unfold tupleText
  rw [strLen_append, strLen_append]
  have e1 : ((("(" : String) : Str)).length = 1 := rfl
  have e3 : (((if (PyData.shownAll ds).length == 1 then ",)" else ")" : String) : Str)).length ≤ 2 := by split <;> decide
  have e2 : (Str.join ", " (PyData.shownAll ds)).length ≤ piled (PyData.shownAll ds) := by
    by_cases z : PyData.shownAll ds = []
    · rw [z]; exact Nat.le_of_eq rfl
    · have := join_length_add _ z; omega
  rw [e1]; omega
theorem textFrom_most : ∀ (ts : List Str) (k : Nat) (acc : Str), (textFrom k acc ts).length ≤ acc.length + piled ts
  | [], k, acc => by show acc.length ≤ _; omega
  | t :: r, k, acc => by
    have ih := textFrom_most r (k + 1) (acc ++ (if k > 0 then ", " else "" : String) ++ t)
    show (textFrom (k + 1) (acc ++ (if k > 0 then ", " else "" : String) ++ t) r).length ≤ _
    rw [strLen_append, strLen_append] at ih
    have e : (((if k > 0 then ", " else "" : String) : Str)).length ≤ 2 := by split <;> decide
    rw [piled_cons]; omega
theorem sm_lst (h : ∀ d ∈ ds, Sm k n d) : Sm (k + 1) (3 + ds.length * (n + 2)) (.list ds) := by
  obtain ⟨h1, h2, h3, h4, h5⟩ := sm_all h
  refine ⟨by rw [PyData.canLay0, h1], by rw [PyData.showable, h2], by rw [PyData.hasDict, h3], by rw [PyData.depth]; omega, ?_⟩
  rw [PyData.shown]
  unfold listText
  rw [strLen_append]
  have e1 : ((("[" : String) : Str)).length = 1 := rfl
  have e2 : ((("]" : String) : Str)).length = 1 := rfl
  have := textFrom_most (PyData.shownAll ds) 0 "["
  rw [e1] at this
  rw [e2]; omega
end
/-- a call of repr -/
theorem w_repr {K : PySem.W.Frag} {H : Hp} {Q : VK} {a : Addr} {k n : Nat} {d : PyData} (h : Q (.str d.shown) H) (hd : Dp K H (.ref a) d) (s : Sm k n d) (hk : k ≤ 60) (hn : n ≤ 1000000) : rReprD K [.ref a] H Q :=
  ⟨.ref a, d, rfl, ⟨a, rfl⟩, hd, s.shw, s.nd, Nat.le_trans s.dep hk, Nat.le_trans s.len (Nat.le_trans hn (by decide)), h⟩
theorem w_eqSm {K : PySem.W.Frag} {H : Hp} {Q : VK} {x y : V} {k n : Nat} {d : PyData} (h : Q (.bl true) H) (hx : Dp K H x d) (hy : Dp K H y d) (s : Sm k n d) (hk : k ≤ 60) : rEqU K x y H Q :=
  w_eqD (by rw [s.self]; exact h) hx hy (s.shaped (by omega)) (s.shaped (by omega))
theorem w_neSm {K : PySem.W.Frag} {H : Hp} {Q : VK} {x y : V} {k n : Nat} {d : PyData} (h : Q (.bl false) H) (hx : Dp K H x d) (hy : Dp K H y d) (s : Sm k n d) (hk : k ≤ 60) : rNeU K x y H Q :=
  w_neD (by rw [s.self]; exact h) hx hy (s.shaped (by omega)) (s.shaped (by omega))
end FL

/-! own layer: instances of known classes, a written dict's get, steps backwards for them -/
namespace FL
open PySem PySem.Spec PyProof.Rows L2 CwR
/-- what stands in the top's names -/
def gloA (K : PySem.W.Frag) (n : Str) : Addr := match PySem.W.nsIn K mainGlobals n with
  | some (some (.ref a)) => a
  | _ => 0
theorem gloA_of {K : PySem.W.Frag} {n : Str} {a : Addr} (h : PySem.W.nsIn K mainGlobals n = some (some (.ref a))) : a = gloA K n := by
  unfold gloA; rw [h]
/-! ### fields -/
def tFldC (C : Addr) (ta : TE) (f : Str) : TE := fun σ H Q => ta σ H fun x H1 => ∃ a dx fs v, x = .ref a ∧ H1 a = some (.ins C dx fs) ∧ fs.lookup f = some v ∧ Q v H1
def sFldC (C : Addr) (ta tv : TE) (f : Str) : TS := fun D σ H => tv σ H fun y H1 => ta σ H1 fun x H2 => ∃ a dx fs, x = .ref a ∧ H2 a = some (.ins C dx fs) ∧ fs.length < 1000 ∧ D.nx σ (upd H2 a (.ins C dx (putF f y fs)))
def sFldAugC (C : Addr) (ta tv : TE) (rd : V → V → Hp → VK → Prop) (f : Str) : TS := fun D σ H => ta σ H fun x H1 => ∃ a dx fs v, x = .ref a ∧ H1 a = some (.ins C dx fs) ∧ fs.lookup f = some v ∧
  tv σ H1 fun y H2 => rd v y H2 fun z H3 => ∃ dx' fs', H3 a = some (.ins C dx' fs') ∧ fs'.length < 1000 ∧ D.nx σ (upd H3 a (.ins C dx' (putF f z fs')))
def gFldC (C : Addr) (ta : TE) (f : Str) : TG := fun y σ H Q => ta σ H fun x H2 => ∃ a dx fs, x = .ref a ∧ H2 a = some (.ins C dx fs) ∧ fs.length < 1000 ∧ Q σ (upd H2 a (.ins C dx (putF f y fs)))
section
variable {X : Cx} {C : Addr} {o e value : Expr} {f : Str} {pos pos' tpos : Pos} {ta tv : TE}
theorem pe_fldC (c : Cls X.K C) (n : NoAttr X.K C f) (he : PE X e ta) (hb : attributeBase e f X.env (eval e X.env) = eval e X.env := by rfl) : PE X (.Attribute e f pos) (tFldC C ta f) := by
  refine ⟨fun pins s σ H Q I h => ?_⟩
  refine attr_of hb (thn (he.run pins s σ H _ I h) fun u s1 ⟨x, H1, I1, rx, a, dx, fs, v, ex, ea, l, q⟩ => ?_)
  subst ex
  obtain rfl : u = Value.ref a := rx
  exact getattr_ok I1 ea c n l fun u' s2 I2 ru => ⟨v, H1, I2, ru, q⟩
theorem ps_fldC (c : Cls X.K C) (n : NoAttr X.K C f) (ha : PE X o ta) (hv : PE X value tv) (hs : swapsWith value (some (.Attribute o f pos')) pos.line X.env = pure false := by rfl) : PS X (.Assign [.Attribute o f pos'] value pos) (sFldC C ta tv f) := by
  refine ⟨fun pins s σ H D I h => ?_⟩
  refine plainObj_wpAny_Assign_Attribute (thn (hv.run pins s σ H _ I h) fun u s1 ⟨y, H1, I1, ry, q⟩ => thn (ha.run pins s1 σ H1 _ I1 q) fun ov s2 ⟨x, H2, I2, rx, a, dx, fs, ex, ea, l, q2⟩ => ?_) hs
  subst ex
  obtain rfl : ov = Value.ref a := rx
  exact setattr_ok I2 ea c n l ry fun s3 I3 => ⟨σ, _, I3, q2⟩
theorem ps_fldaugC {op : Operator} {rd : V → V → Hp → VK → Prop} (c : Cls X.K C) (n : NoAttr X.K C f) (ha : PE X o ta) (hv : PE X value tv) (hop : InOp X op rd) : PS X (.AugAssign (.Attribute o f tpos) op value pos) (sFldAugC C ta tv rd f) := by
  refine ⟨fun pins s σ H D I h => ?_⟩
  refine wpAny_AugAssign_AttributeAny (thn (ha.run pins s σ H _ I h) fun ov s1 ⟨x, H1, I1, rx, a, dx, fs, v, ex, ea, l, q⟩ => ?_)
  subst ex
  obtain rfl : ov = Value.ref a := rx
  refine getattr_ok I1 ea c n l fun u s2 I2 ru => thn (hv.run pins s2 σ H1 _ I2 q) fun w3 s3 ⟨y, H2, I3, ry, q3⟩ => thn (hop pins s3 σ H2 v y u w3 _ I3 ru ry q3) fun w4 s4 ⟨z, H3, I4, rz, dx', fs', ea', l', q4⟩ => ?_
  exact setattr_ok I4 ea' c n l' rz fun s5 I5 => ⟨σ, _, I5, q4⟩
end
/-! ### get of a dict of the top, texts to numbers -/
def KIs : List DictEntry → List (Str × Int) → Prop
  | [], [] => True
  | e :: r, p :: q => ((∃ t, e.key = .str p.1 t) ∧ ∃ t, e.val = .int p.2 t) ∧ KIs r q
  | _, _ => False
def KInts (K : PySem.W.Frag) (w : World) (a : Addr) (ps : List (Str × Int)) : Prop :=
  ∃ es n, K.lookup a = some ⟨.type "dict", none, .dict es n, #[]⟩ ∧ PySem.W.KeysLit w.params es.toList ∧ (a == sysModules) = false ∧ KIs es.toList ps
def kget : List (Str × Int) → Str → Option Int
  | [], _ => none
  | p :: q, z => if p.1 = z then some p.2 else kget q z
theorem kfind {z : Str} : ∀ {es : List DictEntry} {ps : List (Str × Int)}, KIs es ps → match kget ps z with
    | some i => ∃ t, (es.find? fun e => Value.isStrOf z e.key).map (·.val) = some (.int i t)
    | none => (es.find? fun e => Value.isStrOf z e.key).map (·.val) = none
  | [], [], _ => rfl
  | e :: r, p :: q, ⟨⟨⟨t, h1⟩, t2, h2⟩, h3⟩ => by
    have ih := kfind (z := z) h3
    have ek : Value.isStrOf z e.key = (p.1 == z) := by rw [h1]; rfl
    unfold kget
    by_cases c : p.1 = z
    · rw [if_pos c, List.find?_cons, ek, beq_iff_eq.mpr c]
      exact ⟨t2, by rw [Option.map_some, h2]⟩
    · rw [if_neg c, List.find?_cons, ek, beq_false_of_ne c]
      exact ih
  | [], _ :: _, h => h.elim
  | _ :: _, [], h => h.elim
def tKGet (ps : List (Str × Int)) (te tf : TE) : TE := fun σ H Q => te σ H fun y H2 => tf σ H2 fun z H3 => ∃ k, y = .str k ∧ Q (match kget ps k with | some i => .int i | none => z) H3
theorem pe_kget {X : Cx} {o e f : Expr} {apos cpos : Pos} {a : Addr} {ty tx : TE} {ps : List (Str × Int)} (D : KInts X.K X.w a ps) (ho : PE X o (tC (.ref a))) (he : PE X e ty) (hf : PE X f tx) (m : M2 X o "get" apos e f cpos) : PE X (.Call (.Attribute o "get" apos) [e, f] [] cpos) (tKGet ps ty tx) := by
  obtain ⟨es, n, hl, hk, hd, hi⟩ := D
  refine ⟨fun pins s σ H Q I h => ?_⟩
  refine wpAny_Call_method m.base m.few m.line PySem.F.plainAttrs_dict PySem.F.slot_dict_get PySem.F.type_dict_get (thn (ho.run pins s σ H (fun x H1 => x = .ref a ∧ H1 = H) I ⟨rfl, rfl⟩) fun u s1 ⟨x, H1, I1, rx, ex, eH⟩ => ?_)
  subst ex eH
  obtain rfl : u = Value.ref a := rx
  have hm1 := PySem.W.mapOf_K (prog := X.prog) (w := X.w) I1.kIn hl hk
  refine ⟨hm1.typeIs, fun b q => ?_, ?_⟩
  · cases q; exact ⟨_, I1.kIn _ _ hl, rfl⟩
  rw [m.trees]
  refine Calls.callWith_builtin rfl (Calls.evalArgs_plain (Calls.spliced_cons (thn (he.run pins s1 σ H1 _ I1 h) fun iv s2 ⟨y, H2, I2, ry, q2⟩ =>
    Calls.spliced_cons (thn (hf.run pins s2 σ H2 _ I2 q2) fun fv s3 ⟨z, H3, I3, rz, k, ek, q3⟩ => Calls.spliced_nil ?_))))
  subst ek
  obtain ⟨t, rfl⟩ := ry
  have hm := PySem.W.mapOf_K (prog := X.prog) (w := X.w) I3.kIn hl hk
  refine call_meetsIn PySem.F.slot_dict_get hm.typeIs PySem.F.entry_dict_get (PySem.F.args_dict_get_3 _ _ _) (meets_dict_get_default (strKind X.prog X.w) a (strKind_is X.prog X.w k t) hd fv) ⟨_, hm, ?_⟩
  have kf := kfind (z := k) hi
  obtain ⟨l⟩ := es
  have ef : findBy Value.isStrOf ⟨l⟩ k = (l.find? fun e => Value.isStrOf k e.key).map (·.val) := by
    unfold findBy; rw [List.find?_toArray]
  rw [ef]
  cases c : kget ps k with
  | some i =>
    rw [c] at kf q3
    obtain ⟨t3, e3⟩ := kf
    have e3' : (l.find? fun e => Value.isStrOf k e.key).map (·.val) = some (.int i t3) := e3
    rw [e3']
    exact ⟨.int i, H3, I3.tok _, ⟨_, rfl⟩, q3⟩
  | none =>
    rw [c] at kf q3
    have e3' : (l.find? fun e => Value.isStrOf k e.key).map (·.val) = none := kf
    rw [e3']
    exact ⟨z, H3, I3.tok _, rz, q3⟩
/-! ### walking a list or a tuple; list of a text -/
def iEither (K : PySem.W.Frag) (tl : TE) : TI := fun σ H R => tl σ H fun x H1 => ∃ a, x = .ref a ∧ (((∃ xs, SqL K H1 a xs) ∧ R (Itl K a) H1) ∨ ((∃ xs, SqT K H1 a xs) ∧ R (Itt K a) H1))
theorem pi_either {X : Cx} {tg l : Expr} {tl : TE} (hl : PE X l tl) : PI X tg l (iEither X.K tl) := by
  refine ⟨fun pins s σ H R I h => ?_⟩
  refine thn (hl.run pins s σ H _ I h) fun v s1 ⟨x, H1, I1, r1, q1⟩ => ?_
  obtain ⟨a, e, ⟨⟨xs, hq⟩, q⟩ | ⟨⟨xs, hq⟩, q⟩⟩ := q1
  · subst e
    cases r1
    obtain ⟨its, rv, p, hz⟩ := I1.list hq
    refine wpAny_pyIter_list p.isList ?_
    refine ⟨s1.heap.objs.size, [s1.heap.objs.size], _, _, H1, rfl, I1.kept (t' := s1.toks) fun b o e => Heap.get?_push_of_some _ e, turn_list a _, ⟨_, Heap.get?_push_size _ rfl, rfl, rfl⟩, fun b hb => ?_, q⟩
    have e : b = s1.heap.objs.size := by simpa using hb
    subst e
    exact I1.fpOk (Nat.le_refl _) (I1.hok.fresh (Nat.le_refl _))
  · subst e
    cases r1
    obtain ⟨its, rv, p, hz⟩ := I1.tuple hq
    refine wpAny_pyIter_tuple (show s1.heap.IsTuple a its.toArray from p) ?_
    refine ⟨s1.heap.objs.size, [s1.heap.objs.size], _, _, H1, rfl, I1.kept (t' := s1.toks) fun b o e => Heap.get?_push_of_some _ e, turn_tuple a _, ⟨_, Heap.get?_push_size _ rfl, rfl, rfl⟩, fun b hb => ?_, q⟩
    have e : b = s1.heap.objs.size := by simpa using hb
    subst e
    exact I1.fpOk (Nat.le_refl _) (I1.hok.fresh (Nat.le_refl _))
def rListS : List V → Hp → VK → Prop := fun xs H Q => ∃ z : Str, xs = [.str z] ∧ z.length ≤ sizeLine ∧ ∀ l, H l = none → Q (.ref l) (upd H l (.lst (z.cps.toList.map fun c => V.str ⟨#[c]⟩)))
def rListW (K : PySem.W.Frag) : List V → Hp → VK → Prop := fun xs H Q => rListU K xs H Q ∨ rListS xs H Q
theorem signs_vals (x : Str) : ∀ {acc : Array Value}, ItemsOf (SignAt x) acc x.cps.size → Vals (x.cps.toList.map fun c => V.str ⟨#[c]⟩) acc.toList := by
  intro acc h
  have go : ∀ (l : List Nat) (vs : List Value), vs.length = l.length → (∀ (j : Nat) v, vs[j]? = some v → ∃ (c : Nat) (u : Tok), l[j]? = some c ∧ v = Value.str ⟨#[c]⟩ u) → Vals (l.map fun c => V.str ⟨#[c]⟩) vs := by
    intro l
    induction l with
    | nil =>
      intro vs hl _
      cases vs with
      | nil => exact .nil
      | cons _ _ => simp at hl
    | cons c l ih =>
      intro vs hl hv
      cases vs with
      | nil => simp at hl
      | cons v vs =>
        obtain ⟨c', u, h1, h2⟩ := hv 0 v rfl
        have e1 : c = c' := Option.some.inj h1
        subst e1
        rw [List.map_cons]
        refine .cons ⟨u, h2⟩ (ih vs (by simpa using hl) fun j w hw => ?_)
        obtain ⟨c2, u2, h3, h4⟩ := hv (j + 1) w (by simpa using hw)
        exact ⟨c2, u2, by simpa using h3, h4⟩
  refine go _ _ (by rw [Array.length_toList, h.1, Array.length_toList]) fun j v hj => ?_
  obtain ⟨c, u, h1, h2⟩ := h.2 j v (by rw [← Array.getElem?_toList]; exact hj)
  exact ⟨c, u, by rw [Array.getElem?_toList]; exact h1, h2⟩
theorem call_listS {X : Cx} (hc : X.calm = true) : CallR X (.type "list") rListS := by
  intro pins s σ H xs us Q I r h
  obtain ⟨z, rfl, hz, q⟩ := h
  obtain ⟨u, rfl, t, rfl⟩ := vals1 r
  refine call_list_str (I.ok.hd hc) z t (fun h' tk acc c' hk hD hacc => ?_) hz
  exact ⟨.ref s.heap.objs.size, upd H s.heap.objs.size (.lst (z.cps.toList.map fun c => V.str ⟨#[c]⟩)), I.laid (t' := tk) hk (Nat.le_refl _)
    (show ObjOk X.prog X.w _ _ _ (.lst (z.cps.toList.map fun c => V.str ⟨#[c]⟩)) from ⟨by rw [List.length_map]; exact hz, acc.toList, c', signs_vals z hacc, by rw [Array.toArray_toList]; exact hD⟩), rfl, q _ (I.hok.fresh (Nat.le_refl _))⟩
theorem u_listW {X : Cx} (hc : X.calm = true) : CallR X (.type "list") (rListW X.K) := u_list.or (call_listS hc)
/-! ### steps backwards -/
section
variable {K : PySem.W.Frag} {σ : L2.St} {H : Hp} {Q : VK} {ta te tf : TE} {D : Ends} {C p dx : Addr} {fs fs' : List (Str × V)} {f : Str} {v x y : V} {t : TA} {i j : Int}
theorem w_fldC (h : ta σ H fun x H1 => ∃ a dx fs v, x = .ref a ∧ H1 a = some (.ins C dx fs) ∧ fs.lookup f = some v ∧ Q v H1) : tFldC C ta f σ H Q := h
theorem w_fldR {R : Addr → V → Prop} (hp : H p = some (.ins C dx fs)) (hl : fs.lookup f = some v) (k : R p v) : ∃ a dx fs v, V.ref p = V.ref a ∧ H a = some (.ins C dx fs) ∧ fs.lookup f = some v ∧ R a v := ⟨p, dx, fs, v, rfl, hp, hl, k⟩
theorem w_sfldC {tv : TE} (h : tv σ H fun y H1 => ta σ H1 fun x H2 => ∃ a dx fs, x = .ref a ∧ H2 a = some (.ins C dx fs) ∧ fs.length < 1000 ∧ D.nx σ (upd H2 a (.ins C dx (putF f y fs)))) : sFldC C ta tv f D σ H := h
theorem w_sfldR {R : Hp → Prop} (hp : H p = some (.ins C dx fs)) (hf : putF f y fs = fs' ∧ fs.length < 1000) (k : R (upd H p (.ins C dx fs'))) : ∃ a dx fs, V.ref p = .ref a ∧ H a = some (.ins C dx fs) ∧ fs.length < 1000 ∧ R (upd H a (.ins C dx (putF f y fs))) :=
  ⟨p, dx, fs, rfl, hp, hf.2, by rw [hf.1]; exact k⟩
theorem w_sfldR2 {R : Addr → Addr → List (Str × V) → Prop} (hp : H p = some (.ins C dx fs)) (hf : fs.length < 1000) (k : R p dx fs) : ∃ a dx fs, V.ref p = V.ref a ∧ H a = some (.ins C dx fs) ∧ fs.length < 1000 ∧ R a dx fs := ⟨p, dx, fs, rfl, hp, hf, k⟩
theorem w_sfldaugC {tv : TE} {rd : V → V → Hp → VK → Prop} (h : ta σ H fun x H1 => ∃ a dx fs v, x = .ref a ∧ H1 a = some (.ins C dx fs) ∧ fs.lookup f = some v ∧ tv σ H1 fun y H2 => rd v y H2 fun z H3 => ∃ dx' fs', H3 a = some (.ins C dx' fs') ∧ fs'.length < 1000 ∧ D.nx σ (upd H3 a (.ins C dx' (putF f z fs')))) : sFldAugC C ta tv rd f D σ H := h
theorem w_addR (h : Q (.int (i + j)) H) : L2.rAdd (.int i) (.int j) H Q := ⟨i, j, rfl, rfl, h⟩
theorem w_subR (h : Q (.int (i - j)) H) : L2.rSub (.int i) (.int j) H Q := ⟨i, j, rfl, rfl, h⟩
theorem w_sfldQ {R : Hp → Prop} (hp : H p = some (.ins C dx fs)) (hf : putF f y fs = fs' ∧ fs.length < 1000) (k : R (upd H p (.ins C dx fs'))) : ∃ dx fs, H p = some (.ins C dx fs) ∧ fs.length < 1000 ∧ R (upd H p (.ins C dx (putF f y fs))) :=
  ⟨dx, fs, hp, hf.2, by rw [hf.1]; exact k⟩
theorem w_meth {m : Str} {sp : Sp} {E : XK} (h : ta σ H fun x H1 => ∃ a dx fs, x = .ref a ∧ H1 a = some (.ins C dx fs) ∧ fs.lookup m = none ∧ t σ H1 fun vs H2 => sp (x :: vs) H2 Q E) : tMeth C m sp [] E ta t σ H Q := by
  refine Eq.mp ?_ h
  unfold tMeth
  simp only [List.append_nil]
theorem w_methR {m : Str} {R : Prop} (hp : H p = some (.ins C dx fs)) (hl : fs.lookup m = none) (k : R) : ∃ a dx fs, V.ref p = .ref a ∧ H a = some (.ins C dx fs) ∧ fs.lookup m = none ∧ R := ⟨p, dx, fs, rfl, hp, hl, k⟩
theorem w_make {sp : Sp} {E : XK} (h : t σ H fun vs H1 => ∀ x dx, H1 x = none → H1 dx = none → dx ≠ x → sp (.ref x :: vs) (upd (upd H1 dx (.own x)) x (.ins C dx [])) (fun v H2 => v = .non ∧ Q (.ref x) H2) E) : tMake C sp [] E t σ H Q := by
  refine Eq.mp ?_ h
  unfold tMake
  simp only [List.append_nil]
theorem w_kget {ps : List (Str × Int)} (h : te σ H fun y H2 => tf σ H2 fun z H3 => ∃ k, y = .str k ∧ Q (match kget ps k with | some i => .int i | none => z) H3) : tKGet ps te tf σ H Q := h
theorem w_gtup {n : Nat} {g : TGs} {a : Addr} {xs : List V} {R : L2.St → Hp → Prop} (hq : SqT K H a xs) (hl : xs.length = n) (k : g xs σ H R) : gTup K n g (.ref a) σ H R := ⟨a, xs, rfl, hq, hl, k⟩
theorem w_gcons {g : TG} {gs : TGs} {xs : List V} {R : L2.St → Hp → Prop} (k : g v σ H fun σ' H' => gs xs σ' H' R) : gCons g gs (v :: xs) σ H R := ⟨v, xs, rfl, k⟩
theorem w_gnil {R : L2.St → Hp → Prop} (k : R σ H) : gNil [] σ H R := ⟨rfl, k⟩
theorem lk_here {k : Str} {v : V} {r : List (Str × V)} : List.lookup k ((k, v) :: r) = some v := by
  have e : (k == k) = true := beq_self_eq_true k
  simp only [List.lookup, e]
theorem lk_past {k g : Str} {v : V} {r : List (Str × V)} (h : (k == g) = false) : List.lookup k ((g, v) :: r) = List.lookup k r := by
  simp only [List.lookup, h]
theorem put_here {f : Str} {v x : V} {r : List (Str × V)} : putF f v ((f, x) :: r) = (f, v) :: r := if_pos rfl
theorem put_past {f g : Str} {v x : V} {r : List (Str × V)} (h : ¬ g = f) : putF f v ((g, x) :: r) = (g, x) :: putF f v r := if_neg h
/-- list.pop(0) -/
theorem w_pop0 {a : Addr} {xs : List V} (ha : H a = some (.lst (x :: xs))) (k : Q x (upd H a (.lst xs))) : rPopAt (.ref a) [.int 0] H Q :=
  ⟨a, x :: xs, 0, 0, x, rfl, rfl, ha, by decide, by decide, by unfold seqIndex?; simp, rfl, k⟩
end
end FL
namespace FL
open PySem PySem.Spec PyProof.Rows L2 CwR
section
variable {K : PySem.W.Frag} {σ : L2.St} {H : Hp} {Q : VK} {D : Ends} {i j : Int} {a : Str} {p : Addr} {xs : List V} {n m l : Nat} {te : TE} {ta : TA} {v w u x : V}
theorem w_isiII (h : Q (.bl true) H) : rIsiU K [.int i, .ty "int"] H Q := .inl ⟨.int i, .ty "int", .type "int", .type "int", true, rfl, .ty _, .base (.int _), kit_ty (by decide +kernel), h⟩
theorem w_isiIB (h : Q (.bl false) H) : rIsiU K [.int i, .ty "bool"] H Q := .inl ⟨.int i, .ty "bool", .type "int", .type "bool", false, rfl, .ty _, .base (.int _), kit_ty (by decide +kernel), h⟩
theorem w_isiSS (h : Q (.bl true) H) : rIsiU K [.str a, .ty "str"] H Q := .inl ⟨.str a, .ty "str", .type "str", .type "str", true, rfl, .ty _, .base (.str _), kit_ty (by decide +kernel), h⟩
theorem ty_T (h : SqT K H p xs) : TyX K H (.ref p) (.type "tuple") := by
  rcases h with (h | ⟨o, h⟩) | ⟨o, us, n, h, c, _⟩
  · exact .base (.tup h)
  · exact .fTuple h
  · exact .kTuple h c
theorem ty_L (h : SqL K H p xs) : TyX K H (.ref p) (.type "list") := by
  rcases h with (h | ⟨o, h⟩) | ⟨o, us, n, h, c, _⟩
  · exact .base (.lst h)
  · exact .base (.frz h)
  · exact .kList h c
theorem w_isiTT (hs : SqT K H p xs) (h : Q (.bl true) H) : rIsiU K [.ref p, .ty "tuple"] H Q := .inl ⟨.ref p, .ty "tuple", .type "tuple", .type "tuple", true, rfl, .ty _, ty_T hs, kit_ty (by decide +kernel), h⟩
theorem w_isiLL (hs : SqL K H p xs) (h : Q (.bl true) H) : rIsiU K [.ref p, .ty "list"] H Q := .inl ⟨.ref p, .ty "list", .type "list", .type "list", true, rfl, .ty _, ty_L hs, kit_ty (by decide +kernel), h⟩
theorem w_isiTL (hs : SqT K H p xs) (h : Q (.bl false) H) : rIsiU K [.ref p, .ty "list"] H Q := .inl ⟨.ref p, .ty "list", .type "tuple", .type "list", false, rfl, .ty _, ty_T hs, kit_ty (by decide +kernel), h⟩
theorem w_ipI {f : Int → Int → Int} (h : Q (.int (f i j)) H) : ipI f (.int i) (.int j) H Q := ⟨i, j, rfl, rfl, h⟩
theorem w_par (h : ta σ H fun vs H1 => ∃ v w, vs = [v, w] ∧ D.nx ((σ.set n (some v)).set m (some w)) H1) : tPar n m ta D σ H := h
theorem w_parR {R : V → V → Prop} (h : R v w) : ∃ v' w', [v, w] = [v', w'] ∧ R v' w' := ⟨v, w, rfl, h⟩
theorem w_par3 (h : ta σ H fun vs H1 => ∃ u v w, vs = [u, v, w] ∧ D.nx (((σ.set n (some u)).set m (some v)).set l (some w)) H1) : tPar3 n m l ta D σ H := h
theorem w_parR3 {R : V → V → V → Prop} (h : R u v w) : ∃ u' v' w', [u, v, w] = [u', v', w'] ∧ R u' v' w' := ⟨u, v, w, rfl, h⟩
theorem w_aug {ti : TIp} (h : ∃ x, σ[n]? = some (some x) ∧ te σ H fun y H1 => ti x y H1 fun z H2 => D.nx (σ.set n (some z)) H2) : tAug n te ti D σ H := h
theorem w_var2 {R : V → Prop} (e : σ[n]? = some (some v)) (h : R v) : ∃ x, σ[n]? = some (some x) ∧ R x := ⟨v, e, h⟩
/-- list.insert -/
def rInsertU : V → List V → Hp → VK → Prop := fun x vs H Q => ∃ (l : Addr) (xs : List V) (i : Int) (y : V), x = .ref l ∧ vs = [.int i, y] ∧ H l = some (.lst xs) ∧ xs.length < sizeLine ∧ 0 ≤ i ∧ i < 2 ^ 63 ∧ Q .non (upd H l (.lst (xs.take i.toNat ++ [y] ++ xs.drop i.toNat)))
theorem w_insL (hp : H p = some (.lst xs)) (hl : xs.length ≤ 100000 ∧ (n : Int) < 1000000) (h : Q .non (upd H p (.lst (xs.take n ++ [x] ++ xs.drop n)))) : rInsertU (.ref p) [.int (n : Int), x] H Q :=
  ⟨p, xs, n, x, rfl, rfl, hp, Nat.lt_of_le_of_lt hl.1 (by decide), by omega, by omega, by rw [Int.toNat_natCast]; exact h⟩
end
end FL
namespace FL
open PySem PySem.Spec PyProof.Rows L2 CwR
theorem kg_put : kget [("put", 3), ("cut", 2), ("none", 1)] (("put" : Str)) = some 3 := by decide +kernel
theorem kg_cut : kget [("put", 3), ("cut", 2), ("none", 1)] (("cut" : Str)) = some 2 := by decide +kernel
theorem kg_non : kget [("put", 3), ("cut", 2), ("none", 1)] (("none" : Str)) = some 1 := by decide +kernel
theorem w_kgetR {ps : List (Str × Int)} {a : Str} {i : Int} {z : V} {R : V → Prop} (h : kget ps a = some i) (k : R (.int i)) : ∃ k, V.str a = .str k ∧ R (match kget ps k with | some i => .int i | none => z) := ⟨a, rfl, by rw [h]; exact k⟩
end FL
namespace FL
open PySem PySem.Spec PyProof.Rows L2 CwR
section
variable {H : Hp} {p : Addr} {a b c d v : V} {R : Hp → Prop}
theorem w_set4_0 (hp : H p = some (.lst [a, b, c, d])) (h : R (upd H p (.lst [v, b, c, d]))) : rSetL (.ref p) (.int 0) v H R := ⟨p, _, 0, 0, rfl, rfl, hp, rfl, h⟩
theorem w_set4_1 (hp : H p = some (.lst [a, b, c, d])) (h : R (upd H p (.lst [a, v, c, d]))) : rSetL (.ref p) (.int 1) v H R := ⟨p, _, 1, 1, rfl, rfl, hp, rfl, h⟩
theorem w_set4_2 (hp : H p = some (.lst [a, b, c, d])) (h : R (upd H p (.lst [a, b, v, d]))) : rSetL (.ref p) (.int 2) v H R := ⟨p, _, 2, 2, rfl, rfl, hp, rfl, h⟩
theorem w_set4_3 (hp : H p = some (.lst [a, b, c, d])) (h : R (upd H p (.lst [a, b, c, v]))) : rSetL (.ref p) (.int 3) v H R := ⟨p, _, 3, 3, rfl, rfl, hp, rfl, h⟩
end
end FL

/-! own layer: what stands apart in the heap, as one fact -/
namespace FL
open PySem PySem.Spec PyProof.Rows L2
/-- something that stands at some addresses -/
structure Res where
  P : (Addr → Prop) → Hp → Prop
  al : ∀ {F H}, P F H → ∀ x, F x → H x ≠ none
  st : ∀ {F H H'}, P F H → (∀ x o, F x → H x = some o → H' x = some o) → TK H H' → P F H'
theorem Res.ext2 {A B : Res} (h : ∀ F H, A.P F H ↔ B.P F H) : A = B := by
  obtain ⟨p, a, s⟩ := A
  obtain ⟨q, b, t⟩ := B
  have e : p = q := funext fun F => funext fun H => propext (h F H)
  subst e; rfl
def star (A B : Res) : Res where
  P F H := ∃ F1 F2, A.P F1 H ∧ B.P F2 H ∧ (∀ x, F1 x → ¬ F2 x) ∧ ∀ x, F x ↔ F1 x ∨ F2 x
  al := by
    rintro F H ⟨F1, F2, a, b, d, e⟩ x hx
    rcases (e x).mp hx with h | h
    · exact A.al a x h
    · exact B.al b x h
  st := by
    rintro F H H' ⟨F1, F2, a, b, d, e⟩ k t
    exact ⟨F1, F2, A.st a (fun x o h => k x o ((e x).mpr (.inl h))) t, B.st b (fun x o h => k x o ((e x).mpr (.inr h))) t, d, e⟩
instance : Pow Res Res := ⟨star⟩
theorem star_def (A B : Res) : A ^ B = star A B := rfl
theorem star_comm (A B : Res) : A ^ B = B ^ A := Res.ext2 fun F H => by
  constructor <;> rintro ⟨F1, F2, a, b, d, e⟩ <;> exact ⟨F2, F1, b, a, fun x h g => d x g h, fun x => (e x).trans or_comm⟩
theorem star_assoc (A B C : Res) : (A ^ B) ^ C = A ^ (B ^ C) := Res.ext2 fun F H => by
  constructor
  · rintro ⟨F1, F2, ⟨G1, G2, a, b, d1, e1⟩, c, d, e⟩
    refine ⟨G1, fun x => G2 x ∨ F2 x, a, ⟨G2, F2, b, c, fun x h g => d x ((e1 x).mpr (.inr h)) g, fun x => Iff.rfl⟩, fun x h g => ?_, fun x => ?_⟩
    · rcases g with g | g
      · exact d1 x h g
      · exact d x ((e1 x).mpr (.inl h)) g
    · rw [e x, e1 x, or_assoc]
  · rintro ⟨F1, F2, a, ⟨G1, G2, b, c, d1, e1⟩, d, e⟩
    refine ⟨fun x => F1 x ∨ G1 x, G2, ⟨F1, G1, a, b, fun x h g => d x h ((e1 x).mpr (.inl g)), fun x => Iff.rfl⟩, c, fun x h g => ?_, fun x => ?_⟩
    · rcases h with h | h
      · exact d x h ((e1 x).mpr (.inr g))
      · exact d1 x h g
    · rw [e x, e1 x, or_assoc]
theorem star_left (A B C : Res) : A ^ (B ^ C) = B ^ (A ^ C) := by rw [← star_assoc, star_comm A B, star_assoc]
instance : Std.Associative (α := Res) (HPow.hPow) := ⟨star_assoc⟩
instance : Std.Commutative (α := Res) (HPow.hPow) := ⟨star_comm⟩
/-- it holds -/
def Hd (A : Res) (H : Hp) : Prop := ∃ F, A.P F H
def emp : Res where
  P F _ := ∀ x, ¬ F x
  al := fun h x hx => (h x hx).elim
  st := fun h _ _ => h
theorem emp_star (A : Res) : emp ^ A = A := Res.ext2 fun F H => by
  constructor
  · rintro ⟨F1, F2, a, b, d, e⟩
    have : F = F2 := funext fun x => propext ((e x).trans ⟨fun h => h.resolve_left (a x), .inr⟩)
    rw [this]; exact b
  · intro h
    exact ⟨fun _ => False, F, fun x h => h, h, fun x h => h.elim, fun x => ⟨.inr, fun h => h.resolve_left id⟩⟩
section
variable {K : PySem.W.Frag} {H H' H1 : Hp} {A B C D E X Y Z W R1 R2 R3 R4 R5 R6 : Res}
theorem hd_eq (h : Hd A H) (e : A = B) : Hd B H := e ▸ h
theorem Hd.kp (h : Hd A H) (k : ∀ x o, H x = some o → H' x = some o) : Hd A H' := by
  obtain ⟨F, h⟩ := h
  exact ⟨F, A.st h (fun x o _ => k x o) (TK.of k)⟩
theorem Hd.same (h : Hd A H) (k : Same H H') : Hd A H' := h.kp k
theorem Hd.tail (h : Hd (A ^ X) H) : Hd X H := by obtain ⟨F, F1, F2, a, b, _, _⟩ := h; exact ⟨F2, b⟩
theorem Hd.fst (h : Hd (A ^ X) H) : Hd A H := by obtain ⟨F, F1, F2, a, b, _, _⟩ := h; exact ⟨F1, a⟩
theorem Hd.emp (h : Hd X H) : Hd (emp ^ X) H := by rw [emp_star]; exact h
theorem hd_top : Hd emp H := ⟨fun _ => False, fun _ h => h⟩
/-! moving the wanted one to the front -/
theorem hp1 (h : Hd (B ^ A ^ X) H) : Hd (A ^ B ^ X) H := hd_eq h (star_left ..)
theorem hp2 (h : Hd (B ^ C ^ A ^ X) H) : Hd (A ^ B ^ C ^ X) H := hd_eq h (by rw [star_left C A, star_left B A])
theorem hp3 (h : Hd (B ^ C ^ D ^ A ^ X) H) : Hd (A ^ B ^ C ^ D ^ X) H := hd_eq h (by rw [star_left D A, star_left C A, star_left B A])
theorem hp4 (h : Hd (B ^ C ^ D ^ E ^ A ^ X) H) : Hd (A ^ B ^ C ^ D ^ E ^ X) H := hd_eq h (by rw [star_left E A, star_left D A, star_left C A, star_left B A])
theorem hp5 (h : Hd (B ^ C ^ D ^ E ^ Y ^ A ^ X) H) : Hd (A ^ B ^ C ^ D ^ E ^ Y ^ X) H := hd_eq h (by rw [star_left Y A, star_left E A, star_left D A, star_left C A, star_left B A])
theorem hp6 (h : Hd (B ^ C ^ D ^ E ^ Y ^ Z ^ A ^ X) H) : Hd (A ^ B ^ C ^ D ^ E ^ Y ^ Z ^ X) H := hd_eq h (by rw [star_left Z A, star_left Y A, star_left E A, star_left D A, star_left C A, star_left B A])
theorem hp7 (h : Hd (B ^ C ^ D ^ E ^ Y ^ Z ^ W ^ A ^ X) H) : Hd (A ^ B ^ C ^ D ^ E ^ Y ^ Z ^ W ^ X) H := hd_eq h (by rw [star_left W A, star_left Z A, star_left Y A, star_left E A, star_left D A, star_left C A, star_left B A])
theorem hp8 (h : Hd (B ^ C ^ D ^ E ^ Y ^ Z ^ W ^ R1 ^ A ^ X) H) : Hd (A ^ B ^ C ^ D ^ E ^ Y ^ Z ^ W ^ R1 ^ X) H := hd_eq h (by rw [star_left R1 A, star_left W A, star_left Z A, star_left Y A, star_left E A, star_left D A, star_left C A, star_left B A])
theorem hp9 (h : Hd (B ^ C ^ D ^ E ^ Y ^ Z ^ W ^ R1 ^ R2 ^ A ^ X) H) : Hd (A ^ B ^ C ^ D ^ E ^ Y ^ Z ^ W ^ R1 ^ R2 ^ X) H := hd_eq h (by rw [star_left R2 A, star_left R1 A, star_left W A, star_left Z A, star_left Y A, star_left E A, star_left D A, star_left C A, star_left B A])
theorem hp10 (h : Hd (B ^ C ^ D ^ E ^ Y ^ Z ^ W ^ R1 ^ R2 ^ R3 ^ A ^ X) H) : Hd (A ^ B ^ C ^ D ^ E ^ Y ^ Z ^ W ^ R1 ^ R2 ^ R3 ^ X) H := hd_eq h (by rw [star_left R3 A, star_left R2 A, star_left R1 A, star_left W A, star_left Z A, star_left Y A, star_left E A, star_left D A, star_left C A, star_left B A])
theorem hp11 (h : Hd (B ^ C ^ D ^ E ^ Y ^ Z ^ W ^ R1 ^ R2 ^ R3 ^ R4 ^ A ^ X) H) : Hd (A ^ B ^ C ^ D ^ E ^ Y ^ Z ^ W ^ R1 ^ R2 ^ R3 ^ R4 ^ X) H := hd_eq h (by rw [star_left R4 A, star_left R3 A, star_left R2 A, star_left R1 A, star_left W A, star_left Z A, star_left Y A, star_left E A, star_left D A, star_left C A, star_left B A])
/-! the same of what is wanted under the front -/
theorem hd_q (h : Hd (A ^ Z) H) (e : Z = B ^ X) : Hd (A ^ B ^ X) H := e ▸ h
theorem hd_q3 (h : Hd (A ^ Z) H) (e : Z = B ^ Y) (e2 : Y = C ^ X) : Hd (A ^ B ^ C ^ X) H := e2 ▸ e ▸ h
theorem hd_q4 (h : Hd (A ^ Z) H) (e : Z = B ^ Y) (e2 : Y = C ^ W) (e3 : W = D ^ X) : Hd (A ^ B ^ C ^ D ^ X) H := e3 ▸ e2 ▸ e ▸ h
theorem rp1 : B ^ A ^ X = A ^ B ^ X := star_left ..
theorem rp2 : B ^ C ^ A ^ X = A ^ B ^ C ^ X := by rw [star_left C A, star_left B A]
theorem rp3 : B ^ C ^ D ^ A ^ X = A ^ B ^ C ^ D ^ X := by rw [star_left D A, star_left C A, star_left B A]
theorem rp4 : B ^ C ^ D ^ E ^ A ^ X = A ^ B ^ C ^ D ^ E ^ X := by rw [star_left E A, star_left D A, star_left C A, star_left B A]
theorem rp5 : B ^ C ^ D ^ E ^ Y ^ A ^ X = A ^ B ^ C ^ D ^ E ^ Y ^ X := by rw [star_left Y A, star_left E A, star_left D A, star_left C A, star_left B A]
theorem rp6 : B ^ C ^ D ^ E ^ Y ^ Z ^ A ^ X = A ^ B ^ C ^ D ^ E ^ Y ^ Z ^ X := by rw [star_left Z A, star_left Y A, star_left E A, star_left D A, star_left C A, star_left B A]
theorem rp7 : B ^ C ^ D ^ E ^ Y ^ Z ^ W ^ A ^ X = A ^ B ^ C ^ D ^ E ^ Y ^ Z ^ W ^ X := by rw [star_left W A, star_left Z A, star_left Y A, star_left E A, star_left D A, star_left C A, star_left B A]
theorem rp8 : B ^ C ^ D ^ E ^ Y ^ Z ^ W ^ R1 ^ A ^ X = A ^ B ^ C ^ D ^ E ^ Y ^ Z ^ W ^ R1 ^ X := by rw [star_left R1 A, star_left W A, star_left Z A, star_left Y A, star_left E A, star_left D A, star_left C A, star_left B A]
theorem rp9 : B ^ C ^ D ^ E ^ Y ^ Z ^ W ^ R1 ^ R2 ^ A ^ X = A ^ B ^ C ^ D ^ E ^ Y ^ Z ^ W ^ R1 ^ R2 ^ X := by rw [star_left R2 A, star_left R1 A, star_left W A, star_left Z A, star_left Y A, star_left E A, star_left D A, star_left C A, star_left B A]
theorem rp10 : B ^ C ^ D ^ E ^ Y ^ Z ^ W ^ R1 ^ R2 ^ R3 ^ A ^ X = A ^ B ^ C ^ D ^ E ^ Y ^ Z ^ W ^ R1 ^ R2 ^ R3 ^ X := by rw [star_left R3 A, star_left R2 A, star_left R1 A, star_left W A, star_left Z A, star_left Y A, star_left E A, star_left D A, star_left C A, star_left B A]
theorem rp11 : B ^ C ^ D ^ E ^ Y ^ Z ^ W ^ R1 ^ R2 ^ R3 ^ R4 ^ A ^ X = A ^ B ^ C ^ D ^ E ^ Y ^ Z ^ W ^ R1 ^ R2 ^ R3 ^ R4 ^ X := by rw [star_left R4 A, star_left R3 A, star_left R2 A, star_left R1 A, star_left W A, star_left Z A, star_left Y A, star_left E A, star_left D A, star_left C A, star_left B A]
theorem rp12 : B ^ C ^ D ^ E ^ Y ^ Z ^ W ^ R1 ^ R2 ^ R3 ^ R4 ^ R5 ^ A ^ X = A ^ B ^ C ^ D ^ E ^ Y ^ Z ^ W ^ R1 ^ R2 ^ R3 ^ R4 ^ R5 ^ X := by rw [star_left R5 A, star_left R4 A, star_left R3 A, star_left R2 A, star_left R1 A, star_left W A, star_left Z A, star_left Y A, star_left E A, star_left D A, star_left C A, star_left B A]
theorem rp13 : B ^ C ^ D ^ E ^ Y ^ Z ^ W ^ R1 ^ R2 ^ R3 ^ R4 ^ R5 ^ R6 ^ A ^ X = A ^ B ^ C ^ D ^ E ^ Y ^ Z ^ W ^ R1 ^ R2 ^ R3 ^ R4 ^ R5 ^ R6 ^ X := by rw [star_left R6 A, star_left R5 A, star_left R4 A, star_left R3 A, star_left R2 A, star_left R1 A, star_left W A, star_left Z A, star_left Y A, star_left E A, star_left D A, star_left C A, star_left B A]
/-! the single ones -/
/-- o stands at a -/
def pt (a : Addr) (o : HO) : Res where
  P F H := (∀ x, F x ↔ x = a) ∧ H a = some o
  al := fun ⟨f, h⟩ x hx => by rw [(f x).mp hx, h]; simp
  st := fun ⟨f, h⟩ k _ => ⟨f, k _ _ ((f _).mpr rfl) h⟩
/-- an instance of C with these fields -/
def ob (a C : Addr) (fs : List (Str × V)) : Res where
  P F H := (∀ x, F x ↔ x = a) ∧ ∃ dx, H a = some (.ins C dx fs)
  al := fun ⟨f, dx, h⟩ x hx => by rw [(f x).mp hx, h]; simp
  st := fun ⟨f, dx, h⟩ k _ => ⟨f, dx, k _ _ ((f _).mpr rfl) h⟩
/-- a list of these data (without lists in them) -/
def ls (K : PySem.W.Frag) (a : Addr) (ds : List PyData) : Res where
  P F H := (∀ x, F x ↔ x = a) ∧ noLs ds = true ∧ ∃ xs, H a = some (.lst xs) ∧ DpAll K H xs ds
  al := fun ⟨f, _, xs, h, _⟩ x hx => by rw [(f x).mp hx, h]; simp
  st := fun ⟨f, n, xs, h, d⟩ k t => ⟨f, n, xs, k _ _ ((f _).mpr rfl) h, dps_tk t d n⟩
/-- the same with its values named -/
def lsx (K : PySem.W.Frag) (a : Addr) (xs : List V) (ds : List PyData) : Res where
  P F H := (∀ x, F x ↔ x = a) ∧ noLs ds = true ∧ H a = some (.lst xs) ∧ DpAll K H xs ds
  al := fun ⟨f, _, h, _⟩ x hx => by rw [(f x).mp hx, h]; simp
  st := fun ⟨f, n, h, d⟩ k t => ⟨f, n, k _ _ ((f _).mpr rfl) h, dps_tk t d n⟩
/-- v is the datum d (without lists in it) -/
def dv (K : PySem.W.Frag) (v : V) (d : PyData) : Res where
  P F H := (∀ x, ¬ F x) ∧ noL d = true ∧ Dp K H v d
  al := fun h x hx => (h.1 x hx).elim
  st := fun ⟨f, n, d⟩ _ t => ⟨f, n, dp_tk t d n⟩
/-- a tuple of these values -/
def tp (K : PySem.W.Frag) (a : Addr) (xs : List V) : Res where
  P F H := (∀ x, ¬ F x) ∧ SqT K H a xs
  al := fun h x hx => (h.1 x hx).elim
  st := fun ⟨f, d⟩ _ t => ⟨f, t.t d⟩
/-- a tuple of these values that was laid -/
def tq (a : Addr) (xs : List V) : Res where
  P F H := (∀ x, ¬ F x) ∧ H a = some (.tup xs)
  al := fun h x hx => (h.1 x hx).elim
  st := fun ⟨f, d⟩ _ t => ⟨f, t.1 _ _ d⟩
/-- a list that is only read (the script) -/
def fz (K : PySem.W.Frag) (a : Addr) (xs : List V) : Res where
  P F H := ((∀ x, F x ↔ x = a) ∧ H a = some (.lst xs)) ∨ ((∀ x, ¬ F x) ∧ ∀ H', TK H H' → SqL K H' a xs)
  al := fun h x hx => by
    rcases h with ⟨f, h⟩ | ⟨f, h⟩
    · rw [(f x).mp hx, h]; simp
    · exact (f x hx).elim
  st := fun h k t => by
    rcases h with ⟨f, h⟩ | ⟨f, h⟩
    · exact .inl ⟨f, k _ _ ((f _).mpr rfl) h⟩
    · exact .inr ⟨f, fun H' t2 => h H' (t.trans t2)⟩
theorem hd_fz {a : Addr} {xs : List V} {H : Hp} {K : PySem.W.Frag} (h : SqL K H a xs) : Hd (fz K a xs ^ emp) H := by
  rcases h with (h | ⟨o, h⟩) | h
  · exact ⟨fun x => x = a, fun x => x = a, fun _ => False, .inl ⟨fun x => Iff.rfl, h⟩, fun _ z => z, fun _ _ z => z, fun x => (or_false _).symm ▸ Iff.rfl⟩
  · exact ⟨fun x => False, fun x => False, fun _ => False, .inr ⟨fun x z => z, fun H' t => .inl (.inr ⟨o, t.2 _ _ _ h⟩)⟩, fun _ z => z, fun _ _ z => z, fun x => (or_false _).symm ▸ Iff.rfl⟩
  · exact ⟨fun x => False, fun x => False, fun _ => False, .inr ⟨fun x z => z, fun H' t => .inr h⟩, fun _ z => z, fun _ _ z => z, fun x => (or_false _).symm ▸ Iff.rfl⟩
theorem Hd.pt {a : Addr} {o : HO} (h : Hd (pt a o ^ X) H) : H a = some o := by obtain ⟨F, F1, F2, ⟨_, e⟩, _⟩ := h; exact e
theorem Hd.ob {a Cl : Addr} {fs : List (Str × V)} (h : Hd (ob a Cl fs ^ X) H) : ∃ dx, H a = some (.ins Cl dx fs) := by obtain ⟨F, F1, F2, ⟨_, e⟩, _⟩ := h; exact e
theorem Hd.ls {a : Addr} {ds : List PyData} (h : Hd (ls K a ds ^ X) H) : ∃ xs, H a = some (.lst xs) ∧ DpAll K H xs ds := by obtain ⟨F, F1, F2, ⟨_, _, e⟩, _⟩ := h; exact e
theorem Hd.lsn {a : Addr} {ds : List PyData} (h : Hd (FL.ls K a ds ^ X) H) : noLs ds = true := by obtain ⟨F, F1, F2, ⟨_, e, _⟩, _⟩ := h; exact e
theorem Hd.lsd {a : Addr} {ds : List PyData} (h : Hd (FL.ls K a ds ^ X) H) : Dp K H (.ref a) (.list ds) := by obtain ⟨xs, e, d⟩ := h.ls; exact .lst (SqL.of e) d
theorem Hd.lsX {a : Addr} {ds : List PyData} (h : Hd (FL.ls K a ds ^ X) H) : ∃ xs, Hd (FL.lsx K a xs ds ^ X) H := by
  obtain ⟨F, F1, F2, ⟨f, n, xs, e⟩, r⟩ := h
  exact ⟨xs, F, F1, F2, ⟨f, n, e⟩, r⟩
theorem Hd.lsI {a : Addr} {xs : List V} {ds : List PyData} (h : Hd (FL.lsx K a xs ds ^ X) H) : Hd (FL.ls K a ds ^ X) H := by
  obtain ⟨F, F1, F2, ⟨f, n, e⟩, r⟩ := h
  exact ⟨F, F1, F2, ⟨f, n, xs, e⟩, r⟩
theorem Hd.lsx {a : Addr} {xs : List V} {ds : List PyData} (h : Hd (FL.lsx K a xs ds ^ X) H) : H a = some (.lst xs) ∧ DpAll K H xs ds := by obtain ⟨F, F1, F2, ⟨_, _, e⟩, _⟩ := h; exact e
theorem Hd.lsxq {a : Addr} {xs : List V} {ds : List PyData} (h : Hd (FL.lsx K a xs ds ^ X) H) : SqL K H a xs := SqL.of h.lsx.1
theorem Hd.dv {v : V} {d : PyData} (h : Hd (dv K v d ^ X) H) : Dp K H v d := by obtain ⟨F, F1, F2, ⟨_, _, e⟩, _⟩ := h; exact e
theorem Hd.fz {a : Addr} {xs : List V} (h : Hd (FL.fz K a xs ^ X) H) : SqL K H a xs := by
  obtain ⟨F, F1, F2, h, _⟩ := h
  rcases h with ⟨_, h⟩ | ⟨_, h⟩
  · exact SqL.of h
  · exact h _ (TK.refl _)
theorem Hd.tp {a : Addr} {xs : List V} (h : Hd (tp K a xs ^ X) H) : SqT K H a xs := by obtain ⟨F, F1, F2, ⟨_, e⟩, _⟩ := h; exact e
theorem Hd.tq {a : Addr} {xs : List V} (h : Hd (FL.tq a xs ^ X) H) : H a = some (.tup xs) := by obtain ⟨F, F1, F2, ⟨_, e⟩, _⟩ := h; exact e
theorem Hd.tqT {a : Addr} {xs : List V} (h : Hd (FL.tq a xs ^ X) H) : SqT K H a xs := SqT.of h.tq
theorem Hd.addQ {a : Addr} {xs : List V} (h : Hd X H) (e : H a = some (.tup xs)) : Hd (FL.tq a xs ^ X) H := by
  obtain ⟨F, h⟩ := h
  exact ⟨F, fun _ => False, F, ⟨fun _ z => z, e⟩, h, fun x z => z.elim, fun x => ⟨.inr, fun z => z.resolve_left id⟩⟩
/-- facts are put in -/
theorem Hd.addD {v : V} {d : PyData} (h : Hd X H) (e : Dp K H v d) (n : noL d = true) : Hd (FL.dv K v d ^ X) H := by
  obtain ⟨F, h⟩ := h
  exact ⟨F, fun _ => False, F, ⟨fun _ z => z, n, e⟩, h, fun x z => z.elim, fun x => ⟨.inr, fun z => z.resolve_left id⟩⟩
theorem Hd.addT {a : Addr} {xs : List V} (h : Hd X H) (e : SqT K H a xs) : Hd (FL.tp K a xs ^ X) H := by
  obtain ⟨F, h⟩ := h
  exact ⟨F, fun _ => False, F, ⟨fun _ z => z, e⟩, h, fun x z => z.elim, fun x => ⟨.inr, fun z => z.resolve_left id⟩⟩
/-- something new -/
theorem Hd.new {a : Addr} {o : HO} (h : Hd X H) (e : H a = none) : Hd (FL.pt a o ^ X) (upd H a o) := by
  obtain ⟨F, h⟩ := h
  have k := same_new (o := o) e
  refine ⟨fun x => x = a ∨ F x, fun x => x = a, F, ⟨fun x => Iff.rfl, upd_same⟩, X.st h (fun x o _ => k x o) (TK.of k), fun x e1 e2 => ?_, fun x => Iff.rfl⟩
  rw [e1] at e2; exact X.al h a e2 e
theorem Hd.newT {a : Addr} {xs : List V} (h : Hd X H) (e : H a = none) : Hd (FL.tp K a xs ^ X) (upd H a (.tup xs)) := (h.same (same_new e)).addT (SqT.of upd_same)
theorem Hd.newL {a : Addr} {xs : List V} {ds : List PyData} (h : Hd X H) (e : H a = none) (d : DpAll K H xs ds) (n : noLs ds = true) : Hd (FL.ls K a ds ^ X) (upd H a (.lst xs)) := by
  have k := same_new (o := .lst xs) e
  obtain ⟨F, F1, F2, ⟨f1, e1⟩, h2, dj, f⟩ := h.new (o := .lst xs) e
  exact ⟨F, F1, F2, ⟨f1, n, xs, e1, dps_same k d⟩, h2, dj, f⟩
/-- a new list that a def gave back -/
theorem Hd.gotL {a : Addr} {xs : List V} {ds : List PyData} (h : Hd X H) (s : Same H H') (e : H a = none) (e2 : H' a = some (.lst xs)) (d : DpAll K H' xs ds) (n : noLs ds = true) : Hd (FL.ls K a ds ^ X) H' := by
  obtain ⟨F, h⟩ := h
  exact ⟨fun x => x = a ∨ F x, fun x => x = a, F, ⟨fun x => Iff.rfl, n, xs, e2, d⟩, X.st h (fun x o _ => s x o) (TK.of s), fun x e1 z => X.al h x z (by rw [e1]; exact e), fun x => Iff.rfl⟩
theorem Hd.gotP {a : Addr} {o : HO} (h : Hd X H) (s : Same H H') (e : H a = none) (e2 : H' a = some o) : Hd (FL.pt a o ^ X) H' := by
  obtain ⟨F, h⟩ := h
  exact ⟨fun x => x = a ∨ F x, fun x => x = a, F, ⟨fun x => Iff.rfl, e2⟩, X.st h (fun x o _ => s x o) (TK.of s), fun x e1 z => X.al h x z (by rw [e1]; exact e), fun x => Iff.rfl⟩
theorem tk_wL {a : Addr} {xs : List V} {o : HO} (e : H a = some (.lst xs)) : TK H (upd H a o) :=
  ⟨fun b ys g => by rw [upd_ne (ne_of g e (by intro z; cases z))]; exact g, fun b u v g => by rw [upd_ne (ne_of g e (by intro z; cases z))]; exact g⟩
theorem tk_wI {a Cl dx : Addr} {fs : List (Str × V)} {o : HO} (e : H a = some (.ins Cl dx fs)) : TK H (upd H a o) :=
  ⟨fun b ys g => by rw [upd_ne (ne_of g e (by intro z; cases z))]; exact g, fun b u v g => by rw [upd_ne (ne_of g e (by intro z; cases z))]; exact g⟩
/-- one is changed, nothing else -/
theorem Hd.frame (h : Hd (A ^ X) H) (k : ∀ F, A.P F H → ∃ F', B.P F' H' ∧ (∀ x, F' x → F x ∨ H x = none) ∧ ∀ x o, ¬ F x → H x = some o → H' x = some o) (t : TK H H') : Hd (B ^ X) H' := by
  obtain ⟨F, F1, F2, a, b, d, f⟩ := h
  obtain ⟨F', b', s, kp⟩ := k F1 a
  refine ⟨fun x => F' x ∨ F2 x, F', F2, b', X.st b (fun x o h e => kp x o (fun z => d x z h) e) t, fun x h g => ?_, fun x => Iff.rfl⟩
  rcases s x h with z | z
  · exact d x z g
  · exact X.al b x g z
/-- what stands at a is written -/
theorem Hd.put {a : Addr} {o o' : HO} (h : Hd (FL.pt a o ^ X) H) (n : (∃ xs, o = .lst xs) ∨ (∃ C dx fs, o = .ins C dx fs) ∨ (∃ ks, o = .dK ks) ∨ (∃ ks, o = .dT ks)) : Hd (FL.pt a o' ^ X) (upd H a o') := by
  have e := h.pt
  refine h.frame (fun F hF => ⟨fun x => x = a, ⟨fun x => Iff.rfl, upd_same⟩, fun x z => .inl ((hF.1 x).mpr z), fun x u z g => ?_⟩) ?_
  · rw [upd_ne (fun q => z ((hF.1 x).mpr q))]; exact g
  · refine ⟨fun b ys g => ?_, fun b u v g => ?_⟩
    · rw [upd_ne (fun q => ?_)]
      · exact g
      · subst q; rw [e] at g; rcases n with ⟨_, rfl⟩ | ⟨_, _, _, rfl⟩ | ⟨_, rfl⟩ | ⟨_, rfl⟩ <;> cases g
    · rw [upd_ne (fun q => ?_)]
      · exact g
      · subst q; rw [e] at g; rcases n with ⟨_, rfl⟩ | ⟨_, _, _, rfl⟩ | ⟨_, rfl⟩ | ⟨_, rfl⟩ <;> cases g
theorem Hd.putP {a : Addr} {xs : List V} {o' : HO} (h : Hd (FL.pt a (.lst xs) ^ X) H) : Hd (FL.pt a o' ^ X) (upd H a o') := h.put (.inl ⟨_, rfl⟩)
theorem Hd.lsP {a : Addr} {ds : List PyData} (h : Hd (FL.ls K a ds ^ X) H) : ∃ xs, Hd (FL.pt a (.lst xs) ^ X) H ∧ DpAll K H xs ds := by
  obtain ⟨F, F1, F2, ⟨f, n, xs, e, d⟩, b⟩ := h
  exact ⟨xs, ⟨F, F1, F2, ⟨f, e⟩, b⟩, d⟩
theorem Hd.toL {a : Addr} {xs : List V} {ds : List PyData} (h : Hd (FL.pt a (.lst xs) ^ X) H) (d : DpAll K H xs ds) (n : noLs ds = true) : Hd (FL.ls K a ds ^ X) H := by
  obtain ⟨F, F1, F2, ⟨f, e⟩, b⟩ := h
  exact ⟨F, F1, F2, ⟨f, n, xs, e, d⟩, b⟩
theorem Hd.tkL {a : Addr} {xs : List V} {o : HO} (h : Hd (FL.pt a (.lst xs) ^ X) H) : TK H (upd H a o) := tk_wL h.pt
theorem Hd.putL {a : Addr} {ds es : List PyData} {xs : List V} (h : Hd (FL.ls K a ds ^ X) H) (d : DpAll K H xs es) (n : noLs es = true) : Hd (FL.ls K a es ^ X) (upd H a (.lst xs)) := by
  obtain ⟨ys, h1, _⟩ := h.lsP
  exact h1.putP.toL (dps_tk h1.tkL d n) n
theorem Hd.putO {a Cl : Addr} {fs gs : List (Str × V)} {dx : Addr} (h : Hd (FL.ob a Cl fs ^ X) H) (e : H a = some (.ins Cl dx fs)) : Hd (FL.ob a Cl gs ^ X) (upd H a (.ins Cl dx gs)) := by
  refine h.frame (fun F hF => ⟨fun x => x = a, ⟨fun x => Iff.rfl, dx, upd_same⟩, fun x z => .inl ((hF.1 x).mpr z), fun x u z g => ?_⟩) (tk_wI e)
  rw [upd_ne (fun q => z ((hF.1 x).mpr q))]; exact g
end
/-! all that stood; data with lists of their own -/
def all (H0 : Hp) : Res where
  P F H := (∀ x, F x ↔ H0 x ≠ none) ∧ Same H0 H
  al := fun ⟨f, h⟩ x hx => by
    cases c : H0 x with
    | none => exact ((f x).mp hx c).elim
    | some o => rw [h _ _ c]; simp
  st := fun {F H H'} ⟨f, h⟩ k _ => ⟨f, fun x o e => k x o ((f x).mpr (by rw [e]; simp)) (h x o e)⟩
def dd (K : PySem.W.Frag) (v : V) (d : PyData) : Res where
  P F H := (∀ x, F x → H x ≠ none) ∧ ∀ H', (∀ x o, F x → H x = some o → H' x = some o) → TK H H' → Dp K H' v d
  al := fun h => h.1
  st := by
    rintro F H H' ⟨a, h⟩ k t
    refine ⟨fun x hx => ?_, fun H2 k2 t2 => h H2 (fun x o hx e => k2 x o hx (k x o hx e)) (t.trans t2)⟩
    cases c : H x with
    | none => exact (a x hx c).elim
    | some o => rw [k x o hx c]; simp
def ddA (K : PySem.W.Frag) (vs : List V) (ds : List PyData) : Res where
  P F H := (∀ x, F x → H x ≠ none) ∧ ∀ H', (∀ x o, F x → H x = some o → H' x = some o) → TK H H' → DpAll K H' vs ds
  al := fun h => h.1
  st := by
    rintro F H H' ⟨a, h⟩ k t
    refine ⟨fun x hx => ?_, fun H2 k2 t2 => h H2 (fun x o hx e => k2 x o hx (k x o hx e)) (t.trans t2)⟩
    cases c : H x with
    | none => exact (a x hx c).elim
    | some o => rw [k x o hx c]; simp
section
variable {K : PySem.W.Frag} {H H' H1 : Hp} {A B X Y : Res}
theorem hd_all (H : Hp) : Hd (all H) H := ⟨fun x => H x ≠ none, fun _ => Iff.rfl, fun _ _ h => h⟩
theorem Hd.allS (h : Hd (FL.all H ^ X) H') : Same H H' := by obtain ⟨F, F1, F2, ⟨_, e⟩, _⟩ := h; exact e
theorem Hd.allR (h : Hd (A ^ FL.all H) H') : Same H H' := Hd.allS (X := A) (hd_eq h (star_comm _ _))
/-- what stood is put in for all that stood -/
theorem Hd.re (h : Hd X H) (g : Hd (A ^ FL.all H) H') : Hd (A ^ X) H' := by
  obtain ⟨F, h⟩ := h
  obtain ⟨G, F1, F2, a, ⟨f, s⟩, d, e⟩ := g
  exact ⟨fun x => F1 x ∨ F x, F1, F, a, X.st h (fun x o _ => s x o) (TK.of s), fun x z w => d x z ((f x).mpr (X.al h x w)), fun x => Iff.rfl⟩
theorem Hd.dd {v : V} {d : PyData} (h : Hd (FL.dd K v d ^ X) H) : Dp K H v d := by obtain ⟨F, F1, F2, ⟨_, e⟩, _⟩ := h; exact e H (fun _ _ _ z => z) (TK.refl _)
theorem Hd.ddA {v : List V} {d : List PyData} (h : Hd (FL.ddA K v d ^ X) H) : DpAll K H v d := by obtain ⟨F, F1, F2, ⟨_, e⟩, _⟩ := h; exact e H (fun _ _ _ z => z) (TK.refl _)
theorem Hd.ddNil (h : Hd X H) : Hd (FL.ddA K [] [] ^ X) H := by
  obtain ⟨F, h⟩ := h
  exact ⟨F, fun _ => False, F, ⟨fun _ z => z.elim, fun _ _ _ => .nil⟩, h, fun _ z => z.elim, fun x => ⟨.inr, fun z => z.resolve_left id⟩⟩
theorem Hd.ddSnoc {v : V} {d : PyData} {vs : List V} {ds : List PyData} (h : Hd (FL.dd K v d ^ FL.ddA K vs ds ^ X) H) : Hd (FL.ddA K (vs ++ [v]) (ds ++ [d]) ^ X) H := by
  obtain ⟨F, F1, F2, ⟨a1, h1⟩, ⟨G1, G2, ⟨a2, h2⟩, b, d1, e1⟩, d2, e2⟩ := h
  refine ⟨F, fun x => F1 x ∨ G1 x, G2, ⟨fun x z => z.elim (a1 x) (a2 x), fun H' k t => dps_app (h2 H' (fun x o z => k x o (.inr z)) t) (.cons (h1 H' (fun x o z => k x o (.inl z)) t) .nil)⟩, b, fun x z w => ?_, fun x => ?_⟩
  · rcases z with z | z
    · exact d2 x z ((e1 x).mpr (.inr w))
    · exact d1 x z w
  · rw [e2 x, e1 x, or_assoc]
theorem Hd.ddCons {v : V} {d : PyData} {vs : List V} {ds : List PyData} (h : Hd (FL.dd K v d ^ FL.ddA K vs ds ^ X) H) : Hd (FL.ddA K (v :: vs) (d :: ds) ^ X) H := by
  obtain ⟨F, F1, F2, ⟨a1, h1⟩, ⟨G1, G2, ⟨a2, h2⟩, b, d1, e1⟩, d2, e2⟩ := h
  refine ⟨F, fun x => F1 x ∨ G1 x, G2, ⟨fun x z => z.elim (a1 x) (a2 x), fun H' k t => .cons (h1 H' (fun x o z => k x o (.inl z)) t) (h2 H' (fun x o z => k x o (.inr z)) t)⟩, b, fun x z w => ?_, fun x => ?_⟩
  · rcases z with z | z
    · exact d2 x z ((e1 x).mpr (.inr w))
    · exact d1 x z w
  · rw [e2 x, e1 x, or_assoc]
theorem Hd.ddVals {vs : List V} {ds : List PyData} (h : Hd X H) (e : ∀ H', DpAll K H' vs ds) : Hd (FL.ddA K vs ds ^ X) H := by
  obtain ⟨F, h⟩ := h
  exact ⟨F, fun _ => False, F, ⟨fun _ z => z.elim, fun H' _ _ => e H'⟩, h, fun _ z => z.elim, fun x => ⟨.inr, fun z => z.resolve_left id⟩⟩
/-- a list of them is one -/
theorem Hd.ddL {a : Addr} {vs : List V} {ds : List PyData} (h : Hd (FL.pt a (.lst vs) ^ FL.ddA K vs ds ^ X) H) : Hd (FL.dd K (.ref a) (.list ds) ^ X) H := by
  obtain ⟨F, F1, F2, ⟨f1, h1⟩, ⟨G1, G2, ⟨a2, h2⟩, b, d1, e1⟩, d2, e2⟩ := h
  refine ⟨F, fun x => F1 x ∨ G1 x, G2, ⟨fun x z => z.elim (fun z => by rw [(f1 x).mp z, h1]; simp) (a2 x), fun H' k t => .lst (SqL.of (k a _ (.inl ((f1 a).mpr rfl)) h1)) (h2 H' (fun x o z => k x o (.inr z)) t)⟩, b, fun x z w => ?_, fun x => ?_⟩
  · rcases z with z | z
    · exact d2 x z ((e1 x).mpr (.inr w))
    · exact d1 x z w
  · rw [e2 x, e1 x, or_assoc]
theorem Hd.ddT {a : Addr} {vs : List V} {ds : List PyData} (h : Hd (FL.tp K a vs ^ FL.ddA K vs ds ^ X) H) : Hd (FL.dd K (.ref a) (.tuple ds) ^ X) H := by
  obtain ⟨F, F1, F2, ⟨f1, h1⟩, ⟨G1, G2, ⟨a2, h2⟩, b, d1, e1⟩, d2, e2⟩ := h
  refine ⟨F, G1, G2, ⟨a2, fun H' k t => .tup (t.t h1) (h2 H' k t)⟩, b, d1, fun x => ?_⟩
  rw [e2 x, e1 x]
  exact ⟨fun z => z.resolve_left (f1 x), .inr⟩
theorem Hd.ddD {v : V} {d : PyData} (h : Hd (FL.dv K v d ^ X) H) : Hd (FL.dd K v d ^ X) H := by
  obtain ⟨F, F1, F2, ⟨f1, n, h1⟩, b, d1, e1⟩ := h
  exact ⟨F, F1, F2, ⟨fun x z => (f1 x z).elim, fun H' _ t => dp_tk t h1 n⟩, b, d1, e1⟩
theorem Hd.lsDD {a : Addr} {ds : List PyData} (h : Hd (FL.ls K a ds ^ X) H) : Hd (FL.dd K (.ref a) (.list ds) ^ X) H := by
  obtain ⟨F, F1, F2, ⟨f1, n, xs, h1, h2⟩, b, d1, e1⟩ := h
  exact ⟨F, F1, F2, ⟨fun x z => by rw [(f1 x).mp z, h1]; simp, fun H' k t => .lst (SqL.of (k a _ ((f1 a).mpr rfl) h1)) (dps_tk t h2 n)⟩, b, d1, e1⟩
end
end FL

/-! own layer: steps backwards by what stands apart -/
namespace FL
open PySem PySem.Spec PyProof.Rows L2 CwR
/-- less is asked -/
def Sub (Y X : Res) : Prop := ∀ F H, Y.P F H → ∃ F', X.P F' H ∧ ∀ x, F' x → F x
section
variable {A B X Y Z : Res} {H : Hp}
theorem sub_refl : Sub X X := fun F _ h => ⟨F, h, fun _ z => z⟩
theorem sub_trans (a : Sub X Y) (b : Sub Y Z) : Sub X Z := fun F H h => by
  obtain ⟨F1, h1, e1⟩ := a F H h
  obtain ⟨F2, h2, e2⟩ := b F1 H h1
  exact ⟨F2, h2, fun x z => e1 x (e2 x z)⟩
theorem sub_eq (e : X = Y) (b : Sub Y Z) : Sub X Z := e ▸ b
theorem sub_keep (a : Sub X Y) : Sub (A ^ X) (A ^ Y) := by
  rintro F H ⟨F1, F2, h1, h2, d, e⟩
  obtain ⟨F', h', s⟩ := a F2 H h2
  exact ⟨fun x => F1 x ∨ F' x, ⟨F1, F', h1, h', fun x z g => d x z (s x g), fun x => Iff.rfl⟩, fun x z => (e x).mpr (z.imp id (s x))⟩
theorem sub_drop (a : Sub X Y) : Sub (A ^ X) Y := by
  rintro F H ⟨F1, F2, h1, h2, d, e⟩
  obtain ⟨F', h', s⟩ := a F2 H h2
  exact ⟨F', h', fun x z => (e x).mpr (.inr (s x z))⟩
theorem sub_fst : Sub (A ^ X) A := by
  rintro F H ⟨F1, F2, h1, h2, d, e⟩
  exact ⟨F1, h1, fun x z => (e x).mpr (.inl z)⟩
theorem sub_emp : Sub X emp := fun F H _ => ⟨fun _ => False, fun _ z => z, fun _ z => z.elim⟩
theorem sub_in (a : Sub A B) (b : Sub X Y) : Sub (A ^ X) (B ^ Y) := by
  rintro F H ⟨F1, F2, h1, h2, d, e⟩
  obtain ⟨G, g, s⟩ := a F1 H h1
  obtain ⟨F', h', s'⟩ := b F2 H h2
  exact ⟨fun x => G x ∨ F' x, ⟨G, F', g, h', fun x z w => d x (s x z) (s' x w), fun x => Iff.rfl⟩, fun x z => (e x).mpr (z.imp (s x) (s' x))⟩
theorem Hd.sub (h : Hd X H) (s : Sub X Y) : Hd Y H := by
  obtain ⟨F, h⟩ := h
  obtain ⟨F', h', _⟩ := s F H h
  exact ⟨F', h'⟩
end
/-! what the walk asks where something new is laid, a field is read or written -/
def nTup (xs : List V) (H : Hp) (Q : VK) : Prop := ∀ p, H p = none → Q (.ref p) (upd H p (.tup xs))
def nLst (xs : List V) (H : Hp) (Q : VK) : Prop := ∀ p, H p = none → Q (.ref p) (upd H p (.lst xs))
def nObj (C : Addr) (H : Hp) (R : Addr → Hp → Prop) : Prop := ∀ x dx, H x = none → H dx = none → dx ≠ x → R x (upd (upd H dx (.own x)) x (.ins C dx []))
def GF (C : Addr) (f : Str) (x : V) (H : Hp) (Q : VK) : Prop := ∃ a dx fs v, x = .ref a ∧ H a = some (.ins C dx fs) ∧ fs.lookup f = some v ∧ Q v H
def SF (C : Addr) (f : Str) (x y : V) (H : Hp) (R : Hp → Prop) : Prop := ∃ a dx fs, x = .ref a ∧ H a = some (.ins C dx fs) ∧ fs.length < 1000 ∧ R (upd H a (.ins C dx (putF f y fs)))
def GM (C : Addr) (m : Str) (x : V) (H : Hp) (R : Prop) : Prop := ∃ a dx fs, x = .ref a ∧ H a = some (.ins C dx fs) ∧ fs.lookup m = none ∧ R
section
variable {K : PySem.W.Frag} {σ : L2.St} {H : Hp} {Q : VK} {ta te : TE} {D : Ends} {C : Addr} {f m : Str} {t : TA} {E : XK} {sp : Sp}
theorem w_tupS (h : t σ H fun xs H1 => xs.length ≤ sizeLine ∧ nTup xs H1 Q) : tTup t σ H Q := h
theorem w_lstS (h : t σ H fun xs H1 => xs.length ≤ sizeLine ∧ nLst xs H1 Q) : tLst t σ H Q := h
theorem w_fldS (h : ta σ H fun x H1 => GF C f x H1 Q) : tFldC C ta f σ H Q := h
theorem w_sfldS {tv : TE} (h : tv σ H fun y H1 => ta σ H1 fun x H2 => SF C f x y H2 (D.nx σ)) : sFldC C ta tv f D σ H := h
theorem w_methS (h : ta σ H fun x H1 => GM C m x H1 (t σ H1 fun vs H2 => sp (x :: vs) H2 Q E)) : tMeth C m sp [] E ta t σ H Q := w_meth h
theorem w_makeS (h : t σ H fun vs H1 => nObj C H1 fun x H2 => sp (.ref x :: vs) H2 (fun v H3 => v = .non ∧ Q (.ref x) H3) E) : tMake C sp [] E t σ H Q := w_make h
end
section
variable {K : PySem.W.Frag} {σ : L2.St} {H H' : Hp} {Q : VK} {E : XK} {A X : Res} {p : Addr} {v x y : V} {xs : List V} {d : PyData} {ds : List PyData}
/-! new things -/
theorem s_tup (h : Hd X H) (k : ∀ p H', Same H H' → Hd (tq p xs ^ X) H' → Q (.ref p) H') : nTup xs H Q := fun p hp => k p _ (same_new hp) ((h.same (same_new hp)).addQ upd_same)
theorem s_lst (h : Hd X H) (k : ∀ p H', Same H H' → H p = none → Hd (pt p (.lst xs) ^ X) H' → Q (.ref p) H') : nLst xs H Q := fun p hp => k p _ (same_new hp) hp (h.new hp)
theorem s_obj {C : Addr} {R : Addr → Hp → Prop} (h : Hd X H) (k : ∀ x H', Same H H' → H x = none → Hd (ob x C [] ^ X) H' → R x H') : nObj C H R := fun x dx hx hd ne => by
  have k1 : Same H (upd H dx (.own x)) := same_new hd
  have hx1 : (upd H dx (.own x)) x = none := by rw [upd_ne (Ne.symm ne)]; exact hx
  refine k x _ (k1.trans (same_new hx1)) hx ?_
  obtain ⟨F, F1, F2, ⟨f, e⟩, b, dj, g⟩ := (h.same k1).new (o := .ins C dx []) hx1
  exact ⟨F, F1, F2, ⟨f, dx, e⟩, b, dj, g⟩
/-! lists written -/
theorem s_append (h : Hd (pt p (.lst xs) ^ X) H) (hl : xs.length ≤ 100000) (k : ∀ H', TK H H' → Hd (pt p (.lst (xs ++ [x])) ^ X) H' → Q .non H') : rAppend (.ref p) [x] H Q :=
  w_append h.pt hl (k _ h.tkL h.putP)
theorem noLs_app {a b : List PyData} : noLs (a ++ b) = (noLs a && noLs b) := by
  induction a with
  | nil => rfl
  | cons d a ih => rw [List.cons_append, noLs, noLs, ih, Bool.and_assoc]
theorem s_appendD (h : Hd (ls K p ds ^ X) H) (hv : Dp K H x d) (n : noL d = true) (hl : ds.length ≤ 100000) (k : ∀ H', TK H H' → Hd (ls K p (ds ++ [d]) ^ X) H' → Q .non H') : rAppend (.ref p) [x] H Q := by
  obtain ⟨ys, h1, hd⟩ := h.lsP
  have nn := h.lsn
  have e := dps_len hd
  refine w_append h1.pt (by omega) (k _ h1.tkL (h.putL (dps_app hd (.cons hv .nil)) ?_))
  rw [noLs_app, nn, noLs, n]; rfl
theorem s_pop0 (h : Hd (pt p (.lst (x :: xs)) ^ X) H) (k : ∀ H', TK H H' → Hd (pt p (.lst xs) ^ X) H' → Q x H') : rPopAt (.ref p) [.int 0] H Q :=
  w_pop0 h.pt (k _ h.tkL h.putP)
theorem s_pop0D (h : Hd (ls K p (d :: ds) ^ X) H) (k : ∀ x H', TK H H' → Hd (dv K x d ^ ls K p ds ^ X) H' → Q x H') : rPopAt (.ref p) [.int 0] H Q := by
  obtain ⟨ys, h1, hd⟩ := h.lsP
  have nn := h.lsn
  rw [noLs, Bool.and_eq_true] at nn
  obtain ⟨v, ws, rfl, h2, h3⟩ := dps_cons hd
  exact w_pop0 h1.pt (k v _ h1.tkL ((h.putL h3 nn.2).addD (dp_tk h1.tkL h2 nn.1) nn.1))
theorem s_setL {i : Int} {n : Nat} {R : Hp → Prop} (h : Hd (pt p (.lst xs) ^ X) H) (hi : ixN xs.length i = some n) (k : ∀ H', TK H H' → Hd (pt p (.lst (xs.set n v)) ^ X) H' → R H') : rSetL (.ref p) (.int i) v H R :=
  w_setL h.pt hi (k _ h.tkL h.putP)
theorem s_set4_0 {a b c d : V} {R : Hp → Prop} (h : Hd (pt p (.lst [a, b, c, d]) ^ X) H) (k : ∀ H', TK H H' → Hd (pt p (.lst [v, b, c, d]) ^ X) H' → R H') : rSetL (.ref p) (.int 0) v H R := w_set4_0 h.pt (k _ h.tkL h.putP)
theorem s_set4_1 {a b c d : V} {R : Hp → Prop} (h : Hd (pt p (.lst [a, b, c, d]) ^ X) H) (k : ∀ H', TK H H' → Hd (pt p (.lst [a, v, c, d]) ^ X) H' → R H') : rSetL (.ref p) (.int 1) v H R := w_set4_1 h.pt (k _ h.tkL h.putP)
theorem s_set4_2 {a b c d : V} {R : Hp → Prop} (h : Hd (pt p (.lst [a, b, c, d]) ^ X) H) (k : ∀ H', TK H H' → Hd (pt p (.lst [a, b, v, d]) ^ X) H' → R H') : rSetL (.ref p) (.int 2) v H R := w_set4_2 h.pt (k _ h.tkL h.putP)
theorem s_set4_3 {a b c d : V} {R : Hp → Prop} (h : Hd (pt p (.lst [a, b, c, d]) ^ X) H) (k : ∀ H', TK H H' → Hd (pt p (.lst [a, b, c, v]) ^ X) H' → R H') : rSetL (.ref p) (.int 3) v H R := w_set4_3 h.pt (k _ h.tkL h.putP)
/-! fields -/
variable {C : Addr} {fs fs' : List (Str × V)} {f : Str}
theorem s_gf (h : Hd (ob p C fs ^ X) H) (hl : fs.lookup f = some v) (k : Q v H) : GF C f (.ref p) H Q := by
  obtain ⟨dx, e⟩ := h.ob
  exact ⟨p, dx, fs, v, rfl, e, hl, k⟩
theorem s_gm {R : Prop} (h : Hd (ob p C fs ^ X) H) (hl : fs.lookup f = none) (k : R) : GM C f (.ref p) H R := by
  obtain ⟨dx, e⟩ := h.ob
  exact ⟨p, dx, fs, rfl, e, hl, k⟩
theorem s_sf {R : Hp → Prop} (h : Hd (ob p C fs ^ X) H) (hf : putF f y fs = fs' ∧ fs.length < 1000) (k : ∀ H', TK H H' → Hd (ob p C fs' ^ X) H' → R H') : SF C f (.ref p) y H R := by
  obtain ⟨dx, e⟩ := h.ob
  refine ⟨p, dx, fs, rfl, e, hf.2, ?_⟩
  rw [hf.1]
  exact k _ (tk_wI e) (h.putO e)
/-- x.f += e of a slot x -/
theorem w_sfldaugV {i : Nat} {tv : TE} {D : Ends} {rd : V → V → Hp → VK → Prop} (e : σ[i]? = some (some (.ref p))) (h : GF C f (.ref p) H fun v H1' => tv σ H1' fun y H2 => rd v y H2 fun z H3 => ∃ dx' fs', H3 p = some (.ins C dx' fs') ∧ fs'.length < 1000 ∧ D.nx σ (upd H3 p (.ins C dx' (putF f z fs')))) : sFldAugC C (tVar i) tv rd f D σ H := by
  obtain ⟨a, dx, fs, v, e1, e2, l, q⟩ := h
  cases e1
  exact ⟨.ref p, e, p, dx, fs, v, rfl, e2, l, q⟩
def SQ (C : Addr) (f : Str) (p : Addr) (z : V) (H : Hp) (R : Hp → Prop) : Prop := ∃ dx' fs', H p = some (.ins C dx' fs') ∧ fs'.length < 1000 ∧ R (upd H p (.ins C dx' (putF f z fs')))
theorem w_sfldaugQ {i : Nat} {tv : TE} {D : Ends} {rd : V → V → Hp → VK → Prop} (e : σ[i]? = some (some (.ref p))) (h : GF C f (.ref p) H fun v H1' => tv σ H1' fun y H2 => rd v y H2 fun z H3 => SQ C f p z H3 (D.nx σ)) : sFldAugC C (tVar i) tv rd f D σ H := w_sfldaugV e h
theorem s_sq {R : Hp → Prop} (h : Hd (ob p C fs ^ X) H) (hf : putF f y fs = fs' ∧ fs.length < 1000) (k : ∀ H', TK H H' → Hd (ob p C fs' ^ X) H' → R H') : SQ C f p y H R := by
  obtain ⟨dx, e⟩ := h.ob
  refine ⟨dx, fs, e, hf.2, ?_⟩
  rw [hf.1]
  exact k _ (tk_wI e) (h.putO e)
end
/-! comprehensions -/
section
variable {K : PySem.W.Frag} {σ : L2.St} {H : Hp} {Q : VK} {tt : TT} {te : TE} {j : Nat} {vs : List Nat} {a : Addr} {xs : List V} {n : Nat}
/-- over a list; S: what stands behind so many turns, with what has been made -/
theorem lcs_Lt (S : Nat → List V → Res) (hw : ∀ x, wipe ((wipe σ vs).set j (some x)) vs = wipe σ vs) (h0 : Hd (S 0 []) H) (hx : ∀ i ys H1 (Z : Res), Hd (S i ys ^ Z) H1 → SqL K H1 a xs) (hz : xs.length ≤ 1000000)
    (turn : ∀ i x ys H1 (T : VK) (N : Hp → Prop) (Z : Res), xs[i]? = some x → ys.length ≤ i → Hd (S i ys ^ Z) H1 → (∀ y H2, Hd (S (i + 1) (ys ++ [y]) ^ Z) H2 → T y H2) → (∀ H2, Hd (S (i + 1) ys ^ Z) H2 → N H2) →
      tt ((wipe σ vs).set j (some x)) H1 fun b H2 => if b = true then te ((wipe σ vs).set j (some x)) H2 T else N H2)
    (k : ∀ p ys H1, ys.length ≤ xs.length → Hd (pt p (.lst ys) ^ S xs.length ys) H1 → Q (.ref p) H1) : LcB (Itl K a) (gName j) tt te vs σ Q H := by
  intro D hD
  refine lc_list (xs := xs) (fun i H' => ∃ ys, ys.length ≤ i ∧ Hd (pt D (.lst ys) ^ S i ys) H') ⟨[], Nat.le_refl _, h0.new hD⟩ (fun i H' _ p => ?_) (fun i x H' hi p => ?_) (fun H' p => ?_)
  · obtain ⟨ys, _, h⟩ := p
    exact hx i ys H' _ (hd_eq h (star_comm ..))
  · obtain ⟨ys, hl, h⟩ := p
    have hi' := (List.getElem?_eq_some_iff.mp hi).1
    refine ⟨hw x, turn i x ys H' _ _ (pt D (.lst ys)) hi hl (hd_eq h (star_comm ..)) (fun y H3 h3 => ?_) fun H2 h2 => ?_⟩
    · have h4 := hd_eq h3 (star_comm _ _)
      exact ⟨ys, h4.pt, Nat.lt_of_le_of_lt (show ys.length ≤ 1000000 by omega) (by decide), ys ++ [y], by simp; omega, h4.putP⟩
    · exact ⟨ys, by omega, hd_eq h2 (star_comm _ _)⟩
  · obtain ⟨ys, hl, h⟩ := p
    exact k D ys H' hl h
theorem lcs_L (S : Nat → List V → Res) (hw : ∀ x, wipe ((wipe σ vs).set j (some x)) vs = wipe σ vs) (h0 : Hd (S 0 []) H) (hx : ∀ i ys H1 (Z : Res), Hd (S i ys ^ Z) H1 → SqL K H1 a xs) (hz : xs.length ≤ 1000000)
    (turn : ∀ i x ys H1 (T : VK) (Z : Res), xs[i]? = some x → ys.length = i → Hd (S i ys ^ Z) H1 → (∀ y H2, Hd (S (i + 1) (ys ++ [y]) ^ Z) H2 → T y H2) → te ((wipe σ vs).set j (some x)) H1 T)
    (k : ∀ p ys H1, ys.length = xs.length → Hd (pt p (.lst ys) ^ S xs.length ys) H1 → Q (.ref p) H1) : LcB (Itl K a) (gName j) tYes te vs σ Q H := by
  intro D hD
  refine lc_list (xs := xs) (fun i H' => ∃ ys, ys.length = i ∧ Hd (pt D (.lst ys) ^ S i ys) H') ⟨[], rfl, h0.new hD⟩ (fun i H' _ p => ?_) (fun i x H' hi p => ?_) (fun H' p => ?_)
  · obtain ⟨ys, _, h⟩ := p
    exact hx i ys H' _ (hd_eq h (star_comm ..))
  · obtain ⟨ys, hl, h⟩ := p
    have hi' := (List.getElem?_eq_some_iff.mp hi).1
    refine ⟨hw x, ?_⟩
    show te ((wipe σ vs).set j (some x)) H' fun y H4 => _
    refine turn i x ys H' _ (pt D (.lst ys)) hi hl (hd_eq h (star_comm ..)) fun y H3 h3 => ?_
    have h4 := hd_eq h3 (star_comm _ _)
    exact ⟨ys, h4.pt, Nat.lt_of_le_of_lt (show ys.length ≤ 1000000 by omega) (by decide), ys ++ [y], by simp; omega, h4.putP⟩
  · obtain ⟨ys, hl, h⟩ := p
    exact k D ys H' hl h
theorem lcs_T (S : Nat → List V → Res) (hw : ∀ x, wipe ((wipe σ vs).set j (some x)) vs = wipe σ vs) (h0 : Hd (S 0 []) H) (hx : SqT K H a xs) (hz : xs.length ≤ 1000000)
    (turn : ∀ i x ys H1 (T : VK) (Z : Res), xs[i]? = some x → ys.length = i → Hd (S i ys ^ Z) H1 → (∀ y H2, Hd (S (i + 1) (ys ++ [y]) ^ Z) H2 → T y H2) → te ((wipe σ vs).set j (some x)) H1 T)
    (k : ∀ p ys H1, ys.length = xs.length → Hd (pt p (.lst ys) ^ S xs.length ys) H1 → Q (.ref p) H1) : LcB (Itt K a) (gName j) tYes te vs σ Q H := by
  intro D hD
  refine lc_tup (xs := xs) (fun i H' => ∃ ys, ys.length = i ∧ Hd (tp K a xs ^ pt D (.lst ys) ^ S i ys) H') ⟨[], rfl, (h0.new hD).addT (same_t (same_new hD) hx)⟩ (fun i H' _ p => ?_) (fun i x H' hi p => ?_) (fun H' p => ?_)
  · obtain ⟨ys, _, h⟩ := p
    exact h.tp
  · obtain ⟨ys, hl, h⟩ := p
    have hi' := (List.getElem?_eq_some_iff.mp hi).1
    refine ⟨hw x, ?_⟩
    show te ((wipe σ vs).set j (some x)) H' fun y H4 => _
    refine turn i x ys H' _ (tp K a xs ^ pt D (.lst ys)) hi hl (hd_eq h (by ac_rfl)) fun y H3 h3 => ?_
    have h4 : Hd (pt D (.lst ys) ^ tp K a xs ^ S (i + 1) (ys ++ [y])) H3 := hd_eq h3 (by ac_rfl)
    exact ⟨ys, h4.pt, Nat.lt_of_le_of_lt (show ys.length ≤ 1000000 by omega) (by decide), ys ++ [y], by simp; omega, hd_eq h4.putP (by ac_rfl)⟩
  · obtain ⟨ys, hl, h⟩ := p
    exact k D ys H' hl h.tail
theorem lcs_R (S : Nat → List V → Res) (hw : ∀ x, wipe ((wipe σ vs).set j (some x)) vs = wipe σ vs) (h0 : Hd (S 0 []) H) (hz : n ≤ 1000000)
    (turn : ∀ i ys H1 (T : VK) (Z : Res), i < n → ys.length = i → Hd (S i ys ^ Z) H1 → (∀ y H2, Hd (S (i + 1) (ys ++ [y]) ^ Z) H2 → T y H2) → te ((wipe σ vs).set j (some (.int (i : Int)))) H1 T)
    (k : ∀ p ys H1, ys.length = n → Hd (pt p (.lst ys) ^ S n ys) H1 → Q (.ref p) H1) : LcB (Itr 0 n) (gName j) tYes te vs σ Q H := by
  intro D hD
  refine lc_range (lo := 0) (n := n) (fun i H' => ∃ ys, ys.length = i ∧ Hd (pt D (.lst ys) ^ S i ys) H') ⟨[], rfl, h0.new hD⟩ (fun i H' hi p => ?_) (fun H' p => ?_)
  · obtain ⟨ys, hl, h⟩ := p
    refine ⟨hw _, ?_⟩
    rw [Int.zero_add]
    show te ((wipe σ vs).set j (some (.int (i : Int)))) H' fun y H4 => _
    refine turn i ys H' _ (pt D (.lst ys)) hi hl (hd_eq h (star_comm ..)) fun y H3 h3 => ?_
    have h4 := hd_eq h3 (star_comm _ _)
    exact ⟨ys, h4.pt, Nat.lt_of_le_of_lt (show ys.length ≤ 1000000 by omega) (by decide), ys ++ [y], by simp; omega, h4.putP⟩
  · obtain ⟨ys, hl, h⟩ := p
    exact k D ys H' hl h
end
end FL

/-! plain law: deeds on lines, one behind another; the grid of what two seats have done -/
namespace FL
inductive Deed where
  | put (p c : Nat) | cut (p : Nat) | non
  deriving DecidableEq
abbrev Ln := List Nat
/-- the line behind a deed -/
def dn (l : Ln) : Deed → Ln
  | .put p c => l.take p ++ c :: l.drop p
  | .cut p => l.take p ++ l.drop (p + 1)
  | .non => l
/-- it can be done -/
def cn (l : Ln) : Deed → Bool
  | .put p _ => decide (p ≤ l.length)
  | .cut p => decide (p < l.length)
  | .non => true
/-- a deed behind another one; first: it is seat 0's -/
def mv (a b : Deed) (first : Bool) : Deed :=
  match a, b with
  | .non, _ => .non
  | a, .non => a
  | .put p c, .put q _ => if q < p ∨ (q = p ∧ first = false) then .put (p + 1) c else .put p c
  | .put p c, .cut q => if q < p then .put (p - 1) c else .put p c
  | .cut p, .put q _ => if q < p ∨ q = p then .cut (p + 1) else .cut p
  | .cut p, .cut q => if q < p then .cut (p - 1) else if q = p then .non else .cut p
theorem get_put {l : Ln} {p c i : Nat} (h : p ≤ l.length) : (l.take p ++ c :: l.drop p)[i]? = if i < p then l[i]? else if i = p then some c else l[i - 1]? := by
  have hl : (l.take p).length = p := by rw [List.length_take]; omega
  by_cases h1 : i < p
  · rw [if_pos h1, List.getElem?_append_left (by omega), List.getElem?_take, if_pos h1]
  · rw [if_neg h1, List.getElem?_append_right (by omega), hl]
    by_cases h2 : i = p
    · rw [if_pos h2, h2, Nat.sub_self]; rfl
    · rw [if_neg h2]
      obtain ⟨k, rfl⟩ : ∃ k, i = p + 1 + k := ⟨i - p - 1, by omega⟩
      rw [show p + 1 + k - p = k + 1 by omega, List.getElem?_cons_succ, List.getElem?_drop]
      congr 1; omega
theorem get_cut {l : Ln} {p i : Nat} : (l.take p ++ l.drop (p + 1))[i]? = if i < p then l[i]? else l[i + 1]? := by
  by_cases hp : p ≤ l.length
  · have hl : (l.take p).length = p := by rw [List.length_take]; omega
    by_cases h1 : i < p
    · rw [if_pos h1, List.getElem?_append_left (by omega), List.getElem?_take, if_pos h1]
    · rw [if_neg h1, List.getElem?_append_right (by omega), hl, List.getElem?_drop]
      congr 1; omega
  · have e1 : l.take p = l := List.take_of_length_le (by omega)
    have e2 : l.drop (p + 1) = [] := List.drop_of_length_le (by omega)
    rw [e1, e2, List.append_nil]
    by_cases h1 : i < p
    · rw [if_pos h1]
    · rw [if_neg h1, List.getElem?_eq_none (by omega), List.getElem?_eq_none (by omega)]
theorem len_dn {l : Ln} {a : Deed} (h : cn l a = true) : (dn l a).length = match a with | .put _ _ => l.length + 1 | .cut _ => l.length - 1 | .non => l.length := by
  cases a with
  | put p c => simp [cn] at h; simp [dn]; omega
  | cut p => simp [cn] at h; simp [dn]; omega
  | non => rfl
theorem get_dn {l : Ln} {a : Deed} (h : cn l a = true) (i : Nat) : (dn l a)[i]? = match a with
    | .put p c => if i < p then l[i]? else if i = p then some c else l[i - 1]?
    | .cut p => if i < p then l[i]? else l[i + 1]?
    | .non => l[i]? := by
  cases a with
  | put p c => simp [cn] at h; exact get_put h
  | cut p => exact get_cut
  | non => rfl
theorem cn_put {l : Ln} {p c : Nat} : cn l (.put p c) = true ↔ p ≤ l.length := by simp [cn]
theorem cn_cut {l : Ln} {p : Nat} : cn l (.cut p) = true ↔ p < l.length := by simp [cn]
theorem cn_non {l : Ln} : cn l .non = true := rfl
theorem len_put {l : Ln} {p c : Nat} (h : p ≤ l.length) : (dn l (.put p c)).length = l.length + 1 := len_dn (cn_put.mpr h)
theorem len_cut {l : Ln} {p : Nat} (h : p < l.length) : (dn l (.cut p)).length = l.length - 1 := len_dn (cn_cut.mpr h)
theorem gp {l : Ln} {p c : Nat} (h : p ≤ l.length) (i : Nat) : (dn l (.put p c))[i]? = if i < p then l[i]? else if i = p then some c else l[i - 1]? := get_put h
theorem gc {l : Ln} {p : Nat} (i : Nat) : (dn l (.cut p))[i]? = if i < p then l[i]? else l[i + 1]? := get_cut
theorem mpp {p c q d : Nat} {f : Bool} : mv (.put p c) (.put q d) f = if q < p ∨ (q = p ∧ f = false) then .put (p + 1) c else .put p c := rfl
theorem mpc {p c q : Nat} {f : Bool} : mv (.put p c) (.cut q) f = if q < p then .put (p - 1) c else .put p c := rfl
theorem mcp {p q d : Nat} {f : Bool} : mv (.cut p) (.put q d) f = if q < p ∨ q = p then .cut (p + 1) else .cut p := rfl
theorem mcc {p q : Nat} {f : Bool} : mv (.cut p) (.cut q) f = if q < p then .cut (p - 1) else if q = p then .non else .cut p := rfl
def Tp (l : Ln) (a b : Deed) : Prop := cn (dn l a) (mv b a false) = true ∧ cn (dn l b) (mv a b true) = true ∧ dn (dn l a) (mv b a false) = dn (dn l b) (mv a b true)
theorem tp_pp {l : Ln} {p c q d : Nat} (h1 : p ≤ l.length) (h2 : q ≤ l.length) : Tp l (.put p c) (.put q d) := by
  have l1 := len_put (c := c) h1
  have l2 := len_put (c := d) h2
  by_cases h : p ≤ q
  · have e1 : mv (.put q d) (.put p c) false = .put (q + 1) d := by rw [mpp]; exact if_pos (by rcases Nat.lt_or_eq_of_le h with h | h; exact .inl h; exact .inr ⟨h, rfl⟩)
    have e2 : mv (.put p c) (.put q d) true = .put p c := by rw [mpp]; exact if_neg (by simp; omega)
    unfold Tp
    rw [e1, e2]
    refine ⟨cn_put.mpr (by omega), cn_put.mpr (by omega), List.ext_getElem? fun i => ?_⟩
    rw [gp (l := dn l (.put p c)) (by omega), gp (l := dn l (.put q d)) (by omega)]
    simp only [gp h1, gp h2]
    repeat' split
    all_goals first | rfl | omega | (congr 1; omega)
  · have e1 : mv (.put q d) (.put p c) false = .put q d := by rw [mpp]; exact if_neg (by omega)
    have e2 : mv (.put p c) (.put q d) true = .put (p + 1) c := by rw [mpp]; exact if_pos (by omega)
    unfold Tp
    rw [e1, e2]
    refine ⟨cn_put.mpr (by omega), cn_put.mpr (by omega), List.ext_getElem? fun i => ?_⟩
    rw [gp (l := dn l (.put p c)) (by omega), gp (l := dn l (.put q d)) (by omega)]
    simp only [gp h1, gp h2]
    repeat' split
    all_goals first | rfl | omega | (congr 1; omega)
theorem tp_pc {l : Ln} {p c q : Nat} (h1 : p ≤ l.length) (h2 : q < l.length) : Tp l (.put p c) (.cut q) := by
  have l1 := len_put (c := c) h1
  have l2 := len_cut h2
  by_cases h : q < p
  · have e1 : mv (.cut q) (.put p c) false = .cut q := by rw [mcp]; exact if_neg (by omega)
    have e2 : mv (.put p c) (.cut q) true = .put (p - 1) c := by rw [mpc]; exact if_pos h
    unfold Tp
    rw [e1, e2]
    refine ⟨cn_cut.mpr (by omega), cn_put.mpr (by omega), List.ext_getElem? fun i => ?_⟩
    rw [gc (l := dn l (.put p c)), gp (l := dn l (.cut q)) (by omega)]
    simp only [gp h1, gc]
    repeat' split
    all_goals first | rfl | omega | (congr 1; omega)
  · have e1 : mv (.cut q) (.put p c) false = .cut (q + 1) := by rw [mcp]; exact if_pos (by omega)
    have e2 : mv (.put p c) (.cut q) true = .put p c := by rw [mpc]; exact if_neg h
    unfold Tp
    rw [e1, e2]
    refine ⟨cn_cut.mpr (by omega), cn_put.mpr (by omega), List.ext_getElem? fun i => ?_⟩
    rw [gc (l := dn l (.put p c)), gp (l := dn l (.cut q)) (by omega)]
    simp only [gp h1, gc]
    repeat' split
    all_goals first | rfl | omega | (congr 1; omega)
theorem tp_cp {l : Ln} {p q d : Nat} (h1 : p < l.length) (h2 : q ≤ l.length) : Tp l (.cut p) (.put q d) := by
  have l1 := len_cut h1
  have l2 := len_put (c := d) h2
  by_cases h : p < q
  · have e1 : mv (.put q d) (.cut p) false = .put (q - 1) d := by rw [mpc]; exact if_pos h
    have e2 : mv (.cut p) (.put q d) true = .cut p := by rw [mcp]; exact if_neg (by omega)
    unfold Tp
    rw [e1, e2]
    refine ⟨cn_put.mpr (by omega), cn_cut.mpr (by omega), List.ext_getElem? fun i => ?_⟩
    rw [gp (l := dn l (.cut p)) (by omega), gc (l := dn l (.put q d))]
    simp only [gp h2, gc]
    repeat' split
    all_goals first | rfl | omega | (congr 1; omega)
  · have e1 : mv (.put q d) (.cut p) false = .put q d := by rw [mpc]; exact if_neg h
    have e2 : mv (.cut p) (.put q d) true = .cut (p + 1) := by rw [mcp]; exact if_pos (by omega)
    unfold Tp
    rw [e1, e2]
    refine ⟨cn_put.mpr (by omega), cn_cut.mpr (by omega), List.ext_getElem? fun i => ?_⟩
    rw [gp (l := dn l (.cut p)) (by omega), gc (l := dn l (.put q d))]
    simp only [gp h2, gc]
    repeat' split
    all_goals first | rfl | omega | (congr 1; omega)
theorem tp_cc {l : Ln} {p q : Nat} (h1 : p < l.length) (h2 : q < l.length) : Tp l (.cut p) (.cut q) := by
  have l1 := len_cut h1
  have l2 := len_cut h2
  by_cases h : p < q
  · have e1 : mv (.cut q) (.cut p) false = .cut (q - 1) := by rw [mcc]; exact if_pos h
    have e2 : mv (.cut p) (.cut q) true = .cut p := by rw [mcc, if_neg (by omega)]; exact if_neg (by omega)
    unfold Tp
    rw [e1, e2]
    refine ⟨cn_cut.mpr (by omega), cn_cut.mpr (by omega), List.ext_getElem? fun i => ?_⟩
    simp only [gc]
    repeat' split
    all_goals first | rfl | omega | (congr 1; omega)
  · by_cases h' : p = q
    · subst h'
      have e1 : ∀ f, mv (.cut p) (.cut p) f = .non := by intro f; rw [mcc, if_neg (by omega)]; exact if_pos rfl
      unfold Tp
      rw [e1, e1]
      exact ⟨rfl, rfl, rfl⟩
    · have e1 : mv (.cut q) (.cut p) false = .cut q := by rw [mcc, if_neg h]; exact if_neg h'
      have e2 : mv (.cut p) (.cut q) true = .cut (p - 1) := by rw [mcc]; exact if_pos (by omega)
      unfold Tp
      rw [e1, e2]
      refine ⟨cn_cut.mpr (by omega), cn_cut.mpr (by omega), List.ext_getElem? fun i => ?_⟩
      simp only [gc]
      repeat' split
      all_goals first | rfl | omega | (congr 1; omega)
theorem mv_non (a : Deed) (f : Bool) : mv a .non f = a := by cases a <;> rfl
theorem non_mv (a : Deed) (f : Bool) : mv .non a f = .non := by cases a <;> rfl
/-- either way about: seat 0's a, seat 1's b -/
theorem tp1 {l : Ln} {a b : Deed} (ha : cn l a = true) (hb : cn l b = true) : Tp l a b := by
  cases a with
  | non => unfold Tp; rw [mv_non, non_mv]; exact ⟨hb, rfl, rfl⟩
  | put p c => cases b with
    | put q d => exact tp_pp (cn_put.mp ha) (cn_put.mp hb)
    | cut q => exact tp_pc (cn_put.mp ha) (cn_cut.mp hb)
    | non => unfold Tp; rw [mv_non, non_mv]; exact ⟨rfl, ha, rfl⟩
  | cut p => cases b with
    | put q d => exact tp_cp (cn_cut.mp ha) (cn_put.mp hb)
    | cut q => exact tp_cc (cn_cut.mp ha) (cn_cut.mp hb)
    | non => unfold Tp; rw [mv_non, non_mv]; exact ⟨rfl, ha, rfl⟩

/-! ### rows, a deed that comes -/
def rowDn (l : Ln) : List Deed → Ln
  | [] => l
  | d :: r => rowDn (dn l d) r
def rowCn (l : Ln) : List Deed → Bool
  | [] => true
  | d :: r => cn l d && rowCn (dn l d) r
theorem rowDn_app (l : Ln) (a b : List Deed) : rowDn l (a ++ b) = rowDn (rowDn l a) b := by
  induction a generalizing l with
  | nil => rfl
  | cons x a ih => exact ih (dn l x)
theorem rowCn_app {l : Ln} {a b : List Deed} : rowCn l (a ++ b) = true ↔ rowCn l a = true ∧ rowCn (rowDn l a) b = true := by
  induction a generalizing l with
  | nil => simp [rowCn, rowDn]
  | cons x a ih => simp only [List.cons_append, rowCn, rowDn, Bool.and_eq_true, ih]; exact and_assoc.symm
theorem rowCn_cons {l : Ln} {d : Deed} {r : List Deed} : rowCn l (d :: r) = true ↔ cn l d = true ∧ rowCn (dn l d) r = true := by simp [rowCn]
/-- a deed of the other seat behind pending ones, and these behind it; z: the pending ones are seat 0's -/
def come (z : Bool) : Deed → List Deed → Deed × List Deed
  | d, [] => (d, [])
  | d, w :: r => ((come z (mv d w (!z)) r).1, mv w d z :: (come z (mv d w (!z)) r).2)
theorem come_len (z : Bool) : ∀ (d : Deed) (w : List Deed), (come z d w).2.length = w.length
  | _, [] => rfl
  | d, w :: r => by simp [come, come_len z (mv d w (!z)) r]
theorem come_app (z : Bool) : ∀ (d : Deed) (a b : List Deed), come z d (a ++ b) = ((come z (come z d a).1 b).1, (come z d a).2 ++ (come z (come z d a).1 b).2)
  | _, [], _ => rfl
  | d, w :: a, b => by simp only [List.cons_append, come, come_app z (mv d w (!z)) a b]
theorem tpz (z : Bool) {l : Ln} {w d : Deed} (hw : cn l w = true) (hd : cn l d = true) :
    cn (dn l w) (mv d w (!z)) = true ∧ cn (dn l d) (mv w d z) = true ∧ dn (dn l w) (mv d w (!z)) = dn (dn l d) (mv w d z) := by
  cases z with
  | true => exact tp1 hw hd
  | false => obtain ⟨h1, h2, h3⟩ := tp1 hd hw; exact ⟨h2, h1, h3.symm⟩
theorem come_tp (z : Bool) : ∀ {l : Ln} {d : Deed} {w : List Deed}, rowCn l w = true → cn l d = true →
    cn (rowDn l w) (come z d w).1 = true ∧ rowCn (dn l d) (come z d w).2 = true ∧ rowDn (dn l d) (come z d w).2 = dn (rowDn l w) (come z d w).1
  | _, _, [], _, hd => ⟨hd, rfl, rfl⟩
  | l, d, w :: r, hw, hd => by
    obtain ⟨h1, h2⟩ := rowCn_cons.mp hw
    obtain ⟨t1, t2, t3⟩ := tpz z h1 hd
    obtain ⟨i1, i2, i3⟩ := come_tp z h2 t1
    refine ⟨i1, rowCn_cons.mpr ⟨t2, by rw [← t3]; exact i2⟩, ?_⟩
    show rowDn (dn (dn l d) (mv w d z)) _ = _
    rw [← t3]; exact i3
/-- the letters F come one by one to a seat whose pending deeds from Z on are pre (from the number h on): so moved they are b -/
def Conv (z : Bool) : Ln → Nat → List Deed → List (Nat × Deed) → List Deed → Prop
  | _, _, _, [], b => b = []
  | Z, h, pre, (u, d) :: F, b => h ≤ u ∧ u ≤ h + pre.length ∧ cn (rowDn Z (pre.take (u - h))) d = true ∧ ∃ bt, b = (come z d (pre.drop (u - h))).1 :: bt ∧
    Conv z (dn (rowDn Z (pre.take (u - h))) d) u (come z d (pre.drop (u - h))).2 F bt
theorem Conv.len {z : Bool} : ∀ {F : List (Nat × Deed)} {Z : Ln} {h : Nat} {pre b : List Deed}, Conv z Z h pre F b → b.length = F.length
  | [], _, _, _, _, c => by rw [show _ = [] from c]; rfl
  | (u, d) :: F, _, _, _, _, c => by
    obtain ⟨_, _, _, bt, rfl, c'⟩ := c
    simp [c'.len]
/-- what the first letter brings -/
theorem Conv.step {z : Bool} {Z : Ln} {h u : Nat} {pre : List Deed} {d : Deed} (hp : rowCn Z pre = true) (h1 : h ≤ u) (h2 : u ≤ h + pre.length) (hd : cn (rowDn Z (pre.take (u - h))) d = true) :
    rowCn (dn (rowDn Z (pre.take (u - h))) d) (come z d (pre.drop (u - h))).2 = true ∧ cn (rowDn Z pre) (come z d (pre.drop (u - h))).1 = true ∧
    rowDn (dn (rowDn Z (pre.take (u - h))) d) (come z d (pre.drop (u - h))).2 = dn (rowDn Z pre) (come z d (pre.drop (u - h))).1 := by
  have e : pre.take (u - h) ++ pre.drop (u - h) = pre := List.take_append_drop _ _
  have hp' := hp
  rw [← e] at hp'
  obtain ⟨_, hb⟩ := rowCn_app.mp hp'
  obtain ⟨t1, t2, t3⟩ := come_tp z hb hd
  have e2 : rowDn (rowDn Z (pre.take (u - h))) (pre.drop (u - h)) = rowDn Z pre := by rw [← rowDn_app, e]
  rw [e2] at t1 t3
  exact ⟨t2, t1, t3⟩
theorem Conv.cn {z : Bool} : ∀ {F : List (Nat × Deed)} {Z : Ln} {h : Nat} {pre b : List Deed}, Conv z Z h pre F b → rowCn Z pre = true → rowCn (rowDn Z pre) b = true
  | [], _, _, _, _, c, _ => by rw [show _ = [] from c]; rfl
  | (u, d) :: F, Z, h, pre, _, c, hp => by
    obtain ⟨h1, h2, hd, bt, rfl, c'⟩ := c
    obtain ⟨s1, s2, s3⟩ := Conv.step (z := z) hp h1 h2 hd
    have i := Conv.cn c' s1
    rw [s3] at i
    exact rowCn_cons.mpr ⟨s2, i⟩
/-- one more letter, made behind all -/
theorem Conv.more {z : Bool} : ∀ {F : List (Nat × Deed)} {Z : Ln} {h : Nat} {pre b : List Deed} {d : Deed}, Conv z Z h pre F b → rowCn Z pre = true → FL.cn (rowDn (rowDn Z pre) b) d = true →
    Conv z Z h pre (F ++ [(h + pre.length, d)]) (b ++ [d])
  | [], Z, h, pre, _, d, c, _, hd => by
    rw [show _ = [] from c] at hd ⊢
    have e : h + pre.length - h = pre.length := by omega
    refine ⟨by omega, Nat.le_refl _, ?_, [], ?_, rfl⟩
    · rw [e, List.take_length]; exact hd
    · rw [e, List.drop_length]; rfl
  | (u, x) :: F, Z, h, pre, _, d, c, hp, hd => by
    obtain ⟨h1, h2, hx, bt, rfl, c'⟩ := c
    obtain ⟨s1, s2, s3⟩ := Conv.step (z := z) hp h1 h2 hx
    refine ⟨h1, h2, hx, bt ++ [d], rfl, ?_⟩
    have i := Conv.more (d := d) c' s1 (by rw [s3]; exact hd)
    have el : u + (come z x (pre.drop (u - h))).2.length = h + pre.length := by rw [come_len, List.length_drop]; omega
    rw [el] at i
    exact i
/-- one more deed pending: the letters' deeds stand moved behind it -/
theorem Conv.push {z : Bool} : ∀ {F : List (Nat × Deed)} {Z : Ln} {h : Nat} {pre b : List Deed} {x : Deed}, Conv z Z h pre F b → Conv z Z h (pre ++ [x]) F (come (!z) x b).2
  | [], _, _, _, _, _, c => by rw [show _ = [] from c]; rfl
  | (u, d) :: F, Z, h, pre, _, x, c => by
    obtain ⟨h1, h2, hd, bt, rfl, c'⟩ := c
    have e1 : (pre ++ [x]).take (u - h) = pre.take (u - h) := List.take_append_of_le_length (by omega)
    have e2 : (pre ++ [x]).drop (u - h) = pre.drop (u - h) ++ [x] := List.drop_append_of_le_length (by omega)
    have i := Conv.push (x := mv x (come z d (pre.drop (u - h))).1 z) c'
    refine ⟨h1, by rw [List.length_append]; omega, by rw [e1]; exact hd, ?_⟩
    rw [e1, e2, come_app]
    simp only [come, Bool.not_not]
    exact ⟨_, rfl, i⟩

/-! ### two seats and the letters that are to be taken -/
structure Letter where
  made : Nat
  taken : Nat
  deed : Deed
  mark : Nat
structure Seat where
  text : Ln
  made : Nat
  taken : Nat
  heard : Nat
  wait : List Deed
  own : Nat
  far : Nat
/-- a mark behind a deed -/
def mkMv (p : Nat) (d : Deed) (first : Bool) : Nat :=
  match mv (.put p 32) d first with
  | .put q _ => q
  | _ => 0
def ownAt (s : Seat) : Deed → Nat
  | .put p _ => p + 1
  | .cut p => p
  | .non => s.own
/-- a deed typed; z: at seat 0 -/
def mkS (z : Bool) (s : Seat) (d : Deed) : Seat :=
  { s with text := dn s.text d, own := ownAt s d, far := mkMv s.far d (!z), wait := s.wait ++ [d], made := s.made + 1 }
def mkL (s : Seat) (d : Deed) : Letter := ⟨s.made, s.taken, d, ownAt s d⟩
/-- a letter taken -/
def tkW (z : Bool) (s : Seat) (l : Letter) : Deed × List Deed := come z l.deed (s.wait.drop (l.taken - s.heard))
def tkS (z : Bool) (s : Seat) (l : Letter) : Seat :=
  { s with text := dn s.text (tkW z s l).1, own := mkMv s.own (tkW z s l).1 z, far := (tkW z s l).2.foldl (fun m o => mkMv m o (!z)) l.mark, heard := l.taken, taken := s.taken + 1, wait := (tkW z s l).2 }
def newSeat (l : Ln) : Seat := ⟨l, 0, 0, 0, [], l.length, l.length⟩
theorem mkMv_le {p : Nat} {d : Deed} {f : Bool} {l : Ln} (h : p ≤ l.length) (hd : cn l d = true) : mkMv p d f ≤ (dn l d).length := by
  unfold mkMv
  cases d with
  | put q c =>
    have := len_put (c := c) (cn_put.mp hd)
    rw [mpp]; split
    · rename_i x hx; split at hx <;> (cases hx; omega)
    · omega
  | cut q =>
    have := len_cut (cn_cut.mp hd)
    have := cn_cut.mp hd
    rw [mpc]; split
    · rename_i x hx; split at hx <;> (cases hx; omega)
    · omega
  | non => rw [mv_non]; exact h
def uds (fs : List Letter) : List (Nat × Deed) := fs.map fun l => (l.taken, l.deed)
def Numbered : Nat → List Letter → Prop
  | _, [] => True
  | n, l :: r => l.made = n ∧ Numbered (n + 1) r
theorem Numbered.more {l : Letter} : ∀ {fs : List Letter} {n : Nat}, Numbered n fs → l.made = n + fs.length → Numbered n (fs ++ [l])
  | [], _, _, h => ⟨h, trivial⟩
  | x :: r, n, ⟨h1, h2⟩, h => ⟨h1, Numbered.more h2 (by rw [h, List.length_cons]; omega)⟩
/-- s with the letters fs that t has not taken, t with the letters ft that s has not taken; z: s is seat 0 -/
structure Duo (z : Bool) (s t : Seat) (fs ft : List Letter) : Prop where
  ex : ∃ M a b Zs ps Zt pt, s.wait = ps ++ a ∧ t.wait = pt ++ b ∧ s.text = rowDn M a ∧ t.text = rowDn M b ∧ rowCn M a = true ∧ rowCn M b = true ∧ rowCn Zs ps = true ∧ M = rowDn Zs ps ∧ rowCn Zt pt = true ∧ M = rowDn Zt pt ∧
    Conv z Zs s.heard ps (uds ft) b ∧ Conv (!z) Zt t.heard pt (uds fs) a ∧ s.heard + ps.length = t.taken ∧ t.heard + pt.length = s.taken
  ms : s.made = t.taken + fs.length
  mt : t.made = s.taken + ft.length
  ns : Numbered t.taken fs
  nt : Numbered s.taken ft
  os : s.own ≤ s.text.length
  ot : t.own ≤ t.text.length
theorem Duo.swap {z : Bool} {s t : Seat} {fs ft : List Letter} (h : Duo z s t fs ft) : Duo (!z) t s ft fs := by
  obtain ⟨M, a, b, Zs, ps, Zt, pt, h1, h2, h3, h4, h5, h6, h7, h8, h9, h10, h11, h12, h13, h14⟩ := h.ex
  exact ⟨⟨M, b, a, Zt, pt, Zs, ps, h2, h1, h4, h3, h6, h5, h9, h10, h7, h8, h12, by rw [Bool.not_not]; exact h11, h14, h13⟩, h.mt, h.ms, h.nt, h.ns, h.ot, h.os⟩
theorem Duo.new (z : Bool) (l : Ln) : Duo z (newSeat l) (newSeat l) [] [] :=
  ⟨⟨l, [], [], l, [], l, [], rfl, rfl, rfl, rfl, rfl, rfl, rfl, rfl, rfl, rfl, rfl, rfl, rfl, rfl⟩, rfl, rfl, trivial, trivial, Nat.le_refl _, Nat.le_refl _⟩
/-- typed at s -/
theorem Duo.make {z : Bool} {s t : Seat} {fs ft : List Letter} {d : Deed} (h : Duo z s t fs ft) (hd : cn s.text d = true) : Duo z (mkS z s d) t (fs ++ [mkL s d]) ft := by
  obtain ⟨M, a, b, Zs, ps, Zt, pt, h1, h2, h3, h4, h5, h6, h7, h8, h9, h10, h11, h12, h13, h14⟩ := h.ex
  have ha := h12.len
  refine ⟨⟨M, a ++ [d], b, Zs, ps, Zt, pt, ?_, h2, ?_, h4, rowCn_app.mpr ⟨h5, ?_⟩, h6, h7, h8, h9, h10, h11, ?_, h13, h14⟩, ?_, h.mt, h.ns.more h.ms, h.nt, ?_, h.ot⟩
  · show s.wait ++ [d] = _; rw [h1, List.append_assoc]
  · show dn s.text d = _; rw [h3, rowDn_app]; rfl
  · rw [← h3]; exact rowCn_cons.mpr ⟨hd, rfl⟩
  · have e : uds (fs ++ [mkL s d]) = uds fs ++ [(t.heard + pt.length, d)] := by
      show (fs ++ [mkL s d]).map _ = _
      rw [List.map_append, h14]; rfl
    rw [e]
    exact h12.more h9 (by rw [← h10, ← h3]; exact hd)
  · show s.made + 1 = _
    rw [h.ms, List.length_append]; rfl
  · show ownAt s d ≤ (dn s.text d).length
    have := h.os
    cases d with
    | put p c => rw [len_put (cn_put.mp hd)]; have := cn_put.mp hd; show p + 1 ≤ _; omega
    | cut p => rw [len_cut (cn_cut.mp hd)]; have := cn_cut.mp hd; show p ≤ _; omega
    | non => exact this
/-- the next letter comes to s -/
theorem Duo.take {z : Bool} {s t : Seat} {fs ft : List Letter} {l : Letter} (h : Duo z s t fs (l :: ft)) :
    l.made = s.taken ∧ s.heard ≤ l.taken ∧ l.taken ≤ s.made ∧ cn s.text (tkW z s l).1 = true ∧ Duo z (tkS z s l) t fs ft := by
  obtain ⟨M, a, b, Zs, ps, Zt, pt, h1, h2, h3, h4, h5, h6, h7, h8, h9, h10, h11, h12, h13, h14⟩ := h.ex
  obtain ⟨n1, n2⟩ := h.nt
  obtain ⟨u1, u2, hd, bt, rfl, c'⟩ := h11
  obtain ⟨s1, s2, s3⟩ := Conv.step (z := z) h7 u1 u2 hd
  have hms := h.ms
  have edrop : s.wait.drop (l.taken - s.heard) = ps.drop (l.taken - s.heard) ++ a := by
    rw [h1]; exact List.drop_append_of_le_length (by omega)
  obtain ⟨b1, b2⟩ := rowCn_cons.mp h6
  have e0 : tkW z s l = come z l.deed (ps.drop (l.taken - s.heard) ++ a) := by unfold tkW; rw [edrop]
  rw [come_app] at e0
  have es1 : (tkW z s l).1 = (come z (come z l.deed (ps.drop (l.taken - s.heard))).1 a).1 := by rw [e0]
  have es2 : (tkW z s l).2 = (come z l.deed (ps.drop (l.taken - s.heard))).2 ++ (come z (come z l.deed (ps.drop (l.taken - s.heard))).1 a).2 := by rw [e0]
  obtain ⟨t1, t2, t3⟩ := come_tp z h5 b1
  have hcn : cn s.text (tkW z s l).1 = true := by rw [es1, h3]; exact t1
  refine ⟨n1, u1, by omega, hcn, ⟨⟨dn M (come z l.deed (ps.drop (l.taken - s.heard))).1, _, bt, _, _, Zt, pt ++ [(come z l.deed (ps.drop (l.taken - s.heard))).1], es2, ?_, ?_, ?_, t2, b2, s1, ?_, rowCn_app.mpr ⟨h9, ?_⟩, ?_, c', ?_, ?_, ?_⟩, h.ms, ?_, h.ns, n2, ?_, h.ot⟩⟩
  · rw [h2, List.append_assoc]; rfl
  · show dn s.text (tkW z s l).1 = _
    rw [es1, h3]; exact t3.symm
  · rw [h4]; rfl
  · rw [s3, ← h8]
  · rw [← h10]; exact rowCn_cons.mpr ⟨b1, rfl⟩
  · rw [rowDn_app, ← h10]; rfl
  · have p := h12.push (x := (come z l.deed (ps.drop (l.taken - s.heard))).1)
    rw [Bool.not_not] at p
    exact p
  · show l.taken + _ = t.taken
    rw [come_len, List.length_drop]; omega
  · show t.heard + _ = s.taken + 1
    rw [List.length_append]; show t.heard + (pt.length + 1) = _; omega
  · show t.made = s.taken + 1 + ft.length
    have := h.mt
    rw [List.length_cons] at this; omega
  · show mkMv s.own (tkW z s l).1 z ≤ (dn s.text (tkW z s l).1).length
    exact mkMv_le h.os hcn
/-- all taken: one line -/
theorem Duo.rest {z : Bool} {s t : Seat} (h : Duo z s t [] []) : s.text = t.text := by
  obtain ⟨M, a, b, Zs, ps, Zt, pt, h1, h2, h3, h4, h5, h6, h7, h8, h9, h10, h11, h12, h13, h14⟩ := h.ex
  have ea : a = [] := h12
  have eb : b = [] := h11
  rw [h3, h4, ea, eb]
end FL

/-! deeds, letters, events as data -/
namespace FL
open PySem PySem.Spec PyProof.Rows L2 TL
@[reducible] def sgn (c : Nat) : Str := ⟨#[c]⟩
def okC (c : Nat) : Bool := c == 32 || (decide (97 ≤ c) && decide (c ≤ 122))
def Deed.d : Deed → PyData
  | .put p c => .tuple [.str "put", .int (p : Int), .str (sgn c)]
  | .cut p => .tuple [.str "cut", .int (p : Int)]
  | .non => .tuple [.str "none"]
def Deed.okc : Deed → Bool
  | .put _ c => okC c
  | _ => true
/-- its place -/
def Deed.lt (m : Nat) : Deed → Bool
  | .put p _ => decide (p < m)
  | .cut p => decide (p < m)
  | .non => true
def okL (l : Ln) : Bool := l.all okC
def ofL (l : List Nat) : Str := ⟨l.toArray⟩
theorem tl_ofL (l : List Nat) : tl (ofL l) = l := rfl
theorem tl_sgn (c : Nat) : tl (sgn c) = [c] := rfl
theorem tl_empty : tl Str.empty = [] := rfl
theorem eq_ofL {x : Str} {l : List Nat} (h : tl x = l) : x = ofL l := ext_tl (by rw [h]; rfl)
theorem len_ofL (l : List Nat) : (ofL l).length = l.length := by rw [len_tl, tl_ofL]
theorem ofL_inj {a b : List Nat} (h : ofL a = ofL b) : a = b := by rw [← tl_ofL a, h, tl_ofL]
theorem noL_deed (e : Deed) : noL e.d = true := by cases e <;> rfl
theorem okc_mv {a b : Deed} {f : Bool} (h : a.okc = true) : (mv a b f).okc = true := by
  cases a with
  | put p c => cases b <;> simp only [mv] <;> (try split) <;> exact h
  | cut p => cases b <;> simp only [mv] <;> (repeat' split) <;> rfl
  | non => exact h
theorem okL_dn {l : Ln} {a : Deed} (h : okL l = true) (ha : a.okc = true) : okL (dn l a) = true := by
  unfold okL at *
  rw [List.all_eq_true] at *
  intro x hx
  cases a with
  | put p c =>
    simp only [dn, List.mem_append, List.mem_cons] at hx
    rcases hx with hx | rfl | hx
    · exact h x (List.mem_of_mem_take hx)
    · exact ha
    · exact h x (List.mem_of_mem_drop hx)
  | cut p =>
    simp only [dn, List.mem_append] at hx
    rcases hx with hx | hx
    · exact h x (List.mem_of_mem_take hx)
    · exact h x (List.mem_of_mem_drop hx)
  | non => exact h x hx
/-! letters -/
/-- as the program has it -/
def Letter.d (l : Letter) : PyData := .tuple [.int (l.made : Int), .int (l.taken : Int), l.deed.d, .int (l.mark : Int)]
/-- as the law has it -/
def Letter.d3 (l : Letter) : PyData := .tuple [.int (l.made : Int), .int (l.taken : Int), l.deed.d]
theorem noL_letter (l : Letter) : noL l.d = true := by
  unfold Letter.d; simp [noL, noLs, noL_deed]
theorem noL_letter3 (l : Letter) : noL l.d3 = true := by
  unfold Letter.d3; simp [noL, noLs, noL_deed]
theorem noLs_all : ∀ {ds : List PyData}, (∀ d ∈ ds, noL d = true) → noLs ds = true
  | [], _ => rfl
  | d :: ds, h => by rw [noLs, h d (List.mem_cons_self ..), noLs_all fun x hx => h x (List.mem_cons_of_mem _ hx)]; rfl
theorem noLs_map {α : Type} {f : α → PyData} (h : ∀ x, noL (f x) = true) (l : List α) : noLs (l.map f) = true := noLs_all fun d hd => by
  obtain ⟨x, _, rfl⟩ := List.mem_map.mp hd; exact h x
/-! data that may be laid, so deep -/
structure Ly (k : Nat) (d : PyData) : Prop where
  lay : d.canLay0 = true
  dep : d.depth ≤ k
theorem Ly.mono {k m : Nat} {d : PyData} (h : Ly k d) (l : k ≤ m) : Ly m d := ⟨h.lay, Nat.le_trans h.dep l⟩
theorem Ly.shaped {k : Nat} {d : PyData} (h : Ly k d) (hk : k ≤ 64) : SeqAt.shaped d = true := by
  unfold SeqAt.shaped
  rw [h.lay, decide_eq_true (Nat.le_trans h.dep hk)]; rfl
theorem Ly.self {k : Nat} {d : PyData} (h : Ly k d) : PyData.eqv d d = true := SeqAt.eqv_refl d h.lay
theorem ly_int (i : Int) : Ly 0 (.int i) := ⟨by simp [PyData.canLay0], by simp [PyData.depth]⟩
theorem ly_bool (i : Bool) : Ly 0 (.bool i) := ⟨by simp [PyData.canLay0], by simp [PyData.depth]⟩
theorem ly_none : Ly 0 .none := ⟨by simp [PyData.canLay0], by simp [PyData.depth]⟩
theorem ly_str {x : Str} (h : ∀ c ∈ tl x, c < 1114112) : Ly 0 (.str x) := by
  refine ⟨?_, by simp [PyData.depth]⟩
  simp only [PyData.canLay0, PyData.strOk]
  rw [Array.all_eq_true']
  intro c hc
  exact decide_eq_true (h c (by simpa [tl] using hc))
theorem ly_lit {x : Str} (h : (tl x).all (fun c => decide (c < 1114112)) = true) : Ly 0 (.str x) := ly_str fun c hc => of_decide_eq_true (List.all_eq_true.mp h c hc)
theorem okC_lt {c : Nat} (h : okC c = true) : c < 123 := by simp [okC] at h; omega
theorem ly_okL {l : Ln} (h : okL l = true) : Ly 0 (.str (ofL l)) := ly_str fun c hc => Nat.lt_trans (okC_lt (List.all_eq_true.mp h c hc)) (by decide)
section
variable {k : Nat} {ds : List PyData}
theorem ly_all (h : ∀ d ∈ ds, Ly k d) : PyData.canLayAll0 ds = true ∧ PyData.depthAll ds ≤ k := by
  induction ds with
  | nil => exact ⟨by simp [PyData.canLayAll0], by simp [PyData.depthAll]⟩
  | cons d ds ih =>
    obtain ⟨h1, h4⟩ := ih fun x hx => h x (List.mem_cons_of_mem _ hx)
    have hd := h d (List.mem_cons_self ..)
    refine ⟨?_, ?_⟩
    · rw [PyData.canLayAll0, hd.lay, h1]; rfl
    · rw [PyData.depthAll]; exact Nat.max_le.mpr ⟨hd.dep, h4⟩
theorem ly_tup (h : ∀ d ∈ ds, Ly k d) : Ly (k + 1) (.tuple ds) := by
  obtain ⟨h1, h4⟩ := ly_all h
  exact ⟨by rw [PyData.canLay0, h1], by rw [PyData.depth]; omega⟩
theorem ly_lst (h : ∀ d ∈ ds, Ly k d) : Ly (k + 1) (.list ds) := by
  obtain ⟨h1, h4⟩ := ly_all h
  exact ⟨by rw [PyData.canLay0, h1], by rw [PyData.depth]; omega⟩
end
theorem ly_deed {e : Deed} (h : e.okc = true) : Ly 1 e.d := by
  cases e with
  | put p c =>
    refine ly_tup fun d hd => ?_
    simp only [List.mem_cons, List.not_mem_nil, or_false] at hd
    rcases hd with rfl | rfl | rfl
    · exact ly_lit (by decide +kernel)
    · exact ly_int _
    · exact ly_str fun c' hc => by
        simp only [tl_sgn, List.mem_cons, List.not_mem_nil, or_false] at hc
        subst hc; have := okC_lt (c := c') h; omega
  | cut p =>
    refine ly_tup fun d hd => ?_
    simp only [List.mem_cons, List.not_mem_nil, or_false] at hd
    rcases hd with rfl | rfl
    · exact ly_lit (by decide +kernel)
    · exact ly_int _
  | non =>
    refine ly_tup fun d hd => ?_
    simp only [List.mem_cons, List.not_mem_nil, or_false] at hd
    rcases hd with rfl
    exact ly_lit (by decide +kernel)
theorem ly_letter {l : Letter} (h : l.deed.okc = true) : Ly 2 l.d := by
  refine ly_tup fun d hd => ?_
  simp only [List.mem_cons, List.not_mem_nil, or_false] at hd
  rcases hd with rfl | rfl | rfl | rfl
  · exact (ly_int _).mono (by omega)
  · exact (ly_int _).mono (by omega)
  · exact ly_deed h
  · exact (ly_int _).mono (by omega)
theorem ly_letter3 {l : Letter} (h : l.deed.okc = true) : Ly 2 l.d3 := by
  refine ly_tup fun d hd => ?_
  simp only [List.mem_cons, List.not_mem_nil, or_false] at hd
  rcases hd with rfl | rfl | rfl
  · exact (ly_int _).mono (by omega)
  · exact (ly_int _).mono (by omega)
  · exact ly_deed h
theorem ly_map {α : Type} {f : α → PyData} {k : Nat} {l : List α} (h : ∀ x ∈ l, Ly k (f x)) : Ly (k + 1) (.list (l.map f)) := ly_lst fun d hd => by
  obtain ⟨x, hx, rfl⟩ := List.mem_map.mp hd; exact h x hx
section
variable {K : PySem.W.Frag} {H : Hp} {Q : VK} {x y : V} {k : Nat} {d e : PyData}
theorem w_eqLy (h : Q (.bl (PyData.eqv d e)) H) (hx : Dp K H x d) (hy : Dp K H y e) (sd : Ly k d) (se : Ly k e) (hk : k ≤ 60) : rEqU K x y H Q := w_eqD h hx hy (sd.shaped (by omega)) (se.shaped (by omega))
theorem w_neLy (h : Q (.bl (!PyData.eqv d e)) H) (hx : Dp K H x d) (hy : Dp K H y e) (sd : Ly k d) (se : Ly k e) (hk : k ≤ 60) : rNeU K x y H Q := w_neD h hx hy (sd.shaped (by omega)) (se.shaped (by omega))
end
theorem eqv_nil (ds : List PyData) : PyData.eqv (.list ds) (.list []) = ds.isEmpty := by
  cases ds <;> simp [PyData.eqv, PyData.eqvAll]
end FL

/-! plain: a yard's two seats and roads, its events -/
namespace FL
open PySem
def bset {α : Type} (f : Bool → α) (z : Bool) (x : α) : Bool → α := fun b => if b = z then x else f b
theorem bset_at {α : Type} {f : Bool → α} {z : Bool} {x : α} : bset f z x z = x := if_pos rfl
theorem bset_ne {α : Type} {f : Bool → α} {z b : Bool} {x : α} (h : b ≠ z) : bset f z x b = f b := if_neg h
theorem bset_off {α : Type} {f : Bool → α} {z : Bool} {x : α} : bset f z x (!z) = f (!z) := if_neg (by cases z <;> decide)
theorem bset_off' {α : Type} {f : Bool → α} {z : Bool} {x : α} : bset f (!z) x z = f z := if_neg (by cases z <;> decide)
theorem bset_all {α : Type} {f : Bool → α} {z : Bool} {x : α} {p : Bool → α → Prop} (h1 : p z x) (h2 : p (!z) (f (!z))) : ∀ b, p b (bset f z x b) := fun b => by
  by_cases c : b = z
  · subst c; rw [bset_at]; exact h1
  · have e : b = !z := by cases b <;> cases z <;> simp_all
    subst e; rw [bset_off]; exact h2
@[reducible] def ixZ : Bool → Int
  | true => 0
  | false => 1
inductive Ev where
  | come (z : Bool) | make (z : Bool) (d : Deed)
  deriving DecidableEq
def Ev.d : Ev → PyData
  | .come z => .tuple [.str "come", .int (ixZ z)]
  | .make z e => .tuple [.str "make", .int (ixZ z), e.d]
def Ev.okc : Ev → Bool
  | .come _ => true
  | .make _ e => e.okc
def Ev.z : Ev → Bool
  | .come z => z
  | .make z _ => z
theorem noL_ev (e : Ev) : noL e.d = true := by
  cases e with
  | come s => rfl
  | make s e => cases e <;> rfl
theorem ly_ev {e : Ev} (h : e.okc = true) : Ly 2 e.d := by
  cases e with
  | come z =>
    refine ly_tup fun d hd => ?_
    simp only [List.mem_cons, List.not_mem_nil, or_false] at hd
    rcases hd with rfl | rfl
    · exact (ly_lit (by decide +kernel)).mono (by omega)
    · exact (ly_int _).mono (by omega)
  | make z e =>
    refine ly_tup fun d hd => ?_
    simp only [List.mem_cons, List.not_mem_nil, or_false] at hd
    rcases hd with rfl | rfl | rfl
    · exact (ly_lit (by decide +kernel)).mono (by omega)
    · exact (ly_int _).mono (by omega)
    · exact ly_deed h
structure Yd where
  s : Bool → Seat
  r : Bool → List Letter
def Yd.new (l : Ln) : Yd := ⟨fun _ => newSeat l, fun _ => []⟩
def Yd.make (Y : Yd) (z : Bool) (e : Deed) : Yd := ⟨bset Y.s z (mkS z (Y.s z) e), bset Y.r (!z) (Y.r (!z) ++ [mkL (Y.s z) e])⟩
def Yd.take (Y : Yd) (z : Bool) (x : Letter) (t : List Letter) : Yd := ⟨bset Y.s z (tkS z (Y.s z) x), bset Y.r z t⟩
def Yd.can (Y : Yd) : Ev → Bool
  | .come z => !(Y.r z).isEmpty
  | .make z e => cn (Y.s z).text e
def Yd.go (Y : Yd) : Ev → Yd
  | .come z => match Y.r z with
    | [] => Y
    | x :: t => Y.take z x t
  | .make z e => Y.make z e
def step (Y : Yd) (e : Ev) : Option Yd := if Y.can e then some (Y.go e) else none
/-- all states, the last one -/
def runs (Y : Yd) (es : List Ev) : Option (List Yd × Yd) := es.foldl (fun a e => a.bind fun p => (step p.2 e).map fun y => (p.1 ++ [y], y)) (some ([Y], Y))
theorem runs_nil (Y : Yd) : runs Y [] = some ([Y], Y) := rfl
theorem runs_snoc (Y : Yd) (es : List Ev) (e : Ev) : runs Y (es ++ [e]) = (runs Y es).bind fun p => (step p.2 e).map fun y => (p.1 ++ [y], y) := by
  unfold runs; rw [List.foldl_append]; rfl
theorem foldl_none {α β : Type} (f : Option α → β → Option α) (h : ∀ b, f none b = none) : ∀ l : List β, l.foldl f none = none
  | [] => rfl
  | b :: l => by rw [List.foldl_cons, h]; exact foldl_none f h l
theorem runs_app_none {Y : Yd} {es fs : List Ev} (h : runs Y es = none) : runs Y (es ++ fs) = none := by
  unfold runs at *; rw [List.foldl_append, h]; exact foldl_none _ (fun _ => rfl) _
theorem rev_ind {α : Type} {p : List α → Prop} (h0 : p []) (h1 : ∀ l a, p l → p (l ++ [a])) (l : List α) : p l := by
  have go : ∀ m : List α, p m.reverse := fun m => by
    induction m with
    | nil => exact h0
    | cons a m ih => rw [List.reverse_cons]; exact h1 _ _ ih
  have := go l.reverse
  rwa [List.reverse_reverse] at this
theorem runs_len {Y : Yd} : ∀ {es : List Ev} {p}, runs Y es = some p → p.1.length = es.length + 1 := by
  intro es
  refine rev_ind (p := fun es => ∀ {p}, runs Y es = some p → p.1.length = es.length + 1) ?_ ?_ es
  · intro p h; cases h; rfl
  · intro es e ih p h
    rw [runs_snoc] at h
    cases c : runs Y es with
    | none => rw [c] at h; cases h
    | some p0 =>
      rw [c] at h
      cases c2 : step p0.2 e with
      | none => simp [c2] at h
      | some y => simp [c2] at h; subst h; simp [ih c]
/-- in order: the invariant, the bounds -/
structure Yd.ok (Y : Yd) (n : Nat) : Prop where
  duo : Duo true (Y.s true) (Y.s false) (Y.r false) (Y.r true)
  tx : ∀ z, okL (Y.s z).text = true ∧ (Y.s z).text.length ≤ n
  wt : ∀ z, (∀ d ∈ (Y.s z).wait, d.okc = true) ∧ (Y.s z).wait.length ≤ n
  rd : ∀ z, (∀ l ∈ Y.r z, l.deed.okc = true) ∧ (Y.r z).length ≤ n
theorem Yd.ok.dz {Y : Yd} {n : Nat} (h : Y.ok n) (z : Bool) : Duo z (Y.s z) (Y.s (!z)) (Y.r (!z)) (Y.r z) := by
  cases z with
  | true => exact h.duo
  | false => exact h.duo.swap
theorem Yd.ok.mono {Y : Yd} {n m : Nat} (h : Y.ok n) (l : n ≤ m) : Y.ok m :=
  ⟨h.duo, fun z => ⟨(h.tx z).1, Nat.le_trans (h.tx z).2 l⟩, fun z => ⟨(h.wt z).1, Nat.le_trans (h.wt z).2 l⟩, fun z => ⟨(h.rd z).1, Nat.le_trans (h.rd z).2 l⟩⟩
theorem Yd.ok_new {l : Ln} {n : Nat} (h : okL l = true) (hn : l.length ≤ n) : (Yd.new l).ok n :=
  ⟨Duo.new true l, fun _ => ⟨h, hn⟩, fun _ => ⟨fun d hd => (List.not_mem_nil hd).elim, Nat.zero_le _⟩, fun _ => ⟨fun d hd => (List.not_mem_nil hd).elim, Nat.zero_le _⟩⟩
theorem len_dn_le {l : Ln} {a : Deed} (h : cn l a = true) : (dn l a).length ≤ l.length + 1 := by
  rw [len_dn h]; cases a <;> simp <;> omega
theorem duo_of {Y : Yd} {z : Bool} (h : Duo z (Y.s z) (Y.s (!z)) (Y.r (!z)) (Y.r z)) : Duo true (Y.s true) (Y.s false) (Y.r false) (Y.r true) := by
  cases z with
  | true => exact h
  | false => exact h.swap
theorem Yd.ok_make {Y : Yd} {n : Nat} {z : Bool} {e : Deed} (h : Y.ok n) (he : e.okc = true) (hc : cn (Y.s z).text e = true) : (Y.make z e).ok (n + 1) := by
  refine ⟨duo_of (z := z) ?_, bset_all (p := fun _ (s : Seat) => okL s.text = true ∧ s.text.length ≤ n + 1) ?_ ?_, bset_all (p := fun _ (s : Seat) => (∀ d ∈ s.wait, d.okc = true) ∧ s.wait.length ≤ n + 1) ?_ ?_, bset_all (p := fun _ (r : List Letter) => (∀ l ∈ r, l.deed.okc = true) ∧ r.length ≤ n + 1) ?_ ?_⟩
  · have d := (h.dz z).make hc
    unfold Yd.make
    simp only [bset_at, bset_off, bset_off']
    exact d
  · exact ⟨okL_dn (h.tx z).1 he, Nat.le_trans (len_dn_le hc) (Nat.succ_le_succ (h.tx z).2)⟩
  · exact ⟨(h.tx _).1, Nat.le_succ_of_le (h.tx _).2⟩
  · refine ⟨fun d hd => ?_, ?_⟩
    · rcases List.mem_append.mp hd with hd | hd
      · exact (h.wt z).1 d hd
      · rw [List.mem_singleton.mp hd]; exact he
    · show ((Y.s z).wait ++ [e]).length ≤ _
      rw [List.length_append]; exact Nat.succ_le_succ (h.wt z).2
  · exact ⟨(h.wt _).1, Nat.le_succ_of_le (h.wt _).2⟩
  · refine ⟨fun d hd => ?_, ?_⟩
    · rcases List.mem_append.mp hd with hd | hd
      · exact (h.rd _).1 d hd
      · rw [List.mem_singleton.mp hd]; exact he
    · rw [List.length_append]; exact Nat.succ_le_succ (h.rd _).2
  · rw [Bool.not_not]; exact ⟨(h.rd _).1, Nat.le_succ_of_le (h.rd _).2⟩
theorem come_okc {z : Bool} : ∀ {d : Deed} {w : List Deed}, d.okc = true → (∀ e ∈ w, e.okc = true) → (come z d w).1.okc = true ∧ ∀ e ∈ (come z d w).2, e.okc = true
  | d, [], h, _ => ⟨h, fun e he => (List.not_mem_nil he).elim⟩
  | d, x :: w, h, hw => by
    obtain ⟨h1, h2⟩ := come_okc (z := z) (d := mv d x (!z)) (w := w) (okc_mv h) fun e he => hw e (List.mem_cons_of_mem _ he)
    refine ⟨h1, fun e he => ?_⟩
    rcases List.mem_cons.mp he with rfl | he
    · exact okc_mv (hw x (List.mem_cons_self ..))
    · exact h2 e he
theorem tkW_okc {z : Bool} {s : Seat} {l : Letter} (h : l.deed.okc = true) (hw : ∀ d ∈ s.wait, d.okc = true) : (tkW z s l).1.okc = true ∧ ∀ e ∈ (tkW z s l).2, e.okc = true :=
  come_okc h fun e he => hw e (List.mem_of_mem_drop he)
theorem tkW_len {z : Bool} {s : Seat} {l : Letter} : (tkW z s l).2.length ≤ s.wait.length := by
  unfold tkW; rw [come_len, List.length_drop]; omega
theorem Yd.ok_take {Y : Yd} {n : Nat} {z : Bool} {x : Letter} {t : List Letter} (h : Y.ok n) (hr : Y.r z = x :: t) :
    x.made = (Y.s z).taken ∧ (Y.s z).heard ≤ x.taken ∧ x.taken ≤ (Y.s z).made ∧ cn (Y.s z).text (tkW z (Y.s z) x).1 = true ∧ (Y.take z x t).ok (n + 1) := by
  have d := h.dz z
  rw [hr] at d
  obtain ⟨h1, h2, h3, h4, h5⟩ := d.take
  have hx : x.deed.okc = true := (h.rd z).1 x (by rw [hr]; exact List.mem_cons_self ..)
  obtain ⟨o1, o2⟩ := tkW_okc (z := z) hx (h.wt z).1
  refine ⟨h1, h2, h3, h4, duo_of (z := z) ?_, bset_all (p := fun _ (s : Seat) => okL s.text = true ∧ s.text.length ≤ n + 1) ?_ ?_, bset_all (p := fun _ (s : Seat) => (∀ d ∈ s.wait, d.okc = true) ∧ s.wait.length ≤ n + 1) ?_ ?_, bset_all (p := fun _ (r : List Letter) => (∀ l ∈ r, l.deed.okc = true) ∧ r.length ≤ n + 1) ?_ ?_⟩
  · unfold Yd.take
    simp only [bset_at, bset_off, bset_off']
    exact h5
  · exact ⟨okL_dn (h.tx z).1 o1, Nat.le_trans (len_dn_le h4) (Nat.succ_le_succ (h.tx z).2)⟩
  · exact ⟨(h.tx _).1, Nat.le_succ_of_le (h.tx _).2⟩
  · exact ⟨o2, Nat.le_succ_of_le (Nat.le_trans tkW_len (h.wt z).2)⟩
  · exact ⟨(h.wt _).1, Nat.le_succ_of_le (h.wt _).2⟩
  · refine ⟨fun d hd => (h.rd z).1 d (by rw [hr]; exact List.mem_cons_of_mem _ hd), ?_⟩
    have := (h.rd z).2
    rw [hr, List.length_cons] at this; omega
  · exact ⟨(h.rd _).1, Nat.le_succ_of_le (h.rd _).2⟩
theorem Yd.ok_go {Y : Yd} {n : Nat} {e : Ev} (h : Y.ok n) (he : e.okc = true) (hc : Y.can e = true) : (Y.go e).ok (n + 1) := by
  cases e with
  | make z d => exact Yd.ok_make h he hc
  | come z =>
    unfold Yd.go
    cases c : Y.r z with
    | nil =>
      have hc' : (!(Y.r z).isEmpty) = true := hc
      rw [c] at hc'; cases hc'
    | cons x t =>
      have e : (match Ev.come z with
        | Ev.come z => match Y.r z with
          | [] => Y
          | x :: t => Y.take z x t
        | Ev.make z e => Y.make z e) = Y.take z x t := by
        show (match Y.r z with
          | [] => Y
          | x :: t => Y.take z x t) = _
        rw [c]
      rw [e]
      exact (Yd.ok_take h c).2.2.2.2
theorem runs_ok {Y : Yd} {n : Nat} (h : Y.ok n) : ∀ {es : List Ev} {p}, (∀ e ∈ es, e.okc = true) → runs Y es = some p → p.2.ok (n + es.length) := by
  intro es
  refine rev_ind (p := fun es => ∀ {p}, (∀ e ∈ es, e.okc = true) → runs Y es = some p → p.2.ok (n + es.length)) ?_ ?_ es
  · intro p _ e; cases e; exact h
  · intro es e ih p ho hp
    rw [runs_snoc] at hp
    cases c : runs Y es with
    | none => rw [c] at hp; cases hp
    | some p0 =>
      rw [c] at hp
      have i := ih (fun x hx => ho x (List.mem_append_left _ hx)) c
      cases c2 : step p0.2 e with
      | none => simp [c2] at hp
      | some y =>
        simp [c2] at hp; subst hp
        unfold step at c2
        split at c2
        · rename_i hc
          cases c2
          rw [List.length_append]
          exact Yd.ok_go i (ho e (by simp)) hc
        · cases c2
/-! rows of deeds, moved -/
def rowsMv : List Deed → List Deed → List Deed × List Deed
  | [], o => ([], o)
  | d :: r, o => ((come false d o).1 :: (rowsMv r (come false d o).2).1, (rowsMv r (come false d o).2).2)
theorem rowsMv_one (d : Deed) (o : List Deed) : rowsMv [d] o = ([(come false d o).1], (come false d o).2) := rfl
theorem rowsMv_many : ∀ (w : List Deed) (d : Deed), rowsMv w [d] = ((come true d w).2, [(come true d w).1])
  | [], d => rfl
  | x :: w, d => by
    have e : come false x [d] = (mv x d true, [mv d x false]) := rfl
    rw [rowsMv, e, rowsMv_many w (mv d x false)]
    rfl
/-! pending deeds with their numbers -/
def pend : Nat → List Deed → List PyData
  | _, [] => []
  | h, d :: r => .tuple [.int (h : Int), d.d] :: pend (h + 1) r
theorem pend_len (h : Nat) (w : List Deed) : (pend h w).length = w.length := by
  induction w generalizing h with
  | nil => rfl
  | cons d w ih => simp [pend, ih]
theorem pend_get {h i : Nat} {w : List Deed} : (pend h w)[i]? = (w[i]?).map fun d => .tuple [.int ((h + i : Nat) : Int), d.d] := by
  induction w generalizing h i with
  | nil => simp [pend]
  | cons d w ih =>
    cases i with
    | zero => simp [pend]
    | succ i =>
      simp only [pend, List.getElem?_cons_succ, ih]
      rw [show h + 1 + i = h + (i + 1) by omega]
theorem pend_app (h : Nat) (a b : List Deed) : pend h (a ++ b) = pend h a ++ pend (h + a.length) b := by
  induction a generalizing h with
  | nil => rfl
  | cons d a ih => simp only [List.cons_append, pend, ih, List.length_cons]; rw [show h + 1 + a.length = h + (a.length + 1) by omega]
theorem noL_pend (h : Nat) (w : List Deed) : noLs (pend h w) = true := by
  induction w generalizing h with
  | nil => rfl
  | cons d w ih => simp [pend, noLs, noL, noL_deed, ih]
end FL

/-! what stands in the heap: seats, yards, the law's seats and roads, draws -/
namespace FL
open PySem PySem.Spec PyProof.Rows L2
section
variable {K : PySem.W.Frag} {H H' H1 H2 : Hp} {S : Addr → Prop}
/-- what is in S is kept -/
def Kp (S : Addr → Prop) (H H' : Hp) : Prop := ∀ b o, S b → H b = some o → H' b = some o
def Dm (S : Addr → Prop) (H : Hp) : Prop := ∀ b, S b → H b ≠ none
theorem Kp.refl (S) (H : Hp) : Kp S H H := fun _ _ _ h => h
theorem Kp.trans (a : Kp S H H1) (b : Kp S H1 H2) : Kp S H H2 := fun c o s h => b c o s (a c o s h)
theorem Kp.of (e : Same H H') : Kp S H H' := fun b o _ h => e b o h
theorem Dm.kp (d : Dm S H) (k : Kp S H H') : Dm S H' := fun b s => by
  cases c : H b with
  | none => exact (d b s c).elim
  | some o => rw [k b o s c]; simp
theorem Kp.same {H0 : Hp} (e : Same H0 H) (k : Kp S H H') (h : ∀ b, H0 b ≠ none → S b) : Same H0 H' := fun b o z => k b o (h b (by rw [z]; simp)) (e b o z)
theorem Kp.sub {S' : Addr → Prop} (k : Kp S H H') (h : ∀ b, S' b → S b) : Kp S' H H' := fun b o s z => k b o (h b s) z
theorem Kp.upd {a : Addr} {o : HO} (k : Kp S H H') (h : ¬ S a) : Kp S H (L2.upd H' a o) := fun b u s z => by
  have n : b ≠ a := fun e => h (by rw [← e]; exact s)
  rw [upd_ne n]; exact k b u s z
/-- but for two cells -/
def Fr2 (p w : Addr) (H H' : Hp) : Prop := ∀ b o, b ≠ p → b ≠ w → H b = some o → H' b = some o
theorem Fr2.refl (p w : Addr) (H : Hp) : Fr2 p w H H := fun _ _ _ _ h => h
theorem Fr2.trans {p w : Addr} (a : Fr2 p w H H1) (b : Fr2 p w H1 H2) : Fr2 p w H H2 := fun c o n m h => b c o n m (a c o n m h)
theorem Fr2.of {p w : Addr} (e : Same H H') : Fr2 p w H H' := fun b o _ _ h => e b o h
theorem Fr2.fst {p w : Addr} {o : HO} (k : Fr2 p w H H') : Fr2 p w H (upd H' p o) := fun b u n m z => by rw [upd_ne n]; exact k b u n m z
theorem Fr2.snd {p w : Addr} {o : HO} (k : Fr2 p w H H') : Fr2 p w H (upd H' w o) := fun b u n m z => by rw [upd_ne m]; exact k b u n m z
theorem Fr2.kp {p w : Addr} (k : Fr2 p w H H') (hp : ¬ S p) (hw : ¬ S w) : Kp S H H' := fun b o s z => k b o (fun e => hp (e ▸ s)) (fun e => hw (e ▸ s)) z
theorem Fr2.new {p w q : Addr} {o : HO} (k : Fr2 p w H H') (h : H' q = none) : Fr2 p w H (upd H' q o) := fun b u n m z => by
  rw [upd_ne (ne_of_none (k b u n m z) h)]; exact k b u n m z
theorem Fr.kp {a : Addr} (f : Fr a H H') (h : ¬ S a) : Kp S H H' := fun b o s z => f b o (fun e => h (e ▸ s)) z
theorem TK.upd {a : Addr} {o : HO} (h : (∃ xs, H a = some (.lst xs)) ∨ (∃ C dx fs, H a = some (.ins C dx fs)) ∨ H a = none) : TK H (upd H a o) := by
  refine ⟨fun b ys e => ?_, fun b u v e => ?_⟩
  · rw [upd_ne (fun z => ?_)]
    · exact e
    · subst z; rcases h with ⟨_, h⟩ | ⟨_, _, _, h⟩ | h <;> (rw [h] at e; cases e)
  · rw [upd_ne (fun z => ?_)]
    · exact e
    · subst z; rcases h with ⟨_, h⟩ | ⟨_, _, _, h⟩ | h <;> (rw [h] at e; cases e)
theorem TK.updL {a : Addr} {o : HO} {xs : List V} (h : H a = some (.lst xs)) : TK H (L2.upd H a o) := TK.upd (.inl ⟨_, h⟩)
theorem TK.updI {a C dx : Addr} {o : HO} {fs : List (Str × V)} (h : H a = some (.ins C dx fs)) : TK H (L2.upd H a o) := TK.upd (.inr (.inl ⟨_, _, _, h⟩))
theorem TK.new {a : Addr} {o : HO} (h : H a = none) : TK H (L2.upd H a o) := TK.upd (.inr (.inr h))
theorem TK.sl {a : Addr} {xs : List V} (e : TK H H') (h : SqL K H a xs) (k : ∀ ys, H a = some (.lst ys) → H' a = some (.lst ys)) : SqL K H' a xs := by
  rcases h with (h | ⟨o, h⟩) | h
  · exact .inl (.inl (k _ h))
  · exact .inl (.inr ⟨o, e.2 _ _ _ h⟩)
  · exact .inr h
theorem upd_upd {p : Addr} {a b : HO} : upd (upd H p a) p b = upd H p b := by
  funext c
  by_cases e : c = p
  · rw [e, upd_same, upd_same]
  · rw [upd_ne e, upd_ne e, upd_ne e]
/-! fields of a seat -/
def sF (a b c d e f g h : V) : List (Str × V) := [("ahead", a), ("text", b), ("many_made", c), ("many_taken", d), ("heard", e), ("waiting", f), ("own_mark", g), ("far_mark", h)]
section
variable {a b c d e f g h x : V}
theorem l_ahead : (sF a b c d e f g h).lookup ("ahead" : Str) = some a := lk_here
theorem l_text : (sF a b c d e f g h).lookup ("text" : Str) = some b := (lk_past (by decide +kernel)).trans lk_here
theorem l_made : (sF a b c d e f g h).lookup ("many_made" : Str) = some c := (lk_past (by decide +kernel)).trans ((lk_past (by decide +kernel)).trans lk_here)
theorem l_taken : (sF a b c d e f g h).lookup ("many_taken" : Str) = some d := (lk_past (by decide +kernel)).trans ((lk_past (by decide +kernel)).trans ((lk_past (by decide +kernel)).trans lk_here))
theorem l_heard : (sF a b c d e f g h).lookup ("heard" : Str) = some e := (lk_past (by decide +kernel)).trans ((lk_past (by decide +kernel)).trans ((lk_past (by decide +kernel)).trans ((lk_past (by decide +kernel)).trans lk_here)))
theorem l_wait : (sF a b c d e f g h).lookup ("waiting" : Str) = some f := (lk_past (by decide +kernel)).trans ((lk_past (by decide +kernel)).trans ((lk_past (by decide +kernel)).trans ((lk_past (by decide +kernel)).trans ((lk_past (by decide +kernel)).trans lk_here))))
theorem l_own : (sF a b c d e f g h).lookup ("own_mark" : Str) = some g := (lk_past (by decide +kernel)).trans ((lk_past (by decide +kernel)).trans ((lk_past (by decide +kernel)).trans ((lk_past (by decide +kernel)).trans ((lk_past (by decide +kernel)).trans ((lk_past (by decide +kernel)).trans lk_here)))))
theorem l_far : (sF a b c d e f g h).lookup ("far_mark" : Str) = some h := (lk_past (by decide +kernel)).trans ((lk_past (by decide +kernel)).trans ((lk_past (by decide +kernel)).trans ((lk_past (by decide +kernel)).trans ((lk_past (by decide +kernel)).trans ((lk_past (by decide +kernel)).trans ((lk_past (by decide +kernel)).trans lk_here))))))
theorem l_no {m : Str} (hm : (m == ("ahead" : Str)) = false ∧ (m == ("text" : Str)) = false ∧ (m == ("many_made" : Str)) = false ∧ (m == ("many_taken" : Str)) = false ∧ (m == ("heard" : Str)) = false ∧ (m == ("waiting" : Str)) = false ∧ (m == ("own_mark" : Str)) = false ∧ (m == ("far_mark" : Str)) = false) : (sF a b c d e f g h).lookup m = none := by
  obtain ⟨h1, h2, h3, h4, h5, h6, h7, h8⟩ := hm
  unfold sF
  rw [lk_past h1, lk_past h2, lk_past h3, lk_past h4, lk_past h5, lk_past h6, lk_past h7, lk_past h8]; rfl
theorem p_len : (sF a b c d e f g h).length < 1000 := by show 8 < 1000; decide
theorem p_text : putF ("text" : Str) x (sF a b c d e f g h) = sF a x c d e f g h ∧ (sF a b c d e f g h).length < 1000 := ⟨(put_past (by decide +kernel)).trans (congrArg _ put_here), p_len⟩
theorem p_made : putF ("many_made" : Str) x (sF a b c d e f g h) = sF a b x d e f g h ∧ (sF a b c d e f g h).length < 1000 := ⟨(put_past (by decide +kernel)).trans (congrArg _ ((put_past (by decide +kernel)).trans (congrArg _ put_here))), p_len⟩
theorem p_taken : putF ("many_taken" : Str) x (sF a b c d e f g h) = sF a b c x e f g h ∧ (sF a b c d e f g h).length < 1000 := ⟨(put_past (by decide +kernel)).trans (congrArg _ ((put_past (by decide +kernel)).trans (congrArg _ ((put_past (by decide +kernel)).trans (congrArg _ put_here))))), p_len⟩
theorem p_heard : putF ("heard" : Str) x (sF a b c d e f g h) = sF a b c d x f g h ∧ (sF a b c d e f g h).length < 1000 := ⟨(put_past (by decide +kernel)).trans (congrArg _ ((put_past (by decide +kernel)).trans (congrArg _ ((put_past (by decide +kernel)).trans (congrArg _ ((put_past (by decide +kernel)).trans (congrArg _ put_here))))))), p_len⟩
theorem p_wait : putF ("waiting" : Str) x (sF a b c d e f g h) = sF a b c d e x g h ∧ (sF a b c d e f g h).length < 1000 := ⟨(put_past (by decide +kernel)).trans (congrArg _ ((put_past (by decide +kernel)).trans (congrArg _ ((put_past (by decide +kernel)).trans (congrArg _ ((put_past (by decide +kernel)).trans (congrArg _ ((put_past (by decide +kernel)).trans (congrArg _ put_here))))))))), p_len⟩
theorem p_own : putF ("own_mark" : Str) x (sF a b c d e f g h) = sF a b c d e f x h ∧ (sF a b c d e f g h).length < 1000 := ⟨(put_past (by decide +kernel)).trans (congrArg _ ((put_past (by decide +kernel)).trans (congrArg _ ((put_past (by decide +kernel)).trans (congrArg _ ((put_past (by decide +kernel)).trans (congrArg _ ((put_past (by decide +kernel)).trans (congrArg _ ((put_past (by decide +kernel)).trans (congrArg _ put_here))))))))))), p_len⟩
theorem p_far : putF ("far_mark" : Str) x (sF a b c d e f g h) = sF a b c d e f g x ∧ (sF a b c d e f g h).length < 1000 := ⟨(put_past (by decide +kernel)).trans (congrArg _ ((put_past (by decide +kernel)).trans (congrArg _ ((put_past (by decide +kernel)).trans (congrArg _ ((put_past (by decide +kernel)).trans (congrArg _ ((put_past (by decide +kernel)).trans (congrArg _ ((put_past (by decide +kernel)).trans (congrArg _ ((put_past (by decide +kernel)).trans (congrArg _ put_here))))))))))))), p_len⟩
theorem sF_new : putF ("far_mark" : Str) h (putF ("own_mark" : Str) g (putF ("waiting" : Str) f (putF ("heard" : Str) e (putF ("many_taken" : Str) d (putF ("many_made" : Str) c (putF ("text" : Str) b (putF ("ahead" : Str) a []))))))) = sF a b c d e f g h := by
  have n1 : putF ("ahead" : Str) a [] = [(("ahead" : Str), a)] := rfl
  rw [n1]
  have n2 : putF ("text" : Str) b [(("ahead" : Str), a)] = [(("ahead" : Str), a), (("text" : Str), b)] := put_past (by decide +kernel)
  rw [n2]
  have n3 : putF ("many_made" : Str) c [(("ahead" : Str), a), (("text" : Str), b)] = [(("ahead" : Str), a), (("text" : Str), b), (("many_made" : Str), c)] := (put_past (by decide +kernel)).trans (congrArg _ (put_past (by decide +kernel)))
  rw [n3]
  have n4 : putF ("many_taken" : Str) d [(("ahead" : Str), a), (("text" : Str), b), (("many_made" : Str), c)] = [(("ahead" : Str), a), (("text" : Str), b), (("many_made" : Str), c), (("many_taken" : Str), d)] := (put_past (by decide +kernel)).trans (congrArg _ ((put_past (by decide +kernel)).trans (congrArg _ (put_past (by decide +kernel)))))
  rw [n4]
  have n5 : putF ("heard" : Str) e [(("ahead" : Str), a), (("text" : Str), b), (("many_made" : Str), c), (("many_taken" : Str), d)] = [(("ahead" : Str), a), (("text" : Str), b), (("many_made" : Str), c), (("many_taken" : Str), d), (("heard" : Str), e)] := (put_past (by decide +kernel)).trans (congrArg _ ((put_past (by decide +kernel)).trans (congrArg _ ((put_past (by decide +kernel)).trans (congrArg _ (put_past (by decide +kernel)))))))
  rw [n5]
  have n6 : putF ("waiting" : Str) f [(("ahead" : Str), a), (("text" : Str), b), (("many_made" : Str), c), (("many_taken" : Str), d), (("heard" : Str), e)] = [(("ahead" : Str), a), (("text" : Str), b), (("many_made" : Str), c), (("many_taken" : Str), d), (("heard" : Str), e), (("waiting" : Str), f)] := (put_past (by decide +kernel)).trans (congrArg _ ((put_past (by decide +kernel)).trans (congrArg _ ((put_past (by decide +kernel)).trans (congrArg _ ((put_past (by decide +kernel)).trans (congrArg _ (put_past (by decide +kernel)))))))))
  rw [n6]
  have n7 : putF ("own_mark" : Str) g [(("ahead" : Str), a), (("text" : Str), b), (("many_made" : Str), c), (("many_taken" : Str), d), (("heard" : Str), e), (("waiting" : Str), f)] = [(("ahead" : Str), a), (("text" : Str), b), (("many_made" : Str), c), (("many_taken" : Str), d), (("heard" : Str), e), (("waiting" : Str), f), (("own_mark" : Str), g)] := (put_past (by decide +kernel)).trans (congrArg _ ((put_past (by decide +kernel)).trans (congrArg _ ((put_past (by decide +kernel)).trans (congrArg _ ((put_past (by decide +kernel)).trans (congrArg _ ((put_past (by decide +kernel)).trans (congrArg _ (put_past (by decide +kernel)))))))))))
  rw [n7]
  exact (put_past (by decide +kernel)).trans (congrArg _ ((put_past (by decide +kernel)).trans (congrArg _ ((put_past (by decide +kernel)).trans (congrArg _ ((put_past (by decide +kernel)).trans (congrArg _ ((put_past (by decide +kernel)).trans (congrArg _ ((put_past (by decide +kernel)).trans (congrArg _ (put_past (by decide +kernel)))))))))))))
end
section
variable {a b c d e f g h x : V}
theorem i_1 : putF ("ahead" : Str) a [] = [(("ahead" : Str), a)] ∧ ([] : List (Str × V)).length < 1000 := ⟨rfl, by decide⟩
theorem i_2 : putF ("text" : Str) b [(("ahead" : Str), a)] = [(("ahead" : Str), a), (("text" : Str), b)] ∧ ([(("ahead" : Str), a)] : List (Str × V)).length < 1000 := ⟨(put_past (by decide +kernel)), Nat.le_of_ble_eq_true rfl⟩
theorem i_3 : putF ("many_made" : Str) c [(("ahead" : Str), a), (("text" : Str), b)] = [(("ahead" : Str), a), (("text" : Str), b), (("many_made" : Str), c)] ∧ ([(("ahead" : Str), a), (("text" : Str), b)] : List (Str × V)).length < 1000 := ⟨((put_past (by decide +kernel)).trans (congrArg _ (put_past (by decide +kernel)))), Nat.le_of_ble_eq_true rfl⟩
theorem i_4 : putF ("many_taken" : Str) d [(("ahead" : Str), a), (("text" : Str), b), (("many_made" : Str), c)] = [(("ahead" : Str), a), (("text" : Str), b), (("many_made" : Str), c), (("many_taken" : Str), d)] ∧ ([(("ahead" : Str), a), (("text" : Str), b), (("many_made" : Str), c)] : List (Str × V)).length < 1000 := ⟨((put_past (by decide +kernel)).trans (congrArg _ ((put_past (by decide +kernel)).trans (congrArg _ (put_past (by decide +kernel)))))), Nat.le_of_ble_eq_true rfl⟩
theorem i_5 : putF ("heard" : Str) e [(("ahead" : Str), a), (("text" : Str), b), (("many_made" : Str), c), (("many_taken" : Str), d)] = [(("ahead" : Str), a), (("text" : Str), b), (("many_made" : Str), c), (("many_taken" : Str), d), (("heard" : Str), e)] ∧ ([(("ahead" : Str), a), (("text" : Str), b), (("many_made" : Str), c), (("many_taken" : Str), d)] : List (Str × V)).length < 1000 := ⟨((put_past (by decide +kernel)).trans (congrArg _ ((put_past (by decide +kernel)).trans (congrArg _ ((put_past (by decide +kernel)).trans (congrArg _ (put_past (by decide +kernel)))))))), Nat.le_of_ble_eq_true rfl⟩
theorem i_6 : putF ("waiting" : Str) f [(("ahead" : Str), a), (("text" : Str), b), (("many_made" : Str), c), (("many_taken" : Str), d), (("heard" : Str), e)] = [(("ahead" : Str), a), (("text" : Str), b), (("many_made" : Str), c), (("many_taken" : Str), d), (("heard" : Str), e), (("waiting" : Str), f)] ∧ ([(("ahead" : Str), a), (("text" : Str), b), (("many_made" : Str), c), (("many_taken" : Str), d), (("heard" : Str), e)] : List (Str × V)).length < 1000 := ⟨((put_past (by decide +kernel)).trans (congrArg _ ((put_past (by decide +kernel)).trans (congrArg _ ((put_past (by decide +kernel)).trans (congrArg _ ((put_past (by decide +kernel)).trans (congrArg _ (put_past (by decide +kernel)))))))))), Nat.le_of_ble_eq_true rfl⟩
theorem i_7 : putF ("own_mark" : Str) g [(("ahead" : Str), a), (("text" : Str), b), (("many_made" : Str), c), (("many_taken" : Str), d), (("heard" : Str), e), (("waiting" : Str), f)] = [(("ahead" : Str), a), (("text" : Str), b), (("many_made" : Str), c), (("many_taken" : Str), d), (("heard" : Str), e), (("waiting" : Str), f), (("own_mark" : Str), g)] ∧ ([(("ahead" : Str), a), (("text" : Str), b), (("many_made" : Str), c), (("many_taken" : Str), d), (("heard" : Str), e), (("waiting" : Str), f)] : List (Str × V)).length < 1000 := ⟨((put_past (by decide +kernel)).trans (congrArg _ ((put_past (by decide +kernel)).trans (congrArg _ ((put_past (by decide +kernel)).trans (congrArg _ ((put_past (by decide +kernel)).trans (congrArg _ ((put_past (by decide +kernel)).trans (congrArg _ (put_past (by decide +kernel)))))))))))), Nat.le_of_ble_eq_true rfl⟩
theorem i_8 : putF ("far_mark" : Str) h [(("ahead" : Str), a), (("text" : Str), b), (("many_made" : Str), c), (("many_taken" : Str), d), (("heard" : Str), e), (("waiting" : Str), f), (("own_mark" : Str), g)] = sF a b c d e f g h ∧ ([(("ahead" : Str), a), (("text" : Str), b), (("many_made" : Str), c), (("many_taken" : Str), d), (("heard" : Str), e), (("waiting" : Str), f), (("own_mark" : Str), g)] : List (Str × V)).length < 1000 := ⟨((put_past (by decide +kernel)).trans (congrArg _ ((put_past (by decide +kernel)).trans (congrArg _ ((put_past (by decide +kernel)).trans (congrArg _ ((put_past (by decide +kernel)).trans (congrArg _ ((put_past (by decide +kernel)).trans (congrArg _ ((put_past (by decide +kernel)).trans (congrArg _ (put_past (by decide +kernel)))))))))))))), Nat.le_of_ble_eq_true rfl⟩
end
theorem sq_updI {p C dx a : Addr} {fs : List (Str × V)} {o : HO} {xs : List V} (h : H p = some (.ins C dx fs)) (s : SqT K H a xs) : SqT K (upd H p o) a xs := (TK.updI h).t s
theorem sq_updL {p a : Addr} {ys : List V} {o : HO} {xs : List V} (h : H p = some (.lst ys)) (s : SqT K H a xs) : SqT K (upd H p o) a xs := (TK.updL h).t s
theorem sq_new {p a : Addr} {o : HO} {xs : List V} (h : H p = none) (s : SqT K H a xs) : SqT K (upd H p o) a xs := (TK.new h).t s
/-! two fields -/
theorem two_l1 {f g : Str} {a b : V} : List.lookup f [(f, a), (g, b)] = some a := lk_here
theorem two_l2 {f g : Str} {a b : V} (h : (g == f) = false) : List.lookup g [(f, a), (g, b)] = some b := (lk_past h).trans lk_here
theorem two_no {f g m : Str} {a b : V} (h1 : (m == f) = false) (h2 : (m == g) = false) : List.lookup m [(f, a), (g, b)] = none := by rw [lk_past h1, lk_past h2]; rfl
theorem two_new {f g : Str} {a b : V} (h : ¬ f = g) : putF g b (putF f a []) = [(f, a), (g, b)] := put_past h
/-! a seat -/
structure SeatAt (K : PySem.W.Frag) (H : Hp) (p w : Addr) (z : Bool) (s : Seat) : Prop where
  ins : ∃ dx, H p = some (.ins (gloA K "Seat") dx (sF (.bl z) (.str (ofL s.text)) (.int (s.made : Int)) (.int (s.taken : Int)) (.int (s.heard : Int)) (.ref w) (.int (s.own : Int)) (.int (s.far : Int))))
  wt : ∃ xs, H w = some (.lst xs) ∧ DpAll K H xs (s.wait.map Deed.d)
theorem SeatAt.ne {p w : Addr} {z : Bool} {s : Seat} (h : SeatAt K H p w z s) : p ≠ w := fun e => by
  obtain ⟨dx, h1⟩ := h.ins
  obtain ⟨xs, h2, _⟩ := h.wt
  rw [e, h2] at h1; cases h1
theorem SeatAt.keep {p w : Addr} {z : Bool} {s : Seat} (h : SeatAt K H p w z s) (hp : ∀ o, H p = some o → H' p = some o) (hw : ∀ o, H w = some o → H' w = some o) (t : TK H H') : SeatAt K H' p w z s := by
  obtain ⟨dx, h1⟩ := h.ins
  obtain ⟨xs, h2, h3⟩ := h.wt
  exact ⟨⟨dx, hp _ h1⟩, ⟨xs, hw _ h2, dps_tk t h3 (noLs_map noL_deed _)⟩⟩
/-! a yard -/
structure YA where
  ls : Addr
  lr : Addr
  p : Bool → Addr
  w : Bool → Addr
  r : Bool → Addr
/-- the lists of it -/
def YA.lists (A : YA) : List Addr := [A.ls, A.lr, A.w true, A.w false, A.r true, A.r false]
structure YardAt (K : PySem.W.Frag) (C : Str) (H : Hp) (y : Addr) (A : YA) (Y : Yd) : Prop where
  ins : ∃ dx, H y = some (.ins (gloA K C) dx [("seats", .ref A.ls), ("roads", .ref A.lr)])
  ls : H A.ls = some (.lst [.ref (A.p true), .ref (A.p false)])
  lr : H A.lr = some (.lst [.ref (A.r true), .ref (A.r false)])
  st : ∀ z, SeatAt K H (A.p z) (A.w z) z (Y.s z)
  rd : ∀ z, ∃ xs, H (A.r z) = some (.lst xs) ∧ DpAll K H xs ((Y.r z).map Letter.d)
  nd : A.lists.Nodup
  np : A.p true ≠ A.p false
  ny : ∀ z, y ≠ A.p z
def YA.foot (A : YA) (y : Addr) : List Addr := [y, A.p true, A.p false] ++ A.lists
def YardIn (K : PySem.W.Frag) (S : Addr → Prop) (H : Hp) (y : Addr) (Y : Yd) : Prop := ∃ A, YardAt K "Yard" H y A Y ∧ ∀ x ∈ A.foot y, ¬ S x
theorem YardAt.ls_ne {C : Str} {y : Addr} {A : YA} {Y : Yd} (h : YardAt K C H y A Y) : ∀ x ∈ A.lists, (∃ xs, H x = some (.lst xs)) := by
  intro x hx
  simp only [YA.lists, List.mem_cons, List.not_mem_nil, or_false] at hx
  rcases hx with rfl | rfl | rfl | rfl | rfl | rfl
  · exact ⟨_, h.ls⟩
  · exact ⟨_, h.lr⟩
  · obtain ⟨xs, e, _⟩ := (h.st true).wt; exact ⟨xs, e⟩
  · obtain ⟨xs, e, _⟩ := (h.st false).wt; exact ⟨xs, e⟩
  · obtain ⟨xs, e, _⟩ := h.rd true; exact ⟨xs, e⟩
  · obtain ⟨xs, e, _⟩ := h.rd false; exact ⟨xs, e⟩
theorem YardAt.there {C : Str} {y : Addr} {A : YA} {Y : Yd} (h : YardAt K C H y A Y) : ∀ x ∈ A.foot y, H x ≠ none := by
  intro x hx
  rcases List.mem_append.mp hx with hx | hx
  · simp only [List.mem_cons, List.not_mem_nil, or_false] at hx
    rcases hx with rfl | rfl | rfl
    · obtain ⟨dx, e⟩ := h.ins; rw [e]; simp
    · obtain ⟨dx, e⟩ := (h.st true).ins; rw [e]; simp
    · obtain ⟨dx, e⟩ := (h.st false).ins; rw [e]; simp
  · obtain ⟨xs, e⟩ := h.ls_ne x hx; rw [e]; simp
theorem YardAt.keep {C : Str} {y : Addr} {A : YA} {Y : Yd} (h : YardAt K C H y A Y) (k : ∀ x ∈ A.foot y, ∀ o, H x = some o → H' x = some o) (t : TK H H') : YardAt K C H' y A Y := by
  have m : ∀ x, x ∈ [y, A.p true, A.p false, A.ls, A.lr, A.w true, A.w false, A.r true, A.r false] → x ∈ A.foot y := fun x hx => hx
  obtain ⟨dx, e⟩ := h.ins
  refine ⟨⟨dx, k _ (m _ (by simp)) _ e⟩, k _ (m _ (by simp)) _ h.ls, k _ (m _ (by simp)) _ h.lr, fun z => (h.st z).keep (k _ (m _ (by cases z <;> simp))) (k _ (m _ (by cases z <;> simp))) t, fun z => ?_, h.nd, h.np, h.ny⟩
  obtain ⟨xs, e1, e2⟩ := h.rd z
  exact ⟨xs, k _ (m _ (by cases z <;> simp)) _ e1, dps_tk t e2 (noLs_map noL_letter _)⟩
theorem YardIn.keep {S' : Addr → Prop} {y : Addr} {Y : Yd} (h : YardIn K S H y Y) (k : ∀ x o, ¬ S x → H x = some o → H' x = some o ∧ ¬ S' x) (t : TK H H') : YardIn K S' H' y Y := by
  obtain ⟨A, h1, h2⟩ := h
  refine ⟨A, h1.keep (fun x hx o e => (k x o (h2 x hx) e).1) t, fun x hx => ?_⟩
  cases c : H x with
  | none => exact (h1.there x hx c).elim
  | some o => exact (k x o (h2 x hx) c).2
/-- one seat changed -/
theorem YardAt.seat {C : Str} {y : Addr} {A : YA} {Y : Yd} {z : Bool} {w' : Addr} {s' : Seat} (h : YardAt K C H y A Y) (f : Fr2 (A.p z) (A.w z) H H') (t : TK H H') (hw : w' = A.w z ∨ H w' = none) (st : SeatAt K H' (A.p z) w' z s') :
    YardAt K C H' y { A with w := bset A.w z w' } { Y with s := bset Y.s z s' } := by
  have nd := h.nd
  unfold YA.lists at nd
  simp only [List.nodup_cons, List.mem_cons, List.not_mem_nil, or_false, not_or, List.nodup_nil, and_true, not_false_eq_true] at nd
  obtain ⟨⟨n1, n2, n3, n4, n5⟩, ⟨n6, n7, n8, n9⟩, ⟨n10, n11, n12⟩, ⟨n13, n14⟩, n15⟩ := nd
  obtain ⟨dx, ei⟩ := h.ins
  have hl := h.ls_ne
  have pz : ∀ b x, x ∈ A.lists → A.p b ≠ x := fun b x hx e => by
    obtain ⟨d, e1⟩ := (h.st b).ins
    obtain ⟨xs, e2⟩ := hl x hx
    rw [e, e2] at e1; cases e1
  have yz : ∀ x, x ∈ A.lists → y ≠ x := fun x hx e => by
    obtain ⟨xs, e2⟩ := hl x hx
    rw [e, e2] at ei; cases ei
  have ml : ∀ x, x ∈ [A.ls, A.lr, A.w true, A.w false, A.r true, A.r false] → x ∈ A.lists := fun x hx => hx
  have wf : ∀ x, x ∈ A.lists → x ≠ A.w z → x ≠ w' := fun x hx hn e => by
    rcases hw with hw | hw
    · exact hn (e.trans hw)
    · obtain ⟨xs, e2⟩ := hl x hx
      rw [e, hw] at e2; cases e2
  refine ⟨⟨dx, f _ _ (h.ny z) (yz _ (ml _ (by cases z <;> simp))) ei⟩, f _ _ (pz z _ (ml _ (by simp))).symm (by cases z <;> first | exact n2 | exact n3) h.ls, f _ _ (pz z _ (ml _ (by simp))).symm (by cases z <;> first | exact n6 | exact n7) h.lr, ?_, ?_, ?_, h.np, h.ny⟩
  · intro b
    show SeatAt K H' (A.p b) (bset A.w z w' b) b (bset Y.s z s' b)
    by_cases c : b = z
    · subst c; rw [bset_at, bset_at]; exact st
    · rw [bset_ne c, bset_ne c]
      have npz : A.p b ≠ A.p z := by
        cases b <;> cases z
        · exact absurd rfl c
        · exact h.np.symm
        · exact h.np
        · exact absurd rfl c
      have nwz : A.w b ≠ A.w z := by
        cases b <;> cases z
        · exact absurd rfl c
        · exact Ne.symm n10
        · exact n10
        · exact absurd rfl c
      exact (h.st b).keep (fun o e => f _ _ npz (pz b _ (ml _ (by cases z <;> simp))) e) (fun o e => f _ _ (pz z _ (ml _ (by cases b <;> simp))).symm nwz e) t
  · intro b
    obtain ⟨xs, e1, e2⟩ := h.rd b
    refine ⟨xs, f _ _ (pz z _ (ml _ (by cases b <;> simp))).symm ?_ e1, dps_tk t e2 (noLs_map noL_letter _)⟩
    cases b <;> cases z
    · exact Ne.symm n14
    · exact Ne.symm n12
    · exact Ne.symm n13
    · exact Ne.symm n11
  · have g : ∀ x, x ∈ A.lists → x ≠ A.w z → ¬ x = w' := wf
    cases z
    · have a1 := g A.ls (ml _ (by simp)) n3
      have a2 := g A.lr (ml _ (by simp)) n7
      have a3 := g (A.w true) (ml _ (by simp)) n10
      have a4 := g (A.r true) (ml _ (by simp)) (Ne.symm n13)
      have a5 := g (A.r false) (ml _ (by simp)) (Ne.symm n14)
      simp only [YA.lists, bset, List.nodup_cons, List.mem_cons, List.not_mem_nil, or_false, not_or, List.nodup_nil, and_true, not_false_eq_true, if_true, if_false, reduceCtorEq]
      exact ⟨⟨n1, n2, a1, n4, n5⟩, ⟨n6, a2, n8, n9⟩, ⟨a3, n11, n12⟩, ⟨Ne.symm a4, Ne.symm a5⟩, n15⟩
    · have a1 := g A.ls (ml _ (by simp)) n2
      have a2 := g A.lr (ml _ (by simp)) n6
      have a3 := g (A.w false) (ml _ (by simp)) (Ne.symm n10)
      have a4 := g (A.r true) (ml _ (by simp)) (Ne.symm n11)
      have a5 := g (A.r false) (ml _ (by simp)) (Ne.symm n12)
      simp only [YA.lists, bset, List.nodup_cons, List.mem_cons, List.not_mem_nil, or_false, not_or, List.nodup_nil, and_true, not_false_eq_true, if_true, if_false, reduceCtorEq]
      exact ⟨⟨n1, a1, n3, n4, n5⟩, ⟨a2, n7, n8, n9⟩, ⟨Ne.symm a3, Ne.symm a4, Ne.symm a5⟩, ⟨n13, n14⟩, n15⟩
/-- one road changed -/
theorem YardAt.road {C : Str} {y : Addr} {A : YA} {Y : Yd} {z : Bool} {xs : List V} {rs : List Letter} (h : YardAt K C H y A Y) (hx : DpAll K H xs (rs.map Letter.d)) :
    YardAt K C (upd H (A.r z) (.lst xs)) y A { Y with r := bset Y.r z rs } := by
  have nd := h.nd
  unfold YA.lists at nd
  simp only [List.nodup_cons, List.mem_cons, List.not_mem_nil, or_false, not_or, List.nodup_nil, and_true, not_false_eq_true] at nd
  obtain ⟨⟨n1, n2, n3, n4, n5⟩, ⟨n6, n7, n8, n9⟩, ⟨n10, n11, n12⟩, ⟨n13, n14⟩, n15⟩ := nd
  obtain ⟨dx, ei⟩ := h.ins
  obtain ⟨ys, er, _⟩ := h.rd z
  have t : TK H (upd H (A.r z) (.lst xs)) := TK.updL er
  have ne : ∀ {x o}, H x = some o → (∀ ws, o ≠ .lst ws) → x ≠ A.r z := fun {x o} e n z => by
    rw [z, er] at e; exact n _ (Option.some.inj e).symm
  have kx : ∀ {x o}, x ≠ A.r z → H x = some o → upd H (A.r z) (.lst xs) x = some o := fun n e => by rw [upd_ne n]; exact e
  refine ⟨⟨dx, kx (ne ei (by intro ws q; cases q)) ei⟩, kx (by cases z <;> first | exact n4 | exact n5) h.ls, kx (by cases z <;> first | exact n8 | exact n9) h.lr, fun b => ?_, fun b => ?_, h.nd, h.np, h.ny⟩
  · refine (h.st b).keep (fun o e => kx ?_ e) (fun o e => kx (by cases b <;> cases z <;> first | exact n11 | exact n12 | exact n13 | exact n14) e) t
    obtain ⟨d, e1⟩ := (h.st b).ins
    exact ne e1 (by intro ws q; cases q)
  · show ∃ ws, upd H (A.r z) (.lst xs) (A.r b) = some (.lst ws) ∧ DpAll K (upd H (A.r z) (.lst xs)) ws ((bset Y.r z rs b).map Letter.d)
    by_cases c : b = z
    · subst c; rw [bset_at]
      exact ⟨xs, upd_same, dps_tk t hx (noLs_map noL_letter _)⟩
    · rw [bset_ne c]
      obtain ⟨ws, e1, e2⟩ := h.rd b
      refine ⟨ws, kx ?_ e1, dps_tk t e2 (noLs_map noL_letter _)⟩
      cases b <;> cases z
      · exact absurd rfl c
      · exact Ne.symm n15
      · exact n15
      · exact absurd rfl c
end
end FL

/-! the law's own seats and roads in the heap; its draws -/
namespace FL
open PySem PySem.Spec PyProof.Rows L2
section
variable {K : PySem.W.Frag} {H H' H1 H2 : Hp} {S : Addr → Prop}
theorem nodup_set {α : Type} {x : α} : ∀ {l : List α} {i : Nat}, l.Nodup → x ∉ l → (l.set i x).Nodup
  | [], _, h, _ => h
  | y :: l, 0, h, hx => by
    rw [List.set_cons_zero]
    exact List.nodup_cons.mpr ⟨fun z => hx (List.mem_cons_of_mem _ z), (List.nodup_cons.mp h).2⟩
  | y :: l, i + 1, h, hx => by
    obtain ⟨h1, h2⟩ := List.nodup_cons.mp h
    rw [List.set_cons_succ]
    refine List.nodup_cons.mpr ⟨fun z => ?_, nodup_set h2 fun z => hx (List.mem_cons_of_mem _ z)⟩
    rcases List.mem_or_eq_of_mem_set z with z | z
    · exact h1 z
    · exact hx (by rw [z]; exact List.mem_cons_self ..)
/-- one of the law's seats -/
structure LSeat (K : PySem.W.Frag) (H : Hp) (q w : Addr) (s : Seat) : Prop where
  st : H q = some (.lst [.str (ofL s.text), .int (s.made : Int), .int (s.taken : Int), .ref w])
  wt : ∃ xs, H w = some (.lst xs) ∧ DpAll K H xs (pend s.heard s.wait)
theorem LSeat.keep {q w : Addr} {s : Seat} (h : LSeat K H q w s) (hq : ∀ o, H q = some o → H' q = some o) (hw : ∀ o, H w = some o → H' w = some o) (t : TK H H') : LSeat K H' q w s := by
  obtain ⟨xs, h2, h3⟩ := h.wt
  exact ⟨hq _ h.st, ⟨xs, hw _ h2, dps_tk t h3 (noL_pend _ _)⟩⟩
structure LA where
  q : Bool → Addr
  w : Bool → Addr
  r : Bool → Addr
def LA.foot (A : LA) (a b : Addr) : List Addr := [a, b, A.q true, A.q false, A.w true, A.w false, A.r true, A.r false]
structure LYAt (K : PySem.W.Frag) (H : Hp) (a b : Addr) (A : LA) (s : Bool → Seat) (R : Bool → List PyData) : Prop where
  ls : H a = some (.lst [.ref (A.q true), .ref (A.q false)])
  lr : H b = some (.lst [.ref (A.r true), .ref (A.r false)])
  st : ∀ z, LSeat K H (A.q z) (A.w z) (s z)
  rd : ∀ z, ∃ xs, H (A.r z) = some (.lst xs) ∧ DpAll K H xs (R z)
  nl : ∀ z, noLs (R z) = true
  nd : (A.foot a b).Nodup
section
variable {a b : Addr} {A : LA} {s : Bool → Seat} {R : Bool → List PyData} {z : Bool}
theorem LYAt.lists (h : LYAt K H a b A s R) : ∀ x ∈ A.foot a b, ∃ xs, H x = some (.lst xs) := by
  intro x hx
  simp only [LA.foot, List.mem_cons, List.not_mem_nil, or_false] at hx
  rcases hx with rfl | rfl | rfl | rfl | rfl | rfl | rfl | rfl
  · exact ⟨_, h.ls⟩
  · exact ⟨_, h.lr⟩
  · exact ⟨_, (h.st true).st⟩
  · exact ⟨_, (h.st false).st⟩
  · obtain ⟨xs, e, _⟩ := (h.st true).wt; exact ⟨xs, e⟩
  · obtain ⟨xs, e, _⟩ := (h.st false).wt; exact ⟨xs, e⟩
  · obtain ⟨xs, e, _⟩ := h.rd true; exact ⟨xs, e⟩
  · obtain ⟨xs, e, _⟩ := h.rd false; exact ⟨xs, e⟩
theorem LYAt.keep (h : LYAt K H a b A s R) (k : ∀ x ∈ A.foot a b, ∀ o, H x = some o → H' x = some o) (t : TK H H') : LYAt K H' a b A s R := by
  have m : ∀ x, x ∈ [a, b, A.q true, A.q false, A.w true, A.w false, A.r true, A.r false] → x ∈ A.foot a b := fun x hx => hx
  refine ⟨k _ (m _ (by simp)) _ h.ls, k _ (m _ (by simp)) _ h.lr, fun z => (h.st z).keep (k _ (m _ (by cases z <;> simp))) (k _ (m _ (by cases z <;> simp))) t, fun z => ?_, h.nl, h.nd⟩
  obtain ⟨xs, e1, e2⟩ := h.rd z
  exact ⟨xs, k _ (m _ (by cases z <;> simp)) _ e1, dps_tk t e2 (h.nl z)⟩
/-- a seat changed -/
theorem LYAt.seat {w' : Addr} {s' : Seat} (h : LYAt K H a b A s R) (f : Fr2 (A.q z) (A.w z) H H') (t : TK H H') (hw : w' = A.w z ∨ H w' = none) (st : LSeat K H' (A.q z) w' s') : LYAt K H' a b { A with w := bset A.w z w' } (bset s z s') R := by
  have kp : ∀ x, x ≠ A.q z → x ≠ A.w z → ∀ o, H x = some o → H' x = some o := fun x n m o e => f x o n m e
  refine ⟨kp _ (by cases z <;> exact fun e9 => absurd h.nd (by simp [LA.foot, e9])) (by cases z <;> exact fun e9 => absurd h.nd (by simp [LA.foot, e9])) _ h.ls, kp _ (by cases z <;> exact fun e9 => absurd h.nd (by simp [LA.foot, e9])) (by cases z <;> exact fun e9 => absurd h.nd (by simp [LA.foot, e9])) _ h.lr, fun c => ?_, fun c => ?_, h.nl, ?_⟩
  · show LSeat K H' (A.q c) (bset A.w z w' c) (bset s z s' c)
    by_cases e : c = z
    · subst e; rw [bset_at, bset_at]; exact st
    · rw [bset_ne e, bset_ne e]
      exact (h.st c).keep (kp _ (by cases c <;> cases z <;> first | exact absurd rfl e | exact fun e9 => absurd h.nd (by simp [LA.foot, e9])) (by cases c <;> cases z <;> exact fun e9 => absurd h.nd (by simp [LA.foot, e9]))) (kp _ (by cases c <;> cases z <;> exact fun e9 => absurd h.nd (by simp [LA.foot, e9])) (by cases c <;> cases z <;> first | exact absurd rfl e | exact fun e9 => absurd h.nd (by simp [LA.foot, e9]))) t
  · obtain ⟨xs, e1, e2⟩ := h.rd c
    exact ⟨xs, kp (A.r c) (by cases c <;> cases z <;> exact fun e9 => absurd h.nd (by simp [LA.foot, e9])) (by cases c <;> cases z <;> exact fun e9 => absurd h.nd (by simp [LA.foot, e9])) _ e1, dps_tk t e2 (h.nl c)⟩
  · by_cases e : w' = A.w z
    · have e2 : ({ A with w := bset A.w z w' } : LA) = A := by
        have : bset A.w z w' = A.w := funext fun c => by
          by_cases k : c = z
          · subst k; rw [bset_at, e]
          · rw [bset_ne k]
        rw [this]
      rw [e2]; exact h.nd
    · have hn : w' ∉ A.foot a b := fun m => by
        obtain ⟨xs, e3⟩ := h.lists _ m
        rw [hw.resolve_left e] at e3; cases e3
      cases z with
      | true => exact nodup_set (i := 4) h.nd hn
      | false => exact nodup_set (i := 5) h.nd hn
/-- a road changed -/
theorem LYAt.road {xs : List V} {rs : List PyData} (h : LYAt K H a b A s R) (hx : DpAll K H xs rs) (hl : noLs rs = true) : LYAt K (upd H (A.r z) (.lst xs)) a b A s (bset R z rs) := by
  obtain ⟨ys, er, _⟩ := h.rd z
  have t : TK H (upd H (A.r z) (.lst xs)) := TK.updL er
  have kx : ∀ {x o}, x ≠ A.r z → H x = some o → upd H (A.r z) (.lst xs) x = some o := fun n e => by rw [upd_ne n]; exact e
  refine ⟨kx (by cases z <;> exact fun e9 => absurd h.nd (by simp [LA.foot, e9])) h.ls, kx (by cases z <;> exact fun e9 => absurd h.nd (by simp [LA.foot, e9])) h.lr, fun c => (h.st c).keep (fun o e => kx (by cases c <;> cases z <;> exact fun e9 => absurd h.nd (by simp [LA.foot, e9])) e) (fun o e => kx (by cases c <;> cases z <;> exact fun e9 => absurd h.nd (by simp [LA.foot, e9])) e) t, fun c => ?_, bset_all (p := fun _ r => noLs r = true) hl (h.nl _), h.nd⟩
  show ∃ ws, upd H (A.r z) (.lst xs) (A.r c) = some (.lst ws) ∧ DpAll K (upd H (A.r z) (.lst xs)) ws (bset R z rs c)
  by_cases e : c = z
  · subst e; rw [bset_at]; exact ⟨xs, upd_same, dps_tk t hx hl⟩
  · rw [bset_ne e]
    obtain ⟨ws, e1, e2⟩ := h.rd c
    exact ⟨ws, kx (by cases c <;> cases z <;> first | exact absurd rfl e | exact fun e9 => absurd h.nd (by simp [LA.foot, e9])) e1, dps_tk t e2 (h.nl c)⟩
end
/-! draws -/
def DrawsAt (H : Hp) (a : Addr) : Prop := ∃ ns : List Nat, H a = some (.lst (ns.map fun n : Nat => V.int (n : Int))) ∧ ns.length ≤ 240
theorem DrawsAt.tk {a : Addr} (h : DrawsAt H a) (x : Fr a H H') : TK H H' := by
  obtain ⟨ns, e, _⟩ := h
  exact x.tk e
theorem DrawsAt.keep {a : Addr} (h : DrawsAt H a) (x : ∀ o, H a = some o → H' a = some o) : DrawsAt H' a := by
  obtain ⟨ns, e, h2⟩ := h
  exact ⟨ns, x _ e, h2⟩
theorem DrawsAt.same {a : Addr} (h : DrawsAt H a) (x : Same H H') : DrawsAt H' a := h.keep fun o e => x _ _ e
theorem DrawsAt.some {a p : Addr} (h : DrawsAt H a) (hp : H p = none) : p ≠ a := by
  obtain ⟨ns, e, _⟩ := h
  exact (ne_of_none e hp).symm
theorem dps_ints {ns : List Nat} : DpAll K H (ns.map fun n : Nat => V.int (n : Int)) (ns.map fun n : Nat => PyData.int (n : Int)) := by
  induction ns with
  | nil => exact .nil
  | cons n ns ih => exact .cons (.int _) ih
end
end FL

/-! seats, roads, yards, draws as what stands apart -/
namespace FL
open PySem PySem.Spec PyProof.Rows L2 CwR TL
/-- there is one -/
def exR {α : Type} (f : α → Res) : Res where
  P F H := ∃ a, (f a).P F H
  al := fun ⟨a, h⟩ => (f a).al h
  st := fun ⟨a, h⟩ k t => ⟨a, (f a).st h k t⟩
/-- and this is so -/
def prR (p : Prop) : Res where
  P F _ := (∀ x, ¬ F x) ∧ p
  al := fun ⟨h, _⟩ x hx => (h x hx).elim
  st := fun h _ _ => h
section
variable {K : PySem.W.Frag} {H H' : Hp} {Q : VK} {E : XK} {A X Y : Res}
theorem Hd.ex {α : Type} {f : α → Res} (h : Hd (exR f ^ X) H) : ∃ a, Hd (f a ^ X) H := by
  obtain ⟨F, F1, F2, ⟨a, h1⟩, h2, d, e⟩ := h
  exact ⟨a, F, F1, F2, h1, h2, d, e⟩
theorem Hd.mkEx {α : Type} {f : α → Res} (a : α) (h : Hd (f a ^ X) H) : Hd (exR f ^ X) H := by
  obtain ⟨F, F1, F2, h1, h2, d, e⟩ := h
  exact ⟨F, F1, F2, ⟨a, h1⟩, h2, d, e⟩
theorem Hd.pr {p : Prop} (h : Hd (prR p ^ X) H) : p ∧ Hd X H := by
  obtain ⟨F, F1, F2, ⟨_, h1⟩, h2, d, e⟩ := h
  exact ⟨h1, F2, h2⟩
theorem Hd.mkPr {p : Prop} (q : p) (h : Hd X H) : Hd (prR p ^ X) H := by
  obtain ⟨F, h⟩ := h
  exact ⟨F, fun _ => False, F, ⟨fun _ z => z, q⟩, h, fun x z => z.elim, fun x => ⟨.inr, fun z => z.resolve_left id⟩⟩
/-! draws -/
def dr (a : Addr) : Res where
  P F H := (∀ x, F x ↔ x = a) ∧ DrawsAt H a
  al := fun ⟨f, ns, h, _⟩ x hx => by rw [(f x).mp hx, h]; simp
  st := fun ⟨f, h⟩ k _ => ⟨f, h.keep fun o e => k _ _ ((f _).mpr rfl) e⟩
theorem Hd.dr {a : Addr} (h : Hd (FL.dr a ^ X) H) : DrawsAt H a := by obtain ⟨F, F1, F2, ⟨_, e⟩, _⟩ := h; exact e
theorem Hd.drN {a : Addr} (h : Hd (FL.dr a ^ X) H) (f : Fr a H H') (d : DrawsAt H' a) : Hd (FL.dr a ^ X) H' :=
  h.frame (fun F hF => ⟨fun x => x = a, ⟨fun x => Iff.rfl, d⟩, fun x z => .inl ((hF.1 x).mpr z), fun x o z e => f x o (fun q => z ((hF.1 x).mpr q)) e⟩) (h.dr.tk f)
/-! the law's seats -/
def lse (K : PySem.W.Frag) (q : Addr) (s : Seat) : Res where
  P F H := ∃ w, (∀ x, F x ↔ x = q ∨ x = w) ∧ LSeat K H q w s
  al := by
    rintro F H ⟨w, f, h⟩ x hx
    rcases (f x).mp hx with rfl | rfl
    · rw [h.st]; simp
    · obtain ⟨xs, e, _⟩ := h.wt; rw [e]; simp
  st := fun ⟨w, f, h⟩ k t => ⟨w, f, h.keep (k _ · ((f _).mpr (.inl rfl))) (k _ · ((f _).mpr (.inr rfl))) t⟩
theorem Hd.lse {q : Addr} {s : Seat} (h : Hd (FL.lse K q s ^ X) H) : ∃ w, LSeat K H q w s := by obtain ⟨F, F1, F2, ⟨w, _, e⟩, _⟩ := h; exact ⟨w, e⟩
def seR (K : PySem.W.Frag) (a : Addr) (s : Bool → Seat) : Res := exR fun q : Bool → Addr => pt a (.lst [.ref (q true), .ref (q false)]) ^ lse K (q true) (s true) ^ lse K (q false) (s false)
theorem Hd.se {a : Addr} {s : Bool → Seat} (z : Bool) (h : Hd (seR K a s ^ X) H) : ∃ q : Bool → Addr, Hd (FL.pt a (.lst [.ref (q true), .ref (q false)]) ^ FL.lse K (q z) (s z) ^ FL.lse K (q (!z)) (s (!z)) ^ X) H := by
  obtain ⟨q, h⟩ := h.ex
  refine ⟨q, ?_⟩
  cases z
  · exact hd_eq h (by simp only [Bool.not_false]; ac_rfl)
  · exact hd_eq h (by simp only [Bool.not_true]; ac_rfl)
theorem Hd.mkSe {a : Addr} {s : Bool → Seat} {z : Bool} {s' : Seat} {q : Bool → Addr} (h : Hd (FL.pt a (.lst [.ref (q true), .ref (q false)]) ^ FL.lse K (q z) s' ^ FL.lse K (q (!z)) (s (!z)) ^ X) H) : Hd (seR K a (bset s z s') ^ X) H := by
  refine Hd.mkEx q (hd_eq h ?_)
  cases z
  · have e1 : bset s false s' true = s true := rfl
    have e2 : bset s false s' false = s' := rfl
    rw [e1, e2]; simp only [Bool.not_false]; ac_rfl
  · have e1 : bset s true s' true = s' := rfl
    have e2 : bset s true s' false = s false := rfl
    rw [e1, e2]; simp only [Bool.not_true]; ac_rfl
theorem bset_self {α : Type} {f : Bool → α} {z : Bool} : bset f z (f z) = f := by
  funext c; unfold bset; split <;> simp_all
theorem Hd.mkSe' {a : Addr} {s : Bool → Seat} {z : Bool} {q : Bool → Addr} (h : Hd (FL.pt a (.lst [.ref (q true), .ref (q false)]) ^ FL.lse K (q z) (s z) ^ FL.lse K (q (!z)) (s (!z)) ^ X) H) : Hd (seR K a s ^ X) H := by
  have := h.mkSe
  rwa [bset_self] at this
theorem Hd.lseN {q w w' : Addr} {s s' : Seat} (h : Hd (FL.lse K q s ^ X) H) (hw : LSeat K H q w s) (f : Fr2 q w H H') (t : TK H H') (e : w' = w ∨ H w' = none) (st : LSeat K H' q w' s') : Hd (FL.lse K q s' ^ X) H' := by
  refine h.frame (fun F hF => ?_) t
  obtain ⟨w2, f2, h2⟩ := hF
  have ew : w2 = w := by
    have e1 := h2.st
    rw [hw.st] at e1
    cases e1; rfl
  subst ew
  refine ⟨fun x => x = q ∨ x = w', ⟨w', fun x => Iff.rfl, st⟩, fun x z => ?_, fun x o z g => f x o (fun y => z ((f2 x).mpr (.inl y))) (fun y => z ((f2 x).mpr (.inr y))) g⟩
  rcases z with z | z
  · exact .inl ((f2 x).mpr (.inl z))
  · rcases e with e | e
    · exact .inl ((f2 x).mpr (.inr (z.trans e)))
    · exact .inr (by rw [z]; exact e)
/-! two lists of data, by seat -/
def roR (K : PySem.W.Frag) (b : Addr) (R : Bool → List PyData) : Res := exR fun r : Bool → Addr => pt b (.lst [.ref (r true), .ref (r false)]) ^ ls K (r true) (R true) ^ ls K (r false) (R false)
theorem Hd.ro {b : Addr} {R : Bool → List PyData} (z : Bool) (h : Hd (roR K b R ^ X) H) : ∃ r : Bool → Addr, Hd (FL.pt b (.lst [.ref (r true), .ref (r false)]) ^ FL.ls K (r z) (R z) ^ FL.ls K (r (!z)) (R (!z)) ^ X) H := by
  obtain ⟨r, h⟩ := h.ex
  refine ⟨r, ?_⟩
  cases z
  · exact hd_eq h (by simp only [Bool.not_false]; ac_rfl)
  · exact hd_eq h (by simp only [Bool.not_true]; ac_rfl)
theorem Hd.mkRo {b : Addr} {R : Bool → List PyData} {z : Bool} {rs : List PyData} {r : Bool → Addr} (h : Hd (FL.pt b (.lst [.ref (r true), .ref (r false)]) ^ FL.ls K (r z) rs ^ FL.ls K (r (!z)) (R (!z)) ^ X) H) : Hd (roR K b (bset R z rs) ^ X) H := by
  refine Hd.mkEx r (hd_eq h ?_)
  cases z
  · have e1 : bset R false rs true = R true := rfl
    have e2 : bset R false rs false = rs := rfl
    rw [e1, e2]; simp only [Bool.not_false]; ac_rfl
  · have e1 : bset R true rs true = rs := rfl
    have e2 : bset R true rs false = R false := rfl
    rw [e1, e2]; simp only [Bool.not_true]; ac_rfl
theorem Hd.mkRo' {b : Addr} {R : Bool → List PyData} {z : Bool} {r : Bool → Addr} (h : Hd (FL.pt b (.lst [.ref (r true), .ref (r false)]) ^ FL.ls K (r z) (R z) ^ FL.ls K (r (!z)) (R (!z)) ^ X) H) : Hd (roR K b R ^ X) H := by
  have := h.mkRo
  rwa [bset_self] at this
/-! the program's yard -/
def yd (K : PySem.W.Frag) (y : Addr) (Y : Yd) : Res where
  P F H := ∃ A : YA, (∀ x, F x ↔ x ∈ A.foot y) ∧ YardAt K "Yard" H y A Y
  al := fun ⟨A, f, h⟩ x hx => h.there x ((f x).mp hx)
  st := fun ⟨A, f, h⟩ k t => ⟨A, f, h.keep (fun x hx o e => k x o ((f x).mpr hx) e) t⟩
theorem Hd.yin {y : Addr} {Y : Yd} (h : Hd (yd K y Y ^ X) H) : ∃ S, YardIn K S H y Y ∧ Dm S H ∧ ∀ H' Y', Kp S H H' → TK H H' → YardIn K S H' y Y' → Hd (yd K y Y' ^ X) H' := by
  obtain ⟨F, F1, F2, ⟨A, f, hA⟩, b, d, e⟩ := h
  refine ⟨F2, ⟨A, hA, fun x hx z => d x ((f x).mpr hx) z⟩, X.al b, fun H' Y' kp t hy => ?_⟩
  obtain ⟨A', hA', n⟩ := hy
  exact ⟨fun x => x ∈ A'.foot y ∨ F2 x, fun x => x ∈ A'.foot y, F2, ⟨A', fun x => Iff.rfl, hA'⟩, X.st b (fun x o z g => kp x o z g) t, fun x z w => n x z w, fun x => Iff.rfl⟩
theorem Hd.ybare {y : Addr} {Y : Yd} (h : Hd (yd K y Y ^ X) H) : ∃ S, YardIn K S H y Y := let ⟨S, hy, _⟩ := h.yin; ⟨S, hy⟩
end
end FL

/-! what each def promises: the program's seats, yards, stories; the law's own -/
namespace FL
open PySem PySem.Spec PyProof.Rows L2
mutual
def kindsD : PyData → PyData
  | .list ds => .list [.bool true, .list (kindsA ds)]
  | .tuple ds => .list [.bool false, .list (kindsA ds)]
  | .str _ => .list [.bool true, .bool false]
  | .bool _ => .list [.bool false, .bool true]
  | _ => .list [.bool false, .bool false]
def kindsA : List PyData → List PyData
  | [] => []
  | d :: ds => kindsD d :: kindsA ds
end
mutual
/-- no list or tuple of it is too long -/
def wideD : PyData → Bool
  | .list ds => decide (ds.length ≤ 100000) && wideA ds
  | .tuple ds => decide (ds.length ≤ 100000) && wideA ds
  | _ => true
def wideA : List PyData → Bool
  | [] => true
  | d :: ds => wideD d && wideA ds
end
def rMinU : List V → Hp → VK → Prop := fun xs H Q => ∃ i j, xs = [.int i, .int j] ∧ Q (.int (if j < i then j else i)) H
def rAbsU : List V → Hp → VK → Prop := fun xs H Q => ∃ i, xs = [.int i] ∧ Q (.int (if i < 0 then -i else i)) H
theorem u_min {X : Cx} (hc : X.calm = true) : CallR X (.builtin "min") rMinU := call_min2 hc
section
variable (K : PySem.W.Frag)
/-! lines -/
def sp_is_sign (_ : PySem.W.Frag) : Sp := fun vs H Q _ => ∃ c, vs = [.str (sgn c)] ∧ okC c = true ∧ Q (.bl true) H
def sp_is_place (_ : PySem.W.Frag) : Sp := fun vs H Q _ => ∃ n : Nat, vs = [.int (n : Int)] ∧ Q (.bl true) H
def sp_is_whole (_ : PySem.W.Frag) : Sp := fun vs H Q _ => ∃ n : Nat, vs = [.int (n : Int)] ∧ Q (.bl true) H
def sp_is_deed : Sp := fun vs H Q _ => ∃ v e, vs = [v] ∧ Dp K H v (Deed.d e) ∧ e.okc = true ∧ Q (.bl true) H
def sp_can_be_done : Sp := fun vs H Q _ => ∃ l v e, vs = [.str (ofL l), v] ∧ l.length ≤ 100000 ∧ Dp K H v (Deed.d e) ∧ e.okc = true ∧ Q (.bl (cn l e)) H
def sp_done : Sp := fun vs H Q _ => ∃ l v e, vs = [.str (ofL l), v] ∧ l.length ≤ 100000 ∧ Dp K H v (Deed.d e) ∧ e.okc = true ∧ cn l e = true ∧ Q (.str (ofL (dn l e))) H
/-! behind, marks, rows -/
def sp_moved : Sp := fun vs H Q _ => ∃ v w f a b, vs = [v, w, .bl f] ∧ Dp K H v (Deed.d a) ∧ Dp K H w (Deed.d b) ∧ ∀ v' H', Same H H' → Dp K H' v' (mv a b f).d → Q v' H'
def sp_mark_moved : Sp := fun vs H Q _ => ∃ (p : Nat), ∃ v f e, vs = [.int (p : Int), v, .bl f] ∧ Dp K H v (Deed.d e) ∧ ∀ H', Same H H' → Q (.int (mkMv p e f : Int)) H'
def sp_moved_behind : Sp := fun vs H Q _ => ∃ v w z d r, vs = [v, w, .bl (!z)] ∧ Dp K H v (Deed.d d) ∧ Dp K H w (.list (r.map Deed.d)) ∧ r.length ≤ 100000 ∧
  ∀ p q v' ws H', Same H H' → SqT K H' p [v', .ref q] → Dp K H' v' (come z d r).1.d → H q = none → H' q = some (.lst ws) → DpAll K H' ws ((come z d r).2.map Deed.d) → Q (.ref p) H'
def sp_rows_moved : Sp := fun vs H Q _ => ∃ v w a b, vs = [v, w] ∧ Dp K H v (.list (a.map Deed.d)) ∧ Dp K H w (.list (b.map Deed.d)) ∧ a.length ≤ 100000 ∧ b.length ≤ 100000 ∧
  ∀ p q q2 ws us H', Same H H' → SqT K H' p [.ref q, .ref q2] → H q = none → H' q = some (.lst ws) → DpAll K H' ws ((rowsMv a b).1.map Deed.d) → H q2 = none → H' q2 = some (.lst us) → DpAll K H' us ((rowsMv a b).2.map Deed.d) → Q (.ref p) H'
/-! seats -/
def sp_is_letter : Sp := fun vs H Q _ => ∃ v l, vs = [v] ∧ Dp K H v (Letter.d l) ∧ l.deed.okc = true ∧ Q (.bl true) H
def sp_Seat___init__ : Sp := fun vs H Q _ => ∃ p dx z l, vs = [.ref p, .int (ixZ z), .str (ofL l)] ∧ l.length ≤ 100000 ∧ H p = some (.ins (gloA K "Seat") dx []) ∧
  ∀ w H', H w = none → w ≠ p → Fr p H H' → TK H H' → SeatAt K H' p w z (newSeat l) → Q .non H'
def sp_Seat_make_in : Sp := fun vs H Q _ => ∃ p w z s v e, vs = [.ref p, v] ∧ SeatAt K H p w z s ∧ Dp K H v (Deed.d e) ∧ e.okc = true ∧ cn s.text e = true ∧ s.text.length ≤ 10000 ∧ s.wait.length ≤ 10000 ∧
  ∀ v' H', Fr2 p w H H' → TK H H' → SeatAt K H' p w z (mkS z s e) → Dp K H' v' (mkL s e).d → Q v' H'
def sp_Seat_past : Sp := fun vs H Q _ => ∃ p w z s v u d r, vs = [.ref p, v, u] ∧ SeatAt K H p w z s ∧ Dp K H v (Deed.d d) ∧ Dp K H u (.list (r.map Deed.d)) ∧ r.length ≤ 10000 ∧
  ∀ p' q v' ws H', Same H H' → SqT K H' p' [v', .ref q] → Dp K H' v' (come z d r).1.d → H q = none → H' q = some (.lst ws) → DpAll K H' ws ((come z d r).2.map Deed.d) → Q (.ref p') H'
def sp_Seat_take_in : Sp := fun vs H Q _ => ∃ p w z s v l, vs = [.ref p, v] ∧ SeatAt K H p w z s ∧ Dp K H v (Letter.d l) ∧ l.deed.okc = true ∧ (∀ d ∈ s.wait, d.okc = true) ∧ l.made = s.taken ∧ s.heard ≤ l.taken ∧ l.taken ≤ s.made ∧ cn s.text (tkW z s l).1 = true ∧
  s.text.length ≤ 10000 ∧ s.wait.length ≤ 10000 ∧ ∀ v' w' H', Fr2 p w H H' → TK H H' → H w' = none → SeatAt K H' p w' z (tkS z s l) → Dp K H' v' (tkW z s l).1.d → Q v' H'
def sp_Seat_shown : Sp := fun vs H Q _ => ∃ p w z s, vs = [.ref p] ∧ SeatAt K H p w z s ∧ Q (.str (ofL s.text)) H
def sp_Seat_taken_so_far : Sp := fun vs H Q _ => ∃ p w z s, vs = [.ref p] ∧ SeatAt K H p w z s ∧ Q (.int (s.taken : Int)) H
def sp_Seat_mark_now : Sp := fun vs H Q _ => ∃ p w z s, vs = [.ref p] ∧ SeatAt K H p w z s ∧ Q (.int (s.own : Int)) H
def sp_Seat_other_mark_now : Sp := fun vs H Q _ => ∃ p w z s, vs = [.ref p] ∧ SeatAt K H p w z s ∧ Q (.int (s.far : Int)) H
/-! yards -/
def sp_is_seat (_ : PySem.W.Frag) : Sp := fun vs H Q _ => ∃ z, vs = [.int (ixZ z)] ∧ ∀ H', Same H H' → Q (.bl true) H'
def sp_need_seat (_ : PySem.W.Frag) : Sp := fun vs H Q _ => ∃ z, vs = [.int (ixZ z)] ∧ ∀ H', Same H H' → Q .non H'
def sp_Yard___init__ : Sp := fun vs H Q _ => ∃ y dx l, vs = [.ref y, .str (ofL l)] ∧ l.length ≤ 10000 ∧ H y = some (.ins (gloA K "Yard") dx []) ∧
  ∀ A H', (∀ x ∈ A.lists, H x = none) → (∀ z, H (A.p z) = none) → Fr y H H' → TK H H' → YardAt K "Yard" H' y A (Yd.new l) → Q .non H'
def sp_Yard_make_at : Sp := fun vs H Q _ => ∃ y z v e S Y n, vs = [.ref y, .int (ixZ z), v] ∧ YardIn K S H y Y ∧ Dm S H ∧ Dp K H v (Deed.d e) ∧ e.okc = true ∧ cn (Y.s z).text e = true ∧ Y.ok n ∧ n ≤ 9000 ∧
  ∀ v' H', Kp S H H' → TK H H' → YardIn K S H' y (Y.make z e) → Dp K H' v' (mkL (Y.s z) e).d → Q v' H'
def sp_Yard_come_to : Sp := fun vs H Q _ => ∃ y z S Y n x t, vs = [.ref y, .int (ixZ z)] ∧ YardIn K S H y Y ∧ Dm S H ∧ Y.ok n ∧ n ≤ 9000 ∧ Y.r z = x :: t ∧
  ∀ v' H', Kp S H H' → TK H H' → YardIn K S H' y (Y.take z x t) → Dp K H' v' (tkW z (Y.s z) x).1.d → Q v' H'
def sp_Yard_shown_at : Sp := fun vs H Q _ => ∃ y z S Y, vs = [.ref y, .int (ixZ z)] ∧ YardIn K S H y Y ∧ ∀ H', Same H H' → Q (.str (ofL (Y.s z).text)) H'
def sp_Yard_mark_at : Sp := fun vs H Q _ => ∃ y z S Y, vs = [.ref y, .int (ixZ z)] ∧ YardIn K S H y Y ∧ ∀ H', Same H H' → Q (.int ((Y.s z).own : Int)) H'
def sp_Yard_other_mark_at : Sp := fun vs H Q _ => ∃ y z S Y, vs = [.ref y, .int (ixZ z)] ∧ YardIn K S H y Y ∧ ∀ H', Same H H' → Q (.int ((Y.s z).far : Int)) H'
def sp_Yard_road_to : Sp := fun vs H Q _ => ∃ y z S Y, vs = [.ref y, .int (ixZ z)] ∧ YardIn K S H y Y ∧ ∀ p xs H', Same H H' → H p = none → H' p = some (.lst xs) → DpAll K H' xs ((Y.r z).map Letter.d) → Q (.ref p) H'
/-! stories -/
def sp_is_either (_ : PySem.W.Frag) : Sp := fun vs H Q _ => ∃ z, vs = [.int (ixZ z)] ∧ Q (.bl true) H
def sp_may_be : Sp := fun vs H Q _ => ∃ y v e S Y n, vs = [.ref y, v] ∧ YardIn K S H y Y ∧ Y.ok n ∧ n ≤ 9000 ∧ Dp K H v (Ev.d e) ∧ e.okc = true ∧ ∀ H', Same H H' → Q (.bl (Y.can e)) H'
/-- what is shown at both seats -/
def both (Y : Yd) : PyData := .tuple [.str (ofL (Y.s true).text), .str (ofL (Y.s false).text)]
def sp_lines_behind : Sp := fun vs H Q _ => ∃ l v es, vs = [.str (ofL l), v] ∧ okL l = true ∧ l.length ≤ 1000 ∧ Dp K H v (.list (es.map Ev.d)) ∧ (∀ e ∈ es, e.okc = true) ∧ es.length ≤ 1000 ∧
  match runs (Yd.new l) es with
  | none => ∀ H', Same H H' → Q .non H'
  | some p => ∀ q xs H', Same H H' → H q = none → H' q = some (.lst xs) → DpAll K H' xs (p.1.map both) → Q (.ref q) H'
def sp_lines_of : Sp := fun vs H Q _ => ∃ l v es z p, vs = [.str (ofL l), v, .int (ixZ z)] ∧ okL l = true ∧ l.length ≤ 1000 ∧ Dp K H v (.list (es.map Ev.d)) ∧ (∀ e ∈ es, e.okc = true) ∧ es.length ≤ 1000 ∧ runs (Yd.new l) es = some p ∧
  ∀ q H', Same H H' → H q = none → H' q = some (.lst (p.1.map fun Y => .str (ofL (Y.s z).text))) → Q (.ref q) H'
def sp_is_story : Sp := fun vs H Q _ => ∃ l v es, vs = [.str (ofL l), v] ∧ okL l = true ∧ l.length ≤ 1000 ∧ Dp K H v (.list (es.map Ev.d)) ∧ (∀ e ∈ es, e.okc = true) ∧ es.length ≤ 1000 ∧ ∀ H', Same H H' → Q (.bl (runs (Yd.new l) es).isSome) H'
/-! the law's own -/
def sp__law_draws : Sp := fun vs H Q _ => ∃ (a : Addr) (ns : List Int), vs = [.ref a] ∧ SqL K H a (ns.map V.int) ∧ ns.length ≤ 1000 ∧ ∀ d H', Same H H' → H d = none → DrawsAt H' d → Q (.ref d) H'
def sp__law_take (_ : PySem.W.Frag) : Sp := fun vs H Q _ => ∃ (a : Addr) (m : Int), vs = [.ref a, .int m] ∧ DrawsAt H a ∧ 0 < m ∧
  ∀ (r : Nat) H', (r : Int) < m → Fr a H H' → DrawsAt H' a → Q (.int (r : Int)) H'
def sp__law_sign (_ : PySem.W.Frag) : Sp := fun vs H Q _ => ∃ (a : Addr), vs = [.ref a] ∧ DrawsAt H a ∧ ∀ c H', okC c = true → Fr a H H' → DrawsAt H' a → Q (.str (sgn c)) H'
def sp__law_line (_ : PySem.W.Frag) : Sp := fun vs H Q _ => ∃ (a : Addr), vs = [.ref a] ∧ DrawsAt H a ∧ ∀ l H', okL l = true → l.length ≤ 40 → Fr a H H' → DrawsAt H' a → Q (.str (ofL l)) H'
def sp__law_deed : Sp := fun vs H Q _ => ∃ (a : Addr), ∃ l, vs = [.ref a, .str (ofL l)] ∧ DrawsAt H a ∧ l.length ≤ 100000 ∧ ∀ e v H', e.okc = true → cn l e = true → Fr a H H' → DrawsAt H' a → Dp K H' v (Deed.d e) → Q v H'
def sp__law_behind : Sp := sp_moved K
def sp__law_after : Sp := fun vs H Q _ => ∃ l v e, vs = [.str (ofL l), v] ∧ l.length ≤ 100000 ∧ Dp K H v (Deed.d e) ∧ cn l e = true ∧ ∀ H', Same H H' → Q (.str (ofL (dn l e))) H'
def sp__law_seats : Sp := fun vs H Q _ => ∃ l, vs = [.str (ofL l)] ∧ ∀ (a : Addr) (q w : Bool → Addr) H', Same H H' → H a = none → (∀ z, H (q z) = none) → (∀ z, H (w z) = none) → [a, q true, q false, w true, w false].Nodup →
  H' a = some (.lst [.ref (q true), .ref (q false)]) → (∀ z, LSeat K H' (q z) (w z) (newSeat l)) → Q (.ref a) H'
def sp__law_make : Sp := fun vs H Q _ => ∃ a, ∃ q : Bool → Addr, ∃ w s z v e, vs = [.ref a, .int (ixZ z), v] ∧ H a = some (.lst [.ref (q true), .ref (q false)]) ∧ LSeat K H (q z) w s ∧ Dp K H v (Deed.d e) ∧ cn s.text e = true ∧ s.text.length ≤ 10000 ∧ s.wait.length ≤ 10000 ∧ s.made = s.heard + s.wait.length ∧
  ∀ v' H', Fr2 (q z) w H H' → TK H H' → LSeat K H' (q z) w (mkS z s e) → Dp K H' v' (mkL s e).d3 → Q v' H'
def sp__law_come : Sp := fun vs H Q _ => ∃ a, ∃ q : Bool → Addr, ∃ w s z v l d, vs = [.ref a, .int (ixZ z), v] ∧ H a = some (.lst [.ref (q true), .ref (q false)]) ∧ LSeat K H (q z) w s ∧ (d = Letter.d l ∨ d = Letter.d3 l) ∧ Dp K H v d ∧ cn s.text (tkW z s l).1 = true ∧ s.heard ≤ l.taken ∧ s.text.length ≤ 10000 ∧ s.wait.length ≤ 10000 ∧
  ∀ v' w' H', Fr2 (q z) w H H' → TK H H' → H w' = none → LSeat K H' (q z) w' (tkS z s l) → Dp K H' v' (tkW z s l).1.d → Q v' H'
def sp__law_story : Sp := fun vs H Q _ => ∃ (a : Addr), ∃ l, ∃ m : Nat, vs = [.ref a, .str (ofL l), .int (m : Int)] ∧ DrawsAt H a ∧ okL l = true ∧ l.length ≤ 1000 ∧ m ≤ 100 ∧
  ∀ q es p xs H', (∀ e ∈ es, e.okc = true) → es.length ≤ m → runs (Yd.new l) es = some p → Fr a H H' → DrawsAt H' a → H q = none → H' q = some (.lst xs) → DpAll K H' xs (es.map Ev.d) → Q (.ref q) H'
/-- what _law_kinds tells -/
def sp__law_kinds (m : Nat) : Sp := fun vs H Q _ => ∃ v d, vs = [v] ∧ Dp K H v d ∧ d.depth ≤ m ∧ wideD d = true ∧ ∀ v' H', Hd (dd K v' (kindsD d) ^ all H) H' → Q v' H'
def sp__law_same : Sp := fun vs H Q _ => ∃ v w d, vs = [v, w] ∧ Dp K H v d ∧ Dp K H w d ∧ Ly 5 d ∧ wideD d = true ∧ ∀ H', Same H H' → Q (.bl true) H'
def sp__law_is_deed : Sp := fun vs H Q _ => ∃ l v e, vs = [.str (ofL l), v] ∧ l.length ≤ 100000 ∧ Dp K H v (Deed.d e) ∧ e.okc = true ∧ ∀ H', Same H H' → Q (.bl (cn l e)) H'
/-- the letters on the way to a seat, as the law has them -/
def rd3 (Y : Yd) (z : Bool) : List PyData := (Y.r z).map Letter.d3
def sp__law_is_event : Sp := fun vs H Q _ => ∃ a b, ∃ Y : Yd, ∃ v e, ∃ X : Res, vs = [.ref a, .ref b, v] ∧ Hd (seR K a Y.s ^ roR K b (rd3 Y) ^ X) H ∧ (∀ z, (Y.s z).text.length ≤ 10000) ∧ (∀ z, ∀ l ∈ Y.r z, l.deed.okc = true) ∧ Dp K H v (Ev.d e) ∧ e.okc = true ∧ ∀ H', Same H H' → Q (.bl (Y.can e)) H'
/-- what each seat showed -/
def shw (Ys : List Yd) (z : Bool) : List PyData := Ys.map fun Y => .str (ofL (Y.s z).text)
def sp__law_told : Sp := fun vs H Q _ => ∃ l a es, ∃ X : Res, vs = [.str (ofL l), .ref a] ∧ okL l = true ∧ l.length ≤ 1000 ∧ Hd (ls K a (es.map Ev.d) ^ X) H ∧ (∀ e ∈ es, e.okc = true) ∧ es.length ≤ 1000 ∧
  match runs (Yd.new l) es with
  | none => ∀ H', Hd (ls K a (es.map Ev.d) ^ X) H' → Q .non H'
  | some p => ∀ q H', Hd (roR K q (shw p.1) ^ ls K a (es.map Ev.d) ^ X) H' → Q (.ref q) H'
end
section
variable (K : PySem.W.Frag)
namespace K78
def sp__law_right : Sp := fun vs H Q _ => ∃ l a w es, ∃ p : List Yd × Yd, ∃ X : Res, vs = [.str (ofL l), .ref a, .ref w] ∧ okL l = true ∧ l.length ≤ 1000 ∧ Hd (ls K a (es.map Ev.d) ^ roR K w (shw p.1) ^ X) H ∧ (∀ e ∈ es, e.okc = true) ∧ es.length ≤ 1000 ∧ runs (Yd.new l) es = some p ∧
  ∀ H', Hd (ls K a (es.map Ev.d) ^ roR K w (shw p.1) ^ X) H' → Q (.bl true) H'
def sp_law : Sp := fun vs H Q _ => ∃ (a : Addr) (ns : List Int), vs = [.ref a] ∧ SqL K H a (ns.map V.int) ∧ ns.length ≤ 63 ∧ ∀ H', Q (.bl true) H'
end K78
end
end FL

namespace FL
open PySem PySem.Spec PyProof.Rows L2 CwR
abbrev N__law_draws : List Str := ["script", "draws", "k", "rest", "stir", "many"]
def t__law_draws (K : PySem.W.Frag) : TS := (tSeq (tAsg (tLst tNil) (gName 1)) (tSeq (tFor (iRng1 (tCons (tCB rMinU (tCons (tCB (rLenU K) (tCons (tVar 0) tNil)) (tCons (tC (.int 80)) tNil))) tNil)) (gName 2) (tSeq (tAsg (tCB rAbsU (tCons (tOp (rIx K) (tVar 0) (tVar 2)) tNil)) (gName 3)) (tIfS (tTest (tOp rLtU (tVar 3) (tOp rPowU (tC (.int 10)) (tC (.int 18))))) (tSeq (tAsg (tOp rModU (tOp rMulU (tOp rModU (tOp (rAddU K) (tOp (rAddU K) (tVar 3) (tOp rMulU (tC (.int 7919)) (tVar 2))) (tC (.int 3))) (tC (.int 2147483647))) (tC (.int 48271))) (tC (.int 2147483647))) (gName 4)) (tSeq (tAsg (tOp rModU (tOp rMulU (tVar 4) (tVar 4)) (tC (.int 2147483629))) (gName 4)) (tSeq (tDrop (tBM K "list" rAppend (tVar 1) (tCons (tOp rModU (tOp rDivU (tVar 4) (tC (.int 16))) (tC (.int 1000))) tNil))) (tSeq (tDrop (tBM K "list" rAppend (tVar 1) (tCons (tOp rModU (tOp rDivU (tVar 4) (tC (.int 16000))) (tC (.int 1000))) tNil))) (tSeq (tAsg (tOp rModU (tOp (rAddU K) (tVar 4) (tOp rMulU (tC (.int 40692)) (tOp (rAddU K) (tVar 2) (tC (.int 7))))) (tC (.int 2147483587))) (gName 4)) (tDrop (tBM K "list" rAppend (tVar 1) (tCons (tOp rModU (tOp rDivU (tOp rModU (tOp rMulU (tVar 4) (tVar 4)) (tC (.int 2147483647))) (tC (.int 16))) (tC (.int 1000))) tNil)))))))) (tSeq (tAsg (tC (.int 0)) (gName 5)) (tWhile (tAnd (tTest (tOp rGeU (tVar 3) (tC (.int 1000)))) (tTest (tOp rLtU (tVar 5) (tC (.int 60))))) (tSeq (tDrop (tBM K "list" rAppend (tVar 1) (tCons (tOp rModU (tVar 3) (tC (.int 1000))) tNil))) (tSeq (tAsg (tOp rDivU (tVar 3) (tC (.int 1000))) (gName 3)) (tAsg (tOp (rAddU K) (tVar 5) (tC (.int 1))) (gName 5))))))))) (tRet (tSl (rSlU K) (tVar 1) tNoPart (tPart (tC (.int 240)))))))
abbrev N__law_take : List Str := ["draws", "many"]
def t__law_take (K : PySem.W.Frag) : TS := (tSeq (tIfS (tTest (tOp (rEqU K) (tVar 0) (tLst tNil))) (tRet (tC (.int 0))) tNext) (tRet (tOp rModU (tBM K "list" rPopAt (tVar 0) (tCons (tC (.int 0)) tNil)) (tVar 1))))
abbrev N__law_sign : List Str := ["draws", "some"]
def t__law_sign (K : PySem.W.Frag) : TS := (tSeq (tAsg (tOp (rIx K) (tLst (tCons (tC (.str "abz ")) (tCons (tC (.str "abcdefghijklmnopqrstuvwxyz ")) tNil))) (tCall (sp__law_take K) [] E0 (tCons (tVar 0) (tCons (tC (.int 2)) tNil)))) (gName 1)) (tRet (tOp (rIx K) (tVar 1) (tCall (sp__law_take K) [] E0 (tCons (tVar 0) (tCons (tCB (rLenU K) (tCons (tVar 1) tNil)) tNil))))))
abbrev N__law_line : List Str := ["draws", "many", "some", "k", "step"]
def t__law_line (K : PySem.W.Frag) : TS := (tSeq (tAsg (tOp (rIx K) (tLst (tCons (tCall (sp__law_take K) [] E0 (tCons (tVar 0) (tCons (tC (.int 5)) tNil))) (tCons (tCall (sp__law_take K) [] E0 (tCons (tVar 0) (tCons (tC (.int 41)) tNil))) (tCons (tC (.int 40)) tNil)))) (tCall (sp__law_take K) [] E0 (tCons (tVar 0) (tCons (tC (.int 3)) tNil)))) (gName 1)) (tSeq (tAsg (tLc (iRng1 (tCons (tC (.int 6)) tNil)) (gName 3) tYes (tCall (sp__law_sign K) [] E0 (tCons (tVar 0) tNil)) [3]) (gName 2)) (tSeq (tAsg (tOp (rAddU K) (tC (.int 1)) (tCall (sp__law_take K) [] E0 (tCons (tVar 0) (tCons (tC (.int 11)) tNil)))) (gName 4)) (tRet (tJoin K (tC (.str "")) (tLc (iRng1 (tCons (tVar 1) tNil)) (gName 3) tYes (tOp (rIx K) (tVar 2) (tOp rModU (tOp (rAddU K) (tOp rMulU (tVar 3) (tVar 4)) (tOp rMulU (tVar 3) (tVar 3))) (tC (.int 6)))) [3]))))))
abbrev N__law_seats : List Str := ["line"]
def t__law_seats (K : PySem.W.Frag) : TS := (tRet (tLst (tCons (tLst (tCons (tVar 0) (tCons (tC (.int 0)) (tCons (tC (.int 0)) (tCons (tLst tNil) tNil))))) (tCons (tLst (tCons (tVar 0) (tCons (tC (.int 0)) (tCons (tC (.int 0)) (tCons (tLst tNil) tNil))))) tNil))))
abbrev N__law_behind : List Str := ["deed", "other", "ahead", "kind", "place", "pushed"]
def t__law_behind (K : PySem.W.Frag) : TS := (tSeq (tIfS (tOr (tTest (tOp (rEqU K) (tOp (rIx K) (tVar 0) (tC (.int 0))) (tC (.str "none")))) (tTest (tOp (rEqU K) (tOp (rIx K) (tVar 1) (tC (.int 0))) (tC (.str "none"))))) (tRet (tVar 0)) tNext) (tSeq (tAsg (tSl (rSlA K) (tVar 0) tNoPart (tPart (tC (.int 2)))) (gTup K 2 (gCons (gName 3) (gCons (gName 4) gNil)))) (tSeq (tIfS (tTest (tOp (rEqU K) (tOp (rIx K) (tVar 1) (tC (.int 0))) (tC (.str "cut")))) (tSeq (tIfS (tAnd (tTest (tOp (rEqU K) (tVar 3) (tC (.str "cut")))) (tTest (tOp (rEqU K) (tVar 4) (tOp (rIx K) (tVar 1) (tC (.int 1)))))) (tRet (tTup (tCons (tC (.str "none")) tNil))) tNext) (tRet (tOp (rAddU K) (tTup (tCons (tVar 3) (tCons (tOp rSubU (tVar 4) (tCB rIntU (tCons (tOp rLtU (tOp (rIx K) (tVar 1) (tC (.int 1))) (tVar 4)) tNil))) tNil))) (tSl (rSlU K) (tVar 0) (tPart (tC (.int 2))) tNoPart)))) tNext) (tSeq (tAsg (tOrV (tOp rLtU (tOp (rIx K) (tVar 1) (tC (.int 1))) (tVar 4)) (tAndV (tOp (rEqU K) (tOp (rIx K) (tVar 1) (tC (.int 1))) (tVar 4)) (tOrV (tOp (rEqU K) (tVar 3) (tC (.str "cut"))) (tNotV (tVar 2))))) (gName 5)) (tRet (tOp (rAddU K) (tTup (tCons (tVar 3) (tCons (tOp (rAddU K) (tVar 4) (tCB rIntU (tCons (tVar 5) tNil))) tNil))) (tSl (rSlU K) (tVar 0) (tPart (tC (.int 2))) tNoPart)))))))
abbrev N__law_after : List Str := ["line", "deed", "place", "rest"]
def t__law_after (K : PySem.W.Frag) : TS := (tSeq (tIfS (tTest (tOp (rEqU K) (tOp (rIx K) (tVar 1) (tC (.int 0))) (tC (.str "none")))) (tRet (tVar 0)) tNext) (tSeq (tAsg (tOp (rIx K) (tVar 1) (tC (.int 1))) (gName 2)) (tSeq (tAsg (tSl (rSlU K) (tVar 0) (tPart (tOp (rAddU K) (tVar 2) (tCB rIntU (tCons (tOp (rEqU K) (tOp (rIx K) (tVar 1) (tC (.int 0))) (tC (.str "cut"))) tNil)))) tNoPart) (gName 3)) (tRet (tOp (rAddU K) (tOp (rAddU K) (tSl (rSlU K) (tVar 0) tNoPart (tPart (tVar 2))) (tJoin K (tC (.str "")) (tSl (rSlU K) (tVar 1) (tPart (tC (.int 2))) tNoPart))) (tVar 3))))))
abbrev N__law_come : List Str := ["seats", "at", "letter", "seat", "deed", "left", "number", "own"]
def t__law_come (K : PySem.W.Frag) : TS := (tSeq (tAsg (tOp (rIx K) (tVar 0) (tVar 1)) (gName 3)) (tSeq (tAsg (tOp (rIx K) (tVar 2) (tC (.int 2))) (gName 4)) (tSeq (tAsg (tLst tNil) (gName 5)) (tSeq (tFor (iList K (tOp (rIx K) (tVar 3) (tC (.int 3)))) (gTup K 2 (gCons (gName 6) (gCons (gName 7) gNil))) (tIfS (tTest (tOp rGeU (tVar 6) (tOp (rIx K) (tVar 2) (tC (.int 1))))) (tSeq (tDrop (tBM K "list" rAppend (tVar 5) (tCons (tTup (tCons (tVar 6) (tCons (tCall (sp__law_behind K) [] E0 (tCons (tVar 7) (tCons (tVar 4) (tCons (tOp (rEqU K) (tVar 1) (tC (.int 0))) tNil)))) tNil))) tNil))) (tAsg (tCall (sp__law_behind K) [] E0 (tCons (tVar 4) (tCons (tVar 7) (tCons (tOp (rEqU K) (tVar 1) (tC (.int 1))) tNil)))) (gName 4))) tNext)) (tSeq (tAsg (tCall (sp__law_after K) [] E0 (tCons (tOp (rIx K) (tVar 3) (tC (.int 0))) (tCons (tVar 4) tNil))) (gSub (tVar 3) (tC (.int 0)) rSetL)) (tSeq (tAsg (tOp (rAddU K) (tOp (rIx K) (tVar 3) (tC (.int 2))) (tC (.int 1))) (gSub (tVar 3) (tC (.int 2)) rSetL)) (tSeq (tAsg (tVar 5) (gSub (tVar 3) (tC (.int 3)) rSetL)) (tRet (tVar 4)))))))))
abbrev N__law_deed : List Str := ["draws", "line", "way", "place"]
def t__law_deed (K : PySem.W.Frag) : TS := (tSeq (tAsg (tCall (sp__law_take K) [] E0 (tCons (tVar 0) (tCons (tC (.int 8)) tNil))) (gName 2)) (tSeq (tIfS (tTest (tOp (rEqU K) (tVar 2) (tC (.int 0)))) (tRet (tTup (tCons (tC (.str "none")) tNil))) tNext) (tSeq (tIfS (tAnd (tTest (tOp rLtU (tVar 2) (tC (.int 4)))) (tTest (tOp (rNeU K) (tVar 1) (tC (.str ""))))) (tRet (tTup (tCons (tC (.str "cut")) (tCons (tOp (rIx K) (tLst (tCons (tC (.int 0)) (tCons (tOp rSubU (tCB (rLenU K) (tCons (tVar 1) tNil)) (tC (.int 1))) (tCons (tOp rModU (tCall (sp__law_take K) [] E0 (tCons (tVar 0) (tCons (tC (.int 1000)) tNil))) (tCB (rLenU K) (tCons (tVar 1) tNil))) tNil)))) (tCall (sp__law_take K) [] E0 (tCons (tVar 0) (tCons (tC (.int 3)) tNil)))) tNil)))) tNext) (tSeq (tAsg (tOp (rIx K) (tLst (tCons (tC (.int 0)) (tCons (tCB (rLenU K) (tCons (tVar 1) tNil)) (tCons (tOp rModU (tCall (sp__law_take K) [] E0 (tCons (tVar 0) (tCons (tC (.int 1000)) tNil))) (tOp (rAddU K) (tCB (rLenU K) (tCons (tVar 1) tNil)) (tC (.int 1)))) tNil)))) (tCall (sp__law_take K) [] E0 (tCons (tVar 0) (tCons (tC (.int 3)) tNil)))) (gName 3)) (tRet (tTup (tCons (tC (.str "put")) (tCons (tVar 3) (tCons (tCall (sp__law_sign K) [] E0 (tCons (tVar 0) tNil)) tNil)))))))))
abbrev N__law_make : List Str := ["seats", "at", "deed", "seat"]
def t__law_make (K : PySem.W.Frag) : TS := (tSeq (tAsg (tOp (rIx K) (tVar 0) (tVar 1)) (gName 3)) (tSeq (tAsg (tCall (sp__law_after K) [] E0 (tCons (tOp (rIx K) (tVar 3) (tC (.int 0))) (tCons (tVar 2) tNil))) (gSub (tVar 3) (tC (.int 0)) rSetL)) (tSeq (tDrop (tBM K "list" rAppend (tOp (rIx K) (tVar 3) (tC (.int 3))) (tCons (tTup (tCons (tOp (rIx K) (tVar 3) (tC (.int 1))) (tCons (tVar 2) tNil))) tNil))) (tSeq (tAsg (tOp (rAddU K) (tOp (rIx K) (tVar 3) (tC (.int 1))) (tC (.int 1))) (gSub (tVar 3) (tC (.int 1)) rSetL)) (tRet (tTup (tCons (tOp rSubU (tOp (rIx K) (tVar 3) (tC (.int 1))) (tC (.int 1))) (tCons (tOp (rIx K) (tVar 3) (tC (.int 2))) (tCons (tVar 2) tNil)))))))))
abbrev N__law_story : List Str := ["draws", "line", "most", "seats", "roads", "found", "k", "at", "deed"]
def t__law_story (K : PySem.W.Frag) : TS := (tSeq (tPar 3 4 (tCons (tCall (sp__law_seats K) [] E0 (tCons (tVar 1) tNil)) (tCons (tLst (tCons (tLst tNil) (tCons (tLst tNil) tNil))) tNil))) (tSeq (tAsg (tLst tNil) (gName 5)) (tSeq (tFor (iRng1 (tCons (tVar 2) tNil)) (gName 6) (tSeq (tAsg (tCall (sp__law_take K) [] E0 (tCons (tVar 0) (tCons (tC (.int 2)) tNil))) (gName 7)) (tIfS (tAnd (tTest (tOp (rNeU K) (tOp (rIx K) (tVar 4) (tVar 7)) (tLst tNil))) (tTest (tOp (rEqU K) (tCall (sp__law_take K) [] E0 (tCons (tVar 0) (tCons (tC (.int 2)) tNil))) (tC (.int 0))))) (tSeq (tDrop (tCall (sp__law_come K) [] E0 (tCons (tVar 3) (tCons (tVar 7) (tCons (tBM K "list" rPopAt (tOp (rIx K) (tVar 4) (tVar 7)) (tCons (tC (.int 0)) tNil)) tNil))))) (tDrop (tBM K "list" rAppend (tVar 5) (tCons (tTup (tCons (tC (.str "come")) (tCons (tVar 7) tNil))) tNil)))) (tSeq (tAsg (tCall (sp__law_deed K) [] E0 (tCons (tVar 0) (tCons (tOp (rIx K) (tOp (rIx K) (tVar 3) (tVar 7)) (tC (.int 0))) tNil))) (gName 8)) (tSeq (tDrop (tBM K "list" rAppend (tOp (rIx K) (tVar 4) (tOp rSubU (tC (.int 1)) (tVar 7))) (tCons (tCall (sp__law_make K) [] E0 (tCons (tVar 3) (tCons (tVar 7) (tCons (tVar 8) tNil)))) tNil))) (tDrop (tBM K "list" rAppend (tVar 5) (tCons (tTup (tCons (tC (.str "make")) (tCons (tVar 7) (tCons (tVar 8) tNil)))) tNil)))))))) (tRet (tVar 5)))))
abbrev N_Seat___init__ : List Str := ["self", "number", "line"]
def t_Seat___init__ (K : PySem.W.Frag) : TS := (tSeq (sFldC (gloA K "Seat") (tVar 0) (tOp (rEqU K) (tVar 1) (tC (.int 0))) "ahead") (tSeq (sFldC (gloA K "Seat") (tVar 0) (tVar 2) "text") (tSeq (sFldC (gloA K "Seat") (tVar 0) (tC (.int 0)) "many_made") (tSeq (sFldC (gloA K "Seat") (tVar 0) (tC (.int 0)) "many_taken") (tSeq (sFldC (gloA K "Seat") (tVar 0) (tC (.int 0)) "heard") (tSeq (sFldC (gloA K "Seat") (tVar 0) (tLst tNil) "waiting") (tSeq (sFldC (gloA K "Seat") (tVar 0) (tCB (rLenU K) (tCons (tVar 2) tNil)) "own_mark") (sFldC (gloA K "Seat") (tVar 0) (tCB (rLenU K) (tCons (tVar 2) tNil)) "far_mark"))))))))
abbrev N_Yard___init__ : List Str := ["self", "line", "number"]
def t_Yard___init__ (K : PySem.W.Frag) : TS := (tSeq (sFldC (gloA K "Yard") (tVar 0) (tLc (iRng1 (tCons (tC (.int 2)) tNil)) (gName 2) tYes (tMake (gloA K "Seat") (sp_Seat___init__ K) [] E0 (tCons (tVar 2) (tCons (tVar 1) tNil))) [2]) "seats") (sFldC (gloA K "Yard") (tVar 0) (tLst (tCons (tLst tNil) (tCons (tLst tNil) tNil))) "roads"))
abbrev N_is_either : List Str := ["thing"]
def t_is_either (K : PySem.W.Frag) : TS := (tRet (tAndV (tCB (rIsiU K) (tCons (tVar 0) (tCons (tC (.ty "int")) tNil))) (tAndV (tNotV (tCB (rIsiU K) (tCons (tVar 0) (tCons (tC (.ty "bool")) tNil)))) (tChain rLeU rLeU (tC (.int 0)) (tVar 0) (tC (.int 1))))))
abbrev N_is_place : List Str := ["thing"]
def t_is_place (K : PySem.W.Frag) : TS := (tRet (tAndV (tCB (rIsiU K) (tCons (tVar 0) (tCons (tC (.ty "int")) tNil))) (tAndV (tNotV (tCB (rIsiU K) (tCons (tVar 0) (tCons (tC (.ty "bool")) tNil)))) (tOp rGeU (tVar 0) (tC (.int 0))))))
abbrev N_is_sign : List Str := ["thing"]
def t_is_sign (K : PySem.W.Frag) : TS := (tRet (tAndV (tCB (rIsiU K) (tCons (tVar 0) (tCons (tC (.ty "str")) tNil))) (tAndV (tOp (rEqU K) (tCB (rLenU K) (tCons (tVar 0) tNil)) (tC (.int 1))) (tOp (rInU K) (tVar 0) (tC (.str "abcdefghijklmnopqrstuvwxyz "))))))
abbrev N_is_deed : List Str := ["thing"]
def t_is_deed (K : PySem.W.Frag) : TS := (tSeq (tIfS (tOr (tNot (tB (tCB (rIsiU K) (tCons (tVar 0) (tCons (tC (.ty "tuple")) tNil))))) (tOr (tTest (tOp (rEqU K) (tCB (rLenU K) (tCons (tVar 0) tNil)) (tC (.int 0)))) (tNot (tB (tCB (rIsiU K) (tCons (tOp (rIx K) (tVar 0) (tC (.int 0))) (tCons (tC (.ty "str")) tNil))))))) (tRet (tC (.bl false))) tNext) (tSeq (tIfS (tTest (tOp (rNeU K) (tKGet [("put", 3), ("cut", 2), ("none", 1)] (tOp (rIx K) (tVar 0) (tC (.int 0))) (tC (.int 0))) (tCB (rLenU K) (tCons (tVar 0) tNil)))) (tRet (tC (.bl false))) tNext) (tSeq (tIfS (tAnd (tTest (tOp rGtU (tCB (rLenU K) (tCons (tVar 0) tNil)) (tC (.int 1)))) (tNot (tB (tCall (sp_is_place K) [] E0 (tCons (tOp (rIx K) (tVar 0) (tC (.int 1))) tNil))))) (tRet (tC (.bl false))) tNext) (tRet (tOrV (tOp rLtU (tCB (rLenU K) (tCons (tVar 0) tNil)) (tC (.int 3))) (tCall (sp_is_sign K) [] E0 (tCons (tOp (rIx K) (tVar 0) (tC (.int 2))) tNil)))))))
abbrev N_can_be_done : List Str := ["line", "deed"]
def t_can_be_done (K : PySem.W.Frag) : TS := (tSeq (tIfS (tNot (tB (tCall (sp_is_deed K) [] E0 (tCons (tVar 1) tNil)))) (tRet (tC (.bl false))) tNext) (tSeq (tIfS (tTest (tOp (rEqU K) (tOp (rIx K) (tVar 1) (tC (.int 0))) (tC (.str "put")))) (tRet (tOp rLeU (tOp (rIx K) (tVar 1) (tC (.int 1))) (tCB (rLenU K) (tCons (tVar 0) tNil)))) tNext) (tRet (tOrV (tOp (rEqU K) (tOp (rIx K) (tVar 1) (tC (.int 0))) (tC (.str "none"))) (tOp rLtU (tOp (rIx K) (tVar 1) (tC (.int 1))) (tCB (rLenU K) (tCons (tVar 0) tNil)))))))
abbrev N_is_seat : List Str := ["thing"]
def t_is_seat (K : PySem.W.Frag) : TS := (tRet (tAndV (tCB (rIsiU K) (tCons (tVar 0) (tCons (tC (.ty "int")) tNil))) (tAndV (tNotV (tCB (rIsiU K) (tCons (tVar 0) (tCons (tC (.ty "bool")) tNil)))) (tOp (rInU K) (tVar 0) (tTup (tCons (tC (.int 0)) (tCons (tC (.int 1)) tNil)))))))
abbrev N_need_seat : List Str := ["thing"]
def t_need_seat (K : PySem.W.Frag) : TS := (tIfS (tNot (tB (tCall (sp_is_seat K) [] E0 (tCons (tVar 0) tNil)))) tNever tNext)
abbrev N_Seat_shown : List Str := ["self"]
def t_Seat_shown (K : PySem.W.Frag) : TS := (tRet (tFldC (gloA K "Seat") (tVar 0) "text"))
abbrev N_Yard_shown_at : List Str := ["self", "seat"]
def t_Yard_shown_at (K : PySem.W.Frag) : TS := (tSeq (tDrop (tCall (sp_need_seat K) [] E0 (tCons (tVar 1) tNil))) (tRet (tMeth (gloA K "Seat") "shown" (sp_Seat_shown K) [] E0 (tOp (rIx K) (tFldC (gloA K "Yard") (tVar 0) "seats") (tVar 1)) tNil)))
abbrev N_Yard_road_to : List Str := ["self", "seat"]
def t_Yard_road_to (K : PySem.W.Frag) : TS := (tSeq (tDrop (tCall (sp_need_seat K) [] E0 (tCons (tVar 1) tNil))) (tRet (tCB (rListW K) (tCons (tOp (rIx K) (tFldC (gloA K "Yard") (tVar 0) "roads") (tVar 1)) tNil))))
abbrev N_may_be : List Str := ["yard", "event"]
def t_may_be (K : PySem.W.Frag) : TS := (tSeq (tIfS (tOr (tNot (tB (tCB (rIsiU K) (tCons (tVar 1) (tCons (tC (.ty "tuple")) tNil))))) (tOr (tTest (tOp rLtU (tCB (rLenU K) (tCons (tVar 1) tNil)) (tC (.int 2)))) (tNot (tB (tCall (sp_is_either K) [] E0 (tCons (tOp (rIx K) (tVar 1) (tC (.int 1))) tNil)))))) (tRet (tC (.bl false))) tNext) (tSeq (tIfS (tTest (tOp (rEqU K) (tCB (rLenU K) (tCons (tVar 1) tNil)) (tC (.int 3)))) (tRet (tAndV (tOp (rEqU K) (tOp (rIx K) (tVar 1) (tC (.int 0))) (tC (.str "make"))) (tCall (sp_can_be_done K) [] E0 (tCons (tMeth (gloA K "Yard") "shown_at" (sp_Yard_shown_at K) [] E0 (tVar 0) (tCons (tOp (rIx K) (tVar 1) (tC (.int 1))) tNil)) (tCons (tOp (rIx K) (tVar 1) (tC (.int 2))) tNil))))) tNext) (tRet (tAndV (tOp (rEqU K) (tCB (rLenU K) (tCons (tVar 1) tNil)) (tC (.int 2))) (tAndV (tOp (rEqU K) (tOp (rIx K) (tVar 1) (tC (.int 0))) (tC (.str "come"))) (tOp (rNeU K) (tMeth (gloA K "Yard") "road_to" (sp_Yard_road_to K) [] E0 (tVar 0) (tCons (tOp (rIx K) (tVar 1) (tC (.int 1))) tNil)) (tLst tNil)))))))
abbrev N_done : List Str := ["line", "deed"]
def t_done (K : PySem.W.Frag) : TS := (tSeq (tIfS (tNot (tB (tCall (sp_can_be_done K) [] E0 (tCons (tVar 0) (tCons (tVar 1) tNil))))) tNever tNext) (tSeq (tIfS (tTest (tOp (rEqU K) (tOp (rIx K) (tVar 1) (tC (.int 0))) (tC (.str "put")))) (tRet (tOp (rAddU K) (tOp (rAddU K) (tSl (rSlU K) (tVar 0) tNoPart (tPart (tOp (rIx K) (tVar 1) (tC (.int 1))))) (tOp (rIx K) (tVar 1) (tC (.int 2)))) (tSl (rSlU K) (tVar 0) (tPart (tOp (rIx K) (tVar 1) (tC (.int 1)))) tNoPart))) tNext) (tSeq (tIfS (tTest (tOp (rEqU K) (tOp (rIx K) (tVar 1) (tC (.int 0))) (tC (.str "cut")))) (tRet (tOp (rAddU K) (tSl (rSlU K) (tVar 0) tNoPart (tPart (tOp (rIx K) (tVar 1) (tC (.int 1))))) (tSl (rSlU K) (tVar 0) (tPart (tOp (rAddU K) (tOp (rIx K) (tVar 1) (tC (.int 1))) (tC (.int 1)))) tNoPart))) tNext) (tRet (tVar 0)))))
abbrev N_moved : List Str := ["deed", "other", "first", "place", "there"]
def t_moved (K : PySem.W.Frag) : TS := (tSeq (tIfS (tOr (tTest (tOp (rEqU K) (tOp (rIx K) (tVar 0) (tC (.int 0))) (tC (.str "none")))) (tTest (tOp (rEqU K) (tOp (rIx K) (tVar 1) (tC (.int 0))) (tC (.str "none"))))) (tRet (tVar 0)) tNext) (tSeq (tAsg (tOp (rIx K) (tVar 0) (tC (.int 1))) (gName 3)) (tSeq (tAsg (tOp (rIx K) (tVar 1) (tC (.int 1))) (gName 4)) (tSeq (tIfS (tTest (tOp (rEqU K) (tOp (rIx K) (tVar 1) (tC (.int 0))) (tC (.str "put")))) (tIfS (tOr (tTest (tOp rLtU (tVar 4) (tVar 3))) (tAnd (tTest (tOp (rEqU K) (tVar 4) (tVar 3))) (tOr (tTest (tOp (rEqU K) (tOp (rIx K) (tVar 0) (tC (.int 0))) (tC (.str "cut")))) (tNot (tB (tVar 2)))))) (tAug 3 (tC (.int 1)) (ipI fun i j => i + j)) tNext) (tIfS (tTest (tOp rLtU (tVar 4) (tVar 3))) (tAug 3 (tC (.int 1)) (ipI fun i j => i - j)) (tIfS (tAnd (tTest (tOp (rEqU K) (tVar 4) (tVar 3))) (tTest (tOp (rEqU K) (tOp (rIx K) (tVar 0) (tC (.int 0))) (tC (.str "cut"))))) (tRet (tTup (tCons (tC (.str "none")) tNil))) tNext))) (tRet (tOp (rAddU K) (tTup (tCons (tOp (rIx K) (tVar 0) (tC (.int 0))) (tCons (tVar 3) tNil))) (tSl (rSlU K) (tVar 0) (tPart (tC (.int 2))) tNoPart)))))))
abbrev N_mark_moved : List Str := ["place", "deed", "first"]
def t_mark_moved (K : PySem.W.Frag) : TS := (tRet (tOp (rIx K) (tCall (sp_moved K) [] E0 (tCons (tTup (tCons (tC (.str "put")) (tCons (tVar 0) (tCons (tC (.str " ")) tNil)))) (tCons (tVar 1) (tCons (tVar 2) tNil)))) (tC (.int 1))))
abbrev N_Seat_make_in : List Str := ["self", "deed", "letter"]
def t_Seat_make_in (K : PySem.W.Frag) : TS := (tSeq (sFldC (gloA K "Seat") (tVar 0) (tCall (sp_done K) [] E0 (tCons (tFldC (gloA K "Seat") (tVar 0) "text") (tCons (tVar 1) tNil))) "text") (tSeq (tIfS (tTest (tOp (rEqU K) (tOp (rIx K) (tVar 1) (tC (.int 0))) (tC (.str "put")))) (sFldC (gloA K "Seat") (tVar 0) (tOp (rAddU K) (tOp (rIx K) (tVar 1) (tC (.int 1))) (tC (.int 1))) "own_mark") (tIfS (tTest (tOp (rEqU K) (tOp (rIx K) (tVar 1) (tC (.int 0))) (tC (.str "cut")))) (sFldC (gloA K "Seat") (tVar 0) (tOp (rIx K) (tVar 1) (tC (.int 1))) "own_mark") tNext)) (tSeq (sFldC (gloA K "Seat") (tVar 0) (tCall (sp_mark_moved K) [] E0 (tCons (tFldC (gloA K "Seat") (tVar 0) "far_mark") (tCons (tVar 1) (tCons (tNotV (tFldC (gloA K "Seat") (tVar 0) "ahead")) tNil)))) "far_mark") (tSeq (tDrop (tBM K "list" rAppend (tFldC (gloA K "Seat") (tVar 0) "waiting") (tCons (tVar 1) tNil))) (tSeq (tAsg (tTup (tCons (tFldC (gloA K "Seat") (tVar 0) "many_made") (tCons (tFldC (gloA K "Seat") (tVar 0) "many_taken") (tCons (tVar 1) (tCons (tFldC (gloA K "Seat") (tVar 0) "own_mark") tNil))))) (gName 2)) (tSeq (sFldAugC (gloA K "Seat") (tVar 0) (tC (.int 1)) L2.rAdd "many_made") (tRet (tVar 2))))))))
abbrev N_Yard_make_at : List Str := ["self", "seat", "deed", "letter"]
def t_Yard_make_at (K : PySem.W.Frag) : TS := (tSeq (tDrop (tCall (sp_need_seat K) [] E0 (tCons (tVar 1) tNil))) (tSeq (tAsg (tMeth (gloA K "Seat") "make_in" (sp_Seat_make_in K) [] E0 (tOp (rIx K) (tFldC (gloA K "Yard") (tVar 0) "seats") (tVar 1)) (tCons (tVar 2) tNil)) (gName 3)) (tSeq (tDrop (tBM K "list" rAppend (tOp (rIx K) (tFldC (gloA K "Yard") (tVar 0) "roads") (tOp rSubU (tC (.int 1)) (tVar 1))) (tCons (tVar 3) tNil))) (tRet (tVar 3)))))
abbrev N_is_whole : List Str := ["thing"]
def t_is_whole (K : PySem.W.Frag) : TS := (tRet (tAndV (tCB (rIsiU K) (tCons (tVar 0) (tCons (tC (.ty "int")) tNil))) (tAndV (tNotV (tCB (rIsiU K) (tCons (tVar 0) (tCons (tC (.ty "bool")) tNil)))) (tOp rGeU (tVar 0) (tC (.int 0))))))
abbrev N_is_letter : List Str := ["thing"]
def t_is_letter (K : PySem.W.Frag) : TS := (tSeq (tIfS (tOr (tNot (tB (tCB (rIsiU K) (tCons (tVar 0) (tCons (tC (.ty "tuple")) tNil))))) (tOr (tTest (tOp (rNeU K) (tCB (rLenU K) (tCons (tVar 0) tNil)) (tC (.int 4)))) (tNot (tB (tCall (sp_is_deed K) [] E0 (tCons (tOp (rIx K) (tVar 0) (tC (.int 2))) tNil)))))) (tRet (tC (.bl false))) tNext) (tRet (tAndV (tCall (sp_is_whole K) [] E0 (tCons (tOp (rIx K) (tVar 0) (tC (.int 0))) tNil)) (tAndV (tCall (sp_is_whole K) [] E0 (tCons (tOp (rIx K) (tVar 0) (tC (.int 1))) tNil)) (tCall (sp_is_whole K) [] E0 (tCons (tOp (rIx K) (tVar 0) (tC (.int 3))) tNil))))))
abbrev N_moved_behind : List Str := ["deed", "row", "first", "found", "other"]
def t_moved_behind (K : PySem.W.Frag) : TS := (tSeq (tAsg (tLst tNil) (gName 3)) (tSeq (tFor (iList K (tVar 1)) (gName 4) (tSeq (tDrop (tBM K "list" rAppend (tVar 3) (tCons (tCall (sp_moved K) [] E0 (tCons (tVar 4) (tCons (tVar 0) (tCons (tNotV (tVar 2)) tNil)))) tNil))) (tAsg (tCall (sp_moved K) [] E0 (tCons (tVar 0) (tCons (tVar 4) (tCons (tVar 2) tNil)))) (gName 0)))) (tRet (tTup (tCons (tVar 0) (tCons (tVar 3) tNil))))))
abbrev N_rows_moved : List Str := ["one", "other", "found", "left", "deed", "told"]
def t_rows_moved (K : PySem.W.Frag) : TS := (tSeq (tAsg (tLst tNil) (gName 2)) (tSeq (tAsg (tCB (rListW K) (tCons (tVar 1) tNil)) (gName 3)) (tSeq (tFor (iList K (tVar 0)) (gName 4) (tSeq (tAsg (tCall (sp_moved_behind K) [] E0 (tCons (tVar 4) (tCons (tVar 3) (tCons (tC (.bl true)) tNil)))) (gTup K 2 (gCons (gName 5) (gCons (gName 3) gNil)))) (tDrop (tBM K "list" rAppend (tVar 2) (tCons (tVar 5) tNil))))) (tRet (tTup (tCons (tVar 2) (tCons (tVar 3) tNil)))))))
abbrev N_Seat_past : List Str := ["self", "deed", "waiting", "deeds"]
def t_Seat_past (K : PySem.W.Frag) : TS := (tSeq (tIfS (tB (tFldC (gloA K "Seat") (tVar 0) "ahead")) (tAsg (tCall (sp_rows_moved K) [] E0 (tCons (tVar 2) (tCons (tLst (tCons (tVar 1) tNil)) tNil))) (gTup K 2 (gCons (gName 2) (gCons (gName 3) gNil)))) (tAsg (tCall (sp_rows_moved K) [] E0 (tCons (tLst (tCons (tVar 1) tNil)) (tCons (tVar 2) tNil))) (gTup K 2 (gCons (gName 3) (gCons (gName 2) gNil))))) (tRet (tTup (tCons (tOp (rIx K) (tVar 3) (tC (.int 0))) (tCons (tVar 2) tNil)))))
abbrev N_Seat_take_in : List Str := ["self", "letter", "deed", "waiting", "other"]
def t_Seat_take_in (K : PySem.W.Frag) : TS := (tSeq (tIfS (tOr (tNot (tB (tCall (sp_is_letter K) [] E0 (tCons (tVar 1) tNil)))) (tTest (tOp (rNeU K) (tOp (rIx K) (tVar 1) (tC (.int 0))) (tFldC (gloA K "Seat") (tVar 0) "many_taken")))) tNever tNext) (tSeq (tIfS (tNot (tTest (tChain rLeU rLeU (tFldC (gloA K "Seat") (tVar 0) "heard") (tOp (rIx K) (tVar 1) (tC (.int 1))) (tFldC (gloA K "Seat") (tVar 0) "many_made")))) tNever tNext) (tSeq (tAsg (tMeth (gloA K "Seat") "past" (sp_Seat_past K) [] E0 (tVar 0) (tCons (tOp (rIx K) (tVar 1) (tC (.int 2))) (tCons (tSl (rSlU K) (tFldC (gloA K "Seat") (tVar 0) "waiting") (tPart (tOp rSubU (tOp (rIx K) (tVar 1) (tC (.int 1))) (tFldC (gloA K "Seat") (tVar 0) "heard"))) tNoPart) tNil))) (gTup K 2 (gCons (gName 2) (gCons (gName 3) gNil)))) (tSeq (tIfS (tNot (tB (tCall (sp_can_be_done K) [] E0 (tCons (tFldC (gloA K "Seat") (tVar 0) "text") (tCons (tVar 2) tNil))))) tNever tNext) (tSeq (sFldC (gloA K "Seat") (tVar 0) (tCall (sp_done K) [] E0 (tCons (tFldC (gloA K "Seat") (tVar 0) "text") (tCons (tVar 2) tNil))) "text") (tSeq (sFldC (gloA K "Seat") (tVar 0) (tCall (sp_mark_moved K) [] E0 (tCons (tFldC (gloA K "Seat") (tVar 0) "own_mark") (tCons (tVar 2) (tCons (tFldC (gloA K "Seat") (tVar 0) "ahead") tNil)))) "own_mark") (tSeq (sFldC (gloA K "Seat") (tVar 0) (tOp (rIx K) (tVar 1) (tC (.int 3))) "far_mark") (tSeq (tFor (iList K (tVar 3)) (gName 4) (sFldC (gloA K "Seat") (tVar 0) (tCall (sp_mark_moved K) [] E0 (tCons (tFldC (gloA K "Seat") (tVar 0) "far_mark") (tCons (tVar 4) (tCons (tNotV (tFldC (gloA K "Seat") (tVar 0) "ahead")) tNil)))) "far_mark")) (tSeq (sFldC (gloA K "Seat") (tVar 0) (tOp (rIx K) (tVar 1) (tC (.int 1))) "heard") (tSeq (sFldAugC (gloA K "Seat") (tVar 0) (tC (.int 1)) L2.rAdd "many_taken") (tSeq (sFldC (gloA K "Seat") (tVar 0) (tVar 3) "waiting") (tRet (tVar 2)))))))))))))
abbrev N_Yard_come_to : List Str := ["self", "seat"]
def t_Yard_come_to (K : PySem.W.Frag) : TS := (tSeq (tDrop (tCall (sp_need_seat K) [] E0 (tCons (tVar 1) tNil))) (tSeq (tIfS (tTest (tOp (rEqU K) (tOp (rIx K) (tFldC (gloA K "Yard") (tVar 0) "roads") (tVar 1)) (tLst tNil))) tNever tNext) (tRet (tMeth (gloA K "Seat") "take_in" (sp_Seat_take_in K) [] E0 (tOp (rIx K) (tFldC (gloA K "Yard") (tVar 0) "seats") (tVar 1)) (tCons (tBM K "list" rPopAt (tOp (rIx K) (tFldC (gloA K "Yard") (tVar 0) "roads") (tVar 1)) (tCons (tC (.int 0)) tNil)) tNil)))))
abbrev N_lines_behind : List Str := ["line", "thing", "yard", "found", "event"]
def t_lines_behind (K : PySem.W.Frag) : TS := (tSeq (tIfS (tNot (tB (tCB (rIsiU K) (tCons (tVar 1) (tCons (tC (.ty "list")) tNil))))) (tRet (tC .non)) tNext) (tSeq (tAsg (tMake (gloA K "Yard") (sp_Yard___init__ K) [] E0 (tCons (tVar 0) tNil)) (gName 2)) (tSeq (tAsg (tLst (tCons (tTup (tCons (tVar 0) (tCons (tVar 0) tNil))) tNil)) (gName 3)) (tSeq (tFor (iList K (tVar 1)) (gName 4) (tSeq (tIfS (tNot (tB (tCall (sp_may_be K) [] E0 (tCons (tVar 2) (tCons (tVar 4) tNil))))) (tRet (tC .non)) tNext) (tSeq (tIfS (tTest (tOp (rEqU K) (tOp (rIx K) (tVar 4) (tC (.int 0))) (tC (.str "make")))) (tDrop (tMeth (gloA K "Yard") "make_at" (sp_Yard_make_at K) [] E0 (tVar 2) (tCons (tOp (rIx K) (tVar 4) (tC (.int 1))) (tCons (tOp (rIx K) (tVar 4) (tC (.int 2))) tNil)))) (tDrop (tMeth (gloA K "Yard") "come_to" (sp_Yard_come_to K) [] E0 (tVar 2) (tCons (tOp (rIx K) (tVar 4) (tC (.int 1))) tNil)))) (tDrop (tBM K "list" rAppend (tVar 3) (tCons (tTup (tCons (tMeth (gloA K "Yard") "shown_at" (sp_Yard_shown_at K) [] E0 (tVar 2) (tCons (tC (.int 0)) tNil)) (tCons (tMeth (gloA K "Yard") "shown_at" (sp_Yard_shown_at K) [] E0 (tVar 2) (tCons (tC (.int 1)) tNil)) tNil))) tNil)))))) (tRet (tVar 3))))))
abbrev N_lines_of : List Str := ["line", "story", "seat", "found", "both"]
def t_lines_of (K : PySem.W.Frag) : TS := (tSeq (tAsg (tCall (sp_lines_behind K) [] E0 (tCons (tVar 0) (tCons (tVar 1) tNil))) (gName 3)) (tSeq (tIfS (tTest (tOp rIs (tVar 3) (tC .non))) tNever tNext) (tRet (tLc (iList K (tVar 3)) (gName 4) tYes (tOp (rIx K) (tVar 4) (tVar 2)) [4]))))
abbrev N__law_kinds : List Str := ["thing", "one"]
def t__law_kinds (K : PySem.W.Frag) (rec : Sp) : TS := (tSeq (tIfS (tB (tCB (rIsiU K) (tCons (tVar 0) (tCons (tTup (tCons (tC (.ty "tuple")) (tCons (tC (.ty "list")) tNil))) tNil)))) (tRet (tLst (tCons (tCB (rIsiU K) (tCons (tVar 0) (tCons (tC (.ty "list")) tNil))) (tCons (tLc (iEither K (tVar 0)) (gName 1) tYes (tCall rec [] E0 (tCons (tVar 1) tNil)) [1]) tNil)))) tNext) (tRet (tLst (tCons (tCB (rIsiU K) (tCons (tVar 0) (tCons (tC (.ty "str")) tNil))) (tCons (tCB (rIsiU K) (tCons (tVar 0) (tCons (tC (.ty "bool")) tNil))) tNil)))))
abbrev N__law_same : List Str := ["found", "due"]
def t__law_same (K : PySem.W.Frag) : TS := (tRet (tAndV (tOp (rEqU K) (tVar 0) (tVar 1)) (tOp (rEqU K) (tCall (sp__law_kinds K 5) [] E0 (tCons (tVar 0) tNil)) (tCall (sp__law_kinds K 5) [] E0 (tCons (tVar 1) tNil)))))
abbrev N__law_is_deed : List Str := ["line", "thing"]
def t__law_is_deed (K : PySem.W.Frag) : TS := (tSeq (tIfS (tOr (tNot (tB (tCB (rIsiU K) (tCons (tVar 1) (tCons (tC (.ty "tuple")) tNil))))) (tOr (tTest (tOp (rEqU K) (tVar 1) (tTup tNil))) (tTest (tOp (rNiU K) (tOp (rIx K) (tVar 1) (tC (.int 0))) (tTup (tCons (tC (.str "put")) (tCons (tC (.str "cut")) (tCons (tC (.str "none")) tNil)))))))) (tRet (tC (.bl false))) tNext) (tSeq (tIfS (tTest (tOp (rNeU K) (tCB (rLenU K) (tCons (tVar 1) tNil)) (tDGet (tDisp [((tC (.str "put")), (tC (.int 3))), ((tC (.str "cut")), (tC (.int 2))), ((tC (.str "none")), (tC (.int 1)))]) (tOp (rIx K) (tVar 1) (tC (.int 0)))))) (tRet (tC (.bl false))) tNext) (tSeq (tIfS (tTest (tOp (rEqU K) (tOp (rIx K) (tVar 1) (tC (.int 0))) (tC (.str "none")))) (tRet (tC (.bl true))) tNext) (tSeq (tIfS (tOr (tNot (tB (tCB (rIsiU K) (tCons (tOp (rIx K) (tVar 1) (tC (.int 1))) (tCons (tC (.ty "int")) tNil))))) (tOr (tB (tCB (rIsiU K) (tCons (tOp (rIx K) (tVar 1) (tC (.int 1))) (tCons (tC (.ty "bool")) tNil)))) (tNot (tTest (tChain rLeU rLtU (tC (.int 0)) (tOp (rIx K) (tVar 1) (tC (.int 1))) (tOp rSubU (tOp (rAddU K) (tCB (rLenU K) (tCons (tVar 0) tNil)) (tCB (rLenU K) (tCons (tVar 1) tNil))) (tC (.int 2)))))))) (tRet (tC (.bl false))) tNext) (tRet (tOrV (tOp (rEqU K) (tCB (rLenU K) (tCons (tVar 1) tNil)) (tC (.int 2))) (tOp (rInU K) (tOp (rIx K) (tVar 1) (tC (.int 2))) (tCB (rListW K) (tCons (tC (.str "abcdefghijklmnopqrstuvwxyz ")) tNil)))))))))
abbrev N__law_is_event : List Str := ["seats", "roads", "thing"]
def t__law_is_event (K : PySem.W.Frag) : TS := (tSeq (tIfS (tOr (tNot (tB (tCB (rIsiU K) (tCons (tVar 2) (tCons (tC (.ty "tuple")) tNil))))) (tOr (tTest (tOp rLtU (tCB (rLenU K) (tCons (tVar 2) tNil)) (tC (.int 2)))) (tNot (tB (tCB (rIsiU K) (tCons (tOp (rIx K) (tVar 2) (tC (.int 1))) (tCons (tC (.ty "int")) tNil))))))) (tRet (tC (.bl false))) tNext) (tSeq (tIfS (tOr (tB (tCB (rIsiU K) (tCons (tOp (rIx K) (tVar 2) (tC (.int 1))) (tCons (tC (.ty "bool")) tNil)))) (tTest (tOp (rNiU K) (tOp (rIx K) (tVar 2) (tC (.int 1))) (tTup (tCons (tC (.int 0)) (tCons (tC (.int 1)) tNil)))))) (tRet (tC (.bl false))) tNext) (tSeq (tIfS (tTest (tOp (rEqU K) (tCB (rLenU K) (tCons (tVar 2) tNil)) (tC (.int 2)))) (tRet (tAndV (tOp (rEqU K) (tOp (rIx K) (tVar 2) (tC (.int 0))) (tC (.str "come"))) (tOp (rNeU K) (tOp (rIx K) (tVar 1) (tOp (rIx K) (tVar 2) (tC (.int 1)))) (tLst tNil)))) tNext) (tRet (tAndV (tOp (rEqU K) (tCB (rLenU K) (tCons (tVar 2) tNil)) (tC (.int 3))) (tAndV (tOp (rEqU K) (tOp (rIx K) (tVar 2) (tC (.int 0))) (tC (.str "make"))) (tCall (sp__law_is_deed K) [] E0 (tCons (tOp (rIx K) (tOp (rIx K) (tVar 0) (tOp (rIx K) (tVar 2) (tC (.int 1)))) (tC (.int 0))) (tCons (tOp (rIx K) (tVar 2) (tC (.int 2))) tNil)))))))))
abbrev N__law_told : List Str := ["line", "thing", "seats", "roads", "found", "event", "at", "k"]
def t__law_told (K : PySem.W.Frag) : TS := (tSeq (tIfS (tNot (tB (tCB (rIsiU K) (tCons (tVar 1) (tCons (tC (.ty "list")) tNil))))) (tRet (tC .non)) tNext) (tSeq (tPar 2 3 (tCons (tCall (sp__law_seats K) [] E0 (tCons (tVar 0) tNil)) (tCons (tLst (tCons (tLst tNil) (tCons (tLst tNil) tNil))) tNil))) (tSeq (tAsg (tLst (tCons (tLst (tCons (tVar 0) tNil)) (tCons (tLst (tCons (tVar 0) tNil)) tNil))) (gName 4)) (tSeq (tFor (iList K (tVar 1)) (gName 5) (tSeq (tIfS (tNot (tB (tCall (sp__law_is_event K) [] E0 (tCons (tVar 2) (tCons (tVar 3) (tCons (tVar 5) tNil)))))) (tRet (tC .non)) tNext) (tSeq (tAsg (tOp (rIx K) (tVar 5) (tC (.int 1))) (gName 6)) (tSeq (tIfS (tTest (tOp (rEqU K) (tOp (rIx K) (tVar 5) (tC (.int 0))) (tC (.str "come")))) (tDrop (tCall (sp__law_come K) [] E0 (tCons (tVar 2) (tCons (tVar 6) (tCons (tBM K "list" rPopAt (tOp (rIx K) (tVar 3) (tVar 6)) (tCons (tC (.int 0)) tNil)) tNil))))) (tDrop (tBM K "list" rAppend (tOp (rIx K) (tVar 3) (tOp rSubU (tC (.int 1)) (tVar 6))) (tCons (tCall (sp__law_make K) [] E0 (tCons (tVar 2) (tCons (tVar 6) (tCons (tOp (rIx K) (tVar 5) (tC (.int 2))) tNil)))) tNil)))) (tFor (iRng1 (tCons (tC (.int 2)) tNil)) (gName 7) (tDrop (tBM K "list" rAppend (tOp (rIx K) (tVar 4) (tVar 7)) (tCons (tOp (rIx K) (tOp (rIx K) (tVar 2) (tVar 7)) (tC (.int 0))) tNil)))))))) (tRet (tVar 4))))))
namespace K78
abbrev N__law_right : List Str := ["line", "story", "due", "kept", "at", "found"]
def t__law_right (K : PySem.W.Frag) : TS := (tSeq (tAsg (tCB (rListW K) (tCons (tVar 1) tNil)) (gName 3)) (tSeq (tFor (iRng1 (tCons (tC (.int 2)) tNil)) (gName 4) (tSeq (tAsg (tCall (sp_lines_of K) [] E0 (tCons (tVar 0) (tCons (tVar 1) (tCons (tVar 4) tNil)))) (gName 5)) (tSeq (tIfS (tOr (tNot (tB (tCB (rIsiU K) (tCons (tVar 5) (tCons (tC (.ty "list")) tNil))))) (tOr (tNot (tB (tCall (sp__law_same K) [] E0 (tCons (tVar 5) (tCons (tOp (rIx K) (tVar 2) (tVar 4)) tNil))))) (tTest (tOp (rNeU K) (tVar 1) (tVar 3))))) (tRet (tC (.bl false))) tNext) (tSeq (tDrop (tBM K "list" rAppend (tVar 5) (tCons (tC .non) tNil))) (tSeq (tAsg (tC .non) (gSub (tVar 5) (tC (.int 0)) rSetL)) (tIfS (tTest (tOp (rNeU K) (tCall (sp_lines_of K) [] E0 (tCons (tVar 0) (tCons (tVar 1) (tCons (tVar 4) tNil)))) (tOp (rIx K) (tVar 2) (tVar 4)))) (tRet (tC (.bl false))) tNext)))))) (tRet (tC (.bl true)))))
abbrev N_law : List Str := ["script", "draws", "many", "line", "size", "story"]
def t_law (K : PySem.W.Frag) : TS := (tSeq (tAsg (tCall (sp__law_draws K) [] E0 (tCons (tVar 0) tNil)) (gName 1)) (tSeq (tAsg (tC (.int 0)) (gName 2)) (tSeq (tWhile (tOr (tTest (tOp rLtU (tVar 2) (tC (.int 1)))) (tAnd (tTest (tOp (rNeU K) (tVar 1) (tLst tNil))) (tTest (tOp rLtU (tVar 2) (tC (.int 4)))))) (tSeq (tAsg (tCall (sp__law_line K) [] E0 (tCons (tVar 1) tNil)) (gName 3)) (tSeq (tAsg (tOp (rIx K) (tLst (tCons (tCall (sp__law_take K) [] E0 (tCons (tVar 1) (tCons (tC (.int 21)) tNil))) (tCons (tOp (rAddU K) (tC (.int 20)) (tCall (sp__law_take K) [] E0 (tCons (tVar 1) (tCons (tC (.int 21)) tNil)))) tNil))) (tCB rIntU (tCons (tOp (rEqU K) (tCall (sp__law_take K) [] E0 (tCons (tVar 1) (tCons (tC (.int 4)) tNil))) (tC (.int 1))) tNil))) (gName 4)) (tSeq (tAsg (tCall (sp__law_story K) [] E0 (tCons (tVar 1) (tCons (tVar 3) (tCons (tVar 4) tNil)))) (gName 5)) (tSeq (tIfS (tNot (tB (tCall (sp__law_right K) [] E0 (tCons (tVar 3) (tCons (tVar 5) (tCons (tCall (sp__law_told K) [] E0 (tCons (tVar 3) (tCons (tVar 5) tNil))) tNil)))))) (tRet (tC (.bl false))) tNext) (tAsg (tOp (rAddU K) (tVar 2) (tC (.int 1))) (gName 2))))))) (tRet (tCall (sp__law_right K) [] E0 (tCons (tC (.str "ab")) (tCons (tLst tNil) (tCons (tLst (tCons (tLst (tCons (tC (.str "ab")) tNil)) (tCons (tLst (tCons (tC (.str "ab")) tNil)) tNil))) tNil))))))))
end K78
end FL

namespace FL
open PySem PySem.Spec PyProof.Rows L2 CwR TL
local macro_rules | `(tactic| walk_at "tls") => `(tactic| (simp only [TL.tl_append, TL.tl_num, tl_ofL, tl_sgn, tl_empty, List.nil_append, List.append_nil, List.cons_append, List.append_assoc]))
local macro_rules | `(tactic| walk_at "szt") => `(tactic| (simp only [len_ofL, TL.len_tl, TL.tl_append, TL.tl_num, tl_ofL, tl_sgn, tl_empty, List.length_append, List.length_cons, List.length_nil]; omega))
local macro_rules | `(tactic| walk_at "beta") => `(tactic| (try dsimp only [List.set_cons_zero, List.set_cons_succ]))
local macro_rules | `(tactic| walk_at "sq") => `(tactic| first | assumption | exact SqL.of upd_same | exact SqT.of upd_same | exact SqL.of (by assumption) | exact SqT.of (by assumption) | ((with_reducible refine' sq_updI ?h ?s); (case h => walk_at "lk"); (case s => walk_at "sq")) | ((with_reducible refine' sq_updL ?h ?s); (case h => walk_at "lk"); (case s => walk_at "sq")) | ((with_reducible refine' sq_new ?h ?s); (case h => assumption); (case s => walk_at "sq")) | exact SqL.of (by walk_at "lk"))
local macro_rules | `(tactic| walk_at "lk") => `(tactic| first | assumption | exact upd_same | (refine Eq.trans (upd_ne (by assumption)) ?_; walk_at "lk"))
local macro_rules | `(tactic| walk_at "fl") => `(tactic| first | with_reducible exact l_text | with_reducible exact l_ahead | with_reducible exact l_made | with_reducible exact l_taken | with_reducible exact l_heard | with_reducible exact l_wait | with_reducible exact l_own | with_reducible exact l_far | exact l_no (by decide +kernel) | exact two_l1 | exact two_l2 (by decide +kernel) | exact two_no (by decide +kernel) (by decide +kernel))
local macro_rules | `(tactic| walk_at "pl") => `(tactic| first | with_reducible exact p_text | with_reducible exact p_made | with_reducible exact p_taken | with_reducible exact p_heard | with_reducible exact p_wait | with_reducible exact p_own | with_reducible exact p_far | with_reducible exact i_1 | with_reducible exact i_2 | with_reducible exact i_3 | with_reducible exact i_4 | with_reducible exact i_5 | with_reducible exact i_6 | with_reducible exact i_7 | with_reducible exact i_8 | exact ⟨put_past (by decide +kernel), Nat.le_of_ble_eq_true rfl⟩ | exact ⟨rfl, Nat.le_of_ble_eq_true rfl⟩)
local macro_rules | `(tactic| walk_at "wp1") => `(tactic| first
  | with_reducible refine w_seq ?_
  | with_reducible refine w_set ?_
  | ((with_reducible refine' w_var ?e ?k); (case e => exact rfl))
  | with_reducible refine w_c ?_
  | with_reducible refine w_op ?_
  | with_reducible refine w_ret ?_
  | with_reducible refine w_if ?_
  | with_reducible refine w_test ?_
  | with_reducible refine w_bl ?_
  | with_reducible refine w_cons ?_
  | with_reducible refine w_nil ?_
  | with_reducible refine w_call ?_
  | with_reducible refine w_cb ?_
  | with_reducible refine w_next ?_
  | with_reducible refine w_drop ?_
  | with_reducible refine w_asg ?_
  | with_reducible refine w_and ?_
  | with_reducible refine w_or ?_
  | with_reducible refine w_not ?_
  | with_reducible refine w_ifE ?_
  | with_reducible refine w_tB ?_
  | with_reducible refine iteT ?_
  | with_reducible refine iteF ?_
  | with_reducible refine w_addI ?_
  | with_reducible refine w_subI ?_
  | with_reducible refine w_ltI ?_
  | with_reducible refine w_leI ?_
  | with_reducible refine w_gtI ?_
  | with_reducible refine w_geI ?_
  | with_reducible refine w_eqI ?_
  | with_reducible refine w_neI ?_
  | with_reducible refine w_eqS ?_
  | with_reducible refine w_neS ?_
  | with_reducible refine w_is ?_
  | with_reducible refine w_isNot ?_
  | with_reducible refine w_intI ?_
  | with_reducible refine w_intB ?_
  | with_reducible refine w_inC ?_
  | with_reducible refine w_niC ?_
  | ((with_reducible refine' w_ixL ?k ?h ?x); (case h => walk_at "sq"); (case x => rfl))
  | ((with_reducible refine' w_ixT ?k ?h ?x); (case h => walk_at "sq"); (case x => rfl))
  | ((with_reducible refine w_modI ?k ?c); (case c => first | omega | with_reducible assumption | decide))
  | ((with_reducible refine w_divI ?k ?c); (case c => exact ⟨by omega, by omega⟩))
  | ((with_reducible refine w_mulI ?k ?c); (case c => first | exact .inl ⟨by omega, by omega⟩ | exact .inr ⟨by omega, by omega⟩))
  | ((with_reducible refine w_powI ?k ?c); (case c => exact ⟨by decide, by decide, by decide⟩))
  | ((with_reducible refine' w_lenL ?k ?h); (case h => walk_at "sq"))
  | ((with_reducible refine' w_lenT ?k ?h); (case h => walk_at "sq"))
  | ((with_reducible refine w_len ?h ?k); (case h => exact Nat.le_of_ble_eq_true rfl))
  | ((with_reducible refine w_decTS ?h ?k); (case h => exact rfl))
  | ((with_reducible refine w_decFS ?h ?k); (case h => decide +kernel))
  | ((with_reducible refine w_ndecTS ?h ?k); (case h => exact rfl))
  | ((with_reducible refine w_ndecFS ?h ?k); (case h => decide +kernel))
  | ((with_reducible refine w_sz ?h ?k); (case h => walk_at "szt"))
  | ((with_reducible refine w_addS' ?k ?h); (case h => walk_at "szt"))
  | ((with_reducible refine w_strI' ?k ?h); (case h => omega))
  | ((with_reducible refine w_fmtN (A := True) ?h ?k); (case h => omega))
  | with_reducible refine w_chain ?_
  | with_reducible refine w_for ?_
  | with_reducible refine w_lc ?_
  | ((with_reducible refine w_rng ?h ?k); (case h => exact ⟨by omega, by omega⟩))
  | with_reducible refine w_iStr ?_
  | with_reducible refine w_iList ?_
  | with_reducible refine w_iRng1 ?_
  | with_reducible refine w_exR ?_
  | ((with_reducible refine' w_exSqL ?h ?k); (case h => walk_at "sq"))
  | ((with_reducible refine w_lenS ?k ?h); (case h => refine Nat.le_trans ?_ (by decide : 1000000 ≤ sizeLine); walk_at "szt"))
  | ((with_reducible refine w_slS ?k ?h); (case h => refine Nat.le_trans ?_ (by decide : 1000000 ≤ sizeLine); walk_at "szt"))
  | with_reducible refine w_nT ?_
  | with_reducible refine w_nF ?_
  | with_reducible refine w_un ?_
  | with_reducible refine w_negI ?_
  | with_reducible refine w_bm ?_
  | with_reducible refine w_bm0 ?_
  | ((with_reducible refine' w_tyL ?h ?k); (case h => walk_at "sq"))
  | ((with_reducible refine' w_append ?p ?l ?k); (case p => walk_at "lk"); (case l => first | exact Nat.le_of_ble_eq_true rfl | omega))
  | with_reducible refine w_gsub ?_
  | with_reducible refine w_gname ?_
  | ((with_reducible refine' w_set4_0 ?p ?k); (case p => walk_at "lk"))
  | ((with_reducible refine' w_set4_1 ?p ?k); (case p => walk_at "lk"))
  | ((with_reducible refine' w_set4_2 ?p ?k); (case p => walk_at "lk"))
  | ((with_reducible refine' w_set4_3 ?p ?k); (case p => walk_at "lk"))
  | ((with_reducible refine' w_setL ?p ?i ?k); (case p => walk_at "lk"); (case i => exact rfl))
  | with_reducible refine w_tup ?_
  | with_reducible refine w_lst ?_
  | with_reducible refine w_sl ?_
  | with_reducible refine w_noPart ?_
  | with_reducible refine w_part ?_
  | with_reducible refine w_exI ?_
  | with_reducible refine w_exS ?_
  | with_reducible refine w_join ?_
  | with_reducible refine w_split ?_
  | with_reducible refine w_isS ?_
  | with_reducible refine w_joined ?_
  | with_reducible refine w_jsNil ?_
  | with_reducible refine w_jsCons ?_
  | with_reducible refine w_fmt ?_
  | with_reducible refine w_fmtI ?_
  | with_reducible refine w_repl ?_
  | with_reducible refine w_andV ?_
  | with_reducible refine w_orV ?_
  | with_reducible refine w_notV ?_
  | with_reducible refine w_retN ?_
  | with_reducible refine w_brk ?_
  | with_reducible refine w_cont ?_
  | ((with_reducible refine' w_yes (p := ((List.length (_ : List V) : Nat) : Int) = _) ?h ?k); (case h => exact of_decide_eq_true rfl))
  | ((with_reducible refine' w_yes (p := ((List.length (_ : List V) : Nat) : Int) < _) ?h ?k); (case h => exact of_decide_eq_true rfl))
  | ((with_reducible refine' w_yes (p := _ < ((List.length (_ : List V) : Nat) : Int)) ?h ?k); (case h => exact of_decide_eq_true rfl))
  | ((with_reducible refine' w_yes (p := _ = ((List.length (_ : List V) : Nat) : Int)) ?h ?k); (case h => exact of_decide_eq_true rfl))
  | ((with_reducible refine' w_yes (p := ((Str.length (sgn _) : Nat) : Int) = _) ?h ?k); (case h => exact of_decide_eq_true rfl))
  | ((with_reducible refine' w_no (p := ((List.length (_ : List V) : Nat) : Int) = _) ?h ?k); (case h => exact of_decide_eq_false rfl))
  | ((with_reducible refine' w_no (p := ((List.length (_ : List V) : Nat) : Int) < _) ?h ?k); (case h => exact of_decide_eq_false rfl))
  | ((with_reducible refine' w_no (p := _ < ((List.length (_ : List V) : Nat) : Int)) ?h ?k); (case h => exact of_decide_eq_false rfl))
  | ((with_reducible refine' w_no (p := _ = ((List.length (_ : List V) : Nat) : Int)) ?h ?k); (case h => exact of_decide_eq_false rfl))
  | ((with_reducible refine' w_no (p := ((Str.length (sgn _) : Nat) : Int) = _) ?h ?k); (case h => exact of_decide_eq_false rfl))
  | ((with_reducible refine' w_nyes (p := ((List.length (_ : List V) : Nat) : Int) = _) ?h ?k); (case h => exact of_decide_eq_true rfl))
  | ((with_reducible refine' w_nyes (p := ((List.length (_ : List V) : Nat) : Int) < _) ?h ?k); (case h => exact of_decide_eq_true rfl))
  | ((with_reducible refine' w_nyes (p := _ < ((List.length (_ : List V) : Nat) : Int)) ?h ?k); (case h => exact of_decide_eq_true rfl))
  | ((with_reducible refine' w_nyes (p := _ = ((List.length (_ : List V) : Nat) : Int)) ?h ?k); (case h => exact of_decide_eq_true rfl))
  | ((with_reducible refine' w_nyes (p := ((Str.length (sgn _) : Nat) : Int) = _) ?h ?k); (case h => exact of_decide_eq_true rfl))
  | ((with_reducible refine' w_nno (p := ((List.length (_ : List V) : Nat) : Int) = _) ?h ?k); (case h => exact of_decide_eq_false rfl))
  | ((with_reducible refine' w_nno (p := ((List.length (_ : List V) : Nat) : Int) < _) ?h ?k); (case h => exact of_decide_eq_false rfl))
  | ((with_reducible refine' w_nno (p := _ < ((List.length (_ : List V) : Nat) : Int)) ?h ?k); (case h => exact of_decide_eq_false rfl))
  | ((with_reducible refine' w_nno (p := _ = ((List.length (_ : List V) : Nat) : Int)) ?h ?k); (case h => exact of_decide_eq_false rfl))
  | ((with_reducible refine' w_nno (p := ((Str.length (sgn _) : Nat) : Int) = _) ?h ?k); (case h => exact of_decide_eq_false rfl))
  | ((with_reducible refine' w_no (p := (V.ref _ = V.non)) ?h ?k); (case h => intro z9; cases z9))
  | ((with_reducible refine' w_yes (p := (V.non = V.non)) ?h ?k); (case h => rfl))
  | with_reducible refine w_fldC ?_
  | with_reducible refine w_make ?_
  | ((with_reducible refine' w_fldR ?h ?l ?k); (case h => walk_at "lk"); (case l => walk_at "fl"))
  | with_reducible refine w_sfldC ?_
  | ((with_reducible refine' w_sfldR ?h ?l ?k); (case h => walk_at "lk"); (case l => walk_at "pl"))
  | ((with_reducible refine' w_sfldR2 ?h ?l ?k); (case h => walk_at "lk"); (case l => first | exact p_len | exact Nat.le_of_ble_eq_true rfl); (first | rw [p_far.1] | rw [p_text.1] | rw [p_own.1] | rw [p_wait.1] | rw [p_heard.1] | rw [p_made.1] | rw [p_taken.1]))
  | with_reducible refine w_sfldaugC ?_
  | with_reducible refine w_addR ?_
  | with_reducible refine w_subR ?_
  | ((with_reducible refine' w_sfldQ ?h ?l ?k); (case h => walk_at "lk"); (case l => walk_at "pl"))
  | with_reducible refine w_meth ?_
  | ((with_reducible refine' w_methR ?h ?l ?k); (case h => walk_at "lk"); (case l => walk_at "fl"))
  | with_reducible refine w_kget ?_
  | ((with_reducible refine' w_gtup ?h ?l ?k); (case h => walk_at "sq"); (case l => exact rfl))
  | with_reducible refine w_gcons ?_
  | with_reducible refine w_gnil ?_
  | with_reducible refine w_isiII ?_
  | with_reducible refine w_isiIB ?_
  | with_reducible refine w_isiSS ?_
  | ((with_reducible refine' w_isiTT ?h ?k); (case h => walk_at "sq"))
  | ((with_reducible refine' w_isiLL ?h ?k); (case h => walk_at "sq"))
  | with_reducible refine w_ipI ?_
  | with_reducible refine w_par ?_
  | with_reducible refine w_par3 ?_
  | with_reducible refine w_parR ?_
  | with_reducible refine w_parR3 ?_
  | with_reducible refine w_aug ?_
  | ((with_reducible refine' w_var2 ?e ?k); (case e => exact rfl))
  | ((with_reducible refine' w_insL ?p ?l ?k); (case p => walk_at "lk"); (case l => first | omega | decide))
  | rw [kg_put]
  | rw [kg_cut]
  | rw [kg_non])
local macro_rules | `(tactic| walk_at "wp") => `(tactic| ((try dsimp only); (repeat walk_at "wp1"); (walk_at "beta")))
section
variable {K : PySem.W.Frag} {vs : List V} {H : Hp} {Q : VK} {E : XK}
theorem okC_alpha {c : Nat} (h : okC c = true) : c ∈ (("abcdefghijklmnopqrstuvwxyz " : Str).cps.toList) := by
  have all : ∀ c, c < 123 → okC c = true → c ∈ (("abcdefghijklmnopqrstuvwxyz " : Str).cps.toList) := by decide +kernel
  exact all c (okC_lt h) h
/-- a deed's parts -/
theorem dp_put {v : V} {p c : Nat} (h : Dp K H v (Deed.d (.put p c))) : ∃ a, v = .ref a ∧ SqT K H a [.str "put", .int (p : Int), .str (sgn c)] := by
  obtain ⟨a, xs, rfl, hs, hd⟩ := dp_tup h
  obtain ⟨v1, r1, rfl, h1, hd⟩ := dps_cons hd
  obtain ⟨v2, r2, rfl, h2, hd⟩ := dps_cons hd
  obtain ⟨v3, r3, rfl, h3, hd⟩ := dps_cons hd
  cases dps_nil hd
  rw [dp_str h1, dp_int h2, dp_str h3] at hs
  exact ⟨a, rfl, hs⟩
theorem dp_cut {v : V} {p : Nat} (h : Dp K H v (Deed.d (.cut p))) : ∃ a, v = .ref a ∧ SqT K H a [.str "cut", .int (p : Int)] := by
  obtain ⟨a, xs, rfl, hs, hd⟩ := dp_tup h
  obtain ⟨v1, r1, rfl, h1, hd⟩ := dps_cons hd
  obtain ⟨v2, r2, rfl, h2, hd⟩ := dps_cons hd
  cases dps_nil hd
  rw [dp_str h1, dp_int h2] at hs
  exact ⟨a, rfl, hs⟩
theorem dp_non {v : V} (h : Dp K H v (Deed.d .non)) : ∃ a, v = .ref a ∧ SqT K H a [.str "none"] := by
  obtain ⟨a, xs, rfl, hs, hd⟩ := dp_tup h
  obtain ⟨v1, r1, rfl, h1, hd⟩ := dps_cons hd
  cases dps_nil hd
  rw [dp_str h1] at hs
  exact ⟨a, rfl, hs⟩
theorem mk_put {p c : Nat} {q : Addr} (hs : SqT K H q [.str "put", .int (p : Int), .str (sgn c)]) : Dp K H (.ref q) (Deed.d (.put p c)) := .tup hs (.cons (.str _) (.cons (.int _) (.cons (.str _) .nil)))
theorem mk_cut {p : Nat} {q : Addr} (hs : SqT K H q [.str "cut", .int (p : Int)]) : Dp K H (.ref q) (Deed.d (.cut p)) := .tup hs (.cons (.str _) (.cons (.int _) .nil))
theorem mk_non {q : Addr} (hs : SqT K H q [.str "none"]) : Dp K H (.ref q) (Deed.d .non) := .tup hs (.cons (.str _) .nil)
theorem q_eq {x : Str} {l : List Nat} (k : Q (.str (ofL l)) H) (h : tl x = l) : Q (.str x) H := by
  rw [eq_ofL h]; exact k
theorem q_yes {p : Prop} [Decidable p] (h : p) (k : Q (.bl true) H) : Q (.bl (decide p)) H := by rw [decide_eq_true h]; exact k
theorem q_no {p : Prop} [Decidable p] (h : ¬ p) (k : Q (.bl false) H) : Q (.bl (decide p)) H := by rw [decide_eq_false h]; exact k
theorem q_is {p : Prop} [Decidable p] {b : Bool} (h : p ↔ b = true) (k : Q (.bl b) H) : Q (.bl (decide p)) H := by
  have e : decide p = b := by by_cases c : p <;> simp_all
  rw [e]; exact k
theorem pr_is_sign (h : sp_is_sign K vs H Q E) : t_is_sign K { nx := fun _ H' => Q .non H', rt := Q } (start N_is_sign vs) H := by
  obtain ⟨c, rfl, hc, k⟩ := h
  unfold t_is_sign
  walk_at "wp"
  exact q_yes (okC_alpha hc) k
theorem pr_is_place (h : sp_is_place K vs H Q E) : t_is_place K { nx := fun _ H' => Q .non H', rt := Q } (start N_is_place vs) H := by
  obtain ⟨n, rfl, k⟩ := h
  unfold t_is_place
  walk_at "wp"
  exact q_yes (by omega) k
theorem pr_is_whole (h : sp_is_whole K vs H Q E) : t_is_whole K { nx := fun _ H' => Q .non H', rt := Q } (start N_is_whole vs) H := by
  obtain ⟨n, rfl, k⟩ := h
  unfold t_is_whole
  walk_at "wp"
  exact q_yes (by omega) k
theorem pr_is_deed (h : sp_is_deed K vs H Q E) : t_is_deed K { nx := fun _ H' => Q .non H', rt := Q } (start N_is_deed vs) H := by
  obtain ⟨v, e, rfl, hv, he, k⟩ := h
  unfold t_is_deed
  cases e with
  | put p c =>
    obtain ⟨a, rfl, hs⟩ := dp_put hv
    walk_at "wp"
    refine ⟨p, rfl, ?_⟩
    walk_at "wp"
    exact ⟨c, rfl, he, k⟩
  | cut p =>
    obtain ⟨a, rfl, hs⟩ := dp_cut hv
    walk_at "wp"
    refine ⟨p, rfl, ?_⟩
    walk_at "wp"
    exact k
  | non =>
    obtain ⟨a, rfl, hs⟩ := dp_non hv
    walk_at "wp"
    exact k
theorem pr_can_be_done (h : sp_can_be_done K vs H Q E) : t_can_be_done K { nx := fun _ H' => Q .non H', rt := Q } (start N_can_be_done vs) H := by
  obtain ⟨l, v, e, rfl, hl, hv, he, k⟩ := h
  unfold t_can_be_done
  walk_at "wp"
  refine ⟨_, e, rfl, hv, he, ?_⟩
  cases e with
  | put p c =>
    obtain ⟨a, rfl, hs⟩ := dp_put hv
    walk_at "wp"
    refine q_is ?_ k
    rw [cn_put, len_ofL]; omega
  | cut p =>
    obtain ⟨a, rfl, hs⟩ := dp_cut hv
    walk_at "wp"
    refine q_is ?_ k
    rw [cn_cut, len_ofL]; omega
  | non =>
    obtain ⟨a, rfl, hs⟩ := dp_non hv
    walk_at "wp"
    exact k
theorem pr_done (h : sp_done K vs H Q E) : t_done K { nx := fun _ H' => Q .non H', rt := Q } (start N_done vs) H := by
  obtain ⟨l, v, e, rfl, hl, hv, he, hc, k⟩ := h
  unfold t_done
  walk_at "wp"
  refine ⟨l, _, e, rfl, hl, hv, he, ?_⟩
  rw [hc]
  cases e with
  | put p c =>
    obtain ⟨a, rfl, hs⟩ := dp_put hv
    walk_at "wp"
    have hp := cn_put.mp hc
    have e1 : tl (cutS (ofL l) none (some (p : Int))) = l.take p := cut_to
    have e2 : tl (cutS (ofL l) (some (p : Int)) none) = l.drop p := cut_from
    refine w_addS' ?_ ?_
    · walk_at "wp"
      refine w_addS' ?_ ?_
      · refine q_eq k ?_
        rw [TL.tl_append, TL.tl_append, e1, e2, tl_sgn, List.append_assoc]; rfl
      · rw [len_tl, len_tl, TL.tl_append, e1, e2, tl_sgn]; simp; omega
    · rw [len_tl, len_tl, e1, tl_sgn]; simp; omega
  | cut p =>
    obtain ⟨a, rfl, hs⟩ := dp_cut hv
    walk_at "wp"
    have e1 : tl (cutS (ofL l) none (some (p : Int))) = l.take p := cut_to
    have e2 : tl (cutS (ofL l) (some ((p : Int) + 1)) none) = l.drop (p + 1) := cut_from (n := p + 1)
    refine w_addS' ?_ ?_
    · refine q_eq k ?_
      rw [TL.tl_append, e1, e2]; rfl
    · rw [len_tl, len_tl, e1, e2]; simp; omega
  | non =>
    obtain ⟨a, rfl, hs⟩ := dp_non hv
    walk_at "wp"
    exact k
end
end FL

namespace FL
open PySem PySem.Spec PyProof.Rows L2 CwR TL
local macro_rules | `(tactic| walk_at "tls") => `(tactic| (simp only [TL.tl_append, TL.tl_num, tl_ofL, tl_sgn, tl_empty, List.nil_append, List.append_nil, List.cons_append, List.append_assoc]))
local macro_rules | `(tactic| walk_at "szt") => `(tactic| (simp only [len_ofL, TL.len_tl, TL.tl_append, TL.tl_num, tl_ofL, tl_sgn, tl_empty, List.length_append, List.length_cons, List.length_nil]; omega))
local macro_rules | `(tactic| walk_at "beta") => `(tactic| (try dsimp only [List.set_cons_zero, List.set_cons_succ]))
local macro_rules | `(tactic| walk_at "sq") => `(tactic| first | assumption | exact SqL.of upd_same | exact SqT.of upd_same | exact SqL.of (by assumption) | exact SqT.of (by assumption) | ((with_reducible refine' sq_updI ?h ?s); (case h => walk_at "lk"); (case s => walk_at "sq")) | ((with_reducible refine' sq_updL ?h ?s); (case h => walk_at "lk"); (case s => walk_at "sq")) | ((with_reducible refine' sq_new ?h ?s); (case h => assumption); (case s => walk_at "sq")) | exact SqL.of (by walk_at "lk"))
local macro_rules | `(tactic| walk_at "lk") => `(tactic| first | assumption | exact upd_same | (refine Eq.trans (upd_ne (by assumption)) ?_; walk_at "lk"))
local macro_rules | `(tactic| walk_at "fl") => `(tactic| first | with_reducible exact l_text | with_reducible exact l_ahead | with_reducible exact l_made | with_reducible exact l_taken | with_reducible exact l_heard | with_reducible exact l_wait | with_reducible exact l_own | with_reducible exact l_far | exact l_no (by decide +kernel) | exact two_l1 | exact two_l2 (by decide +kernel) | exact two_no (by decide +kernel) (by decide +kernel))
local macro_rules | `(tactic| walk_at "pl") => `(tactic| first | with_reducible exact p_text | with_reducible exact p_made | with_reducible exact p_taken | with_reducible exact p_heard | with_reducible exact p_wait | with_reducible exact p_own | with_reducible exact p_far | with_reducible exact i_1 | with_reducible exact i_2 | with_reducible exact i_3 | with_reducible exact i_4 | with_reducible exact i_5 | with_reducible exact i_6 | with_reducible exact i_7 | with_reducible exact i_8 | exact ⟨put_past (by decide +kernel), Nat.le_of_ble_eq_true rfl⟩ | exact ⟨rfl, Nat.le_of_ble_eq_true rfl⟩)
local macro_rules | `(tactic| walk_at "wp1") => `(tactic| first
  | with_reducible refine w_seq ?_
  | with_reducible refine w_set ?_
  | ((with_reducible refine' w_var ?e ?k); (case e => exact rfl))
  | with_reducible refine w_c ?_
  | with_reducible refine w_op ?_
  | with_reducible refine w_ret ?_
  | with_reducible refine w_if ?_
  | with_reducible refine w_test ?_
  | with_reducible refine w_bl ?_
  | with_reducible refine w_cons ?_
  | with_reducible refine w_nil ?_
  | with_reducible refine w_call ?_
  | with_reducible refine w_cb ?_
  | with_reducible refine w_next ?_
  | with_reducible refine w_drop ?_
  | with_reducible refine w_asg ?_
  | with_reducible refine w_and ?_
  | with_reducible refine w_or ?_
  | with_reducible refine w_not ?_
  | with_reducible refine w_ifE ?_
  | with_reducible refine w_tB ?_
  | with_reducible refine iteT ?_
  | with_reducible refine iteF ?_
  | with_reducible refine w_addI ?_
  | with_reducible refine w_subI ?_
  | with_reducible refine w_ltI ?_
  | with_reducible refine w_leI ?_
  | with_reducible refine w_gtI ?_
  | with_reducible refine w_geI ?_
  | with_reducible refine w_eqI ?_
  | with_reducible refine w_neI ?_
  | with_reducible refine w_eqS ?_
  | with_reducible refine w_neS ?_
  | with_reducible refine w_is ?_
  | with_reducible refine w_isNot ?_
  | with_reducible refine w_intI ?_
  | with_reducible refine w_intB ?_
  | with_reducible refine w_inC ?_
  | with_reducible refine w_niC ?_
  | ((with_reducible refine' w_ixL ?k ?h ?x); (case h => walk_at "sq"); (case x => rfl))
  | ((with_reducible refine' w_ixT ?k ?h ?x); (case h => walk_at "sq"); (case x => rfl))
  | ((with_reducible refine w_modI ?k ?c); (case c => first | omega | with_reducible assumption | decide))
  | ((with_reducible refine w_divI ?k ?c); (case c => exact ⟨by omega, by omega⟩))
  | ((with_reducible refine w_mulI ?k ?c); (case c => first | exact .inl ⟨by omega, by omega⟩ | exact .inr ⟨by omega, by omega⟩))
  | ((with_reducible refine w_powI ?k ?c); (case c => exact ⟨by decide, by decide, by decide⟩))
  | ((with_reducible refine' w_lenL ?k ?h); (case h => walk_at "sq"))
  | ((with_reducible refine' w_lenT ?k ?h); (case h => walk_at "sq"))
  | ((with_reducible refine w_len ?h ?k); (case h => exact Nat.le_of_ble_eq_true rfl))
  | ((with_reducible refine w_decTS ?h ?k); (case h => exact rfl))
  | ((with_reducible refine w_decFS ?h ?k); (case h => decide +kernel))
  | ((with_reducible refine w_ndecTS ?h ?k); (case h => exact rfl))
  | ((with_reducible refine w_ndecFS ?h ?k); (case h => decide +kernel))
  | ((with_reducible refine w_sz ?h ?k); (case h => walk_at "szt"))
  | ((with_reducible refine w_addS' ?k ?h); (case h => walk_at "szt"))
  | ((with_reducible refine w_strI' ?k ?h); (case h => omega))
  | ((with_reducible refine w_fmtN (A := True) ?h ?k); (case h => omega))
  | with_reducible refine w_chain ?_
  | with_reducible refine w_for ?_
  | with_reducible refine w_lc ?_
  | ((with_reducible refine w_rng ?h ?k); (case h => exact ⟨by omega, by omega⟩))
  | with_reducible refine w_iStr ?_
  | with_reducible refine w_iList ?_
  | with_reducible refine w_iRng1 ?_
  | with_reducible refine w_exR ?_
  | ((with_reducible refine' w_exSqL ?h ?k); (case h => walk_at "sq"))
  | ((with_reducible refine w_lenS ?k ?h); (case h => refine Nat.le_trans ?_ (by decide : 1000000 ≤ sizeLine); walk_at "szt"))
  | ((with_reducible refine w_slS ?k ?h); (case h => refine Nat.le_trans ?_ (by decide : 1000000 ≤ sizeLine); walk_at "szt"))
  | with_reducible refine w_nT ?_
  | with_reducible refine w_nF ?_
  | with_reducible refine w_un ?_
  | with_reducible refine w_negI ?_
  | with_reducible refine w_bm ?_
  | with_reducible refine w_bm0 ?_
  | ((with_reducible refine' w_tyL ?h ?k); (case h => walk_at "sq"))
  | ((with_reducible refine' w_append ?p ?l ?k); (case p => walk_at "lk"); (case l => first | exact Nat.le_of_ble_eq_true rfl | omega))
  | with_reducible refine w_gsub ?_
  | with_reducible refine w_gname ?_
  | ((with_reducible refine' w_set4_0 ?p ?k); (case p => walk_at "lk"))
  | ((with_reducible refine' w_set4_1 ?p ?k); (case p => walk_at "lk"))
  | ((with_reducible refine' w_set4_2 ?p ?k); (case p => walk_at "lk"))
  | ((with_reducible refine' w_set4_3 ?p ?k); (case p => walk_at "lk"))
  | ((with_reducible refine' w_setL ?p ?i ?k); (case p => walk_at "lk"); (case i => exact rfl))
  | with_reducible refine w_tup ?_
  | with_reducible refine w_lst ?_
  | with_reducible refine w_sl ?_
  | with_reducible refine w_noPart ?_
  | with_reducible refine w_part ?_
  | with_reducible refine w_exI ?_
  | with_reducible refine w_exS ?_
  | with_reducible refine w_join ?_
  | with_reducible refine w_split ?_
  | with_reducible refine w_isS ?_
  | with_reducible refine w_joined ?_
  | with_reducible refine w_jsNil ?_
  | with_reducible refine w_jsCons ?_
  | with_reducible refine w_fmt ?_
  | with_reducible refine w_fmtI ?_
  | with_reducible refine w_repl ?_
  | with_reducible refine w_andV ?_
  | with_reducible refine w_orV ?_
  | with_reducible refine w_notV ?_
  | with_reducible refine w_retN ?_
  | with_reducible refine w_brk ?_
  | with_reducible refine w_cont ?_
  | ((with_reducible refine' w_yes (p := ((List.length (_ : List V) : Nat) : Int) = _) ?h ?k); (case h => exact of_decide_eq_true rfl))
  | ((with_reducible refine' w_yes (p := ((List.length (_ : List V) : Nat) : Int) < _) ?h ?k); (case h => exact of_decide_eq_true rfl))
  | ((with_reducible refine' w_yes (p := _ < ((List.length (_ : List V) : Nat) : Int)) ?h ?k); (case h => exact of_decide_eq_true rfl))
  | ((with_reducible refine' w_yes (p := _ = ((List.length (_ : List V) : Nat) : Int)) ?h ?k); (case h => exact of_decide_eq_true rfl))
  | ((with_reducible refine' w_yes (p := ((Str.length (sgn _) : Nat) : Int) = _) ?h ?k); (case h => exact of_decide_eq_true rfl))
  | ((with_reducible refine' w_no (p := ((List.length (_ : List V) : Nat) : Int) = _) ?h ?k); (case h => exact of_decide_eq_false rfl))
  | ((with_reducible refine' w_no (p := ((List.length (_ : List V) : Nat) : Int) < _) ?h ?k); (case h => exact of_decide_eq_false rfl))
  | ((with_reducible refine' w_no (p := _ < ((List.length (_ : List V) : Nat) : Int)) ?h ?k); (case h => exact of_decide_eq_false rfl))
  | ((with_reducible refine' w_no (p := _ = ((List.length (_ : List V) : Nat) : Int)) ?h ?k); (case h => exact of_decide_eq_false rfl))
  | ((with_reducible refine' w_no (p := ((Str.length (sgn _) : Nat) : Int) = _) ?h ?k); (case h => exact of_decide_eq_false rfl))
  | ((with_reducible refine' w_nyes (p := ((List.length (_ : List V) : Nat) : Int) = _) ?h ?k); (case h => exact of_decide_eq_true rfl))
  | ((with_reducible refine' w_nyes (p := ((List.length (_ : List V) : Nat) : Int) < _) ?h ?k); (case h => exact of_decide_eq_true rfl))
  | ((with_reducible refine' w_nyes (p := _ < ((List.length (_ : List V) : Nat) : Int)) ?h ?k); (case h => exact of_decide_eq_true rfl))
  | ((with_reducible refine' w_nyes (p := _ = ((List.length (_ : List V) : Nat) : Int)) ?h ?k); (case h => exact of_decide_eq_true rfl))
  | ((with_reducible refine' w_nyes (p := ((Str.length (sgn _) : Nat) : Int) = _) ?h ?k); (case h => exact of_decide_eq_true rfl))
  | ((with_reducible refine' w_nno (p := ((List.length (_ : List V) : Nat) : Int) = _) ?h ?k); (case h => exact of_decide_eq_false rfl))
  | ((with_reducible refine' w_nno (p := ((List.length (_ : List V) : Nat) : Int) < _) ?h ?k); (case h => exact of_decide_eq_false rfl))
  | ((with_reducible refine' w_nno (p := _ < ((List.length (_ : List V) : Nat) : Int)) ?h ?k); (case h => exact of_decide_eq_false rfl))
  | ((with_reducible refine' w_nno (p := _ = ((List.length (_ : List V) : Nat) : Int)) ?h ?k); (case h => exact of_decide_eq_false rfl))
  | ((with_reducible refine' w_nno (p := ((Str.length (sgn _) : Nat) : Int) = _) ?h ?k); (case h => exact of_decide_eq_false rfl))
  | ((with_reducible refine' w_no (p := (V.ref _ = V.non)) ?h ?k); (case h => intro z9; cases z9))
  | ((with_reducible refine' w_yes (p := (V.non = V.non)) ?h ?k); (case h => rfl))
  | with_reducible refine w_fldC ?_
  | with_reducible refine w_make ?_
  | ((with_reducible refine' w_fldR ?h ?l ?k); (case h => walk_at "lk"); (case l => walk_at "fl"))
  | with_reducible refine w_sfldC ?_
  | ((with_reducible refine' w_sfldR ?h ?l ?k); (case h => walk_at "lk"); (case l => walk_at "pl"))
  | ((with_reducible refine' w_sfldR2 ?h ?l ?k); (case h => walk_at "lk"); (case l => first | exact p_len | exact Nat.le_of_ble_eq_true rfl); (first | rw [p_far.1] | rw [p_text.1] | rw [p_own.1] | rw [p_wait.1] | rw [p_heard.1] | rw [p_made.1] | rw [p_taken.1]))
  | with_reducible refine w_sfldaugC ?_
  | with_reducible refine w_addR ?_
  | with_reducible refine w_subR ?_
  | ((with_reducible refine' w_sfldQ ?h ?l ?k); (case h => walk_at "lk"); (case l => walk_at "pl"))
  | with_reducible refine w_meth ?_
  | ((with_reducible refine' w_methR ?h ?l ?k); (case h => walk_at "lk"); (case l => walk_at "fl"))
  | with_reducible refine w_kget ?_
  | ((with_reducible refine' w_gtup ?h ?l ?k); (case h => walk_at "sq"); (case l => exact rfl))
  | with_reducible refine w_gcons ?_
  | with_reducible refine w_gnil ?_
  | with_reducible refine w_isiII ?_
  | with_reducible refine w_isiIB ?_
  | with_reducible refine w_isiSS ?_
  | ((with_reducible refine' w_isiTT ?h ?k); (case h => walk_at "sq"))
  | ((with_reducible refine' w_isiLL ?h ?k); (case h => walk_at "sq"))
  | with_reducible refine w_ipI ?_
  | with_reducible refine w_par ?_
  | with_reducible refine w_par3 ?_
  | with_reducible refine w_parR ?_
  | with_reducible refine w_parR3 ?_
  | with_reducible refine w_aug ?_
  | ((with_reducible refine' w_var2 ?e ?k); (case e => exact rfl))
  | ((with_reducible refine' w_insL ?p ?l ?k); (case p => walk_at "lk"); (case l => first | omega | decide))
  | rw [kg_put]
  | rw [kg_cut]
  | rw [kg_non])
local macro_rules | `(tactic| walk_at "wp") => `(tactic| ((try dsimp only); (repeat walk_at "wp1"); (walk_at "beta")))
section
variable {K : PySem.W.Frag} {vs : List V} {H : Hp} {Q : VK} {E : XK}
theorem w_tailP {a p1 : Addr} {x0 x1 s y0 y1 : V} (hs : SqT K H a [x0, x1, s]) (h1 : SqT K H p1 [y0, y1]) (k : ∀ q H', Same H H' → SqT K H' q [y0, y1, s] → Q (.ref q) H') :
    rSlU K (.ref a) (some 2) none H fun y H2 => rAddU K (.ref p1) y H2 Q := by
  refine .inr (.inl ⟨a, _, rfl, hs, (fun z => absurd z.1 (by show ¬ HT.sIx 3 0 (some 2) = 0; decide)), fun p hp => ?_⟩)
  refine .inr (.inr (.inr ⟨p1, p, [y0, y1], [s], rfl, rfl, same_t (same_new hp) h1, SqT.of upd_same, by simp, Nat.le_of_ble_eq_true rfl, fun z => (by cases z), fun _ q hq => ?_⟩))
  exact k q _ ((same_new hp).trans (same_new hq)) (SqT.of upd_same)
theorem w_tailC {a p1 : Addr} {x0 x1 y0 y1 : V} (hs : SqT K H a [x0, x1]) (h1 : SqT K H p1 [y0, y1]) (k : ∀ H', Same H H' → SqT K H' p1 [y0, y1] → Q (.ref p1) H') :
    rSlU K (.ref a) (some 2) none H fun y H2 => rAddU K (.ref p1) y H2 Q := by
  refine .inr (.inl ⟨a, _, rfl, hs, (fun z => absurd z.1 (by show ¬ HT.sIx 2 0 (some 2) = 0; decide)), fun p hp => ?_⟩)
  refine .inr (.inr (.inr ⟨p1, p, [y0, y1], [], rfl, rfl, same_t (same_new hp) h1, SqT.of upd_same, by simp, Nat.le_of_ble_eq_true rfl, fun _ => ?_, fun z => absurd rfl z⟩))
  exact k _ (same_new hp) (same_t (same_new hp) h1)
theorem pr_moved (h : sp_moved K vs H Q E) : t_moved K { nx := fun _ H' => Q .non H', rt := Q } (start N_moved vs) H := by
  obtain ⟨v, w, f, a, b, rfl, hv, hw, k⟩ := h
  unfold t_moved
  have fin : ∀ {q : Addr} {p' c : Nat} {H2 : Hp}, Same H H2 → SqT K H2 q [.str "put", .int (p' : Int), .str (sgn c)] → mv a b f = .put p' c → Q (.ref q) H2 := fun s h e => k _ _ s (by rw [e]; exact mk_put h)
  have finc : ∀ {q : Addr} {p' : Nat} {H2 : Hp}, Same H H2 → SqT K H2 q [.str "cut", .int (p' : Int)] → mv a b f = .cut p' → Q (.ref q) H2 := fun s h e => k _ _ s (by rw [e]; exact mk_cut h)
  have nput : ∀ {q : Addr} {j : Int} {p' c : Nat} {H1 H2 : Hp}, j = (p' : Int) → mv a b f = .put p' c → Same H H2 → SqT K H2 q [.str "put", .int j, .str (sgn c)] → Q (.ref q) H2 := fun ej e s h => by subst ej; exact fin s h e
  have ncut : ∀ {q : Addr} {j : Int} {p' : Nat} {H1 H2 : Hp}, j = (p' : Int) → mv a b f = .cut p' → Same H H2 → SqT K H2 q [.str "cut", .int j] → Q (.ref q) H2 := fun ej e s h => by subst ej; exact finc s h e
  cases a with
  | non =>
    obtain ⟨x, rfl, hx⟩ := dp_non hv
    walk_at "wp"
    exact k _ _ (Same.refl _) (by rw [non_mv]; exact hv)
  | put p c =>
    obtain ⟨x, rfl, hx⟩ := dp_put hv
    cases b with
    | non =>
      obtain ⟨y, rfl, hy⟩ := dp_non hw
      walk_at "wp"
      exact k _ _ (Same.refl _) (by rw [mv_non]; exact hv)
    | put q d =>
      obtain ⟨y, rfl, hy⟩ := dp_put hw
      walk_at "wp"
      refine w_dec ?_ ?_ <;> intro h1
      · walk_at "wp"
        intro r hr
        walk_at "wp"
        exact w_tailP (same_t (same_new hr) hx) (SqT.of upd_same) fun u H' s hu => nput (p' := p + 1) (H1 := H) (by omega) (by rw [mpp]; exact if_pos (.inl (by omega))) ((same_new hr).trans s) hu
      · walk_at "wp"
        refine w_dec ?_ ?_ <;> intro h2
        · cases f with
          | true =>
            walk_at "wp"
            intro r hr
            walk_at "wp"
            exact w_tailP (same_t (same_new hr) hx) (SqT.of upd_same) fun u H' s hu => nput (p' := p) (H1 := H) rfl (by rw [mpp]; exact if_neg (by simp; omega)) ((same_new hr).trans s) hu
          | false =>
            walk_at "wp"
            intro r hr
            walk_at "wp"
            exact w_tailP (same_t (same_new hr) hx) (SqT.of upd_same) fun u H' s hu => nput (p' := p + 1) (H1 := H) (by omega) (by rw [mpp]; exact if_pos (.inr ⟨by omega, rfl⟩)) ((same_new hr).trans s) hu
        · walk_at "wp"
          intro r hr
          walk_at "wp"
          exact w_tailP (same_t (same_new hr) hx) (SqT.of upd_same) fun u H' s hu => nput (p' := p) (H1 := H) rfl (by rw [mpp]; exact if_neg (by omega)) ((same_new hr).trans s) hu
    | cut q =>
      obtain ⟨y, rfl, hy⟩ := dp_cut hw
      walk_at "wp"
      refine w_dec ?_ ?_ <;> intro h1
      · walk_at "wp"
        intro r hr
        walk_at "wp"
        exact w_tailP (same_t (same_new hr) hx) (SqT.of upd_same) fun u H' s hu => nput (p' := p - 1) (H1 := H) (by omega) (by rw [mpc]; exact if_pos (by omega)) ((same_new hr).trans s) hu
      · walk_at "wp"
        refine w_dec ?_ ?_ <;> intro h2
        · walk_at "wp"
          intro r hr
          walk_at "wp"
          exact w_tailP (same_t (same_new hr) hx) (SqT.of upd_same) fun u H' s hu => nput (p' := p) (H1 := H) rfl (by rw [mpc]; exact if_neg (by omega)) ((same_new hr).trans s) hu
        · walk_at "wp"
          intro r hr
          walk_at "wp"
          exact w_tailP (same_t (same_new hr) hx) (SqT.of upd_same) fun u H' s hu => nput (p' := p) (H1 := H) rfl (by rw [mpc]; exact if_neg (by omega)) ((same_new hr).trans s) hu
  | cut p =>
    obtain ⟨x, rfl, hx⟩ := dp_cut hv
    cases b with
    | non =>
      obtain ⟨y, rfl, hy⟩ := dp_non hw
      walk_at "wp"
      exact k _ _ (Same.refl _) (by rw [mv_non]; exact hv)
    | put q d =>
      obtain ⟨y, rfl, hy⟩ := dp_put hw
      walk_at "wp"
      refine w_dec ?_ ?_ <;> intro h1
      · walk_at "wp"
        intro r hr
        walk_at "wp"
        exact w_tailC (same_t (same_new hr) hx) (SqT.of upd_same) fun H' s hu => ncut (p' := p + 1) (H1 := H) (by omega) (by rw [mcp]; exact if_pos (.inl (by omega))) ((same_new hr).trans s) hu
      · walk_at "wp"
        refine w_dec ?_ ?_ <;> intro h2
        · walk_at "wp"
          intro r hr
          walk_at "wp"
          exact w_tailC (same_t (same_new hr) hx) (SqT.of upd_same) fun H' s hu => ncut (p' := p + 1) (H1 := H) (by omega) (by rw [mcp]; exact if_pos (.inr (by omega))) ((same_new hr).trans s) hu
        · walk_at "wp"
          intro r hr
          walk_at "wp"
          exact w_tailC (same_t (same_new hr) hx) (SqT.of upd_same) fun H' s hu => ncut (p' := p) (H1 := H) rfl (by rw [mcp]; exact if_neg (by omega)) ((same_new hr).trans s) hu
    | cut q =>
      obtain ⟨y, rfl, hy⟩ := dp_cut hw
      walk_at "wp"
      refine w_dec ?_ ?_ <;> intro h1
      · walk_at "wp"
        intro r hr
        walk_at "wp"
        exact w_tailC (same_t (same_new hr) hx) (SqT.of upd_same) fun H' s hu => ncut (p' := p - 1) (H1 := H) (by omega) (by rw [mcc]; exact if_pos (by omega)) ((same_new hr).trans s) hu
      · walk_at "wp"
        refine w_dec ?_ ?_ <;> intro h2
        · walk_at "wp"
          intro r hr
          exact k _ _ (same_new hr) (by rw [mcc, if_neg (by omega), if_pos (by omega)]; exact mk_non (SqT.of upd_same))
        · walk_at "wp"
          intro r hr
          walk_at "wp"
          exact w_tailC (same_t (same_new hr) hx) (SqT.of upd_same) fun H' s hu => ncut (p' := p) (H1 := H) rfl (by rw [mcc, if_neg (by omega), if_neg (by omega)]) ((same_new hr).trans s) hu
theorem pr_mark_moved (h : sp_mark_moved K vs H Q E) : t_mark_moved K { nx := fun _ H' => Q .non H', rt := Q } (start N_mark_moved vs) H := by
  obtain ⟨p, v, f, e, rfl, hv, k⟩ := h
  unfold t_mark_moved
  walk_at "wp"
  intro r hr
  walk_at "wp"
  refine ⟨_, _, f, .put p 32, e, rfl, mk_put (SqT.of upd_same), dp_same (same_new hr) hv, fun v' H' s hd => ?_⟩
  have hk := k H' ((same_new hr).trans s)
  unfold mkMv at hk
  obtain ⟨q, hq⟩ : ∃ q, mv (.put p 32) e f = .put q 32 := by
    cases e <;> simp only [mv] <;> (try split) <;> exact ⟨_, rfl⟩
  rw [hq] at hd hk
  obtain ⟨a, rfl, hs⟩ := dp_put hd
  walk_at "wp"
  exact hk
theorem pr_is_letter (h : sp_is_letter K vs H Q E) : t_is_letter K { nx := fun _ H' => Q .non H', rt := Q } (start N_is_letter vs) H := by
  obtain ⟨v, l, rfl, hv, hl, k⟩ := h
  obtain ⟨a, xs, rfl, hs, hd⟩ := dp_tup hv
  obtain ⟨v1, r1, rfl, h1, hd⟩ := dps_cons hd
  obtain ⟨v2, r2, rfl, h2, hd⟩ := dps_cons hd
  obtain ⟨v3, r3, rfl, h3, hd⟩ := dps_cons hd
  obtain ⟨v4, r4, rfl, h4, hd⟩ := dps_cons hd
  cases dps_nil hd
  cases dp_int h1
  cases dp_int h2
  cases dp_int h4
  unfold t_is_letter
  walk_at "wp"
  refine ⟨_, l.deed, rfl, h3, hl, ?_⟩
  walk_at "wp"
  refine ⟨l.made, rfl, ?_⟩
  walk_at "wp"
  refine ⟨l.taken, rfl, ?_⟩
  walk_at "wp"
  exact ⟨l.mark, rfl, k⟩
end
end FL

namespace FL
open PySem PySem.Spec PyProof.Rows L2 CwR TL
local macro_rules | `(tactic| walk_at "tls") => `(tactic| (simp only [TL.tl_append, TL.tl_num, tl_ofL, tl_sgn, tl_empty, List.nil_append, List.append_nil, List.cons_append, List.append_assoc]))
local macro_rules | `(tactic| walk_at "szt") => `(tactic| (simp only [len_ofL, TL.len_tl, TL.tl_append, TL.tl_num, tl_ofL, tl_sgn, tl_empty, List.length_append, List.length_cons, List.length_nil]; omega))
local macro_rules | `(tactic| walk_at "beta") => `(tactic| (try dsimp only [List.set_cons_zero, List.set_cons_succ]))
local macro_rules | `(tactic| walk_at "sq") => `(tactic| first | assumption | exact SqL.of upd_same | exact SqT.of upd_same | exact SqL.of (by assumption) | exact SqT.of (by assumption) | ((with_reducible refine' sq_updI ?h ?s); (case h => walk_at "lk"); (case s => walk_at "sq")) | ((with_reducible refine' sq_updL ?h ?s); (case h => walk_at "lk"); (case s => walk_at "sq")) | ((with_reducible refine' sq_new ?h ?s); (case h => assumption); (case s => walk_at "sq")) | exact SqL.of (by walk_at "lk"))
local macro_rules | `(tactic| walk_at "lk") => `(tactic| first | assumption | exact upd_same | (refine Eq.trans (upd_ne (by assumption)) ?_; walk_at "lk"))
local macro_rules | `(tactic| walk_at "fl") => `(tactic| first | with_reducible exact l_text | with_reducible exact l_ahead | with_reducible exact l_made | with_reducible exact l_taken | with_reducible exact l_heard | with_reducible exact l_wait | with_reducible exact l_own | with_reducible exact l_far | exact l_no (by decide +kernel) | exact two_l1 | exact two_l2 (by decide +kernel) | exact two_no (by decide +kernel) (by decide +kernel))
local macro_rules | `(tactic| walk_at "pl") => `(tactic| first | with_reducible exact p_text | with_reducible exact p_made | with_reducible exact p_taken | with_reducible exact p_heard | with_reducible exact p_wait | with_reducible exact p_own | with_reducible exact p_far | with_reducible exact i_1 | with_reducible exact i_2 | with_reducible exact i_3 | with_reducible exact i_4 | with_reducible exact i_5 | with_reducible exact i_6 | with_reducible exact i_7 | with_reducible exact i_8 | exact ⟨put_past (by decide +kernel), Nat.le_of_ble_eq_true rfl⟩ | exact ⟨rfl, Nat.le_of_ble_eq_true rfl⟩)
local macro_rules | `(tactic| walk_at "wp1") => `(tactic| first
  | with_reducible refine w_seq ?_
  | with_reducible refine w_set ?_
  | ((with_reducible refine' w_var ?e ?k); (case e => exact rfl))
  | with_reducible refine w_c ?_
  | with_reducible refine w_op ?_
  | with_reducible refine w_ret ?_
  | with_reducible refine w_if ?_
  | with_reducible refine w_test ?_
  | with_reducible refine w_bl ?_
  | with_reducible refine w_cons ?_
  | with_reducible refine w_nil ?_
  | with_reducible refine w_call ?_
  | with_reducible refine w_cb ?_
  | with_reducible refine w_next ?_
  | with_reducible refine w_drop ?_
  | with_reducible refine w_asg ?_
  | with_reducible refine w_and ?_
  | with_reducible refine w_or ?_
  | with_reducible refine w_not ?_
  | with_reducible refine w_ifE ?_
  | with_reducible refine w_tB ?_
  | with_reducible refine iteT ?_
  | with_reducible refine iteF ?_
  | with_reducible refine w_addI ?_
  | with_reducible refine w_subI ?_
  | with_reducible refine w_ltI ?_
  | with_reducible refine w_leI ?_
  | with_reducible refine w_gtI ?_
  | with_reducible refine w_geI ?_
  | with_reducible refine w_eqI ?_
  | with_reducible refine w_neI ?_
  | with_reducible refine w_eqS ?_
  | with_reducible refine w_neS ?_
  | with_reducible refine w_is ?_
  | with_reducible refine w_isNot ?_
  | with_reducible refine w_intI ?_
  | with_reducible refine w_intB ?_
  | with_reducible refine w_inC ?_
  | with_reducible refine w_niC ?_
  | ((with_reducible refine' w_ixL ?k ?h ?x); (case h => walk_at "sq"); (case x => rfl))
  | ((with_reducible refine' w_ixT ?k ?h ?x); (case h => walk_at "sq"); (case x => rfl))
  | ((with_reducible refine w_modI ?k ?c); (case c => first | omega | with_reducible assumption | decide))
  | ((with_reducible refine w_divI ?k ?c); (case c => exact ⟨by omega, by omega⟩))
  | ((with_reducible refine w_mulI ?k ?c); (case c => first | exact .inl ⟨by omega, by omega⟩ | exact .inr ⟨by omega, by omega⟩))
  | ((with_reducible refine w_powI ?k ?c); (case c => exact ⟨by decide, by decide, by decide⟩))
  | ((with_reducible refine' w_lenL ?k ?h); (case h => walk_at "sq"))
  | ((with_reducible refine' w_lenT ?k ?h); (case h => walk_at "sq"))
  | ((with_reducible refine w_len ?h ?k); (case h => exact Nat.le_of_ble_eq_true rfl))
  | ((with_reducible refine w_decTS ?h ?k); (case h => exact rfl))
  | ((with_reducible refine w_decFS ?h ?k); (case h => decide +kernel))
  | ((with_reducible refine w_ndecTS ?h ?k); (case h => exact rfl))
  | ((with_reducible refine w_ndecFS ?h ?k); (case h => decide +kernel))
  | ((with_reducible refine w_sz ?h ?k); (case h => walk_at "szt"))
  | ((with_reducible refine w_addS' ?k ?h); (case h => walk_at "szt"))
  | ((with_reducible refine w_strI' ?k ?h); (case h => omega))
  | ((with_reducible refine w_fmtN (A := True) ?h ?k); (case h => omega))
  | with_reducible refine w_chain ?_
  | with_reducible refine w_for ?_
  | with_reducible refine w_lc ?_
  | ((with_reducible refine w_rng ?h ?k); (case h => exact ⟨by omega, by omega⟩))
  | with_reducible refine w_iStr ?_
  | with_reducible refine w_iList ?_
  | with_reducible refine w_iRng1 ?_
  | with_reducible refine w_exR ?_
  | ((with_reducible refine' w_exSqL ?h ?k); (case h => walk_at "sq"))
  | ((with_reducible refine w_lenS ?k ?h); (case h => refine Nat.le_trans ?_ (by decide : 1000000 ≤ sizeLine); walk_at "szt"))
  | ((with_reducible refine w_slS ?k ?h); (case h => refine Nat.le_trans ?_ (by decide : 1000000 ≤ sizeLine); walk_at "szt"))
  | with_reducible refine w_nT ?_
  | with_reducible refine w_nF ?_
  | with_reducible refine w_un ?_
  | with_reducible refine w_negI ?_
  | with_reducible refine w_bm ?_
  | with_reducible refine w_bm0 ?_
  | ((with_reducible refine' w_tyL ?h ?k); (case h => walk_at "sq"))
  | ((with_reducible refine' w_append ?p ?l ?k); (case p => walk_at "lk"); (case l => first | exact Nat.le_of_ble_eq_true rfl | omega))
  | with_reducible refine w_gsub ?_
  | with_reducible refine w_gname ?_
  | ((with_reducible refine' w_set4_0 ?p ?k); (case p => walk_at "lk"))
  | ((with_reducible refine' w_set4_1 ?p ?k); (case p => walk_at "lk"))
  | ((with_reducible refine' w_set4_2 ?p ?k); (case p => walk_at "lk"))
  | ((with_reducible refine' w_set4_3 ?p ?k); (case p => walk_at "lk"))
  | ((with_reducible refine' w_setL ?p ?i ?k); (case p => walk_at "lk"); (case i => exact rfl))
  | with_reducible refine w_tup ?_
  | with_reducible refine w_lst ?_
  | with_reducible refine w_sl ?_
  | with_reducible refine w_noPart ?_
  | with_reducible refine w_part ?_
  | with_reducible refine w_exI ?_
  | with_reducible refine w_exS ?_
  | with_reducible refine w_join ?_
  | with_reducible refine w_split ?_
  | with_reducible refine w_isS ?_
  | with_reducible refine w_joined ?_
  | with_reducible refine w_jsNil ?_
  | with_reducible refine w_jsCons ?_
  | with_reducible refine w_fmt ?_
  | with_reducible refine w_fmtI ?_
  | with_reducible refine w_repl ?_
  | with_reducible refine w_andV ?_
  | with_reducible refine w_orV ?_
  | with_reducible refine w_notV ?_
  | with_reducible refine w_retN ?_
  | with_reducible refine w_brk ?_
  | with_reducible refine w_cont ?_
  | ((with_reducible refine' w_yes (p := ((List.length (_ : List V) : Nat) : Int) = _) ?h ?k); (case h => exact of_decide_eq_true rfl))
  | ((with_reducible refine' w_yes (p := ((List.length (_ : List V) : Nat) : Int) < _) ?h ?k); (case h => exact of_decide_eq_true rfl))
  | ((with_reducible refine' w_yes (p := _ < ((List.length (_ : List V) : Nat) : Int)) ?h ?k); (case h => exact of_decide_eq_true rfl))
  | ((with_reducible refine' w_yes (p := _ = ((List.length (_ : List V) : Nat) : Int)) ?h ?k); (case h => exact of_decide_eq_true rfl))
  | ((with_reducible refine' w_yes (p := ((Str.length (sgn _) : Nat) : Int) = _) ?h ?k); (case h => exact of_decide_eq_true rfl))
  | ((with_reducible refine' w_no (p := ((List.length (_ : List V) : Nat) : Int) = _) ?h ?k); (case h => exact of_decide_eq_false rfl))
  | ((with_reducible refine' w_no (p := ((List.length (_ : List V) : Nat) : Int) < _) ?h ?k); (case h => exact of_decide_eq_false rfl))
  | ((with_reducible refine' w_no (p := _ < ((List.length (_ : List V) : Nat) : Int)) ?h ?k); (case h => exact of_decide_eq_false rfl))
  | ((with_reducible refine' w_no (p := _ = ((List.length (_ : List V) : Nat) : Int)) ?h ?k); (case h => exact of_decide_eq_false rfl))
  | ((with_reducible refine' w_no (p := ((Str.length (sgn _) : Nat) : Int) = _) ?h ?k); (case h => exact of_decide_eq_false rfl))
  | ((with_reducible refine' w_nyes (p := ((List.length (_ : List V) : Nat) : Int) = _) ?h ?k); (case h => exact of_decide_eq_true rfl))
  | ((with_reducible refine' w_nyes (p := ((List.length (_ : List V) : Nat) : Int) < _) ?h ?k); (case h => exact of_decide_eq_true rfl))
  | ((with_reducible refine' w_nyes (p := _ < ((List.length (_ : List V) : Nat) : Int)) ?h ?k); (case h => exact of_decide_eq_true rfl))
  | ((with_reducible refine' w_nyes (p := _ = ((List.length (_ : List V) : Nat) : Int)) ?h ?k); (case h => exact of_decide_eq_true rfl))
  | ((with_reducible refine' w_nyes (p := ((Str.length (sgn _) : Nat) : Int) = _) ?h ?k); (case h => exact of_decide_eq_true rfl))
  | ((with_reducible refine' w_nno (p := ((List.length (_ : List V) : Nat) : Int) = _) ?h ?k); (case h => exact of_decide_eq_false rfl))
  | ((with_reducible refine' w_nno (p := ((List.length (_ : List V) : Nat) : Int) < _) ?h ?k); (case h => exact of_decide_eq_false rfl))
  | ((with_reducible refine' w_nno (p := _ < ((List.length (_ : List V) : Nat) : Int)) ?h ?k); (case h => exact of_decide_eq_false rfl))
  | ((with_reducible refine' w_nno (p := _ = ((List.length (_ : List V) : Nat) : Int)) ?h ?k); (case h => exact of_decide_eq_false rfl))
  | ((with_reducible refine' w_nno (p := ((Str.length (sgn _) : Nat) : Int) = _) ?h ?k); (case h => exact of_decide_eq_false rfl))
  | ((with_reducible refine' w_no (p := (V.ref _ = V.non)) ?h ?k); (case h => intro z9; cases z9))
  | ((with_reducible refine' w_yes (p := (V.non = V.non)) ?h ?k); (case h => rfl))
  | with_reducible refine w_fldC ?_
  | with_reducible refine w_make ?_
  | ((with_reducible refine' w_fldR ?h ?l ?k); (case h => walk_at "lk"); (case l => walk_at "fl"))
  | with_reducible refine w_sfldC ?_
  | ((with_reducible refine' w_sfldR ?h ?l ?k); (case h => walk_at "lk"); (case l => walk_at "pl"))
  | ((with_reducible refine' w_sfldR2 ?h ?l ?k); (case h => walk_at "lk"); (case l => first | exact p_len | exact Nat.le_of_ble_eq_true rfl); (first | rw [p_far.1] | rw [p_text.1] | rw [p_own.1] | rw [p_wait.1] | rw [p_heard.1] | rw [p_made.1] | rw [p_taken.1]))
  | with_reducible refine w_sfldaugC ?_
  | with_reducible refine w_addR ?_
  | with_reducible refine w_subR ?_
  | ((with_reducible refine' w_sfldQ ?h ?l ?k); (case h => walk_at "lk"); (case l => walk_at "pl"))
  | with_reducible refine w_meth ?_
  | ((with_reducible refine' w_methR ?h ?l ?k); (case h => walk_at "lk"); (case l => walk_at "fl"))
  | with_reducible refine w_kget ?_
  | ((with_reducible refine' w_gtup ?h ?l ?k); (case h => walk_at "sq"); (case l => exact rfl))
  | with_reducible refine w_gcons ?_
  | with_reducible refine w_gnil ?_
  | with_reducible refine w_isiII ?_
  | with_reducible refine w_isiIB ?_
  | with_reducible refine w_isiSS ?_
  | ((with_reducible refine' w_isiTT ?h ?k); (case h => walk_at "sq"))
  | ((with_reducible refine' w_isiLL ?h ?k); (case h => walk_at "sq"))
  | with_reducible refine w_ipI ?_
  | with_reducible refine w_par ?_
  | with_reducible refine w_par3 ?_
  | with_reducible refine w_parR ?_
  | with_reducible refine w_parR3 ?_
  | with_reducible refine w_aug ?_
  | ((with_reducible refine' w_var2 ?e ?k); (case e => exact rfl))
  | ((with_reducible refine' w_insL ?p ?l ?k); (case p => walk_at "lk"); (case l => first | omega | decide))
  | rw [kg_put]
  | rw [kg_cut]
  | rw [kg_non])
local macro_rules | `(tactic| walk_at "wp") => `(tactic| ((try dsimp only); (repeat walk_at "wp1"); (walk_at "beta")))
theorem take_snoc {α : Type} {l : List α} {i : Nat} {x : α} (h : l[i]? = some x) : l.take (i + 1) = l.take i ++ [x] := by
  rw [List.take_succ, h]; rfl
theorem come_snoc {z : Bool} {d x : Deed} {r : List Deed} {i : Nat} (h : r[i]? = some x) :
    come z d (r.take (i + 1)) = (mv (come z d (r.take i)).1 x (!z), (come z d (r.take i)).2 ++ [mv x (come z d (r.take i)).1 z]) := by
  rw [take_snoc h, come_app]; rfl
theorem dps_at {K : PySem.W.Frag} {H : Hp} {α : Type} {f : α → PyData} {vs : List V} {l : List α} {i : Nat} {v : V} (h : DpAll K H vs (l.map f)) (e : vs[i]? = some v) : ∃ x, l[i]? = some x ∧ Dp K H v (f x) := by
  obtain ⟨d, h1, h2⟩ := dps_get h e
  rw [List.getElem?_map] at h1
  cases z : l[i]? with
  | none => rw [z] at h1; simp at h1
  | some x => rw [z] at h1; simp at h1; exact ⟨x, rfl, by rw [h1]; exact h2⟩
section
variable {K : PySem.W.Frag} {vs : List V} {H : Hp} {Q : VK} {E : XK}
theorem pr_moved_behind (h : sp_moved_behind K vs H Q E) : t_moved_behind K { nx := fun _ H' => Q .non H', rt := Q } (start N_moved_behind vs) H := by
  obtain ⟨v, w, z, d, r, rfl, hv, hw, hl, k⟩ := h
  obtain ⟨ra, ws0, rfl, hs, hd⟩ := dp_lst hw
  have hlen := dps_len hd
  rw [List.length_map] at hlen
  unfold t_moved_behind
  walk_at "wp"
  intro fa hfa
  have s0 : Same H (upd H fa (.lst [])) := same_new hfa
  have hs0 : SqL K (upd H fa (.lst [])) ra ws0 := s0.seq hs
  walk_at "wp"
  refine frb_L (xs := ws0) (fun i σ H' => Same H H' ∧ ∃ dv ov ms, σ = [some dv, some (.ref ra), some (.bl (!z)), some (.ref fa), ov] ∧ Dp K H' dv (come z d (r.take i)).1.d ∧ H' fa = some (.lst ms) ∧ DpAll K H' ms ((come z d (r.take i)).2.map Deed.d))
    ⟨s0, v, none, [], rfl, by rw [List.take_zero]; exact dp_same s0 hv, upd_same, by rw [List.take_zero]; exact .nil⟩ (fun i σ H' _ p => p.1.seq hs) (fun i x σ H' hi p => ?_) (fun σ H' p => ?_)
  · obtain ⟨s, dv, ov, ms, rfl, h1, h2, h3⟩ := p
    obtain ⟨o, ho, hox⟩ := dps_at hd hi
    have hi' := (List.getElem?_eq_some_iff.mp hi).1
    have hml : ms.length ≤ 100000 := by
      have := dps_len h3
      rw [List.length_map, come_len, List.length_take] at this; omega
    walk_at "wp"
    refine ⟨x, dv, z, o, _, by rw [Bool.not_not], dp_same s hox, h1, fun v' H2 s2 hd2 => ?_⟩
    have h2' := s2 _ _ h2
    walk_at "wp"
    have t3 : TK H2 (upd H2 fa (.lst (ms ++ [v']))) := TK.updL h2'
    have s3 : Same H (upd H2 fa (.lst (ms ++ [v']))) := fun b o hb => by
      rw [upd_ne (ne_of_none hb hfa)]; exact s2 _ _ (s _ _ hb)
    refine ⟨dv, x, !z, _, o, rfl, dp_tk t3 (dp_same s2 h1) (noL_deed _), dp_same s3 hox, fun v2 H4 s4 hd4 => ?_⟩
    have tk := t3.trans (TK.of s4)
    refine ⟨s3.trans s4, v2, _, ms ++ [v'], rfl, by rw [come_snoc ho]; exact hd4, s4 _ _ upd_same, ?_⟩
    rw [come_snoc ho, List.map_append]
    exact dps_app (dps_tk (TK.of s2 |>.trans tk) h3 (noLs_map noL_deed _)) (.cons (dp_tk tk hd2 (noL_deed _)) .nil)
  · obtain ⟨s, dv, ov, ms, rfl, h1, h2, h3⟩ := p
    rw [hlen, List.take_length] at h1 h3
    walk_at "wp"
    intro p hp
    exact k p fa dv ms _ (s.trans (same_new hp)) (SqT.of upd_same) (dp_same (same_new hp) h1) hfa (same_new hp _ _ h2) (dps_same (same_new hp) h3)
theorem rows_snoc : ∀ {a b : List Deed} {i : Nat} {x : Deed}, a[i]? = some x → rowsMv (a.take (i + 1)) b = ((rowsMv (a.take i) b).1 ++ [(come false x (rowsMv (a.take i) b).2).1], (come false x (rowsMv (a.take i) b).2).2)
  | [], _, _, _, h => by simp at h
  | y :: a, b, 0, x, h => by
    have e : y = x := by simpa using h
    subst e; rfl
  | y :: a, b, i + 1, x, h => by
    have ih := rows_snoc (a := a) (b := (come false y b).2) (i := i) (x := x) (by simpa using h)
    rw [List.take_succ_cons, List.take_succ_cons, rowsMv, ih, rowsMv]
    rfl
theorem rows_len : ∀ (a b : List Deed), (rowsMv a b).1.length = a.length ∧ (rowsMv a b).2.length = b.length
  | [], b => ⟨rfl, rfl⟩
  | d :: a, b => by
    obtain ⟨h1, h2⟩ := rows_len a (come false d b).2
    rw [rowsMv]
    exact ⟨by rw [List.length_cons, List.length_cons, h1], by rw [h2, come_len]⟩
theorem pr_rows_moved (h : sp_rows_moved K vs H Q E) : t_rows_moved K { nx := fun _ H' => Q .non H', rt := Q } (start N_rows_moved vs) H := by
  obtain ⟨v, w, a, b, rfl, hv, hw, ha, hb, k⟩ := h
  obtain ⟨ra, ws0, rfl, hs, hd⟩ := dp_lst hv
  obtain ⟨rb, us0, rfl, hs2, hd2⟩ := dp_lst hw
  have hlen := dps_len hd
  rw [List.length_map] at hlen
  unfold t_rows_moved
  walk_at "wp"
  intro fa hfa
  have s0 : Same H (upd H fa (.lst [])) := same_new hfa
  walk_at "wp"
  refine .inl ⟨rb, us0, rfl, .inl (s0.seq hs2), fun la hla => ?_⟩
  have s1 : Same H (upd (upd H fa (.lst [])) la (.lst us0)) := s0.trans (same_new hla)
  have nla : la ≠ fa := fun e => by rw [e, upd_same] at hla; cases hla
  have hs1 := s1.seq hs
  walk_at "wp"
  refine frb_L (xs := ws0) (fun i σ H' => Same H H' ∧ ∃ ms ls la ov tv, σ = [some (.ref ra), some (.ref rb), some (.ref fa), some (.ref la), ov, tv] ∧ H' fa = some (.lst ms) ∧ DpAll K H' ms ((rowsMv (a.take i) b).1.map Deed.d) ∧ H' la = some (.lst ls) ∧ DpAll K H' ls ((rowsMv (a.take i) b).2.map Deed.d) ∧ la ≠ fa ∧ H la = none)
    ⟨s1, [], us0, la, none, none, rfl, by rw [upd_ne nla.symm, upd_same], by rw [List.take_zero]; exact .nil, upd_same, by rw [List.take_zero]; exact dps_same s1 hd2, nla, ?_⟩ (fun i σ H' _ p => p.1.seq hs) (fun i x σ H' hi p => ?_) (fun σ H' p => ?_)
  · cases c : H la with
    | none => rfl
    | some o => have := s0 _ _ c; rw [hla] at this; cases this
  · obtain ⟨s, ms, ls, la, ov, tv, rfl, h1, h2, h3, h4, h5, h6⟩ := p
    obtain ⟨o, ho, hox⟩ := dps_at hd hi
    have hi' := (List.getElem?_eq_some_iff.mp hi).1
    have hll : ls.length ≤ 100000 := by
      have := dps_len h4
      rw [List.length_map, (rows_len _ _).2] at this; omega
    have hml : ms.length ≤ 100000 := by
      have := dps_len h2
      rw [List.length_map, (rows_len _ _).1, List.length_take] at this; omega
    walk_at "wp"
    refine ⟨x, .ref la, false, o, _, rfl, dp_same s hox, .lst (SqL.of h3) h4, by rw [(rows_len _ _).2]; exact hb, fun p q v' ws H2 s2 ht hd1 hq hq2 hd3 => ?_⟩
    walk_at "wp"
    have h1' := s2 _ _ h1
    walk_at "wp"
    have t3 : TK H2 (upd H2 fa (.lst (ms ++ [v']))) := TK.updL h1'
    have s3 : Same H (upd H2 fa (.lst (ms ++ [v']))) := fun b o hb => by
      rw [upd_ne (ne_of_none hb hfa)]; exact s2 _ _ (s _ _ hb)
    have nq : q ≠ fa := fun e => by rw [e, h1] at hq; cases hq
    refine ⟨s3, ms ++ [v'], ws, q, _, _, rfl, upd_same, ?_, (upd_ne nq).trans hq2, ?_, nq, ?_⟩
    · rw [rows_snoc ho, List.map_append]
      exact dps_app (dps_tk ((TK.of s2).trans t3) h2 (noLs_map noL_deed _)) (.cons (dp_tk t3 hd1 (noL_deed _)) .nil)
    · rw [rows_snoc ho]
      exact dps_tk t3 hd3 (noLs_map noL_deed _)
    · cases c : H q with
      | none => rfl
      | some o => have := s _ _ c; rw [hq] at this; cases this
  · obtain ⟨s, ms, ls, la, ov, tv, rfl, h1, h2, h3, h4, h5, h6⟩ := p
    rw [hlen, List.take_length] at h2 h4
    walk_at "wp"
    intro p hp
    exact k p fa la ms ls _ (s.trans (same_new hp)) (SqT.of upd_same) hfa (same_new hp _ _ h1) (dps_same (same_new hp) h2) h6 (same_new hp _ _ h3) (dps_same (same_new hp) h4)
theorem pr_Seat_shown (h : sp_Seat_shown K vs H Q E) : t_Seat_shown K { nx := fun _ H' => Q .non H', rt := Q } (start N_Seat_shown vs) H := by
  obtain ⟨p, w, z, s, rfl, st, k⟩ := h
  obtain ⟨dx, hi⟩ := st.ins
  unfold t_Seat_shown
  walk_at "wp"
  exact k
theorem pr_Seat___init__ (h : sp_Seat___init__ K vs H Q E) : t_Seat___init__ K { nx := fun _ H' => Q .non H', rt := Q } (start N_Seat___init__ vs) H := by
  obtain ⟨p, dx, z, l, rfl, hl, hp, k⟩ := h
  have ez : (decide (ixZ z = 0)) = z := by cases z <;> rfl
  have hl2 : (ofL l).length ≤ 1000000 := by rw [len_ofL]; omega
  unfold t_Seat___init__
  walk_at "wp"
  intro w hw
  have nw : p ≠ w := fun e => by rw [e] at hw; rw [upd_same] at hw; cases hw
  walk_at "wp"
  simp only [upd_upd] at hw ⊢
  rw [upd_ne nw.symm] at hw
  rw [ez]
  refine k w _ hw nw.symm ?_ ?_ ⟨⟨dx, ?_⟩, [], by rw [upd_ne nw.symm, upd_same], .nil⟩
  · exact (((Fr.refl p H).upd).new (by rw [upd_ne nw.symm]; exact hw)).upd
  · exact ((TK.updI hp).trans (TK.new (by rw [upd_ne nw.symm]; exact hw))).trans (TK.updI (by rw [upd_ne nw, upd_same]))
  · rw [upd_same, len_ofL]; rfl
theorem pr_Seat_make_in (h : sp_Seat_make_in K vs H Q E) : t_Seat_make_in K { nx := fun _ H' => Q .non H', rt := Q } (start N_Seat_make_in vs) H := by
  obtain ⟨p, w, z, s, v, e, rfl, st, hv, he, hc, hn, hn2, k⟩ := h
  obtain ⟨dx, hi⟩ := st.ins
  obtain ⟨ws, hw, hwd⟩ := st.wt
  have npw := st.ne
  have nwp := npw.symm
  have hwl : ws.length ≤ 100000 := by have := dps_len hwd; rw [List.length_map] at this; omega
  have go : ∀ (G : Hp) (om : Nat), G p = some (.ins (gloA K "Seat") dx (sF (.bl z) (.str (ofL (dn s.text e))) (.int (s.made : Int)) (.int (s.taken : Int)) (.int (s.heard : Int)) (.ref w) (.int (om : Int)) (.int (s.far : Int)))) → Fr2 p w H G → TK H G → G w = some (.lst ws) → om = ownAt s e → Dp K G v e.d →
      (tSeq (sFldC (gloA K "Seat") (tVar 0) (tCall (sp_mark_moved K) [] E0 (tCons (tFldC (gloA K "Seat") (tVar 0) "far_mark") (tCons (tVar 1) (tCons (tNotV (tFldC (gloA K "Seat") (tVar 0) "ahead")) tNil)))) "far_mark") (tSeq (tDrop (tBM K "list" rAppend (tFldC (gloA K "Seat") (tVar 0) "waiting") (tCons (tVar 1) tNil))) (tSeq (tAsg (tTup (tCons (tFldC (gloA K "Seat") (tVar 0) "many_made") (tCons (tFldC (gloA K "Seat") (tVar 0) "many_taken") (tCons (tVar 1) (tCons (tFldC (gloA K "Seat") (tVar 0) "own_mark") tNil))))) (gName 2)) (tSeq (sFldAugC (gloA K "Seat") (tVar 0) (tC (.int 1)) L2.rAdd "many_made") (tRet (tVar 2)))))) { nx := fun _ H' => Q .non H', rt := Q } (start N_Seat_make_in [.ref p, v]) G := by
    intro G om g1 g2 g3 g4 g5 g6
    walk_at "wp"
    refine ⟨s.far, v, !z, e, rfl, g6, fun H1 s1 => ?_⟩
    have h1 := s1 _ _ g1
    have h2 := s1 _ _ g4
    walk_at "wp"
    intro q hq
    have npq : p ≠ q := ne_of_none (Eq.trans (upd_ne npw) upd_same) hq
    have nwq : w ≠ q := ne_of_none upd_same hq
    walk_at "wp"
    have f1 : Fr2 p w H H1 := g2.trans (Fr2.of s1)
    have t1 : TK H H1 := g3.trans (TK.of s1)
    have f2 := ((f1.fst (o := .ins (gloA K "Seat") dx (sF (.bl z) (.str (ofL (dn s.text e))) (.int (s.made : Int)) (.int (s.taken : Int)) (.int (s.heard : Int)) (.ref w) (.int (om : Int)) (.int (mkMv s.far e (!z) : Int))))).snd (o := .lst (ws ++ [v])))
    have t2 := (TK.updI (o := .ins (gloA K "Seat") dx (sF (.bl z) (.str (ofL (dn s.text e))) (.int (s.made : Int)) (.int (s.taken : Int)) (.int (s.heard : Int)) (.ref w) (.int (om : Int)) (.int (mkMv s.far e (!z) : Int)))) h1)
    have t3 := t2.trans (TK.updL (o := .lst (ws ++ [v])) (xs := ws) (by rw [upd_ne nwp]; exact h2))
    have t4 := t3.trans (TK.new (o := .tup [.int (s.made : Int), .int (s.taken : Int), v, .int (om : Int)]) hq)
    have t5 := t4.trans (TK.updI (C := gloA K "Seat") (dx := dx) (o := .ins (gloA K "Seat") dx (sF (.bl z) (.str (ofL (dn s.text e))) (.int ((s.made : Int) + 1)) (.int (s.taken : Int)) (.int (s.heard : Int)) (.ref w) (.int (om : Int)) (.int (mkMv s.far e (!z) : Int)))) (a := p) (by rw [upd_ne npq, upd_ne npw, upd_same]))
    have dv := dp_tk (t5) (dp_same s1 g6) (noL_deed e)
    subst g5
    refine k _ _ ((f2.new hq).fst) (t1.trans t5) ⟨⟨dx, ?_⟩, ws ++ [v], ?_, ?_⟩ ?_
    · rw [upd_same]; rfl
    · rw [upd_ne nwp, upd_ne nwq, upd_same]
    · show DpAll K _ _ ((s.wait ++ [e]).map Deed.d)
      rw [List.map_append]
      exact dps_app (dps_tk (t1.trans t5) hwd (noLs_map noL_deed _)) (.cons dv .nil)
    · refine .tup (SqT.of ?_) (.cons (.int _) (.cons (.int _) (.cons dv (.cons (.int _) .nil))))
      rw [upd_ne npq.symm, upd_same]; rfl
  unfold t_Seat_make_in
  generalize (tSeq (sFldC (gloA K "Seat") (tVar 0) (tCall (sp_mark_moved K) [] E0 (tCons (tFldC (gloA K "Seat") (tVar 0) "far_mark") (tCons (tVar 1) (tCons (tNotV (tFldC (gloA K "Seat") (tVar 0) "ahead")) tNil)))) "far_mark") (tSeq (tDrop (tBM K "list" rAppend (tFldC (gloA K "Seat") (tVar 0) "waiting") (tCons (tVar 1) tNil))) (tSeq (tAsg (tTup (tCons (tFldC (gloA K "Seat") (tVar 0) "many_made") (tCons (tFldC (gloA K "Seat") (tVar 0) "many_taken") (tCons (tVar 1) (tCons (tFldC (gloA K "Seat") (tVar 0) "own_mark") tNil))))) (gName 2)) (tSeq (sFldAugC (gloA K "Seat") (tVar 0) (tC (.int 1)) L2.rAdd "many_made") (tRet (tVar 2)))))) = T at go ⊢
  walk_at "wp"
  refine ⟨s.text, v, e, rfl, by omega, hv, he, hc, ?_⟩
  cases e with
  | put q c =>
    obtain ⟨a, rfl, hs⟩ := dp_put hv
    walk_at "wp"
    simp only [upd_upd]
    exact go _ (q + 1) upd_same (Fr2.refl _ _ _).fst (TK.updI hi) (by rw [upd_ne nwp]; exact hw) rfl (dp_tk (TK.updI hi) hv (noL_deed _))
  | cut q =>
    obtain ⟨a, rfl, hs⟩ := dp_cut hv
    walk_at "wp"
    simp only [upd_upd]
    exact go _ q upd_same (Fr2.refl _ _ _).fst (TK.updI hi) (by rw [upd_ne nwp]; exact hw) rfl (dp_tk (TK.updI hi) hv (noL_deed _))
  | non =>
    obtain ⟨a, rfl, hs⟩ := dp_non hv
    walk_at "wp"
    exact go _ s.own upd_same (Fr2.refl _ _ _).fst (TK.updI hi) (by rw [upd_ne nwp]; exact hw) rfl (dp_tk (TK.updI hi) hv (noL_deed _))
theorem pr_Seat_past (h : sp_Seat_past K vs H Q E) : t_Seat_past K { nx := fun _ H' => Q .non H', rt := Q } (start N_Seat_past vs) H := by
  obtain ⟨p, w, z, s, v, u, d, r, rfl, st, hv, hu, hl, k⟩ := h
  obtain ⟨dx, hi⟩ := st.ins
  unfold t_Seat_past
  cases z with
  | true =>
    walk_at "wp"
    intro l hl'
    refine ⟨u, .ref l, r, [d], rfl, dp_same (same_new hl') hu, .lst (SqL.of upd_same) (.cons (dp_same (same_new hl') hv) .nil), by omega, Nat.le_of_ble_eq_true rfl, fun a q q2 ws us H' s1 ht hq hq1 hd1 hq2 hq3 hd3 => ?_⟩
    rw [rowsMv_many] at hd1 hd3
    obtain ⟨v2, us', rfl, hd4, hd5⟩ := dps_cons hd3
    cases dps_nil hd5
    have hn : H q = none := by
      cases c : H q with
      | none => rfl
      | some o => have := same_new (o := .lst [v]) hl' _ _ c; rw [hq] at this; cases this
    walk_at "wp"
    intro p' hp'
    have s2 := same_new (o := .tup [v2, .ref q]) hp'
    exact k p' q v2 ws _ (((same_new hl').trans s1).trans s2) (SqT.of upd_same) (dp_same s2 hd4) hn (s2 _ _ hq1) (dps_same s2 hd1)
  | false =>
    walk_at "wp"
    intro l hl'
    walk_at "wp"
    refine ⟨.ref l, u, [d], r, rfl, .lst (SqL.of upd_same) (.cons (dp_same (same_new hl') hv) .nil), dp_same (same_new hl') hu, Nat.le_of_ble_eq_true rfl, by omega, fun a q q2 ws us H' s1 ht hq hq1 hd1 hq2 hq3 hd3 => ?_⟩
    rw [rowsMv_one] at hd1 hd3
    obtain ⟨v2, us', rfl, hd4, hd5⟩ := dps_cons hd1
    cases dps_nil hd5
    have hn : H q2 = none := by
      cases c : H q2 with
      | none => rfl
      | some o => have := same_new (o := .lst [v]) hl' _ _ c; rw [hq2] at this; cases this
    walk_at "wp"
    intro p' hp'
    have s2 := same_new (o := .tup [v2, .ref q2]) hp'
    exact k p' q2 v2 us _ (((same_new hl').trans s1).trans s2) (SqT.of upd_same) (dp_same s2 hd4) hn (s2 _ _ hq3) (dps_same s2 hd3)
theorem cutV_from (xs : List V) (n : Nat) : cutV xs (some (n : Int)) none = xs.drop n := by
  unfold cutV
  rw [HT.sIx_nat, HT.sIx_none]
  by_cases h : n ≤ xs.length
  · rw [Nat.min_eq_left h, List.take_of_length_le (by rw [List.length_drop]; omega)]
  · rw [Nat.min_eq_right (by omega), List.drop_of_length_le (by omega), List.drop_of_length_le (by omega)]
    simp
theorem dps_drop : ∀ (n : Nat) {vs : List V} {ds : List PyData}, DpAll K H vs ds → DpAll K H (vs.drop n) (ds.drop n)
  | 0, _, _, h => h
  | n + 1, [], ds, h => by cases h; exact .nil
  | n + 1, v :: vs, ds, h => by cases h with | cons a b => exact dps_drop n b
theorem dps_take : ∀ (n : Nat) {vs : List V} {ds : List PyData}, DpAll K H vs ds → DpAll K H (vs.take n) (ds.take n)
  | 0, _, _, _ => .nil
  | n + 1, [], ds, h => by cases h; exact .nil
  | n + 1, v :: vs, ds, h => by cases h with | cons a b => exact .cons a (dps_take n b)
theorem dp_letter {v : V} {l : Letter} (h : Dp K H v l.d) : ∃ a x, v = .ref a ∧ SqT K H a [.int (l.made : Int), .int (l.taken : Int), x, .int (l.mark : Int)] ∧ Dp K H x l.deed.d := by
  obtain ⟨a, xs, rfl, hs, hd⟩ := dp_tup h
  obtain ⟨v1, r1, rfl, h1, hd⟩ := dps_cons hd
  obtain ⟨v2, r2, rfl, h2, hd⟩ := dps_cons hd
  obtain ⟨v3, r3, rfl, h3, hd⟩ := dps_cons hd
  obtain ⟨v4, r4, rfl, h4, hd⟩ := dps_cons hd
  cases dps_nil hd
  cases dp_int h1
  cases dp_int h2
  cases dp_int h4
  exact ⟨a, v3, rfl, hs, h3⟩
theorem pr_Seat_take_in (h : sp_Seat_take_in K vs H Q E) : t_Seat_take_in K { nx := fun _ H' => Q .non H', rt := Q } (start N_Seat_take_in vs) H := by
  obtain ⟨p, w, z, s, v, l, rfl, st, hv, hl, hwo, h1, h2, h3, hc, hn, hn2, k⟩ := h
  obtain ⟨dx, hi⟩ := st.ins
  obtain ⟨ws, hw, hwd⟩ := st.wt
  obtain ⟨a, x, rfl, hs, hx⟩ := dp_letter hv
  have npw := st.ne
  have nwp := npw.symm
  have hws : SqL K H w ws := SqL.of hw
  unfold t_Seat_take_in
  walk_at "wp"
  refine ⟨.ref a, l, rfl, hv, hl, ?_⟩
  walk_at "wp"
  refine w_nyes (by rw [h1]) ?_
  walk_at "wp"
  refine w_yes (by omega) ?_
  walk_at "wp"
  refine w_nyes (by omega) ?_
  walk_at "wp"
  refine .inl ⟨w, ws, rfl, hws, fun u hu => ?_⟩
  have su := same_new (o := .lst (cutV ws (some ((l.taken : Int) - (s.heard : Int))) none)) hu
  rw [show ((l.taken : Int) - (s.heard : Int)) = ((l.taken - s.heard : Nat) : Int) by omega, cutV_from] at su ⊢
  have stu := st.keep (fun o e => su _ _ e) (fun o e => su _ _ e) (TK.of su)
  refine ⟨p, w, z, s, x, .ref u, l.deed, s.wait.drop (l.taken - s.heard), rfl, stu, dp_same su hx, .lst (SqL.of upd_same) ?_, by rw [List.length_drop]; omega, fun p' q v' us H1 s1 ht hd1 hq hq1 hd2 => ?_⟩
  · rw [List.map_drop]; exact dps_drop _ (dps_same su hwd)
  have ed : come z l.deed (s.wait.drop (l.taken - s.heard)) = tkW z s l := rfl
  rw [ed] at hd1 hd2
  have sH := su.trans s1
  have o1 := tkW_okc (z := z) hl hwo
  have i1 := sH _ _ hi
  have hqn : H q = none := by
    cases c : H q with
    | none => rfl
    | some o => have := su _ _ c; rw [hq] at this; cases this
  have npq : p ≠ q := ne_of_none hi hqn
  walk_at "wp"
  refine ⟨s.text, v', _, rfl, by omega, hd1, o1.1, ?_⟩
  rw [hc]
  walk_at "wp"
  refine ⟨s.text, v', _, rfl, by omega, hd1, o1.1, hc, ?_⟩
  walk_at "wp"
  have t2 := TK.updI (o := .ins (gloA K "Seat") dx (sF (.bl z) (.str (ofL (dn s.text (tkW z s l).1))) (.int (s.made : Int)) (.int (s.taken : Int)) (.int (s.heard : Int)) (.ref w) (.int (s.own : Int)) (.int (s.far : Int)))) i1
  refine ⟨s.own, v', z, _, rfl, dp_tk t2 hd1 (noL_deed _), fun H2 s2 => ?_⟩
  have i2 := s2 _ _ upd_same
  have hs2 : SqT K H2 a [.int (l.made : Int), .int (l.taken : Int), x, .int (l.mark : Int)] := same_t s2 (t2.t (same_t sH hs))
  walk_at "wp"
  simp only [upd_upd]
  have f2 : Fr p H (upd H2 p (.ins (gloA K "Seat") dx (sF (.bl z) (.str (ofL (dn s.text (tkW z s l).1))) (.int (s.made : Int)) (.int (s.taken : Int)) (.int (s.heard : Int)) (.ref w) (.int (mkMv s.own (tkW z s l).1 z : Int)) (.int (l.mark : Int))))) :=
    (((Fr.of sH).upd (o := .ins (gloA K "Seat") dx (sF (.bl z) (.str (ofL (dn s.text (tkW z s l).1))) (.int (s.made : Int)) (.int (s.taken : Int)) (.int (s.heard : Int)) (.ref w) (.int (s.own : Int)) (.int (s.far : Int))))).trans (Fr.of s2)).upd
  have t3 := ((TK.of s1).trans t2).trans ((TK.of s2).trans (TK.updI (o := .ins (gloA K "Seat") dx (sF (.bl z) (.str (ofL (dn s.text (tkW z s l).1))) (.int (s.made : Int)) (.int (s.taken : Int)) (.int (s.heard : Int)) (.ref w) (.int (mkMv s.own (tkW z s l).1 z : Int)) (.int (l.mark : Int)))) i2))
  generalize hG : upd H2 p (.ins (gloA K "Seat") dx (sF (.bl z) (.str (ofL (dn s.text (tkW z s l).1))) (.int (s.made : Int)) (.int (s.taken : Int)) (.int (s.heard : Int)) (.ref w) (.int (mkMv s.own (tkW z s l).1 z : Int)) (.int (l.mark : Int)))) = G at *
  have gp : G p = some (.ins (gloA K "Seat") dx (sF (.bl z) (.str (ofL (dn s.text (tkW z s l).1))) (.int (s.made : Int)) (.int (s.taken : Int)) (.int (s.heard : Int)) (.ref w) (.int (mkMv s.own (tkW z s l).1 z : Int)) (.int (l.mark : Int)))) := by rw [← hG, upd_same]
  have tG : TK H G := (TK.of su).trans t3
  have gq : G q = some (.lst us) := by
    rw [← hG, upd_ne npq.symm]
    refine s2 _ _ ?_
    rw [upd_ne npq.symm]; exact hq1
  have gv : Dp K G v' (tkW z s l).1.d := by
    refine dp_tk ?_ hd1 (noL_deed _)
    exact (t2.trans ((TK.of s2).trans (by rw [← hG]; exact TK.updI i2)))
  have gd : DpAll K G us ((tkW z s l).2.map Deed.d) := by
    refine dps_tk ?_ hd2 (noLs_map noL_deed _)
    exact (t2.trans ((TK.of s2).trans (by rw [← hG]; exact TK.updI i2)))
  have gs : SqT K G a [.int (l.made : Int), .int (l.taken : Int), x, .int (l.mark : Int)] := tG.t hs
  clear hG t2 t3 i2 hs2
  have gsq : SqL K G q us := SqL.of gq
  walk_at "wp"
  refine frb_L (xs := us) (fun i σ H' => Fr p G H' ∧ TK G H' ∧ ∃ ov, σ = [some (.ref p), some (.ref a), some v', some (.ref q), ov] ∧ H' p = some (.ins (gloA K "Seat") dx (sF (.bl z) (.str (ofL (dn s.text (tkW z s l).1))) (.int (s.made : Int)) (.int (s.taken : Int)) (.int (s.heard : Int)) (.ref w) (.int (mkMv s.own (tkW z s l).1 z : Int)) (.int (((tkW z s l).2.take i).foldl (fun m o => mkMv m o (!z)) l.mark : Nat)))))
    ⟨Fr.refl _ _, TK.refl _, none, rfl, gp⟩ (fun i σ H' _ pp => pp.2.1.sl gsq fun ys e => pp.1 _ _ npq.symm e) (fun i y σ H' hi' pp => ?_) (fun σ H' pp => ?_)
  · obtain ⟨f3, t3, ov, rfl, e3⟩ := pp
    obtain ⟨o, ho, hoy⟩ := dps_at gd hi'
    walk_at "wp"
    refine ⟨_, y, !z, o, rfl, dp_tk t3 hoy (noL_deed _), fun H3 s3 => ?_⟩
    have e4 := s3 _ _ e3
    walk_at "wp"
    refine ⟨(f3.trans (Fr.of s3)).upd, t3.trans ((TK.of s3).trans (TK.updI e4)), some y, rfl, ?_⟩
    rw [upd_same, take_snoc ho, List.foldl_append]; rfl
  · obtain ⟨f3, t3, ov, rfl, e3⟩ := pp
    have hlen := dps_len gd
    rw [List.length_map] at hlen
    rw [hlen, List.take_length] at e3
    have gs3 := t3.t gs
    walk_at "wp"
    simp only [upd_upd]
    have t4 := t3.trans (TK.updI (o := .ins (gloA K "Seat") dx (sF (.bl z) (.str (ofL (dn s.text (tkW z s l).1))) (.int (s.made : Int)) (.int ((s.taken : Int) + 1)) (.int (l.taken : Int)) (.ref q) (.int (mkMv s.own (tkW z s l).1 z : Int)) (.int ((tkW z s l).2.foldl (fun m o => mkMv m o (!z)) l.mark : Nat)))) e3)
    refine k v' q _ ?_ (tG.trans t4) hqn ⟨⟨dx, ?_⟩, us, ?_, dps_tk t4 gd (noLs_map noL_deed _)⟩ (dp_tk t4 gv (noL_deed _))
    · exact fun b o n _ e => ((f2.trans f3).upd) b o n e
    · rw [upd_same]; rfl
    · rw [upd_ne npq.symm]; exact f3 _ _ npq.symm gq
end
end FL

namespace FL
open PySem PySem.Spec PyProof.Rows L2 CwR TL
local macro_rules | `(tactic| walk_at "tls") => `(tactic| (simp only [TL.tl_append, TL.tl_num, tl_ofL, tl_sgn, tl_empty, List.nil_append, List.append_nil, List.cons_append, List.append_assoc]))
local macro_rules | `(tactic| walk_at "szt") => `(tactic| (simp only [len_ofL, TL.len_tl, TL.tl_append, TL.tl_num, tl_ofL, tl_sgn, tl_empty, List.length_append, List.length_cons, List.length_nil]; omega))
local macro_rules | `(tactic| walk_at "beta") => `(tactic| (try dsimp only [List.set_cons_zero, List.set_cons_succ]))
local macro_rules | `(tactic| walk_at "sq") => `(tactic| first | assumption | exact SqL.of upd_same | exact SqT.of upd_same | exact SqL.of (by assumption) | exact SqT.of (by assumption) | ((with_reducible refine' sq_updI ?h ?s); (case h => walk_at "lk"); (case s => walk_at "sq")) | ((with_reducible refine' sq_updL ?h ?s); (case h => walk_at "lk"); (case s => walk_at "sq")) | ((with_reducible refine' sq_new ?h ?s); (case h => assumption); (case s => walk_at "sq")) | exact SqL.of (by walk_at "lk"))
local macro_rules | `(tactic| walk_at "lk") => `(tactic| first | assumption | exact upd_same | (refine Eq.trans (upd_ne (by assumption)) ?_; walk_at "lk"))
local macro_rules | `(tactic| walk_at "fl") => `(tactic| first | with_reducible exact l_text | with_reducible exact l_ahead | with_reducible exact l_made | with_reducible exact l_taken | with_reducible exact l_heard | with_reducible exact l_wait | with_reducible exact l_own | with_reducible exact l_far | exact l_no (by decide +kernel) | exact two_l1 | exact two_l2 (by decide +kernel) | exact two_no (by decide +kernel) (by decide +kernel))
local macro_rules | `(tactic| walk_at "pl") => `(tactic| first | with_reducible exact p_text | with_reducible exact p_made | with_reducible exact p_taken | with_reducible exact p_heard | with_reducible exact p_wait | with_reducible exact p_own | with_reducible exact p_far | with_reducible exact i_1 | with_reducible exact i_2 | with_reducible exact i_3 | with_reducible exact i_4 | with_reducible exact i_5 | with_reducible exact i_6 | with_reducible exact i_7 | with_reducible exact i_8 | exact ⟨put_past (by decide +kernel), Nat.le_of_ble_eq_true rfl⟩ | exact ⟨rfl, Nat.le_of_ble_eq_true rfl⟩)
local macro_rules | `(tactic| walk_at "wp1") => `(tactic| first
  | with_reducible refine w_seq ?_
  | with_reducible refine w_set ?_
  | ((with_reducible refine' w_var ?e ?k); (case e => exact rfl))
  | with_reducible refine w_c ?_
  | with_reducible refine w_op ?_
  | with_reducible refine w_ret ?_
  | with_reducible refine w_if ?_
  | with_reducible refine w_test ?_
  | with_reducible refine w_bl ?_
  | with_reducible refine w_cons ?_
  | with_reducible refine w_nil ?_
  | with_reducible refine w_call ?_
  | with_reducible refine w_cb ?_
  | with_reducible refine w_next ?_
  | with_reducible refine w_drop ?_
  | with_reducible refine w_asg ?_
  | with_reducible refine w_and ?_
  | with_reducible refine w_or ?_
  | with_reducible refine w_not ?_
  | with_reducible refine w_ifE ?_
  | with_reducible refine w_tB ?_
  | with_reducible refine iteT ?_
  | with_reducible refine iteF ?_
  | with_reducible refine w_addI ?_
  | with_reducible refine w_subI ?_
  | with_reducible refine w_ltI ?_
  | with_reducible refine w_leI ?_
  | with_reducible refine w_gtI ?_
  | with_reducible refine w_geI ?_
  | with_reducible refine w_eqI ?_
  | with_reducible refine w_neI ?_
  | with_reducible refine w_eqS ?_
  | with_reducible refine w_neS ?_
  | with_reducible refine w_is ?_
  | with_reducible refine w_isNot ?_
  | with_reducible refine w_intI ?_
  | with_reducible refine w_intB ?_
  | with_reducible refine w_inC ?_
  | with_reducible refine w_niC ?_
  | ((with_reducible refine' w_ixL ?k ?h ?x); (case h => walk_at "sq"); (case x => rfl))
  | ((with_reducible refine' w_ixT ?k ?h ?x); (case h => walk_at "sq"); (case x => rfl))
  | ((with_reducible refine w_modI ?k ?c); (case c => first | omega | with_reducible assumption | decide))
  | ((with_reducible refine w_divI ?k ?c); (case c => exact ⟨by omega, by omega⟩))
  | ((with_reducible refine w_mulI ?k ?c); (case c => first | exact .inl ⟨by omega, by omega⟩ | exact .inr ⟨by omega, by omega⟩))
  | ((with_reducible refine w_powI ?k ?c); (case c => exact ⟨by decide, by decide, by decide⟩))
  | ((with_reducible refine' w_lenL ?k ?h); (case h => walk_at "sq"))
  | ((with_reducible refine' w_lenT ?k ?h); (case h => walk_at "sq"))
  | ((with_reducible refine w_len ?h ?k); (case h => exact Nat.le_of_ble_eq_true rfl))
  | ((with_reducible refine w_decTS ?h ?k); (case h => exact rfl))
  | ((with_reducible refine w_decFS ?h ?k); (case h => decide +kernel))
  | ((with_reducible refine w_ndecTS ?h ?k); (case h => exact rfl))
  | ((with_reducible refine w_ndecFS ?h ?k); (case h => decide +kernel))
  | ((with_reducible refine w_sz ?h ?k); (case h => walk_at "szt"))
  | ((with_reducible refine w_addS' ?k ?h); (case h => walk_at "szt"))
  | ((with_reducible refine w_strI' ?k ?h); (case h => omega))
  | ((with_reducible refine w_fmtN (A := True) ?h ?k); (case h => omega))
  | with_reducible refine w_chain ?_
  | with_reducible refine w_for ?_
  | with_reducible refine w_lc ?_
  | ((with_reducible refine w_rng ?h ?k); (case h => exact ⟨by omega, by omega⟩))
  | with_reducible refine w_iStr ?_
  | with_reducible refine w_iList ?_
  | with_reducible refine w_iRng1 ?_
  | with_reducible refine w_exR ?_
  | ((with_reducible refine' w_exSqL ?h ?k); (case h => walk_at "sq"))
  | ((with_reducible refine w_lenS ?k ?h); (case h => refine Nat.le_trans ?_ (by decide : 1000000 ≤ sizeLine); walk_at "szt"))
  | ((with_reducible refine w_slS ?k ?h); (case h => refine Nat.le_trans ?_ (by decide : 1000000 ≤ sizeLine); walk_at "szt"))
  | with_reducible refine w_nT ?_
  | with_reducible refine w_nF ?_
  | with_reducible refine w_un ?_
  | with_reducible refine w_negI ?_
  | with_reducible refine w_bm ?_
  | with_reducible refine w_bm0 ?_
  | ((with_reducible refine' w_tyL ?h ?k); (case h => walk_at "sq"))
  | ((with_reducible refine' w_append ?p ?l ?k); (case p => walk_at "lk"); (case l => first | exact Nat.le_of_ble_eq_true rfl | omega))
  | with_reducible refine w_gsub ?_
  | with_reducible refine w_gname ?_
  | ((with_reducible refine' w_set4_0 ?p ?k); (case p => walk_at "lk"))
  | ((with_reducible refine' w_set4_1 ?p ?k); (case p => walk_at "lk"))
  | ((with_reducible refine' w_set4_2 ?p ?k); (case p => walk_at "lk"))
  | ((with_reducible refine' w_set4_3 ?p ?k); (case p => walk_at "lk"))
  | ((with_reducible refine' w_setL ?p ?i ?k); (case p => walk_at "lk"); (case i => exact rfl))
  | with_reducible refine w_tup ?_
  | with_reducible refine w_lst ?_
  | with_reducible refine w_sl ?_
  | with_reducible refine w_noPart ?_
  | with_reducible refine w_part ?_
  | with_reducible refine w_exI ?_
  | with_reducible refine w_exS ?_
  | with_reducible refine w_join ?_
  | with_reducible refine w_split ?_
  | with_reducible refine w_isS ?_
  | with_reducible refine w_joined ?_
  | with_reducible refine w_jsNil ?_
  | with_reducible refine w_jsCons ?_
  | with_reducible refine w_fmt ?_
  | with_reducible refine w_fmtI ?_
  | with_reducible refine w_repl ?_
  | with_reducible refine w_andV ?_
  | with_reducible refine w_orV ?_
  | with_reducible refine w_notV ?_
  | with_reducible refine w_retN ?_
  | with_reducible refine w_brk ?_
  | with_reducible refine w_cont ?_
  | ((with_reducible refine' w_yes (p := ((List.length (_ : List V) : Nat) : Int) = _) ?h ?k); (case h => exact of_decide_eq_true rfl))
  | ((with_reducible refine' w_yes (p := ((List.length (_ : List V) : Nat) : Int) < _) ?h ?k); (case h => exact of_decide_eq_true rfl))
  | ((with_reducible refine' w_yes (p := _ < ((List.length (_ : List V) : Nat) : Int)) ?h ?k); (case h => exact of_decide_eq_true rfl))
  | ((with_reducible refine' w_yes (p := _ = ((List.length (_ : List V) : Nat) : Int)) ?h ?k); (case h => exact of_decide_eq_true rfl))
  | ((with_reducible refine' w_yes (p := ((Str.length (sgn _) : Nat) : Int) = _) ?h ?k); (case h => exact of_decide_eq_true rfl))
  | ((with_reducible refine' w_no (p := ((List.length (_ : List V) : Nat) : Int) = _) ?h ?k); (case h => exact of_decide_eq_false rfl))
  | ((with_reducible refine' w_no (p := ((List.length (_ : List V) : Nat) : Int) < _) ?h ?k); (case h => exact of_decide_eq_false rfl))
  | ((with_reducible refine' w_no (p := _ < ((List.length (_ : List V) : Nat) : Int)) ?h ?k); (case h => exact of_decide_eq_false rfl))
  | ((with_reducible refine' w_no (p := _ = ((List.length (_ : List V) : Nat) : Int)) ?h ?k); (case h => exact of_decide_eq_false rfl))
  | ((with_reducible refine' w_no (p := ((Str.length (sgn _) : Nat) : Int) = _) ?h ?k); (case h => exact of_decide_eq_false rfl))
  | ((with_reducible refine' w_nyes (p := ((List.length (_ : List V) : Nat) : Int) = _) ?h ?k); (case h => exact of_decide_eq_true rfl))
  | ((with_reducible refine' w_nyes (p := ((List.length (_ : List V) : Nat) : Int) < _) ?h ?k); (case h => exact of_decide_eq_true rfl))
  | ((with_reducible refine' w_nyes (p := _ < ((List.length (_ : List V) : Nat) : Int)) ?h ?k); (case h => exact of_decide_eq_true rfl))
  | ((with_reducible refine' w_nyes (p := _ = ((List.length (_ : List V) : Nat) : Int)) ?h ?k); (case h => exact of_decide_eq_true rfl))
  | ((with_reducible refine' w_nyes (p := ((Str.length (sgn _) : Nat) : Int) = _) ?h ?k); (case h => exact of_decide_eq_true rfl))
  | ((with_reducible refine' w_nno (p := ((List.length (_ : List V) : Nat) : Int) = _) ?h ?k); (case h => exact of_decide_eq_false rfl))
  | ((with_reducible refine' w_nno (p := ((List.length (_ : List V) : Nat) : Int) < _) ?h ?k); (case h => exact of_decide_eq_false rfl))
  | ((with_reducible refine' w_nno (p := _ < ((List.length (_ : List V) : Nat) : Int)) ?h ?k); (case h => exact of_decide_eq_false rfl))
  | ((with_reducible refine' w_nno (p := _ = ((List.length (_ : List V) : Nat) : Int)) ?h ?k); (case h => exact of_decide_eq_false rfl))
  | ((with_reducible refine' w_nno (p := ((Str.length (sgn _) : Nat) : Int) = _) ?h ?k); (case h => exact of_decide_eq_false rfl))
  | ((with_reducible refine' w_no (p := (V.ref _ = V.non)) ?h ?k); (case h => intro z9; cases z9))
  | ((with_reducible refine' w_yes (p := (V.non = V.non)) ?h ?k); (case h => rfl))
  | with_reducible refine w_fldC ?_
  | with_reducible refine w_make ?_
  | ((with_reducible refine' w_fldR ?h ?l ?k); (case h => walk_at "lk"); (case l => walk_at "fl"))
  | with_reducible refine w_sfldC ?_
  | ((with_reducible refine' w_sfldR ?h ?l ?k); (case h => walk_at "lk"); (case l => walk_at "pl"))
  | ((with_reducible refine' w_sfldR2 ?h ?l ?k); (case h => walk_at "lk"); (case l => first | exact p_len | exact Nat.le_of_ble_eq_true rfl); (first | rw [p_far.1] | rw [p_text.1] | rw [p_own.1] | rw [p_wait.1] | rw [p_heard.1] | rw [p_made.1] | rw [p_taken.1]))
  | with_reducible refine w_sfldaugC ?_
  | with_reducible refine w_addR ?_
  | with_reducible refine w_subR ?_
  | ((with_reducible refine' w_sfldQ ?h ?l ?k); (case h => walk_at "lk"); (case l => walk_at "pl"))
  | with_reducible refine w_meth ?_
  | ((with_reducible refine' w_methR ?h ?l ?k); (case h => walk_at "lk"); (case l => walk_at "fl"))
  | with_reducible refine w_kget ?_
  | ((with_reducible refine' w_gtup ?h ?l ?k); (case h => walk_at "sq"); (case l => exact rfl))
  | with_reducible refine w_gcons ?_
  | with_reducible refine w_gnil ?_
  | with_reducible refine w_isiII ?_
  | with_reducible refine w_isiIB ?_
  | with_reducible refine w_isiSS ?_
  | ((with_reducible refine' w_isiTT ?h ?k); (case h => walk_at "sq"))
  | ((with_reducible refine' w_isiLL ?h ?k); (case h => walk_at "sq"))
  | with_reducible refine w_ipI ?_
  | with_reducible refine w_par ?_
  | with_reducible refine w_par3 ?_
  | with_reducible refine w_parR ?_
  | with_reducible refine w_parR3 ?_
  | with_reducible refine w_aug ?_
  | ((with_reducible refine' w_var2 ?e ?k); (case e => exact rfl))
  | ((with_reducible refine' w_insL ?p ?l ?k); (case p => walk_at "lk"); (case l => first | omega | decide))
  | rw [kg_put]
  | rw [kg_cut]
  | rw [kg_non])
local macro_rules | `(tactic| walk_at "wp") => `(tactic| ((try dsimp only); (repeat walk_at "wp1"); (walk_at "beta")))
theorem w_inT {K : PySem.W.Frag} {H : Hp} {Q : VK} {p : Addr} {xs : List V} {x : V} (hs : SqT K H p xs) (fx : flatV x = true) (fs : xs.all flatV = true) (k : Q (.bl (inV x xs)) H) : rInU K x (.ref p) H Q := .inr (.inl ⟨p, xs, rfl, .inr hs, fx, fs, k⟩)
theorem w_niT {K : PySem.W.Frag} {H : Hp} {Q : VK} {p : Addr} {xs : List V} {x : V} (hs : SqT K H p xs) (fx : flatV x = true) (fs : xs.all flatV = true) (k : Q (.bl (!inV x xs)) H) : rNiU K x (.ref p) H Q := .inr (.inl ⟨p, xs, rfl, .inr hs, fx, fs, k⟩)
theorem ix_at {α : Type} {f : Bool → α} (z : Bool) : atI [f true, f false] (ixZ z) = some (f z) := by cases z <;> rfl
theorem ix_off {α : Type} {f : Bool → α} (z : Bool) : atI [f true, f false] (1 - ixZ z) = some (f (!z)) := by cases z <;> rfl
theorem foot_seat {A : YA} {z : Bool} {w' y : Addr} : ∀ x ∈ ({ A with w := bset A.w z w' } : YA).foot y, x = w' ∨ x ∈ A.foot y := by
  intro x hx
  have hx' : x ∈ [y, A.p true, A.p false, A.ls, A.lr, bset A.w z w' true, bset A.w z w' false, A.r true, A.r false] := hx
  show x = w' ∨ x ∈ [y, A.p true, A.p false, A.ls, A.lr, A.w true, A.w false, A.r true, A.r false]
  simp only [List.mem_cons, List.not_mem_nil, or_false] at hx' ⊢
  cases z <;> simp only [bset, if_true, if_false, reduceCtorEq] at hx' <;> rcases hx' with h | h | h | h | h | h | h | h | h <;> simp [h]
/-- a comprehension over range(n), what stands is told by W -/
theorem lcb_G {σ : L2.St} {H : Hp} {Q : VK} {te : TE} {j : Nat} {vs : List Nat} {n : Nat} (W : Nat → Addr → List V → Hp → Prop) (hw : ∀ x, wipe ((wipe σ vs).set j (some x)) vs = wipe σ vs)
    (h0 : ∀ D, H D = none → W 0 D [] (upd H D (.lst [])))
    (turn : ∀ i D acc H1 (T : VK), i < n → W i D acc H1 → H1 D = some (.lst acc) → (∀ y H2, H2 D = some (.lst acc) → acc.length < sizeLine → W (i + 1) D (acc ++ [y]) (upd H2 D (.lst (acc ++ [y]))) → T y H2) → te ((wipe σ vs).set j (some (.int (0 + (i : Int))))) H1 T)
    (k : ∀ D acc H1, W n D acc H1 → H1 D = some (.lst acc) → Q (.ref D) H1) : LcB (Itr 0 n) (gName j) tYes te vs σ Q H := by
  intro D hD
  refine lc_range (lo := 0) (n := n) (fun i H' => ∃ acc, W i D acc H' ∧ H' D = some (.lst acc)) ⟨[], h0 D hD, upd_same⟩ (fun i H' hi p => ?_) (fun H' p => ?_)
  · obtain ⟨acc, w, e⟩ := p
    refine ⟨hw _, ?_⟩
    show te ((wipe σ vs).set j (some (.int (0 + (i : Int))))) H' fun y H4 => _
    exact turn i D acc H' _ hi w e fun y H2 e2 hl w2 => ⟨acc, e2, hl, _, w2, upd_same⟩
  · obtain ⟨acc, w, e⟩ := p
    exact k D acc H' w e
section
variable {K : PySem.W.Frag} {vs : List V} {H : Hp} {Q : VK} {E : XK}
theorem pr_is_seat (h : sp_is_seat K vs H Q E) : t_is_seat K { nx := fun _ H' => Q .non H', rt := Q } (start N_is_seat vs) H := by
  obtain ⟨z, rfl, k⟩ := h
  unfold t_is_seat
  walk_at "wp"
  intro p hp
  refine w_inT (SqT.of upd_same) rfl rfl ?_
  have e : inV (.int (ixZ z)) [.int 0, .int 1] = true := by cases z <;> rfl
  rw [e]
  exact k _ (same_new hp)
theorem pr_need_seat (h : sp_need_seat K vs H Q E) : t_need_seat K { nx := fun _ H' => Q .non H', rt := Q } (start N_need_seat vs) H := by
  obtain ⟨z, rfl, k⟩ := h
  unfold t_need_seat
  walk_at "wp"
  refine ⟨z, rfl, fun H1 s1 => ?_⟩
  walk_at "wp"
  exact k _ s1
theorem pr_is_either (h : sp_is_either K vs H Q E) : t_is_either K { nx := fun _ H' => Q .non H', rt := Q } (start N_is_either vs) H := by
  obtain ⟨z, rfl, k⟩ := h
  unfold t_is_either
  walk_at "wp"
  refine w_yes (by cases z <;> decide) ?_
  walk_at "wp"
  exact q_yes (by cases z <;> decide) k
theorem pr_Yard_shown_at (h : sp_Yard_shown_at K vs H Q E) : t_Yard_shown_at K { nx := fun _ H' => Q .non H', rt := Q } (start N_Yard_shown_at vs) H := by
  obtain ⟨y, z, S, Y, rfl, ⟨A, hA, hS⟩, k⟩ := h
  unfold t_Yard_shown_at
  walk_at "wp"
  refine ⟨z, rfl, fun H1 s1 => ?_⟩
  have h1 := hA.keep (fun x _ o e => s1 _ _ e) (TK.of s1)
  obtain ⟨dx, hy⟩ := h1.ins
  obtain ⟨dp, hp⟩ := (h1.st z).ins
  walk_at "wp"
  refine w_ixL ?_ (SqL.of h1.ls) (ix_at (f := fun b => V.ref (A.p b)) z)
  walk_at "wp"
  exact ⟨A.p z, A.w z, z, Y.s z, rfl, h1.st z, k _ s1⟩
theorem pr_Yard_road_to (h : sp_Yard_road_to K vs H Q E) : t_Yard_road_to K { nx := fun _ H' => Q .non H', rt := Q } (start N_Yard_road_to vs) H := by
  obtain ⟨y, z, S, Y, rfl, ⟨A, hA, hS⟩, k⟩ := h
  unfold t_Yard_road_to
  walk_at "wp"
  refine ⟨z, rfl, fun H1 s1 => ?_⟩
  have h1 := hA.keep (fun x _ o e => s1 _ _ e) (TK.of s1)
  obtain ⟨dx, hy⟩ := h1.ins
  obtain ⟨xs, hr, hd⟩ := h1.rd z
  walk_at "wp"
  refine w_ixL ?_ (SqL.of h1.lr) (ix_at (f := fun b => V.ref (A.r b)) z)
  walk_at "wp"
  refine .inl ⟨A.r z, xs, rfl, .inl (SqL.of hr), fun q hq => ?_⟩
  exact k q xs _ (s1.trans (same_new hq)) (s1.free hq) upd_same (dps_same (same_new hq) hd)
theorem pr_Yard_make_at (h : sp_Yard_make_at K vs H Q E) : t_Yard_make_at K { nx := fun _ H' => Q .non H', rt := Q } (start N_Yard_make_at vs) H := by
  obtain ⟨y, z, v, e, S, Y, n, rfl, ⟨A, hA, hS⟩, dm, hv, he, hc, ok, hn, k⟩ := h
  unfold t_Yard_make_at
  walk_at "wp"
  refine ⟨z, rfl, fun H1 s1 => ?_⟩
  have h1 := hA.keep (fun x _ o e => s1 _ _ e) (TK.of s1)
  obtain ⟨dx, hy⟩ := h1.ins
  obtain ⟨dp, hp⟩ := (h1.st z).ins
  walk_at "wp"
  refine w_ixL ?_ (SqL.of h1.ls) (ix_at (f := fun b => V.ref (A.p b)) z)
  walk_at "wp"
  have ot := ok.tx z
  have ow := ok.wt z
  refine ⟨A.p z, A.w z, z, Y.s z, v, e, rfl, h1.st z, dp_same s1 hv, he, hc, by omega, by omega, fun v' H2 f2 t2 st2 hv' => ?_⟩
  have h2 := h1.seat f2 t2 (.inl rfl) st2
  obtain ⟨dx2, hy2⟩ := h2.ins
  obtain ⟨xs, hr, hd⟩ := h2.rd (!z)
  have hr' : H2 (A.r (!z)) = some (.lst xs) := hr
  have or := ok.rd (!z)
  have hxl : xs.length ≤ 100000 := by
    have e1 := dps_len hd
    rw [List.length_map] at e1
    have e2 : xs.length = (Y.r (!z)).length := e1
    omega
  walk_at "wp"
  refine w_ixL ?_ (SqL.of h2.lr) (ix_off (f := fun b => V.ref (A.r b)) z)
  walk_at "wp"
  have h3 := h2.road (z := !z) (xs := xs ++ [v']) (rs := Y.r (!z) ++ [mkL (Y.s z) e]) (by rw [List.map_append]; exact dps_app hd (.cons hv' .nil))
  have hft : ∀ x ∈ ({ A with w := bset A.w z (A.w z) } : YA).foot y, ¬ S x := fun x hx => by
    rcases foot_seat x hx with rfl | hx
    · exact hS _ (by cases z <;> simp [YA.foot, YA.lists])
    · exact hS x hx
  have t3 : TK H2 (upd H2 (A.r (!z)) (.lst (xs ++ [v']))) := TK.updL hr
  refine k v' _ ?_ (((TK.of s1).trans t2).trans t3) ⟨_, h3, hft⟩ (dp_tk t3 hv' (noL_letter _))
  refine Kp.upd ((Kp.of s1).trans (f2.kp (hS _ ?_) (hS _ ?_))) (hS _ ?_)
  · cases z <;> simp [YA.foot, YA.lists]
  · cases z <;> simp [YA.foot, YA.lists]
  · cases z <;> simp [YA.foot, YA.lists]
end
end FL

namespace FL
open PySem PySem.Spec PyProof.Rows L2 CwR TL
local macro_rules | `(tactic| walk_at "tls") => `(tactic| (simp only [TL.tl_append, TL.tl_num, tl_ofL, tl_sgn, tl_empty, List.nil_append, List.append_nil, List.cons_append, List.append_assoc]))
local macro_rules | `(tactic| walk_at "szt") => `(tactic| (simp only [len_ofL, TL.len_tl, TL.tl_append, TL.tl_num, tl_ofL, tl_sgn, tl_empty, List.length_append, List.length_cons, List.length_nil]; omega))
local macro_rules | `(tactic| walk_at "beta") => `(tactic| (try dsimp only [List.set_cons_zero, List.set_cons_succ]))
local macro_rules | `(tactic| walk_at "sq") => `(tactic| first | assumption | exact SqL.of upd_same | exact SqT.of upd_same | exact SqL.of (by assumption) | exact SqT.of (by assumption) | ((with_reducible refine' sq_updI ?h ?s); (case h => walk_at "lk"); (case s => walk_at "sq")) | ((with_reducible refine' sq_updL ?h ?s); (case h => walk_at "lk"); (case s => walk_at "sq")) | ((with_reducible refine' sq_new ?h ?s); (case h => assumption); (case s => walk_at "sq")) | exact SqL.of (by walk_at "lk"))
local macro_rules | `(tactic| walk_at "lk") => `(tactic| first | assumption | exact upd_same | (refine Eq.trans (upd_ne (by assumption)) ?_; walk_at "lk"))
local macro_rules | `(tactic| walk_at "fl") => `(tactic| first | with_reducible exact l_text | with_reducible exact l_ahead | with_reducible exact l_made | with_reducible exact l_taken | with_reducible exact l_heard | with_reducible exact l_wait | with_reducible exact l_own | with_reducible exact l_far | exact l_no (by decide +kernel) | exact two_l1 | exact two_l2 (by decide +kernel) | exact two_no (by decide +kernel) (by decide +kernel))
local macro_rules | `(tactic| walk_at "pl") => `(tactic| first | with_reducible exact p_text | with_reducible exact p_made | with_reducible exact p_taken | with_reducible exact p_heard | with_reducible exact p_wait | with_reducible exact p_own | with_reducible exact p_far | with_reducible exact i_1 | with_reducible exact i_2 | with_reducible exact i_3 | with_reducible exact i_4 | with_reducible exact i_5 | with_reducible exact i_6 | with_reducible exact i_7 | with_reducible exact i_8 | exact ⟨put_past (by decide +kernel), Nat.le_of_ble_eq_true rfl⟩ | exact ⟨rfl, Nat.le_of_ble_eq_true rfl⟩)
local macro_rules | `(tactic| walk_at "wp1") => `(tactic| first
  | with_reducible refine w_seq ?_
  | with_reducible refine w_set ?_
  | ((with_reducible refine' w_var ?e ?k); (case e => exact rfl))
  | with_reducible refine w_c ?_
  | with_reducible refine w_op ?_
  | with_reducible refine w_ret ?_
  | with_reducible refine w_if ?_
  | with_reducible refine w_test ?_
  | with_reducible refine w_bl ?_
  | with_reducible refine w_cons ?_
  | with_reducible refine w_nil ?_
  | with_reducible refine w_call ?_
  | with_reducible refine w_cb ?_
  | with_reducible refine w_next ?_
  | with_reducible refine w_drop ?_
  | with_reducible refine w_asg ?_
  | with_reducible refine w_and ?_
  | with_reducible refine w_or ?_
  | with_reducible refine w_not ?_
  | with_reducible refine w_ifE ?_
  | with_reducible refine w_tB ?_
  | with_reducible refine iteT ?_
  | with_reducible refine iteF ?_
  | with_reducible refine w_addI ?_
  | with_reducible refine w_subI ?_
  | with_reducible refine w_ltI ?_
  | with_reducible refine w_leI ?_
  | with_reducible refine w_gtI ?_
  | with_reducible refine w_geI ?_
  | with_reducible refine w_eqI ?_
  | with_reducible refine w_neI ?_
  | with_reducible refine w_eqS ?_
  | with_reducible refine w_neS ?_
  | with_reducible refine w_is ?_
  | with_reducible refine w_isNot ?_
  | with_reducible refine w_intI ?_
  | with_reducible refine w_intB ?_
  | with_reducible refine w_inC ?_
  | with_reducible refine w_niC ?_
  | ((with_reducible refine' w_ixL ?k ?h ?x); (case h => walk_at "sq"); (case x => rfl))
  | ((with_reducible refine' w_ixT ?k ?h ?x); (case h => walk_at "sq"); (case x => rfl))
  | ((with_reducible refine w_modI ?k ?c); (case c => first | omega | with_reducible assumption | decide))
  | ((with_reducible refine w_divI ?k ?c); (case c => exact ⟨by omega, by omega⟩))
  | ((with_reducible refine w_mulI ?k ?c); (case c => first | exact .inl ⟨by omega, by omega⟩ | exact .inr ⟨by omega, by omega⟩))
  | ((with_reducible refine w_powI ?k ?c); (case c => exact ⟨by decide, by decide, by decide⟩))
  | ((with_reducible refine' w_lenL ?k ?h); (case h => walk_at "sq"))
  | ((with_reducible refine' w_lenT ?k ?h); (case h => walk_at "sq"))
  | ((with_reducible refine w_len ?h ?k); (case h => exact Nat.le_of_ble_eq_true rfl))
  | ((with_reducible refine w_decTS ?h ?k); (case h => exact rfl))
  | ((with_reducible refine w_decFS ?h ?k); (case h => decide +kernel))
  | ((with_reducible refine w_ndecTS ?h ?k); (case h => exact rfl))
  | ((with_reducible refine w_ndecFS ?h ?k); (case h => decide +kernel))
  | ((with_reducible refine w_sz ?h ?k); (case h => walk_at "szt"))
  | ((with_reducible refine w_addS' ?k ?h); (case h => walk_at "szt"))
  | ((with_reducible refine w_strI' ?k ?h); (case h => omega))
  | ((with_reducible refine w_fmtN (A := True) ?h ?k); (case h => omega))
  | with_reducible refine w_chain ?_
  | with_reducible refine w_for ?_
  | with_reducible refine w_lc ?_
  | ((with_reducible refine w_rng ?h ?k); (case h => exact ⟨by omega, by omega⟩))
  | with_reducible refine w_iStr ?_
  | with_reducible refine w_iList ?_
  | with_reducible refine w_iRng1 ?_
  | with_reducible refine w_exR ?_
  | ((with_reducible refine' w_exSqL ?h ?k); (case h => walk_at "sq"))
  | ((with_reducible refine w_lenS ?k ?h); (case h => refine Nat.le_trans ?_ (by decide : 1000000 ≤ sizeLine); walk_at "szt"))
  | ((with_reducible refine w_slS ?k ?h); (case h => refine Nat.le_trans ?_ (by decide : 1000000 ≤ sizeLine); walk_at "szt"))
  | with_reducible refine w_nT ?_
  | with_reducible refine w_nF ?_
  | with_reducible refine w_un ?_
  | with_reducible refine w_negI ?_
  | with_reducible refine w_bm ?_
  | with_reducible refine w_bm0 ?_
  | ((with_reducible refine' w_tyL ?h ?k); (case h => walk_at "sq"))
  | ((with_reducible refine' w_append ?p ?l ?k); (case p => walk_at "lk"); (case l => first | exact Nat.le_of_ble_eq_true rfl | omega))
  | with_reducible refine w_gsub ?_
  | with_reducible refine w_gname ?_
  | ((with_reducible refine' w_set4_0 ?p ?k); (case p => walk_at "lk"))
  | ((with_reducible refine' w_set4_1 ?p ?k); (case p => walk_at "lk"))
  | ((with_reducible refine' w_set4_2 ?p ?k); (case p => walk_at "lk"))
  | ((with_reducible refine' w_set4_3 ?p ?k); (case p => walk_at "lk"))
  | ((with_reducible refine' w_setL ?p ?i ?k); (case p => walk_at "lk"); (case i => exact rfl))
  | with_reducible refine w_tup ?_
  | with_reducible refine w_lst ?_
  | with_reducible refine w_sl ?_
  | with_reducible refine w_noPart ?_
  | with_reducible refine w_part ?_
  | with_reducible refine w_exI ?_
  | with_reducible refine w_exS ?_
  | with_reducible refine w_join ?_
  | with_reducible refine w_split ?_
  | with_reducible refine w_isS ?_
  | with_reducible refine w_joined ?_
  | with_reducible refine w_jsNil ?_
  | with_reducible refine w_jsCons ?_
  | with_reducible refine w_fmt ?_
  | with_reducible refine w_fmtI ?_
  | with_reducible refine w_repl ?_
  | with_reducible refine w_andV ?_
  | with_reducible refine w_orV ?_
  | with_reducible refine w_notV ?_
  | with_reducible refine w_retN ?_
  | with_reducible refine w_brk ?_
  | with_reducible refine w_cont ?_
  | ((with_reducible refine' w_yes (p := ((List.length (_ : List V) : Nat) : Int) = _) ?h ?k); (case h => exact of_decide_eq_true rfl))
  | ((with_reducible refine' w_yes (p := ((List.length (_ : List V) : Nat) : Int) < _) ?h ?k); (case h => exact of_decide_eq_true rfl))
  | ((with_reducible refine' w_yes (p := _ < ((List.length (_ : List V) : Nat) : Int)) ?h ?k); (case h => exact of_decide_eq_true rfl))
  | ((with_reducible refine' w_yes (p := _ = ((List.length (_ : List V) : Nat) : Int)) ?h ?k); (case h => exact of_decide_eq_true rfl))
  | ((with_reducible refine' w_yes (p := ((Str.length (sgn _) : Nat) : Int) = _) ?h ?k); (case h => exact of_decide_eq_true rfl))
  | ((with_reducible refine' w_no (p := ((List.length (_ : List V) : Nat) : Int) = _) ?h ?k); (case h => exact of_decide_eq_false rfl))
  | ((with_reducible refine' w_no (p := ((List.length (_ : List V) : Nat) : Int) < _) ?h ?k); (case h => exact of_decide_eq_false rfl))
  | ((with_reducible refine' w_no (p := _ < ((List.length (_ : List V) : Nat) : Int)) ?h ?k); (case h => exact of_decide_eq_false rfl))
  | ((with_reducible refine' w_no (p := _ = ((List.length (_ : List V) : Nat) : Int)) ?h ?k); (case h => exact of_decide_eq_false rfl))
  | ((with_reducible refine' w_no (p := ((Str.length (sgn _) : Nat) : Int) = _) ?h ?k); (case h => exact of_decide_eq_false rfl))
  | ((with_reducible refine' w_nyes (p := ((List.length (_ : List V) : Nat) : Int) = _) ?h ?k); (case h => exact of_decide_eq_true rfl))
  | ((with_reducible refine' w_nyes (p := ((List.length (_ : List V) : Nat) : Int) < _) ?h ?k); (case h => exact of_decide_eq_true rfl))
  | ((with_reducible refine' w_nyes (p := _ < ((List.length (_ : List V) : Nat) : Int)) ?h ?k); (case h => exact of_decide_eq_true rfl))
  | ((with_reducible refine' w_nyes (p := _ = ((List.length (_ : List V) : Nat) : Int)) ?h ?k); (case h => exact of_decide_eq_true rfl))
  | ((with_reducible refine' w_nyes (p := ((Str.length (sgn _) : Nat) : Int) = _) ?h ?k); (case h => exact of_decide_eq_true rfl))
  | ((with_reducible refine' w_nno (p := ((List.length (_ : List V) : Nat) : Int) = _) ?h ?k); (case h => exact of_decide_eq_false rfl))
  | ((with_reducible refine' w_nno (p := ((List.length (_ : List V) : Nat) : Int) < _) ?h ?k); (case h => exact of_decide_eq_false rfl))
  | ((with_reducible refine' w_nno (p := _ < ((List.length (_ : List V) : Nat) : Int)) ?h ?k); (case h => exact of_decide_eq_false rfl))
  | ((with_reducible refine' w_nno (p := _ = ((List.length (_ : List V) : Nat) : Int)) ?h ?k); (case h => exact of_decide_eq_false rfl))
  | ((with_reducible refine' w_nno (p := ((Str.length (sgn _) : Nat) : Int) = _) ?h ?k); (case h => exact of_decide_eq_false rfl))
  | ((with_reducible refine' w_no (p := (V.ref _ = V.non)) ?h ?k); (case h => intro z9; cases z9))
  | ((with_reducible refine' w_yes (p := (V.non = V.non)) ?h ?k); (case h => rfl))
  | with_reducible refine w_fldC ?_
  | with_reducible refine w_make ?_
  | ((with_reducible refine' w_fldR ?h ?l ?k); (case h => walk_at "lk"); (case l => walk_at "fl"))
  | with_reducible refine w_sfldC ?_
  | ((with_reducible refine' w_sfldR ?h ?l ?k); (case h => walk_at "lk"); (case l => walk_at "pl"))
  | ((with_reducible refine' w_sfldR2 ?h ?l ?k); (case h => walk_at "lk"); (case l => first | exact p_len | exact Nat.le_of_ble_eq_true rfl); (first | rw [p_far.1] | rw [p_text.1] | rw [p_own.1] | rw [p_wait.1] | rw [p_heard.1] | rw [p_made.1] | rw [p_taken.1]))
  | with_reducible refine w_sfldaugC ?_
  | with_reducible refine w_addR ?_
  | with_reducible refine w_subR ?_
  | ((with_reducible refine' w_sfldQ ?h ?l ?k); (case h => walk_at "lk"); (case l => walk_at "pl"))
  | with_reducible refine w_meth ?_
  | ((with_reducible refine' w_methR ?h ?l ?k); (case h => walk_at "lk"); (case l => walk_at "fl"))
  | with_reducible refine w_kget ?_
  | ((with_reducible refine' w_gtup ?h ?l ?k); (case h => walk_at "sq"); (case l => exact rfl))
  | with_reducible refine w_gcons ?_
  | with_reducible refine w_gnil ?_
  | with_reducible refine w_isiII ?_
  | with_reducible refine w_isiIB ?_
  | with_reducible refine w_isiSS ?_
  | ((with_reducible refine' w_isiTT ?h ?k); (case h => walk_at "sq"))
  | ((with_reducible refine' w_isiLL ?h ?k); (case h => walk_at "sq"))
  | with_reducible refine w_ipI ?_
  | with_reducible refine w_par ?_
  | with_reducible refine w_par3 ?_
  | with_reducible refine w_parR ?_
  | with_reducible refine w_parR3 ?_
  | with_reducible refine w_aug ?_
  | ((with_reducible refine' w_var2 ?e ?k); (case e => exact rfl))
  | ((with_reducible refine' w_insL ?p ?l ?k); (case p => walk_at "lk"); (case l => first | omega | decide))
  | rw [kg_put]
  | rw [kg_cut]
  | rw [kg_non])
local macro_rules | `(tactic| walk_at "wp") => `(tactic| ((try dsimp only); (repeat walk_at "wp1"); (walk_at "beta")))
section
variable {K : PySem.W.Frag} {vs : List V} {H : Hp} {Q : VK} {E : XK}
theorem w_pop0U {a : Addr} {xs : List V} {x : V} (ha : H a = some (.lst (x :: xs))) (k : Q x (upd H a (.lst xs))) : rPopAt (.ref a) [.int 0] H Q := w_pop0 ha k
theorem pr_Yard_come_to (h : sp_Yard_come_to K vs H Q E) : t_Yard_come_to K { nx := fun _ H' => Q .non H', rt := Q } (start N_Yard_come_to vs) H := by
  obtain ⟨y, z, S, Y, n, x, t, rfl, ⟨A, hA, hS⟩, dm, ok, hn, hr, k⟩ := h
  unfold t_Yard_come_to
  walk_at "wp"
  refine ⟨z, rfl, fun H1 s1 => ?_⟩
  have h1 := hA.keep (fun x _ o e => s1 _ _ e) (TK.of s1)
  obtain ⟨dx, hy⟩ := h1.ins
  obtain ⟨xs, hx, hd⟩ := h1.rd z
  walk_at "wp"
  refine w_ixL ?_ (SqL.of h1.lr) (ix_at (f := fun b => V.ref (A.r b)) z)
  walk_at "wp"
  intro q hq
  have s2 := s1.trans (same_new (o := .lst []) hq)
  have h2 := hA.keep (fun x _ o e => s2 _ _ e) (TK.of s2)
  obtain ⟨dx2, hy2⟩ := h2.ins
  obtain ⟨dp2, hp2⟩ := (h2.st z).ins
  obtain ⟨xs2, hx2, hd2⟩ := h2.rd z
  have hrr := (ok.rd z).1
  refine w_eqLy (k := 3) ?_ (.lst (SqL.of hx2) hd2) (.lst (SqL.of upd_same) .nil) (ly_map fun l hl => ly_letter (hrr l hl)) (ly_lst fun d hd => (List.not_mem_nil hd).elim) (by decide)
  rw [eqv_nil, hr, List.map_cons, List.isEmpty_cons]
  walk_at "wp"
  refine w_ixL ?_ (SqL.of h2.ls) (ix_at (f := fun b => V.ref (A.p b)) z)
  walk_at "wp"
  refine w_ixL ?_ (SqL.of h2.lr) (ix_at (f := fun b => V.ref (A.r b)) z)
  rw [hr] at hd2
  obtain ⟨v, ws, rfl, hv, hd3⟩ := dps_cons hd2
  walk_at "wp"
  refine w_pop0 hx2 ?_
  have h3 := h2.road (z := z) (xs := ws) (rs := t) hd3
  have t3 : TK _ (upd (upd H1 q (.lst [])) (A.r z) (.lst ws)) := TK.updL hx2
  obtain ⟨a1, a2, a3, a4, a5⟩ := Yd.ok_take ok hr
  have ot := ok.tx z
  have ow := ok.wt z
  walk_at "wp"
  refine ⟨A.p z, A.w z, z, Y.s z, v, x, rfl, h3.st z, dp_tk t3 hv (noL_letter _), hrr x (by rw [hr]; exact List.mem_cons_self ..), ow.1, a1, a2, a3, a4, by omega, by omega, fun v' w' H2 f2 t2 hw' st2 hv' => ?_⟩
  have h4 := h3.seat f2 t2 (.inr hw') st2
  have hw0 : H w' = none := by
    cases c : H w' with
    | none => rfl
    | some o =>
      have e1 := s2 _ _ c
      by_cases z1 : w' = A.r z
      · rw [z1, upd_same] at hw'; cases hw'
      · rw [upd_ne z1, e1] at hw'; cases hw'
  refine k v' _ ?_ (((TK.of s2).trans t3).trans t2) ⟨_, h4, fun x hx => ?_⟩ hv'
  · refine ((Kp.of s2).upd (hS _ ?_)).trans (f2.kp (hS _ ?_) (hS _ ?_))
    · cases z <;> simp [YA.foot, YA.lists]
    · cases z <;> simp [YA.foot, YA.lists]
    · cases z <;> simp [YA.foot, YA.lists]
  · rcases foot_seat x hx with rfl | hx
    · exact fun s => dm _ s hw0
    · exact hS x hx
theorem pr_Yard___init__ (h : sp_Yard___init__ K vs H Q E) : t_Yard___init__ K { nx := fun _ H' => Q .non H', rt := Q } (start N_Yard___init__ vs) H := by
  obtain ⟨y, dx, l, rfl, hl, hy, k⟩ := h
  unfold t_Yard___init__
  walk_at "wp"
  refine lcb_G (fun i D acc H1 => Same H H1 ∧ H D = none ∧ match i with
    | 0 => acc = []
    | 1 => ∃ p w, acc = [.ref p] ∧ SeatAt K H1 p w true (newSeat l) ∧ H p = none ∧ H w = none ∧ D ≠ p ∧ D ≠ w
    | _ => ∃ p w q u, acc = [.ref p, .ref q] ∧ SeatAt K H1 p w true (newSeat l) ∧ SeatAt K H1 q u false (newSeat l) ∧ H p = none ∧ H w = none ∧ H q = none ∧ H u = none ∧ D ≠ p ∧ D ≠ w ∧ D ≠ q ∧ D ≠ u ∧ p ≠ q ∧ w ≠ u)
    (fun _ => rfl) (fun D hD => ⟨same_new hD, hD, rfl⟩) (fun i D acc H1 T hi w1 hD hT => ?_) (fun D acc H1 w1 hD => ?_)
  · obtain ⟨s1, hDn, w1⟩ := w1
    walk_at "wp"
    intro p dp hp hdp hne
    have none0 : ∀ {b}, H1 b = none → H b = none := fun {b} e => by
      cases c : H b with
      | none => rfl
      | some o => rw [s1 _ _ c] at e; cases e
    have nDp : D ≠ p := ne_of_none hD hp
    have nDdp : D ≠ dp := ne_of_none hD hdp
    match i, hi, w1 with
    | 0, _, w1 =>
      have w1 : acc = [] := w1
      subst w1
      walk_at "wp"
      refine ⟨p, dp, true, l, rfl, by omega, upd_same, fun w H2 hw nw f2 t2 st2 => ⟨rfl, ?_⟩⟩
      have nwdp : w ≠ dp := fun e => by rw [e, upd_ne hne, upd_same] at hw; cases hw
      have hw1 : H1 w = none := by rw [upd_ne nw, upd_ne nwdp] at hw; exact hw
      have nDw : D ≠ w := ne_of_none hD hw1
      have s2 : Same H1 H2 := fun b o e => f2 b o (ne_of_none e hp) (by rw [upd_ne (ne_of_none e hp), upd_ne (ne_of_none e hdp)]; exact e)
      have hD2 := s2 _ _ hD
      refine hT _ H2 hD2 (by decide) ⟨fun b o e => ?_, hDn, p, w, rfl, ?_, none0 hp, none0 hw1, nDp, nDw⟩
      · rw [upd_ne (ne_of_none e hDn)]; exact s2 _ _ (s1 _ _ e)
      · exact st2.keep (fun o e => by rw [upd_ne nDp.symm]; exact e) (fun o e => by rw [upd_ne nDw.symm]; exact e) (TK.updL hD2)
    | 1, _, w1 =>
      obtain ⟨p1, w1', rfl, st1, hp1, hw1', n1, n2⟩ := w1
      walk_at "wp"
      refine ⟨p, dp, false, l, rfl, by omega, upd_same, fun w H2 hw nw f2 t2 st2 => ⟨rfl, ?_⟩⟩
      have nwdp : w ≠ dp := fun e => by rw [e, upd_ne hne, upd_same] at hw; cases hw
      have hw1 : H1 w = none := by rw [upd_ne nw, upd_ne nwdp] at hw; exact hw
      have nDw : D ≠ w := ne_of_none hD hw1
      have s2 : Same H1 H2 := fun b o e => f2 b o (ne_of_none e hp) (by rw [upd_ne (ne_of_none e hp), upd_ne (ne_of_none e hdp)]; exact e)
      have hD2 := s2 _ _ hD
      obtain ⟨d1, e1⟩ := st1.ins
      obtain ⟨xs1, e2, _⟩ := st1.wt
      refine hT _ H2 hD2 (Nat.lt_of_lt_of_le (show 1 < 1000 by decide) (by decide)) ⟨fun b o e => ?_, hDn, p1, w1', p, w, rfl, ?_, ?_, hp1, hw1', none0 hp, none0 hw1, n1, n2, nDp, nDw, ne_of_none e1 hp, ne_of_none e2 hw1⟩
      · rw [upd_ne (ne_of_none e hDn)]; exact s2 _ _ (s1 _ _ e)
      · exact (st1.keep (fun o e => s2 _ _ e) (fun o e => s2 _ _ e) (TK.of s2)).keep (fun o e => by rw [upd_ne n1.symm]; exact e) (fun o e => by rw [upd_ne n2.symm]; exact e) (TK.updL hD2)
      · exact st2.keep (fun o e => by rw [upd_ne nDp.symm]; exact e) (fun o e => by rw [upd_ne nDw.symm]; exact e) (TK.updL hD2)
    | i + 2, hi, _ => exact absurd hi (by simp)
  · obtain ⟨s1, hDn, p, w, q, u, rfl, st1, st2, hp, hw, hq, hu, n1, n2, n3, n4, n5, n6⟩ := w1
    have hy1 := s1 _ _ hy
    have nyD := ne_of_none hy hDn
    walk_at "wp"
    intro r1 hr1
    have nyr1 : y ≠ r1 := ne_of_none upd_same hr1
    have g1 : H1 r1 = none := by rw [upd_ne nyr1.symm] at hr1; exact hr1
    walk_at "wp"
    intro r0 hr0
    have nyr0 : y ≠ r0 := ne_of_none (Eq.trans (upd_ne nyr1) upd_same) hr0
    have nr : r1 ≠ r0 := ne_of_none upd_same hr0
    have g0 : H1 r0 = none := by rw [upd_ne nr.symm, upd_ne nyr0.symm] at hr0; exact hr0
    walk_at "wp"
    intro lr hlr
    have nylr : y ≠ lr := ne_of_none (Eq.trans (upd_ne nyr0) (Eq.trans (upd_ne nyr1) upd_same)) hlr
    have n1lr : r1 ≠ lr := ne_of_none (Eq.trans (upd_ne nr) upd_same) hlr
    have n0lr : r0 ≠ lr := ne_of_none upd_same hlr
    have glr : H1 lr = none := by rw [upd_ne n0lr.symm, upd_ne n1lr.symm, upd_ne nylr.symm] at hlr; exact hlr
    walk_at "wp"
    have none0 : ∀ {b}, H1 b = none → H b = none := fun {b} e => by
      cases c : H b with
      | none => rfl
      | some o => rw [s1 _ _ c] at e; cases e
    obtain ⟨d1, i1⟩ := st1.ins
    obtain ⟨d2, i2⟩ := st2.ins
    obtain ⟨x1, e1, c1⟩ := st1.wt
    obtain ⟨x2, e2, c2⟩ := st2.wt
    have nyp : y ≠ p := ne_of_none hy hp
    have nyq : y ≠ q := ne_of_none hy hq
    have nyw : y ≠ w := ne_of_none hy hw
    have nyu : y ≠ u := ne_of_none hy hu
    have kp : ∀ {b o}, y ≠ b → H1 b = some o → (upd (upd (upd (upd (upd H1 y (.ins (gloA K "Yard") dx (putF "seats" (.ref D) []))) r1 (.lst [])) r0 (.lst [])) lr (.lst [.ref r1, .ref r0])) y (.ins (gloA K "Yard") dx [("seats", .ref D), ("roads", .ref lr)])) b = some o := fun {b o} n e => by
      rw [upd_ne n.symm, upd_ne (ne_of_none e glr), upd_ne (ne_of_none e g0), upd_ne (ne_of_none e g1), upd_ne n.symm]; exact e
    have tk : TK H1 (upd (upd (upd (upd (upd H1 y (.ins (gloA K "Yard") dx (putF "seats" (.ref D) []))) r1 (.lst [])) r0 (.lst [])) lr (.lst [.ref r1, .ref r0])) y (.ins (gloA K "Yard") dx [("seats", .ref D), ("roads", .ref lr)])) :=
      ((((TK.updI hy1).trans (TK.new hr1)).trans (TK.new hr0)).trans (TK.new hlr)).trans (TK.updI (by rw [upd_ne nylr, upd_ne nyr0, upd_ne nyr1, upd_same]))
    refine k ⟨D, lr, fun z => if z then p else q, fun z => if z then w else u, fun z => if z then r1 else r0⟩ _ ?_ ?_ ?_ ((TK.of s1).trans tk) ⟨⟨dx, upd_same⟩, kp nyD hD, ?_, ?_, ?_, ?_, n5, ?_⟩
    · intro x hx
      simp only [YA.lists, List.mem_cons, List.not_mem_nil, or_false, if_true, if_false, reduceCtorEq] at hx
      rcases hx with rfl | rfl | rfl | rfl | rfl | rfl
      · exact hDn
      · exact none0 glr
      · exact hw
      · exact hu
      · exact none0 g1
      · exact none0 g0
    · intro z; cases z
      · exact hq
      · exact hp
    · exact fun b o n e => kp (Ne.symm n) (s1 _ _ e)
    · show upd _ _ _ lr = _
      rw [upd_ne nylr.symm, upd_same]; rfl
    · intro z; cases z
      · exact st2.keep (fun o e => kp nyq e) (fun o e => kp nyu e) tk
      · exact st1.keep (fun o e => kp nyp e) (fun o e => kp nyw e) tk
    · intro z; cases z
      · refine ⟨[], ?_, .nil⟩
        show upd _ _ _ r0 = _
        rw [upd_ne nyr0.symm, upd_ne n0lr, upd_same]
      · refine ⟨[], ?_, .nil⟩
        show upd _ _ _ r1 = _
        rw [upd_ne nyr1.symm, upd_ne n1lr, upd_ne nr, upd_same]
    · simp only [YA.lists, List.nodup_cons, List.mem_cons, List.not_mem_nil, or_false, not_or, List.nodup_nil, and_true, not_false_eq_true, if_true, if_false, reduceCtorEq]
      exact ⟨⟨ne_of_none hD glr, n2, n4, ne_of_none hD g1, ne_of_none hD g0⟩, ⟨(ne_of_none e1 glr).symm, (ne_of_none e2 glr).symm, n1lr.symm, n0lr.symm⟩, ⟨n6, ne_of_none e1 g1, ne_of_none e1 g0⟩, ⟨ne_of_none e2 g1, ne_of_none e2 g0⟩, nr⟩
    · intro z; cases z
      · exact nyq
      · exact nyp
end
end FL

namespace FL
open PySem PySem.Spec PyProof.Rows L2 CwR TL
local macro_rules | `(tactic| walk_at "tls") => `(tactic| (simp only [TL.tl_append, TL.tl_num, tl_ofL, tl_sgn, tl_empty, List.nil_append, List.append_nil, List.cons_append, List.append_assoc]))
local macro_rules | `(tactic| walk_at "szt") => `(tactic| (simp only [len_ofL, TL.len_tl, TL.tl_append, TL.tl_num, tl_ofL, tl_sgn, tl_empty, List.length_append, List.length_cons, List.length_nil]; omega))
local macro_rules | `(tactic| walk_at "beta") => `(tactic| (try dsimp only [List.set_cons_zero, List.set_cons_succ]))
local macro_rules | `(tactic| walk_at "sq") => `(tactic| first | assumption | exact SqL.of upd_same | exact SqT.of upd_same | exact SqL.of (by assumption) | exact SqT.of (by assumption) | ((with_reducible refine' sq_updI ?h ?s); (case h => walk_at "lk"); (case s => walk_at "sq")) | ((with_reducible refine' sq_updL ?h ?s); (case h => walk_at "lk"); (case s => walk_at "sq")) | ((with_reducible refine' sq_new ?h ?s); (case h => assumption); (case s => walk_at "sq")) | exact SqL.of (by walk_at "lk"))
local macro_rules | `(tactic| walk_at "lk") => `(tactic| first | assumption | exact upd_same | (refine Eq.trans (upd_ne (by assumption)) ?_; walk_at "lk"))
local macro_rules | `(tactic| walk_at "fl") => `(tactic| first | with_reducible exact l_text | with_reducible exact l_ahead | with_reducible exact l_made | with_reducible exact l_taken | with_reducible exact l_heard | with_reducible exact l_wait | with_reducible exact l_own | with_reducible exact l_far | exact l_no (by decide +kernel) | exact two_l1 | exact two_l2 (by decide +kernel) | exact two_no (by decide +kernel) (by decide +kernel))
local macro_rules | `(tactic| walk_at "pl") => `(tactic| first | with_reducible exact p_text | with_reducible exact p_made | with_reducible exact p_taken | with_reducible exact p_heard | with_reducible exact p_wait | with_reducible exact p_own | with_reducible exact p_far | with_reducible exact i_1 | with_reducible exact i_2 | with_reducible exact i_3 | with_reducible exact i_4 | with_reducible exact i_5 | with_reducible exact i_6 | with_reducible exact i_7 | with_reducible exact i_8 | exact ⟨put_past (by decide +kernel), Nat.le_of_ble_eq_true rfl⟩ | exact ⟨rfl, Nat.le_of_ble_eq_true rfl⟩)
local macro_rules | `(tactic| walk_at "wp1") => `(tactic| first
  | with_reducible refine w_seq ?_
  | with_reducible refine w_set ?_
  | ((with_reducible refine' w_var ?e ?k); (case e => exact rfl))
  | with_reducible refine w_c ?_
  | with_reducible refine w_op ?_
  | with_reducible refine w_ret ?_
  | with_reducible refine w_if ?_
  | with_reducible refine w_test ?_
  | with_reducible refine w_bl ?_
  | with_reducible refine w_cons ?_
  | with_reducible refine w_nil ?_
  | with_reducible refine w_call ?_
  | with_reducible refine w_cb ?_
  | with_reducible refine w_next ?_
  | with_reducible refine w_drop ?_
  | with_reducible refine w_asg ?_
  | with_reducible refine w_and ?_
  | with_reducible refine w_or ?_
  | with_reducible refine w_not ?_
  | with_reducible refine w_ifE ?_
  | with_reducible refine w_tB ?_
  | with_reducible refine iteT ?_
  | with_reducible refine iteF ?_
  | with_reducible refine w_addI ?_
  | with_reducible refine w_subI ?_
  | with_reducible refine w_ltI ?_
  | with_reducible refine w_leI ?_
  | with_reducible refine w_gtI ?_
  | with_reducible refine w_geI ?_
  | with_reducible refine w_eqI ?_
  | with_reducible refine w_neI ?_
  | with_reducible refine w_eqS ?_
  | with_reducible refine w_neS ?_
  | with_reducible refine w_is ?_
  | with_reducible refine w_isNot ?_
  | with_reducible refine w_intI ?_
  | with_reducible refine w_intB ?_
  | with_reducible refine w_inC ?_
  | with_reducible refine w_niC ?_
  | ((with_reducible refine' w_ixL ?k ?h ?x); (case h => walk_at "sq"); (case x => rfl))
  | ((with_reducible refine' w_ixT ?k ?h ?x); (case h => walk_at "sq"); (case x => rfl))
  | ((with_reducible refine w_modI ?k ?c); (case c => first | omega | with_reducible assumption | decide))
  | ((with_reducible refine w_divI ?k ?c); (case c => exact ⟨by omega, by omega⟩))
  | ((with_reducible refine w_mulI ?k ?c); (case c => first | exact .inl ⟨by omega, by omega⟩ | exact .inr ⟨by omega, by omega⟩))
  | ((with_reducible refine w_powI ?k ?c); (case c => exact ⟨by decide, by decide, by decide⟩))
  | ((with_reducible refine' w_lenL ?k ?h); (case h => walk_at "sq"))
  | ((with_reducible refine' w_lenT ?k ?h); (case h => walk_at "sq"))
  | ((with_reducible refine w_len ?h ?k); (case h => exact Nat.le_of_ble_eq_true rfl))
  | ((with_reducible refine w_decTS ?h ?k); (case h => exact rfl))
  | ((with_reducible refine w_decFS ?h ?k); (case h => decide +kernel))
  | ((with_reducible refine w_ndecTS ?h ?k); (case h => exact rfl))
  | ((with_reducible refine w_ndecFS ?h ?k); (case h => decide +kernel))
  | ((with_reducible refine w_sz ?h ?k); (case h => walk_at "szt"))
  | ((with_reducible refine w_addS' ?k ?h); (case h => walk_at "szt"))
  | ((with_reducible refine w_strI' ?k ?h); (case h => omega))
  | ((with_reducible refine w_fmtN (A := True) ?h ?k); (case h => omega))
  | with_reducible refine w_chain ?_
  | with_reducible refine w_for ?_
  | with_reducible refine w_lc ?_
  | ((with_reducible refine w_rng ?h ?k); (case h => exact ⟨by omega, by omega⟩))
  | with_reducible refine w_iStr ?_
  | with_reducible refine w_iList ?_
  | with_reducible refine w_iRng1 ?_
  | with_reducible refine w_exR ?_
  | ((with_reducible refine' w_exSqL ?h ?k); (case h => walk_at "sq"))
  | ((with_reducible refine w_lenS ?k ?h); (case h => refine Nat.le_trans ?_ (by decide : 1000000 ≤ sizeLine); walk_at "szt"))
  | ((with_reducible refine w_slS ?k ?h); (case h => refine Nat.le_trans ?_ (by decide : 1000000 ≤ sizeLine); walk_at "szt"))
  | with_reducible refine w_nT ?_
  | with_reducible refine w_nF ?_
  | with_reducible refine w_un ?_
  | with_reducible refine w_negI ?_
  | with_reducible refine w_bm ?_
  | with_reducible refine w_bm0 ?_
  | ((with_reducible refine' w_tyL ?h ?k); (case h => walk_at "sq"))
  | ((with_reducible refine' w_append ?p ?l ?k); (case p => walk_at "lk"); (case l => first | exact Nat.le_of_ble_eq_true rfl | omega))
  | with_reducible refine w_gsub ?_
  | with_reducible refine w_gname ?_
  | ((with_reducible refine' w_set4_0 ?p ?k); (case p => walk_at "lk"))
  | ((with_reducible refine' w_set4_1 ?p ?k); (case p => walk_at "lk"))
  | ((with_reducible refine' w_set4_2 ?p ?k); (case p => walk_at "lk"))
  | ((with_reducible refine' w_set4_3 ?p ?k); (case p => walk_at "lk"))
  | ((with_reducible refine' w_setL ?p ?i ?k); (case p => walk_at "lk"); (case i => exact rfl))
  | with_reducible refine w_tup ?_
  | with_reducible refine w_lst ?_
  | with_reducible refine w_sl ?_
  | with_reducible refine w_noPart ?_
  | with_reducible refine w_part ?_
  | with_reducible refine w_exI ?_
  | with_reducible refine w_exS ?_
  | with_reducible refine w_join ?_
  | with_reducible refine w_split ?_
  | with_reducible refine w_isS ?_
  | with_reducible refine w_joined ?_
  | with_reducible refine w_jsNil ?_
  | with_reducible refine w_jsCons ?_
  | with_reducible refine w_fmt ?_
  | with_reducible refine w_fmtI ?_
  | with_reducible refine w_repl ?_
  | with_reducible refine w_andV ?_
  | with_reducible refine w_orV ?_
  | with_reducible refine w_notV ?_
  | with_reducible refine w_retN ?_
  | with_reducible refine w_brk ?_
  | with_reducible refine w_cont ?_
  | ((with_reducible refine' w_yes (p := ((List.length (_ : List V) : Nat) : Int) = _) ?h ?k); (case h => exact of_decide_eq_true rfl))
  | ((with_reducible refine' w_yes (p := ((List.length (_ : List V) : Nat) : Int) < _) ?h ?k); (case h => exact of_decide_eq_true rfl))
  | ((with_reducible refine' w_yes (p := _ < ((List.length (_ : List V) : Nat) : Int)) ?h ?k); (case h => exact of_decide_eq_true rfl))
  | ((with_reducible refine' w_yes (p := _ = ((List.length (_ : List V) : Nat) : Int)) ?h ?k); (case h => exact of_decide_eq_true rfl))
  | ((with_reducible refine' w_yes (p := ((Str.length (sgn _) : Nat) : Int) = _) ?h ?k); (case h => exact of_decide_eq_true rfl))
  | ((with_reducible refine' w_no (p := ((List.length (_ : List V) : Nat) : Int) = _) ?h ?k); (case h => exact of_decide_eq_false rfl))
  | ((with_reducible refine' w_no (p := ((List.length (_ : List V) : Nat) : Int) < _) ?h ?k); (case h => exact of_decide_eq_false rfl))
  | ((with_reducible refine' w_no (p := _ < ((List.length (_ : List V) : Nat) : Int)) ?h ?k); (case h => exact of_decide_eq_false rfl))
  | ((with_reducible refine' w_no (p := _ = ((List.length (_ : List V) : Nat) : Int)) ?h ?k); (case h => exact of_decide_eq_false rfl))
  | ((with_reducible refine' w_no (p := ((Str.length (sgn _) : Nat) : Int) = _) ?h ?k); (case h => exact of_decide_eq_false rfl))
  | ((with_reducible refine' w_nyes (p := ((List.length (_ : List V) : Nat) : Int) = _) ?h ?k); (case h => exact of_decide_eq_true rfl))
  | ((with_reducible refine' w_nyes (p := ((List.length (_ : List V) : Nat) : Int) < _) ?h ?k); (case h => exact of_decide_eq_true rfl))
  | ((with_reducible refine' w_nyes (p := _ < ((List.length (_ : List V) : Nat) : Int)) ?h ?k); (case h => exact of_decide_eq_true rfl))
  | ((with_reducible refine' w_nyes (p := _ = ((List.length (_ : List V) : Nat) : Int)) ?h ?k); (case h => exact of_decide_eq_true rfl))
  | ((with_reducible refine' w_nyes (p := ((Str.length (sgn _) : Nat) : Int) = _) ?h ?k); (case h => exact of_decide_eq_true rfl))
  | ((with_reducible refine' w_nno (p := ((List.length (_ : List V) : Nat) : Int) = _) ?h ?k); (case h => exact of_decide_eq_false rfl))
  | ((with_reducible refine' w_nno (p := ((List.length (_ : List V) : Nat) : Int) < _) ?h ?k); (case h => exact of_decide_eq_false rfl))
  | ((with_reducible refine' w_nno (p := _ < ((List.length (_ : List V) : Nat) : Int)) ?h ?k); (case h => exact of_decide_eq_false rfl))
  | ((with_reducible refine' w_nno (p := _ = ((List.length (_ : List V) : Nat) : Int)) ?h ?k); (case h => exact of_decide_eq_false rfl))
  | ((with_reducible refine' w_nno (p := ((Str.length (sgn _) : Nat) : Int) = _) ?h ?k); (case h => exact of_decide_eq_false rfl))
  | ((with_reducible refine' w_no (p := (V.ref _ = V.non)) ?h ?k); (case h => intro z9; cases z9))
  | ((with_reducible refine' w_yes (p := (V.non = V.non)) ?h ?k); (case h => rfl))
  | with_reducible refine w_fldC ?_
  | with_reducible refine w_make ?_
  | ((with_reducible refine' w_fldR ?h ?l ?k); (case h => walk_at "lk"); (case l => walk_at "fl"))
  | with_reducible refine w_sfldC ?_
  | ((with_reducible refine' w_sfldR ?h ?l ?k); (case h => walk_at "lk"); (case l => walk_at "pl"))
  | ((with_reducible refine' w_sfldR2 ?h ?l ?k); (case h => walk_at "lk"); (case l => first | exact p_len | exact Nat.le_of_ble_eq_true rfl); (first | rw [p_far.1] | rw [p_text.1] | rw [p_own.1] | rw [p_wait.1] | rw [p_heard.1] | rw [p_made.1] | rw [p_taken.1]))
  | with_reducible refine w_sfldaugC ?_
  | with_reducible refine w_addR ?_
  | with_reducible refine w_subR ?_
  | ((with_reducible refine' w_sfldQ ?h ?l ?k); (case h => walk_at "lk"); (case l => walk_at "pl"))
  | with_reducible refine w_meth ?_
  | ((with_reducible refine' w_methR ?h ?l ?k); (case h => walk_at "lk"); (case l => walk_at "fl"))
  | with_reducible refine w_kget ?_
  | ((with_reducible refine' w_gtup ?h ?l ?k); (case h => walk_at "sq"); (case l => exact rfl))
  | with_reducible refine w_gcons ?_
  | with_reducible refine w_gnil ?_
  | with_reducible refine w_isiII ?_
  | with_reducible refine w_isiIB ?_
  | with_reducible refine w_isiSS ?_
  | ((with_reducible refine' w_isiTT ?h ?k); (case h => walk_at "sq"))
  | ((with_reducible refine' w_isiLL ?h ?k); (case h => walk_at "sq"))
  | with_reducible refine w_ipI ?_
  | with_reducible refine w_par ?_
  | with_reducible refine w_par3 ?_
  | with_reducible refine w_parR ?_
  | with_reducible refine w_parR3 ?_
  | with_reducible refine w_aug ?_
  | ((with_reducible refine' w_var2 ?e ?k); (case e => exact rfl))
  | ((with_reducible refine' w_insL ?p ?l ?k); (case p => walk_at "lk"); (case l => first | omega | decide))
  | rw [kg_put]
  | rw [kg_cut]
  | rw [kg_non])
local macro_rules | `(tactic| walk_at "wp") => `(tactic| ((try dsimp only); (repeat walk_at "wp1"); (walk_at "beta")))
section
variable {K : PySem.W.Frag} {vs : List V} {H : Hp} {Q : VK} {E : XK}
theorem dp_come {v : V} {z : Bool} (h : Dp K H v (Ev.d (.come z))) : ∃ a, v = .ref a ∧ SqT K H a [.str "come", .int (ixZ z)] := by
  obtain ⟨a, xs, rfl, hs, hd⟩ := dp_tup h
  obtain ⟨v1, r1, rfl, h1, hd⟩ := dps_cons hd
  obtain ⟨v2, r2, rfl, h2, hd⟩ := dps_cons hd
  cases dps_nil hd
  rw [dp_str h1, dp_int h2] at hs
  exact ⟨a, rfl, hs⟩
theorem dp_make {v : V} {z : Bool} {e : Deed} (h : Dp K H v (Ev.d (.make z e))) : ∃ a x, v = .ref a ∧ SqT K H a [.str "make", .int (ixZ z), x] ∧ Dp K H x e.d := by
  obtain ⟨a, xs, rfl, hs, hd⟩ := dp_tup h
  obtain ⟨v1, r1, rfl, h1, hd⟩ := dps_cons hd
  obtain ⟨v2, r2, rfl, h2, hd⟩ := dps_cons hd
  obtain ⟨v3, r3, rfl, h3, hd⟩ := dps_cons hd
  cases dps_nil hd
  rw [dp_str h1, dp_int h2] at hs
  exact ⟨a, v3, rfl, hs, h3⟩
theorem YardIn.same {S : Addr → Prop} {H' : Hp} {y : Addr} {Y : Yd} (h : YardIn K S H y Y) (s : Same H H') : YardIn K S H' y Y := by
  obtain ⟨A, h1, h2⟩ := h
  exact ⟨A, h1.keep (fun x _ o e => s _ _ e) (TK.of s), h2⟩
theorem YardIn.ins {S : Addr → Prop} {y : Addr} {Y : Yd} (h : YardIn K S H y Y) : ∃ dx a b, H y = some (.ins (gloA K "Yard") dx [("seats", .ref a), ("roads", .ref b)]) := by
  obtain ⟨A, h1, h2⟩ := h
  obtain ⟨dx, e⟩ := h1.ins
  exact ⟨dx, _, _, e⟩
theorem pr_may_be (h : sp_may_be K vs H Q E) : t_may_be K { nx := fun _ H' => Q .non H', rt := Q } (start N_may_be vs) H := by
  obtain ⟨y, v, e, S, Y, n, rfl, hY, ok, hn, hv, he, k⟩ := h
  obtain ⟨dx, aa, bb, hy⟩ := hY.ins
  unfold t_may_be
  cases e with
  | come z =>
    obtain ⟨a, rfl, hs⟩ := dp_come hv
    walk_at "wp"
    refine ⟨z, rfl, ?_⟩
    walk_at "wp"
    refine ⟨y, z, S, Y, rfl, hY, fun p xs H1 s1 hp hp1 hd => ?_⟩
    walk_at "wp"
    intro q hq
    have s2 := same_new (o := .lst []) hq
    have hrr := (ok.rd z).1
    refine w_neLy (k := 3) ?_ (.lst (SqL.of (s2 _ _ hp1)) (dps_same s2 hd)) (.lst (SqL.of upd_same) .nil) (ly_map fun l hl => ly_letter (hrr l hl)) (ly_lst fun d hd => (List.not_mem_nil hd).elim) (by decide)
    rw [eqv_nil]
    have e1 : ((Y.r z).map Letter.d).isEmpty = (Y.r z).isEmpty := by cases Y.r z <;> rfl
    rw [e1]
    exact k _ (s1.trans s2)
  | make z e =>
    obtain ⟨a, x, rfl, hs, hx⟩ := dp_make hv
    walk_at "wp"
    refine ⟨z, rfl, ?_⟩
    walk_at "wp"
    refine ⟨y, z, S, Y, rfl, hY, fun H1 s1 => ?_⟩
    have hs1 := same_t s1 hs
    walk_at "wp"
    have ot := ok.tx z
    exact ⟨(Y.s z).text, x, e, rfl, by omega, dp_same s1 hx, he, k _ s1⟩
theorem lb_tail {D : Ends} {a b c : Option V} {y f : Addr} {S : Addr → Prop} {Y : Yd} {xs : List V} (hY : YardIn K S H y Y) (hf : H f = some (.lst xs)) (hx : xs.length ≤ 100000)
    (k : ∀ v H3, Same H H3 → Dp K H3 v (both Y) → D.nx [a, b, some (.ref y), some (.ref f), c] (upd H3 f (.lst (xs ++ [v])))) : (tDrop (tBM K "list" rAppend (tVar 3) (tCons (tTup (tCons (tMeth (gloA K "Yard") "shown_at" (sp_Yard_shown_at K) [] E0 (tVar 2) (tCons (tC (.int 0)) tNil)) (tCons (tMeth (gloA K "Yard") "shown_at" (sp_Yard_shown_at K) [] E0 (tVar 2) (tCons (tC (.int 1)) tNil)) tNil))) tNil))) D [a, b, some (.ref y), some (.ref f), c] H := by
  have hfl : SqL K H f xs := SqL.of hf
  obtain ⟨dx, aa, bb, hy⟩ := hY.ins
  walk_at "wp"
  refine ⟨y, true, S, Y, rfl, hY, fun H1 s1 => ?_⟩
  have hy1 := s1 _ _ hy
  walk_at "wp"
  refine ⟨y, false, S, Y, rfl, hY.same s1, fun H2 s2 => ?_⟩
  walk_at "wp"
  intro q hq
  have s3 := (s1.trans s2).trans (same_new (o := .tup [.str (ofL (Y.s true).text), .str (ofL (Y.s false).text)]) hq)
  have hf3 := s3 _ _ hf
  walk_at "wp"
  exact k _ _ s3 (.tup (SqT.of upd_same) (.cons (.str _) (.cons (.str _) .nil)))
theorem runs_take_none {Y : Yd} {es : List Ev} {i : Nat} (h : runs Y (es.take i) = none) : runs Y es = none := by
  have e := runs_app_none (fs := es.drop i) h
  rwa [List.take_append_drop] at e
theorem go_come {Y : Yd} {z : Bool} {x : Letter} {t : List Letter} (h : Y.r z = x :: t) : Y.go (.come z) = Y.take z x t := by
  show (match Y.r z with
    | [] => Y
    | x :: t => Y.take z x t) = _
  rw [h]
theorem pr_lines_behind (h : sp_lines_behind K vs H Q E) : t_lines_behind K { nx := fun _ H' => Q .non H', rt := Q } (start N_lines_behind vs) H := by
  obtain ⟨l, v, es, rfl, hl, hll, hv, he, hel, k⟩ := h
  obtain ⟨ea, ws, rfl, hs, hd⟩ := dp_lst hv
  have hlen := dps_len hd
  rw [List.length_map] at hlen
  unfold t_lines_behind
  walk_at "wp"
  intro y dx hy hdx hne
  refine ⟨y, dx, l, rfl, by omega, upd_same, fun A H1 hA hp f1 t1 at1 => ⟨rfl, ?_⟩⟩
  have s1 : Same H H1 := fun b o e => f1 b o (ne_of_none e hy) (by rw [upd_ne (ne_of_none e hy), upd_ne (ne_of_none e hdx)]; exact e)
  have none0 : ∀ {b}, (upd (upd H dx (.own y)) y (.ins (gloA K "Yard") dx [])) b = none → H b = none := fun {b} e => by
    cases c : H b with
    | none => rfl
    | some o => rw [upd_ne (ne_of_none c hy), upd_ne (ne_of_none c hdx), c] at e; cases e
  have hY0 : YardIn K (fun b => H b ≠ none) H1 y (Yd.new l) := ⟨A, at1, fun x hx s => by
    rcases List.mem_append.mp hx with hx | hx
    · simp only [List.mem_cons, List.not_mem_nil, or_false] at hx
      rcases hx with rfl | rfl | rfl
      · exact s hy
      · exact s (none0 (hp true))
      · exact s (none0 (hp false))
    · exact s (none0 (hA x hx))⟩
  walk_at "wp"
  intro t0 ht0
  have s2 := same_new (o := .tup [.str (ofL l), .str (ofL l)]) ht0
  walk_at "wp"
  intro f hf
  have s3 := s2.trans (same_new (o := .lst [.ref t0]) hf)
  have hfH : H f = none := by
    cases c : H f with
    | none => rfl
    | some o => rw [s2 _ _ (s1 _ _ c)] at hf; cases hf
  have sA := s1.trans s3
  have hss := sA.seq hs
  walk_at "wp"
  have hY1 : YardIn K (fun b => H b ≠ none ∨ b = f) (upd (upd H1 t0 (.tup [.str (ofL l), .str (ofL l)])) f (.lst [.ref t0])) y (Yd.new l) := by
    refine hY0.keep (fun x o hx e => ⟨s3 _ _ e, fun z => ?_⟩) (TK.of s3)
    rcases z with z | z
    · exact hx z
    · rw [z] at e; rw [s2 _ _ e] at hf; cases hf
  refine frb_L (xs := ws) (fun i σ H' => Same H H' ∧ ∃ Ys Y xs ov, runs (Yd.new l) (es.take i) = some (Ys, Y) ∧ YardIn K (fun b => H b ≠ none ∨ b = f) H' y Y ∧ σ = [some (.str (ofL l)), some (.ref ea), some (.ref y), some (.ref f), ov] ∧ H' f = some (.lst xs) ∧ DpAll K H' xs (Ys.map both))
    ⟨sA, [Yd.new l], Yd.new l, [.ref t0], none, rfl, hY1, rfl, upd_same, .cons (.tup (SqT.of (by rw [upd_ne (ne_of_none upd_same hf), upd_same]; rfl)) (.cons (.str _) (.cons (.str _) .nil))) .nil⟩ (fun i σ H' _ p => p.1.seq hs) (fun i x σ H' hi p => ?_) (fun σ H' p => ?_)
  · obtain ⟨s, Ys, Y, xs, ov, hr, hY, rfl, hfx, hdx2⟩ := p
    obtain ⟨e, hei, hex⟩ := dps_at hd hi
    have heo := he e (List.mem_of_getElem? hei)
    have ilt := (List.getElem?_eq_some_iff.mp hei).1
    have ok := runs_ok (n := 1000) (Yd.ok_new hl hll) (fun x hx => he x (List.mem_of_mem_take hx)) hr
    have hok : Y.ok 2000 := ok.mono (by rw [List.length_take]; omega)
    have dm : Dm (fun b => H b ≠ none ∨ b = f) H' := fun b z => by
      rcases z with z | z
      · cases c : H b with
        | none => exact (z c).elim
        | some o => rw [s _ _ c]; simp
      · rw [z, hfx]; simp
    have hxl : xs.length ≤ 100000 := by
      have e1 := dps_len hdx2
      have e2 := runs_len hr
      rw [List.length_map] at e1
      rw [List.length_take] at e2
      have e3 : xs.length = Ys.length := e1
      have e4 : Ys.length = _ := e2
      omega
    have hstep := take_snoc hei
    generalize hT : (tDrop (tBM K "list" rAppend (tVar 3) (tCons (tTup (tCons (tMeth (gloA K "Yard") "shown_at" (sp_Yard_shown_at K) [] E0 (tVar 2) (tCons (tC (.int 0)) tNil)) (tCons (tMeth (gloA K "Yard") "shown_at" (sp_Yard_shown_at K) [] E0 (tVar 2) (tCons (tC (.int 1)) tNil)) tNil))) tNil))) = T
    walk_at "wp"
    refine ⟨y, x, e, _, Y, 2000, rfl, hY, hok, by decide, dp_same s hex, heo, fun H2 s2 => ?_⟩
    have hY2 := hY.same s2
    obtain ⟨dx3, aa, bb, hy3⟩ := hY2.ins
    cases hc : Y.can e with
    | false =>
      walk_at "wp"
      have rn : runs (Yd.new l) es = none := by
        refine runs_take_none (i := i + 1) ?_
        rw [hstep, runs_snoc, hr]
        show (step Y e).map _ = none
        unfold step
        rw [hc]; rfl
      rw [rn] at k
      exact k _ (s.trans s2)
    | true =>
      have rs : runs (Yd.new l) (es.take (i + 1)) = some (Ys ++ [Y.go e], Y.go e) := by
        rw [hstep, runs_snoc, hr]
        show (step Y e).map _ = _
        unfold step
        rw [hc]; rfl
      have fin : ∀ H3 ov, Kp (fun b => H b ≠ none ∨ b = f) H2 H3 → TK H2 H3 → YardIn K (fun b => H b ≠ none ∨ b = f) H3 y (Y.go e) → T { nx := fun σ H' => Same H H' ∧ ∃ Ys Y xs ov, runs (Yd.new l) (es.take (i + 1)) = some (Ys, Y) ∧ YardIn K (fun b => H b ≠ none ∨ b = f) H' y Y ∧ σ = [some (.str (ofL l)), some (.ref ea), some (.ref y), some (.ref f), ov] ∧ H' f = some (.lst xs) ∧ DpAll K H' xs (Ys.map both), ct := fun σ H' => Same H H' ∧ ∃ Ys Y xs ov, runs (Yd.new l) (es.take (i + 1)) = some (Ys, Y) ∧ YardIn K (fun b => H b ≠ none ∨ b = f) H' y Y ∧ σ = [some (.str (ofL l)), some (.ref ea), some (.ref y), some (.ref f), ov] ∧ H' f = some (.lst xs) ∧ DpAll K H' xs (Ys.map both), bk := fun σ H' => tRet (tVar 3) { nx := fun x H' => Q V.non H', rt := Q } σ H', rt := Q } [some (.str (ofL l)), some (.ref ea), some (.ref y), some (.ref f), ov] H3 := by
        intro H3 ov kp t3 hY3
        have hf3 := kp f _ (.inr rfl) (s2 _ _ hfx)
        have s3 : Same H H3 := Kp.same (s.trans s2) kp fun b z => .inl z
        subst hT
        refine lb_tail hY3 hf3 hxl fun v H4 s4 hv4 => ?_
        have t4 : TK H4 (upd H4 f (.lst (xs ++ [v]))) := TK.updL (s4 _ _ hf3)
        refine ⟨fun b o z => by rw [upd_ne (ne_of_none z hfH)]; exact s4 _ _ (s3 _ _ z), _, _, _, ov, rs, ?_, rfl, upd_same, ?_⟩
        · refine (hY3.same s4).keep (fun x o hx z => ⟨?_, hx⟩) t4
          rw [upd_ne (fun e => hx (.inr e))]; exact z
        · rw [List.map_append]
          have nb : ∀ Y : Yd, noL (both Y) = true := fun _ => rfl
          exact dps_app (dps_tk (((TK.of s2).trans t3).trans ((TK.of s4).trans t4)) hdx2 (noLs_map nb _)) (.cons (dp_tk t4 hv4 rfl) .nil)
      cases e with
      | come z =>
        obtain ⟨a, rfl, hsx⟩ := dp_come (dp_same s hex)
        have hsx2 := same_t s2 hsx
        obtain ⟨x0, t0', hrz⟩ : ∃ x t, Y.r z = x :: t := by
          cases c : Y.r z with
          | nil => have hc' : (!(Y.r z).isEmpty) = true := hc; rw [c] at hc'; cases hc'
          | cons x t => exact ⟨x, t, rfl⟩
        walk_at "wp"
        refine ⟨y, z, _, Y, 2000, x0, t0', rfl, hY2, dm.kp (Kp.of s2), hok, by decide, hrz, fun v' H3 kp t3 hY3 hv' => ?_⟩
        walk_at "wp"
        exact fin H3 _ kp t3 (by rw [go_come hrz]; exact hY3)
      | make z d =>
        obtain ⟨a, xd, rfl, hsx, hxd⟩ := dp_make (dp_same s hex)
        have hsx2 := same_t s2 hsx
        walk_at "wp"
        refine ⟨y, z, xd, d, _, Y, 2000, rfl, hY2, dm.kp (Kp.of s2), dp_same s2 hxd, heo, hc, hok, by decide, fun v' H3 kp t3 hY3 hv' => ?_⟩
        walk_at "wp"
        exact fin H3 _ kp t3 hY3
  · obtain ⟨s, Ys, Y, xs, ov, hr, hY, rfl, hfx, hdx2⟩ := p
    rw [hlen, List.take_length] at hr
    walk_at "wp"
    rw [hr] at k
    exact k f xs _ s hfH hfx hdx2
theorem pr_lines_of (h : sp_lines_of K vs H Q E) : t_lines_of K { nx := fun _ H' => Q .non H', rt := Q } (start N_lines_of vs) H := by
  obtain ⟨l, v, es, z, p, rfl, hl, hll, hv, he, hel, hr, k⟩ := h
  unfold t_lines_of
  walk_at "wp"
  refine ⟨l, v, es, rfl, hl, hll, hv, he, hel, ?_⟩
  rw [hr]
  refine fun q xs H1 s1 hq hq1 hd => ?_
  have hsq : SqL K H1 q xs := SqL.of hq1
  have hlen := dps_len hd
  rw [List.length_map, runs_len hr] at hlen
  walk_at "wp"
  refine lcb_P (fun i y _ => ∃ Y, p.1[i]? = some Y ∧ y = .str (ofL (Y.s z).text)) (fun _ => rfl) hsq (by omega) (fun _ _ _ _ _ h => h) (fun i x H2 T hi e1 hT => ?_) (fun r ys H2 hr0 e1 h1 h2 h3 => ?_)
  · obtain ⟨Y, hY, hx⟩ := dps_at hd hi
    obtain ⟨a, vs', rfl, ha, hd'⟩ := dp_tup hx
    obtain ⟨v1, r1, rfl, g1, hd'⟩ := dps_cons hd'
    obtain ⟨v2, r2, rfl, g2, hd'⟩ := dps_cons hd'
    cases dps_nil hd'
    cases dp_str g1
    cases dp_str g2
    walk_at "wp"
    refine w_ixT ?_ (same_t e1 ha) (ix_at (f := fun z => V.str (ofL (Y.s z).text)) z)
    exact hT _ _ (Same.refl _) ⟨Y, hY, rfl⟩
  · have e : ys = p.1.map fun Y => V.str (ofL (Y.s z).text) := by
      have hl2 : ys.length = p.1.length := by rw [h2, hlen, runs_len hr]
      refine List.ext_getElem? fun i => ?_
      cases c : ys[i]? with
      | none => rw [List.getElem?_map, List.getElem?_eq_none_iff.mpr (by rw [← hl2]; exact List.getElem?_eq_none_iff.mp c)]; rfl
      | some y =>
        obtain ⟨Y, g1, g2⟩ := h3 i y c
        rw [List.getElem?_map, g1, g2]; rfl
    rw [e] at h1
    refine k r H2 (s1.trans e1) ?_ h1
    cases c : H r with
    | none => rfl
    | some o => rw [s1 _ _ c] at hr0; cases hr0
end
end FL

namespace FL
open PySem PySem.Spec PyProof.Rows L2 CwR TL
local macro_rules | `(tactic| walk_at "tls") => `(tactic| (simp only [TL.tl_append, TL.tl_num, tl_ofL, tl_sgn, tl_empty, List.nil_append, List.append_nil, List.cons_append, List.append_assoc]))
local macro_rules | `(tactic| walk_at "szt") => `(tactic| (simp only [len_ofL, TL.len_tl, TL.tl_append, TL.tl_num, tl_ofL, tl_sgn, tl_empty, List.length_append, List.length_cons, List.length_nil]; omega))
local macro_rules | `(tactic| walk_at "beta") => `(tactic| (try dsimp only [List.set_cons_zero, List.set_cons_succ]))
local macro_rules | `(tactic| walk_at "sq") => `(tactic| first | assumption | exact SqL.of upd_same | exact SqT.of upd_same | exact SqL.of (by assumption) | exact SqT.of (by assumption) | ((with_reducible refine' sq_updI ?h ?s); (case h => walk_at "lk"); (case s => walk_at "sq")) | ((with_reducible refine' sq_updL ?h ?s); (case h => walk_at "lk"); (case s => walk_at "sq")) | ((with_reducible refine' sq_new ?h ?s); (case h => assumption); (case s => walk_at "sq")) | exact SqL.of (by walk_at "lk"))
local macro_rules | `(tactic| walk_at "lk") => `(tactic| first | assumption | exact upd_same | (refine Eq.trans (upd_ne (by assumption)) ?_; walk_at "lk"))
local macro_rules | `(tactic| walk_at "fl") => `(tactic| first | with_reducible exact l_text | with_reducible exact l_ahead | with_reducible exact l_made | with_reducible exact l_taken | with_reducible exact l_heard | with_reducible exact l_wait | with_reducible exact l_own | with_reducible exact l_far | exact l_no (by decide +kernel) | exact two_l1 | exact two_l2 (by decide +kernel) | exact two_no (by decide +kernel) (by decide +kernel))
local macro_rules | `(tactic| walk_at "pl") => `(tactic| first | with_reducible exact p_text | with_reducible exact p_made | with_reducible exact p_taken | with_reducible exact p_heard | with_reducible exact p_wait | with_reducible exact p_own | with_reducible exact p_far | with_reducible exact i_1 | with_reducible exact i_2 | with_reducible exact i_3 | with_reducible exact i_4 | with_reducible exact i_5 | with_reducible exact i_6 | with_reducible exact i_7 | with_reducible exact i_8 | exact ⟨put_past (by decide +kernel), Nat.le_of_ble_eq_true rfl⟩ | exact ⟨rfl, Nat.le_of_ble_eq_true rfl⟩)
local macro_rules | `(tactic| walk_at "wp1") => `(tactic| first
  | with_reducible refine w_seq ?_
  | with_reducible refine w_set ?_
  | ((with_reducible refine' w_var ?e ?k); (case e => exact rfl))
  | with_reducible refine w_c ?_
  | with_reducible refine w_op ?_
  | with_reducible refine w_ret ?_
  | with_reducible refine w_if ?_
  | with_reducible refine w_test ?_
  | with_reducible refine w_bl ?_
  | with_reducible refine w_cons ?_
  | with_reducible refine w_nil ?_
  | with_reducible refine w_call ?_
  | with_reducible refine w_cb ?_
  | with_reducible refine w_next ?_
  | with_reducible refine w_drop ?_
  | with_reducible refine w_asg ?_
  | with_reducible refine w_and ?_
  | with_reducible refine w_or ?_
  | with_reducible refine w_not ?_
  | with_reducible refine w_ifE ?_
  | with_reducible refine w_tB ?_
  | with_reducible refine iteT ?_
  | with_reducible refine iteF ?_
  | with_reducible refine w_addI ?_
  | with_reducible refine w_subI ?_
  | with_reducible refine w_ltI ?_
  | with_reducible refine w_leI ?_
  | with_reducible refine w_gtI ?_
  | with_reducible refine w_geI ?_
  | with_reducible refine w_eqI ?_
  | with_reducible refine w_neI ?_
  | with_reducible refine w_eqS ?_
  | with_reducible refine w_neS ?_
  | with_reducible refine w_is ?_
  | with_reducible refine w_isNot ?_
  | with_reducible refine w_intI ?_
  | with_reducible refine w_intB ?_
  | with_reducible refine w_inC ?_
  | with_reducible refine w_niC ?_
  | ((with_reducible refine' w_ixL ?k ?h ?x); (case h => walk_at "sq"); (case x => rfl))
  | ((with_reducible refine' w_ixT ?k ?h ?x); (case h => walk_at "sq"); (case x => rfl))
  | ((with_reducible refine w_modI ?k ?c); (case c => first | omega | with_reducible assumption | decide))
  | ((with_reducible refine w_divI ?k ?c); (case c => exact ⟨by omega, by omega⟩))
  | ((with_reducible refine w_mulI ?k ?c); (case c => first | exact .inl ⟨by omega, by omega⟩ | exact .inr ⟨by omega, by omega⟩))
  | ((with_reducible refine w_powI ?k ?c); (case c => exact ⟨by decide, by decide, by decide⟩))
  | ((with_reducible refine' w_lenL ?k ?h); (case h => walk_at "sq"))
  | ((with_reducible refine' w_lenT ?k ?h); (case h => walk_at "sq"))
  | ((with_reducible refine w_len ?h ?k); (case h => exact Nat.le_of_ble_eq_true rfl))
  | ((with_reducible refine w_decTS ?h ?k); (case h => exact rfl))
  | ((with_reducible refine w_decFS ?h ?k); (case h => decide +kernel))
  | ((with_reducible refine w_ndecTS ?h ?k); (case h => exact rfl))
  | ((with_reducible refine w_ndecFS ?h ?k); (case h => decide +kernel))
  | ((with_reducible refine w_sz ?h ?k); (case h => walk_at "szt"))
  | ((with_reducible refine w_addS' ?k ?h); (case h => walk_at "szt"))
  | ((with_reducible refine w_strI' ?k ?h); (case h => omega))
  | ((with_reducible refine w_fmtN (A := True) ?h ?k); (case h => omega))
  | with_reducible refine w_chain ?_
  | with_reducible refine w_for ?_
  | with_reducible refine w_lc ?_
  | ((with_reducible refine w_rng ?h ?k); (case h => exact ⟨by omega, by omega⟩))
  | with_reducible refine w_iStr ?_
  | with_reducible refine w_iList ?_
  | with_reducible refine w_iRng1 ?_
  | with_reducible refine w_exR ?_
  | ((with_reducible refine' w_exSqL ?h ?k); (case h => walk_at "sq"))
  | ((with_reducible refine w_lenS ?k ?h); (case h => refine Nat.le_trans ?_ (by decide : 1000000 ≤ sizeLine); walk_at "szt"))
  | ((with_reducible refine w_slS ?k ?h); (case h => refine Nat.le_trans ?_ (by decide : 1000000 ≤ sizeLine); walk_at "szt"))
  | with_reducible refine w_nT ?_
  | with_reducible refine w_nF ?_
  | with_reducible refine w_un ?_
  | with_reducible refine w_negI ?_
  | with_reducible refine w_bm ?_
  | with_reducible refine w_bm0 ?_
  | ((with_reducible refine' w_tyL ?h ?k); (case h => walk_at "sq"))
  | ((with_reducible refine' w_append ?p ?l ?k); (case p => walk_at "lk"); (case l => first | exact Nat.le_of_ble_eq_true rfl | omega))
  | with_reducible refine w_gsub ?_
  | with_reducible refine w_gname ?_
  | ((with_reducible refine' w_set4_0 ?p ?k); (case p => walk_at "lk"))
  | ((with_reducible refine' w_set4_1 ?p ?k); (case p => walk_at "lk"))
  | ((with_reducible refine' w_set4_2 ?p ?k); (case p => walk_at "lk"))
  | ((with_reducible refine' w_set4_3 ?p ?k); (case p => walk_at "lk"))
  | ((with_reducible refine' w_setL ?p ?i ?k); (case p => walk_at "lk"); (case i => exact rfl))
  | with_reducible refine w_tup ?_
  | with_reducible refine w_lst ?_
  | with_reducible refine w_sl ?_
  | with_reducible refine w_noPart ?_
  | with_reducible refine w_part ?_
  | with_reducible refine w_exI ?_
  | with_reducible refine w_exS ?_
  | with_reducible refine w_join ?_
  | with_reducible refine w_split ?_
  | with_reducible refine w_isS ?_
  | with_reducible refine w_joined ?_
  | with_reducible refine w_jsNil ?_
  | with_reducible refine w_jsCons ?_
  | with_reducible refine w_fmt ?_
  | with_reducible refine w_fmtI ?_
  | with_reducible refine w_repl ?_
  | with_reducible refine w_andV ?_
  | with_reducible refine w_orV ?_
  | with_reducible refine w_notV ?_
  | with_reducible refine w_retN ?_
  | with_reducible refine w_brk ?_
  | with_reducible refine w_cont ?_
  | ((with_reducible refine' w_yes (p := ((List.length (_ : List V) : Nat) : Int) = _) ?h ?k); (case h => exact of_decide_eq_true rfl))
  | ((with_reducible refine' w_yes (p := ((List.length (_ : List V) : Nat) : Int) < _) ?h ?k); (case h => exact of_decide_eq_true rfl))
  | ((with_reducible refine' w_yes (p := _ < ((List.length (_ : List V) : Nat) : Int)) ?h ?k); (case h => exact of_decide_eq_true rfl))
  | ((with_reducible refine' w_yes (p := _ = ((List.length (_ : List V) : Nat) : Int)) ?h ?k); (case h => exact of_decide_eq_true rfl))
  | ((with_reducible refine' w_yes (p := ((Str.length (sgn _) : Nat) : Int) = _) ?h ?k); (case h => exact of_decide_eq_true rfl))
  | ((with_reducible refine' w_no (p := ((List.length (_ : List V) : Nat) : Int) = _) ?h ?k); (case h => exact of_decide_eq_false rfl))
  | ((with_reducible refine' w_no (p := ((List.length (_ : List V) : Nat) : Int) < _) ?h ?k); (case h => exact of_decide_eq_false rfl))
  | ((with_reducible refine' w_no (p := _ < ((List.length (_ : List V) : Nat) : Int)) ?h ?k); (case h => exact of_decide_eq_false rfl))
  | ((with_reducible refine' w_no (p := _ = ((List.length (_ : List V) : Nat) : Int)) ?h ?k); (case h => exact of_decide_eq_false rfl))
  | ((with_reducible refine' w_no (p := ((Str.length (sgn _) : Nat) : Int) = _) ?h ?k); (case h => exact of_decide_eq_false rfl))
  | ((with_reducible refine' w_nyes (p := ((List.length (_ : List V) : Nat) : Int) = _) ?h ?k); (case h => exact of_decide_eq_true rfl))
  | ((with_reducible refine' w_nyes (p := ((List.length (_ : List V) : Nat) : Int) < _) ?h ?k); (case h => exact of_decide_eq_true rfl))
  | ((with_reducible refine' w_nyes (p := _ < ((List.length (_ : List V) : Nat) : Int)) ?h ?k); (case h => exact of_decide_eq_true rfl))
  | ((with_reducible refine' w_nyes (p := _ = ((List.length (_ : List V) : Nat) : Int)) ?h ?k); (case h => exact of_decide_eq_true rfl))
  | ((with_reducible refine' w_nyes (p := ((Str.length (sgn _) : Nat) : Int) = _) ?h ?k); (case h => exact of_decide_eq_true rfl))
  | ((with_reducible refine' w_nno (p := ((List.length (_ : List V) : Nat) : Int) = _) ?h ?k); (case h => exact of_decide_eq_false rfl))
  | ((with_reducible refine' w_nno (p := ((List.length (_ : List V) : Nat) : Int) < _) ?h ?k); (case h => exact of_decide_eq_false rfl))
  | ((with_reducible refine' w_nno (p := _ < ((List.length (_ : List V) : Nat) : Int)) ?h ?k); (case h => exact of_decide_eq_false rfl))
  | ((with_reducible refine' w_nno (p := _ = ((List.length (_ : List V) : Nat) : Int)) ?h ?k); (case h => exact of_decide_eq_false rfl))
  | ((with_reducible refine' w_nno (p := ((Str.length (sgn _) : Nat) : Int) = _) ?h ?k); (case h => exact of_decide_eq_false rfl))
  | ((with_reducible refine' w_no (p := (V.ref _ = V.non)) ?h ?k); (case h => intro z9; cases z9))
  | ((with_reducible refine' w_yes (p := (V.non = V.non)) ?h ?k); (case h => rfl))
  | with_reducible refine w_fldC ?_
  | with_reducible refine w_make ?_
  | ((with_reducible refine' w_fldR ?h ?l ?k); (case h => walk_at "lk"); (case l => walk_at "fl"))
  | with_reducible refine w_sfldC ?_
  | ((with_reducible refine' w_sfldR ?h ?l ?k); (case h => walk_at "lk"); (case l => walk_at "pl"))
  | ((with_reducible refine' w_sfldR2 ?h ?l ?k); (case h => walk_at "lk"); (case l => first | exact p_len | exact Nat.le_of_ble_eq_true rfl); (first | rw [p_far.1] | rw [p_text.1] | rw [p_own.1] | rw [p_wait.1] | rw [p_heard.1] | rw [p_made.1] | rw [p_taken.1]))
  | with_reducible refine w_sfldaugC ?_
  | with_reducible refine w_addR ?_
  | with_reducible refine w_subR ?_
  | ((with_reducible refine' w_sfldQ ?h ?l ?k); (case h => walk_at "lk"); (case l => walk_at "pl"))
  | with_reducible refine w_meth ?_
  | ((with_reducible refine' w_methR ?h ?l ?k); (case h => walk_at "lk"); (case l => walk_at "fl"))
  | with_reducible refine w_kget ?_
  | ((with_reducible refine' w_gtup ?h ?l ?k); (case h => walk_at "sq"); (case l => exact rfl))
  | with_reducible refine w_gcons ?_
  | with_reducible refine w_gnil ?_
  | with_reducible refine w_isiII ?_
  | with_reducible refine w_isiIB ?_
  | with_reducible refine w_isiSS ?_
  | ((with_reducible refine' w_isiTT ?h ?k); (case h => walk_at "sq"))
  | ((with_reducible refine' w_isiLL ?h ?k); (case h => walk_at "sq"))
  | with_reducible refine w_ipI ?_
  | with_reducible refine w_par ?_
  | with_reducible refine w_par3 ?_
  | with_reducible refine w_parR ?_
  | with_reducible refine w_parR3 ?_
  | with_reducible refine w_aug ?_
  | ((with_reducible refine' w_var2 ?e ?k); (case e => exact rfl))
  | ((with_reducible refine' w_insL ?p ?l ?k); (case p => walk_at "lk"); (case l => first | omega | decide))
  | rw [kg_put]
  | rw [kg_cut]
  | rw [kg_non])
local macro_rules | `(tactic| walk_at "wp") => `(tactic| ((try dsimp only); (repeat walk_at "wp1"); (walk_at "beta")))
theorem w_while {c : TT} {tb : TS} {D : Ends} {σ : L2.St} {H : Hp} (W : Nat → L2.St → Hp → Prop) (m0 : Nat) (h0 : W m0 σ H)
    (turn : ∀ m σ H, W m σ H → c σ H fun b H1 => if b = true then ∃ N : L2.St → Hp → Prop, (∀ σ' H', N σ' H' → ∃ m', m' < m ∧ W m' σ' H') ∧ tb { D with nx := N, ct := N, bk := D.nx } σ H1 else D.nx σ H1) : tWhile c tb D σ H :=
  ⟨W, ⟨m0, h0⟩, turn⟩
theorem w_N {W : Nat → L2.St → Hp → Prop} {m : Nat} {R : (L2.St → Hp → Prop) → Prop} (h : R fun σ' H' => ∃ m', m' < m ∧ W m' σ' H') : ∃ N : L2.St → Hp → Prop, (∀ σ' H', N σ' H' → ∃ m', m' < m ∧ W m' σ' H') ∧ R N := ⟨_, fun _ _ z => z, h⟩
/-- numbers in a list -/
def NL (H : Hp) (d : Addr) (n : Nat) : Prop := ∃ ns : List Nat, H d = some (.lst (ns.map fun n : Nat => V.int (n : Int))) ∧ ns.length ≤ n
section
variable {K : PySem.W.Frag} {vs : List V} {H : Hp} {Q : VK} {E : XK}
theorem NL.app {d : Addr} {n : Nat} {j : Int} (h : NL H d n) (hn : n ≤ 99999) (hj : 0 ≤ j) (k : ∀ H', NL H' d (n + 1) → Fr d H H' → Q .non H') : rAppend (.ref d) [.int j] H Q := by
  obtain ⟨ns, e, hl⟩ := h
  refine w_append e (by rw [List.length_map]; omega) (k _ ⟨ns ++ [j.toNat], ?_, by rw [List.length_append]; exact Nat.succ_le_succ hl⟩ (Fr.refl d H).upd)
  rw [upd_same, List.map_append]
  simp only [List.map_cons, List.map_nil, Int.toNat_of_nonneg hj]
theorem NL.ty {d : Addr} {n : Nat} (h : NL H d n) : tyV K "list" (.ref d) H := by
  obtain ⟨ns, e, _⟩ := h
  exact .inl ⟨rfl, _, SqL.of e⟩
theorem NL.mono {d : Addr} {n m : Nat} (h : NL H d n) (l : n ≤ m) : NL H d m := by
  obtain ⟨ns, e, h2⟩ := h
  exact ⟨ns, e, by omega⟩
theorem NL.fr {d : Addr} {n : Nat} {H0 : Hp} (h : NL H d n) (s : Same H0 H) (f : ∀ b, H0 b ≠ none → b ≠ d) {H' : Hp} (k : Fr d H H') : Same H0 H' := fun b o e => k b o (f b (by rw [e]; simp)) (s b o e)
theorem pr__law_take (h : sp__law_take K vs H Q E) : t__law_take K { nx := fun _ H' => Q .non H', rt := Q } (start N__law_take vs) H := by
  obtain ⟨a, m, rfl, ⟨ns, ha, hl⟩, hm, k⟩ := h
  unfold t__law_take
  walk_at "wp"
  intro q hq
  have hqa : a ≠ q := ne_of_none ha hq
  have h1 : (upd H q (.lst [])) a = some (.lst (ns.map fun n : Nat => V.int (n : Int))) := by rw [upd_ne hqa]; exact ha
  refine w_eqLy (k := 1) ?_ (.lst (SqL.of h1) dps_ints) (.lst (SqL.of upd_same) .nil) (ly_map fun n _ => ly_int _) (ly_lst fun d hd => (List.not_mem_nil hd).elim) (by decide)
  rw [eqv_nil]
  cases ns with
  | nil =>
    walk_at "wp"
    exact k 0 _ hm (fun b o n e => by rw [upd_ne (ne_of_none e hq)]; exact e) ⟨[], h1, hl⟩
  | cons n ns =>
    rw [List.map_cons, List.isEmpty_cons]
    rw [List.map_cons] at h1
    have hs1 := SqL.of (K := K) h1
    walk_at "wp"
    refine w_pop0 h1 ?_
    walk_at "wp"
    have e0 := Int.emod_nonneg (n : Int) (show m ≠ 0 by omega)
    have e1 := Int.emod_lt_of_pos (n : Int) hm
    have k' := k ((n : Int) % m).toNat (upd (upd H q (.lst [])) a (.lst (ns.map fun n : Nat => V.int (n : Int)))) (by omega) (fun b o n e => by rw [upd_ne n, upd_ne (ne_of_none e hq)]; exact e) ⟨ns, upd_same, by simp at hl; omega⟩
    rw [Int.toNat_of_nonneg e0] at k'
    exact k'
theorem pr__law_draws (h : sp__law_draws K vs H Q E) : t__law_draws K { nx := fun _ H' => Q .non H', rt := Q } (start N__law_draws vs) H := by
  obtain ⟨a, is, rfl, hs, hl, k⟩ := h
  have hlen : (is.map V.int).length = is.length := List.length_map ..
  unfold t__law_draws
  walk_at "wp"
  intro d hd
  have s0 := same_new (o := .lst []) hd
  have hs0 := s0.seq hs
  walk_at "wp"
  refine ⟨_, _, rfl, ?_⟩
  rw [hlen]
  obtain ⟨n, hn, hn2, hn3⟩ : ∃ n : Nat, (if (80 : Int) < (is.length : Int) then (80 : Int) else (is.length : Int)) = (n : Int) ∧ n ≤ 80 ∧ n ≤ is.length := by
    split
    · exact ⟨80, rfl, by omega, by omega⟩
    · exact ⟨is.length, rfl, by omega, by omega⟩
  rw [hn]
  walk_at "wp"
  rw [Int.toNat_natCast]
  have dn : ∀ b, H b ≠ none → b ≠ d := fun b hb e => hb (by rw [e]; exact hd)
  refine frb_R (fun i σ H' => Same H H' ∧ NL H' d (60 * i) ∧ ∃ u w x y, σ = [some (.ref a), some (.ref d), u, w, x, y]) ⟨s0, ⟨[], upd_same, by simp⟩, _, _, _, _, rfl⟩ (fun i σ H' hi p => ?_) (fun σ H' p => ?_)
  · obtain ⟨s, hN, u, w, x, y, rfl⟩ := p
    have hs' := s.seq hs
    obtain ⟨r, hr⟩ : ∃ r, is[i]? = some r := ⟨is[i]'(by omega), List.getElem?_eq_getElem (by omega)⟩
    walk_at "wp"
    refine w_ixL ?_ hs' (atI_nat (j := i) (by rw [List.getElem?_map, hr]; rfl))
    walk_at "wp"
    refine ⟨r, rfl, ?_⟩
    obtain ⟨R, hR⟩ : ∃ R : Nat, (if r < 0 then -r else r) = (R : Int) := ⟨(if r < 0 then -r else r).toNat, by split <;> omega⟩
    rw [hR]
    walk_at "wp"
    have e18 : (10 : Int) ^ Int.toNat 18 = 1000000000000000000 := by decide +kernel
    rw [e18]
    clear e18
    refine w_dec ?_ ?_ <;> intro hlt
    · walk_at "wp"
      refine ⟨hN.ty, ?_⟩
      walk_at "wp"
      refine hN.app (by omega) (Int.emod_nonneg _ (by decide)) fun H2 hN2 f2 => ?_
      have s2 := hN.fr s dn f2
      walk_at "wp"
      refine ⟨hN2.ty, ?_⟩
      walk_at "wp"
      refine hN2.app (by omega) (Int.emod_nonneg _ (by decide)) fun H3 hN3 f3 => ?_
      have s3 := hN2.fr s2 dn f3
      walk_at "wp"
      refine ⟨hN3.ty, ?_⟩
      walk_at "wp"
      refine hN3.app (by omega) (Int.emod_nonneg _ (by decide)) fun H4 hN4 f4 => ?_
      have s4 := hN3.fr s3 dn f4
      walk_at "wp"
      exact ⟨s4, hN4.mono (by omega), _, _, _, _, rfl⟩
    · walk_at "wp"
      refine w_while (fun m σ H' => Same H H' ∧ ∃ (rest many : Nat) (u v : Option V), m = 60 - many ∧ many ≤ 60 ∧ NL H' d (60 * i + many) ∧ σ = [some (.ref a), some (.ref d), u, some (.int (rest : Int)), v, some (.int (many : Int))]) 60 ⟨s, R, 0, _, _, rfl, by omega, hN, rfl⟩ fun m σ H' p => ?_
      obtain ⟨s, rest, many, u, v, rfl, hm, hN, rfl⟩ := p
      walk_at "wp"
      refine w_dec ?_ ?_ <;> intro h1
      · walk_at "wp"
        refine w_dec ?_ ?_ <;> intro h2
        · refine w_N ?_
          walk_at "wp"
          refine ⟨hN.ty, ?_⟩
          walk_at "wp"
          refine hN.app (by omega) (Int.emod_nonneg _ (by decide)) fun H2 hN2 f2 => ?_
          have s2 := hN.fr s dn f2
          walk_at "wp"
          exact ⟨_, by omega, s2, rest / 1000, many + 1, u, v, rfl, by omega, hN2, rfl⟩
        · walk_at "wp"
          exact ⟨s, hN.mono (by omega), _, _, _, _, rfl⟩
      · walk_at "wp"
        exact ⟨s, hN.mono (by omega), _, _, _, _, rfl⟩
  · obtain ⟨s, ⟨ns, hd2, hl2⟩, u, w, x, y, rfl⟩ := p
    have hsd := SqL.of (K := K) hd2
    walk_at "wp"
    refine .inl ⟨d, _, rfl, hsd, fun q hq => ?_⟩
    refine k q _ (s.trans (same_new hq)) ?_ ⟨ns.take 240, ?_, by rw [List.length_take]; omega⟩
    · cases c : H q with
      | none => rfl
      | some o => rw [s _ _ c] at hq; cases hq
    · rw [upd_same]
      have e : cutV (ns.map fun n : Nat => V.int (n : Int)) none (some 240) = (ns.map fun n : Nat => V.int (n : Int)).take 240 := by
        unfold cutV
        rw [HT.sIx_none, List.drop_zero, Nat.sub_zero, show ((240 : Int)) = ((240 : Nat) : Int) from rfl, HT.sIx_nat]
        by_cases h : 240 ≤ (ns.map fun n : Nat => V.int (n : Int)).length
        · rw [Nat.min_eq_left h]
        · rw [Nat.min_eq_right (by omega), List.take_of_length_le (Nat.le_refl _), List.take_of_length_le (by omega)]
      rw [e, List.map_take]
theorem pr__law_sign (h : sp__law_sign K vs H Q E) : t__law_sign K { nx := fun _ H' => Q .non H', rt := Q } (start N__law_sign vs) H := by
  obtain ⟨a, rfl, hd, k⟩ := h
  unfold t__law_sign
  walk_at "wp"
  intro p hp
  walk_at "wp"
  refine ⟨a, 2, rfl, hd.same (same_new hp), by decide, fun r H1 hr f1 d1 => ?_⟩
  have hl : SqL K H1 p [.str "abz ", .str "abcdefghijklmnopqrstuvwxyz "] := SqL.of (f1 p _ (hd.some hp) upd_same)
  have fH : Fr a H H1 := ((Fr.refl a H).new hp).trans f1
  have hr2 : r = 0 ∨ r = 1 := by omega
  rcases hr2 with rfl | rfl
  · refine w_ixL ?_ hl (by rfl)
    walk_at "wp"
    refine w_lenS ?_ (by decide)
    walk_at "wp"
    refine ⟨a, 4, by rw [show ((Str.ofString "abz ").length : Int) = 4 from by decide +kernel], d1, by decide, fun q H2 hq f2 d2 => ?_⟩
    have al : ∀ j, j < 4 → ∃ c, ("abz " : Str).cps.toList[j]? = some c ∧ okC c = true := by decide +kernel
    obtain ⟨c, hc, hk⟩ := al q (by omega)
    exact w_ixS (k c H2 hk (fH.trans f2) d2) (by decide) (atI_nat hc)
  · refine w_ixL ?_ hl (by rfl)
    walk_at "wp"
    refine w_lenS ?_ (by decide)
    walk_at "wp"
    refine ⟨a, 27, by rw [show ((Str.ofString "abcdefghijklmnopqrstuvwxyz ").length : Int) = 27 from by decide +kernel], d1, by decide, fun q H2 hq f2 d2 => ?_⟩
    have al : ∀ j, j < 27 → ∃ c, ("abcdefghijklmnopqrstuvwxyz " : Str).cps.toList[j]? = some c ∧ okC c = true := by decide +kernel
    obtain ⟨c, hc, hk⟩ := al q (by omega)
    exact w_ixS (k c H2 hk (fH.trans f2) d2) (by decide) (atI_nat hc)
theorem pr__law_deed (h : sp__law_deed K vs H Q E) : t__law_deed K { nx := fun _ H' => Q .non H', rt := Q } (start N__law_deed vs) H := by
  obtain ⟨a, l, rfl, hd, hl, k⟩ := h
  unfold t__law_deed
  walk_at "wp"
  refine ⟨a, 8, rfl, hd, by decide, fun r H1 hr f1 d1 => ?_⟩
  walk_at "wp"
  refine w_dec ?_ ?_ <;> intro h0
  · walk_at "wp"
    intro p hp
    exact k .non _ _ rfl rfl (f1.new hp) (d1.same (same_new hp)) (mk_non (SqT.of upd_same))
  · walk_at "wp"
    have put : (tSeq (tAsg (tOp (rIx K) (tLst (tCons (tC (.int 0)) (tCons (tCB (rLenU K) (tCons (tVar 1) tNil)) (tCons (tOp rModU (tCall (sp__law_take K) [] E0 (tCons (tVar 0) (tCons (tC (.int 1000)) tNil))) (tOp (rAddU K) (tCB (rLenU K) (tCons (tVar 1) tNil)) (tC (.int 1)))) tNil)))) (tCall (sp__law_take K) [] E0 (tCons (tVar 0) (tCons (tC (.int 3)) tNil)))) (gName 3)) (tRet (tTup (tCons (tC (.str "put")) (tCons (tVar 3) (tCons (tCall (sp__law_sign K) [] E0 (tCons (tVar 0) tNil)) tNil)))))) { nx := fun _ H' => Q .non H', rt := Q } [some (.ref a), some (.str (ofL l)), some (.int (r : Int)), none] H1 := by
      walk_at "wp"
      refine ⟨a, 1000, rfl, d1, by decide, fun q H2 hq f2 d2 => ?_⟩
      walk_at "wp"
      intro p hp
      walk_at "wp"
      refine ⟨a, 3, rfl, d2.same (same_new hp), by decide, fun u H3 hu f3 d3 => ?_⟩
      have hs3 := SqL.of (K := K) (f3 p _ (d2.some hp) upd_same)
      have fH : Fr a H H3 := ((f1.trans f2).new hp).trans f3
      have fin : ∀ (x : V) (m : Nat), x = .int (m : Int) → m ≤ l.length → tSeq (tAsg (tC x) (gName 3)) (tRet (tTup (tCons (tC (.str "put")) (tCons (tVar 3) (tCons (tCall (sp__law_sign K) [] E0 (tCons (tVar 0) tNil)) tNil))))) { nx := fun _ H' => Q .non H', rt := Q } [some (.ref a), some (.str (ofL l)), some (.int (r : Int)), none] H3 := by
        intro x m hx hm
        subst hx
        walk_at "wp"
        refine ⟨a, rfl, d3, fun c H4 hc f4 d4 => ?_⟩
        walk_at "wp"
        intro t ht
        exact k (.put m c) _ _ hc (cn_put.mpr hm) ((fH.trans f4).new ht) (d4.same (same_new ht)) (mk_put (SqT.of upd_same))
      have hq2 : ((q : Int) % ((l.length : Int) + 1)) = ((q % (l.length + 1) : Nat) : Int) := by rw [Int.natCast_emod]; rfl
      have hu3 : u = 0 ∨ u = 1 ∨ u = 2 := by omega
      have g0 := fin _ 0 rfl (Nat.zero_le _)
      have g1 := fin _ l.length rfl (Nat.le_refl _)
      have g2 := fin _ (q % (l.length + 1)) rfl (Nat.le_of_lt_succ (Nat.mod_lt q (Nat.succ_pos l.length)))
      rw [len_ofL, hq2] at hs3
      rcases hu3 with rfl | rfl | rfl
      · exact w_ixL g0 hs3 rfl
      · exact w_ixL g1 hs3 rfl
      · exact w_ixL g2 hs3 rfl
    generalize (tSeq (tAsg (tOp (rIx K) (tLst (tCons (tC (.int 0)) (tCons (tCB (rLenU K) (tCons (tVar 1) tNil)) (tCons (tOp rModU (tCall (sp__law_take K) [] E0 (tCons (tVar 0) (tCons (tC (.int 1000)) tNil))) (tOp (rAddU K) (tCB (rLenU K) (tCons (tVar 1) tNil)) (tC (.int 1)))) tNil)))) (tCall (sp__law_take K) [] E0 (tCons (tVar 0) (tCons (tC (.int 3)) tNil)))) (gName 3)) (tRet (tTup (tCons (tC (.str "put")) (tCons (tVar 3) (tCons (tCall (sp__law_sign K) [] E0 (tCons (tVar 0) tNil)) tNil)))))) = T at put ⊢
    refine w_dec ?_ ?_ <;> intro h1
    · walk_at "wp"
      refine w_ndec ?_ ?_ <;> intro h2
      · have hne : 0 < l.length := by
          cases l with
          | nil => exact absurd (by decide +kernel) h2
          | cons c l => exact Nat.succ_pos _
        walk_at "wp"
        refine ⟨a, 1000, rfl, d1, by decide, fun q H2 hq f2 d2 => ?_⟩
        walk_at "wp"
        refine w_modI ?_ (by rw [len_ofL]; omega)
        walk_at "wp"
        intro p hp
        walk_at "wp"
        refine ⟨a, 3, rfl, d2.same (same_new hp), by decide, fun u H3 hu f3 d3 => ?_⟩
        have hs3 := SqL.of (K := K) (f3 p _ (d2.some hp) upd_same)
        have fH : Fr a H H3 := ((f1.trans f2).new hp).trans f3
        have hq2 : ((q : Int) % (l.length : Int)) = ((q % l.length : Nat) : Int) := rfl
        have hl1 : ((l.length : Int) - 1) = ((l.length - 1 : Nat) : Int) := by omega
        rw [len_ofL, hq2, hl1] at hs3
        have fin : ∀ m : Nat, m < l.length → ∀ t, H3 t = none → Q (.ref t) (upd H3 t (.tup [.str "cut", .int (m : Int)])) := fun m hm t ht =>
          k (.cut m) _ _ rfl (cn_cut.mpr hm) (fH.new ht) (d3.same (same_new ht)) (mk_cut (SqT.of upd_same))
        have hu3 : u = 0 ∨ u = 1 ∨ u = 2 := by omega
        rcases hu3 with rfl | rfl | rfl
        · refine w_ixL ?_ hs3 rfl
          walk_at "wp"
          exact fin 0 hne
        · refine w_ixL ?_ hs3 rfl
          walk_at "wp"
          exact fin _ (by omega)
        · refine w_ixL ?_ hs3 rfl
          walk_at "wp"
          exact fin _ (Nat.mod_lt _ hne)
      · walk_at "wp"
        exact put
    · walk_at "wp"
      exact put
theorem pr__law_seats (h : sp__law_seats K vs H Q E) : t__law_seats K { nx := fun _ H' => Q .non H', rt := Q } (start N__law_seats vs) H := by
  obtain ⟨l, rfl, k⟩ := h
  unfold t__law_seats
  walk_at "wp"
  intro w1 hw1
  have s1 := same_new (o := .lst []) hw1
  walk_at "wp"
  intro q1 hq1
  have s2 := s1.trans (same_new (o := .lst [.str (ofL l), .int 0, .int 0, .ref w1]) hq1)
  have n1 : w1 ≠ q1 := ne_of_none upd_same hq1
  walk_at "wp"
  intro w0 hw0
  have s3 := s2.trans (same_new (o := .lst []) hw0)
  have n2 : w1 ≠ w0 := ne_of_none (Eq.trans (upd_ne n1) upd_same) hw0
  have n3 : q1 ≠ w0 := ne_of_none upd_same hw0
  walk_at "wp"
  intro q0 hq0
  have s4 := s3.trans (same_new (o := .lst [.str (ofL l), .int 0, .int 0, .ref w0]) hq0)
  have n4 : w1 ≠ q0 := ne_of_none (Eq.trans (upd_ne n2) (Eq.trans (upd_ne n1) upd_same)) hq0
  have n5 : q1 ≠ q0 := ne_of_none (Eq.trans (upd_ne n3) upd_same) hq0
  have n6 : w0 ≠ q0 := ne_of_none upd_same hq0
  walk_at "wp"
  intro a ha
  have s5 := s4.trans (same_new (o := .lst [.ref q1, .ref q0]) ha)
  have n7 : w1 ≠ a := ne_of_none (Eq.trans (upd_ne n4) (Eq.trans (upd_ne n2) (Eq.trans (upd_ne n1) upd_same))) ha
  have n8 : q1 ≠ a := ne_of_none (Eq.trans (upd_ne n5) (Eq.trans (upd_ne n3) upd_same)) ha
  have n9 : w0 ≠ a := ne_of_none (Eq.trans (upd_ne n6) upd_same) ha
  have n10 : q0 ≠ a := ne_of_none upd_same ha
  have e0 : ∀ {b : Addr} {G : Hp}, Same H G → G b = none → H b = none := fun {b G} s e => by
    cases c : H b with
    | none => rfl
    | some o => rw [s _ _ c] at e; cases e
  refine k a (fun z => if z then q1 else q0) (fun z => if z then w1 else w0) _ s5 (e0 s4 ha) (fun z => ?_) (fun z => ?_) ?_ upd_same (fun z => ?_)
  · cases z
    · exact e0 s3 hq0
    · exact e0 s1 hq1
  · cases z
    · exact e0 s2 hw0
    · exact hw1
  · simp only [List.nodup_cons, List.mem_cons, List.not_mem_nil, or_false, not_or, List.nodup_nil, and_true, not_false_eq_true, if_true, if_false, reduceCtorEq]
    exact ⟨⟨n8.symm, n10.symm, n7.symm, n9.symm⟩, ⟨n5, n1.symm, n3⟩, ⟨n4.symm, n6.symm⟩, n2⟩
  · cases z
    · refine ⟨?_, [], ?_, .nil⟩
      · show upd _ _ _ q0 = _
        rw [upd_ne n10, upd_same]; rfl
      · show upd _ _ _ w0 = _
        rw [upd_ne n9, upd_ne n6, upd_same]
    · refine ⟨?_, [], ?_, .nil⟩
      · show upd _ _ _ q1 = _
        rw [upd_ne n8, upd_ne n5, upd_ne n3, upd_same]; rfl
      · show upd _ _ _ w1 = _
        rw [upd_ne n7, upd_ne n4, upd_ne n2, upd_ne n1, upd_same]
end
end FL

namespace FL
open PySem PySem.Spec PyProof.Rows L2 CwR TL
local macro_rules | `(tactic| walk_at "tls") => `(tactic| (simp only [TL.tl_append, TL.tl_num, tl_ofL, tl_sgn, tl_empty, List.nil_append, List.append_nil, List.cons_append, List.append_assoc]))
local macro_rules | `(tactic| walk_at "szt") => `(tactic| (simp only [len_ofL, TL.len_tl, TL.tl_append, TL.tl_num, tl_ofL, tl_sgn, tl_empty, List.length_append, List.length_cons, List.length_nil]; omega))
local macro_rules | `(tactic| walk_at "beta") => `(tactic| (try dsimp only [List.set_cons_zero, List.set_cons_succ]))
local macro_rules | `(tactic| walk_at "sq") => `(tactic| first | assumption | exact SqL.of upd_same | exact SqT.of upd_same | exact SqL.of (by assumption) | exact SqT.of (by assumption) | ((with_reducible refine' sq_updI ?h ?s); (case h => walk_at "lk"); (case s => walk_at "sq")) | ((with_reducible refine' sq_updL ?h ?s); (case h => walk_at "lk"); (case s => walk_at "sq")) | ((with_reducible refine' sq_new ?h ?s); (case h => assumption); (case s => walk_at "sq")) | exact SqL.of (by walk_at "lk"))
local macro_rules | `(tactic| walk_at "lk") => `(tactic| first | assumption | exact upd_same | (refine Eq.trans (upd_ne (by assumption)) ?_; walk_at "lk"))
local macro_rules | `(tactic| walk_at "fl") => `(tactic| first | with_reducible exact l_text | with_reducible exact l_ahead | with_reducible exact l_made | with_reducible exact l_taken | with_reducible exact l_heard | with_reducible exact l_wait | with_reducible exact l_own | with_reducible exact l_far | exact l_no (by decide +kernel) | exact two_l1 | exact two_l2 (by decide +kernel) | exact two_no (by decide +kernel) (by decide +kernel))
local macro_rules | `(tactic| walk_at "pl") => `(tactic| first | with_reducible exact p_text | with_reducible exact p_made | with_reducible exact p_taken | with_reducible exact p_heard | with_reducible exact p_wait | with_reducible exact p_own | with_reducible exact p_far | with_reducible exact i_1 | with_reducible exact i_2 | with_reducible exact i_3 | with_reducible exact i_4 | with_reducible exact i_5 | with_reducible exact i_6 | with_reducible exact i_7 | with_reducible exact i_8 | exact ⟨put_past (by decide +kernel), Nat.le_of_ble_eq_true rfl⟩ | exact ⟨rfl, Nat.le_of_ble_eq_true rfl⟩)
local macro_rules | `(tactic| walk_at "wp1") => `(tactic| first
  | with_reducible refine w_seq ?_
  | with_reducible refine w_set ?_
  | ((with_reducible refine' w_var ?e ?k); (case e => exact rfl))
  | with_reducible refine w_c ?_
  | with_reducible refine w_op ?_
  | with_reducible refine w_ret ?_
  | with_reducible refine w_if ?_
  | with_reducible refine w_test ?_
  | with_reducible refine w_bl ?_
  | with_reducible refine w_cons ?_
  | with_reducible refine w_nil ?_
  | with_reducible refine w_call ?_
  | with_reducible refine w_cb ?_
  | with_reducible refine w_next ?_
  | with_reducible refine w_drop ?_
  | with_reducible refine w_asg ?_
  | with_reducible refine w_and ?_
  | with_reducible refine w_or ?_
  | with_reducible refine w_not ?_
  | with_reducible refine w_ifE ?_
  | with_reducible refine w_tB ?_
  | with_reducible refine iteT ?_
  | with_reducible refine iteF ?_
  | with_reducible refine w_addI ?_
  | with_reducible refine w_subI ?_
  | with_reducible refine w_ltI ?_
  | with_reducible refine w_leI ?_
  | with_reducible refine w_gtI ?_
  | with_reducible refine w_geI ?_
  | with_reducible refine w_eqI ?_
  | with_reducible refine w_neI ?_
  | with_reducible refine w_eqS ?_
  | with_reducible refine w_neS ?_
  | with_reducible refine w_is ?_
  | with_reducible refine w_isNot ?_
  | with_reducible refine w_intI ?_
  | with_reducible refine w_intB ?_
  | with_reducible refine w_inC ?_
  | with_reducible refine w_niC ?_
  | ((with_reducible refine' w_ixL ?k ?h ?x); (case h => walk_at "sq"); (case x => rfl))
  | ((with_reducible refine' w_ixT ?k ?h ?x); (case h => walk_at "sq"); (case x => rfl))
  | ((with_reducible refine w_modI ?k ?c); (case c => first | omega | with_reducible assumption | decide))
  | ((with_reducible refine w_divI ?k ?c); (case c => exact ⟨by omega, by omega⟩))
  | ((with_reducible refine w_mulI ?k ?c); (case c => first | exact .inl ⟨by omega, by omega⟩ | exact .inr ⟨by omega, by omega⟩))
  | ((with_reducible refine w_powI ?k ?c); (case c => exact ⟨by decide, by decide, by decide⟩))
  | ((with_reducible refine' w_lenL ?k ?h); (case h => walk_at "sq"))
  | ((with_reducible refine' w_lenT ?k ?h); (case h => walk_at "sq"))
  | ((with_reducible refine w_len ?h ?k); (case h => exact Nat.le_of_ble_eq_true rfl))
  | ((with_reducible refine w_decTS ?h ?k); (case h => exact rfl))
  | ((with_reducible refine w_decFS ?h ?k); (case h => decide +kernel))
  | ((with_reducible refine w_ndecTS ?h ?k); (case h => exact rfl))
  | ((with_reducible refine w_ndecFS ?h ?k); (case h => decide +kernel))
  | ((with_reducible refine w_sz ?h ?k); (case h => walk_at "szt"))
  | ((with_reducible refine w_addS' ?k ?h); (case h => walk_at "szt"))
  | ((with_reducible refine w_strI' ?k ?h); (case h => omega))
  | ((with_reducible refine w_fmtN (A := True) ?h ?k); (case h => omega))
  | with_reducible refine w_chain ?_
  | with_reducible refine w_for ?_
  | with_reducible refine w_lc ?_
  | ((with_reducible refine w_rng ?h ?k); (case h => exact ⟨by omega, by omega⟩))
  | with_reducible refine w_iStr ?_
  | with_reducible refine w_iList ?_
  | with_reducible refine w_iRng1 ?_
  | with_reducible refine w_exR ?_
  | ((with_reducible refine' w_exSqL ?h ?k); (case h => walk_at "sq"))
  | ((with_reducible refine w_lenS ?k ?h); (case h => refine Nat.le_trans ?_ (by decide : 1000000 ≤ sizeLine); walk_at "szt"))
  | ((with_reducible refine w_slS ?k ?h); (case h => refine Nat.le_trans ?_ (by decide : 1000000 ≤ sizeLine); walk_at "szt"))
  | with_reducible refine w_nT ?_
  | with_reducible refine w_nF ?_
  | with_reducible refine w_un ?_
  | with_reducible refine w_negI ?_
  | with_reducible refine w_bm ?_
  | with_reducible refine w_bm0 ?_
  | ((with_reducible refine' w_tyL ?h ?k); (case h => walk_at "sq"))
  | ((with_reducible refine' w_append ?p ?l ?k); (case p => walk_at "lk"); (case l => first | exact Nat.le_of_ble_eq_true rfl | omega))
  | with_reducible refine w_gsub ?_
  | with_reducible refine w_gname ?_
  | ((with_reducible refine' w_set4_0 ?p ?k); (case p => walk_at "lk"))
  | ((with_reducible refine' w_set4_1 ?p ?k); (case p => walk_at "lk"))
  | ((with_reducible refine' w_set4_2 ?p ?k); (case p => walk_at "lk"))
  | ((with_reducible refine' w_set4_3 ?p ?k); (case p => walk_at "lk"))
  | ((with_reducible refine' w_setL ?p ?i ?k); (case p => walk_at "lk"); (case i => exact rfl))
  | with_reducible refine w_tup ?_
  | with_reducible refine w_lst ?_
  | with_reducible refine w_sl ?_
  | with_reducible refine w_noPart ?_
  | with_reducible refine w_part ?_
  | with_reducible refine w_exI ?_
  | with_reducible refine w_exS ?_
  | with_reducible refine w_join ?_
  | with_reducible refine w_split ?_
  | with_reducible refine w_isS ?_
  | with_reducible refine w_joined ?_
  | with_reducible refine w_jsNil ?_
  | with_reducible refine w_jsCons ?_
  | with_reducible refine w_fmt ?_
  | with_reducible refine w_fmtI ?_
  | with_reducible refine w_repl ?_
  | with_reducible refine w_andV ?_
  | with_reducible refine w_orV ?_
  | with_reducible refine w_notV ?_
  | with_reducible refine w_retN ?_
  | with_reducible refine w_brk ?_
  | with_reducible refine w_cont ?_
  | ((with_reducible refine' w_yes (p := ((List.length (_ : List V) : Nat) : Int) = _) ?h ?k); (case h => exact of_decide_eq_true rfl))
  | ((with_reducible refine' w_yes (p := ((List.length (_ : List V) : Nat) : Int) < _) ?h ?k); (case h => exact of_decide_eq_true rfl))
  | ((with_reducible refine' w_yes (p := _ < ((List.length (_ : List V) : Nat) : Int)) ?h ?k); (case h => exact of_decide_eq_true rfl))
  | ((with_reducible refine' w_yes (p := _ = ((List.length (_ : List V) : Nat) : Int)) ?h ?k); (case h => exact of_decide_eq_true rfl))
  | ((with_reducible refine' w_yes (p := ((Str.length (sgn _) : Nat) : Int) = _) ?h ?k); (case h => exact of_decide_eq_true rfl))
  | ((with_reducible refine' w_no (p := ((List.length (_ : List V) : Nat) : Int) = _) ?h ?k); (case h => exact of_decide_eq_false rfl))
  | ((with_reducible refine' w_no (p := ((List.length (_ : List V) : Nat) : Int) < _) ?h ?k); (case h => exact of_decide_eq_false rfl))
  | ((with_reducible refine' w_no (p := _ < ((List.length (_ : List V) : Nat) : Int)) ?h ?k); (case h => exact of_decide_eq_false rfl))
  | ((with_reducible refine' w_no (p := _ = ((List.length (_ : List V) : Nat) : Int)) ?h ?k); (case h => exact of_decide_eq_false rfl))
  | ((with_reducible refine' w_no (p := ((Str.length (sgn _) : Nat) : Int) = _) ?h ?k); (case h => exact of_decide_eq_false rfl))
  | ((with_reducible refine' w_nyes (p := ((List.length (_ : List V) : Nat) : Int) = _) ?h ?k); (case h => exact of_decide_eq_true rfl))
  | ((with_reducible refine' w_nyes (p := ((List.length (_ : List V) : Nat) : Int) < _) ?h ?k); (case h => exact of_decide_eq_true rfl))
  | ((with_reducible refine' w_nyes (p := _ < ((List.length (_ : List V) : Nat) : Int)) ?h ?k); (case h => exact of_decide_eq_true rfl))
  | ((with_reducible refine' w_nyes (p := _ = ((List.length (_ : List V) : Nat) : Int)) ?h ?k); (case h => exact of_decide_eq_true rfl))
  | ((with_reducible refine' w_nyes (p := ((Str.length (sgn _) : Nat) : Int) = _) ?h ?k); (case h => exact of_decide_eq_true rfl))
  | ((with_reducible refine' w_nno (p := ((List.length (_ : List V) : Nat) : Int) = _) ?h ?k); (case h => exact of_decide_eq_false rfl))
  | ((with_reducible refine' w_nno (p := ((List.length (_ : List V) : Nat) : Int) < _) ?h ?k); (case h => exact of_decide_eq_false rfl))
  | ((with_reducible refine' w_nno (p := _ < ((List.length (_ : List V) : Nat) : Int)) ?h ?k); (case h => exact of_decide_eq_false rfl))
  | ((with_reducible refine' w_nno (p := _ = ((List.length (_ : List V) : Nat) : Int)) ?h ?k); (case h => exact of_decide_eq_false rfl))
  | ((with_reducible refine' w_nno (p := ((Str.length (sgn _) : Nat) : Int) = _) ?h ?k); (case h => exact of_decide_eq_false rfl))
  | ((with_reducible refine' w_no (p := (V.ref _ = V.non)) ?h ?k); (case h => intro z9; cases z9))
  | ((with_reducible refine' w_yes (p := (V.non = V.non)) ?h ?k); (case h => rfl))
  | with_reducible refine w_fldC ?_
  | with_reducible refine w_make ?_
  | ((with_reducible refine' w_fldR ?h ?l ?k); (case h => walk_at "lk"); (case l => walk_at "fl"))
  | with_reducible refine w_sfldC ?_
  | ((with_reducible refine' w_sfldR ?h ?l ?k); (case h => walk_at "lk"); (case l => walk_at "pl"))
  | ((with_reducible refine' w_sfldR2 ?h ?l ?k); (case h => walk_at "lk"); (case l => first | exact p_len | exact Nat.le_of_ble_eq_true rfl); (first | rw [p_far.1] | rw [p_text.1] | rw [p_own.1] | rw [p_wait.1] | rw [p_heard.1] | rw [p_made.1] | rw [p_taken.1]))
  | with_reducible refine w_sfldaugC ?_
  | with_reducible refine w_addR ?_
  | with_reducible refine w_subR ?_
  | ((with_reducible refine' w_sfldQ ?h ?l ?k); (case h => walk_at "lk"); (case l => walk_at "pl"))
  | with_reducible refine w_meth ?_
  | ((with_reducible refine' w_methR ?h ?l ?k); (case h => walk_at "lk"); (case l => walk_at "fl"))
  | with_reducible refine w_kget ?_
  | ((with_reducible refine' w_gtup ?h ?l ?k); (case h => walk_at "sq"); (case l => exact rfl))
  | with_reducible refine w_gcons ?_
  | with_reducible refine w_gnil ?_
  | with_reducible refine w_isiII ?_
  | with_reducible refine w_isiIB ?_
  | with_reducible refine w_isiSS ?_
  | ((with_reducible refine' w_isiTT ?h ?k); (case h => walk_at "sq"))
  | ((with_reducible refine' w_isiLL ?h ?k); (case h => walk_at "sq"))
  | with_reducible refine w_ipI ?_
  | with_reducible refine w_par ?_
  | with_reducible refine w_par3 ?_
  | with_reducible refine w_parR ?_
  | with_reducible refine w_parR3 ?_
  | with_reducible refine w_aug ?_
  | ((with_reducible refine' w_var2 ?e ?k); (case e => exact rfl))
  | ((with_reducible refine' w_insL ?p ?l ?k); (case p => walk_at "lk"); (case l => first | omega | decide))
  | rw [kg_put]
  | rw [kg_cut]
  | rw [kg_non])
local macro_rules | `(tactic| walk_at "wp") => `(tactic| ((try dsimp only); (repeat walk_at "wp1"); (walk_at "beta")))
section
variable {K : PySem.W.Frag} {vs : List V} {H : Hp} {Q : VK} {E : XK}
theorem w_slA3 {a : Addr} {x0 x1 x2 : V} (hs : SqT K H a [x0, x1, x2]) (k : ∀ q H', Same H H' → SqT K H' q [x0, x1] → Q (.ref q) H') : rSlA K (.ref a) none (some 2) H Q :=
  ⟨a, _, rfl, hs, (fun z => absurd z.2 (by show ¬ HT.sIx 3 3 (some 2) = 3; decide)), fun _ p hp => k p _ (same_new hp) (SqT.of upd_same)⟩
theorem w_slA2 {a : Addr} {x0 x1 : V} (hs : SqT K H a [x0, x1]) (k : ∀ q H', Same H H' → SqT K H' q [x0, x1] → Q (.ref q) H') : rSlA K (.ref a) none (some 2) H Q :=
  ⟨a, _, rfl, hs, (fun _ => k a H (Same.refl H) hs), fun _ p hp => k p _ (same_new hp) (SqT.of upd_same)⟩
theorem pr__law_behind (h : sp__law_behind K vs H Q E) : t__law_behind K { nx := fun _ H' => Q .non H', rt := Q } (start N__law_behind vs) H := by
  obtain ⟨v, w, f, a, b, rfl, hv, hw, k⟩ := h
  unfold t__law_behind
  have fin : ∀ {q : Addr} {p' c : Nat} {H2 : Hp}, Same H H2 → SqT K H2 q [.str "put", .int (p' : Int), .str (sgn c)] → mv a b f = .put p' c → Q (.ref q) H2 := fun s h e => k _ _ s (by rw [e]; exact mk_put h)
  have finc : ∀ {q : Addr} {p' : Nat} {H2 : Hp}, Same H H2 → SqT K H2 q [.str "cut", .int (p' : Int)] → mv a b f = .cut p' → Q (.ref q) H2 := fun s h e => k _ _ s (by rw [e]; exact mk_cut h)
  have nput : ∀ {q : Addr} {j : Int} {p' c : Nat} {H2 : Hp}, j = (p' : Int) → mv a b f = .put p' c → Same H H2 → SqT K H2 q [.str "put", .int j, .str (sgn c)] → Q (.ref q) H2 := fun ej e s h => by subst ej; exact fin s h e
  have ncut : ∀ {q : Addr} {j : Int} {p' : Nat} {H2 : Hp}, j = (p' : Int) → mv a b f = .cut p' → Same H H2 → SqT K H2 q [.str "cut", .int j] → Q (.ref q) H2 := fun ej e s h => by subst ej; exact finc s h e
  cases a with
  | non =>
    obtain ⟨x, rfl, hx⟩ := dp_non hv
    walk_at "wp"
    exact k _ _ (Same.refl _) (by rw [non_mv]; exact hv)
  | put p c =>
    obtain ⟨x, rfl, hx⟩ := dp_put hv
    cases b with
    | non =>
      obtain ⟨y, rfl, hy⟩ := dp_non hw
      walk_at "wp"
      exact k _ _ (Same.refl _) (by rw [mv_non]; exact hv)
    | put q d =>
      obtain ⟨y, rfl, hy⟩ := dp_put hw
      walk_at "wp"
      refine w_slA3 hx fun s2 H2 sH hs2 => ?_
      have hx2 := same_t sH hx
      have hy2 := same_t sH hy
      walk_at "wp"
      refine w_dec ?_ ?_ <;> intro h1
      · skip
        walk_at "wp"
        intro r hr
        walk_at "wp"
        exact w_tailP (same_t (same_new hr) hx2) (SqT.of upd_same) fun u H' s hu => nput (p' := p + 1) (by simp) (by rw [mpp]; exact if_pos (.inl (by omega))) ((sH.trans (same_new hr)).trans s) hu
      · walk_at "wp"
        refine w_dec ?_ ?_ <;> intro h2
        · cases f with
          | true =>
            walk_at "wp"
            intro r hr
            walk_at "wp"
            exact w_tailP (same_t (same_new hr) hx2) (SqT.of upd_same) fun u H' s hu => nput (p' := p) (by simp) (by rw [mpp]; exact if_neg (by simp; omega)) ((sH.trans (same_new hr)).trans s) hu
          | false =>
            walk_at "wp"
            intro r hr
            walk_at "wp"
            exact w_tailP (same_t (same_new hr) hx2) (SqT.of upd_same) fun u H' s hu => nput (p' := p + 1) (by simp) (by rw [mpp]; exact if_pos (.inr ⟨by omega, rfl⟩)) ((sH.trans (same_new hr)).trans s) hu
        · skip
          walk_at "wp"
          intro r hr
          walk_at "wp"
          exact w_tailP (same_t (same_new hr) hx2) (SqT.of upd_same) fun u H' s hu => nput (p' := p) (by simp) (by rw [mpp]; exact if_neg (by omega)) ((sH.trans (same_new hr)).trans s) hu
    | cut q =>
      obtain ⟨y, rfl, hy⟩ := dp_cut hw
      walk_at "wp"
      refine w_slA3 hx fun s2 H2 sH hs2 => ?_
      have hx2 := same_t sH hx
      have hy2 := same_t sH hy
      walk_at "wp"
      intro r hr
      walk_at "wp"
      by_cases h1 : q < p
      · exact w_tailP (same_t (same_new hr) hx2) (SqT.of upd_same) fun u H' s hu => nput (p' := p - 1) (by rw [decide_eq_true (show (q : Int) < p by omega), if_pos rfl]; omega) (by rw [mpc]; exact if_pos h1) ((sH.trans (same_new hr)).trans s) hu
      · exact w_tailP (same_t (same_new hr) hx2) (SqT.of upd_same) fun u H' s hu => nput (p' := p) (by rw [decide_eq_false (show ¬ (q : Int) < p by omega), if_neg Bool.false_ne_true]; omega) (by rw [mpc]; exact if_neg h1) ((sH.trans (same_new hr)).trans s) hu
  | cut p =>
    obtain ⟨x, rfl, hx⟩ := dp_cut hv
    cases b with
    | non =>
      obtain ⟨y, rfl, hy⟩ := dp_non hw
      walk_at "wp"
      exact k _ _ (Same.refl _) (by rw [mv_non]; exact hv)
    | put q d =>
      obtain ⟨y, rfl, hy⟩ := dp_put hw
      walk_at "wp"
      refine w_slA2 hx fun s2 H2 sH hs2 => ?_
      have hx2 := same_t sH hx
      have hy2 := same_t sH hy
      walk_at "wp"
      refine w_dec ?_ ?_ <;> intro h1
      · skip
        walk_at "wp"
        intro r hr
        walk_at "wp"
        exact w_tailC (same_t (same_new hr) hx2) (SqT.of upd_same) fun H' s hu => ncut (p' := p + 1) (by simp) (by rw [mcp]; exact if_pos (.inl (by omega))) ((sH.trans (same_new hr)).trans s) hu
      · walk_at "wp"
        refine w_dec ?_ ?_ <;> intro h2
        · skip
          walk_at "wp"
          intro r hr
          walk_at "wp"
          exact w_tailC (same_t (same_new hr) hx2) (SqT.of upd_same) fun H' s hu => ncut (p' := p + 1) (by simp) (by rw [mcp]; exact if_pos (.inr (by omega))) ((sH.trans (same_new hr)).trans s) hu
        · skip
          walk_at "wp"
          intro r hr
          walk_at "wp"
          exact w_tailC (same_t (same_new hr) hx2) (SqT.of upd_same) fun H' s hu => ncut (p' := p) (by simp) (by rw [mcp]; exact if_neg (by omega)) ((sH.trans (same_new hr)).trans s) hu
    | cut q =>
      obtain ⟨y, rfl, hy⟩ := dp_cut hw
      walk_at "wp"
      refine w_slA2 hx fun s2 H2 sH hs2 => ?_
      have hx2 := same_t sH hx
      have hy2 := same_t sH hy
      walk_at "wp"
      refine w_dec ?_ ?_ <;> intro h2
      · walk_at "wp"
        intro r hr
        exact k _ _ (sH.trans (same_new hr)) (by rw [mcc, if_neg (by omega), if_pos (by omega)]; exact mk_non (SqT.of upd_same))
      · walk_at "wp"
        intro r hr
        walk_at "wp"
        by_cases h1 : q < p
        · exact w_tailC (same_t (same_new hr) hx2) (SqT.of upd_same) fun H' s hu => ncut (p' := p - 1) (by rw [decide_eq_true (show (q : Int) < p by omega), if_pos rfl]; omega) (by rw [mcc]; exact if_pos h1) ((sH.trans (same_new hr)).trans s) hu
        · exact w_tailC (same_t (same_new hr) hx2) (SqT.of upd_same) fun H' s hu => ncut (p' := p) (by rw [decide_eq_false (show ¬ (q : Int) < p by omega), if_neg Bool.false_ne_true]; omega) (by rw [mcc, if_neg h1]; exact if_neg (by omega)) ((sH.trans (same_new hr)).trans s) hu
theorem joinL_nil : ∀ l : List (List Nat), joinL [] l = l.flatten
  | [] => rfl
  | [p] => by simp [joinL]
  | p :: q :: r => by
    have e := joinL_nil (q :: r)
    simp only [joinL, List.flatten_cons, List.append_nil] at e ⊢
    rw [e, List.nil_append]
theorem tl_join0 (ls : List Str) : tl (Txt.join (Str.ofString "") ls) = (ls.map tl).flatten := by
  rw [join_eq, tl_join]
  have e : tl (Str.ofString "") = [] := by decide +kernel
  rw [e, joinL_nil]
theorem pr__law_after (h : sp__law_after K vs H Q E) : t__law_after K { nx := fun _ H' => Q .non H', rt := Q } (start N__law_after vs) H := by
  obtain ⟨l, v, e, rfl, hl, hv, hc, k⟩ := h
  unfold t__law_after
  cases e with
  | non =>
    obtain ⟨x, rfl, hx⟩ := dp_non hv
    walk_at "wp"
    exact k H (Same.refl H)
  | put p c =>
    obtain ⟨x, rfl, hx⟩ := dp_put hv
    have hp := cn_put.mp hc
    walk_at "wp"
    have e0 : (if decide (Str.ofString "put" = Str.ofString "cut") = true then (1 : Int) else 0) = 0 := by decide +kernel
    rw [e0, Int.add_zero]
    have e1 : tl (cutS (ofL l) none (some (p : Int))) = l.take p := cut_to
    have e2 : tl (cutS (ofL l) (some (p : Int)) none) = l.drop p := cut_from
    refine .inr (.inl ⟨x, _, rfl, hx, (fun z => absurd z.1 (by show ¬ HT.sIx 3 0 (some 2) = 0; decide)), fun q hq => ?_⟩)
    refine ⟨Str.ofString "", q, [sgn c], rfl, rfl, .inr (SqT.of upd_same), by show 1 + 1 * 0 ≤ 16777216; decide, ?_⟩
    have e3 : tl (Txt.join (Str.ofString "") [sgn c]) = [c] := by rw [tl_join0]; rfl
    refine w_addS' ?_ (by rw [len_tl, len_tl, e1, e3]; simp; omega)
    walk_at "wp"
    refine w_addS' ?_ (by rw [len_tl, len_tl, TL.tl_append, e1, e2, e3]; simp; omega)
    refine q_eq (k _ (same_new hq)) ?_
    rw [TL.tl_append, TL.tl_append, e1, e2, e3, List.append_assoc]; rfl
  | cut p =>
    obtain ⟨x, rfl, hx⟩ := dp_cut hv
    have hp := cn_cut.mp hc
    walk_at "wp"
    have e0 : (if decide (Str.ofString "cut" = Str.ofString "cut") = true then (1 : Int) else 0) = 1 := by decide +kernel
    rw [e0]
    have e1 : tl (cutS (ofL l) none (some (p : Int))) = l.take p := cut_to
    have e2 : tl (cutS (ofL l) (some ((p : Int) + 1)) none) = l.drop (p + 1) := cut_from (n := p + 1)
    refine .inr (.inl ⟨x, _, rfl, hx, (fun z => absurd z.1 (by show ¬ HT.sIx 2 0 (some 2) = 0; decide)), fun q hq => ?_⟩)
    refine ⟨Str.ofString "", q, [], rfl, rfl, .inr (SqT.of upd_same), by decide, ?_⟩
    have e3 : tl (Txt.join (Str.ofString "") []) = [] := by rw [tl_join0]; rfl
    refine w_addS' ?_ (by rw [len_tl, len_tl, e1, e3]; simp; omega)
    walk_at "wp"
    refine w_addS' ?_ (by rw [len_tl, len_tl, TL.tl_append, e1, e2, e3]; simp; omega)
    refine q_eq (k _ (same_new hq)) ?_
    rw [TL.tl_append, TL.tl_append, e1, e2, e3, List.append_nil]; rfl
end
end FL

namespace FL
open PySem PySem.Spec PyProof.Rows L2 CwR TL
local macro_rules | `(tactic| walk_at "tls") => `(tactic| (simp only [TL.tl_append, TL.tl_num, tl_ofL, tl_sgn, tl_empty, List.nil_append, List.append_nil, List.cons_append, List.append_assoc]))
local macro_rules | `(tactic| walk_at "szt") => `(tactic| (simp only [len_ofL, TL.len_tl, TL.tl_append, TL.tl_num, tl_ofL, tl_sgn, tl_empty, List.length_append, List.length_cons, List.length_nil]; omega))
local macro_rules | `(tactic| walk_at "beta") => `(tactic| (try dsimp only [List.set_cons_zero, List.set_cons_succ]))
local macro_rules | `(tactic| walk_at "sq") => `(tactic| first | assumption | exact SqL.of upd_same | exact SqT.of upd_same | exact SqL.of (by assumption) | exact SqT.of (by assumption) | ((with_reducible refine' sq_updI ?h ?s); (case h => walk_at "lk"); (case s => walk_at "sq")) | ((with_reducible refine' sq_updL ?h ?s); (case h => walk_at "lk"); (case s => walk_at "sq")) | ((with_reducible refine' sq_new ?h ?s); (case h => assumption); (case s => walk_at "sq")) | exact SqL.of (by walk_at "lk"))
local macro_rules | `(tactic| walk_at "lk") => `(tactic| first | assumption | exact upd_same | (refine Eq.trans (upd_ne (by assumption)) ?_; walk_at "lk"))
local macro_rules | `(tactic| walk_at "fl") => `(tactic| first | with_reducible exact l_text | with_reducible exact l_ahead | with_reducible exact l_made | with_reducible exact l_taken | with_reducible exact l_heard | with_reducible exact l_wait | with_reducible exact l_own | with_reducible exact l_far | exact l_no (by decide +kernel) | exact two_l1 | exact two_l2 (by decide +kernel) | exact two_no (by decide +kernel) (by decide +kernel))
local macro_rules | `(tactic| walk_at "pl") => `(tactic| first | with_reducible exact p_text | with_reducible exact p_made | with_reducible exact p_taken | with_reducible exact p_heard | with_reducible exact p_wait | with_reducible exact p_own | with_reducible exact p_far | with_reducible exact i_1 | with_reducible exact i_2 | with_reducible exact i_3 | with_reducible exact i_4 | with_reducible exact i_5 | with_reducible exact i_6 | with_reducible exact i_7 | with_reducible exact i_8 | exact ⟨put_past (by decide +kernel), Nat.le_of_ble_eq_true rfl⟩ | exact ⟨rfl, Nat.le_of_ble_eq_true rfl⟩)
local macro_rules | `(tactic| walk_at "wp1") => `(tactic| first
  | with_reducible refine w_seq ?_
  | with_reducible refine w_set ?_
  | ((with_reducible refine' w_var ?e ?k); (case e => exact rfl))
  | with_reducible refine w_c ?_
  | with_reducible refine w_op ?_
  | with_reducible refine w_ret ?_
  | with_reducible refine w_if ?_
  | with_reducible refine w_test ?_
  | with_reducible refine w_bl ?_
  | with_reducible refine w_cons ?_
  | with_reducible refine w_nil ?_
  | with_reducible refine w_call ?_
  | with_reducible refine w_cb ?_
  | with_reducible refine w_next ?_
  | with_reducible refine w_drop ?_
  | with_reducible refine w_asg ?_
  | with_reducible refine w_and ?_
  | with_reducible refine w_or ?_
  | with_reducible refine w_not ?_
  | with_reducible refine w_ifE ?_
  | with_reducible refine w_tB ?_
  | with_reducible refine iteT ?_
  | with_reducible refine iteF ?_
  | with_reducible refine w_addI ?_
  | with_reducible refine w_subI ?_
  | with_reducible refine w_ltI ?_
  | with_reducible refine w_leI ?_
  | with_reducible refine w_gtI ?_
  | with_reducible refine w_geI ?_
  | with_reducible refine w_eqI ?_
  | with_reducible refine w_neI ?_
  | with_reducible refine w_eqS ?_
  | with_reducible refine w_neS ?_
  | with_reducible refine w_is ?_
  | with_reducible refine w_isNot ?_
  | with_reducible refine w_intI ?_
  | with_reducible refine w_intB ?_
  | with_reducible refine w_inC ?_
  | with_reducible refine w_niC ?_
  | ((with_reducible refine' w_ixL ?k ?h ?x); (case h => walk_at "sq"); (case x => rfl))
  | ((with_reducible refine' w_ixT ?k ?h ?x); (case h => walk_at "sq"); (case x => rfl))
  | ((with_reducible refine w_modI ?k ?c); (case c => first | omega | with_reducible assumption | decide))
  | ((with_reducible refine w_divI ?k ?c); (case c => exact ⟨by omega, by omega⟩))
  | ((with_reducible refine w_mulI ?k ?c); (case c => first | exact .inl ⟨by omega, by omega⟩ | exact .inr ⟨by omega, by omega⟩))
  | ((with_reducible refine w_powI ?k ?c); (case c => exact ⟨by decide, by decide, by decide⟩))
  | ((with_reducible refine' w_lenL ?k ?h); (case h => walk_at "sq"))
  | ((with_reducible refine' w_lenT ?k ?h); (case h => walk_at "sq"))
  | ((with_reducible refine w_len ?h ?k); (case h => exact Nat.le_of_ble_eq_true rfl))
  | ((with_reducible refine w_decTS ?h ?k); (case h => exact rfl))
  | ((with_reducible refine w_decFS ?h ?k); (case h => decide +kernel))
  | ((with_reducible refine w_ndecTS ?h ?k); (case h => exact rfl))
  | ((with_reducible refine w_ndecFS ?h ?k); (case h => decide +kernel))
  | ((with_reducible refine w_sz ?h ?k); (case h => walk_at "szt"))
  | ((with_reducible refine w_addS' ?k ?h); (case h => walk_at "szt"))
  | ((with_reducible refine w_strI' ?k ?h); (case h => omega))
  | ((with_reducible refine w_fmtN (A := True) ?h ?k); (case h => omega))
  | with_reducible refine w_chain ?_
  | with_reducible refine w_for ?_
  | with_reducible refine w_lc ?_
  | ((with_reducible refine w_rng ?h ?k); (case h => exact ⟨by omega, by omega⟩))
  | with_reducible refine w_iStr ?_
  | with_reducible refine w_iList ?_
  | with_reducible refine w_iRng1 ?_
  | with_reducible refine w_exR ?_
  | ((with_reducible refine' w_exSqL ?h ?k); (case h => walk_at "sq"))
  | ((with_reducible refine w_lenS ?k ?h); (case h => refine Nat.le_trans ?_ (by decide : 1000000 ≤ sizeLine); walk_at "szt"))
  | ((with_reducible refine w_slS ?k ?h); (case h => refine Nat.le_trans ?_ (by decide : 1000000 ≤ sizeLine); walk_at "szt"))
  | with_reducible refine w_nT ?_
  | with_reducible refine w_nF ?_
  | with_reducible refine w_un ?_
  | with_reducible refine w_negI ?_
  | with_reducible refine w_bm ?_
  | with_reducible refine w_bm0 ?_
  | ((with_reducible refine' w_tyL ?h ?k); (case h => walk_at "sq"))
  | ((with_reducible refine' w_append ?p ?l ?k); (case p => walk_at "lk"); (case l => first | exact Nat.le_of_ble_eq_true rfl | omega))
  | with_reducible refine w_gsub ?_
  | with_reducible refine w_gname ?_
  | ((with_reducible refine' w_set4_0 ?p ?k); (case p => walk_at "lk"))
  | ((with_reducible refine' w_set4_1 ?p ?k); (case p => walk_at "lk"))
  | ((with_reducible refine' w_set4_2 ?p ?k); (case p => walk_at "lk"))
  | ((with_reducible refine' w_set4_3 ?p ?k); (case p => walk_at "lk"))
  | ((with_reducible refine' w_setL ?p ?i ?k); (case p => walk_at "lk"); (case i => exact rfl))
  | with_reducible refine w_tup ?_
  | with_reducible refine w_lst ?_
  | with_reducible refine w_sl ?_
  | with_reducible refine w_noPart ?_
  | with_reducible refine w_part ?_
  | with_reducible refine w_exI ?_
  | with_reducible refine w_exS ?_
  | with_reducible refine w_join ?_
  | with_reducible refine w_split ?_
  | with_reducible refine w_isS ?_
  | with_reducible refine w_joined ?_
  | with_reducible refine w_jsNil ?_
  | with_reducible refine w_jsCons ?_
  | with_reducible refine w_fmt ?_
  | with_reducible refine w_fmtI ?_
  | with_reducible refine w_repl ?_
  | with_reducible refine w_andV ?_
  | with_reducible refine w_orV ?_
  | with_reducible refine w_notV ?_
  | with_reducible refine w_retN ?_
  | with_reducible refine w_brk ?_
  | with_reducible refine w_cont ?_
  | ((with_reducible refine' w_yes (p := ((List.length (_ : List V) : Nat) : Int) = _) ?h ?k); (case h => exact of_decide_eq_true rfl))
  | ((with_reducible refine' w_yes (p := ((List.length (_ : List V) : Nat) : Int) < _) ?h ?k); (case h => exact of_decide_eq_true rfl))
  | ((with_reducible refine' w_yes (p := _ < ((List.length (_ : List V) : Nat) : Int)) ?h ?k); (case h => exact of_decide_eq_true rfl))
  | ((with_reducible refine' w_yes (p := _ = ((List.length (_ : List V) : Nat) : Int)) ?h ?k); (case h => exact of_decide_eq_true rfl))
  | ((with_reducible refine' w_yes (p := ((Str.length (sgn _) : Nat) : Int) = _) ?h ?k); (case h => exact of_decide_eq_true rfl))
  | ((with_reducible refine' w_no (p := ((List.length (_ : List V) : Nat) : Int) = _) ?h ?k); (case h => exact of_decide_eq_false rfl))
  | ((with_reducible refine' w_no (p := ((List.length (_ : List V) : Nat) : Int) < _) ?h ?k); (case h => exact of_decide_eq_false rfl))
  | ((with_reducible refine' w_no (p := _ < ((List.length (_ : List V) : Nat) : Int)) ?h ?k); (case h => exact of_decide_eq_false rfl))
  | ((with_reducible refine' w_no (p := _ = ((List.length (_ : List V) : Nat) : Int)) ?h ?k); (case h => exact of_decide_eq_false rfl))
  | ((with_reducible refine' w_no (p := ((Str.length (sgn _) : Nat) : Int) = _) ?h ?k); (case h => exact of_decide_eq_false rfl))
  | ((with_reducible refine' w_nyes (p := ((List.length (_ : List V) : Nat) : Int) = _) ?h ?k); (case h => exact of_decide_eq_true rfl))
  | ((with_reducible refine' w_nyes (p := ((List.length (_ : List V) : Nat) : Int) < _) ?h ?k); (case h => exact of_decide_eq_true rfl))
  | ((with_reducible refine' w_nyes (p := _ < ((List.length (_ : List V) : Nat) : Int)) ?h ?k); (case h => exact of_decide_eq_true rfl))
  | ((with_reducible refine' w_nyes (p := _ = ((List.length (_ : List V) : Nat) : Int)) ?h ?k); (case h => exact of_decide_eq_true rfl))
  | ((with_reducible refine' w_nyes (p := ((Str.length (sgn _) : Nat) : Int) = _) ?h ?k); (case h => exact of_decide_eq_true rfl))
  | ((with_reducible refine' w_nno (p := ((List.length (_ : List V) : Nat) : Int) = _) ?h ?k); (case h => exact of_decide_eq_false rfl))
  | ((with_reducible refine' w_nno (p := ((List.length (_ : List V) : Nat) : Int) < _) ?h ?k); (case h => exact of_decide_eq_false rfl))
  | ((with_reducible refine' w_nno (p := _ < ((List.length (_ : List V) : Nat) : Int)) ?h ?k); (case h => exact of_decide_eq_false rfl))
  | ((with_reducible refine' w_nno (p := _ = ((List.length (_ : List V) : Nat) : Int)) ?h ?k); (case h => exact of_decide_eq_false rfl))
  | ((with_reducible refine' w_nno (p := ((Str.length (sgn _) : Nat) : Int) = _) ?h ?k); (case h => exact of_decide_eq_false rfl))
  | ((with_reducible refine' w_no (p := (V.ref _ = V.non)) ?h ?k); (case h => intro z9; cases z9))
  | ((with_reducible refine' w_yes (p := (V.non = V.non)) ?h ?k); (case h => rfl))
  | with_reducible refine w_fldC ?_
  | with_reducible refine w_make ?_
  | ((with_reducible refine' w_fldR ?h ?l ?k); (case h => walk_at "lk"); (case l => walk_at "fl"))
  | with_reducible refine w_sfldC ?_
  | ((with_reducible refine' w_sfldR ?h ?l ?k); (case h => walk_at "lk"); (case l => walk_at "pl"))
  | ((with_reducible refine' w_sfldR2 ?h ?l ?k); (case h => walk_at "lk"); (case l => first | exact p_len | exact Nat.le_of_ble_eq_true rfl); (first | rw [p_far.1] | rw [p_text.1] | rw [p_own.1] | rw [p_wait.1] | rw [p_heard.1] | rw [p_made.1] | rw [p_taken.1]))
  | with_reducible refine w_sfldaugC ?_
  | with_reducible refine w_addR ?_
  | with_reducible refine w_subR ?_
  | ((with_reducible refine' w_sfldQ ?h ?l ?k); (case h => walk_at "lk"); (case l => walk_at "pl"))
  | with_reducible refine w_meth ?_
  | ((with_reducible refine' w_methR ?h ?l ?k); (case h => walk_at "lk"); (case l => walk_at "fl"))
  | with_reducible refine w_kget ?_
  | ((with_reducible refine' w_gtup ?h ?l ?k); (case h => walk_at "sq"); (case l => exact rfl))
  | with_reducible refine w_gcons ?_
  | with_reducible refine w_gnil ?_
  | with_reducible refine w_isiII ?_
  | with_reducible refine w_isiIB ?_
  | with_reducible refine w_isiSS ?_
  | ((with_reducible refine' w_isiTT ?h ?k); (case h => walk_at "sq"))
  | ((with_reducible refine' w_isiLL ?h ?k); (case h => walk_at "sq"))
  | with_reducible refine w_ipI ?_
  | with_reducible refine w_par ?_
  | with_reducible refine w_par3 ?_
  | with_reducible refine w_parR ?_
  | with_reducible refine w_parR3 ?_
  | with_reducible refine w_aug ?_
  | ((with_reducible refine' w_var2 ?e ?k); (case e => exact rfl))
  | ((with_reducible refine' w_insL ?p ?l ?k); (case p => walk_at "lk"); (case l => first | omega | decide))
  | rw [kg_put]
  | rw [kg_cut]
  | rw [kg_non])
local macro_rules | `(tactic| walk_at "wp") => `(tactic| ((try dsimp only); (repeat walk_at "wp1"); (walk_at "beta")))
section
variable {K : PySem.W.Frag} {vs : List V} {H : Hp} {Q : VK} {E : XK}
theorem tyV_lst {p : Addr} {xs : List V} (h : H p = some (.lst xs)) : tyV K "list" (.ref p) H := .inl ⟨rfl, _, SqL.of h⟩
theorem LSeat.ne {q w : Addr} {s : Seat} (h : LSeat K H q w s) : q ≠ w := fun e => by
  obtain ⟨xs, hw, hd⟩ := h.wt
  rw [← e, h.st] at hw
  cases hw
  cases c : s.wait with
  | nil => rw [c] at hd; cases hd
  | cons d r => rw [c] at hd; cases hd with | cons a b => cases a
theorem pr__law_make (h : sp__law_make K vs H Q E) : t__law_make K { nx := fun _ H' => Q .non H', rt := Q } (start N__law_make vs) H := by
  obtain ⟨a, q, w, s, z, v, e, rfl, hls, hL, hv, hc, h1, h2, hm, k⟩ := h
  have nqw : q z ≠ w := hL.ne
  obtain ⟨xs, hw, hd⟩ := hL.wt
  have hq := hL.st
  have nwq := nqw.symm
  have hxl : xs.length ≤ 100000 := by have := dps_len hd; rw [pend_len] at this; omega
  unfold t__law_make
  walk_at "wp"
  refine w_ixL ?_ (SqL.of hls) (ix_at (f := fun b => V.ref (q b)) z)
  walk_at "wp"
  refine ⟨s.text, v, e, rfl, by omega, hv, hc, fun H1 s1 => ?_⟩
  have hq1 := s1 _ _ hq
  have hw1 := s1 _ _ hw
  walk_at "wp"
  intro p hp
  have nqp : q z ≠ p := ne_of_none upd_same hp
  have nwp : w ≠ p := ne_of_none (Eq.trans (upd_ne nwq) hw1) hp
  walk_at "wp"
  intro r hr
  have s2 := same_new (o := .tup [.int (s.made + 1 - 1 : Int), .int (s.taken : Int), v]) hr
  have f1 : Fr2 (q z) (w) H H1 := Fr2.of s1
  have e2 : s.heard + s.wait.length = s.made := hm.symm
  have dv1 := dp_same s1 hv
  have t1 : TK H1 (upd H1 (q z) (.lst [.str (ofL (dn s.text e)), .int (s.made : Int), .int (s.taken : Int), .ref (w)])) := TK.updL hq1
  have t2 := t1.trans (TK.new (o := .tup [.int (s.made : Int), v]) hp)
  have t3 := t2.trans (TK.updL (o := .lst (xs ++ [.ref p])) (a := w) (xs := xs) (by rw [upd_ne nwp, upd_ne nwq]; exact hw1))
  have t4 := t3.trans (TK.updL (o := .lst [.str (ofL (dn s.text e)), .int (s.made + 1 : Int), .int (s.taken : Int), .ref (w)]) (a := q z) (xs := [.str (ofL (dn s.text e)), .int (s.made : Int), .int (s.taken : Int), .ref (w)]) (by rw [upd_ne nqw, upd_ne nqp, upd_same]))
  have t5 := t4.trans (TK.of s2)
  have hpt : SqT K _ p [.int (s.made : Int), v] := (((TK.updL (o := .lst (xs ++ [.ref p])) (a := w) (xs := xs) ((upd_ne nwp).trans ((upd_ne nwq).trans hw1))).trans (TK.updL (o := .lst [.str (ofL (dn s.text e)), .int (s.made + 1 : Int), .int (s.taken : Int), .ref (w)]) (a := q z) (xs := [.str (ofL (dn s.text e)), .int (s.made : Int), .int (s.taken : Int), .ref (w)]) ((upd_ne nqw).trans ((upd_ne nqp).trans upd_same)))).trans (TK.of s2)).t (SqT.of (K := K) upd_same)
  refine k (.ref r) _ (((((f1.fst).new hp).snd).fst).new hr) ((TK.of s1).trans t5) ⟨?_, xs ++ [.ref p], ?_, ?_⟩ ?_
  · refine s2 _ _ (Eq.trans upd_same ?_); rfl
  · exact s2 _ _ ((upd_ne nwq).trans upd_same)
  · show DpAll K _ _ (pend s.heard (s.wait ++ [e]))
    rw [pend_app, e2]
    exact dps_app (dps_tk ((TK.of s1).trans t5) hd (noL_pend _ _)) (.cons (.tup hpt (.cons (.int _) (.cons (dp_tk t5 dv1 (noL_deed _)) .nil))) .nil)
  · refine .tup (SqT.of upd_same) ?_
    have ee : (s.made + 1 - 1 : Int) = (s.made : Int) := by omega
    refine .cons ?_ (.cons (.int _) (.cons (dp_tk t5 dv1 (noL_deed _)) .nil))
    show Dp K _ (.int (s.made + 1 - 1 : Int)) _
    rw [ee]; exact .int _
theorem drop_snoc {α : Type} {w : List α} {i m : Nat} {x : α} (h : w[i]? = some x) (hm : m ≤ i) : (w.take (i + 1)).drop m = (w.take i).drop m ++ [x] := by
  rw [take_snoc h, List.drop_append_of_le_length]
  rw [List.length_take]
  have := (List.getElem?_eq_some_iff.mp h).1
  omega
theorem drop_none {α : Type} {w : List α} {i m : Nat} (hm : i ≤ m) : (w.take i).drop m = [] := List.drop_of_length_le (by rw [List.length_take]; omega)
theorem pr__law_come (h : sp__law_come K vs H Q E) : t__law_come K { nx := fun _ H' => Q .non H', rt := Q } (start N__law_come vs) H := by
  obtain ⟨a, q, wa, s, z, v, l, dd, rfl, hls, hL, hdd, hv, hc, hh, h1, h2, k⟩ := h
  have nqw : q z ≠ wa := hL.ne
  obtain ⟨xs, hw, hd⟩ := hL.wt
  have hq := hL.st
  have nwq := nqw.symm
  obtain ⟨la, ys, x, rfl, hs, hx, i1, i2⟩ : ∃ la ys x, v = .ref la ∧ SqT K H la ys ∧ Dp K H x l.deed.d ∧ atI ys 1 = some (.int (l.taken : Int)) ∧ atI ys 2 = some x := by
    rcases hdd with rfl | rfl
    · obtain ⟨la, x, rfl, hs, hx⟩ := dp_letter hv
      exact ⟨la, _, x, rfl, hs, hx, rfl, rfl⟩
    · obtain ⟨la, xs, rfl, hs, hd⟩ := dp_tup hv
      obtain ⟨v1, r1, rfl, g1, hd⟩ := dps_cons hd
      obtain ⟨v2, r2, rfl, g2, hd⟩ := dps_cons hd
      obtain ⟨v3, r3, rfl, g3, hd⟩ := dps_cons hd
      cases dps_nil hd
      cases dp_int g1
      cases dp_int g2
      exact ⟨la, _, v3, rfl, hs, g3, rfl, rfl⟩
  have ez0 : decide (ixZ z = 0) = z := by cases z <;> rfl
  have ez1 : decide (ixZ z = 1) = !z := by cases z <;> rfl
  have hlen := dps_len hd
  rw [pend_len] at hlen
  unfold t__law_come
  walk_at "wp"
  refine w_ixL ?_ (SqL.of hls) (ix_at (f := fun b => V.ref (q b)) z)
  walk_at "wp"
  refine w_ixT ?_ hs i2
  walk_at "wp"
  intro lf hlf
  have s0 := same_new (o := .lst []) hlf
  have hq0 := s0 _ _ hq
  walk_at "wp"
  have hw0 : SqL K (upd H lf (.lst [])) (wa) xs := SqL.of (s0 _ _ hw)
  walk_at "wp"
  refine frb_L (xs := xs) (fun i σ H' => Same H H' ∧ ∃ dv ms n o, σ = [some (.ref a), some (.int (ixZ z)), some (.ref la), some (.ref (q z)), some dv, some (.ref lf), n, o] ∧ Dp K H' dv (come z l.deed ((s.wait.take i).drop (l.taken - s.heard))).1.d ∧ H' lf = some (.lst ms) ∧ DpAll K H' ms (pend l.taken (come z l.deed ((s.wait.take i).drop (l.taken - s.heard))).2))
    ⟨s0, x, [], none, none, rfl, by rw [drop_none (Nat.zero_le _)]; exact dp_same s0 hx, upd_same, by rw [drop_none (Nat.zero_le _)]; exact .nil⟩ (fun i σ H' _ p => SqL.of (p.1 _ _ hw)) (fun i y σ H' hi p => ?_) (fun σ H' p => ?_)
  · obtain ⟨sH, dv, ms, n, o, rfl, hdv, hms, hmd⟩ := p
    obtain ⟨e, he, hye⟩ := dps_get hd hi
    rw [pend_get] at he
    obtain ⟨w, hwi, rfl⟩ : ∃ w, s.wait[i]? = some w ∧ e = .tuple [.int ((s.heard + i : Nat) : Int), w.d] := by
      cases c : s.wait[i]? with
      | none => rw [c] at he; cases he
      | some w => rw [c] at he; simp at he; exact ⟨w, rfl, by rw [← he]; simp⟩
    obtain ⟨ta, us, rfl, hts, htd⟩ := dp_tup (dp_same sH hye)
    obtain ⟨v1, r1, rfl, g1, htd⟩ := dps_cons htd
    obtain ⟨v2, r2, rfl, g2, htd⟩ := dps_cons htd
    cases dps_nil htd
    cases dp_int g1
    have hs' := same_t sH hs
    have ilt := (List.getElem?_eq_some_iff.mp hwi).1
    walk_at "wp"
    refine w_ixT ?_ hs' i1
    walk_at "wp"
    refine w_dec ?_ ?_ <;> intro hn
    · have hmi : l.taken - s.heard ≤ i := by omega
      have hms2 : ms.length = i - (l.taken - s.heard) := by
        have := dps_len hmd
        rw [pend_len, come_len, List.length_drop, List.length_take] at this; omega
      walk_at "wp"
      rw [ez0]
      refine ⟨v2, dv, z, w, _, rfl, g2, hdv, fun v' H2 s2 hv' => ?_⟩
      walk_at "wp"
      intro p hp
      have s3 := s2.trans (same_new (o := .tup [.int ((s.heard + i : Nat) : Int), v']) hp)
      have hms3 := s3 _ _ hms
      have hml : ms.length ≤ 100000 := by omega
      walk_at "wp"
      rw [ez1]
      have t4 : TK _ (upd (upd H2 p (.tup [.int ((s.heard + i : Nat) : Int), v'])) lf (.lst (ms ++ [.ref p]))) := TK.updL hms3
      have s4 : Same H (upd (upd H2 p (.tup [.int ((s.heard + i : Nat) : Int), v'])) lf (.lst (ms ++ [.ref p]))) := fun b o hb => by
        rw [upd_ne (ne_of_none hb hlf)]; exact s3 _ _ (sH _ _ hb)
      refine ⟨dv, v2, !z, _, w, rfl, dp_tk t4 (dp_same s3 hdv) (noL_deed _), dp_tk t4 (dp_same s3 g2) (noL_deed _), fun v3 H5 s5 hv3 => ?_⟩
      walk_at "wp"
      refine ⟨s4.trans s5, v3, ms ++ [.ref p], _, _, rfl, ?_, s5 _ _ upd_same, ?_⟩
      · rw [drop_snoc hwi hmi, come_app]; exact hv3
      · rw [drop_snoc hwi hmi, come_app]
        show DpAll K H5 _ (pend l.taken ((come z l.deed ((s.wait.take i).drop (l.taken - s.heard))).2 ++ [mv w _ z]))
        rw [pend_app]
        refine dps_app (dps_tk ((TK.of s3).trans (t4.trans (TK.of s5))) hmd (noL_pend _ _)) (.cons ?_ .nil)
        have en : l.taken + (come z l.deed ((s.wait.take i).drop (l.taken - s.heard))).2.length = s.heard + i := by
          rw [come_len, List.length_drop, List.length_take]; omega
        rw [en]
        refine dp_tk (t4.trans (TK.of s5)) (.tup (SqT.of upd_same) (.cons (.int _) (.cons (dp_same (same_new hp) hv') .nil))) ?_
        simp [noL, noLs, noL_deed]
    · have hmi : i + 1 ≤ l.taken - s.heard := by omega
      walk_at "wp"
      rw [drop_none (show i ≤ _ by omega)] at hdv hmd
      refine ⟨sH, dv, ms, _, _, rfl, ?_, hms, ?_⟩
      · rw [drop_none hmi]; exact hdv
      · rw [drop_none hmi]; exact hmd
  · obtain ⟨sH, dv, ms, n, o, rfl, hdv, hms, hmd⟩ := p
    rw [hlen, List.take_length] at hdv hmd
    have ed : come z l.deed (s.wait.drop (l.taken - s.heard)) = tkW z s l := rfl
    rw [ed] at hdv hmd
    have hq1 := sH _ _ hq
    have nql : q z ≠ lf := ne_of_none hq hlf
    walk_at "wp"
    refine ⟨s.text, dv, _, rfl, by omega, hdv, hc, fun H2 s2 => ?_⟩
    have hq2 := s2 _ _ hq1
    walk_at "wp"
    simp only [upd_upd]
    have t4 : TK H2 (upd H2 (q z) (.lst [.str (ofL (dn s.text (tkW z s l).1)), .int (s.made : Int), .int (s.taken + 1 : Int), .ref lf])) := TK.updL hq2
    have t5 := (TK.of s2).trans t4
    refine k dv lf _ (Fr2.of (sH.trans s2)).fst ((TK.of sH).trans t5) hlf ⟨?_, ms, ?_, dps_tk t5 hmd (noL_pend _ _)⟩ (dp_tk t5 hdv (noL_deed _))
    · rw [upd_same]; rfl
    · rw [upd_ne nql.symm]; exact s2 _ _ hms
end
end FL

namespace FL
open PySem PySem.Spec PyProof.Rows L2 CwR TL
local macro_rules | `(tactic| walk_at "tls") => `(tactic| (simp only [TL.tl_append, TL.tl_num, tl_ofL, tl_sgn, tl_empty, List.nil_append, List.append_nil, List.cons_append, List.append_assoc]))
local macro_rules | `(tactic| walk_at "szt") => `(tactic| (simp only [len_ofL, TL.len_tl, TL.tl_append, TL.tl_num, tl_ofL, tl_sgn, tl_empty, List.length_append, List.length_cons, List.length_nil]; omega))
local macro_rules | `(tactic| walk_at "beta") => `(tactic| (try dsimp only [List.set_cons_zero, List.set_cons_succ]))
local macro_rules | `(tactic| walk_at "sq") => `(tactic| first | assumption | exact SqL.of upd_same | exact SqT.of upd_same | exact SqL.of (by assumption) | exact SqT.of (by assumption) | ((with_reducible refine' sq_updI ?h ?s); (case h => walk_at "lk"); (case s => walk_at "sq")) | ((with_reducible refine' sq_updL ?h ?s); (case h => walk_at "lk"); (case s => walk_at "sq")) | ((with_reducible refine' sq_new ?h ?s); (case h => assumption); (case s => walk_at "sq")) | exact SqL.of (by walk_at "lk"))
local macro_rules | `(tactic| walk_at "lk") => `(tactic| first | assumption | exact upd_same | (refine Eq.trans (upd_ne (by assumption)) ?_; walk_at "lk"))
local macro_rules | `(tactic| walk_at "fl") => `(tactic| first | with_reducible exact l_text | with_reducible exact l_ahead | with_reducible exact l_made | with_reducible exact l_taken | with_reducible exact l_heard | with_reducible exact l_wait | with_reducible exact l_own | with_reducible exact l_far | exact l_no (by decide +kernel) | exact two_l1 | exact two_l2 (by decide +kernel) | exact two_no (by decide +kernel) (by decide +kernel))
local macro_rules | `(tactic| walk_at "pl") => `(tactic| first | with_reducible exact p_text | with_reducible exact p_made | with_reducible exact p_taken | with_reducible exact p_heard | with_reducible exact p_wait | with_reducible exact p_own | with_reducible exact p_far | with_reducible exact i_1 | with_reducible exact i_2 | with_reducible exact i_3 | with_reducible exact i_4 | with_reducible exact i_5 | with_reducible exact i_6 | with_reducible exact i_7 | with_reducible exact i_8 | exact ⟨put_past (by decide +kernel), Nat.le_of_ble_eq_true rfl⟩ | exact ⟨rfl, Nat.le_of_ble_eq_true rfl⟩)
local macro_rules | `(tactic| walk_at "wp1") => `(tactic| first
  | with_reducible refine w_seq ?_
  | with_reducible refine w_set ?_
  | ((with_reducible refine' w_var ?e ?k); (case e => exact rfl))
  | with_reducible refine w_c ?_
  | with_reducible refine w_op ?_
  | with_reducible refine w_ret ?_
  | with_reducible refine w_if ?_
  | with_reducible refine w_test ?_
  | with_reducible refine w_bl ?_
  | with_reducible refine w_cons ?_
  | with_reducible refine w_nil ?_
  | with_reducible refine w_call ?_
  | with_reducible refine w_cb ?_
  | with_reducible refine w_next ?_
  | with_reducible refine w_drop ?_
  | with_reducible refine w_asg ?_
  | with_reducible refine w_and ?_
  | with_reducible refine w_or ?_
  | with_reducible refine w_not ?_
  | with_reducible refine w_ifE ?_
  | with_reducible refine w_tB ?_
  | with_reducible refine iteT ?_
  | with_reducible refine iteF ?_
  | with_reducible refine w_addI ?_
  | with_reducible refine w_subI ?_
  | with_reducible refine w_ltI ?_
  | with_reducible refine w_leI ?_
  | with_reducible refine w_gtI ?_
  | with_reducible refine w_geI ?_
  | with_reducible refine w_eqI ?_
  | with_reducible refine w_neI ?_
  | with_reducible refine w_eqS ?_
  | with_reducible refine w_neS ?_
  | with_reducible refine w_is ?_
  | with_reducible refine w_isNot ?_
  | with_reducible refine w_intI ?_
  | with_reducible refine w_intB ?_
  | with_reducible refine w_inC ?_
  | with_reducible refine w_niC ?_
  | ((with_reducible refine' w_ixL ?k ?h ?x); (case h => walk_at "sq"); (case x => rfl))
  | ((with_reducible refine' w_ixT ?k ?h ?x); (case h => walk_at "sq"); (case x => rfl))
  | ((with_reducible refine w_modI ?k ?c); (case c => first | omega | with_reducible assumption | decide))
  | ((with_reducible refine w_divI ?k ?c); (case c => exact ⟨by omega, by omega⟩))
  | ((with_reducible refine w_mulI ?k ?c); (case c => first | exact .inl ⟨by omega, by omega⟩ | exact .inr ⟨by omega, by omega⟩))
  | ((with_reducible refine w_powI ?k ?c); (case c => exact ⟨by decide, by decide, by decide⟩))
  | ((with_reducible refine' w_lenL ?k ?h); (case h => walk_at "sq"))
  | ((with_reducible refine' w_lenT ?k ?h); (case h => walk_at "sq"))
  | ((with_reducible refine w_len ?h ?k); (case h => exact Nat.le_of_ble_eq_true rfl))
  | ((with_reducible refine w_decTS ?h ?k); (case h => exact rfl))
  | ((with_reducible refine w_decFS ?h ?k); (case h => decide +kernel))
  | ((with_reducible refine w_ndecTS ?h ?k); (case h => exact rfl))
  | ((with_reducible refine w_ndecFS ?h ?k); (case h => decide +kernel))
  | ((with_reducible refine w_sz ?h ?k); (case h => walk_at "szt"))
  | ((with_reducible refine w_addS' ?k ?h); (case h => walk_at "szt"))
  | ((with_reducible refine w_strI' ?k ?h); (case h => omega))
  | ((with_reducible refine w_fmtN (A := True) ?h ?k); (case h => omega))
  | with_reducible refine w_chain ?_
  | with_reducible refine w_for ?_
  | with_reducible refine w_lc ?_
  | ((with_reducible refine w_rng ?h ?k); (case h => exact ⟨by omega, by omega⟩))
  | with_reducible refine w_iStr ?_
  | with_reducible refine w_iList ?_
  | with_reducible refine w_iRng1 ?_
  | with_reducible refine w_exR ?_
  | ((with_reducible refine' w_exSqL ?h ?k); (case h => walk_at "sq"))
  | ((with_reducible refine w_lenS ?k ?h); (case h => refine Nat.le_trans ?_ (by decide : 1000000 ≤ sizeLine); walk_at "szt"))
  | ((with_reducible refine w_slS ?k ?h); (case h => refine Nat.le_trans ?_ (by decide : 1000000 ≤ sizeLine); walk_at "szt"))
  | with_reducible refine w_nT ?_
  | with_reducible refine w_nF ?_
  | with_reducible refine w_un ?_
  | with_reducible refine w_negI ?_
  | with_reducible refine w_bm ?_
  | with_reducible refine w_bm0 ?_
  | ((with_reducible refine' w_tyL ?h ?k); (case h => walk_at "sq"))
  | ((with_reducible refine' w_append ?p ?l ?k); (case p => walk_at "lk"); (case l => first | exact Nat.le_of_ble_eq_true rfl | omega))
  | with_reducible refine w_gsub ?_
  | with_reducible refine w_gname ?_
  | ((with_reducible refine' w_set4_0 ?p ?k); (case p => walk_at "lk"))
  | ((with_reducible refine' w_set4_1 ?p ?k); (case p => walk_at "lk"))
  | ((with_reducible refine' w_set4_2 ?p ?k); (case p => walk_at "lk"))
  | ((with_reducible refine' w_set4_3 ?p ?k); (case p => walk_at "lk"))
  | ((with_reducible refine' w_setL ?p ?i ?k); (case p => walk_at "lk"); (case i => exact rfl))
  | with_reducible refine w_tup ?_
  | with_reducible refine w_lst ?_
  | with_reducible refine w_sl ?_
  | with_reducible refine w_noPart ?_
  | with_reducible refine w_part ?_
  | with_reducible refine w_exI ?_
  | with_reducible refine w_exS ?_
  | with_reducible refine w_join ?_
  | with_reducible refine w_split ?_
  | with_reducible refine w_isS ?_
  | with_reducible refine w_joined ?_
  | with_reducible refine w_jsNil ?_
  | with_reducible refine w_jsCons ?_
  | with_reducible refine w_fmt ?_
  | with_reducible refine w_fmtI ?_
  | with_reducible refine w_repl ?_
  | with_reducible refine w_andV ?_
  | with_reducible refine w_orV ?_
  | with_reducible refine w_notV ?_
  | with_reducible refine w_retN ?_
  | with_reducible refine w_brk ?_
  | with_reducible refine w_cont ?_
  | ((with_reducible refine' w_yes (p := ((List.length (_ : List V) : Nat) : Int) = _) ?h ?k); (case h => exact of_decide_eq_true rfl))
  | ((with_reducible refine' w_yes (p := ((List.length (_ : List V) : Nat) : Int) < _) ?h ?k); (case h => exact of_decide_eq_true rfl))
  | ((with_reducible refine' w_yes (p := _ < ((List.length (_ : List V) : Nat) : Int)) ?h ?k); (case h => exact of_decide_eq_true rfl))
  | ((with_reducible refine' w_yes (p := _ = ((List.length (_ : List V) : Nat) : Int)) ?h ?k); (case h => exact of_decide_eq_true rfl))
  | ((with_reducible refine' w_yes (p := ((Str.length (sgn _) : Nat) : Int) = _) ?h ?k); (case h => exact of_decide_eq_true rfl))
  | ((with_reducible refine' w_no (p := ((List.length (_ : List V) : Nat) : Int) = _) ?h ?k); (case h => exact of_decide_eq_false rfl))
  | ((with_reducible refine' w_no (p := ((List.length (_ : List V) : Nat) : Int) < _) ?h ?k); (case h => exact of_decide_eq_false rfl))
  | ((with_reducible refine' w_no (p := _ < ((List.length (_ : List V) : Nat) : Int)) ?h ?k); (case h => exact of_decide_eq_false rfl))
  | ((with_reducible refine' w_no (p := _ = ((List.length (_ : List V) : Nat) : Int)) ?h ?k); (case h => exact of_decide_eq_false rfl))
  | ((with_reducible refine' w_no (p := ((Str.length (sgn _) : Nat) : Int) = _) ?h ?k); (case h => exact of_decide_eq_false rfl))
  | ((with_reducible refine' w_nyes (p := ((List.length (_ : List V) : Nat) : Int) = _) ?h ?k); (case h => exact of_decide_eq_true rfl))
  | ((with_reducible refine' w_nyes (p := ((List.length (_ : List V) : Nat) : Int) < _) ?h ?k); (case h => exact of_decide_eq_true rfl))
  | ((with_reducible refine' w_nyes (p := _ < ((List.length (_ : List V) : Nat) : Int)) ?h ?k); (case h => exact of_decide_eq_true rfl))
  | ((with_reducible refine' w_nyes (p := _ = ((List.length (_ : List V) : Nat) : Int)) ?h ?k); (case h => exact of_decide_eq_true rfl))
  | ((with_reducible refine' w_nyes (p := ((Str.length (sgn _) : Nat) : Int) = _) ?h ?k); (case h => exact of_decide_eq_true rfl))
  | ((with_reducible refine' w_nno (p := ((List.length (_ : List V) : Nat) : Int) = _) ?h ?k); (case h => exact of_decide_eq_false rfl))
  | ((with_reducible refine' w_nno (p := ((List.length (_ : List V) : Nat) : Int) < _) ?h ?k); (case h => exact of_decide_eq_false rfl))
  | ((with_reducible refine' w_nno (p := _ < ((List.length (_ : List V) : Nat) : Int)) ?h ?k); (case h => exact of_decide_eq_false rfl))
  | ((with_reducible refine' w_nno (p := _ = ((List.length (_ : List V) : Nat) : Int)) ?h ?k); (case h => exact of_decide_eq_false rfl))
  | ((with_reducible refine' w_nno (p := ((Str.length (sgn _) : Nat) : Int) = _) ?h ?k); (case h => exact of_decide_eq_false rfl))
  | ((with_reducible refine' w_no (p := (V.ref _ = V.non)) ?h ?k); (case h => intro z9; cases z9))
  | ((with_reducible refine' w_yes (p := (V.non = V.non)) ?h ?k); (case h => rfl))
  | with_reducible refine w_fldC ?_
  | with_reducible refine w_make ?_
  | ((with_reducible refine' w_fldR ?h ?l ?k); (case h => walk_at "lk"); (case l => walk_at "fl"))
  | with_reducible refine w_sfldC ?_
  | ((with_reducible refine' w_sfldR ?h ?l ?k); (case h => walk_at "lk"); (case l => walk_at "pl"))
  | ((with_reducible refine' w_sfldR2 ?h ?l ?k); (case h => walk_at "lk"); (case l => first | exact p_len | exact Nat.le_of_ble_eq_true rfl); (first | rw [p_far.1] | rw [p_text.1] | rw [p_own.1] | rw [p_wait.1] | rw [p_heard.1] | rw [p_made.1] | rw [p_taken.1]))
  | with_reducible refine w_sfldaugC ?_
  | with_reducible refine w_addR ?_
  | with_reducible refine w_subR ?_
  | ((with_reducible refine' w_sfldQ ?h ?l ?k); (case h => walk_at "lk"); (case l => walk_at "pl"))
  | with_reducible refine w_meth ?_
  | ((with_reducible refine' w_methR ?h ?l ?k); (case h => walk_at "lk"); (case l => walk_at "fl"))
  | with_reducible refine w_kget ?_
  | ((with_reducible refine' w_gtup ?h ?l ?k); (case h => walk_at "sq"); (case l => exact rfl))
  | with_reducible refine w_gcons ?_
  | with_reducible refine w_gnil ?_
  | with_reducible refine w_isiII ?_
  | with_reducible refine w_isiIB ?_
  | with_reducible refine w_isiSS ?_
  | ((with_reducible refine' w_isiTT ?h ?k); (case h => walk_at "sq"))
  | ((with_reducible refine' w_isiLL ?h ?k); (case h => walk_at "sq"))
  | with_reducible refine w_ipI ?_
  | with_reducible refine w_par ?_
  | with_reducible refine w_par3 ?_
  | with_reducible refine w_parR ?_
  | with_reducible refine w_parR3 ?_
  | with_reducible refine w_aug ?_
  | ((with_reducible refine' w_var2 ?e ?k); (case e => exact rfl))
  | ((with_reducible refine' w_insL ?p ?l ?k); (case p => walk_at "lk"); (case l => first | omega | decide))
  | rw [kg_put]
  | rw [kg_cut]
  | rw [kg_non])
local macro_rules | `(tactic| walk_at "wp") => `(tactic| ((try dsimp only); (repeat walk_at "wp1"); (walk_at "beta")))
section
variable {K : PySem.W.Frag} {vs : List V} {H : Hp} {Q : VK} {E : XK}
theorem list_of {α : Type} {ys : List V} {n : Nat} {f : α → V} {p : α → Prop} (hl : ys.length = n) (h : ∀ (i : Nat) y, ys[i]? = some y → ∃ c, p c ∧ y = f c) : ∃ cs : List α, ys = cs.map f ∧ cs.length = n ∧ ∀ c ∈ cs, p c := by
  induction ys generalizing n with
  | nil => exact ⟨[], rfl, hl, fun c hc => (List.not_mem_nil hc).elim⟩
  | cons y ys ih =>
    obtain ⟨c, hc, rfl⟩ := h 0 y rfl
    obtain ⟨cs, h1, h2, h3⟩ := ih (n := ys.length) rfl fun i y hi => h (i + 1) y (by simpa using hi)
    refine ⟨c :: cs, by rw [h1]; rfl, by rw [List.length_cons, h2, ← hl]; rfl, fun d hd => ?_⟩
    rcases List.mem_cons.mp hd with rfl | hd
    · exact hc
    · exact h3 d hd
theorem sgn_sum : ∀ ds : List Nat, ((ds.map sgn).map (·.length)).sum = ds.length
  | [] => rfl
  | c :: ds => by
    have e := sgn_sum ds
    simp only [List.map_cons, List.sum_cons, List.length_cons] at e ⊢
    rw [e]; show 1 + _ = _; omega
theorem sgn_flat : ∀ ds : List Nat, (ds.map (tl ∘ sgn)).flatten = ds
  | [] => rfl
  | c :: ds => by rw [List.map_cons, List.flatten_cons, sgn_flat ds]; rfl
theorem pr__law_line (h : sp__law_line K vs H Q E) : t__law_line K { nx := fun _ H' => Q .non H', rt := Q } (start N__law_line vs) H := by
  obtain ⟨a, rfl, hd, k⟩ := h
  unfold t__law_line
  walk_at "wp"
  refine ⟨a, 5, rfl, hd, by decide, fun r1 H1 hr1 f1 d1 => ?_⟩
  walk_at "wp"
  refine ⟨a, 41, rfl, d1, by decide, fun r2 H2 hr2 f2 d2 => ?_⟩
  walk_at "wp"
  intro p hp
  walk_at "wp"
  refine ⟨a, 3, rfl, d2.same (same_new hp), by decide, fun r3 H3 hr3 f3 d3 => ?_⟩
  have hs3 := SqL.of (K := K) (f3 p _ (d2.some hp) upd_same)
  have fH : Fr a H H3 := ((f1.trans f2).new hp).trans f3
  obtain ⟨m, hm, hm2⟩ : ∃ m : Nat, atI [V.int (r1 : Int), V.int (r2 : Int), V.int 40] (r3 : Int) = some (.int (m : Int)) ∧ m ≤ 40 := by
    have h3 : r3 = 0 ∨ r3 = 1 ∨ r3 = 2 := by omega
    rcases h3 with rfl | rfl | rfl
    · exact ⟨r1, rfl, by omega⟩
    · exact ⟨r2, rfl, by omega⟩
    · exact ⟨40, rfl, by omega⟩
  refine w_ixL ?_ hs3 hm
  walk_at "wp"
  have da : H3 a ≠ none := by obtain ⟨ns, e, _⟩ := d3; rw [e]; simp
  refine lcb_R (n := 6) (d := a) (fun _ y _ => ∃ c, okC c = true ∧ y = .str (sgn c)) (fun _ H' => DrawsAt H' a) (fun _ => rfl) (by decide) da d3 (fun i H1 H2 s e => s.keep fun o ho => by rw [← e]; exact ho) (fun _ _ _ _ _ h => h) (fun i H4 T hi f4 d4 hT => ?_) (fun q ys H4 hq f4 hys hyl hyp d4 => ?_)
  · walk_at "wp"
    refine ⟨a, rfl, d4, fun c H5 hc f5 d5 => ?_⟩
    exact hT _ _ f5 (d4.tk f5) d5 ⟨c, hc, rfl⟩
  · obtain ⟨cs, rfl, hcl, hcs⟩ := list_of hyl hyp
    walk_at "wp"
    refine ⟨a, 11, rfl, d4, by decide, fun st H5 hst f5 d5 => ?_⟩
    have hq5 : H5 q = some (.lst (cs.map fun c => V.str (sgn c))) := f5 q _ (fun e => by rw [e] at hq; exact da hq) hys
    have hqs := SqL.of (K := K) hq5
    walk_at "wp"
    rw [Int.toNat_natCast]
    have da5 : H5 a ≠ none := by obtain ⟨ns, e, _⟩ := d5; rw [e]; simp
    refine lcb_R (n := m) (d := a) (fun _ y _ => ∃ c, okC c = true ∧ y = .str (sgn c)) (fun _ H' => DrawsAt H' a) (fun _ => rfl) (by omega) da5 d5 (fun i H1 H2 s e => s.keep fun o ho => by rw [← e]; exact ho) (fun _ _ _ _ _ h => h) (fun i H6 T hi f6 d6 hT => ?_) (fun u zs H6 hu f6 hzs hzl hzp d6 => ?_)
    · have nqa : q ≠ a := fun e => by rw [e] at hq; exact da hq
      have hqs6 := SqL.of (K := K) (f6 q _ nqa hq5)
      walk_at "wp"
      obtain ⟨j, hj, hj6⟩ : ∃ j : Nat, ((0 + (i : Int)) * (1 + (st : Int)) + (0 + (i : Int)) * (0 + (i : Int))) % 6 = (j : Int) ∧ j < 6 := by
        have e0 := Int.emod_nonneg ((0 + (i : Int)) * (1 + (st : Int)) + (0 + (i : Int)) * (0 + (i : Int))) (show (6 : Int) ≠ 0 by decide)
        have e1 := Int.emod_lt_of_pos ((0 + (i : Int)) * (1 + (st : Int)) + (0 + (i : Int)) * (0 + (i : Int))) (show (0 : Int) < 6 by decide)
        exact ⟨_, (Int.toNat_of_nonneg e0).symm, by omega⟩
      rw [hj]
      obtain ⟨c, hc⟩ : ∃ c, cs[j]? = some c := ⟨cs[j]'(by omega), List.getElem?_eq_getElem (by omega)⟩
      refine w_ixL ?_ hqs6 (atI_nat (j := j) (by rw [List.getElem?_map, hc]; rfl))
      exact hT _ _ (Fr.refl a H6) (TK.refl _) d6 ⟨c, hcs c (List.mem_of_getElem? hc), rfl⟩
    · obtain ⟨ds, rfl, hdl, hds⟩ := list_of hzl hzp
      have ef : (ds.map fun c => V.str (sgn c)) = (ds.map sgn).map V.str := by rw [List.map_map]; rfl
      refine ⟨Str.ofString "", u, ds.map sgn, rfl, rfl, .inl (SqL.of (by rw [hzs, ef])), ?_, ?_⟩
      · have h1 := sgn_sum ds
        have h2 : (Str.ofString "").length = 0 := by decide +kernel
        rw [h1, h2]; omega
      · refine q_eq (l := ds) (k ds H6 ?_ (by omega) ?_ d6) ?_
        · unfold okL; rw [List.all_eq_true]; exact hds
        · exact ((fH.trans f4).trans f5).trans f6
        · rw [tl_join0, List.map_map]; exact sgn_flat ds
end
end FL

namespace FL
open PySem PySem.Spec PyProof.Rows L2 CwR TL
local macro_rules | `(tactic| walk_at "tls") => `(tactic| (simp only [TL.tl_append, TL.tl_num, tl_ofL, tl_sgn, tl_empty, List.nil_append, List.append_nil, List.cons_append, List.append_assoc]))
local macro_rules | `(tactic| walk_at "szt") => `(tactic| (simp only [len_ofL, TL.len_tl, TL.tl_append, TL.tl_num, tl_ofL, tl_sgn, tl_empty, List.length_append, List.length_cons, List.length_nil]; omega))
local macro_rules | `(tactic| walk_at "beta") => `(tactic| (try dsimp only [List.set_cons_zero, List.set_cons_succ]))
local macro_rules | `(tactic| walk_at "sq") => `(tactic| first | assumption | exact SqL.of upd_same | exact SqT.of upd_same | exact SqL.of (by assumption) | exact SqT.of (by assumption) | ((with_reducible refine' sq_updI ?h ?s); (case h => walk_at "lk"); (case s => walk_at "sq")) | ((with_reducible refine' sq_updL ?h ?s); (case h => walk_at "lk"); (case s => walk_at "sq")) | ((with_reducible refine' sq_new ?h ?s); (case h => assumption); (case s => walk_at "sq")) | exact SqL.of (by walk_at "lk"))
local macro_rules | `(tactic| walk_at "lk") => `(tactic| first | assumption | exact upd_same | (refine Eq.trans (upd_ne (by assumption)) ?_; walk_at "lk"))
local macro_rules | `(tactic| walk_at "fl") => `(tactic| first | with_reducible exact l_text | with_reducible exact l_ahead | with_reducible exact l_made | with_reducible exact l_taken | with_reducible exact l_heard | with_reducible exact l_wait | with_reducible exact l_own | with_reducible exact l_far | exact l_no (by decide +kernel) | exact two_l1 | exact two_l2 (by decide +kernel) | exact two_no (by decide +kernel) (by decide +kernel))
local macro_rules | `(tactic| walk_at "pl") => `(tactic| first | with_reducible exact p_text | with_reducible exact p_made | with_reducible exact p_taken | with_reducible exact p_heard | with_reducible exact p_wait | with_reducible exact p_own | with_reducible exact p_far | with_reducible exact i_1 | with_reducible exact i_2 | with_reducible exact i_3 | with_reducible exact i_4 | with_reducible exact i_5 | with_reducible exact i_6 | with_reducible exact i_7 | with_reducible exact i_8 | exact ⟨put_past (by decide +kernel), Nat.le_of_ble_eq_true rfl⟩ | exact ⟨rfl, Nat.le_of_ble_eq_true rfl⟩)
local macro_rules | `(tactic| walk_at "wp1") => `(tactic| first
  | with_reducible refine w_seq ?_
  | with_reducible refine w_set ?_
  | ((with_reducible refine' w_var ?e ?k); (case e => exact rfl))
  | with_reducible refine w_c ?_
  | with_reducible refine w_op ?_
  | with_reducible refine w_ret ?_
  | with_reducible refine w_if ?_
  | with_reducible refine w_test ?_
  | with_reducible refine w_bl ?_
  | with_reducible refine w_cons ?_
  | with_reducible refine w_nil ?_
  | with_reducible refine w_call ?_
  | with_reducible refine w_cb ?_
  | with_reducible refine w_next ?_
  | with_reducible refine w_drop ?_
  | with_reducible refine w_asg ?_
  | with_reducible refine w_and ?_
  | with_reducible refine w_or ?_
  | with_reducible refine w_not ?_
  | with_reducible refine w_ifE ?_
  | with_reducible refine w_tB ?_
  | with_reducible refine iteT ?_
  | with_reducible refine iteF ?_
  | with_reducible refine w_addI ?_
  | with_reducible refine w_subI ?_
  | with_reducible refine w_ltI ?_
  | with_reducible refine w_leI ?_
  | with_reducible refine w_gtI ?_
  | with_reducible refine w_geI ?_
  | with_reducible refine w_eqI ?_
  | with_reducible refine w_neI ?_
  | with_reducible refine w_eqS ?_
  | with_reducible refine w_neS ?_
  | with_reducible refine w_is ?_
  | with_reducible refine w_isNot ?_
  | with_reducible refine w_intI ?_
  | with_reducible refine w_intB ?_
  | with_reducible refine w_inC ?_
  | with_reducible refine w_niC ?_
  | ((with_reducible refine' w_ixL ?k ?h ?x); (case h => walk_at "sq"); (case x => rfl))
  | ((with_reducible refine' w_ixT ?k ?h ?x); (case h => walk_at "sq"); (case x => rfl))
  | ((with_reducible refine w_modI ?k ?c); (case c => first | omega | with_reducible assumption | decide))
  | ((with_reducible refine w_divI ?k ?c); (case c => exact ⟨by omega, by omega⟩))
  | ((with_reducible refine w_mulI ?k ?c); (case c => first | exact .inl ⟨by omega, by omega⟩ | exact .inr ⟨by omega, by omega⟩))
  | ((with_reducible refine w_powI ?k ?c); (case c => exact ⟨by decide, by decide, by decide⟩))
  | ((with_reducible refine' w_lenL ?k ?h); (case h => walk_at "sq"))
  | ((with_reducible refine' w_lenT ?k ?h); (case h => walk_at "sq"))
  | ((with_reducible refine w_len ?h ?k); (case h => exact Nat.le_of_ble_eq_true rfl))
  | ((with_reducible refine w_decTS ?h ?k); (case h => exact rfl))
  | ((with_reducible refine w_decFS ?h ?k); (case h => decide +kernel))
  | ((with_reducible refine w_ndecTS ?h ?k); (case h => exact rfl))
  | ((with_reducible refine w_ndecFS ?h ?k); (case h => decide +kernel))
  | ((with_reducible refine w_sz ?h ?k); (case h => walk_at "szt"))
  | ((with_reducible refine w_addS' ?k ?h); (case h => walk_at "szt"))
  | ((with_reducible refine w_strI' ?k ?h); (case h => omega))
  | ((with_reducible refine w_fmtN (A := True) ?h ?k); (case h => omega))
  | with_reducible refine w_chain ?_
  | with_reducible refine w_for ?_
  | with_reducible refine w_lc ?_
  | ((with_reducible refine w_rng ?h ?k); (case h => exact ⟨by omega, by omega⟩))
  | with_reducible refine w_iStr ?_
  | with_reducible refine w_iList ?_
  | with_reducible refine w_iRng1 ?_
  | with_reducible refine w_exR ?_
  | ((with_reducible refine' w_exSqL ?h ?k); (case h => walk_at "sq"))
  | ((with_reducible refine w_lenS ?k ?h); (case h => refine Nat.le_trans ?_ (by decide : 1000000 ≤ sizeLine); walk_at "szt"))
  | ((with_reducible refine w_slS ?k ?h); (case h => refine Nat.le_trans ?_ (by decide : 1000000 ≤ sizeLine); walk_at "szt"))
  | with_reducible refine w_nT ?_
  | with_reducible refine w_nF ?_
  | with_reducible refine w_un ?_
  | with_reducible refine w_negI ?_
  | with_reducible refine w_bm ?_
  | with_reducible refine w_bm0 ?_
  | ((with_reducible refine' w_tyL ?h ?k); (case h => walk_at "sq"))
  | ((with_reducible refine' w_append ?p ?l ?k); (case p => walk_at "lk"); (case l => first | exact Nat.le_of_ble_eq_true rfl | omega))
  | with_reducible refine w_gsub ?_
  | with_reducible refine w_gname ?_
  | ((with_reducible refine' w_set4_0 ?p ?k); (case p => walk_at "lk"))
  | ((with_reducible refine' w_set4_1 ?p ?k); (case p => walk_at "lk"))
  | ((with_reducible refine' w_set4_2 ?p ?k); (case p => walk_at "lk"))
  | ((with_reducible refine' w_set4_3 ?p ?k); (case p => walk_at "lk"))
  | ((with_reducible refine' w_setL ?p ?i ?k); (case p => walk_at "lk"); (case i => exact rfl))
  | with_reducible refine w_tup ?_
  | with_reducible refine w_lst ?_
  | with_reducible refine w_sl ?_
  | with_reducible refine w_noPart ?_
  | with_reducible refine w_part ?_
  | with_reducible refine w_exI ?_
  | with_reducible refine w_exS ?_
  | with_reducible refine w_join ?_
  | with_reducible refine w_split ?_
  | with_reducible refine w_isS ?_
  | with_reducible refine w_joined ?_
  | with_reducible refine w_jsNil ?_
  | with_reducible refine w_jsCons ?_
  | with_reducible refine w_fmt ?_
  | with_reducible refine w_fmtI ?_
  | with_reducible refine w_repl ?_
  | with_reducible refine w_andV ?_
  | with_reducible refine w_orV ?_
  | with_reducible refine w_notV ?_
  | with_reducible refine w_retN ?_
  | with_reducible refine w_brk ?_
  | with_reducible refine w_cont ?_
  | ((with_reducible refine' w_yes (p := ((List.length (_ : List V) : Nat) : Int) = _) ?h ?k); (case h => exact of_decide_eq_true rfl))
  | ((with_reducible refine' w_yes (p := ((List.length (_ : List V) : Nat) : Int) < _) ?h ?k); (case h => exact of_decide_eq_true rfl))
  | ((with_reducible refine' w_yes (p := _ < ((List.length (_ : List V) : Nat) : Int)) ?h ?k); (case h => exact of_decide_eq_true rfl))
  | ((with_reducible refine' w_yes (p := _ = ((List.length (_ : List V) : Nat) : Int)) ?h ?k); (case h => exact of_decide_eq_true rfl))
  | ((with_reducible refine' w_yes (p := ((Str.length (sgn _) : Nat) : Int) = _) ?h ?k); (case h => exact of_decide_eq_true rfl))
  | ((with_reducible refine' w_no (p := ((List.length (_ : List V) : Nat) : Int) = _) ?h ?k); (case h => exact of_decide_eq_false rfl))
  | ((with_reducible refine' w_no (p := ((List.length (_ : List V) : Nat) : Int) < _) ?h ?k); (case h => exact of_decide_eq_false rfl))
  | ((with_reducible refine' w_no (p := _ < ((List.length (_ : List V) : Nat) : Int)) ?h ?k); (case h => exact of_decide_eq_false rfl))
  | ((with_reducible refine' w_no (p := _ = ((List.length (_ : List V) : Nat) : Int)) ?h ?k); (case h => exact of_decide_eq_false rfl))
  | ((with_reducible refine' w_no (p := ((Str.length (sgn _) : Nat) : Int) = _) ?h ?k); (case h => exact of_decide_eq_false rfl))
  | ((with_reducible refine' w_nyes (p := ((List.length (_ : List V) : Nat) : Int) = _) ?h ?k); (case h => exact of_decide_eq_true rfl))
  | ((with_reducible refine' w_nyes (p := ((List.length (_ : List V) : Nat) : Int) < _) ?h ?k); (case h => exact of_decide_eq_true rfl))
  | ((with_reducible refine' w_nyes (p := _ < ((List.length (_ : List V) : Nat) : Int)) ?h ?k); (case h => exact of_decide_eq_true rfl))
  | ((with_reducible refine' w_nyes (p := _ = ((List.length (_ : List V) : Nat) : Int)) ?h ?k); (case h => exact of_decide_eq_true rfl))
  | ((with_reducible refine' w_nyes (p := ((Str.length (sgn _) : Nat) : Int) = _) ?h ?k); (case h => exact of_decide_eq_true rfl))
  | ((with_reducible refine' w_nno (p := ((List.length (_ : List V) : Nat) : Int) = _) ?h ?k); (case h => exact of_decide_eq_false rfl))
  | ((with_reducible refine' w_nno (p := ((List.length (_ : List V) : Nat) : Int) < _) ?h ?k); (case h => exact of_decide_eq_false rfl))
  | ((with_reducible refine' w_nno (p := _ < ((List.length (_ : List V) : Nat) : Int)) ?h ?k); (case h => exact of_decide_eq_false rfl))
  | ((with_reducible refine' w_nno (p := _ = ((List.length (_ : List V) : Nat) : Int)) ?h ?k); (case h => exact of_decide_eq_false rfl))
  | ((with_reducible refine' w_nno (p := ((Str.length (sgn _) : Nat) : Int) = _) ?h ?k); (case h => exact of_decide_eq_false rfl))
  | ((with_reducible refine' w_no (p := (V.ref _ = V.non)) ?h ?k); (case h => intro z9; cases z9))
  | ((with_reducible refine' w_yes (p := (V.non = V.non)) ?h ?k); (case h => rfl))
  | with_reducible refine w_fldC ?_
  | with_reducible refine w_make ?_
  | ((with_reducible refine' w_fldR ?h ?l ?k); (case h => walk_at "lk"); (case l => walk_at "fl"))
  | with_reducible refine w_sfldC ?_
  | ((with_reducible refine' w_sfldR ?h ?l ?k); (case h => walk_at "lk"); (case l => walk_at "pl"))
  | ((with_reducible refine' w_sfldR2 ?h ?l ?k); (case h => walk_at "lk"); (case l => first | exact p_len | exact Nat.le_of_ble_eq_true rfl); (first | rw [p_far.1] | rw [p_text.1] | rw [p_own.1] | rw [p_wait.1] | rw [p_heard.1] | rw [p_made.1] | rw [p_taken.1]))
  | with_reducible refine w_sfldaugC ?_
  | with_reducible refine w_addR ?_
  | with_reducible refine w_subR ?_
  | ((with_reducible refine' w_sfldQ ?h ?l ?k); (case h => walk_at "lk"); (case l => walk_at "pl"))
  | with_reducible refine w_meth ?_
  | ((with_reducible refine' w_methR ?h ?l ?k); (case h => walk_at "lk"); (case l => walk_at "fl"))
  | with_reducible refine w_kget ?_
  | ((with_reducible refine' w_gtup ?h ?l ?k); (case h => walk_at "sq"); (case l => exact rfl))
  | with_reducible refine w_gcons ?_
  | with_reducible refine w_gnil ?_
  | with_reducible refine w_isiII ?_
  | with_reducible refine w_isiIB ?_
  | with_reducible refine w_isiSS ?_
  | ((with_reducible refine' w_isiTT ?h ?k); (case h => walk_at "sq"))
  | ((with_reducible refine' w_isiLL ?h ?k); (case h => walk_at "sq"))
  | with_reducible refine w_ipI ?_
  | with_reducible refine w_par ?_
  | with_reducible refine w_par3 ?_
  | with_reducible refine w_parR ?_
  | with_reducible refine w_parR3 ?_
  | with_reducible refine w_aug ?_
  | ((with_reducible refine' w_var2 ?e ?k); (case e => exact rfl))
  | ((with_reducible refine' w_insL ?p ?l ?k); (case p => walk_at "lk"); (case l => first | omega | decide))
  | rw [kg_put]
  | rw [kg_cut]
  | rw [kg_non])
local macro_rules | `(tactic| walk_at "wp") => `(tactic| ((try dsimp only); (repeat walk_at "wp1"); (walk_at "beta")))
theorem Duo.wl {z : Bool} {s t : Seat} {fs ft : List Letter} (h : Duo z s t fs ft) : s.made = s.heard + s.wait.length := by
  obtain ⟨M, a, b, Zs, ps, Zt, pt, h1, h2, h3, h4, h5, h6, h7, h8, h9, h10, h11, h12, h13, h14⟩ := h.ex
  have := h12.len
  rw [show (uds fs).length = fs.length from List.length_map ..] at this
  rw [h.ms, h1, List.length_append]; omega
/-- the law's story under way: what stands -/
structure Sto (K : PySem.W.Frag) (H0 : Hp) (a f sa b : Addr) (l : Ln) (H : Hp) (es : List Ev) (Y : Yd) : Prop where
  fr : Fr a H0 H
  dr : DrawsAt H a
  run : ∃ Ys, runs (Yd.new l) es = some (Ys, Y)
  ok : ∀ e ∈ es, e.okc = true
  ly : ∃ A, LYAt K H sa b A Y.s (fun z => (Y.r z).map Letter.d3) ∧ ∀ x ∈ A.foot sa b, x ≠ a ∧ x ≠ f ∧ H0 x = none
  fd : ∃ xs, H f = some (.lst xs) ∧ DpAll K H xs (es.map Ev.d)
  fa : f ≠ a
  f0 : H0 f = none
section
variable {K : PySem.W.Frag} {vs : List V} {H H0 H' : Hp} {Q : VK} {E : XK} {a f sa b : Addr} {l : Ln} {es : List Ev} {Y : Yd}
theorem Sto.move (h : Sto K H0 a f sa b l H es Y) (k : Fr a H H') (d : DrawsAt H' a) : Sto K H0 a f sa b l H' es Y := by
  obtain ⟨A, h1, h2⟩ := h.ly
  obtain ⟨xs, h3, h4⟩ := h.fd
  have t := h.dr.tk k
  exact ⟨h.fr.trans k, d, h.run, h.ok, ⟨A, h1.keep (fun x hx o e => k x o (h2 x hx).1 e) t, h2⟩, ⟨xs, k _ _ h.fa h3, dps_tk t h4 (noLs_map noL_ev _)⟩, h.fa, h.f0⟩
theorem Sto.same (h : Sto K H0 a f sa b l H es Y) (k : Same H H') : Sto K H0 a f sa b l H' es Y := h.move (Fr.of k) (h.dr.same k)
theorem Sto.okY (h : Sto K H0 a f sa b l H es Y) (hl : okL l = true) (hll : l.length ≤ 1000) (he : es.length ≤ 1000) : Y.ok 2000 := by
  obtain ⟨Ys, hr⟩ := h.run
  exact (runs_ok (n := 1000) (Yd.ok_new hl hll) h.ok hr).mono (by omega)
/-- an event done: its seats and roads, then written down -/
theorem Sto.event {e : Ev} {H1 : Hp} {v : V} {A : LA} {xs : List V} (h : Sto K H0 a f sa b l H es Y) (hc : Y.can e = true) (he : e.okc = true) (k : ∀ x, H0 x ≠ none ∨ x = a ∨ x = f → ∀ o, H x = some o → H1 x = some o) (t : TK H H1)
    (hL : LYAt K H1 sa b A (Y.go e).s (fun z => ((Y.go e).r z).map Letter.d3)) (hA : ∀ x ∈ A.foot sa b, x ≠ a ∧ x ≠ f ∧ H0 x = none) (hf : H1 f = some (.lst xs)) (hx : DpAll K H1 xs (es.map Ev.d)) (hv : Dp K H1 v e.d) :
    Sto K H0 a f sa b l (upd H1 f (.lst (xs ++ [v]))) (es ++ [e]) (Y.go e) := by
  obtain ⟨Ys, hr⟩ := h.run
  have t2 : TK H1 (upd H1 f (.lst (xs ++ [v]))) := TK.updL hf
  refine ⟨fun c o n z => ?_, ?_, ⟨Ys ++ [Y.go e], ?_⟩, fun x hx => ?_, ⟨A, hL.keep (fun x hx o z => by rw [upd_ne (hA x hx).2.1]; exact z) t2, hA⟩, ⟨xs ++ [v], upd_same, ?_⟩, h.fa, h.f0⟩
  · have nf : c ≠ f := fun e => by rw [e, h.f0] at z; cases z
    rw [upd_ne nf]
    exact k c (.inl (by rw [z]; simp)) o (h.fr c o n z)
  · refine (h.dr.keep fun o z => ?_)
    rw [upd_ne h.fa.symm]; exact k a (.inr (.inl rfl)) o z
  · rw [runs_snoc, hr]
    show (step Y e).map _ = _
    unfold step
    rw [hc]; rfl
  · rcases List.mem_append.mp hx with hx | hx
    · exact h.ok x hx
    · rw [List.mem_singleton.mp hx]; exact he
  · rw [List.map_append]
    exact dps_app (dps_tk t2 hx (noLs_map noL_ev _)) (.cons (dp_tk t2 hv (noL_ev _)) .nil)
end
end FL

namespace FL
open PySem PySem.Spec PyProof.Rows L2 CwR TL
local macro_rules | `(tactic| walk_at "tls") => `(tactic| (simp only [TL.tl_append, TL.tl_num, tl_ofL, tl_sgn, tl_empty, List.nil_append, List.append_nil, List.cons_append, List.append_assoc]))
local macro_rules | `(tactic| walk_at "szt") => `(tactic| (simp only [len_ofL, TL.len_tl, TL.tl_append, TL.tl_num, tl_ofL, tl_sgn, tl_empty, List.length_append, List.length_cons, List.length_nil]; omega))
local macro_rules | `(tactic| walk_at "beta") => `(tactic| (try dsimp only [List.set_cons_zero, List.set_cons_succ]))
local macro_rules | `(tactic| walk_at "sq") => `(tactic| first | assumption | exact SqL.of upd_same | exact SqT.of upd_same | exact SqL.of (by assumption) | exact SqT.of (by assumption) | ((with_reducible refine' sq_updI ?h ?s); (case h => walk_at "lk"); (case s => walk_at "sq")) | ((with_reducible refine' sq_updL ?h ?s); (case h => walk_at "lk"); (case s => walk_at "sq")) | ((with_reducible refine' sq_new ?h ?s); (case h => assumption); (case s => walk_at "sq")) | exact SqL.of (by walk_at "lk"))
local macro_rules | `(tactic| walk_at "lk") => `(tactic| first | assumption | exact upd_same | (refine Eq.trans (upd_ne (by assumption)) ?_; walk_at "lk"))
local macro_rules | `(tactic| walk_at "fl") => `(tactic| first | with_reducible exact l_text | with_reducible exact l_ahead | with_reducible exact l_made | with_reducible exact l_taken | with_reducible exact l_heard | with_reducible exact l_wait | with_reducible exact l_own | with_reducible exact l_far | exact l_no (by decide +kernel) | exact two_l1 | exact two_l2 (by decide +kernel) | exact two_no (by decide +kernel) (by decide +kernel))
local macro_rules | `(tactic| walk_at "pl") => `(tactic| first | with_reducible exact p_text | with_reducible exact p_made | with_reducible exact p_taken | with_reducible exact p_heard | with_reducible exact p_wait | with_reducible exact p_own | with_reducible exact p_far | with_reducible exact i_1 | with_reducible exact i_2 | with_reducible exact i_3 | with_reducible exact i_4 | with_reducible exact i_5 | with_reducible exact i_6 | with_reducible exact i_7 | with_reducible exact i_8 | exact ⟨put_past (by decide +kernel), Nat.le_of_ble_eq_true rfl⟩ | exact ⟨rfl, Nat.le_of_ble_eq_true rfl⟩)
local macro_rules | `(tactic| walk_at "wp1") => `(tactic| first
  | with_reducible refine w_seq ?_
  | with_reducible refine w_set ?_
  | ((with_reducible refine' w_var ?e ?k); (case e => exact rfl))
  | with_reducible refine w_c ?_
  | with_reducible refine w_op ?_
  | with_reducible refine w_ret ?_
  | with_reducible refine w_if ?_
  | with_reducible refine w_test ?_
  | with_reducible refine w_bl ?_
  | with_reducible refine w_cons ?_
  | with_reducible refine w_nil ?_
  | with_reducible refine w_call ?_
  | with_reducible refine w_cb ?_
  | with_reducible refine w_next ?_
  | with_reducible refine w_drop ?_
  | with_reducible refine w_asg ?_
  | with_reducible refine w_and ?_
  | with_reducible refine w_or ?_
  | with_reducible refine w_not ?_
  | with_reducible refine w_ifE ?_
  | with_reducible refine w_tB ?_
  | with_reducible refine iteT ?_
  | with_reducible refine iteF ?_
  | with_reducible refine w_addI ?_
  | with_reducible refine w_subI ?_
  | with_reducible refine w_ltI ?_
  | with_reducible refine w_leI ?_
  | with_reducible refine w_gtI ?_
  | with_reducible refine w_geI ?_
  | with_reducible refine w_eqI ?_
  | with_reducible refine w_neI ?_
  | with_reducible refine w_eqS ?_
  | with_reducible refine w_neS ?_
  | with_reducible refine w_is ?_
  | with_reducible refine w_isNot ?_
  | with_reducible refine w_intI ?_
  | with_reducible refine w_intB ?_
  | with_reducible refine w_inC ?_
  | with_reducible refine w_niC ?_
  | ((with_reducible refine' w_ixL ?k ?h ?x); (case h => walk_at "sq"); (case x => rfl))
  | ((with_reducible refine' w_ixT ?k ?h ?x); (case h => walk_at "sq"); (case x => rfl))
  | ((with_reducible refine w_modI ?k ?c); (case c => first | omega | with_reducible assumption | decide))
  | ((with_reducible refine w_divI ?k ?c); (case c => exact ⟨by omega, by omega⟩))
  | ((with_reducible refine w_mulI ?k ?c); (case c => first | exact .inl ⟨by omega, by omega⟩ | exact .inr ⟨by omega, by omega⟩))
  | ((with_reducible refine w_powI ?k ?c); (case c => exact ⟨by decide, by decide, by decide⟩))
  | ((with_reducible refine' w_lenL ?k ?h); (case h => walk_at "sq"))
  | ((with_reducible refine' w_lenT ?k ?h); (case h => walk_at "sq"))
  | ((with_reducible refine w_len ?h ?k); (case h => exact Nat.le_of_ble_eq_true rfl))
  | ((with_reducible refine w_decTS ?h ?k); (case h => exact rfl))
  | ((with_reducible refine w_decFS ?h ?k); (case h => decide +kernel))
  | ((with_reducible refine w_ndecTS ?h ?k); (case h => exact rfl))
  | ((with_reducible refine w_ndecFS ?h ?k); (case h => decide +kernel))
  | ((with_reducible refine w_sz ?h ?k); (case h => walk_at "szt"))
  | ((with_reducible refine w_addS' ?k ?h); (case h => walk_at "szt"))
  | ((with_reducible refine w_strI' ?k ?h); (case h => omega))
  | ((with_reducible refine w_fmtN (A := True) ?h ?k); (case h => omega))
  | with_reducible refine w_chain ?_
  | with_reducible refine w_for ?_
  | with_reducible refine w_lc ?_
  | ((with_reducible refine w_rng ?h ?k); (case h => exact ⟨by omega, by omega⟩))
  | with_reducible refine w_iStr ?_
  | with_reducible refine w_iList ?_
  | with_reducible refine w_iRng1 ?_
  | with_reducible refine w_exR ?_
  | ((with_reducible refine' w_exSqL ?h ?k); (case h => walk_at "sq"))
  | ((with_reducible refine w_lenS ?k ?h); (case h => refine Nat.le_trans ?_ (by decide : 1000000 ≤ sizeLine); walk_at "szt"))
  | ((with_reducible refine w_slS ?k ?h); (case h => refine Nat.le_trans ?_ (by decide : 1000000 ≤ sizeLine); walk_at "szt"))
  | with_reducible refine w_nT ?_
  | with_reducible refine w_nF ?_
  | with_reducible refine w_un ?_
  | with_reducible refine w_negI ?_
  | with_reducible refine w_bm ?_
  | with_reducible refine w_bm0 ?_
  | ((with_reducible refine' w_tyL ?h ?k); (case h => walk_at "sq"))
  | ((with_reducible refine' w_append ?p ?l ?k); (case p => walk_at "lk"); (case l => first | exact Nat.le_of_ble_eq_true rfl | omega))
  | with_reducible refine w_gsub ?_
  | with_reducible refine w_gname ?_
  | ((with_reducible refine' w_set4_0 ?p ?k); (case p => walk_at "lk"))
  | ((with_reducible refine' w_set4_1 ?p ?k); (case p => walk_at "lk"))
  | ((with_reducible refine' w_set4_2 ?p ?k); (case p => walk_at "lk"))
  | ((with_reducible refine' w_set4_3 ?p ?k); (case p => walk_at "lk"))
  | ((with_reducible refine' w_setL ?p ?i ?k); (case p => walk_at "lk"); (case i => exact rfl))
  | with_reducible refine w_tup ?_
  | with_reducible refine w_lst ?_
  | with_reducible refine w_sl ?_
  | with_reducible refine w_noPart ?_
  | with_reducible refine w_part ?_
  | with_reducible refine w_exI ?_
  | with_reducible refine w_exS ?_
  | with_reducible refine w_join ?_
  | with_reducible refine w_split ?_
  | with_reducible refine w_isS ?_
  | with_reducible refine w_joined ?_
  | with_reducible refine w_jsNil ?_
  | with_reducible refine w_jsCons ?_
  | with_reducible refine w_fmt ?_
  | with_reducible refine w_fmtI ?_
  | with_reducible refine w_repl ?_
  | with_reducible refine w_andV ?_
  | with_reducible refine w_orV ?_
  | with_reducible refine w_notV ?_
  | with_reducible refine w_retN ?_
  | with_reducible refine w_brk ?_
  | with_reducible refine w_cont ?_
  | ((with_reducible refine' w_yes (p := ((List.length (_ : List V) : Nat) : Int) = _) ?h ?k); (case h => exact of_decide_eq_true rfl))
  | ((with_reducible refine' w_yes (p := ((List.length (_ : List V) : Nat) : Int) < _) ?h ?k); (case h => exact of_decide_eq_true rfl))
  | ((with_reducible refine' w_yes (p := _ < ((List.length (_ : List V) : Nat) : Int)) ?h ?k); (case h => exact of_decide_eq_true rfl))
  | ((with_reducible refine' w_yes (p := _ = ((List.length (_ : List V) : Nat) : Int)) ?h ?k); (case h => exact of_decide_eq_true rfl))
  | ((with_reducible refine' w_yes (p := ((Str.length (sgn _) : Nat) : Int) = _) ?h ?k); (case h => exact of_decide_eq_true rfl))
  | ((with_reducible refine' w_no (p := ((List.length (_ : List V) : Nat) : Int) = _) ?h ?k); (case h => exact of_decide_eq_false rfl))
  | ((with_reducible refine' w_no (p := ((List.length (_ : List V) : Nat) : Int) < _) ?h ?k); (case h => exact of_decide_eq_false rfl))
  | ((with_reducible refine' w_no (p := _ < ((List.length (_ : List V) : Nat) : Int)) ?h ?k); (case h => exact of_decide_eq_false rfl))
  | ((with_reducible refine' w_no (p := _ = ((List.length (_ : List V) : Nat) : Int)) ?h ?k); (case h => exact of_decide_eq_false rfl))
  | ((with_reducible refine' w_no (p := ((Str.length (sgn _) : Nat) : Int) = _) ?h ?k); (case h => exact of_decide_eq_false rfl))
  | ((with_reducible refine' w_nyes (p := ((List.length (_ : List V) : Nat) : Int) = _) ?h ?k); (case h => exact of_decide_eq_true rfl))
  | ((with_reducible refine' w_nyes (p := ((List.length (_ : List V) : Nat) : Int) < _) ?h ?k); (case h => exact of_decide_eq_true rfl))
  | ((with_reducible refine' w_nyes (p := _ < ((List.length (_ : List V) : Nat) : Int)) ?h ?k); (case h => exact of_decide_eq_true rfl))
  | ((with_reducible refine' w_nyes (p := _ = ((List.length (_ : List V) : Nat) : Int)) ?h ?k); (case h => exact of_decide_eq_true rfl))
  | ((with_reducible refine' w_nyes (p := ((Str.length (sgn _) : Nat) : Int) = _) ?h ?k); (case h => exact of_decide_eq_true rfl))
  | ((with_reducible refine' w_nno (p := ((List.length (_ : List V) : Nat) : Int) = _) ?h ?k); (case h => exact of_decide_eq_false rfl))
  | ((with_reducible refine' w_nno (p := ((List.length (_ : List V) : Nat) : Int) < _) ?h ?k); (case h => exact of_decide_eq_false rfl))
  | ((with_reducible refine' w_nno (p := _ < ((List.length (_ : List V) : Nat) : Int)) ?h ?k); (case h => exact of_decide_eq_false rfl))
  | ((with_reducible refine' w_nno (p := _ = ((List.length (_ : List V) : Nat) : Int)) ?h ?k); (case h => exact of_decide_eq_false rfl))
  | ((with_reducible refine' w_nno (p := ((Str.length (sgn _) : Nat) : Int) = _) ?h ?k); (case h => exact of_decide_eq_false rfl))
  | ((with_reducible refine' w_no (p := (V.ref _ = V.non)) ?h ?k); (case h => intro z9; cases z9))
  | ((with_reducible refine' w_yes (p := (V.non = V.non)) ?h ?k); (case h => rfl))
  | with_reducible refine w_fldC ?_
  | with_reducible refine w_make ?_
  | ((with_reducible refine' w_fldR ?h ?l ?k); (case h => walk_at "lk"); (case l => walk_at "fl"))
  | with_reducible refine w_sfldC ?_
  | ((with_reducible refine' w_sfldR ?h ?l ?k); (case h => walk_at "lk"); (case l => walk_at "pl"))
  | ((with_reducible refine' w_sfldR2 ?h ?l ?k); (case h => walk_at "lk"); (case l => first | exact p_len | exact Nat.le_of_ble_eq_true rfl); (first | rw [p_far.1] | rw [p_text.1] | rw [p_own.1] | rw [p_wait.1] | rw [p_heard.1] | rw [p_made.1] | rw [p_taken.1]))
  | with_reducible refine w_sfldaugC ?_
  | with_reducible refine w_addR ?_
  | with_reducible refine w_subR ?_
  | ((with_reducible refine' w_sfldQ ?h ?l ?k); (case h => walk_at "lk"); (case l => walk_at "pl"))
  | with_reducible refine w_meth ?_
  | ((with_reducible refine' w_methR ?h ?l ?k); (case h => walk_at "lk"); (case l => walk_at "fl"))
  | with_reducible refine w_kget ?_
  | ((with_reducible refine' w_gtup ?h ?l ?k); (case h => walk_at "sq"); (case l => exact rfl))
  | with_reducible refine w_gcons ?_
  | with_reducible refine w_gnil ?_
  | with_reducible refine w_isiII ?_
  | with_reducible refine w_isiIB ?_
  | with_reducible refine w_isiSS ?_
  | ((with_reducible refine' w_isiTT ?h ?k); (case h => walk_at "sq"))
  | ((with_reducible refine' w_isiLL ?h ?k); (case h => walk_at "sq"))
  | with_reducible refine w_ipI ?_
  | with_reducible refine w_par ?_
  | with_reducible refine w_par3 ?_
  | with_reducible refine w_parR ?_
  | with_reducible refine w_parR3 ?_
  | with_reducible refine w_aug ?_
  | ((with_reducible refine' w_var2 ?e ?k); (case e => exact rfl))
  | ((with_reducible refine' w_insL ?p ?l ?k); (case p => walk_at "lk"); (case l => first | omega | decide))
  | rw [kg_put]
  | rw [kg_cut]
  | rw [kg_non])
local macro_rules | `(tactic| walk_at "wp") => `(tactic| ((try dsimp only); (repeat walk_at "wp1"); (walk_at "beta")))
section
variable {K : PySem.W.Frag} {vs : List V} {H H0 H' : Hp} {Q : VK} {E : XK} {a f sa b : Addr} {l : Ln} {es : List Ev} {Y : Yd}
theorem foot_law {A : LA} {z : Bool} {w' sa b : Addr} : ∀ x ∈ ({ A with w := bset A.w z w' } : LA).foot sa b, x = w' ∨ x ∈ A.foot sa b := by
  intro x hx
  have hx' : x ∈ [sa, b, A.q true, A.q false, bset A.w z w' true, bset A.w z w' false, A.r true, A.r false] := hx
  show x = w' ∨ x ∈ [sa, b, A.q true, A.q false, A.w true, A.w false, A.r true, A.r false]
  simp only [List.mem_cons, List.not_mem_nil, or_false] at hx' ⊢
  cases z <;> simp only [bset, if_true, if_false, reduceCtorEq] at hx' <;> rcases hx' with h | h | h | h | h | h | h | h <;> simp [h]
theorem ls_come {D : Ends} {x1 x2 x6 x8 : Option V} {z : Bool} {x : Letter} {t : List Letter} (hl : okL l = true) (hll : l.length ≤ 1000) (hel : es.length ≤ 1000) (St : Sto K H0 a f sa b l H es Y) (hr : Y.r z = x :: t)
    (k : ∀ H', Sto K H0 a f sa b l H' (es ++ [.come z]) (Y.go (.come z)) → D.nx [some (.ref a), x1, x2, some (.ref sa), some (.ref b), some (.ref f), x6, some (.int (ixZ z)), x8] H') :
    (tSeq (tDrop (tCall (sp__law_come K) [] E0 (tCons (tVar 3) (tCons (tVar 7) (tCons (tBM K "list" rPopAt (tOp (rIx K) (tVar 4) (tVar 7)) (tCons (tC (.int 0)) tNil)) tNil))))) (tDrop (tBM K "list" rAppend (tVar 5) (tCons (tTup (tCons (tC (.str "come")) (tCons (tVar 7) tNil))) tNil)))) D [some (.ref a), x1, x2, some (.ref sa), some (.ref b), some (.ref f), x6, some (.int (ixZ z)), x8] H := by
  obtain ⟨A, hL, hA⟩ := St.ly
  obtain ⟨xs, hx, hxd⟩ := hL.rd z
  have ok := St.okY hl hll hel
  have hlr := SqL.of (K := K) hL.lr
  walk_at "wp"
  refine w_ixL ?_ hlr (ix_at (f := fun b => V.ref (A.r b)) z)
  rw [hr] at hxd
  obtain ⟨v, ws, rfl, hv, hd3⟩ := dps_cons hxd
  have hrs := SqL.of (K := K) hx
  walk_at "wp"
  refine w_pop0 hx ?_
  have h3 := hL.road (z := z) (xs := ws) (rs := t.map Letter.d3) hd3 (noLs_map noL_letter3 _)
  have t3 : TK H (upd H (A.r z) (.lst ws)) := TK.updL hx
  obtain ⟨a1, a2, a3, a4, a5⟩ := Yd.ok_take ok hr
  have ot := ok.tx z
  have ow := ok.wt z
  walk_at "wp"
  refine ⟨sa, A.q, A.w z, Y.s z, z, v, x, _, rfl, h3.ls, h3.st z, .inr rfl, dp_tk t3 hv (noL_letter3 _), a4, a2, by omega, by omega, fun v' w' H2 f2 t2 hw' st2 hv' => ?_⟩
  have h4 := h3.seat f2 t2 (.inr hw') st2
  have hm : ∀ y, y ∈ [sa, b, A.q true, A.q false, A.w true, A.w false, A.r true, A.r false] → y ∈ A.foot sa b := fun y hy => hy
  have kk : ∀ y, y ∉ A.foot sa b → ∀ o, H y = some o → H2 y = some o := fun y hy o e => by
    refine f2 y o (fun e => hy (by rw [e]; exact hm _ (by cases z <;> simp))) (fun e => hy (by rw [e]; exact hm _ (by cases z <;> simp))) ?_
    rw [upd_ne (fun e => hy (by rw [e]; exact hm _ (by cases z <;> simp)))]; exact e
  have nf : f ∉ A.foot sa b := fun e => (hA f e).2.1 rfl
  have na : a ∉ A.foot sa b := fun e => (hA a e).1 rfl
  obtain ⟨ys, hf, hfd⟩ := St.fd
  have hf2 := kk f nf _ hf
  walk_at "wp"
  intro p hp
  have s5 := same_new (o := .tup [.str "come", .int (ixZ z)]) hp
  have hf5 := s5 _ _ hf2
  have hyl : ys.length ≤ 100000 := by have := dps_len hfd; rw [List.length_map] at this; omega
  walk_at "wp"
  have hw0 : w' ≠ a ∧ w' ≠ f ∧ H0 w' = none := by
    have hn : H w' = none := by
      cases c : H w' with
      | none => rfl
      | some o =>
        by_cases z1 : w' = A.r z
        · rw [z1, upd_same] at hw'; cases hw'
        · rw [upd_ne z1, c] at hw'; cases hw'
    refine ⟨fun e => ?_, (fun e => by rw [e, hf] at hn; cases hn), ?_⟩
    · obtain ⟨ns, g, _⟩ := St.dr
      rw [e, g] at hn; cases hn
    · cases c : H0 w' with
      | none => rfl
      | some o =>
        have : H w' = some o := St.fr w' o (fun e => by obtain ⟨ns, g, _⟩ := St.dr; rw [e, g] at hn; cases hn) c
        rw [hn] at this; cases this
  refine k _ (St.event (e := .come z) (A := { A with w := bset A.w z w' }) ?_ rfl (fun y hy o e => ?_) ((t3.trans t2).trans (TK.of s5)) ?_ (fun y hy => ?_) hf5 ?_ (.tup (SqT.of upd_same) (.cons (.str _) (.cons (.int _) .nil))))
  · show (!(Y.r z).isEmpty) = true
    rw [hr]; rfl
  · refine s5 _ _ (kk y (fun hm => ?_) o e)
    obtain ⟨g1, g2, g3⟩ := hA y hm
    rcases hy with hy | hy | hy
    · exact hy g3
    · exact g1 hy
    · exact g2 hy
  · rw [go_come hr]
    have er : (fun z' => ((Y.take z x t).r z').map Letter.d3) = bset (fun z => (Y.r z).map Letter.d3) z (t.map Letter.d3) := by
      funext z'
      show ((bset Y.r z t) z').map _ = _
      unfold bset
      split <;> rfl
    rw [er]
    exact h4.keep (fun y hy o e => s5 _ _ e) (TK.of s5)
  · rcases foot_law y hy with rfl | hy
    · exact hw0
    · exact hA y hy
  · exact dps_tk ((t3.trans t2).trans (TK.of s5)) hfd (noLs_map noL_ev _)
theorem ls_make {D : Ends} {x1 x2 x6 x8 : Option V} {z : Bool} (hl : okL l = true) (hll : l.length ≤ 1000) (hel : es.length ≤ 1000) (St : Sto K H0 a f sa b l H es Y)
    (k : ∀ e w H', e.okc = true → Sto K H0 a f sa b l H' (es ++ [.make z e]) (Y.go (.make z e)) → D.nx [some (.ref a), x1, x2, some (.ref sa), some (.ref b), some (.ref f), x6, some (.int (ixZ z)), w] H') :
    (tSeq (tAsg (tCall (sp__law_deed K) [] E0 (tCons (tVar 0) (tCons (tOp (rIx K) (tOp (rIx K) (tVar 3) (tVar 7)) (tC (.int 0))) tNil))) (gName 8)) (tSeq (tDrop (tBM K "list" rAppend (tOp (rIx K) (tVar 4) (tOp rSubU (tC (.int 1)) (tVar 7))) (tCons (tCall (sp__law_make K) [] E0 (tCons (tVar 3) (tCons (tVar 7) (tCons (tVar 8) tNil)))) tNil))) (tDrop (tBM K "list" rAppend (tVar 5) (tCons (tTup (tCons (tC (.str "make")) (tCons (tVar 7) (tCons (tVar 8) tNil)))) tNil))))) D [some (.ref a), x1, x2, some (.ref sa), some (.ref b), some (.ref f), x6, some (.int (ixZ z)), x8] H := by
  obtain ⟨A, hL, hA⟩ := St.ly
  have ok := St.okY hl hll hel
  have ot := ok.tx z
  have ow := ok.wt z
  have hls := SqL.of (K := K) hL.ls
  have hq := SqL.of (K := K) (hL.st z).st
  walk_at "wp"
  refine w_ixL ?_ hls (ix_at (f := fun b => V.ref (A.q b)) z)
  walk_at "wp"
  refine ⟨a, (Y.s z).text, rfl, St.dr, by omega, fun e v H1 he hc f1 d1 hv => ?_⟩
  have St1 := St.move f1 d1
  have t1 := St.dr.tk f1
  have hL1 := hL.keep (fun x hx o e => f1 x o (hA x hx).1 e) t1
  have hlr := SqL.of (K := K) hL1.lr
  walk_at "wp"
  refine w_ixL ?_ hlr (ix_off (f := fun b => V.ref (A.r b)) z)
  obtain ⟨xs, hx, hxd⟩ := hL1.rd (!z)
  have hxs := SqL.of (K := K) hx
  walk_at "wp"
  refine ⟨sa, A.q, A.w z, Y.s z, z, v, e, rfl, hL1.ls, hL1.st z, hv, hc, by omega, by omega, (ok.dz z).wl, fun v' H2 f2 t2 st2 hv' => ?_⟩
  have h2 := hL1.seat f2 t2 (.inl rfl) st2
  obtain ⟨xs2, hx2, hxd2⟩ := h2.rd (!z)
  have hx2' : H2 (A.r (!z)) = some (.lst xs2) := hx2
  have or := (ok.rd (!z)).2
  have hxl : xs2.length ≤ 100000 := by
    have e1 := dps_len hxd2
    rw [List.length_map] at e1
    have e2 : xs2.length = (Y.r (!z)).length := e1
    omega
  walk_at "wp"
  have h3 := h2.road (z := !z) (xs := xs2 ++ [v']) (rs := (Y.r (!z)).map Letter.d3 ++ [(mkL (Y.s z) e).d3]) (dps_app hxd2 (.cons hv' .nil)) (by rw [show (Y.r (!z)).map Letter.d3 ++ [(mkL (Y.s z) e).d3] = (Y.r (!z) ++ [mkL (Y.s z) e]).map Letter.d3 by rw [List.map_append]; rfl]; exact noLs_map noL_letter3 _)
  have t3 : TK H2 (upd H2 (A.r (!z)) (.lst (xs2 ++ [v']))) := TK.updL hx2'
  have hm : ∀ y, y ∈ [sa, b, A.q true, A.q false, A.w true, A.w false, A.r true, A.r false] → y ∈ A.foot sa b := fun y hy => hy
  have kk : ∀ y, y ∉ A.foot sa b → ∀ o, H1 y = some o → upd H2 (A.r (!z)) (.lst (xs2 ++ [v'])) y = some o := fun y hy o e => by
    rw [upd_ne (fun e => hy (by rw [e]; exact hm _ (by cases z <;> simp)))]
    exact f2 y o (fun e => hy (by rw [e]; exact hm _ (by cases z <;> simp))) (fun e => hy (by rw [e]; exact hm _ (by cases z <;> simp))) e
  have nf : f ∉ A.foot sa b := fun e => (hA f e).2.1 rfl
  obtain ⟨ys, hf, hfd⟩ := St1.fd
  have hf2 := kk f nf _ hf
  have hyl : ys.length ≤ 100000 := by have := dps_len hfd; rw [List.length_map] at this; omega
  walk_at "wp"
  intro p hp
  have s5 := same_new (o := .tup [.str "make", .int (ixZ z), v]) hp
  have hf5 := s5 _ _ hf2
  walk_at "wp"
  have tA := (t2.trans t3).trans (TK.of s5)
  refine k e _ _ he (St1.event (e := .make z e) (A := A) hc he (fun y hy o e => ?_) tA ?_ hA hf5 (dps_tk tA hfd (noLs_map noL_ev _)) (.tup (SqT.of upd_same) (.cons (.str _) (.cons (.int _) (.cons (dp_tk tA hv (noL_deed _)) .nil)))))
  · refine s5 _ _ (kk y (fun hm => ?_) o e)
    obtain ⟨g1, g2, g3⟩ := hA y hm
    rcases hy with hy | hy | hy
    · exact hy g3
    · exact g1 hy
    · exact g2 hy
  · have eA : ({ A with w := bset A.w z (A.w z) } : LA) = A := by
      have : bset A.w z (A.w z) = A.w := funext fun c => by unfold bset; split <;> simp_all
      rw [this]
    rw [eA] at h3
    have er : (fun z' => ((Y.go (.make z e)).r z').map Letter.d3) = bset (fun z => (Y.r z).map Letter.d3) (!z) ((Y.r (!z)).map Letter.d3 ++ [(mkL (Y.s z) e).d3]) := by
      funext z'
      show ((bset Y.r (!z) (Y.r (!z) ++ [mkL (Y.s z) e])) z').map _ = _
      unfold bset
      split
      · rw [List.map_append]; rfl
      · rfl
    rw [er]
    exact h3.keep (fun y hy o e => s5 _ _ e) (TK.of s5)
theorem pr__law_story (h : sp__law_story K vs H Q E) : t__law_story K { nx := fun _ H' => Q .non H', rt := Q } (start N__law_story vs) H := by
  obtain ⟨a, l, m, rfl, hd, hl, hll, hm, k⟩ := h
  unfold t__law_story
  walk_at "wp"
  refine ⟨l, rfl, fun sa q w H1 s1 hsa hq hw nd hl1 hst => ?_⟩
  have e0 : ∀ {c : Addr} {G : Hp}, Same H G → G c = none → H c = none := fun {c G} s e => by
    cases z : H c with
    | none => rfl
    | some o => rw [s _ _ z] at e; cases e
  have there : ∀ x ∈ [sa, q true, q false, w true, w false], ∃ o, H1 x = some o := fun x hx => by
    simp only [List.mem_cons, List.not_mem_nil, or_false] at hx
    rcases hx with rfl | rfl | rfl | rfl | rfl
    · exact ⟨_, hl1⟩
    · exact ⟨_, (hst true).st⟩
    · exact ⟨_, (hst false).st⟩
    · obtain ⟨xs, e, _⟩ := (hst true).wt; exact ⟨_, e⟩
    · obtain ⟨xs, e, _⟩ := (hst false).wt; exact ⟨_, e⟩
  have new0 : ∀ x ∈ [sa, q true, q false, w true, w false], H x = none := fun x hx => by
    simp only [List.mem_cons, List.not_mem_nil, or_false] at hx
    rcases hx with rfl | rfl | rfl | rfl | rfl
    · exact hsa
    · exact hq true
    · exact hq false
    · exact hw true
    · exact hw false
  walk_at "wp"
  intro r1 hr1
  have s2 := s1.trans (same_new (o := .lst []) hr1)
  walk_at "wp"
  intro r0 hr0
  have nr : r1 ≠ r0 := ne_of_none upd_same hr0
  have g0 : H1 r0 = none := by rw [upd_ne nr.symm] at hr0; exact hr0
  have s3 := s2.trans (same_new (o := .lst []) hr0)
  walk_at "wp"
  intro b hb
  have n1 : r1 ≠ b := ne_of_none (Eq.trans (upd_ne nr) upd_same) hb
  have n0 : r0 ≠ b := ne_of_none upd_same hb
  have gb : H1 b = none := by rw [upd_ne n0.symm, upd_ne n1.symm] at hb; exact hb
  have s4 := s3.trans (same_new (o := .lst [.ref r1, .ref r0]) hb)
  walk_at "wp"
  intro f hf
  have s5 := s4.trans (same_new (o := .lst []) hf)
  have n1f : r1 ≠ f := ne_of_none (Eq.trans (upd_ne n1) (Eq.trans (upd_ne nr) upd_same)) hf
  have n0f : r0 ≠ f := ne_of_none (Eq.trans (upd_ne n0) upd_same) hf
  have nbf : b ≠ f := ne_of_none upd_same hf
  have gf : H1 f = none := by rw [upd_ne nbf.symm, upd_ne n0f.symm, upd_ne n1f.symm] at hf; exact hf
  have keep : ∀ {x o}, H1 x = some o → upd (upd (upd (upd H1 r1 (.lst [])) r0 (.lst [])) b (.lst [.ref r1, .ref r0])) f (.lst []) x = some o := fun e => by
    rw [upd_ne (ne_of_none e gf), upd_ne (ne_of_none e gb), upd_ne (ne_of_none e g0), upd_ne (ne_of_none e hr1)]; exact e
  have tk : TK H1 (upd (upd (upd (upd H1 r1 (.lst [])) r0 (.lst [])) b (.lst [.ref r1, .ref r0])) f (.lst [])) := (((TK.new hr1).trans (TK.new hr0)).trans (TK.new hb)).trans (TK.new hf)
  have na : ∀ {x}, H x = none → x ≠ a := fun e z => by obtain ⟨ns, g, _⟩ := hd; rw [z, g] at e; cases e
  have St : Sto K H a f sa b l (upd (upd (upd (upd H1 r1 (.lst [])) r0 (.lst [])) b (.lst [.ref r1, .ref r0])) f (.lst [])) [] (Yd.new l) := by
    refine ⟨Fr.of s5, hd.same s5, ⟨_, rfl⟩, fun e he => (List.not_mem_nil he).elim, ⟨⟨q, w, fun z => if z then r1 else r0⟩, ⟨keep hl1, ?_, fun z => (hst z).keep (fun o e => keep e) (fun o e => keep e) tk, fun z => ?_, fun z => rfl, ?_⟩, fun x hx => ?_⟩, ⟨[], upd_same, .nil⟩, na (e0 s1 gf), e0 s1 gf⟩
    · show upd _ _ _ b = _
      rw [upd_ne nbf, upd_same]; rfl
    · cases z
      · refine ⟨[], ?_, .nil⟩
        show upd _ _ _ r0 = _
        rw [upd_ne n0f, upd_ne n0, upd_same]
      · refine ⟨[], ?_, .nil⟩
        show upd _ _ _ r1 = _
        rw [upd_ne n1f, upd_ne n1, upd_ne nr, upd_same]
    · have nn : ∀ x ∈ [sa, q true, q false, w true, w false], x ≠ b ∧ x ≠ r1 ∧ x ≠ r0 := fun x hx => by
        obtain ⟨o, e⟩ := there x hx
        exact ⟨ne_of_none e gb, ne_of_none e hr1, ne_of_none e g0⟩
      simp only [List.nodup_cons, List.mem_cons, List.not_mem_nil, or_false, not_or, List.nodup_nil, and_true, not_false_eq_true, forall_eq_or_imp, forall_eq] at nd nn
      simp only [LA.foot, List.nodup_cons, List.mem_cons, List.not_mem_nil, or_false, not_or, List.nodup_nil, and_true, not_false_eq_true, if_true, if_false, reduceCtorEq]
      obtain ⟨⟨m1, m2, m3⟩, ⟨m4, m5, m6⟩, ⟨m7, m8, m9⟩, ⟨m10, m11, m12⟩, ⟨m13, m14, m15⟩⟩ := nn
      obtain ⟨⟨d1, d2, d3, d4⟩, ⟨d5, d6, d7⟩, ⟨d8, d9⟩, d10⟩ := nd
      exact ⟨⟨m1, d1, d2, d3, d4, m2, m3⟩, ⟨Ne.symm m4, Ne.symm m7, Ne.symm m10, Ne.symm m13, n1.symm, n0.symm⟩, ⟨d5, d6, d7, m5, m6⟩, ⟨d8, d9, m8, m9⟩, ⟨d10, m11, m12⟩, ⟨m14, m15⟩, nr⟩
    · have hx' : x ∈ [sa, b, q true, q false, w true, w false, r1, r0] := hx
      have nf5 : ∀ y ∈ [sa, q true, q false, w true, w false], y ≠ a ∧ y ≠ f ∧ H y = none := fun y hy => by
        obtain ⟨o, e⟩ := there y hy
        exact ⟨na (new0 y hy), ne_of_none e gf, new0 y hy⟩
      simp only [List.mem_cons, List.not_mem_nil, or_false] at hx'
      rcases hx' with rfl | rfl | rfl | rfl | rfl | rfl | rfl | rfl
      · exact nf5 _ (by simp)
      · exact ⟨na (e0 s1 gb), nbf, e0 s1 gb⟩
      · exact nf5 _ (by simp)
      · exact nf5 _ (by simp)
      · exact nf5 _ (by simp)
      · exact nf5 _ (by simp)
      · exact ⟨na (e0 s1 hr1), n1f, e0 s1 hr1⟩
      · exact ⟨na (e0 s1 g0), n0f, e0 s1 g0⟩
  generalize (upd (upd (upd (upd H1 r1 (.lst [])) r0 (.lst [])) b (.lst [.ref r1, .ref r0])) f (.lst [])) = G at St
  walk_at "wp"
  rw [Int.toNat_natCast]
  refine frb_R (fun i σ H' => ∃ es Y u v w, es.length = i ∧ Sto K H a f sa b l H' es Y ∧ σ = [some (.ref a), some (.str (ofL l)), some (.int (m : Int)), some (.ref sa), some (.ref b), some (.ref f), u, v, w]) ⟨[], _, _, _, _, rfl, St, rfl⟩ (fun i σ H' hi p => ?_) (fun σ H' p => ?_)
  · obtain ⟨es, Y, u, v, w', hel, St, rfl⟩ := p
    walk_at "wp"
    refine ⟨a, 2, rfl, St.dr, by decide, fun r H2 hr f2 d2 => ?_⟩
    have St2 := St.move f2 d2
    obtain ⟨z, hz⟩ : ∃ z, (r : Int) = ixZ z := by
      have : r = 0 ∨ r = 1 := by omega
      rcases this with rfl | rfl
      · exact ⟨true, rfl⟩
      · exact ⟨false, rfl⟩
    rw [hz]
    obtain ⟨A, hL, hA⟩ := St2.ly
    have hlr : SqL K H2 b [.ref (A.r true), .ref (A.r false)] := SqL.of hL.lr
    walk_at "wp"
    refine w_ixL ?_ hlr (ix_at (f := fun b => V.ref (A.r b)) z)
    walk_at "wp"
    intro q hq
    have sq := same_new (o := .lst []) hq
    have St3 := St2.same sq
    obtain ⟨xs, hx, hxd⟩ := hL.rd z
    have ok := St3.okY hl hll (by omega)
    have hrr := (ok.rd z).1
    refine w_neLy (k := 3) ?_ (.lst (SqL.of (sq _ _ hx)) (dps_same sq hxd)) (.lst (SqL.of upd_same) .nil) (ly_map fun l hl => ly_letter3 (hrr l hl)) (ly_lst fun d hd => (List.not_mem_nil hd).elim) (by decide)
    rw [eqv_nil]
    have mkp : ∀ G, Sto K H a f sa b l G es Y → (tSeq (tAsg (tCall (sp__law_deed K) [] E0 (tCons (tVar 0) (tCons (tOp (rIx K) (tOp (rIx K) (tVar 3) (tVar 7)) (tC (.int 0))) tNil))) (gName 8)) (tSeq (tDrop (tBM K "list" rAppend (tOp (rIx K) (tVar 4) (tOp rSubU (tC (.int 1)) (tVar 7))) (tCons (tCall (sp__law_make K) [] E0 (tCons (tVar 3) (tCons (tVar 7) (tCons (tVar 8) tNil)))) tNil))) (tDrop (tBM K "list" rAppend (tVar 5) (tCons (tTup (tCons (tC (.str "make")) (tCons (tVar 7) (tCons (tVar 8) tNil)))) tNil))))) { nx := fun σ H' => ∃ es Y u v w, es.length = i + 1 ∧ Sto K H a f sa b l H' es Y ∧ σ = [some (.ref a), some (.str (ofL l)), some (.int (m : Int)), some (.ref sa), some (.ref b), some (.ref f), u, v, w], ct := fun σ H' => ∃ es Y u v w, es.length = i + 1 ∧ Sto K H a f sa b l H' es Y ∧ σ = [some (.ref a), some (.str (ofL l)), some (.int (m : Int)), some (.ref sa), some (.ref b), some (.ref f), u, v, w], bk := tRet (tVar 5) { nx := fun _ H' => Q .non H', rt := Q }, rt := Q } [some (.ref a), some (.str (ofL l)), some (.int (m : Int)), some (.ref sa), some (.ref b), some (.ref f), some (.int (i : Int)), some (.int (ixZ z)), w'] G := fun G g =>
      ls_make hl hll (by omega) g fun e w H' he g2 => ⟨_, _, _, _, _, by simp; omega, g2, rfl⟩
    cases hrz : Y.r z with
    | nil =>
      rw [List.map_nil, List.isEmpty_nil]
      generalize (tSeq (tAsg (tCall (sp__law_deed K) [] E0 (tCons (tVar 0) (tCons (tOp (rIx K) (tOp (rIx K) (tVar 3) (tVar 7)) (tC (.int 0))) tNil))) (gName 8)) (tSeq (tDrop (tBM K "list" rAppend (tOp (rIx K) (tVar 4) (tOp rSubU (tC (.int 1)) (tVar 7))) (tCons (tCall (sp__law_make K) [] E0 (tCons (tVar 3) (tCons (tVar 7) (tCons (tVar 8) tNil)))) tNil))) (tDrop (tBM K "list" rAppend (tVar 5) (tCons (tTup (tCons (tC (.str "make")) (tCons (tVar 7) (tCons (tVar 8) tNil)))) tNil))))) = T at mkp ⊢
      walk_at "wp"
      exact mkp _ St3
    | cons x t =>
      rw [List.map_cons, List.isEmpty_cons]
      generalize (tSeq (tAsg (tCall (sp__law_deed K) [] E0 (tCons (tVar 0) (tCons (tOp (rIx K) (tOp (rIx K) (tVar 3) (tVar 7)) (tC (.int 0))) tNil))) (gName 8)) (tSeq (tDrop (tBM K "list" rAppend (tOp (rIx K) (tVar 4) (tOp rSubU (tC (.int 1)) (tVar 7))) (tCons (tCall (sp__law_make K) [] E0 (tCons (tVar 3) (tCons (tVar 7) (tCons (tVar 8) tNil)))) tNil))) (tDrop (tBM K "list" rAppend (tVar 5) (tCons (tTup (tCons (tC (.str "make")) (tCons (tVar 7) (tCons (tVar 8) tNil)))) tNil))))) = T at mkp ⊢
      generalize hC : (tSeq (tDrop (tCall (sp__law_come K) [] E0 (tCons (tVar 3) (tCons (tVar 7) (tCons (tBM K "list" rPopAt (tOp (rIx K) (tVar 4) (tVar 7)) (tCons (tC (.int 0)) tNil)) tNil))))) (tDrop (tBM K "list" rAppend (tVar 5) (tCons (tTup (tCons (tC (.str "come")) (tCons (tVar 7) tNil))) tNil)))) = C
      walk_at "wp"
      refine ⟨a, 2, rfl, St3.dr, by decide, fun r2 H3 hr2 f3 d3 => ?_⟩
      have St4 := St3.move f3 d3
      walk_at "wp"
      refine w_dec ?_ ?_ <;> intro h0
      · subst hC
        exact ls_come hl hll (by omega) St4 hrz fun H' g2 => ⟨_, _, _, _, _, by simp; omega, g2, rfl⟩
      · exact mkp _ St4
  · obtain ⟨es, Y, u, v, w', hel, St, rfl⟩ := p
    obtain ⟨xs, hx, hxd⟩ := St.fd
    obtain ⟨Ys, hr⟩ := St.run
    walk_at "wp"
    exact k f es _ xs H' St.ok (by omega) hr St.fr St.dr St.f0 hx hxd
end
end FL

/-! the earlier promises by what stands apart -/
namespace FL
open PySem PySem.Spec PyProof.Rows L2 CwR TL
section
variable {K : PySem.W.Frag} {H H' : Hp} {Q : VK} {E : XK} {A X Y : Res}
theorem c_draws {a : Addr} {ns : List Int} (h : Hd (fz K a (ns.map V.int) ^ X) H) (hl : ns.length ≤ 1000) (k : ∀ d H', Hd (dr d ^ fz K a (ns.map V.int) ^ X) H' → Q (.ref d) H') : sp__law_draws K [.ref a] H Q E :=
  ⟨a, ns, rfl, h.fz, hl, fun d H' s hd g => k d H' (by
    obtain ⟨F, h2⟩ := h
    obtain ⟨ns', e, l⟩ := g
    exact ⟨fun x => x = d ∨ F x, fun x => x = d, F, ⟨fun x => Iff.rfl, ns', e, l⟩, Res.st _ h2 (fun x o _ => s x o) (TK.of s), fun x e1 z => Res.al _ h2 x z (by rw [e1]; exact hd), fun x => Iff.rfl⟩)⟩
theorem c_take {a : Addr} {m : Int} (h : Hd (dr a ^ X) H) (hm : 0 < m) (k : ∀ (r : Nat) H', (r : Int) < m → Hd (dr a ^ X) H' → Q (.int (r : Int)) H') : sp__law_take K [.ref a, .int m] H Q E :=
  ⟨a, m, rfl, h.dr, hm, fun r H' hr f d => k r H' hr (h.drN f d)⟩
theorem c_sign {a : Addr} (h : Hd (dr a ^ X) H) (k : ∀ c H', okC c = true → Hd (dr a ^ X) H' → Q (.str (sgn c)) H') : sp__law_sign K [.ref a] H Q E :=
  ⟨a, rfl, h.dr, fun c H' hc f d => k c H' hc (h.drN f d)⟩
theorem c_line {a : Addr} (h : Hd (dr a ^ X) H) (k : ∀ l H', okL l = true → l.length ≤ 40 → Hd (dr a ^ X) H' → Q (.str (ofL l)) H') : sp__law_line K [.ref a] H Q E :=
  ⟨a, rfl, h.dr, fun l H' h1 h2 f d => k l H' h1 h2 (h.drN f d)⟩
theorem c_deed {a : Addr} {l : Ln} (h : Hd (dr a ^ X) H) (hl : l.length ≤ 100000) (k : ∀ e v H', e.okc = true → cn l e = true → Hd (dv K v e.d ^ dr a ^ X) H' → Q v H') : sp__law_deed K [.ref a, .str (ofL l)] H Q E :=
  ⟨a, l, rfl, h.dr, hl, fun e v H' h1 h2 f d hv => k e v H' h1 h2 ((h.drN f d).addD hv (noL_deed e))⟩
theorem c_story {a : Addr} {l : Ln} {m : Nat} (h : Hd (dr a ^ X) H) (hl : okL l = true) (hll : l.length ≤ 1000) (hm : m ≤ 100) (k : ∀ q es p H', (∀ e ∈ es, e.okc = true) → es.length ≤ m → runs (Yd.new l) es = some p → Hd (ls K q (es.map Ev.d) ^ dr a ^ X) H' → Q (.ref q) H') : sp__law_story K [.ref a, .str (ofL l), .int (m : Int)] H Q E :=
  ⟨a, l, m, rfl, h.dr, hl, hll, hm, fun q es p xs H' h1 h2 h3 f d hq e hd => k q es p H' h1 h2 h3 (by
    obtain ⟨F, F1, F2, a1, b1, dj, g⟩ := h
    have hF : ∀ x, F1 x ↔ x = a := a1.1
    have hk : ∀ x o, F2 x → H x = some o → H' x = some o := fun x o z e => f x o (fun q => dj x ((hF x).mpr q) z) e
    refine ⟨fun x => x = q ∨ (x = a ∨ F2 x), fun x => x = q, fun x => x = a ∨ F2 x, ⟨fun x => Iff.rfl, noLs_map noL_ev _, xs, e, hd⟩, ⟨fun x => x = a, F2, ⟨fun x => Iff.rfl, d⟩, X.st b1 hk (a1.2.tk f), fun x z => dj x ((hF x).mpr z), fun x => Iff.rfl⟩, fun x z w => ?_, fun x => Iff.rfl⟩
    rcases w with w | w
    · obtain ⟨ns, g1, _⟩ := a1.2
      rw [← w, z, hq] at g1; cases g1
    · exact X.al b1 x w (by rw [z]; exact hq))⟩
theorem c_law_seats {l : Ln} (h : Hd X H) (k : ∀ a H', Same H H' → Hd (seR K a (fun _ => newSeat l) ^ X) H' → Q (.ref a) H') : sp__law_seats K [.str (ofL l)] H Q E :=
  ⟨l, rfl, fun a q w H' s ha hq hw nd hl hst => k a H' s (by
    obtain ⟨F, h⟩ := h
    simp only [List.nodup_cons, List.mem_cons, List.not_mem_nil, or_false, not_or, List.nodup_nil, and_true, not_false_eq_true] at nd
    obtain ⟨⟨n1, n2, n3, n4⟩, ⟨n5, n6, n7⟩, ⟨n8, n9⟩, n10⟩ := nd
    have hX := X.st h (fun x o _ => s x o) (TK.of s)
    have al := X.al h
    refine ⟨_, fun x => x = a ∨ (x = q true ∨ x = w true) ∨ (x = q false ∨ x = w false), F, ⟨q, fun x => x = a, fun x => (x = q true ∨ x = w true) ∨ (x = q false ∨ x = w false), ⟨fun x => Iff.rfl, hl⟩, ⟨fun x => x = q true ∨ x = w true, fun x => x = q false ∨ x = w false, ⟨w true, fun x => Iff.rfl, hst true⟩, ⟨w false, fun x => Iff.rfl, hst false⟩, ?_, fun x => Iff.rfl⟩, ?_, fun x => Iff.rfl⟩, hX, ?_, fun x => Iff.rfl⟩
    · rintro x (rfl | rfl) (e | e)
      · exact n5 e
      · exact n7 e
      · exact n8 e.symm
      · exact n10 e
    · rintro x rfl ((e | e) | (e | e))
      · exact n1 e
      · exact n3 e
      · exact n2 e
      · exact n4 e
    · rintro x (rfl | (rfl | rfl) | (rfl | rfl)) z
      · exact al _ z ha
      · exact al _ z (hq _)
      · exact al _ z (hw _)
      · exact al _ z (hq _)
      · exact al _ z (hw _))⟩
theorem c_law_make {a : Addr} {s : Bool → Seat} {z : Bool} {v : V} {e : Deed} (h : Hd (seR K a s ^ X) H) (hv : Dp K H v e.d) (hc : cn (s z).text e = true) (h1 : (s z).text.length ≤ 10000) (h2 : (s z).wait.length ≤ 10000) (hm : (s z).made = (s z).heard + (s z).wait.length)
    (k : ∀ v' H', TK H H' → Hd (dv K v' (mkL (s z) e).d3 ^ seR K a (bset s z (mkS z (s z) e)) ^ X) H' → Q v' H') : sp__law_make K [.ref a, .int (ixZ z), v] H Q E := by
  obtain ⟨q, h⟩ := h.se z
  obtain ⟨w, hw⟩ := (hp1 h).lse
  refine ⟨a, q, w, s z, z, v, e, rfl, h.pt, hw, hv, hc, h1, h2, hm, fun v' H' f t st hd => k v' H' t ?_⟩
  have h' := (hp1 h).lseN hw f t (.inl rfl) st
  exact (hp1 h').mkSe.addD hd (noL_letter3 _)
theorem c_law_come {a : Addr} {s : Bool → Seat} {z : Bool} {v : V} {l : Letter} {d : PyData} (h : Hd (seR K a s ^ X) H) (hd : d = Letter.d l ∨ d = Letter.d3 l) (hv : Dp K H v d) (hc : cn (s z).text (tkW z (s z) l).1 = true) (hh : (s z).heard ≤ l.taken) (h1 : (s z).text.length ≤ 10000) (h2 : (s z).wait.length ≤ 10000)
    (k : ∀ v' H', TK H H' → Hd (dv K v' (tkW z (s z) l).1.d ^ seR K a (bset s z (tkS z (s z) l)) ^ X) H' → Q v' H') : sp__law_come K [.ref a, .int (ixZ z), v] H Q E := by
  obtain ⟨q, h⟩ := h.se z
  obtain ⟨w, hw⟩ := (hp1 h).lse
  refine ⟨a, q, w, s z, z, v, l, d, rfl, h.pt, hw, hd, hv, hc, hh, h1, h2, fun v' w' H' f t hn st hd => k v' H' t ?_⟩
  have h' := (hp1 h).lseN hw f t (.inr hn) st
  exact (hp1 h').mkSe.addD hd (noL_deed _)
theorem c_yard {y : Addr} {l : Ln} (h : Hd (ob y (gloA K "Yard") [] ^ X) H) (hl : l.length ≤ 10000) (k : ∀ H', TK H H' → Hd (yd K y (Yd.new l) ^ X) H' → Q .non H') : sp_Yard___init__ K [.ref y, .str (ofL l)] H Q E := by
  obtain ⟨dx, e⟩ := h.ob
  refine ⟨y, dx, l, rfl, hl, e, fun A H' hA hp f t at1 => k H' t ?_⟩
  refine h.frame (fun F hF => ⟨fun x => x ∈ A.foot y, ⟨A, fun x => Iff.rfl, at1⟩, fun x z => ?_, fun x o z g => f x o (fun q => z ((hF.1 x).mpr q)) g⟩) t
  rcases List.mem_append.mp z with z | z
  · simp only [List.mem_cons, List.not_mem_nil, or_false] at z
    rcases z with rfl | rfl | rfl
    · exact .inl ((hF.1 _).mpr rfl)
    · exact .inr (hp true)
    · exact .inr (hp false)
  · exact .inr (hA x z)
theorem c_make_at {y : Addr} {Y : Yd} {z : Bool} {v : V} {e : Deed} {n : Nat} (h : Hd (yd K y Y ^ X) H) (hv : Dp K H v e.d) (he : e.okc = true) (hc : cn (Y.s z).text e = true) (ok : Y.ok n) (hn : n ≤ 9000)
    (k : ∀ v' H', TK H H' → Hd (dv K v' (mkL (Y.s z) e).d ^ yd K y (Y.make z e) ^ X) H' → Q v' H') : sp_Yard_make_at K [.ref y, .int (ixZ z), v] H Q E := by
  obtain ⟨S, hy, dm, back⟩ := h.yin
  exact ⟨y, z, v, e, S, Y, n, rfl, hy, dm, hv, he, hc, ok, hn, fun v' H' kp t hy' hd => k v' H' t ((back H' _ kp t hy').addD hd (noL_letter _))⟩
theorem c_come_to {y : Addr} {Y : Yd} {z : Bool} {n : Nat} {x : Letter} {t : List Letter} (h : Hd (yd K y Y ^ X) H) (ok : Y.ok n) (hn : n ≤ 9000) (hr : Y.r z = x :: t)
    (k : ∀ v' H', TK H H' → Hd (dv K v' (tkW z (Y.s z) x).1.d ^ yd K y (Y.take z x t) ^ X) H' → Q v' H') : sp_Yard_come_to K [.ref y, .int (ixZ z)] H Q E := by
  obtain ⟨S, hy, dm, back⟩ := h.yin
  exact ⟨y, z, S, Y, n, x, t, rfl, hy, dm, ok, hn, hr, fun v' H' kp t hy' hd => k v' H' t ((back H' _ kp t hy').addD hd (noL_deed _))⟩
theorem c_shown_at {y : Addr} {Y : Yd} {z : Bool} (h : Hd (yd K y Y ^ X) H) (k : ∀ H', Same H H' → Hd (yd K y Y ^ X) H' → Q (.str (ofL (Y.s z).text)) H') : sp_Yard_shown_at K [.ref y, .int (ixZ z)] H Q E := by
  obtain ⟨S, hy⟩ := h.ybare
  exact ⟨y, z, S, Y, rfl, hy, fun H' s => k H' s (h.same s)⟩
theorem c_mark_at {y : Addr} {Y : Yd} {z : Bool} (h : Hd (yd K y Y ^ X) H) (k : ∀ H', Same H H' → Hd (yd K y Y ^ X) H' → Q (.int ((Y.s z).own : Int)) H') : sp_Yard_mark_at K [.ref y, .int (ixZ z)] H Q E := by
  obtain ⟨S, hy⟩ := h.ybare
  exact ⟨y, z, S, Y, rfl, hy, fun H' s => k H' s (h.same s)⟩
theorem c_other_mark_at {y : Addr} {Y : Yd} {z : Bool} (h : Hd (yd K y Y ^ X) H) (k : ∀ H', Same H H' → Hd (yd K y Y ^ X) H' → Q (.int ((Y.s z).far : Int)) H') : sp_Yard_other_mark_at K [.ref y, .int (ixZ z)] H Q E := by
  obtain ⟨S, hy⟩ := h.ybare
  exact ⟨y, z, S, Y, rfl, hy, fun H' s => k H' s (h.same s)⟩
theorem c_road_to {y : Addr} {Y : Yd} {z : Bool} (h : Hd (yd K y Y ^ X) H) (k : ∀ p H', Same H H' → Hd (ls K p ((Y.r z).map Letter.d) ^ yd K y Y ^ X) H' → Q (.ref p) H') : sp_Yard_road_to K [.ref y, .int (ixZ z)] H Q E := by
  obtain ⟨S, hy⟩ := h.ybare
  exact ⟨y, z, S, Y, rfl, hy, fun p xs H' s hp e d => k p H' s (h.gotL s hp e d (noLs_map noL_letter _))⟩
theorem hd_mkRo2 {b p q : Addr} {xs ys : List V} {R : Bool → List PyData} (h : Hd (pt b (.lst [.ref p, .ref q]) ^ pt q (.lst ys) ^ pt p (.lst xs) ^ X) H) (hx : DpAll K H xs (R true)) (hy : DpAll K H ys (R false)) (n1 : noLs (R true) = true) (n2 : noLs (R false) = true) : Hd (roR K b R ^ X) H := by
  have h1 : Hd (FL.ls K q (R false) ^ pt p (.lst xs) ^ pt b (.lst [.ref p, .ref q]) ^ X) H := Hd.toL (hd_eq h (by ac_rfl)) hy n2
  have h2 : Hd (FL.ls K p (R true) ^ FL.ls K q (R false) ^ pt b (.lst [.ref p, .ref q]) ^ X) H := Hd.toL (hp1 h1) hx n1
  exact Hd.mkEx (fun z => if z then p else q) (hd_eq h2 (by simp only [if_true, Bool.false_eq_true, if_false]; ac_rfl))
/-! a seat's thing -/
variable {p q : Addr} {r : Bool → Addr} {z : Bool} {s : Seat}
theorem s_ixR (h : Hd (pt p (.lst [.ref (r true), .ref (r false)]) ^ X) H) (k : Q (.ref (r z)) H) : rIx K (.ref p) (.int (ixZ z)) H Q := w_ixL k (SqL.of h.pt) (ix_at (f := fun b => V.ref (r b)) z)
theorem s_ixO (h : Hd (pt p (.lst [.ref (r true), .ref (r false)]) ^ X) H) (k : Q (.ref (r (!z))) H) : rIx K (.ref p) (.int (1 - ixZ z)) H Q := w_ixL k (SqL.of h.pt) (ix_off (f := fun b => V.ref (r b)) z)
theorem s_tyD {ds : List PyData} {R : Prop} (h : Hd (ls K p ds ^ X) H) (k : R) : tyV K "list" (.ref p) H ∧ R := by
  obtain ⟨xs, e, _⟩ := h.ls
  exact ⟨.inl ⟨rfl, _, SqL.of e⟩, k⟩
theorem s_gmY {y : Addr} {Y : Yd} {m : Str} {R : Prop} (h : Hd (yd K y Y ^ X) H) (h1 : (m == ("seats" : Str)) = false) (h2 : (m == ("roads" : Str)) = false) (k : R) : GM (gloA K "Yard") m (.ref y) H R := by
  obtain ⟨S, A, hA, _⟩ := h.ybare
  obtain ⟨dx, e⟩ := hA.ins
  exact ⟨y, dx, _, rfl, e, two_no h1 h2, k⟩
theorem s_ixS0 (h : Hd (lse K q s ^ X) H) (k : Q (.str (ofL s.text)) H) : rIx K (.ref q) (.int 0) H Q := by
  obtain ⟨w, e⟩ := h.lse
  exact w_ixL k (SqL.of e.st) rfl
theorem s_ixS1 (h : Hd (lse K q s ^ X) H) (k : Q (.int (s.made : Int)) H) : rIx K (.ref q) (.int 1) H Q := by
  obtain ⟨w, e⟩ := h.lse
  exact w_ixL k (SqL.of e.st) rfl
theorem s_ixS2 (h : Hd (lse K q s ^ X) H) (k : Q (.int (s.taken : Int)) H) : rIx K (.ref q) (.int 2) H Q := by
  obtain ⟨w, e⟩ := h.lse
  exact w_ixL k (SqL.of e.st) rfl
/-- draws != [] -/
theorem s_neDr {d q : Addr} (h : Hd (pt q (.lst []) ^ dr d ^ X) H) (k : ∀ b, Q (.bl b) H) : rNeU K (.ref d) (.ref q) H Q := by
  obtain ⟨ns, e, hl⟩ := h.tail.dr
  exact w_neLy (k := 1) (k _) (.lst (SqL.of e) dps_ints) (.lst (SqL.of h.pt) .nil) (ly_map fun n _ => ly_int _) (ly_lst fun d hd => (List.not_mem_nil hd).elim) (by decide)
theorem w_while' {c : TT} {tb : TS} {D : Ends} {σ : L2.St} {H : Hp} (W : Nat → L2.St → Hp → Prop) (m0 : Nat) (h0 : W m0 σ H)
    (turn : ∀ m σ H, W m σ H → c σ H fun b H1 => if b = true then ∃ N : L2.St → Hp → Prop, (∀ σ' H', N σ' H' → ∃ m', m' < m ∧ W m' σ' H') ∧ tb { D with nx := N, ct := N, bk := D.nx } σ H1 else D.nx σ H1) : tWhile c tb D σ H :=
  ⟨W, ⟨m0, h0⟩, turn⟩
/-- while many < 1 or draws != [] and many < N -/
theorem w_drawn {mi di N : Nat} {tb : TS} {D : Ends} {σ : L2.St} {H : Hp} {d : Addr} (J : Nat → L2.St → Hp → Prop) (hN : 1 ≤ N) (h0 : J 0 σ H)
    (hm : ∀ many σ H, J many σ H → σ[mi]? = some (some (.int (many : Int))) ∧ σ[di]? = some (some (.ref d)) ∧ ∃ X : Res, Hd (dr d ^ X) H) (hs : ∀ many σ H H', J many σ H → Same H H' → J many σ H')
    (turn : ∀ many σ H, J many σ H → many < N → tb { D with nx := J (many + 1), ct := J (many + 1), bk := D.nx } σ H) (done : ∀ many σ H, J many σ H → many ≤ N → 1 ≤ many → D.nx σ H) :
    tWhile (tOr (tTest (tOp rLtU (tVar mi) (tC (.int 1)))) (tAnd (tTest (tOp (rNeU K) (tVar di) (tLst tNil))) (tTest (tOp rLtU (tVar mi) (tC (.int (N : Int))))))) tb D σ H := by
  refine w_while' (fun m σ H => ∃ many, m = N - many ∧ many ≤ N ∧ J many σ H) N ⟨0, rfl, Nat.zero_le _, h0⟩ fun m σ H p => ?_
  obtain ⟨many, rfl, hl, j⟩ := p
  obtain ⟨e1, e2, X, hX⟩ := hm many σ H j
  have go : ∀ H', Same H H' → many < N → ∃ Nx : L2.St → Hp → Prop, (∀ σ' H', Nx σ' H' → ∃ m', m' < N - many ∧ ∃ many', m' = N - many' ∧ many' ≤ N ∧ J many' σ' H') ∧ tb { D with nx := Nx, ct := Nx, bk := D.nx } σ H' := fun H' s hlt =>
    ⟨J (many + 1), fun σ' H2 j' => ⟨N - (many + 1), by omega, many + 1, rfl, hlt, j'⟩, turn many σ H' (hs _ _ _ _ j s) hlt⟩
  refine w_or (w_test (w_op (w_var e1 (w_c (w_ltI (w_bl ?_))))))
  refine w_dec (fun h1 => ?_) fun h1 => ?_
  · rw [if_pos rfl]
    exact go H (Same.refl H) (by omega)
  · refine w_and (w_test (w_op (w_var e2 (w_lst (w_nil ⟨by decide, fun q hq => ?_⟩)))))
    have s := same_new (o := .lst []) hq
    refine s_neDr (hX.new hq) fun b => w_bl ?_
    cases b with
    | false =>
      rw [if_neg Bool.false_ne_true, if_neg Bool.false_ne_true]
      exact done many σ _ (hs _ _ _ _ j s) hl (by omega)
    | true =>
      rw [if_pos rfl]
      refine w_test (w_op (w_var e1 (w_c (w_ltI (w_bl ?_)))))
      refine w_dec (fun h2 => ?_) fun h2 => ?_
      · exact go _ s (by omega)
      · exact done many σ _ (hs _ _ _ _ j s) hl (by omega)
end
end FL

namespace FL
open PySem PySem.Spec PyProof.Rows L2 CwR TL
local macro_rules | `(tactic| walk_at "tls") => `(tactic| (simp only [TL.tl_append, TL.tl_num, tl_ofL, tl_sgn, tl_empty, List.nil_append, List.append_nil, List.cons_append, List.append_assoc]))
local macro_rules | `(tactic| walk_at "szt") => `(tactic| (simp only [len_ofL, TL.len_tl, TL.tl_append, TL.tl_num, tl_ofL, tl_sgn, tl_empty, List.length_append, List.length_cons, List.length_nil]; omega))
local macro_rules | `(tactic| walk_at "beta") => `(tactic| (try dsimp only [List.set_cons_zero, List.set_cons_succ]))
local macro_rules | `(tactic| walk_at "sq") => `(tactic| first | assumption | exact SqL.of upd_same | exact SqT.of upd_same | exact SqL.of (by assumption) | exact SqT.of (by assumption) | ((with_reducible refine' sq_updI ?h ?s); (case h => walk_at "lk"); (case s => walk_at "sq")) | ((with_reducible refine' sq_updL ?h ?s); (case h => walk_at "lk"); (case s => walk_at "sq")) | ((with_reducible refine' sq_new ?h ?s); (case h => assumption); (case s => walk_at "sq")) | exact SqL.of (by walk_at "lk"))
local macro_rules | `(tactic| walk_at "lk") => `(tactic| first | assumption | exact upd_same | (refine Eq.trans (upd_ne (by assumption)) ?_; walk_at "lk"))
local macro_rules | `(tactic| walk_at "fl") => `(tactic| first | with_reducible exact l_text | with_reducible exact l_ahead | with_reducible exact l_made | with_reducible exact l_taken | with_reducible exact l_heard | with_reducible exact l_wait | with_reducible exact l_own | with_reducible exact l_far | exact l_no (by decide +kernel) | exact two_l1 | exact two_l2 (by decide +kernel) | exact two_no (by decide +kernel) (by decide +kernel))
local macro_rules | `(tactic| walk_at "pl") => `(tactic| first | with_reducible exact p_text | with_reducible exact p_made | with_reducible exact p_taken | with_reducible exact p_heard | with_reducible exact p_wait | with_reducible exact p_own | with_reducible exact p_far | with_reducible exact i_1 | with_reducible exact i_2 | with_reducible exact i_3 | with_reducible exact i_4 | with_reducible exact i_5 | with_reducible exact i_6 | with_reducible exact i_7 | with_reducible exact i_8 | exact ⟨put_past (by decide +kernel), Nat.le_of_ble_eq_true rfl⟩ | exact ⟨rfl, Nat.le_of_ble_eq_true rfl⟩)
local macro_rules | `(tactic| walk_at "wp1") => `(tactic| first
  | with_reducible refine w_seq ?_
  | with_reducible refine w_set ?_
  | ((with_reducible refine' w_var ?e ?k); (case e => exact rfl))
  | with_reducible refine w_c ?_
  | with_reducible refine w_op ?_
  | with_reducible refine w_ret ?_
  | with_reducible refine w_if ?_
  | with_reducible refine w_test ?_
  | with_reducible refine w_bl ?_
  | with_reducible refine w_cons ?_
  | with_reducible refine w_nil ?_
  | with_reducible refine w_call ?_
  | with_reducible refine w_cb ?_
  | with_reducible refine w_next ?_
  | with_reducible refine w_drop ?_
  | with_reducible refine w_asg ?_
  | with_reducible refine w_and ?_
  | with_reducible refine w_or ?_
  | with_reducible refine w_not ?_
  | with_reducible refine w_ifE ?_
  | with_reducible refine w_tB ?_
  | with_reducible refine iteT ?_
  | with_reducible refine iteF ?_
  | with_reducible refine w_addI ?_
  | with_reducible refine w_subI ?_
  | with_reducible refine w_ltI ?_
  | with_reducible refine w_leI ?_
  | with_reducible refine w_gtI ?_
  | with_reducible refine w_geI ?_
  | with_reducible refine w_eqI ?_
  | with_reducible refine w_neI ?_
  | with_reducible refine w_eqS ?_
  | with_reducible refine w_neS ?_
  | with_reducible refine w_is ?_
  | with_reducible refine w_isNot ?_
  | with_reducible refine w_intI ?_
  | with_reducible refine w_intB ?_
  | with_reducible refine w_inC ?_
  | with_reducible refine w_niC ?_
  | ((with_reducible refine' w_ixL ?k ?h ?x); (case h => walk_at "sq"); (case x => rfl))
  | ((with_reducible refine' w_ixT ?k ?h ?x); (case h => walk_at "sq"); (case x => rfl))
  | ((with_reducible refine w_modI ?k ?c); (case c => first | omega | with_reducible assumption | decide))
  | ((with_reducible refine w_divI ?k ?c); (case c => exact ⟨by omega, by omega⟩))
  | ((with_reducible refine w_mulI ?k ?c); (case c => first | exact .inl ⟨by omega, by omega⟩ | exact .inr ⟨by omega, by omega⟩))
  | ((with_reducible refine w_powI ?k ?c); (case c => exact ⟨by decide, by decide, by decide⟩))
  | ((with_reducible refine' w_lenL ?k ?h); (case h => walk_at "sq"))
  | ((with_reducible refine' w_lenT ?k ?h); (case h => walk_at "sq"))
  | ((with_reducible refine w_len ?h ?k); (case h => exact Nat.le_of_ble_eq_true rfl))
  | ((with_reducible refine w_decTS ?h ?k); (case h => exact rfl))
  | ((with_reducible refine w_decFS ?h ?k); (case h => decide +kernel))
  | ((with_reducible refine w_ndecTS ?h ?k); (case h => exact rfl))
  | ((with_reducible refine w_ndecFS ?h ?k); (case h => decide +kernel))
  | ((with_reducible refine w_sz ?h ?k); (case h => walk_at "szt"))
  | ((with_reducible refine w_addS' ?k ?h); (case h => walk_at "szt"))
  | ((with_reducible refine w_strI' ?k ?h); (case h => omega))
  | ((with_reducible refine w_fmtN (A := True) ?h ?k); (case h => omega))
  | with_reducible refine w_chain ?_
  | with_reducible refine w_for ?_
  | with_reducible refine w_lc ?_
  | ((with_reducible refine w_rng ?h ?k); (case h => exact ⟨by omega, by omega⟩))
  | with_reducible refine w_iStr ?_
  | with_reducible refine w_iList ?_
  | with_reducible refine w_iRng1 ?_
  | with_reducible refine w_exR ?_
  | ((with_reducible refine' w_exSqL ?h ?k); (case h => walk_at "sq"))
  | ((with_reducible refine w_lenS ?k ?h); (case h => refine Nat.le_trans ?_ (by decide : 1000000 ≤ sizeLine); walk_at "szt"))
  | ((with_reducible refine w_slS ?k ?h); (case h => refine Nat.le_trans ?_ (by decide : 1000000 ≤ sizeLine); walk_at "szt"))
  | with_reducible refine w_nT ?_
  | with_reducible refine w_nF ?_
  | with_reducible refine w_un ?_
  | with_reducible refine w_negI ?_
  | with_reducible refine w_bm ?_
  | with_reducible refine w_bm0 ?_
  | ((with_reducible refine' w_tyL ?h ?k); (case h => walk_at "sq"))
  | ((with_reducible refine' w_append ?p ?l ?k); (case p => walk_at "lk"); (case l => first | exact Nat.le_of_ble_eq_true rfl | omega))
  | with_reducible refine w_gsub ?_
  | with_reducible refine w_gname ?_
  | ((with_reducible refine' w_set4_0 ?p ?k); (case p => walk_at "lk"))
  | ((with_reducible refine' w_set4_1 ?p ?k); (case p => walk_at "lk"))
  | ((with_reducible refine' w_set4_2 ?p ?k); (case p => walk_at "lk"))
  | ((with_reducible refine' w_set4_3 ?p ?k); (case p => walk_at "lk"))
  | ((with_reducible refine' w_setL ?p ?i ?k); (case p => walk_at "lk"); (case i => exact rfl))
  | with_reducible refine w_tup ?_
  | with_reducible refine w_lst ?_
  | with_reducible refine w_sl ?_
  | with_reducible refine w_noPart ?_
  | with_reducible refine w_part ?_
  | with_reducible refine w_exI ?_
  | with_reducible refine w_exS ?_
  | with_reducible refine w_join ?_
  | with_reducible refine w_split ?_
  | with_reducible refine w_isS ?_
  | with_reducible refine w_joined ?_
  | with_reducible refine w_jsNil ?_
  | with_reducible refine w_jsCons ?_
  | with_reducible refine w_fmt ?_
  | with_reducible refine w_fmtI ?_
  | with_reducible refine w_repl ?_
  | with_reducible refine w_andV ?_
  | with_reducible refine w_orV ?_
  | with_reducible refine w_notV ?_
  | with_reducible refine w_retN ?_
  | with_reducible refine w_brk ?_
  | with_reducible refine w_cont ?_
  | ((with_reducible refine' w_yes (p := ((List.length (_ : List V) : Nat) : Int) = _) ?h ?k); (case h => exact of_decide_eq_true rfl))
  | ((with_reducible refine' w_yes (p := ((List.length (_ : List V) : Nat) : Int) < _) ?h ?k); (case h => exact of_decide_eq_true rfl))
  | ((with_reducible refine' w_yes (p := _ < ((List.length (_ : List V) : Nat) : Int)) ?h ?k); (case h => exact of_decide_eq_true rfl))
  | ((with_reducible refine' w_yes (p := _ = ((List.length (_ : List V) : Nat) : Int)) ?h ?k); (case h => exact of_decide_eq_true rfl))
  | ((with_reducible refine' w_yes (p := ((Str.length (sgn _) : Nat) : Int) = _) ?h ?k); (case h => exact of_decide_eq_true rfl))
  | ((with_reducible refine' w_no (p := ((List.length (_ : List V) : Nat) : Int) = _) ?h ?k); (case h => exact of_decide_eq_false rfl))
  | ((with_reducible refine' w_no (p := ((List.length (_ : List V) : Nat) : Int) < _) ?h ?k); (case h => exact of_decide_eq_false rfl))
  | ((with_reducible refine' w_no (p := _ < ((List.length (_ : List V) : Nat) : Int)) ?h ?k); (case h => exact of_decide_eq_false rfl))
  | ((with_reducible refine' w_no (p := _ = ((List.length (_ : List V) : Nat) : Int)) ?h ?k); (case h => exact of_decide_eq_false rfl))
  | ((with_reducible refine' w_no (p := ((Str.length (sgn _) : Nat) : Int) = _) ?h ?k); (case h => exact of_decide_eq_false rfl))
  | ((with_reducible refine' w_nyes (p := ((List.length (_ : List V) : Nat) : Int) = _) ?h ?k); (case h => exact of_decide_eq_true rfl))
  | ((with_reducible refine' w_nyes (p := ((List.length (_ : List V) : Nat) : Int) < _) ?h ?k); (case h => exact of_decide_eq_true rfl))
  | ((with_reducible refine' w_nyes (p := _ < ((List.length (_ : List V) : Nat) : Int)) ?h ?k); (case h => exact of_decide_eq_true rfl))
  | ((with_reducible refine' w_nyes (p := _ = ((List.length (_ : List V) : Nat) : Int)) ?h ?k); (case h => exact of_decide_eq_true rfl))
  | ((with_reducible refine' w_nyes (p := ((Str.length (sgn _) : Nat) : Int) = _) ?h ?k); (case h => exact of_decide_eq_true rfl))
  | ((with_reducible refine' w_nno (p := ((List.length (_ : List V) : Nat) : Int) = _) ?h ?k); (case h => exact of_decide_eq_false rfl))
  | ((with_reducible refine' w_nno (p := ((List.length (_ : List V) : Nat) : Int) < _) ?h ?k); (case h => exact of_decide_eq_false rfl))
  | ((with_reducible refine' w_nno (p := _ < ((List.length (_ : List V) : Nat) : Int)) ?h ?k); (case h => exact of_decide_eq_false rfl))
  | ((with_reducible refine' w_nno (p := _ = ((List.length (_ : List V) : Nat) : Int)) ?h ?k); (case h => exact of_decide_eq_false rfl))
  | ((with_reducible refine' w_nno (p := ((Str.length (sgn _) : Nat) : Int) = _) ?h ?k); (case h => exact of_decide_eq_false rfl))
  | ((with_reducible refine' w_no (p := (V.ref _ = V.non)) ?h ?k); (case h => intro z9; cases z9))
  | ((with_reducible refine' w_yes (p := (V.non = V.non)) ?h ?k); (case h => rfl))
  | with_reducible refine w_fldC ?_
  | with_reducible refine w_make ?_
  | ((with_reducible refine' w_fldR ?h ?l ?k); (case h => walk_at "lk"); (case l => walk_at "fl"))
  | with_reducible refine w_sfldC ?_
  | ((with_reducible refine' w_sfldR ?h ?l ?k); (case h => walk_at "lk"); (case l => walk_at "pl"))
  | ((with_reducible refine' w_sfldR2 ?h ?l ?k); (case h => walk_at "lk"); (case l => first | exact p_len | exact Nat.le_of_ble_eq_true rfl); (first | rw [p_far.1] | rw [p_text.1] | rw [p_own.1] | rw [p_wait.1] | rw [p_heard.1] | rw [p_made.1] | rw [p_taken.1]))
  | with_reducible refine w_sfldaugC ?_
  | with_reducible refine w_addR ?_
  | with_reducible refine w_subR ?_
  | ((with_reducible refine' w_sfldQ ?h ?l ?k); (case h => walk_at "lk"); (case l => walk_at "pl"))
  | with_reducible refine w_meth ?_
  | ((with_reducible refine' w_methR ?h ?l ?k); (case h => walk_at "lk"); (case l => walk_at "fl"))
  | with_reducible refine w_kget ?_
  | ((with_reducible refine' w_gtup ?h ?l ?k); (case h => walk_at "sq"); (case l => exact rfl))
  | with_reducible refine w_gcons ?_
  | with_reducible refine w_gnil ?_
  | with_reducible refine w_isiII ?_
  | with_reducible refine w_isiIB ?_
  | with_reducible refine w_isiSS ?_
  | ((with_reducible refine' w_isiTT ?h ?k); (case h => walk_at "sq"))
  | ((with_reducible refine' w_isiLL ?h ?k); (case h => walk_at "sq"))
  | with_reducible refine w_ipI ?_
  | with_reducible refine w_par ?_
  | with_reducible refine w_par3 ?_
  | with_reducible refine w_parR ?_
  | with_reducible refine w_parR3 ?_
  | with_reducible refine w_aug ?_
  | ((with_reducible refine' w_var2 ?e ?k); (case e => exact rfl))
  | ((with_reducible refine' w_insL ?p ?l ?k); (case p => walk_at "lk"); (case l => first | omega | decide))
  | rw [kg_put]
  | rw [kg_cut]
  | rw [kg_non])
local macro_rules | `(tactic| walk_at "wp") => `(tactic| ((try dsimp only); (repeat walk_at "wp1"); (walk_at "beta")))
section
variable {K : PySem.W.Frag} {vs : List V} {H H0 H' : Hp} {Q : VK} {E : XK}
def PK : List (Key × V) := [(.inr "put", .int 3), (.inr "cut", .int 2), (.inr "none", .int 1)]
theorem w_parts {σ : L2.St} {ty : TE} (k : ∀ p, H p = none → ty σ (upd H p (.dK PK)) fun y H2 => ∃ a v, V.ref p = .ref a ∧ DGet H2 a y (some v) ∧ Q v H2) :
    tDGet (tDisp [(tC (.str "put"), tC (.int 3)), (tC (.str "cut"), tC (.int 2)), (tC (.str "none"), tC (.int 1))]) ty σ H Q := by
  intro p hp
  refine ⟨upd_same, PK, rfl, by decide, ?_⟩
  have e : mergeK [] PK = PK := by unfold mergeK PK; simp only [List.foldl]; rfl
  rw [e, upd_upd]
  exact k p hp
theorem pk_put {p : Addr} (h : H p = some (.dK PK)) : DGet H p (.str "put") (some (.int 3)) := .inl ⟨PK, .inr "put", Rd.of h, rfl, by decide +kernel⟩
theorem pk_cut {p : Addr} (h : H p = some (.dK PK)) : DGet H p (.str "cut") (some (.int 2)) := .inl ⟨PK, .inr "cut", Rd.of h, rfl, by decide +kernel⟩
theorem pk_non {p : Addr} (h : H p = some (.dK PK)) : DGet H p (.str "none") (some (.int 1)) := .inl ⟨PK, .inr "none", Rd.of h, rfl, by decide +kernel⟩
theorem in_alpha {c : Nat} (hc : okC c = true) : inV (.str (sgn c)) (("abcdefghijklmnopqrstuvwxyz " : Str).cps.toList.map fun c => V.str ⟨#[c]⟩) = true := by
  have all : ∀ c, c < 123 → okC c = true → inV (.str (sgn c)) (("abcdefghijklmnopqrstuvwxyz " : Str).cps.toList.map fun c => V.str ⟨#[c]⟩) = true := by decide +kernel
  exact all c (okC_lt hc) hc
theorem pr__law_is_deed (h : sp__law_is_deed K vs H Q E) : t__law_is_deed K { nx := fun _ H' => Q .non H', rt := Q } (start N__law_is_deed vs) H := by
  obtain ⟨l, v, e, rfl, hl, hv, he, k⟩ := h
  unfold t__law_is_deed
  cases e with
  | put p c =>
    obtain ⟨a, rfl, hs⟩ := dp_put hv
    walk_at "wp"
    intro q1 hq1
    have s1 := same_new (o := .tup []) hq1
    have hs1 := same_t s1 hs
    refine w_eqLy (k := 2) ?_ (dp_same s1 hv) (.tup (SqT.of upd_same) .nil) ((ly_deed he).mono (by omega)) ((ly_tup (k := 1) fun d hd => (List.not_mem_nil hd).elim)) (by decide)
    rw [show PyData.eqv (Deed.d (.put p c)) (.tuple []) = false by simp [Deed.d, PyData.eqv, PyData.eqvAll]]
    walk_at "wp"
    intro q2 hq2
    have s2 := s1.trans (same_new (o := .tup [.str "put", .str "cut", .str "none"]) hq2)
    refine w_niT (SqT.of upd_same) rfl rfl ?_
    rw [show inV (.str ("put")) [.str "put", .str "cut", .str "none"] = true by decide +kernel]
    have hs2 := same_t s2 hs
    walk_at "wp"
    refine w_parts fun q3 hq3 => ?_
    have s3 : Same H _ := s2.trans (same_new (o := .dK PK) hq3)
    have hs3 := same_t s3 hs
    walk_at "wp"
    refine ⟨q3, _, rfl, pk_put upd_same, ?_⟩
    walk_at "wp"
    refine w_yes (by omega) ?_
    walk_at "wp"
    by_cases hc : p ≤ l.length
    · have e1 : cn l (.put p c) = true := cn_put.mpr hc
      refine w_nyes (by rw [len_ofL]; simp only [List.length_cons, List.length_nil]; omega) ?_
      walk_at "wp"
      refine .inr ⟨_, rfl, by decide, fun q4 hq4 => ?_⟩
      walk_at "wp"
      refine .inr (.inl ⟨q4, _, rfl, .inl (SqL.of upd_same), rfl, by decide +kernel, ?_⟩)
      have e2 := in_alpha (c := c) he
      rw [e1] at k
      rw [if_neg Bool.false_ne_true, e2]
      exact k _ (s3.trans (same_new hq4))
    · have e1 : cn l (.put p c) = false := by
        cases h : cn l (.put p c) with
        | false => rfl
        | true => exact (hc (cn_put.mp h)).elim
      refine w_nno (by rw [len_ofL]; simp only [List.length_cons, List.length_nil]; omega) ?_
      walk_at "wp"
      rw [e1] at k
      exact k _ s3
  | cut p =>
    obtain ⟨a, rfl, hs⟩ := dp_cut hv
    walk_at "wp"
    intro q1 hq1
    have s1 := same_new (o := .tup []) hq1
    have hs1 := same_t s1 hs
    refine w_eqLy (k := 2) ?_ (dp_same s1 hv) (.tup (SqT.of upd_same) .nil) ((ly_deed he).mono (by omega)) ((ly_tup (k := 1) fun d hd => (List.not_mem_nil hd).elim)) (by decide)
    rw [show PyData.eqv (Deed.d (.cut p)) (.tuple []) = false by simp [Deed.d, PyData.eqv, PyData.eqvAll]]
    walk_at "wp"
    intro q2 hq2
    have s2 := s1.trans (same_new (o := .tup [.str "put", .str "cut", .str "none"]) hq2)
    refine w_niT (SqT.of upd_same) rfl rfl ?_
    rw [show inV (.str ("cut")) [.str "put", .str "cut", .str "none"] = true by decide +kernel]
    have hs2 := same_t s2 hs
    walk_at "wp"
    refine w_parts fun q3 hq3 => ?_
    have s3 : Same H _ := s2.trans (same_new (o := .dK PK) hq3)
    have hs3 := same_t s3 hs
    walk_at "wp"
    refine ⟨q3, _, rfl, pk_cut upd_same, ?_⟩
    walk_at "wp"
    refine w_yes (by omega) ?_
    walk_at "wp"
    by_cases hc : p < l.length
    · have e1 : cn l (.cut p) = true := cn_cut.mpr hc
      refine w_nyes (by rw [len_ofL]; simp only [List.length_cons, List.length_nil]; omega) ?_
      walk_at "wp"
      rw [e1] at k
      exact k _ s3
    · have e1 : cn l (.cut p) = false := by
        cases h : cn l (.cut p) with
        | false => rfl
        | true => exact (hc (cn_cut.mp h)).elim
      refine w_nno (by rw [len_ofL]; simp only [List.length_cons, List.length_nil]; omega) ?_
      walk_at "wp"
      rw [e1] at k
      exact k _ s3
  | non =>
    obtain ⟨a, rfl, hs⟩ := dp_non hv
    walk_at "wp"
    intro q1 hq1
    have s1 := same_new (o := .tup []) hq1
    have hs1 := same_t s1 hs
    refine w_eqLy (k := 2) ?_ (dp_same s1 hv) (.tup (SqT.of upd_same) .nil) ((ly_deed he).mono (by omega)) ((ly_tup (k := 1) fun d hd => (List.not_mem_nil hd).elim)) (by decide)
    rw [show PyData.eqv (Deed.d (.non)) (.tuple []) = false by simp [Deed.d, PyData.eqv, PyData.eqvAll]]
    walk_at "wp"
    intro q2 hq2
    have s2 := s1.trans (same_new (o := .tup [.str "put", .str "cut", .str "none"]) hq2)
    refine w_niT (SqT.of upd_same) rfl rfl ?_
    rw [show inV (.str ("none")) [.str "put", .str "cut", .str "none"] = true by decide +kernel]
    have hs2 := same_t s2 hs
    walk_at "wp"
    refine w_parts fun q3 hq3 => ?_
    have s3 : Same H _ := s2.trans (same_new (o := .dK PK) hq3)
    have hs3 := same_t s3 hs
    walk_at "wp"
    refine ⟨q3, _, rfl, pk_non upd_same, ?_⟩
    walk_at "wp"
    exact k _ s3
theorem pr__law_is_event (h : sp__law_is_event K vs H Q E) : t__law_is_event K { nx := fun _ H' => Q .non H', rt := Q } (start N__law_is_event vs) H := by
  obtain ⟨a, b, Y, v, e, X, rfl, hL, htx, hok, hv, he, k⟩ := h
  unfold t__law_is_event
  cases e with
  | come z =>
    obtain ⟨x, rfl, hs⟩ := dp_come hv
    walk_at "wp"
    intro q hq
    have s1 := same_new (o := .tup [.int 0, .int 1]) hq
    have hs1 := same_t s1 hs
    refine w_niT (SqT.of upd_same) rfl rfl ?_
    rw [show inV (.int (ixZ z)) [.int 0, .int 1] = true by cases z <;> rfl]
    walk_at "wp"
    obtain ⟨r, hr⟩ := Hd.ro z (hp1 (hL.same s1))
    refine w_ixL ?_ (SqL.of hr.pt) (ix_at (f := fun b => V.ref (r b)) z)
    walk_at "wp"
    intro q2 hq2
    have s2 := same_new (o := .lst []) hq2
    obtain ⟨xs, hx, hxd⟩ := (hp1 hr).ls
    refine w_neLy (k := 3) ?_ (.lst (SqL.of (s2 _ _ hx)) (dps_same s2 hxd)) (.lst (SqL.of upd_same) .nil) (ly_map fun l hl => ly_letter3 (hok z l hl)) (ly_lst fun d hd => (List.not_mem_nil hd).elim) (by decide)
    rw [eqv_nil]
    have e1 : (rd3 Y z).isEmpty = (Y.r z).isEmpty := by unfold rd3; cases Y.r z <;> rfl
    rw [e1]
    exact k _ (s1.trans s2)
  | make z e =>
    obtain ⟨x, y, rfl, hs, hy⟩ := dp_make hv
    walk_at "wp"
    intro q hq
    have s1 := same_new (o := .tup [.int 0, .int 1]) hq
    have hs1 := same_t s1 hs
    refine w_niT (SqT.of upd_same) rfl rfl ?_
    rw [show inV (.int (ixZ z)) [.int 0, .int 1] = true by cases z <;> rfl]
    walk_at "wp"
    obtain ⟨r, hr⟩ := Hd.se z (hL.same s1)
    refine w_ixL ?_ (SqL.of hr.pt) (ix_at (f := fun b => V.ref (r b)) z)
    obtain ⟨w, hw⟩ := (hp1 hr).lse
    have hst := SqL.of (K := K) hw.st
    walk_at "wp"
    exact ⟨(Y.s z).text, y, e, rfl, by have := htx z; omega, dp_same s1 hy, he, fun H' s2 => k _ (s1.trans s2)⟩
end
end FL

namespace FL
open PySem PySem.Spec PyProof.Rows L2 CwR TL
local macro_rules | `(tactic| walk_at "tls") => `(tactic| (simp only [TL.tl_append, TL.tl_num, tl_ofL, tl_sgn, tl_empty, List.nil_append, List.append_nil, List.cons_append, List.append_assoc]))
local macro_rules | `(tactic| walk_at "szt") => `(tactic| (simp only [len_ofL, TL.len_tl, TL.tl_append, TL.tl_num, tl_ofL, tl_sgn, tl_empty, List.length_append, List.length_cons, List.length_nil]; omega))
local macro_rules | `(tactic| walk_at "beta") => `(tactic| (try dsimp only [List.set_cons_zero, List.set_cons_succ]))
local macro_rules | `(tactic| walk_at "sq") => `(tactic| first | assumption | exact SqL.of upd_same | exact SqT.of upd_same | exact SqL.of (by assumption) | exact SqT.of (by assumption) | ((with_reducible refine' sq_updI ?h ?s); (case h => walk_at "lk"); (case s => walk_at "sq")) | ((with_reducible refine' sq_updL ?h ?s); (case h => walk_at "lk"); (case s => walk_at "sq")) | ((with_reducible refine' sq_new ?h ?s); (case h => assumption); (case s => walk_at "sq")) | exact SqL.of (by walk_at "lk"))
local macro_rules | `(tactic| walk_at "lk") => `(tactic| first | assumption | exact upd_same | (refine Eq.trans (upd_ne (by assumption)) ?_; walk_at "lk"))
local macro_rules | `(tactic| walk_at "fl") => `(tactic| first | with_reducible exact l_text | with_reducible exact l_ahead | with_reducible exact l_made | with_reducible exact l_taken | with_reducible exact l_heard | with_reducible exact l_wait | with_reducible exact l_own | with_reducible exact l_far | exact l_no (by decide +kernel) | exact two_l1 | exact two_l2 (by decide +kernel) | exact two_no (by decide +kernel) (by decide +kernel))
local macro_rules | `(tactic| walk_at "pl") => `(tactic| first | with_reducible exact p_text | with_reducible exact p_made | with_reducible exact p_taken | with_reducible exact p_heard | with_reducible exact p_wait | with_reducible exact p_own | with_reducible exact p_far | with_reducible exact i_1 | with_reducible exact i_2 | with_reducible exact i_3 | with_reducible exact i_4 | with_reducible exact i_5 | with_reducible exact i_6 | with_reducible exact i_7 | with_reducible exact i_8 | exact ⟨put_past (by decide +kernel), Nat.le_of_ble_eq_true rfl⟩ | exact ⟨rfl, Nat.le_of_ble_eq_true rfl⟩)
local macro_rules | `(tactic| walk_at "wp1") => `(tactic| first
  | with_reducible refine w_seq ?_
  | with_reducible refine w_set ?_
  | ((with_reducible refine' w_var ?e ?k); (case e => exact rfl))
  | with_reducible refine w_c ?_
  | with_reducible refine w_op ?_
  | with_reducible refine w_ret ?_
  | with_reducible refine w_if ?_
  | with_reducible refine w_test ?_
  | with_reducible refine w_bl ?_
  | with_reducible refine w_cons ?_
  | with_reducible refine w_nil ?_
  | with_reducible refine w_call ?_
  | with_reducible refine w_cb ?_
  | with_reducible refine w_next ?_
  | with_reducible refine w_drop ?_
  | with_reducible refine w_asg ?_
  | with_reducible refine w_and ?_
  | with_reducible refine w_or ?_
  | with_reducible refine w_not ?_
  | with_reducible refine w_ifE ?_
  | with_reducible refine w_tB ?_
  | with_reducible refine iteT ?_
  | with_reducible refine iteF ?_
  | with_reducible refine w_addI ?_
  | with_reducible refine w_subI ?_
  | with_reducible refine w_ltI ?_
  | with_reducible refine w_leI ?_
  | with_reducible refine w_gtI ?_
  | with_reducible refine w_geI ?_
  | with_reducible refine w_eqI ?_
  | with_reducible refine w_neI ?_
  | with_reducible refine w_eqS ?_
  | with_reducible refine w_neS ?_
  | with_reducible refine w_is ?_
  | with_reducible refine w_isNot ?_
  | with_reducible refine w_intI ?_
  | with_reducible refine w_intB ?_
  | with_reducible refine w_inC ?_
  | with_reducible refine w_niC ?_
  | ((with_reducible refine' w_ixL ?k ?h ?x); (case h => walk_at "sq"); (case x => rfl))
  | ((with_reducible refine' w_ixT ?k ?h ?x); (case h => walk_at "sq"); (case x => rfl))
  | ((with_reducible refine w_modI ?k ?c); (case c => first | omega | with_reducible assumption | decide))
  | ((with_reducible refine w_divI ?k ?c); (case c => exact ⟨by omega, by omega⟩))
  | ((with_reducible refine w_mulI ?k ?c); (case c => first | exact .inl ⟨by omega, by omega⟩ | exact .inr ⟨by omega, by omega⟩))
  | ((with_reducible refine w_powI ?k ?c); (case c => exact ⟨by decide, by decide, by decide⟩))
  | ((with_reducible refine' w_lenL ?k ?h); (case h => walk_at "sq"))
  | ((with_reducible refine' w_lenT ?k ?h); (case h => walk_at "sq"))
  | ((with_reducible refine w_len ?h ?k); (case h => exact Nat.le_of_ble_eq_true rfl))
  | ((with_reducible refine w_decTS ?h ?k); (case h => exact rfl))
  | ((with_reducible refine w_decFS ?h ?k); (case h => decide +kernel))
  | ((with_reducible refine w_ndecTS ?h ?k); (case h => exact rfl))
  | ((with_reducible refine w_ndecFS ?h ?k); (case h => decide +kernel))
  | ((with_reducible refine w_sz ?h ?k); (case h => walk_at "szt"))
  | ((with_reducible refine w_addS' ?k ?h); (case h => walk_at "szt"))
  | ((with_reducible refine w_strI' ?k ?h); (case h => omega))
  | ((with_reducible refine w_fmtN (A := True) ?h ?k); (case h => omega))
  | with_reducible refine w_chain ?_
  | with_reducible refine w_for ?_
  | with_reducible refine w_lc ?_
  | ((with_reducible refine w_rng ?h ?k); (case h => exact ⟨by omega, by omega⟩))
  | with_reducible refine w_iStr ?_
  | with_reducible refine w_iList ?_
  | with_reducible refine w_iRng1 ?_
  | with_reducible refine w_exR ?_
  | ((with_reducible refine' w_exSqL ?h ?k); (case h => walk_at "sq"))
  | ((with_reducible refine w_lenS ?k ?h); (case h => refine Nat.le_trans ?_ (by decide : 1000000 ≤ sizeLine); walk_at "szt"))
  | ((with_reducible refine w_slS ?k ?h); (case h => refine Nat.le_trans ?_ (by decide : 1000000 ≤ sizeLine); walk_at "szt"))
  | with_reducible refine w_nT ?_
  | with_reducible refine w_nF ?_
  | with_reducible refine w_un ?_
  | with_reducible refine w_negI ?_
  | with_reducible refine w_bm ?_
  | with_reducible refine w_bm0 ?_
  | ((with_reducible refine' w_tyL ?h ?k); (case h => walk_at "sq"))
  | ((with_reducible refine' w_append ?p ?l ?k); (case p => walk_at "lk"); (case l => first | exact Nat.le_of_ble_eq_true rfl | omega))
  | with_reducible refine w_gsub ?_
  | with_reducible refine w_gname ?_
  | ((with_reducible refine' w_set4_0 ?p ?k); (case p => walk_at "lk"))
  | ((with_reducible refine' w_set4_1 ?p ?k); (case p => walk_at "lk"))
  | ((with_reducible refine' w_set4_2 ?p ?k); (case p => walk_at "lk"))
  | ((with_reducible refine' w_set4_3 ?p ?k); (case p => walk_at "lk"))
  | ((with_reducible refine' w_setL ?p ?i ?k); (case p => walk_at "lk"); (case i => exact rfl))
  | with_reducible refine w_tup ?_
  | with_reducible refine w_lst ?_
  | with_reducible refine w_sl ?_
  | with_reducible refine w_noPart ?_
  | with_reducible refine w_part ?_
  | with_reducible refine w_exI ?_
  | with_reducible refine w_exS ?_
  | with_reducible refine w_join ?_
  | with_reducible refine w_split ?_
  | with_reducible refine w_isS ?_
  | with_reducible refine w_joined ?_
  | with_reducible refine w_jsNil ?_
  | with_reducible refine w_jsCons ?_
  | with_reducible refine w_fmt ?_
  | with_reducible refine w_fmtI ?_
  | with_reducible refine w_repl ?_
  | with_reducible refine w_andV ?_
  | with_reducible refine w_orV ?_
  | with_reducible refine w_notV ?_
  | with_reducible refine w_retN ?_
  | with_reducible refine w_brk ?_
  | with_reducible refine w_cont ?_
  | ((with_reducible refine' w_yes (p := ((List.length (_ : List V) : Nat) : Int) = _) ?h ?k); (case h => exact of_decide_eq_true rfl))
  | ((with_reducible refine' w_yes (p := ((List.length (_ : List V) : Nat) : Int) < _) ?h ?k); (case h => exact of_decide_eq_true rfl))
  | ((with_reducible refine' w_yes (p := _ < ((List.length (_ : List V) : Nat) : Int)) ?h ?k); (case h => exact of_decide_eq_true rfl))
  | ((with_reducible refine' w_yes (p := _ = ((List.length (_ : List V) : Nat) : Int)) ?h ?k); (case h => exact of_decide_eq_true rfl))
  | ((with_reducible refine' w_yes (p := ((Str.length (sgn _) : Nat) : Int) = _) ?h ?k); (case h => exact of_decide_eq_true rfl))
  | ((with_reducible refine' w_no (p := ((List.length (_ : List V) : Nat) : Int) = _) ?h ?k); (case h => exact of_decide_eq_false rfl))
  | ((with_reducible refine' w_no (p := ((List.length (_ : List V) : Nat) : Int) < _) ?h ?k); (case h => exact of_decide_eq_false rfl))
  | ((with_reducible refine' w_no (p := _ < ((List.length (_ : List V) : Nat) : Int)) ?h ?k); (case h => exact of_decide_eq_false rfl))
  | ((with_reducible refine' w_no (p := _ = ((List.length (_ : List V) : Nat) : Int)) ?h ?k); (case h => exact of_decide_eq_false rfl))
  | ((with_reducible refine' w_no (p := ((Str.length (sgn _) : Nat) : Int) = _) ?h ?k); (case h => exact of_decide_eq_false rfl))
  | ((with_reducible refine' w_nyes (p := ((List.length (_ : List V) : Nat) : Int) = _) ?h ?k); (case h => exact of_decide_eq_true rfl))
  | ((with_reducible refine' w_nyes (p := ((List.length (_ : List V) : Nat) : Int) < _) ?h ?k); (case h => exact of_decide_eq_true rfl))
  | ((with_reducible refine' w_nyes (p := _ < ((List.length (_ : List V) : Nat) : Int)) ?h ?k); (case h => exact of_decide_eq_true rfl))
  | ((with_reducible refine' w_nyes (p := _ = ((List.length (_ : List V) : Nat) : Int)) ?h ?k); (case h => exact of_decide_eq_true rfl))
  | ((with_reducible refine' w_nyes (p := ((Str.length (sgn _) : Nat) : Int) = _) ?h ?k); (case h => exact of_decide_eq_true rfl))
  | ((with_reducible refine' w_nno (p := ((List.length (_ : List V) : Nat) : Int) = _) ?h ?k); (case h => exact of_decide_eq_false rfl))
  | ((with_reducible refine' w_nno (p := ((List.length (_ : List V) : Nat) : Int) < _) ?h ?k); (case h => exact of_decide_eq_false rfl))
  | ((with_reducible refine' w_nno (p := _ < ((List.length (_ : List V) : Nat) : Int)) ?h ?k); (case h => exact of_decide_eq_false rfl))
  | ((with_reducible refine' w_nno (p := _ = ((List.length (_ : List V) : Nat) : Int)) ?h ?k); (case h => exact of_decide_eq_false rfl))
  | ((with_reducible refine' w_nno (p := ((Str.length (sgn _) : Nat) : Int) = _) ?h ?k); (case h => exact of_decide_eq_false rfl))
  | ((with_reducible refine' w_no (p := (V.ref _ = V.non)) ?h ?k); (case h => intro z9; cases z9))
  | ((with_reducible refine' w_yes (p := (V.non = V.non)) ?h ?k); (case h => rfl))
  | with_reducible refine w_fldC ?_
  | with_reducible refine w_make ?_
  | ((with_reducible refine' w_fldR ?h ?l ?k); (case h => walk_at "lk"); (case l => walk_at "fl"))
  | with_reducible refine w_sfldC ?_
  | ((with_reducible refine' w_sfldR ?h ?l ?k); (case h => walk_at "lk"); (case l => walk_at "pl"))
  | ((with_reducible refine' w_sfldR2 ?h ?l ?k); (case h => walk_at "lk"); (case l => first | exact p_len | exact Nat.le_of_ble_eq_true rfl); (first | rw [p_far.1] | rw [p_text.1] | rw [p_own.1] | rw [p_wait.1] | rw [p_heard.1] | rw [p_made.1] | rw [p_taken.1]))
  | with_reducible refine w_sfldaugC ?_
  | with_reducible refine w_addR ?_
  | with_reducible refine w_subR ?_
  | ((with_reducible refine' w_sfldQ ?h ?l ?k); (case h => walk_at "lk"); (case l => walk_at "pl"))
  | with_reducible refine w_meth ?_
  | ((with_reducible refine' w_methR ?h ?l ?k); (case h => walk_at "lk"); (case l => walk_at "fl"))
  | with_reducible refine w_kget ?_
  | ((with_reducible refine' w_gtup ?h ?l ?k); (case h => walk_at "sq"); (case l => exact rfl))
  | with_reducible refine w_gcons ?_
  | with_reducible refine w_gnil ?_
  | with_reducible refine w_isiII ?_
  | with_reducible refine w_isiIB ?_
  | with_reducible refine w_isiSS ?_
  | ((with_reducible refine' w_isiTT ?h ?k); (case h => walk_at "sq"))
  | ((with_reducible refine' w_isiLL ?h ?k); (case h => walk_at "sq"))
  | with_reducible refine w_ipI ?_
  | with_reducible refine w_par ?_
  | with_reducible refine w_par3 ?_
  | with_reducible refine w_parR ?_
  | with_reducible refine w_parR3 ?_
  | with_reducible refine w_aug ?_
  | ((with_reducible refine' w_var2 ?e ?k); (case e => exact rfl))
  | ((with_reducible refine' w_insL ?p ?l ?k); (case p => walk_at "lk"); (case l => first | omega | decide))
  | rw [kg_put]
  | rw [kg_cut]
  | rw [kg_non])
local macro_rules | `(tactic| walk_at "wp") => `(tactic| ((try dsimp only); (repeat walk_at "wp1"); (walk_at "beta")))
local macro_rules | `(tactic| walk_at "as") => `(tactic| with_reducible assumption)
local macro_rules | `(tactic| walk_at "sl") => `(tactic| (with_reducible refine' hd_eq ?h ?e; (case h => with_reducible assumption); (case e => walk_at "rp")))
local macro_rules | `(tactic| walk_at "rp") => `(tactic| first
  | with_reducible exact rfl
  | with_reducible exact rp1
  | with_reducible exact rp2
  | with_reducible exact rp3
  | with_reducible exact rp4
  | with_reducible exact rp5
  | with_reducible exact rp6
  | with_reducible exact rp7
  | with_reducible exact rp8
  | with_reducible exact rp9
  | with_reducible exact rp10
  | with_reducible exact rp11
  | with_reducible exact rp12
  | with_reducible exact rp13)
local macro_rules | `(tactic| walk_at "sl2") => `(tactic| (with_reducible refine' hd_q ?h ?e; (case h => walk_at "sl"); (case e => walk_at "rp")))
local macro_rules | `(tactic| walk_at "sl3") => `(tactic| (with_reducible refine' hd_q3 ?h ?e ?e2; (case h => walk_at "sl"); (case e => walk_at "rp"); (case e2 => walk_at "rp")))
local macro_rules | `(tactic| walk_at "sl4") => `(tactic| (with_reducible refine' hd_q4 ?h ?e ?e2 ?e3; (case h => walk_at "sl"); (case e => walk_at "rp"); (case e2 => walk_at "rp"); (case e3 => walk_at "rp")))
local macro_rules | `(tactic| walk_at "fs") => `(tactic| first
  | with_reducible exact sub_refl
  | with_reducible exact sub_emp
  | (with_reducible refine sub_keep ?_; walk_at "fs")
  | (with_reducible refine sub_eq rp1 (sub_keep ?_); walk_at "fs")
  | (with_reducible refine sub_eq rp2 (sub_keep ?_); walk_at "fs")
  | (with_reducible refine sub_eq rp3 (sub_keep ?_); walk_at "fs")
  | (with_reducible refine sub_eq rp4 (sub_keep ?_); walk_at "fs")
  | (with_reducible refine sub_eq rp5 (sub_keep ?_); walk_at "fs")
  | (with_reducible refine sub_eq rp6 (sub_keep ?_); walk_at "fs")
  | (with_reducible refine sub_eq rp7 (sub_keep ?_); walk_at "fs")
  | (with_reducible refine sub_eq rp8 (sub_keep ?_); walk_at "fs")
  | (with_reducible refine sub_eq rp9 (sub_keep ?_); walk_at "fs")
  | (with_reducible refine sub_eq rp10 (sub_keep ?_); walk_at "fs")
  | (with_reducible refine sub_eq rp11 (sub_keep ?_); walk_at "fs")
  | (with_reducible refine sub_eq rp12 (sub_keep ?_); walk_at "fs")
  | (with_reducible refine sub_eq rp13 (sub_keep ?_); walk_at "fs")
  | (with_reducible refine sub_drop ?_; walk_at "fs"))
local macro_rules | `(tactic| walk_at "fin") => `(tactic| first
  | with_reducible assumption
  | ((with_reducible refine' Hd.sub ?h ?s); (case h => with_reducible assumption); (case s => walk_at "fs")))
local macro_rules | `(tactic| walk_at "sq") => `(tactic| first | ((with_reducible refine' Hd.tp ?h); (case h => walk_at "sl")) | ((with_reducible refine' Hd.tqT ?h); (case h => walk_at "sl")) | ((with_reducible refine' Hd.fz ?h); (case h => walk_at "sl")) | ((with_reducible refine' SqL.of (Hd.pt ?h)); (case h => walk_at "sl")) | ((with_reducible refine' Hd.lsxq ?h); (case h => walk_at "sl")))
local macro_rules | `(tactic| walk_at "lk") => `(tactic| first | ((with_reducible refine' Hd.pt ?h); (case h => walk_at "sl")) | ((with_reducible refine' Hd.tq ?h); (case h => walk_at "sl")))
local macro_rules | `(tactic| walk_at "dp") => `(tactic| first | ((with_reducible refine' Hd.dv ?h); (case h => walk_at "sl")) | ((with_reducible refine' Hd.lsd ?h); (case h => walk_at "sl")) | with_reducible assumption | with_reducible exact .int _ | with_reducible exact .str _ | with_reducible exact .bl _ | with_reducible exact .non)
local macro_rules | `(tactic| walk_at "wp1") => `(tactic| first
  | with_reducible refine w_tupS ?_
  | with_reducible refine w_lstS ?_
  | with_reducible refine w_fldS ?_
  | with_reducible refine w_sfldS ?_
  | with_reducible refine w_methS ?_
  | with_reducible refine w_makeS ?_
  | ((with_reducible refine' w_sfldaugQ ?e ?k); (case e => exact rfl))
  | ((with_reducible refine' s_tup ?h ?k); (case h => with_reducible assumption); (intro _ _ _ _))
  | ((with_reducible refine' s_lst ?h ?k); (case h => with_reducible assumption); (intro _ _ _ _ _))
  | ((with_reducible refine' s_gf ?h ?l ?k); (case h => walk_at "sl"); (case l => walk_at "fl"))
  | ((with_reducible refine' s_gm ?h ?l ?k); (case h => walk_at "sl"); (case l => walk_at "fl"))
  | ((with_reducible refine' s_sf ?h ?l ?k); (case h => walk_at "sl"); (case l => walk_at "pl"); (intro _ _ _))
  | ((with_reducible refine' s_sq ?h ?l ?k); (case h => walk_at "sl"); (case l => walk_at "pl"); (intro _ _ _))
  | ((with_reducible refine' s_append ?h ?l ?k); (case h => walk_at "sl"); (case l => first | exact Nat.le_of_ble_eq_true rfl | omega); (intro _ _ _))
  | ((with_reducible refine' s_pop0 ?h ?k); (case h => walk_at "sl"); (intro _ _ _))
  | ((with_reducible refine' s_set4_0 ?h ?k); (case h => walk_at "sl"); (intro _ _ _))
  | ((with_reducible refine' s_set4_1 ?h ?k); (case h => walk_at "sl"); (intro _ _ _))
  | ((with_reducible refine' s_set4_2 ?h ?k); (case h => walk_at "sl"); (intro _ _ _))
  | ((with_reducible refine' s_set4_3 ?h ?k); (case h => walk_at "sl"); (intro _ _ _))
  | ((with_reducible refine' s_setL ?h ?l ?k); (case h => walk_at "sl"); (case l => exact rfl); (intro _ _ _))
  | ((with_reducible refine' s_ixR ?h ?k); (case h => walk_at "sl"))
  | ((with_reducible refine' s_ixO ?h ?k); (case h => walk_at "sl"))
  | ((with_reducible refine' s_ixS0 ?h ?k); (case h => walk_at "sl"))
  | ((with_reducible refine' s_ixS1 ?h ?k); (case h => walk_at "sl"))
  | ((with_reducible refine' s_ixS2 ?h ?k); (case h => walk_at "sl"))
  | ((with_reducible refine' s_pop0D ?h ?k); (case h => walk_at "sl"); (intro _ _ _ _))
  | ((with_reducible refine' s_tyD ?h ?k); (case h => walk_at "sl"))
  | ((with_reducible refine' s_gmY ?h ?a ?b ?k); (case h => walk_at "sl"); (case a => decide +kernel); (case b => decide +kernel))
  | ((with_reducible refine' s_appendD ?h ?v ?n ?l ?k); (case h => walk_at "sl"); (case v => walk_at "dp"); (case n => first | with_reducible rfl | with_reducible exact noL_deed _ | with_reducible exact noL_letter _ | with_reducible exact noL_letter3 _ | with_reducible exact noL_ev _ | exact rfl); (case l => walk_at "le"); (intro _ _ _)))
local macro_rules | `(tactic| walk_at "le") => `(tactic| first | omega | (simp only [List.length_map, List.length_append, List.length_cons, List.length_nil]; omega))
section
variable {K : PySem.W.Frag} {vs : List V} {H H0 H' : Hp} {Q : VK} {E : XK} {X : Res}
theorem wideA_mem : ∀ {ds : List PyData}, wideA ds = true → ∀ d ∈ ds, wideD d = true
  | [], _, d, h => (List.not_mem_nil h).elim
  | x :: ds, hw, d, h => by
    rw [wideA, Bool.and_eq_true] at hw
    rcases List.mem_cons.mp h with rfl | h
    · exact hw.1
    · exact wideA_mem hw.2 d h
theorem depthA_mem : ∀ {ds : List PyData}, ∀ d ∈ ds, d.depth ≤ PyData.depthAll ds
  | [], d, h => (List.not_mem_nil h).elim
  | x :: ds, d, h => by
    rw [PyData.depthAll]
    rcases List.mem_cons.mp h with rfl | h
    · exact Nat.le_max_left _ _
    · exact Nat.le_trans (depthA_mem d h) (Nat.le_max_right _ _)
theorem kindsA_map : ∀ ds : List PyData, kindsA ds = ds.map kindsD
  | [] => rfl
  | d :: ds => by rw [kindsA, kindsA_map ds]; rfl
def tyN : PyData → String
  | .none => "NoneType"
  | .bool _ => "bool"
  | .int _ => "int"
  | .str _ => "str"
  | .list _ => "list"
  | .tuple _ => "tuple"
  | _ => ""
theorem dp_ty {v : V} {d : PyData} (h : Dp K H v d) : TyX K H v (.type (tyN d)) := by
  cases h with
  | non => exact .base .non
  | bl b => exact .base (.bl b)
  | int i => exact .base (.int i)
  | str x => exact .base (.str x)
  | lst h a => exact ty_L h
  | tup h a => exact ty_T h
theorem w_isiD {v : V} {d : PyData} {T : String} (n : String) (b : Bool) (hv : Dp K H v d) (k : Q (.bl b) H) (hn : tyN d = n := by rfl) (e : kitB n T = some b := by decide +kernel) : rIsiU K [v, .ty T] H Q := .inl ⟨v, .ty T, .type (tyN d), .type T, b, rfl, .ty _, dp_ty hv, kit_ty (by rw [hn]; exact e), k⟩
theorem w_isiD2 {v : V} {d : PyData} {S T : String} (n : String) (b c r : Bool) {p : Addr} (hp : H p = some (.tup [.ty S, .ty T])) (hv : Dp K H v d) (k : Q (.bl r) H) (hn : tyN d = n := by rfl) (e : kitB n S = some b := by decide +kernel) (e2 : kitB n T = some c := by decide +kernel) (er : r = (b || c) := by rfl) : rIsiU K [v, .ref p] H Q :=
  .inr ⟨v, p, _, .type (tyN d), [.type S, .type T], r, rfl, hp, .cons (.ty _) (.cons (.ty _) .nil), dp_ty hv, by
    subst er hn
    refine kitAny_cons (kit_ty e) (fun hb => ?_) (fun hb => by rw [hb]; rfl)
    rw [hb]
    refine kitAny_cons (kit_ty e2) (fun hc => by rw [hc]; rfl) (fun hc => by rw [hc]; rfl), k⟩
theorem kinds_non {b1 b2 : Bool} {p : Addr} (h' : Hd (FL.pt p (.lst [.bl b1, .bl b2]) ^ all H0 ^ X) H) (k : ∀ v' H', Hd (dd K v' (.list [.bool b1, .bool b2]) ^ all H0) H' → Q v' H') : Q (.ref p) H := by
  refine k _ _ ?_
  have h2 : Hd (FL.pt p (.lst [.bl b1, .bl b2]) ^ all H0) H := h'.sub (sub_keep sub_fst)
  have h3 := Hd.ddVals (K := K) (vs := [.bl b1, .bl b2]) (ds := [.bool b1, .bool b2]) h2 fun _ => .cons (.bl _) (.cons (.bl _) .nil)
  exact (hp1 h3).ddL
theorem kinds_seq {b : Bool} {p q : Addr} {ys : List V} {es : List PyData} (h : Hd (FL.pt q (.lst [.bl b, .ref p]) ^ FL.pt p (.lst ys) ^ ddA K ys es ^ all H0 ^ X) H) (k : ∀ v' H', Hd (dd K v' (.list [.bool b, .list es]) ^ all H0) H' → Q v' H') : Q (.ref q) H := by
  refine k _ _ ?_
  have h2 : Hd (dd K (.ref p) (.list es) ^ FL.pt q (.lst [.bl b, .ref p]) ^ all H0 ^ X) H := Hd.ddL (hd_eq h (by ac_rfl))
  have h3 := Hd.ddCons (v := .bl b) (d := .bool b) (vs := [.ref p]) (ds := [.list es]) (Hd.ddD (hd_eq (Hd.ddCons (hd_eq (Hd.ddNil h2) (star_left ..))) rfl |>.addD (.bl b) rfl))
  have h4 : Hd (FL.pt q (.lst [.bl b, .ref p]) ^ ddA K [.bl b, .ref p] [.bool b, .list es] ^ all H0 ^ X) H := hp1 h3
  exact h4.ddL.sub (sub_keep sub_fst)
theorem kindsA_take {ds : List PyData} {i : Nat} {d : PyData} (h : ds[i]? = some d) : (ds.take (i + 1)).map kindsD = (ds.take i).map kindsD ++ [kindsD d] := by
  rw [take_snoc h, List.map_append]; rfl
theorem pr_kinds_b {rec : Sp} {v : V} {d : PyData} (hv : Dp K H v d) (hs : d.depth = 0) (k : ∀ v' H', Hd (dd K v' (kindsD d) ^ all H) H' → Q v' H') : t__law_kinds K rec { nx := fun _ H' => Q .non H', rt := Q } (start N__law_kinds [v]) H := by
  have h0 : Hd (all H ^ emp) H := hd_eq (Hd.emp (hd_all H)) (star_comm _ _)
  unfold t__law_kinds
  walk_at "wp"
  rename_i p H1 s1 h1
  have h2 := h1.tail
  cases d with
  | none =>
    cases hv
    refine w_isiD2 "NoneType" false false false h1.tq (.non) ?_
    walk_at "wp"
    refine w_isiD "NoneType" false (.non) ?_
    walk_at "wp"
    refine w_isiD "NoneType" false (.non) ?_
    walk_at "wp"
    exact kinds_non ‹_› k
  | bool b =>
    cases hv
    refine w_isiD2 "bool" false false false h1.tq (.bl b) ?_
    walk_at "wp"
    refine w_isiD "bool" false (.bl b) ?_
    walk_at "wp"
    refine w_isiD "bool" true (.bl b) ?_
    walk_at "wp"
    exact kinds_non ‹_› k
  | int i =>
    cases hv
    refine w_isiD2 "int" false false false h1.tq (.int i) ?_
    walk_at "wp"
    refine w_isiD "int" false (.int i) ?_
    walk_at "wp"
    exact kinds_non ‹_› k
  | str x =>
    cases hv
    refine w_isiD2 "str" false false false h1.tq (.str x) ?_
    walk_at "wp"
    refine w_isiD "str" false (.str x) ?_
    walk_at "wp"
    exact kinds_non ‹_› k
  | list ds => rw [PyData.depth] at hs; omega
  | tuple ds => rw [PyData.depth] at hs; omega
  | _ => cases hv
theorem pr__law_kinds_0 (h : sp__law_kinds K 0 vs H Q E) : t__law_kinds K (fun _ _ _ _ => False) { nx := fun _ H' => Q .non H', rt := Q } (start N__law_kinds vs) H := by
  obtain ⟨v, d, rfl, hv, hd, hw, k⟩ := h
  exact pr_kinds_b hv (by omega) k
theorem pr__law_kinds_s {m : Nat} (h : sp__law_kinds K (m + 1) vs H Q E) : t__law_kinds K (sp__law_kinds K m) { nx := fun _ H' => Q .non H', rt := Q } (start N__law_kinds vs) H := by
  obtain ⟨v, d, rfl, hv, hd, hw, k⟩ := h
  by_cases hz : d.depth = 0
  · exact pr_kinds_b hv hz k
  have h0 : Hd (all H ^ emp) H := hd_eq (Hd.emp (hd_all H)) (star_comm _ _)
  unfold t__law_kinds
  walk_at "wp"
  rename_i p H1 s1 h1
  have h2 := h1.tail
  cases d with
  | list ds =>
    obtain ⟨a, xs, rfl, hs, hx⟩ := dp_lst hv
    have hlen := dps_len hx
    rw [wideD, Bool.and_eq_true, decide_eq_true_eq] at hw
    rw [PyData.depth] at hd
    have ek : kindsD (.list ds) = .list [.bool true, .list (ds.map kindsD)] := by rw [kindsD, kindsA_map]
    rw [ek] at k
    refine w_isiD2 "list" false true true h1.tq (dp_same s1 hv) ?_
    have hs1 := s1.seq hs
    walk_at "wp"
    refine ⟨_, rfl, a, rfl, .inl ⟨⟨xs, hs1⟩, ?_⟩⟩
    refine lcs_L (xs := xs) (fun i ys => ddA K ys ((ds.take i).map kindsD) ^ all H ^ emp) (fun _ => rfl) (Hd.ddNil h2) (fun i ys H2 Z h => ?_) (by omega) (fun i x ys H2 T Z hi hl h hT => ?_) (fun q ys H2 hl h => ?_)
    · have h' : Hd (all H ^ ddA K ys ((ds.take i).map kindsD) ^ emp ^ Z) H2 := hd_eq h (by ac_rfl)
      exact h'.allS.seq hs
    · have h' : Hd (all H ^ ddA K ys ((ds.take i).map kindsD) ^ emp ^ Z) H2 := hd_eq h (by ac_rfl)
      obtain ⟨d, hd1, hd2⟩ := dps_get hx hi
      walk_at "wp"
      refine ⟨x, d, rfl, dp_same h'.allS hd2, ?_, wideA_mem hw.2 d (List.mem_of_getElem? hd1), fun v' H3 g => hT v' H3 ?_⟩
      · have := depthA_mem d (List.mem_of_getElem? hd1); omega
      · rw [kindsA_take hd1]
        exact hd_eq (Hd.ddSnoc (hd_eq (Hd.re h g) (by ac_rfl : _ = dd K v' (kindsD d) ^ ddA K ys ((ds.take i).map kindsD) ^ (all H ^ emp ^ Z)))) (by ac_rfl)
    · rw [hlen, List.take_length] at h
      walk_at "wp"
      exact kinds_seq ‹_› k
  | tuple ds =>
    obtain ⟨a, xs, rfl, hs, hx⟩ := dp_tup hv
    have hlen := dps_len hx
    rw [wideD, Bool.and_eq_true, decide_eq_true_eq] at hw
    rw [PyData.depth] at hd
    have ek : kindsD (.tuple ds) = .list [.bool false, .list (ds.map kindsD)] := by rw [kindsD, kindsA_map]
    rw [ek] at k
    refine w_isiD2 "tuple" true false true h1.tq (dp_same s1 hv) ?_
    have hs1 := same_t s1 hs
    walk_at "wp"
    refine w_isiD "tuple" false (dp_same s1 hv) ?_
    walk_at "wp"
    refine ⟨_, rfl, a, rfl, .inr ⟨⟨xs, hs1⟩, ?_⟩⟩
    refine lcs_T (xs := xs) (fun i ys => ddA K ys ((ds.take i).map kindsD) ^ all H ^ emp) (fun _ => rfl) (Hd.ddNil h2) hs1 (by omega) (fun i x ys H2 T Z hi hl h hT => ?_) (fun q ys H2 hl h => ?_)
    · have h' : Hd (all H ^ ddA K ys ((ds.take i).map kindsD) ^ emp ^ Z) H2 := hd_eq h (by ac_rfl)
      obtain ⟨d, hd1, hd2⟩ := dps_get hx hi
      walk_at "wp"
      refine ⟨x, d, rfl, dp_same h'.allS hd2, ?_, wideA_mem hw.2 d (List.mem_of_getElem? hd1), fun v' H3 g => hT v' H3 ?_⟩
      · have := depthA_mem d (List.mem_of_getElem? hd1); omega
      · rw [kindsA_take hd1]
        exact hd_eq (Hd.ddSnoc (hd_eq (Hd.re h g) (by ac_rfl : _ = dd K v' (kindsD d) ^ ddA K ys ((ds.take i).map kindsD) ^ (all H ^ emp ^ Z)))) (by ac_rfl)
    · rw [hlen, List.take_length] at h
      walk_at "wp"
      exact kinds_seq ‹_› k
  | none => simp [PyData.depth] at hz
  | bool b => simp [PyData.depth] at hz
  | int b => simp [PyData.depth] at hz
  | str b => simp [PyData.depth] at hz
  | _ => cases hv
end
end FL

namespace FL
open PySem PySem.Spec PyProof.Rows L2 CwR TL
local macro_rules | `(tactic| walk_at "tls") => `(tactic| (simp only [TL.tl_append, TL.tl_num, tl_ofL, tl_sgn, tl_empty, List.nil_append, List.append_nil, List.cons_append, List.append_assoc]))
local macro_rules | `(tactic| walk_at "szt") => `(tactic| (simp only [len_ofL, TL.len_tl, TL.tl_append, TL.tl_num, tl_ofL, tl_sgn, tl_empty, List.length_append, List.length_cons, List.length_nil]; omega))
local macro_rules | `(tactic| walk_at "beta") => `(tactic| (try dsimp only [List.set_cons_zero, List.set_cons_succ]))
local macro_rules | `(tactic| walk_at "sq") => `(tactic| first | assumption | exact SqL.of upd_same | exact SqT.of upd_same | exact SqL.of (by assumption) | exact SqT.of (by assumption) | ((with_reducible refine' sq_updI ?h ?s); (case h => walk_at "lk"); (case s => walk_at "sq")) | ((with_reducible refine' sq_updL ?h ?s); (case h => walk_at "lk"); (case s => walk_at "sq")) | ((with_reducible refine' sq_new ?h ?s); (case h => assumption); (case s => walk_at "sq")) | exact SqL.of (by walk_at "lk"))
local macro_rules | `(tactic| walk_at "lk") => `(tactic| first | assumption | exact upd_same | (refine Eq.trans (upd_ne (by assumption)) ?_; walk_at "lk"))
local macro_rules | `(tactic| walk_at "fl") => `(tactic| first | with_reducible exact l_text | with_reducible exact l_ahead | with_reducible exact l_made | with_reducible exact l_taken | with_reducible exact l_heard | with_reducible exact l_wait | with_reducible exact l_own | with_reducible exact l_far | exact l_no (by decide +kernel) | exact two_l1 | exact two_l2 (by decide +kernel) | exact two_no (by decide +kernel) (by decide +kernel))
local macro_rules | `(tactic| walk_at "pl") => `(tactic| first | with_reducible exact p_text | with_reducible exact p_made | with_reducible exact p_taken | with_reducible exact p_heard | with_reducible exact p_wait | with_reducible exact p_own | with_reducible exact p_far | with_reducible exact i_1 | with_reducible exact i_2 | with_reducible exact i_3 | with_reducible exact i_4 | with_reducible exact i_5 | with_reducible exact i_6 | with_reducible exact i_7 | with_reducible exact i_8 | exact ⟨put_past (by decide +kernel), Nat.le_of_ble_eq_true rfl⟩ | exact ⟨rfl, Nat.le_of_ble_eq_true rfl⟩)
local macro_rules | `(tactic| walk_at "wp1") => `(tactic| first
  | with_reducible refine w_seq ?_
  | with_reducible refine w_set ?_
  | ((with_reducible refine' w_var ?e ?k); (case e => exact rfl))
  | with_reducible refine w_c ?_
  | with_reducible refine w_op ?_
  | with_reducible refine w_ret ?_
  | with_reducible refine w_if ?_
  | with_reducible refine w_test ?_
  | with_reducible refine w_bl ?_
  | with_reducible refine w_cons ?_
  | with_reducible refine w_nil ?_
  | with_reducible refine w_call ?_
  | with_reducible refine w_cb ?_
  | with_reducible refine w_next ?_
  | with_reducible refine w_drop ?_
  | with_reducible refine w_asg ?_
  | with_reducible refine w_and ?_
  | with_reducible refine w_or ?_
  | with_reducible refine w_not ?_
  | with_reducible refine w_ifE ?_
  | with_reducible refine w_tB ?_
  | with_reducible refine iteT ?_
  | with_reducible refine iteF ?_
  | with_reducible refine w_addI ?_
  | with_reducible refine w_subI ?_
  | with_reducible refine w_ltI ?_
  | with_reducible refine w_leI ?_
  | with_reducible refine w_gtI ?_
  | with_reducible refine w_geI ?_
  | with_reducible refine w_eqI ?_
  | with_reducible refine w_neI ?_
  | with_reducible refine w_eqS ?_
  | with_reducible refine w_neS ?_
  | with_reducible refine w_is ?_
  | with_reducible refine w_isNot ?_
  | with_reducible refine w_intI ?_
  | with_reducible refine w_intB ?_
  | with_reducible refine w_inC ?_
  | with_reducible refine w_niC ?_
  | ((with_reducible refine' w_ixL ?k ?h ?x); (case h => walk_at "sq"); (case x => rfl))
  | ((with_reducible refine' w_ixT ?k ?h ?x); (case h => walk_at "sq"); (case x => rfl))
  | ((with_reducible refine w_modI ?k ?c); (case c => first | omega | with_reducible assumption | decide))
  | ((with_reducible refine w_divI ?k ?c); (case c => exact ⟨by omega, by omega⟩))
  | ((with_reducible refine w_mulI ?k ?c); (case c => first | exact .inl ⟨by omega, by omega⟩ | exact .inr ⟨by omega, by omega⟩))
  | ((with_reducible refine w_powI ?k ?c); (case c => exact ⟨by decide, by decide, by decide⟩))
  | ((with_reducible refine' w_lenL ?k ?h); (case h => walk_at "sq"))
  | ((with_reducible refine' w_lenT ?k ?h); (case h => walk_at "sq"))
  | ((with_reducible refine w_len ?h ?k); (case h => exact Nat.le_of_ble_eq_true rfl))
  | ((with_reducible refine w_decTS ?h ?k); (case h => exact rfl))
  | ((with_reducible refine w_decFS ?h ?k); (case h => decide +kernel))
  | ((with_reducible refine w_ndecTS ?h ?k); (case h => exact rfl))
  | ((with_reducible refine w_ndecFS ?h ?k); (case h => decide +kernel))
  | ((with_reducible refine w_sz ?h ?k); (case h => walk_at "szt"))
  | ((with_reducible refine w_addS' ?k ?h); (case h => walk_at "szt"))
  | ((with_reducible refine w_strI' ?k ?h); (case h => omega))
  | ((with_reducible refine w_fmtN (A := True) ?h ?k); (case h => omega))
  | with_reducible refine w_chain ?_
  | with_reducible refine w_for ?_
  | with_reducible refine w_lc ?_
  | ((with_reducible refine w_rng ?h ?k); (case h => exact ⟨by omega, by omega⟩))
  | with_reducible refine w_iStr ?_
  | with_reducible refine w_iList ?_
  | with_reducible refine w_iRng1 ?_
  | with_reducible refine w_exR ?_
  | ((with_reducible refine' w_exSqL ?h ?k); (case h => walk_at "sq"))
  | ((with_reducible refine w_lenS ?k ?h); (case h => refine Nat.le_trans ?_ (by decide : 1000000 ≤ sizeLine); walk_at "szt"))
  | ((with_reducible refine w_slS ?k ?h); (case h => refine Nat.le_trans ?_ (by decide : 1000000 ≤ sizeLine); walk_at "szt"))
  | with_reducible refine w_nT ?_
  | with_reducible refine w_nF ?_
  | with_reducible refine w_un ?_
  | with_reducible refine w_negI ?_
  | with_reducible refine w_bm ?_
  | with_reducible refine w_bm0 ?_
  | ((with_reducible refine' w_tyL ?h ?k); (case h => walk_at "sq"))
  | ((with_reducible refine' w_append ?p ?l ?k); (case p => walk_at "lk"); (case l => first | exact Nat.le_of_ble_eq_true rfl | omega))
  | with_reducible refine w_gsub ?_
  | with_reducible refine w_gname ?_
  | ((with_reducible refine' w_set4_0 ?p ?k); (case p => walk_at "lk"))
  | ((with_reducible refine' w_set4_1 ?p ?k); (case p => walk_at "lk"))
  | ((with_reducible refine' w_set4_2 ?p ?k); (case p => walk_at "lk"))
  | ((with_reducible refine' w_set4_3 ?p ?k); (case p => walk_at "lk"))
  | ((with_reducible refine' w_setL ?p ?i ?k); (case p => walk_at "lk"); (case i => exact rfl))
  | with_reducible refine w_tup ?_
  | with_reducible refine w_lst ?_
  | with_reducible refine w_sl ?_
  | with_reducible refine w_noPart ?_
  | with_reducible refine w_part ?_
  | with_reducible refine w_exI ?_
  | with_reducible refine w_exS ?_
  | with_reducible refine w_join ?_
  | with_reducible refine w_split ?_
  | with_reducible refine w_isS ?_
  | with_reducible refine w_joined ?_
  | with_reducible refine w_jsNil ?_
  | with_reducible refine w_jsCons ?_
  | with_reducible refine w_fmt ?_
  | with_reducible refine w_fmtI ?_
  | with_reducible refine w_repl ?_
  | with_reducible refine w_andV ?_
  | with_reducible refine w_orV ?_
  | with_reducible refine w_notV ?_
  | with_reducible refine w_retN ?_
  | with_reducible refine w_brk ?_
  | with_reducible refine w_cont ?_
  | ((with_reducible refine' w_yes (p := ((List.length (_ : List V) : Nat) : Int) = _) ?h ?k); (case h => exact of_decide_eq_true rfl))
  | ((with_reducible refine' w_yes (p := ((List.length (_ : List V) : Nat) : Int) < _) ?h ?k); (case h => exact of_decide_eq_true rfl))
  | ((with_reducible refine' w_yes (p := _ < ((List.length (_ : List V) : Nat) : Int)) ?h ?k); (case h => exact of_decide_eq_true rfl))
  | ((with_reducible refine' w_yes (p := _ = ((List.length (_ : List V) : Nat) : Int)) ?h ?k); (case h => exact of_decide_eq_true rfl))
  | ((with_reducible refine' w_yes (p := ((Str.length (sgn _) : Nat) : Int) = _) ?h ?k); (case h => exact of_decide_eq_true rfl))
  | ((with_reducible refine' w_no (p := ((List.length (_ : List V) : Nat) : Int) = _) ?h ?k); (case h => exact of_decide_eq_false rfl))
  | ((with_reducible refine' w_no (p := ((List.length (_ : List V) : Nat) : Int) < _) ?h ?k); (case h => exact of_decide_eq_false rfl))
  | ((with_reducible refine' w_no (p := _ < ((List.length (_ : List V) : Nat) : Int)) ?h ?k); (case h => exact of_decide_eq_false rfl))
  | ((with_reducible refine' w_no (p := _ = ((List.length (_ : List V) : Nat) : Int)) ?h ?k); (case h => exact of_decide_eq_false rfl))
  | ((with_reducible refine' w_no (p := ((Str.length (sgn _) : Nat) : Int) = _) ?h ?k); (case h => exact of_decide_eq_false rfl))
  | ((with_reducible refine' w_nyes (p := ((List.length (_ : List V) : Nat) : Int) = _) ?h ?k); (case h => exact of_decide_eq_true rfl))
  | ((with_reducible refine' w_nyes (p := ((List.length (_ : List V) : Nat) : Int) < _) ?h ?k); (case h => exact of_decide_eq_true rfl))
  | ((with_reducible refine' w_nyes (p := _ < ((List.length (_ : List V) : Nat) : Int)) ?h ?k); (case h => exact of_decide_eq_true rfl))
  | ((with_reducible refine' w_nyes (p := _ = ((List.length (_ : List V) : Nat) : Int)) ?h ?k); (case h => exact of_decide_eq_true rfl))
  | ((with_reducible refine' w_nyes (p := ((Str.length (sgn _) : Nat) : Int) = _) ?h ?k); (case h => exact of_decide_eq_true rfl))
  | ((with_reducible refine' w_nno (p := ((List.length (_ : List V) : Nat) : Int) = _) ?h ?k); (case h => exact of_decide_eq_false rfl))
  | ((with_reducible refine' w_nno (p := ((List.length (_ : List V) : Nat) : Int) < _) ?h ?k); (case h => exact of_decide_eq_false rfl))
  | ((with_reducible refine' w_nno (p := _ < ((List.length (_ : List V) : Nat) : Int)) ?h ?k); (case h => exact of_decide_eq_false rfl))
  | ((with_reducible refine' w_nno (p := _ = ((List.length (_ : List V) : Nat) : Int)) ?h ?k); (case h => exact of_decide_eq_false rfl))
  | ((with_reducible refine' w_nno (p := ((Str.length (sgn _) : Nat) : Int) = _) ?h ?k); (case h => exact of_decide_eq_false rfl))
  | ((with_reducible refine' w_no (p := (V.ref _ = V.non)) ?h ?k); (case h => intro z9; cases z9))
  | ((with_reducible refine' w_yes (p := (V.non = V.non)) ?h ?k); (case h => rfl))
  | with_reducible refine w_fldC ?_
  | with_reducible refine w_make ?_
  | ((with_reducible refine' w_fldR ?h ?l ?k); (case h => walk_at "lk"); (case l => walk_at "fl"))
  | with_reducible refine w_sfldC ?_
  | ((with_reducible refine' w_sfldR ?h ?l ?k); (case h => walk_at "lk"); (case l => walk_at "pl"))
  | ((with_reducible refine' w_sfldR2 ?h ?l ?k); (case h => walk_at "lk"); (case l => first | exact p_len | exact Nat.le_of_ble_eq_true rfl); (first | rw [p_far.1] | rw [p_text.1] | rw [p_own.1] | rw [p_wait.1] | rw [p_heard.1] | rw [p_made.1] | rw [p_taken.1]))
  | with_reducible refine w_sfldaugC ?_
  | with_reducible refine w_addR ?_
  | with_reducible refine w_subR ?_
  | ((with_reducible refine' w_sfldQ ?h ?l ?k); (case h => walk_at "lk"); (case l => walk_at "pl"))
  | with_reducible refine w_meth ?_
  | ((with_reducible refine' w_methR ?h ?l ?k); (case h => walk_at "lk"); (case l => walk_at "fl"))
  | with_reducible refine w_kget ?_
  | ((with_reducible refine' w_gtup ?h ?l ?k); (case h => walk_at "sq"); (case l => exact rfl))
  | with_reducible refine w_gcons ?_
  | with_reducible refine w_gnil ?_
  | with_reducible refine w_isiII ?_
  | with_reducible refine w_isiIB ?_
  | with_reducible refine w_isiSS ?_
  | ((with_reducible refine' w_isiTT ?h ?k); (case h => walk_at "sq"))
  | ((with_reducible refine' w_isiLL ?h ?k); (case h => walk_at "sq"))
  | with_reducible refine w_ipI ?_
  | with_reducible refine w_par ?_
  | with_reducible refine w_par3 ?_
  | with_reducible refine w_parR ?_
  | with_reducible refine w_parR3 ?_
  | with_reducible refine w_aug ?_
  | ((with_reducible refine' w_var2 ?e ?k); (case e => exact rfl))
  | ((with_reducible refine' w_insL ?p ?l ?k); (case p => walk_at "lk"); (case l => first | omega | decide))
  | rw [kg_put]
  | rw [kg_cut]
  | rw [kg_non])
local macro_rules | `(tactic| walk_at "wp") => `(tactic| ((try dsimp only); (repeat walk_at "wp1"); (walk_at "beta")))
local macro_rules | `(tactic| walk_at "as") => `(tactic| with_reducible assumption)
local macro_rules | `(tactic| walk_at "sl") => `(tactic| (with_reducible refine' hd_eq ?h ?e; (case h => with_reducible assumption); (case e => walk_at "rp")))
local macro_rules | `(tactic| walk_at "rp") => `(tactic| first
  | with_reducible exact rfl
  | with_reducible exact rp1
  | with_reducible exact rp2
  | with_reducible exact rp3
  | with_reducible exact rp4
  | with_reducible exact rp5
  | with_reducible exact rp6
  | with_reducible exact rp7
  | with_reducible exact rp8
  | with_reducible exact rp9
  | with_reducible exact rp10
  | with_reducible exact rp11
  | with_reducible exact rp12
  | with_reducible exact rp13)
local macro_rules | `(tactic| walk_at "sl2") => `(tactic| (with_reducible refine' hd_q ?h ?e; (case h => walk_at "sl"); (case e => walk_at "rp")))
local macro_rules | `(tactic| walk_at "sl3") => `(tactic| (with_reducible refine' hd_q3 ?h ?e ?e2; (case h => walk_at "sl"); (case e => walk_at "rp"); (case e2 => walk_at "rp")))
local macro_rules | `(tactic| walk_at "sl4") => `(tactic| (with_reducible refine' hd_q4 ?h ?e ?e2 ?e3; (case h => walk_at "sl"); (case e => walk_at "rp"); (case e2 => walk_at "rp"); (case e3 => walk_at "rp")))
local macro_rules | `(tactic| walk_at "fs") => `(tactic| first
  | with_reducible exact sub_refl
  | with_reducible exact sub_emp
  | (with_reducible refine sub_keep ?_; walk_at "fs")
  | (with_reducible refine sub_eq rp1 (sub_keep ?_); walk_at "fs")
  | (with_reducible refine sub_eq rp2 (sub_keep ?_); walk_at "fs")
  | (with_reducible refine sub_eq rp3 (sub_keep ?_); walk_at "fs")
  | (with_reducible refine sub_eq rp4 (sub_keep ?_); walk_at "fs")
  | (with_reducible refine sub_eq rp5 (sub_keep ?_); walk_at "fs")
  | (with_reducible refine sub_eq rp6 (sub_keep ?_); walk_at "fs")
  | (with_reducible refine sub_eq rp7 (sub_keep ?_); walk_at "fs")
  | (with_reducible refine sub_eq rp8 (sub_keep ?_); walk_at "fs")
  | (with_reducible refine sub_eq rp9 (sub_keep ?_); walk_at "fs")
  | (with_reducible refine sub_eq rp10 (sub_keep ?_); walk_at "fs")
  | (with_reducible refine sub_eq rp11 (sub_keep ?_); walk_at "fs")
  | (with_reducible refine sub_eq rp12 (sub_keep ?_); walk_at "fs")
  | (with_reducible refine sub_eq rp13 (sub_keep ?_); walk_at "fs")
  | (with_reducible refine sub_drop ?_; walk_at "fs"))
local macro_rules | `(tactic| walk_at "fin") => `(tactic| first
  | with_reducible assumption
  | ((with_reducible refine' Hd.sub ?h ?s); (case h => with_reducible assumption); (case s => walk_at "fs")))
local macro_rules | `(tactic| walk_at "sq") => `(tactic| first | ((with_reducible refine' Hd.tp ?h); (case h => walk_at "sl")) | ((with_reducible refine' Hd.tqT ?h); (case h => walk_at "sl")) | ((with_reducible refine' Hd.fz ?h); (case h => walk_at "sl")) | ((with_reducible refine' SqL.of (Hd.pt ?h)); (case h => walk_at "sl")) | ((with_reducible refine' Hd.lsxq ?h); (case h => walk_at "sl")))
local macro_rules | `(tactic| walk_at "lk") => `(tactic| first | ((with_reducible refine' Hd.pt ?h); (case h => walk_at "sl")) | ((with_reducible refine' Hd.tq ?h); (case h => walk_at "sl")))
local macro_rules | `(tactic| walk_at "dp") => `(tactic| first | ((with_reducible refine' Hd.dv ?h); (case h => walk_at "sl")) | ((with_reducible refine' Hd.lsd ?h); (case h => walk_at "sl")) | with_reducible assumption | with_reducible exact .int _ | with_reducible exact .str _ | with_reducible exact .bl _ | with_reducible exact .non)
local macro_rules | `(tactic| walk_at "wp1") => `(tactic| first
  | with_reducible refine w_tupS ?_
  | with_reducible refine w_lstS ?_
  | with_reducible refine w_fldS ?_
  | with_reducible refine w_sfldS ?_
  | with_reducible refine w_methS ?_
  | with_reducible refine w_makeS ?_
  | ((with_reducible refine' w_sfldaugQ ?e ?k); (case e => exact rfl))
  | ((with_reducible refine' s_tup ?h ?k); (case h => with_reducible assumption); (intro _ _ _ _))
  | ((with_reducible refine' s_lst ?h ?k); (case h => with_reducible assumption); (intro _ _ _ _ _))
  | ((with_reducible refine' s_gf ?h ?l ?k); (case h => walk_at "sl"); (case l => walk_at "fl"))
  | ((with_reducible refine' s_gm ?h ?l ?k); (case h => walk_at "sl"); (case l => walk_at "fl"))
  | ((with_reducible refine' s_sf ?h ?l ?k); (case h => walk_at "sl"); (case l => walk_at "pl"); (intro _ _ _))
  | ((with_reducible refine' s_sq ?h ?l ?k); (case h => walk_at "sl"); (case l => walk_at "pl"); (intro _ _ _))
  | ((with_reducible refine' s_append ?h ?l ?k); (case h => walk_at "sl"); (case l => first | exact Nat.le_of_ble_eq_true rfl | omega); (intro _ _ _))
  | ((with_reducible refine' s_pop0 ?h ?k); (case h => walk_at "sl"); (intro _ _ _))
  | ((with_reducible refine' s_set4_0 ?h ?k); (case h => walk_at "sl"); (intro _ _ _))
  | ((with_reducible refine' s_set4_1 ?h ?k); (case h => walk_at "sl"); (intro _ _ _))
  | ((with_reducible refine' s_set4_2 ?h ?k); (case h => walk_at "sl"); (intro _ _ _))
  | ((with_reducible refine' s_set4_3 ?h ?k); (case h => walk_at "sl"); (intro _ _ _))
  | ((with_reducible refine' s_setL ?h ?l ?k); (case h => walk_at "sl"); (case l => exact rfl); (intro _ _ _))
  | ((with_reducible refine' s_ixR ?h ?k); (case h => walk_at "sl"))
  | ((with_reducible refine' s_ixO ?h ?k); (case h => walk_at "sl"))
  | ((with_reducible refine' s_ixS0 ?h ?k); (case h => walk_at "sl"))
  | ((with_reducible refine' s_ixS1 ?h ?k); (case h => walk_at "sl"))
  | ((with_reducible refine' s_ixS2 ?h ?k); (case h => walk_at "sl"))
  | ((with_reducible refine' s_pop0D ?h ?k); (case h => walk_at "sl"); (intro _ _ _ _))
  | ((with_reducible refine' s_tyD ?h ?k); (case h => walk_at "sl"))
  | ((with_reducible refine' s_gmY ?h ?a ?b ?k); (case h => walk_at "sl"); (case a => decide +kernel); (case b => decide +kernel))
  | ((with_reducible refine' s_appendD ?h ?v ?n ?l ?k); (case h => walk_at "sl"); (case v => walk_at "dp"); (case n => first | with_reducible rfl | with_reducible exact noL_deed _ | with_reducible exact noL_letter _ | with_reducible exact noL_letter3 _ | with_reducible exact noL_ev _ | exact rfl); (case l => walk_at "le"); (intro _ _ _)))
local macro_rules | `(tactic| walk_at "le") => `(tactic| first | omega | (simp only [List.length_map, List.length_append, List.length_cons, List.length_nil]; omega))
mutual
theorem lyk : ∀ d : PyData, (kindsD d).canLay0 = true ∧ (kindsD d).depth ≤ 2 * d.depth + 1
  | .list ds => by
    obtain ⟨h1, h2⟩ := lykA ds
    rw [kindsD]
    exact ⟨by simp [PyData.canLay0, PyData.canLayAll0, h1], by simp [PyData.depth, PyData.depthAll]; omega⟩
  | .tuple ds => by
    obtain ⟨h1, h2⟩ := lykA ds
    rw [kindsD]
    exact ⟨by simp [PyData.canLay0, PyData.canLayAll0, h1], by simp [PyData.depth, PyData.depthAll]; omega⟩
  | .str _ => by simp [kindsD, PyData.canLay0, PyData.canLayAll0, PyData.depth, PyData.depthAll]
  | .bool _ => by simp [kindsD, PyData.canLay0, PyData.canLayAll0, PyData.depth, PyData.depthAll]
  | .none => by simp [kindsD, PyData.canLay0, PyData.canLayAll0, PyData.depth, PyData.depthAll]
  | .int _ => by simp [kindsD, PyData.canLay0, PyData.canLayAll0, PyData.depth, PyData.depthAll]
  | .dict _ => by simp [kindsD, PyData.canLay0, PyData.canLayAll0, PyData.depth, PyData.depthAll]
theorem lykA : ∀ ds : List PyData, PyData.canLayAll0 (kindsA ds) = true ∧ PyData.depthAll (kindsA ds) ≤ 2 * PyData.depthAll ds + 1
  | [] => by simp [kindsA, PyData.canLayAll0, PyData.depthAll]
  | d :: ds => by
    obtain ⟨h1, h2⟩ := lyk d
    obtain ⟨h3, h4⟩ := lykA ds
    rw [kindsA]
    exact ⟨by simp [PyData.canLayAll0, h1, h3], by simp [PyData.depthAll]; omega⟩
end
section
variable {K : PySem.W.Frag} {vs : List V} {H H0 H' : Hp} {Q : VK} {E : XK} {X : Res}
theorem pr__law_same (h : sp__law_same K vs H Q E) : t__law_same K { nx := fun _ H' => Q .non H', rt := Q } (start N__law_same vs) H := by
  obtain ⟨v, w, d, rfl, hv, hw, hl, hd, k⟩ := h
  unfold t__law_same
  walk_at "wp"
  refine w_eqLy (k := 5) ?_ hv hw hl hl (by decide)
  rw [hl.self]
  walk_at "wp"
  refine ⟨v, d, rfl, hv, hl.dep, hd, fun v1 H1 h1 => ?_⟩
  have s1 := h1.allR
  walk_at "wp"
  refine ⟨w, d, rfl, dp_same s1 hw, hl.dep, hd, fun v2 H2 h2 => ?_⟩
  have s2 := h2.allR
  have h3 : Hd (dd K v1 (kindsD d) ^ dd K v2 (kindsD d) ^ all H) H2 := hd_eq (Hd.re h1 h2) (star_left ..)
  have lk : Ly 12 (kindsD d) := ⟨(lyk d).1, by have := (lyk d).2; have := hl.dep; omega⟩
  refine w_eqLy (k := 12) ?_ h3.dd h3.tail.dd lk lk (by decide)
  rw [lk.self]
  exact k _ (s1.trans s2)
/-- an event's seat, one after the other -/
def shk (Ys : List Yd) (Y : Yd) (k : Nat) (z : Bool) : List PyData := shw Ys z ++ if ixZ z < (k : Int) then [.str (ofL (Y.s z).text)] else []
theorem shk_0 (Ys : List Yd) (Y : Yd) : shk Ys Y 0 = shw Ys := by
  funext z; unfold shk
  rw [if_neg (by cases z <;> decide), List.append_nil]
theorem shk_2 (Ys : List Yd) (Y : Yd) : shk Ys Y 2 = shw (Ys ++ [Y]) := by
  funext z; unfold shk shw
  rw [if_pos (by cases z <;> decide), List.map_append]; rfl
theorem shk_s {Ys : List Yd} {Y : Yd} {z : Bool} {k : Nat} (e : (k : Int) = ixZ z) : shk Ys Y (k + 1) = bset (shk Ys Y k) z (shk Ys Y k z ++ [.str (ofL (Y.s z).text)]) := by
  funext b; unfold shk bset
  cases z <;> cases b <;> (obtain rfl : k = _ := by first | exact (Int.ofNat_inj.mp e : k = 0) | exact (Int.ofNat_inj.mp e : k = 1)) <;> simp [ixZ]
theorem noLs_shw (Ys : List Yd) (z : Bool) : noLs (shw Ys z) = true := noLs_map (fun _ => rfl) Ys
theorem seat_of {k : Nat} (h : k < 2) : ∃ z, (k : Int) = ixZ z := by
  have : k = 0 ∨ k = 1 := by omega
  rcases this with rfl | rfl
  · exact ⟨true, rfl⟩
  · exact ⟨false, rfl⟩
theorem told_tail {D : Ends} {x0 x1 x5 x6 x7 : Option V} {sa b f : Addr} {Ys : List Yd} {Y : Yd} (hl : Ys.length ≤ 2000) (h : Hd (seR K sa Y.s ^ roR K f (shw Ys) ^ X) H)
    (k : ∀ H' w, Hd (seR K sa Y.s ^ roR K f (shw (Ys ++ [Y])) ^ X) H' → D.nx [x0, x1, some (.ref sa), some (.ref b), some (.ref f), x5, x6, w] H') :
    (tFor (iRng1 (tCons (tC (.int 2)) tNil)) (gName 7) (tDrop (tBM K "list" rAppend (tOp (rIx K) (tVar 4) (tVar 7)) (tCons (tOp (rIx K) (tOp (rIx K) (tVar 2) (tVar 7)) (tC (.int 0))) tNil)))) D [x0, x1, some (.ref sa), some (.ref b), some (.ref f), x5, x6, x7] H := by
  walk_at "wp"
  refine frb_R (fun i σ H' => ∃ w, Hd (seR K sa Y.s ^ roR K f (shk Ys Y i) ^ X) H' ∧ σ = [x0, x1, some (.ref sa), some (.ref b), some (.ref f), x5, x6, w]) ⟨x7, by rw [shk_0]; exact h, rfl⟩ (fun i σ H' hi p => ?_) (fun σ H' p => ?_)
  · obtain ⟨w, h, rfl⟩ := p
    obtain ⟨z, hz⟩ := seat_of hi
    rw [hz, shk_s hz]
    obtain ⟨q, h⟩ := h.se z
    obtain ⟨r, h⟩ := Hd.ro z (hp3 h)
    have el : (shk Ys Y i z).length ≤ 100000 := by unfold shk shw; split <;> simp <;> omega
    walk_at "wp"

    have h1 := Hd.mkRo (hp1 ‹_›)
    exact ⟨_, Hd.mkSe' (z := z) (q := q) (hd_eq h1 (by ac_rfl)), rfl⟩
  · obtain ⟨w, h, rfl⟩ := p
    exact k _ _ (by rw [← shk_2]; exact h)
theorem rd3_take {Y : Yd} {z : Bool} {x : Letter} {t : List Letter} : rd3 (Y.take z x t) = bset (rd3 Y) z (t.map Letter.d3) := by
  funext b; unfold rd3 Yd.take bset; simp only []; split <;> rfl
theorem rd3_make {Y : Yd} {z : Bool} {e : Deed} : rd3 (Y.make z e) = bset (rd3 Y) (!z) (rd3 Y (!z) ++ [(mkL (Y.s z) e).d3]) := by
  funext b; unfold rd3 Yd.make bset; simp only []; split
  · rw [List.map_append]; rfl
  · rfl
theorem pr__law_told (h : sp__law_told K vs H Q E) : t__law_told K { nx := fun _ H' => Q .non H', rt := Q } (start N__law_told vs) H := by
  obtain ⟨l, a, es, X, rfl, hl, hll, h, he, hel, k⟩ := h
  unfold t__law_told
  obtain ⟨ws, e0, hd0⟩ := h.ls
  have hlen := dps_len hd0
  rw [List.length_map] at hlen
  walk_at "wp"
  refine c_law_seats h fun sa H1 s1 h1 => ?_
  walk_at "wp"
  rename_i r1 _ _ _ _ r0 _ _ _ _ b _ _ _ _ f1 _ _ _ _ f0 _ _ _ _ f G _ _ hG
  have g := hd_mkRo2 (K := K) (R := shw [Yd.new l]) hG (.cons (.str _) .nil) (.cons (.str _) .nil) rfl rfl
  have g := hd_mkRo2 (K := K) (R := rd3 (Yd.new l)) (b := b) (p := r1) (q := r0) (X := roR K f (shw [Yd.new l]) ^ seR K sa (fun x => newSeat l) ^ ls K a (es.map Ev.d) ^ X) (hd_eq g (by ac_rfl)) .nil .nil rfl rfl
  clear hG
  obtain ⟨ws', g⟩ := (hp3 g).lsX
  have hd1 := g.lsx.2
  refine ⟨⟨ws', g.lsxq⟩, ?_⟩
  have hlen' := dps_len hd1
  rw [List.length_map] at hlen'
  refine frb_L (xs := ws') (fun i σ H' => ∃ Ys Y u v w, Hd (lsx K a ws' (es.map Ev.d) ^ seR K sa Y.s ^ roR K b (rd3 Y) ^ roR K f (shw Ys) ^ X) H' ∧ runs (Yd.new l) (es.take i) = some (Ys, Y) ∧ σ = [some (.str (ofL l)), some (.ref a), some (.ref sa), some (.ref b), some (.ref f), u, v, w])
    ⟨[Yd.new l], Yd.new l, none, none, none, hd_eq g (by rw [show (Yd.new l).s = fun x => newSeat l from rfl]; ac_rfl), rfl, rfl⟩ (fun i σ H' _ p => ?_) (fun i x σ H' hi p => ?_) (fun σ H' p => ?_)
  · obtain ⟨Ys, Y, u, v, w, h, hr, rfl⟩ := p
    exact h.lsxq
  · obtain ⟨Ys, Y, u, v, w, h, hr, rfl⟩ := p
    obtain ⟨e, hei, hex⟩ := dps_at h.lsx.2 hi
    have heo := he e (List.mem_of_getElem? hei)
    have ilt := (List.getElem?_eq_some_iff.mp hei).1
    have ok : Y.ok 2000 := (runs_ok (n := 1000) (Yd.ok_new hl hll) (fun x hx => he x (List.mem_of_mem_take hx)) hr).mono (m := 2000) (by rw [List.length_take]; omega)
    have hYl : Ys.length ≤ 2000 := by have := runs_len hr; rw [List.length_take] at this; simp only at this; omega
    have hstep := take_snoc hei
    have h := h.addD hex (noL_ev e)
    generalize hT : (tFor (iRng1 (tCons (tC (.int 2)) tNil)) (gName 7) (tDrop (tBM K "list" rAppend (tOp (rIx K) (tVar 4) (tVar 7)) (tCons (tOp (rIx K) (tOp (rIx K) (tVar 2) (tVar 7)) (tC (.int 0))) tNil)))) = T
    walk_at "wp"
    refine ⟨sa, b, Y, x, e, _, rfl, by walk_at "sl2", fun z => by have := (ok.tx z).2; omega, fun z => (ok.rd z).1, by walk_at "dp", heo, fun H2 s2 => ?_⟩
    replace h := h.same s2
    cases hc : Y.can e with
    | false =>
      walk_at "wp"
      have rn : runs (Yd.new l) es = none := by
        refine runs_take_none (i := i + 1) ?_
        rw [hstep, runs_snoc, hr]
        show (step Y e).map _ = _
        unfold step
        rw [hc]; rfl
      rw [rn] at k
      refine k _ (Hd.lsI (xs := ws') ?_)
      walk_at "fin"
    | true =>
      have rs : runs (Yd.new l) (es.take (i + 1)) = some (Ys ++ [Y.go e], Y.go e) := by
        rw [hstep, runs_snoc, hr]
        show (step Y e).map _ = _
        unfold step
        rw [hc]; rfl
      cases e with
      | come z =>
        obtain ⟨ea, rfl, hsx⟩ := dp_come h.dv
        obtain ⟨x0, t0, hrz⟩ : ∃ x t, Y.r z = x :: t := by
          cases c : Y.r z with
          | nil => have hc' : (!(Y.r z).isEmpty) = true := hc; rw [c] at hc'; cases hc'
          | cons x t => exact ⟨x, t, rfl⟩
        obtain ⟨a1, a2, a3, a4, a5⟩ := Yd.ok_take ok hrz
        rw [go_come hrz] at rs
        have ot := ok.tx z
        have ow := ok.wt z
        have h := h.addT hsx
        obtain ⟨r, h⟩ := Hd.ro z (by walk_at "sl" : Hd (roR K b (rd3 Y) ^ _) H2)
        rw [show rd3 Y z = x0.d3 :: t0.map Letter.d3 by unfold rd3; rw [hrz]; rfl] at h
        walk_at "wp"
        rename_i v1 H3 t3 h3
        refine c_law_come (l := x0) (by walk_at "sl") (.inr rfl) (by walk_at "dp") a4 a2 (by omega) (by omega) fun v' H4 t4 h4 => ?_
        walk_at "wp"
        subst hT
        have g1 := Hd.mkRo (r := r) (z := z) (R := rd3 Y) (rs := t0.map Letter.d3) (X := seR K sa (bset Y.s z (tkS z (Y.s z) x0)) ^ roR K f (shw Ys) ^ lsx K a ws' (List.map Ev.d es) ^ X) (by walk_at "fin")
        rw [← rd3_take (x := x0)] at g1
        refine told_tail (Y := Y.take z x0 t0) (X := roR K b (rd3 (Y.take z x0 t0)) ^ lsx K a ws' (es.map Ev.d) ^ X) hYl (by rw [show (Y.take z x0 t0).s = bset Y.s z (tkS z (Y.s z) x0) from rfl]; walk_at "fin") fun H' w h5 => ⟨_, _, _, _, _, ?_, rs, rfl⟩
        walk_at "fin"
      | make z d =>
        obtain ⟨ea, xd, rfl, hsx, hxd⟩ := dp_make h.dv
        have hrs : runs (Yd.new l) (es.take (i + 1)) = some (Ys ++ [Y.make z d], Y.make z d) := rs
        have ot := ok.tx z
        have ow := ok.wt z
        have or := ok.rd (!z)
        have h := (h.addT hsx).addD hxd (noL_deed d)
        obtain ⟨r, h⟩ := Hd.ro (!z) (by walk_at "sl" : Hd (roR K b (rd3 Y) ^ _) H2)
        rw [Bool.not_not] at h
        have el : (rd3 Y (!z)).length ≤ 100000 := by unfold rd3; rw [List.length_map]; omega
        walk_at "wp"
        refine c_law_make (by walk_at "sl") (by walk_at "dp") hc (by omega) (by omega) ((ok.dz z).wl) fun v' H4 t4 h4 => ?_
        walk_at "wp"
        rename_i H5 _ h5
        subst hT
        have g1 := Hd.mkRo (H := H5) (r := r) (z := !z) (R := rd3 Y) (rs := rd3 Y (!z) ++ [(mkL (Y.s z) d).d3]) (X := seR K sa (bset Y.s z (mkS z (Y.s z) d)) ^ roR K f (shw Ys) ^ lsx K a ws' (List.map Ev.d es) ^ X) (by rw [Bool.not_not]; walk_at "fin")
        rw [← rd3_make] at g1
        refine told_tail (Y := Y.make z d) (X := roR K b (rd3 (Y.make z d)) ^ lsx K a ws' (es.map Ev.d) ^ X) hYl (by rw [show (Y.make z d).s = bset Y.s z (mkS z (Y.s z) d) from rfl]; walk_at "fin") fun H' w h5 => ⟨_, _, _, _, _, ?_, hrs, rfl⟩
        walk_at "fin"
  · obtain ⟨Ys, Y, u, v, w, h, hr, rfl⟩ := p
    walk_at "wp"
    rw [hlen', List.take_length] at hr
    rw [hr] at k
    exact k _ _ (hd_eq (Hd.lsI h |>.sub (sub_keep (sub_drop (sub_drop sub_refl)))) (star_left ..))
end
end FL

/-! plain: stories, exchanges, the plain story -/
namespace FL
open PySem
/-- the state behind a story -/
def fin (Y : Yd) : List Ev → Option Yd
  | [] => some Y
  | e :: es => if Y.can e then fin (Y.go e) es else none
theorem fin_app : ∀ (Y : Yd) (a b : List Ev), fin Y (a ++ b) = (fin Y a).bind fun Z => fin Z b
  | Y, [], b => rfl
  | Y, e :: a, b => by
    rw [List.cons_append, fin, fin]
    split
    · exact fin_app _ a b
    · rfl
theorem fin_runs (Y : Yd) (es : List Ev) : (runs Y es).map (·.2) = fin Y es := by
  refine rev_ind (p := fun es => (runs Y es).map (·.2) = fin Y es) rfl (fun es e ih => ?_) es
  rw [runs_snoc, fin_app, ← ih]
  cases runs Y es with
  | none => rfl
  | some p =>
    show (Option.map _ ((step p.2 e).map _)) = (if p.2.can e then fin (p.2.go e) [] else none)
    unfold step fin
    split <;> rfl
theorem fin_some {Y : Yd} {es : List Ev} {p} (h : runs Y es = some p) : fin Y es = some p.2 := by rw [← fin_runs, h]; rfl
theorem fin_none {Y : Yd} {es : List Ev} (h : fin Y es = none) : runs Y es = none := by
  rw [← fin_runs] at h
  cases c : runs Y es with
  | none => rfl
  | some p => rw [c] at h; cases h
theorem some_fin {Y Z : Yd} {es : List Ev} (h : fin Y es = some Z) : ∃ Ys, runs Y es = some (Ys, Z) := by
  rw [← fin_runs] at h
  cases c : runs Y es with
  | none => rw [c] at h; cases h
  | some p => rw [c] at h; cases h; exact ⟨p.1, rfl⟩
theorem bset_comm {α : Type} {f : Bool → α} {z w : Bool} {x y : α} (h : z ≠ w) : bset (bset f z x) w y = bset (bset f w y) z x := by
  funext b; unfold bset
  by_cases h1 : b = z <;> by_cases h2 : b = w <;> simp_all
theorem Yd.ext {A B : Yd} (h1 : A.s = B.s) (h2 : A.r = B.r) : A = B := by
  obtain ⟨a, b⟩ := A; obtain ⟨c, d⟩ := B
  cases h1; cases h2; rfl
theorem bne_of {a b : Bool} (h : a ≠ b) : b = !a := by cases a <;> cases b <;> simp_all
theorem go_make' {Y : Yd} {z : Bool} {d : Deed} : Y.go (.make z d) = Y.make z d := rfl
theorem go_come' {Y : Yd} {z : Bool} {x : Letter} {t : List Letter} (h : Y.r z = x :: t) : Y.go (.come z) = Y.take z x t := by
  show (match Y.r z with
    | [] => Y
    | x :: t => Y.take z x t) = _
  rw [h]
theorem can_come {Y : Yd} {z : Bool} : Y.can (.come z) = true ↔ ∃ x t, Y.r z = x :: t := by
  show (!(Y.r z).isEmpty) = true ↔ _
  cases Y.r z <;> simp
/-- an event of the other seat changes nothing of what can be done here, but that letters come -/
theorem can_keep {Y : Yd} {f e : Ev} (h : f.z ≠ e.z) (hf : Y.can f = true) (he : Y.can e = true) : (Y.go f).can e = true := by
  cases f with
  | make z d =>
    cases e with
    | make w d' =>
      have n : w ≠ z := Ne.symm h
      show cn ((bset Y.s z _) w).text d' = true
      rw [bset_ne n]; exact he
    | come w =>
      obtain ⟨x, t, hx⟩ := can_come.mp he
      refine can_come.mpr ?_
      have : w = !z := bne_of h
      subst this
      exact ⟨x, t ++ [mkL (Y.s z) d], by show bset Y.r (!z) _ (!z) = _; rw [bset_at, hx]; rfl⟩
  | come z =>
    obtain ⟨x, t, hx⟩ := can_come.mp hf
    rw [go_come' hx]
    cases e with
    | make w d' =>
      have n : w ≠ z := Ne.symm h
      show cn ((bset Y.s z _) w).text d' = true
      rw [bset_ne n]; exact he
    | come w =>
      have n : w ≠ z := Ne.symm h
      obtain ⟨x', t', hx'⟩ := can_come.mp he
      exact can_come.mpr ⟨x', t', by show bset Y.r z t w = _; rw [bset_ne n]; exact hx'⟩
/-- the other way about for what is typed -/
theorem can_back {Y : Yd} {f : Ev} {w : Bool} {d : Deed} (h : f.z ≠ w) (hf : Y.can f = true) (he : (Y.go f).can (.make w d) = true) : Y.can (.make w d) = true := by
  cases f with
  | make z d' =>
    have he' : cn ((bset Y.s z (mkS z (Y.s z) d')) w).text d = true := he
    have n : w ≠ z := Ne.symm h
    rw [bset_ne n] at he'; exact he'
  | come z =>
    obtain ⟨x, t, hx⟩ := can_come.mp hf
    rw [go_come' hx] at he
    have he' : cn ((bset Y.s z (tkS z (Y.s z) x)) w).text d = true := he
    have n : w ≠ z := Ne.symm h
    rw [bset_ne n] at he'; exact he'
theorem go_comm {Y : Yd} {f e : Ev} (h : f.z ≠ e.z) (hf : Y.can f = true) (he : Y.can e = true) : (Y.go e).go f = (Y.go f).go e := by
  have hfe := can_keep h hf he
  have hef := can_keep (Ne.symm h) he hf
  cases f with
  | make z d =>
    cases e with
    | make w d' =>
      have : w = !z := bne_of h
      subst this
      rw [go_make', go_make', go_make', go_make']
      refine Yd.ext ?_ ?_
      · show bset (bset Y.s (!z) _) z (mkS z (bset Y.s (!z) _ z) d) = bset (bset Y.s z _) (!z) (mkS (!z) (bset Y.s z _ (!z)) d')
        rw [bset_off', bset_off, bset_comm (by cases z <;> decide)]
      · show bset (bset Y.r (!!z) _) (!z) (bset Y.r (!!z) _ (!z) ++ [mkL (bset Y.s (!z) _ z) d]) = bset (bset Y.r (!z) _) (!!z) (bset Y.r (!z) _ (!!z) ++ [mkL (bset Y.s z _ (!z)) d'])
        rw [Bool.not_not, bset_off, bset_off', bset_off', bset_off, bset_comm (by cases z <;> decide)]
    | come w =>
      have : w = !z := bne_of h
      subst this
      obtain ⟨x, t, hx⟩ := can_come.mp he
      rw [go_come' hx, go_make', go_make', go_come' (x := x) (t := t ++ [mkL (Y.s z) d]) (by show bset Y.r (!z) _ (!z) = _; rw [bset_at, hx]; rfl)]
      refine Yd.ext ?_ ?_
      · show bset (bset Y.s (!z) _) z (mkS z (bset Y.s (!z) _ z) d) = bset (bset Y.s z _) (!z) (tkS (!z) (bset Y.s z _ (!z)) x)
        rw [bset_off', bset_off, bset_comm (by cases z <;> decide)]
      · show bset (bset Y.r (!z) t) (!z) (bset Y.r (!z) t (!z) ++ [mkL (bset Y.s (!z) _ z) d]) = bset (bset Y.r (!z) _) (!z) (t ++ [mkL (Y.s z) d])
        rw [bset_at, bset_off']
        funext b; unfold bset; split <;> rfl
  | come z =>
    obtain ⟨x, t, hx⟩ := can_come.mp hf
    cases e with
    | make w d' =>
      have : w = !z := bne_of h
      subst this
      rw [go_come' hx, go_make', go_make', go_come' (x := x) (t := t ++ [mkL (Y.s (!z)) d']) (by show bset Y.r (!!z) _ z = _; rw [Bool.not_not, bset_at, hx]; rfl)]
      refine Yd.ext ?_ ?_
      · show bset (bset Y.s (!z) _) z (tkS z (bset Y.s (!z) _ z) x) = bset (bset Y.s z _) (!z) (mkS (!z) (bset Y.s z _ (!z)) d')
        rw [bset_off', bset_off, bset_comm (by cases z <;> decide)]
      · show bset (bset Y.r (!!z) _) z (t ++ [mkL (Y.s (!z)) d']) = bset (bset Y.r z t) (!!z) (bset Y.r z t (!!z) ++ [mkL (bset Y.s z _ (!z)) d'])
        rw [Bool.not_not, bset_at, bset_off]
        funext b; unfold bset; split <;> rfl
    | come w =>
      have : w = !z := bne_of h
      subst this
      obtain ⟨x', t', hx'⟩ := can_come.mp he
      rw [go_come' hx, go_come' hx', go_come' (x := x) (t := t) (by show bset Y.r (!z) _ z = _; rw [bset_off']; exact hx), go_come' (x := x') (t := t') (by show bset Y.r z _ (!z) = _; rw [bset_off]; exact hx')]
      refine Yd.ext ?_ ?_
      · show bset (bset Y.s (!z) _) z (tkS z (bset Y.s (!z) _ z) x) = bset (bset Y.s z _) (!z) (tkS (!z) (bset Y.s z _ (!z)) x')
        rw [bset_off', bset_off, bset_comm (by cases z <;> decide)]
      · show bset (bset Y.r (!z) t') z t = bset (bset Y.r z t) (!z) t'
        rw [bset_comm (by cases z <;> decide)]
/-- two neighbours exchanged -/
def Sw (Y : Yd) (es es' : List Ev) : Prop := ∃ a f e b Z, es = a ++ f :: e :: b ∧ es' = a ++ e :: f :: b ∧ f.z ≠ e.z ∧ fin Y a = some Z ∧ Z.can e = true
inductive Alk (Y : Yd) : List Ev → List Ev → Prop where
  | refl (es) : Alk Y es es
  | step {es es' es''} : Alk Y es es' → Sw Y es' es'' → Alk Y es es''
theorem Alk.trans {Y : Yd} {a b c : List Ev} (h : Alk Y a b) (g : Alk Y b c) : Alk Y a c := by
  induction g with
  | refl => exact h
  | step _ s ih => exact .step ih s
theorem Alk.one {Y : Yd} {a b : List Ev} (h : Sw Y a b) : Alk Y a b := .step (.refl a) h
theorem Sw.fin {Y Z : Yd} {es es' : List Ev} (h : Sw Y es es') (hf : fin Y es = some Z) : FL.fin Y es' = some Z := by
  obtain ⟨a, f, e, b, Ya, rfl, rfl, hz, ha, hc⟩ := h
  rw [fin_app, ha] at hf ⊢
  show FL.fin Ya (e :: f :: b) = some Z
  have hf' : FL.fin Ya (f :: e :: b) = some Z := hf
  rw [FL.fin] at hf'
  split at hf'
  · rename_i h1
    rw [FL.fin] at hf'
    split at hf'
    · rw [FL.fin, if_pos hc, FL.fin, if_pos (can_keep (Ne.symm hz) hc h1), go_comm hz h1 hc]
      exact hf'
    · cases hf'
  · cases hf'
theorem Alk.fin {Y Z : Yd} {es es' : List Ev} (h : Alk Y es es') (hf : fin Y es = some Z) : FL.fin Y es' = some Z := by
  induction h with
  | refl => exact hf
  | step _ s ih => exact s.fin ih
def flt (z : Bool) (es : List Ev) : List Ev := es.filter fun e => e.z == z
theorem flt_app (z : Bool) (a b : List Ev) : flt z (a ++ b) = flt z a ++ flt z b := List.filter_append ..
theorem flt_cons (z : Bool) (e : Ev) (b : List Ev) : flt z (e :: b) = if e.z = z then e :: flt z b else flt z b := by
  unfold flt; rw [List.filter_cons]
  by_cases h : e.z = z <;> simp [h]
theorem Sw.flt {Y : Yd} {es es' : List Ev} (h : Sw Y es es') (z : Bool) : FL.flt z es' = FL.flt z es := by
  obtain ⟨a, f, e, b, Ya, rfl, rfl, hz, _, _⟩ := h
  rw [flt_app, flt_app]
  congr 1
  simp only [flt_cons]
  by_cases h1 : f.z = z <;> by_cases h2 : e.z = z <;> simp [h1, h2]
  exact (hz (h1.trans h2.symm)).elim
theorem Alk.flt {Y : Yd} {es es' : List Ev} (h : Alk Y es es') (z : Bool) : FL.flt z es' = FL.flt z es := by
  induction h with
  | refl => rfl
  | step _ s ih => rw [s.flt, ih]
theorem Sw.mem {Y : Yd} {es es' : List Ev} (h : Sw Y es es') : ∀ e, e ∈ es' ↔ e ∈ es := by
  obtain ⟨a, f, e, b, Ya, rfl, rfl, hz, _, _⟩ := h
  intro x; simp only [List.mem_append, List.mem_cons]
  constructor <;> (rintro (h | h | h | h) <;> simp [h])
theorem Alk.mem {Y : Yd} {es es' : List Ev} (h : Alk Y es es') : ∀ e, e ∈ es' ↔ e ∈ es := by
  induction h with
  | refl => exact fun _ => Iff.rfl
  | step _ s ih => exact fun e => (s.mem e).trans (ih e)
theorem Sw.len {Y : Yd} {es es' : List Ev} (h : Sw Y es es') : es'.length = es.length := by
  obtain ⟨a, f, e, b, Ya, rfl, rfl, hz, _, _⟩ := h
  simp
theorem Alk.len {Y : Yd} {es es' : List Ev} (h : Alk Y es es') : es'.length = es.length := by
  induction h with
  | refl => rfl
  | step _ s ih => rw [s.len, ih]
theorem Sw.cons {Y : Yd} {e : Ev} {a b : List Ev} (hc : Y.can e = true) (h : Sw (Y.go e) a b) : Sw Y (e :: a) (e :: b) := by
  obtain ⟨c, f, g, d, Z, rfl, rfl, hz, hf, hg⟩ := h
  exact ⟨e :: c, f, g, d, Z, rfl, rfl, hz, by rw [FL.fin, if_pos hc]; exact hf, hg⟩
theorem Alk.cons {Y : Yd} {e : Ev} {a b : List Ev} (hc : Y.can e = true) (h : Alk (Y.go e) a b) : Alk Y (e :: a) (e :: b) := by
  induction h with
  | refl => exact .refl _
  | step _ s ih => exact .step ih (s.cons hc)
/-- one that can be done comes ahead of those of the other seat -/
theorem to_front {e : Ev} {b : List Ev} : ∀ {a : List Ev} {Y : Yd} {Z : Yd}, (∀ f ∈ a, f.z ≠ e.z) → Y.can e = true → fin Y a = some Z → Alk Y (a ++ e :: b) (e :: (a ++ b)) := by
  intro a
  refine rev_ind (p := fun a => ∀ {b : List Ev} {Y : Yd} {Z : Yd}, (∀ f ∈ a, f.z ≠ e.z) → Y.can e = true → fin Y a = some Z → Alk Y (a ++ e :: b) (e :: (a ++ b))) ?_ ?_ a
  · intro b Y Z _ _ _; exact .refl _
  · intro a f ih b Y Z ha hc hf
    rw [fin_app] at hf
    cases c : fin Y a with
    | none => rw [c] at hf; cases hf
    | some Ya =>
      have keep : ∀ {l : List Ev} {U V : Yd}, (∀ f ∈ l, f.z ≠ e.z) → U.can e = true → fin U l = some V → V.can e = true := by
        intro l
        induction l with
        | nil => intro U V _ hu h; cases h; exact hu
        | cons x l ihl =>
          intro U V hl hu h
          rw [FL.fin] at h
          split at h
          · rename_i hx
            exact ihl (fun g hg => hl g (List.mem_cons_of_mem _ hg)) (can_keep (hl x (List.mem_cons_self ..)) hx hu) h
          · cases h
      have hA := keep (fun g hg => ha g (List.mem_append_left _ hg)) hc c
      have s : Sw Y (a ++ [f] ++ e :: b) (a ++ e :: (f :: b)) := ⟨a, f, e, b, Ya, by simp, by simp, ha f (by simp), c, hA⟩
      have r := ih (b := f :: b) (fun g hg => ha g (List.mem_append_left _ hg)) hc c
      refine (Alk.one s).trans ?_
      rw [show e :: (a ++ [f] ++ b) = e :: (a ++ f :: b) by simp]
      exact r
/-! the plain one -/
def ltE (a b : Ev) : Bool := PySem.W.dataLt a.d b.d
def rdy (c : Bool → Nat) : Ev → Bool
  | .make _ _ => true
  | .come z => decide (0 < c z)
def cgo (c : Bool → Nat) : Ev → Bool → Nat
  | .make z _ => bset c (!z) (c (!z) + 1)
  | .come z => bset c z (c z - 1)
def cand (left : Bool → List Ev) (c : Bool → Nat) (z : Bool) : Option Ev := match left z with
  | [] => none
  | e :: _ => if rdy c e then some e else none
def pick : Option Ev → Option Ev → Option Ev
  | none, o => o
  | some a, none => some a
  | some a, some b => some (if ltE b a then b else a)
def least (left : Bool → List Ev) (c : Bool → Nat) : Option Ev := pick (cand left c true) (cand left c false)
def plainS : Nat → (Bool → List Ev) → (Bool → Nat) → List Ev
  | 0, _, _ => []
  | n + 1, left, c => match least left c with
    | none => []
    | some e => e :: plainS n (bset left e.z (left e.z).tail) (cgo c e)
theorem pick_or {o1 o2 : Option Ev} {e : Ev} (h : pick o1 o2 = some e) : o1 = some e ∨ o2 = some e := by
  cases o1 with
  | none => exact .inr h
  | some a =>
    cases o2 with
    | none => exact .inl h
    | some b =>
      simp only [pick] at h
      split at h
      · exact .inr h
      · exact .inl h
def cof (Y : Yd) (z : Bool) : Nat := (Y.r z).length
theorem cof_go {Y : Yd} {e : Ev} (h : Y.can e = true) : cof (Y.go e) = cgo (cof Y) e := by
  cases e with
  | make z d =>
    show (fun b => ((bset Y.r (!z) (Y.r (!z) ++ [mkL (Y.s z) d])) b).length) = bset (cof Y) (!z) (cof Y (!z) + 1)
    funext b; unfold bset cof
    by_cases c : b = !z
    · rw [if_pos c, if_pos c]; simp
    · rw [if_neg c, if_neg c]
  | come z =>
    obtain ⟨x, t, hx⟩ := can_come.mp h
    rw [go_come' hx]
    show (fun b => ((bset Y.r z t) b).length) = bset (cof Y) z (cof Y z - 1)
    funext b; unfold bset cof
    by_cases c : b = z
    · rw [if_pos c, if_pos c, hx]; simp
    · rw [if_neg c, if_neg c]
theorem rdy_can {Y : Yd} {z : Bool} : rdy (cof Y) (.come z) = Y.can (.come z) := by
  show decide (0 < (Y.r z).length) = !(Y.r z).isEmpty
  cases c : Y.r z <;> simp
theorem flt_split {z : Bool} {e : Ev} {l : List Ev} : ∀ {es : List Ev}, flt z es = e :: l → ∃ a b, es = a ++ e :: b ∧ (∀ f ∈ a, f.z ≠ z) ∧ e.z = z ∧ flt z b = l ∧ flt z a = []
  | [], h => by cases h
  | x :: es, h => by
    rw [flt_cons] at h
    by_cases hx : x.z = z
    · rw [if_pos hx] at h; cases h
      exact ⟨[], es, rfl, fun f hf => (List.not_mem_nil hf).elim, hx, rfl, rfl⟩
    · rw [if_neg hx] at h
      obtain ⟨a, b, h1, h2, h3, h4, h5⟩ := flt_split h
      refine ⟨x :: a, b, by rw [h1]; rfl, fun f hf => ?_, h3, h4, by rw [flt_cons, if_neg hx]; exact h5⟩
      rcases List.mem_cons.mp hf with rfl | hf
      · exact hx
      · exact h2 f hf
/-- at its turn typed, now too -/
theorem can_first {w : Bool} {d : Deed} {b : List Ev} : ∀ {a : List Ev} {Y Z : Yd}, (∀ f ∈ a, f.z ≠ w) → fin Y (a ++ .make w d :: b) = some Z → Y.can (.make w d) = true
  | [], Y, Z, _, h => by
    rw [List.nil_append, fin] at h
    split at h
    · assumption
    · cases h
  | f :: a, Y, Z, ha, h => by
    rw [List.cons_append, fin] at h
    split at h
    · rename_i hf
      exact can_back (ha f (List.mem_cons_self ..)) hf (can_first (fun g hg => ha g (List.mem_cons_of_mem _ hg)) h)
    · cases h
theorem cand_of {Y Z : Yd} {es : List Ev} {z : Bool} {e : Ev} (hf : fin Y es = some Z) (h : cand (fun z => flt z es) (cof Y) z = some e) :
    ∃ a b, es = a ++ e :: b ∧ (∀ f ∈ a, f.z ≠ e.z) ∧ e.z = z ∧ Y.can e = true ∧ flt z b = (flt z es).tail ∧ flt z a = [] := by
  unfold cand at h
  simp only at h
  cases c : flt z es with
  | nil => rw [c] at h; cases h
  | cons x l =>
    rw [c] at h
    simp only at h
    split at h
    · rename_i hr
      cases h
      obtain ⟨a, b, h1, h2, h3, h4, h5⟩ := flt_split c
      subst h3
      refine ⟨a, b, h1, h2, rfl, ?_, h4, h5⟩
      cases e with
      | make w d => exact can_first h2 (by rw [← h1]; exact hf)
      | come w => rw [← rdy_can]; exact hr
    · cases h
theorem cand_head {Y Z : Yd} {x : Ev} {es : List Ev} (hf : fin Y (x :: es) = some Z) : Y.can x = true ∧ cand (fun z => flt z (x :: es)) (cof Y) x.z = some x := by
  rw [fin] at hf
  split at hf
  · rename_i hx
    refine ⟨hx, ?_⟩
    unfold cand
    simp only
    rw [flt_cons, if_pos rfl]
    simp only
    rw [if_pos]
    cases x with
    | make w d => rfl
    | come w => rw [rdy_can]; exact hx
  · cases hf
theorem least_some {Y Z : Yd} {es : List Ev} (hf : fin Y es = some Z) (hn : es ≠ []) : ∃ e, least (fun z => flt z es) (cof Y) = some e := by
  cases es with
  | nil => exact (hn rfl).elim
  | cons x es =>
    have h := (cand_head hf).2
    unfold least
    cases hz : x.z with
    | true =>
      rw [hz] at h
      rw [h]
      cases cand (fun z => flt z (x :: es)) (cof Y) false with
      | none => exact ⟨_, rfl⟩
      | some b => exact ⟨_, rfl⟩
    | false =>
      rw [hz] at h
      rw [h]
      cases cand (fun z => flt z (x :: es)) (cof Y) true with
      | none => exact ⟨_, rfl⟩
      | some b => exact ⟨_, rfl⟩
theorem flt_len (es : List Ev) : (flt true es).length + (flt false es).length = es.length := by
  induction es with
  | nil => rfl
  | cons x es ih =>
    rw [flt_cons, flt_cons]
    cases hz : x.z <;> simp [hz] <;> omega
theorem plain_alk : ∀ (n : Nat) {Y Z : Yd} {es : List Ev}, es.length = n → fin Y es = some Z → Alk Y es (plainS n (fun z => flt z es) (cof Y))
  | 0, Y, Z, es, hl, hf => by
    rw [List.length_eq_zero_iff.mp hl]; exact .refl _
  | n + 1, Y, Z, es, hl, hf => by
    obtain ⟨e, he⟩ := least_some hf (by intro c; rw [c] at hl; cases hl)
    obtain ⟨z, hz⟩ : ∃ z, cand (fun z => flt z es) (cof Y) z = some e := by
      rcases pick_or he with h | h
      · exact ⟨_, h⟩
      · exact ⟨_, h⟩
    obtain ⟨a, b, h1, h2, h3, h4, h5, h6⟩ := cand_of hf hz
    subst h3
    have hA : ∃ Ya, fin Y a = some Ya := by
      rw [h1, fin_app] at hf
      cases c : fin Y a with
      | none => rw [c] at hf; cases hf
      | some Ya => exact ⟨Ya, rfl⟩
    obtain ⟨Ya, hYa⟩ := hA
    have m := to_front (b := b) h2 h4 hYa
    rw [← h1] at m
    have hf2 := m.fin hf
    rw [fin, if_pos h4] at hf2
    have hl2 : (a ++ b).length = n := by have := m.len; simp at this ⊢; omega
    have ih := plain_alk n hl2 hf2
    rw [plainS, he]
    show Alk Y es (e :: plainS n (bset (fun z => flt z es) e.z (flt e.z es).tail) (cgo (cof Y) e))
    have e1 : bset (fun z => flt z es) e.z (flt e.z es).tail = fun z => flt z (a ++ b) := by
      funext z
      by_cases c : z = e.z
      · subst c; rw [bset_at, flt_app, h6, h5]; rfl
      · rw [bset_ne c, h1, flt_app, flt_app, flt_cons, if_neg (Ne.symm c)]
    rw [e1, ← cof_go h4]
    exact m.trans (ih.cons h4)
end FL

/-! plain: the order of events, the plain story is the least; each seat's own events and lines -/
namespace FL
open PySem
theorem sgn_inj {a b : Nat} : (sgn a == sgn b) = decide (a = b) := by
  rw [Bool.eq_iff_iff, beq_iff_eq, decide_eq_true_eq]
  constructor
  · intro h; injection h with h; injection h with h; injection h
  · intro h; rw [h]
theorem lit_ne {a b : Str} (h : (a == b) = false) : (a == b) = false := h
theorem eqv_deed (a b : Deed) : PyData.eqv a.d b.d = decide (a = b) := by
  have n1 : ((("put" : Str)) == (("cut" : Str))) = false := by decide +kernel
  have n2 : ((("put" : Str)) == (("none" : Str))) = false := by decide +kernel
  have n3 : ((("cut" : Str)) == (("put" : Str))) = false := by decide +kernel
  have n4 : ((("cut" : Str)) == (("none" : Str))) = false := by decide +kernel
  have n5 : ((("none" : Str)) == (("put" : Str))) = false := by decide +kernel
  have n6 : ((("none" : Str)) == (("cut" : Str))) = false := by decide +kernel
  have e1 : ((("put" : Str)) == (("put" : Str))) = true := by decide +kernel
  have e2 : ((("cut" : Str)) == (("cut" : Str))) = true := by decide +kernel
  have e3 : ((("none" : Str)) == (("none" : Str))) = true := by decide +kernel
  cases a <;> cases b <;> simp only [Deed.d, PyData.eqv, PyData.eqvAll, n1, n2, n3, n4, n5, n6, e1, e2, e3, sgn_inj, Bool.true_and, Bool.false_and, Bool.and_true, Bool.and_false]
  · rename_i p c q d
    rw [Bool.eq_iff_iff]
    simp only [Bool.and_eq_true, beq_iff_eq, decide_eq_true_eq, Deed.put.injEq, Int.ofNat_inj]
  · simp
  · simp
  · simp
  · rename_i p q
    rw [Bool.eq_iff_iff]
    simp only [beq_iff_eq, decide_eq_true_eq, Deed.cut.injEq]
    exact ⟨fun h => by omega, fun h => by omega⟩
  · simp
  · simp
  · simp
  · simp
theorem ixZ_beq {a b : Bool} : (ixZ a == ixZ b) = decide (a = b) := by cases a <;> cases b <;> rfl
theorem eqv_ev (a b : Ev) : PyData.eqv a.d b.d = decide (a = b) := by
  have n1 : ((("make" : Str)) == (("come" : Str))) = false := by decide +kernel
  have n2 : ((("come" : Str)) == (("make" : Str))) = false := by decide +kernel
  have e1 : ((("make" : Str)) == (("make" : Str))) = true := by decide +kernel
  have e2 : ((("come" : Str)) == (("come" : Str))) = true := by decide +kernel
  cases a <;> cases b <;> simp only [Ev.d, PyData.eqv, PyData.eqvAll, n1, n2, e1, e2, eqv_deed, ixZ_beq, Bool.true_and, Bool.false_and, Bool.and_true, Bool.and_false]
  · rename_i z w
    rw [Bool.eq_iff_iff]; simp
  · simp
  · simp
  · rename_i z d w d'
    rw [Bool.eq_iff_iff]; simp
theorem plain_deed (a : Deed) : a.d.plain = true := by cases a <;> rfl
instance : PySem.W.Datum Ev where
  toD := Ev.d
  plain a := by cases a with
    | come z => rfl
    | make z d => cases d <;> rfl
  eqv := eqv_ev
  depth := 2
  depth_le a := by cases a with
    | come z => simp [Ev.d, PyData.depth, PyData.depthAll]
    | make z d => cases d <;> simp [Ev.d, Deed.d, PyData.depth, PyData.depthAll]
instance : PySem.W.DatumOrd Ev where
  lt := ltE
  alike a b := by
    cases a with
    | come z => cases b <;> simp [Ev.d, PySem.W.Datum.toD, PySem.W.alike, PySem.W.alikeAll]
    | make z d => cases b with
      | come z => simp [Ev.d, PySem.W.Datum.toD, PySem.W.alike, PySem.W.alikeAll]
      | make w d' => cases d <;> cases d' <;> simp [Ev.d, Deed.d, PySem.W.Datum.toD, PySem.W.alike, PySem.W.alikeAll]
  notNone a := by cases a <;> (intro e; cases e)
  lt_eq a b := rfl
/-- the order of stories -/
def ltL : List Ev → List Ev → Bool := PySem.W.listLt
theorem ltL_eq (a b : List Ev) : PySem.W.dataLt (.list (a.map Ev.d)) (.list (b.map Ev.d)) = ltL a b := by
  have h := PySem.W.lexAll_map a b
  unfold PySem.W.dataLt
  simp only [PySem.W.keyToks]
  exact h
theorem ltL_self (a : List Ev) : ltL a a = false := by rw [← ltL_eq]; exact PySem.W.dataLt_self _
theorem ltL_nil : ltL [] [] = false := rfl
theorem ltL_cons (x y : Ev) (xs ys : List Ev) : ltL (x :: xs) (y :: ys) = if x = y then ltL xs ys else ltE x y := rfl
theorem ltL_pre : ∀ (a xs ys : List Ev), ltL (a ++ xs) (a ++ ys) = ltL xs ys
  | [], _, _ => rfl
  | x :: a, xs, ys => by rw [List.cons_append, List.cons_append, ltL_cons, if_pos rfl]; exact ltL_pre a xs ys
theorem ltE_asym {a b : Ev} (h : ltE a b = true) : ltE b a = false := by
  cases c : ltE b a with
  | false => rfl
  | true =>
    have t := PyProof.Rows.lex_trans (O := PyProof.Rows.itemOrd) _ _ _ h c
    have i := PySem.W.dataLt_self a.d
    unfold PySem.W.dataLt at i
    rw [t] at i; cases i
theorem pick_min {o1 o2 : Option Ev} {e x : Ev} (h : pick o1 o2 = some e) (hx : o1 = some x ∨ o2 = some x) (hn : x ≠ e) : ltE x e = false := by
  cases o1 with
  | none =>
    cases o2 with
    | none => cases h
    | some b =>
      cases h
      rcases hx with hx | hx
      · cases hx
      · cases hx; exact (hn rfl).elim
  | some a =>
    cases o2 with
    | none =>
      cases h
      rcases hx with hx | hx
      · cases hx; exact (hn rfl).elim
      · cases hx
    | some b =>
      simp only [pick] at h
      split at h
      · rename_i hlt
        cases h
        rcases hx with hx | hx
        · cases hx; exact ltE_asym hlt
        · cases hx; exact (hn rfl).elim
      · rename_i hlt
        cases h
        rcases hx with hx | hx
        · cases hx; exact (hn rfl).elim
        · cases hx; simpa using hlt
/-- no alike one is less -/
theorem plain_min : ∀ (n : Nat) {Y Z : Yd} {es : List Ev}, es.length = n → fin Y es = some Z → ltL es (plainS n (fun z => flt z es) (cof Y)) = false
  | 0, Y, Z, es, hl, hf => by rw [List.length_eq_zero_iff.mp hl]; rfl
  | n + 1, Y, Z, es, hl, hf => by
    obtain ⟨e, he⟩ := least_some hf (by intro c; rw [c] at hl; cases hl)
    cases es with
    | nil => cases hl
    | cons x es =>
      obtain ⟨hc, hh⟩ := cand_head hf
      have hx : cand (fun z => flt z (x :: es)) (cof Y) true = some x ∨ cand (fun z => flt z (x :: es)) (cof Y) false = some x := by
        cases c : x.z <;> rw [c] at hh
        · exact .inr hh
        · exact .inl hh
      rw [plainS, he]
      show ltL (x :: es) (e :: _) = false
      rw [ltL_cons]
      by_cases hxe : x = e
      · rw [if_pos hxe]
        subst hxe
        have e1 : bset (fun z => flt z (x :: es)) x.z (flt x.z (x :: es)).tail = fun z => flt z es := by
          funext z
          by_cases c : z = x.z
          · subst c; rw [bset_at, flt_cons, if_pos rfl]; rfl
          · rw [bset_ne c, flt_cons, if_neg (Ne.symm c)]
        have hf2 : fin (Y.go x) es = some Z := by
          rw [fin, if_pos hc] at hf; exact hf
        show ltL es (plainS n (bset (fun z => flt z (x :: es)) x.z (flt x.z (x :: es)).tail) (cgo (cof Y) x)) = false
        rw [e1, ← cof_go hc]
        exact plain_min n (by simpa using hl) hf2
      · rw [if_neg hxe]
        exact pick_min he hx hxe
/-- the plain story of a story -/
def plainOf (es : List Ev) : List Ev := plainS es.length (fun z => flt z es) fun _ => 0
theorem cof_new (l : Ln) : cof (Yd.new l) = fun _ => 0 := rfl
section
variable {l : Ln} {es fs : List Ev} {Z : Yd}
theorem plainOf_alk (h : fin (Yd.new l) es = some Z) : Alk (Yd.new l) es (plainOf es) := plain_alk es.length rfl h
theorem plainOf_flt (h : fin (Yd.new l) es = some Z) (z : Bool) : flt z (plainOf es) = flt z es := (plainOf_alk h).flt z
theorem plainOf_eq (hl : fs.length = es.length) (h : ∀ z, flt z fs = flt z es) : plainOf fs = plainOf es := by
  unfold plainOf
  rw [hl, show (fun z => flt z fs) = fun z => flt z es from funext h]
theorem plainOf_of (h : Alk (Yd.new l) es fs) : plainOf fs = plainOf es := plainOf_eq h.len h.flt
theorem plainOf_least (h : Alk (Yd.new l) es fs) (hf : fin (Yd.new l) es = some Z) : ltL fs (plainOf es) = false := by
  rw [← plainOf_of h]
  exact plain_min fs.length rfl (h.fin hf)
theorem plainOf_self (h : fin (Yd.new l) es = some Z) : plainOf (plainOf es) = plainOf es := plainOf_of (plainOf_alk h)
/-- no exchange makes it less -/
theorem plainOf_sw {a b : List Ev} {f e : Ev} (h : fin (Yd.new l) es = some Z) (hp : plainOf es = a ++ f :: e :: b) (s : Sw (Yd.new l) (plainOf es) (a ++ e :: f :: b)) : ltE e f = false := by
  have m := plainOf_least ((plainOf_alk h).step s) h
  rw [hp, ltL_pre, ltL_cons] at m
  by_cases c : e = f
  · rw [c]; exact PySem.W.dataLt_self _
  · rw [if_neg c] at m; exact m
end
/-! a seat's own events, and the lines behind them -/
def own (z : Bool) : Yd → List Ev → List (Ev × Ln)
  | _, [] => []
  | Y, e :: es => if e.z = z then (e, ((Y.go e).s z).text) :: own z (Y.go e) es else own z (Y.go e) es
theorem own_app (z : Bool) : ∀ (a : List Ev) {Y Z : Yd} (b : List Ev), fin Y a = some Z → own z Y (a ++ b) = own z Y a ++ own z Z b
  | [], Y, Z, b, h => by cases h; rfl
  | e :: a, Y, Z, b, h => by
    rw [fin] at h
    split at h
    · rw [List.cons_append, own, own, own_app z a b h]
      split <;> rfl
    · cases h
theorem text_keep {Y : Yd} {e : Ev} {z : Bool} (hc : Y.can e = true) (h : e.z ≠ z) : (Y.go e).s z = Y.s z := by
  cases e with
  | make w d => exact bset_ne (Ne.symm h)
  | come w =>
    obtain ⟨x, t, hx⟩ := can_come.mp hc
    rw [go_come' hx]
    exact bset_ne (Ne.symm h)
theorem Sw.own {Y Z : Yd} {es es' : List Ev} (h : Sw Y es es') (hf : FL.fin Y es = some Z) (z : Bool) : FL.own z Y es' = FL.own z Y es := by
  obtain ⟨a, f, e, b, Ya, rfl, rfl, hz, ha, hc⟩ := h
  rw [own_app z a _ ha, own_app z a _ ha]
  congr 1
  rw [fin_app, ha] at hf
  have hf' : FL.fin Ya (f :: e :: b) = some Z := hf
  rw [FL.fin] at hf'
  split at hf'
  · rename_i h1
    have hfe := can_keep hz h1 hc
    have hef := can_keep (Ne.symm hz) hc h1
    simp only [FL.own]
    rw [go_comm hz h1 hc]
    by_cases c1 : f.z = z
    · have c2 : e.z ≠ z := fun q => hz (c1.trans q.symm)
      rw [if_pos c1, if_neg c2, if_neg c2, if_pos c1]
      rw [text_keep hfe c2]
    · by_cases c2 : e.z = z
      · rw [if_neg c1, if_pos c2, if_pos c2, if_neg c1]
        rw [← go_comm hz h1 hc, text_keep hef c1]
      · rw [if_neg c1, if_neg c2, if_neg c2, if_neg c1]
  · cases hf'
theorem Alk.own {Y Z : Yd} {es es' : List Ev} (h : Alk Y es es') (hf : FL.fin Y es = some Z) (z : Bool) : FL.own z Y es' = FL.own z Y es := by
  induction h with
  | refl => rfl
  | step g s ih => rw [s.own (g.fin hf) z, ih]
end FL

/-! plain: what the laws ask of neighbours; the states one by one -/
namespace FL
open PySem
def isM (z : Bool) : Ev → Bool
  | .make w _ => w == z
  | .come _ => false
def isC (z : Bool) : Ev → Bool
  | .come w => w == z
  | .make _ _ => false
/-- letters of the first one's seat on the way to the second one's, counted -/
def there (f e : Bool) : List Ev → Int
  | [] => 0
  | x :: xs => (if isM f x then 1 else 0) - (if isC e x then 1 else 0) + there f e xs
theorem there_app (f e : Bool) : ∀ a b : List Ev, there f e (a ++ b) = there f e a + there f e b
  | [], b => by simp [there]
  | x :: a, b => by rw [List.cons_append, there, there, there_app f e a b]; omega
theorem there_cof {z : Bool} : ∀ (a : List Ev) {Y Z : Yd}, fin Y a = some Z → (cof Z z : Int) = cof Y z + there (!z) z a
  | [], Y, Z, h => by cases h; simp [there]
  | x :: a, Y, Z, h => by
    rw [fin] at h
    split at h
    · rename_i hx
      rw [there_cof a h, cof_go hx, there]
      cases x with
      | make w d =>
        show ((bset (cof Y) (!w) (cof Y (!w) + 1)) z : Int) + _ = _
        by_cases c : z = !w
        · subst c
          rw [bset_at]; simp [isM, isC]; omega
        · rw [bset_ne c]
          have : w = z := by cases w <;> cases z <;> simp_all
          subst this
          have n : (w == !w) = false := by cases w <;> rfl
          simp [isM, isC, n]
      | come w =>
        show ((bset (cof Y) w (cof Y w - 1)) z : Int) + _ = _
        by_cases c : z = w
        · subst c
          obtain ⟨y, t, hy⟩ := can_come.mp hx
          have hc : cof Y z = t.length + 1 := by unfold cof; rw [hy]; rfl
          rw [bset_at, hc]; simp [isM, isC]; omega
        · rw [bset_ne c]
          have n : (w == z) = false := by cases w <;> cases z <;> simp_all
          simp [isM, isC, n]
    · cases h
/-- may be exchanged, as the laws look at it -/
def mayE (a : List Ev) (f e : Ev) : Bool := if f.z = e.z then false else match f, e with
  | .make z _, .come w => decide (0 < there z w a)
  | _, _ => true
def mayC (es : List Ev) (k : Nat) : Bool := match es[k]?, es[k + 1]? with
  | some f, some e => mayE (es.take k) f e
  | _, _ => false
theorem split_at {es : List Ev} {k : Nat} (h : k + 1 < es.length) : ∃ f e, es[k]? = some f ∧ es[k + 1]? = some e ∧ es = es.take k ++ f :: e :: es.drop (k + 2) ∧ es.drop k = f :: e :: es.drop (k + 2) := by
  refine ⟨es[k], es[k + 1], List.getElem?_eq_getElem (by omega), List.getElem?_eq_getElem h, ?_, ?_⟩
  · rw [← List.drop_eq_getElem_cons h, ← List.drop_eq_getElem_cons (by omega : k < es.length), List.take_append_drop]
  · rw [← List.drop_eq_getElem_cons h, ← List.drop_eq_getElem_cons (by omega : k < es.length)]
/-- the exchanged one -/
def chg (es : List Ev) (k : Nat) : List Ev := match es[k]?, es[k + 1]? with
  | some f, some e => es.take k ++ e :: f :: es.drop (k + 2)
  | _, _ => es
section
variable {l : Ln} {es : List Ev} {Z : Yd} {k : Nat}
theorem fin_take {Y Z : Yd} {es : List Ev} (k : Nat) (h : fin Y es = some Z) : ∃ Yk, fin Y (es.take k) = some Yk ∧ fin Yk (es.drop k) = some Z := by
  rw [← List.take_append_drop k es, fin_app] at h
  cases c : fin Y (es.take k) with
  | none => rw [c] at h; cases h
  | some Yk => rw [c] at h; exact ⟨Yk, rfl, h⟩
theorem mayC_sw (hf : fin (Yd.new l) es = some Z) (hk : k + 1 < es.length) (h : mayC es k = true) : Sw (Yd.new l) es (chg es k) := by
  obtain ⟨f, e, h1, h2, h3, h4⟩ := split_at hk
  unfold mayC at h; unfold chg
  rw [h1, h2] at h ⊢
  simp only at h ⊢
  unfold mayE at h
  split at h
  · cases h
  rename_i hz
  obtain ⟨Ya, ha, hb⟩ := fin_take k hf
  refine ⟨es.take k, f, e, es.drop (k + 2), Ya, h3, rfl, hz, ha, ?_⟩
  have hb' : fin Ya (f :: e :: es.drop (k + 2)) = some Z := by
    rw [← h4]; exact hb
  rw [fin] at hb'
  split at hb'
  · rename_i hcf
    rw [fin] at hb'
    split at hb'
    · rename_i hce
      cases e with
      | make w d => exact can_back hz hcf hce
      | come w =>
        cases f with
        | make z d =>
          have ht := of_decide_eq_true h
          have hw : w = !z := bne_of hz
          have hc := there_cof (z := w) (es.take k) ha
          have h0 : cof (Yd.new l) w = 0 := rfl
          rw [h0, hw, Bool.not_not, ← hw] at hc
          refine can_come.mpr ?_
          have : 0 < (Ya.r w).length := by unfold cof at hc; omega
          cases c : Ya.r w with
          | nil => rw [c] at this; cases this
          | cons x t => exact ⟨x, t, rfl⟩
        | come z =>
          obtain ⟨x, t, hx⟩ := can_come.mp hcf
          rw [go_come' hx] at hce
          have hzw : w ≠ z := Ne.symm hz
          obtain ⟨x', t', hx'⟩ := can_come.mp hce
          have hx2 : (bset Ya.r z t) w = x' :: t' := hx'
          rw [bset_ne hzw] at hx2
          exact can_come.mpr ⟨x', t', hx2⟩
    · cases hb'
  · cases hb'
/-- where it may not be: one seat's two, or none -/
theorem mayC_not (hf : fin (Yd.new l) es = some Z) (hk : k + 1 < es.length) (h : mayC es k = false) : fin (Yd.new l) (chg es k) = none ∨ chg es k = es ∨ ∃ z, flt z (chg es k) ≠ flt z es := by
  obtain ⟨f, e, h1, h2, h3, h4⟩ := split_at hk
  unfold mayC at h
  have hchg : chg es k = es.take k ++ e :: f :: es.drop (k + 2) := by unfold chg; rw [h1, h2]
  rw [h1, h2] at h
  simp only at h
  unfold mayE at h
  split at h
  · rename_i hz
    by_cases hfe : e = f
    · refine .inr (.inl ?_)
      rw [hchg, hfe]; rw [hfe] at h3; exact h3.symm
    · refine .inr (.inr ⟨f.z, fun c => hfe ?_⟩)
      rw [hchg] at c
      have e0 : flt f.z es = flt f.z (es.take k ++ f :: e :: es.drop (k + 2)) := by rw [← h3]
      rw [e0] at c
      simp only [flt_app, flt_cons, if_pos hz.symm, if_true, List.append_cancel_left_eq] at c
      injection c
  · rename_i hz
    cases f with
    | come z => cases e <;> cases h
    | make z d =>
      cases e with
      | make w d' => cases h
      | come w =>
        refine .inl ?_
        obtain ⟨Ya, ha, hb⟩ := fin_take k hf
        have ht := of_decide_eq_false h
        have hw : w = !z := bne_of hz
        have hc := there_cof (z := w) (es.take k) ha
        have h0 : cof (Yd.new l) w = 0 := rfl
        rw [h0, hw, Bool.not_not, ← hw] at hc
        rw [hchg, fin_app, ha]
        show fin Ya (.come w :: _) = none
        rw [fin]
        have hn : Ya.can (.come w) = false := by
          cases c : Ya.can (.come w) with
          | false => rfl
          | true =>
            obtain ⟨x, t, hx⟩ := can_come.mp c
            have : cof Ya w = t.length + 1 := by unfold cof; rw [hx]; rfl
            omega
        rw [hn]; rfl
theorem chg_len (hk : k + 1 < es.length) : (chg es k).length = es.length := by
  obtain ⟨f, e, h1, h2, h3, h4⟩ := split_at hk
  unfold chg; rw [h1, h2]; simp; omega
theorem chg_mem (hk : k + 1 < es.length) : ∀ x ∈ chg es k, x ∈ es := by
  obtain ⟨f, e, h1, h2, h3, h4⟩ := split_at hk
  unfold chg; rw [h1, h2]
  intro x hx
  have e0 : x ∈ es ↔ x ∈ es.take k ++ f :: e :: es.drop (k + 2) := by rw [← h3]
  rw [e0]
  simp only [List.mem_append, List.mem_cons] at hx ⊢
  rcases hx with hx | hx | hx | hx
  · exact .inl hx
  · exact .inr (.inr (.inl hx))
  · exact .inr (.inl hx)
  · exact .inr (.inr (.inr hx))
/-- the states, one by one -/
theorem runs_at {Y : Yd} : ∀ {es : List Ev} {p} {k : Nat}, runs Y es = some p → k ≤ es.length → ∃ Yk, p.1[k]? = some Yk ∧ fin Y (es.take k) = some Yk := by
  intro es
  refine rev_ind (p := fun es => ∀ {p} {k : Nat}, runs Y es = some p → k ≤ es.length → ∃ Yk, p.1[k]? = some Yk ∧ fin Y (es.take k) = some Yk) ?_ ?_ es
  · intro p k h hk
    cases h
    have : k = 0 := Nat.le_zero.mp hk
    subst this
    exact ⟨Y, rfl, rfl⟩
  · intro es e ih p k h hk
    have hfin := fin_some h
    have hlen := runs_len h
    rw [runs_snoc] at h
    cases c : runs Y es with
    | none => rw [c] at h; cases h
    | some p0 =>
      rw [c] at h
      cases c2 : step p0.2 e with
      | none => simp [c2] at h
      | some y =>
        simp [c2] at h; subst h
        have l0 := runs_len c
        by_cases hk2 : k ≤ es.length
        · obtain ⟨Yk, h1, h2⟩ := ih c hk2
          refine ⟨Yk, ?_, ?_⟩
          · rw [List.getElem?_append_left (by omega)]; exact h1
          · rw [List.take_append_of_le_length hk2]; exact h2
        · have : k = es.length + 1 := by simp at hk; omega
          subst this
          refine ⟨y, ?_, ?_⟩
          · rw [List.getElem?_append_right (by omega), l0]; simp
          · rw [List.take_of_length_le (by simp)]; exact hfin
end
end FL

/-! own layer: the order of data: <, min of a list -/
namespace FL
open PySem PySem.Spec PyProof.Rows L2 CwR PySem.SeqAt
/-- one of the items that is not above the others, the first such -/
def rMinD (K : PySem.W.Frag) : List V → Hp → VK → Prop := fun vs H Q => ∃ (a : Addr) (xs : List V) (d : PyData) (ds : List PyData), vs = [.ref a] ∧ SqL K H a xs ∧ DpAll K H xs (d :: ds) ∧ PySem.W.AlikeAll (d :: ds) ∧ PyData.depthAll (d :: ds) ≤ 60 ∧
  ∀ (i : Nat) x, xs[i]? = some x → (d :: ds)[i]? = some (PySem.W.minD d ds) → Q x H
def rLtD (K : PySem.W.Frag) : R2 := fun x y H Q => ∃ d e, Dp K H x d ∧ Dp K H y e ∧ PySem.W.alike d e = true ∧ d ≠ .none ∧ d.depth ≤ 60 ∧ Q (.bl (PySem.W.dataLt d e)) H
theorem vals_at {xs : List V} {us : List Value} (r : Vals xs us) : ∀ {i : Nat} {u : Value}, us[i]? = some u → ∃ x, xs[i]? = some x ∧ RelV x u := by
  induction r with
  | nil => intro i u h; simp at h
  | cons a b ih =>
    intro i u h
    cases i with
    | zero => simp at h; subst h; exact ⟨_, rfl, a⟩
    | succ i => obtain ⟨x, h1, h2⟩ := ih (by simpa using h); exact ⟨x, by simpa using h1, h2⟩
section
variable {X : Cx}
theorem u_ltD (hu : X.A.units + 64 < cLine) : OpR X (compareOp .Lt) (rLtD X.K) := by
  intro pins s σ H x y v u Q I rx ry ⟨d, e, hd, he, al, nn, dep, q⟩
  have ⟨as, ra⟩ := Dp.reads I d x v hd rx
  have ⟨bs, rb⟩ := Dp.reads I e y u he ry
  exact PySem.W.lt_data ra rb al nn (by omega) ⟨.bl _, H, I, rfl, q⟩
theorem u_minD (hc : X.calm = true) (hu : X.A.units + 64 < cLine) : CallR X (.builtin "min") (rMinD X.K) := by
  intro pins s σ H vs us Q I r ⟨a, xs, d, ds, ev, hs, hd, al, dep, q⟩
  subst ev
  have ⟨its, rv, hl, _⟩ := I.list hs
  rw [Vals.ref1 r]
  have ⟨as, hr⟩ := Dp.readsAll I (d :: ds) xs its hd rv
  have hr' : ReadsAll s.heap its.toArray.toList (d :: ds) as := hr
  refine PySem.call_min_walkH (PySem.W.iter_listW (I.ok.hd hc) hl.isList fun s2 e W st hfp hw hk => ?_)
  have hn : its.toArray.size = ds.length + 1 := PySem.W.readsAll_len hr'
  refine ⟨_, _, _, _, _, _, _, s.heap, _, rfl, W, st, hfp, by omega, hw, hk, PySem.W.cmpIn_lt hr' al (by show X.A.units + 1 + _ < _; omega), ?_⟩
  intro v s' hP m
  have ⟨h', tk, es, hk'⟩ := PySem.W.moved_old e rfl m
  have hsz : its.toArray.size - 1 = ds.length := by omega
  have b1 := PySem.W.argBest_fold PySem.W.dataLt PyData.none d ds ds.length (Nat.le_refl _)
  rw [List.take_length] at b1
  have b2 := b1.2
  rw [hsz] at hP
  have hP2 : its[argBest (fun i j => PySem.W.dataLt ((d :: ds).getD i .none) ((d :: ds).getD j .none)) ds.length]? = some v := by simpa using hP
  have ⟨x, hx, rx⟩ := vals_at rv hP2
  subst es
  refine ⟨x, H, I.kept (t' := tk) hk', rx, q _ x hx ?_⟩
  rw [List.getD_eq_getElem?_getD] at b2
  have hlt : argBest (fun i j => PySem.W.dataLt ((d :: ds).getD i .none) ((d :: ds).getD j .none)) ds.length < (d :: ds).length := Nat.lt_succ_of_le b1.1
  rw [List.getElem?_eq_getElem hlt] at b2 ⊢
  exact congrArg some b2
/-- l[i] += .. reads l[i], from the front -/
def rGetL (K : PySem.W.Frag) : V → V → Hp → VK → Prop := fun o i H Q => ∃ (p : Addr) (xs : List V) (n : Nat) (v : V), o = .ref p ∧ i = .int (n : Int) ∧ SqL K H p xs ∧ n < 1000000 ∧ xs[n]? = some v ∧ Q v H
theorem get_list : PGet X (rGetL X.K) := by
  intro pins s σ H o i ov iv Q I ro ri ⟨p, xs, n, v, e1, e2, hs, hn, hx, q⟩
  subst e1 e2
  cases ro
  obtain ⟨t, rfl⟩ := ri
  have ⟨its, r, pl, _⟩ := I.list hs
  obtain ⟨w, ew, rw'⟩ := r.get hx
  exact wpAny_getItem_list pl.isList (by omega) (by omega) (by simpa using ew) ⟨v, H, I, rw', q⟩
end
end FL

/-! more of what stands apart; what the stories' laws and plain_story promise -/
namespace FL
open PySem PySem.Spec PyProof.Rows L2 CwR TL
/-- values of these data (without lists in them) -/
def dvA (K : PySem.W.Frag) (vs : List V) (ds : List PyData) : Res where
  P F H := (∀ x, ¬ F x) ∧ noLs ds = true ∧ DpAll K H vs ds
  al := fun h x hx => (h.1 x hx).elim
  st := fun ⟨f, n, d⟩ _ t => ⟨f, n, dps_tk t d n⟩
/-- a list of two numbers, by seat -/
def i2 (a : Addr) (c : Bool → Nat) : Res := pt a (.lst [.int (c true : Int), .int (c false : Int)])
section
variable {K : PySem.W.Frag} {H H' : Hp} {Q : VK} {E : XK} {A X : Res} {p q a : Addr} {z : Bool} {c : Bool → Nat} {v x : V} {d : PyData} {ds : List PyData} {vs : List V}
theorem Hd.dvA (h : Hd (FL.dvA K vs ds ^ X) H) : DpAll K H vs ds := by obtain ⟨F, F1, F2, ⟨_, _, e⟩, _⟩ := h; exact e
theorem Hd.addA (h : Hd X H) (e : DpAll K H vs ds) (n : noLs ds = true) : Hd (FL.dvA K vs ds ^ X) H := by
  obtain ⟨F, h⟩ := h
  exact ⟨F, fun _ => False, F, ⟨fun _ z => z, n, e⟩, h, fun x z => z.elim, fun x => ⟨.inr, fun z => z.resolve_left id⟩⟩
theorem Hd.i2p (h : Hd (FL.i2 p c ^ X) H) : Hd (FL.pt p (.lst [.int (c true : Int), .int (c false : Int)]) ^ X) H := h
theorem s_i2 (h : Hd (i2 p c ^ X) H) (k : Q (.int (c z : Int)) H) : rIx K (.ref p) (.int (ixZ z)) H Q := w_ixL k (SqL.of h.i2p.pt) (ix_at (f := fun b => V.int (c b : Int)) z)
theorem s_getI2 (h : Hd (i2 p c ^ X) H) (k : Q (.int (c z : Int)) H) : rGetL K (.ref p) (.int (ixZ z)) H Q := by
  cases z
  · exact ⟨p, _, 1, _, rfl, rfl, SqL.of h.i2p.pt, by decide, rfl, k⟩
  · exact ⟨p, _, 0, _, rfl, rfl, SqL.of h.i2p.pt, by decide, rfl, k⟩
theorem s_getI2' (h : Hd (i2 p c ^ X) H) (k : Q (.int (c (!z) : Int)) H) : rGetL K (.ref p) (.int (1 - ixZ z)) H Q := by
  have e : (1 - ixZ z : Int) = ixZ (!z) := by cases z <;> rfl
  rw [e]; exact s_getI2 h k
theorem s_setI2 {n : Nat} {R : Hp → Prop} (h : Hd (i2 p c ^ X) H) (k : ∀ H', TK H H' → Hd (i2 p (bset c z n) ^ X) H' → R H') : rSetL (.ref p) (.int (ixZ z)) (.int (n : Int)) H R := by
  cases z
  · refine w_setL (n := 1) h.i2p.pt rfl (k _ h.i2p.tkL ?_)
    exact h.i2p.putP
  · refine w_setL (n := 0) h.i2p.pt rfl (k _ h.i2p.tkL ?_)
    exact h.i2p.putP
theorem s_setI2' {n : Nat} {R : Hp → Prop} (h : Hd (i2 p c ^ X) H) (k : ∀ H', TK H H' → Hd (i2 p (bset c (!z) n) ^ X) H' → R H') : rSetL (.ref p) (.int (1 - ixZ z)) (.int (n : Int)) H R := by
  have e : (1 - ixZ z : Int) = ixZ (!z) := by cases z <;> rfl
  rw [e]; exact s_setI2 h k
/-- an item of a list of data -/
theorem s_ixD {i : Int} {n : Nat} (h : Hd (ls K p ds ^ X) H) (hi : i = (n : Int)) (hd : ds[n]? = some d) (k : ∀ x, Hd (dv K x d ^ ls K p ds ^ X) H → Q x H) : rIx K (.ref p) (.int i) H Q := by
  obtain ⟨xs, e, dd⟩ := h.ls
  have nn := h.lsn
  have hl := dps_len dd
  subst hi
  have hn := (List.getElem?_eq_some_iff.mp hd).1
  have hx : xs[n]? = some xs[n] := List.getElem?_eq_getElem (by omega)
  obtain ⟨d', h1, h2⟩ := dps_get dd hx
  rw [hd] at h1; cases h1
  have nd : noL d = true := by
    have : ∀ {l : List PyData}, noLs l = true → ∀ x ∈ l, noL x = true := by
      intro l; induction l with
      | nil => intro _ x hx; exact (List.not_mem_nil hx).elim
      | cons y l ih =>
        intro hl x hx
        rw [noLs, Bool.and_eq_true] at hl
        rcases List.mem_cons.mp hx with rfl | hx
        · exact hl.1
        · exact ih hl.2 x hx
    exact this nn d (List.mem_of_getElem? hd)
  exact w_ixL (k xs[n] (h.addD h2 nd)) (SqL.of e) (atI_nat hx)
theorem Hd.roD {b : Addr} {R : Bool → List PyData} (h : Hd (roR K b R ^ X) H) : Dp K H (.ref b) (.list [.list (R true), .list (R false)]) := by
  obtain ⟨r, h⟩ := h.ro true
  exact .lst (SqL.of h.pt) (.cons (Hd.lsd (hp1 h)) (.cons (Hd.lsd (hp2 h)) .nil))
end
section
variable (K : PySem.W.Frag)
def sp_plain_story : Sp := fun vs H Q _ => ∃ l a es, ∃ X : Res, ∃ Z, vs = [.str (ofL l), .ref a] ∧ okL l = true ∧ l.length ≤ 1000 ∧ Hd (ls K a (es.map Ev.d) ^ X) H ∧ (∀ e ∈ es, e.okc = true) ∧ es.length ≤ 100 ∧ fin (Yd.new l) es = some Z ∧
  ∀ q H', Hd (ls K q ((plainOf es).map Ev.d) ^ ls K a (es.map Ev.d) ^ X) H' → Q (.ref q) H'
def sp__law_may_change : Sp := fun vs H Q _ => ∃ a es, ∃ k : Nat, ∃ X : Res, vs = [.ref a, .int (k : Int)] ∧ Hd (ls K a (es.map Ev.d) ^ X) H ∧ k + 1 < es.length ∧ es.length ≤ 1000 ∧ ∀ H', Hd (ls K a (es.map Ev.d) ^ X) H' → Q (.bl (mayC es k)) H'
/-- a seat's own events with the lines behind them, as data -/
def ownD (z : Bool) (l : Ln) (es : List Ev) : List PyData := (own z (Yd.new l) es).map fun p => .tuple [p.1.d, .str (ofL p.2)]
namespace K82
def sp__law_own : Sp := fun vs H Q _ => ∃ l a es z, ∃ X : Res, ∃ Z, vs = [.str (ofL l), .ref a, .int (ixZ z)] ∧ okL l = true ∧ l.length ≤ 1000 ∧ Hd (ls K a (es.map Ev.d) ^ X) H ∧ (∀ e ∈ es, e.okc = true) ∧ es.length ≤ 1000 ∧ fin (Yd.new l) es = some Z ∧
  ∀ q H', Hd (ls K q (ownD z l es) ^ ls K a (es.map Ev.d) ^ X) H' → Q (.ref q) H'
def sp__law_right : Sp := fun vs H Q _ => ∃ l a es, ∃ X : Res, ∃ Z, vs = [.str (ofL l), .ref a] ∧ okL l = true ∧ l.length ≤ 1000 ∧ Hd (ls K a (es.map Ev.d) ^ X) H ∧ (∀ e ∈ es, e.okc = true) ∧ es.length ≤ 100 ∧ fin (Yd.new l) es = some Z ∧
  ∀ H', Hd (ls K a (es.map Ev.d) ^ X) H' → Q (.bl true) H'
def sp_law : Sp := fun vs H Q _ => ∃ (a : Addr) (ns : List Int), vs = [.ref a] ∧ SqL K H a (ns.map V.int) ∧ ns.length ≤ 63 ∧ ∀ H', Q (.bl true) H'
end K82
end
end FL

namespace FL
open PySem PySem.Spec PyProof.Rows L2 CwR
abbrev N_is_story : List Str := ["line", "thing"]
def t_is_story (K : PySem.W.Frag) : TS := (tRet (tOp rIsNot (tCall (sp_lines_behind K) [] E0 (tCons (tVar 0) (tCons (tVar 1) tNil))) (tC .non)))
abbrev N_plain_story : List Str := ["line", "story", "left", "event", "seat", "roads", "found", "least", "row"]
def t_plain_story (K : PySem.W.Frag) : TS := (tSeq (tIfS (tNot (tB (tCall (sp_is_story K) [] E0 (tCons (tVar 0) (tCons (tVar 1) tNil))))) tNever tNext) (tSeq (tAsg (tLc (iRng1 (tCons (tC (.int 2)) tNil)) (gName 4) tYes (tLc (iList K (tVar 1)) (gName 3) (tTest (tOp (rEqU K) (tOp (rIx K) (tVar 3) (tC (.int 1))) (tVar 4))) (tVar 3) [3]) [4]) (gName 2)) (tSeq (tAsg (tLst (tCons (tC (.int 0)) (tCons (tC (.int 0)) tNil))) (gName 5)) (tSeq (tAsg (tLst tNil) (gName 6)) (tSeq (tWhile (tTest (tOp (rNeU K) (tVar 2) (tLst (tCons (tLst tNil) (tCons (tLst tNil) tNil))))) (tSeq (tAsg (tCB (rMinD K) (tCons (tLc (iList K (tVar 2)) (gName 8) (tAnd (tTest (tOp (rNeU K) (tVar 8) (tLst tNil))) (tOr (tTest (tOp (rEqU K) (tOp (rIx K) (tOp (rIx K) (tVar 8) (tC (.int 0))) (tC (.int 0))) (tC (.str "make")))) (tTest (tOp rGtU (tOp (rIx K) (tVar 5) (tOp (rIx K) (tOp (rIx K) (tVar 8) (tC (.int 0))) (tC (.int 1)))) (tC (.int 0)))))) (tOp (rIx K) (tVar 8) (tC (.int 0))) [8]) tNil)) (gName 7)) (tSeq (tAsg (tOp (rIx K) (tVar 7) (tC (.int 1))) (gName 4)) (tSeq (tIfS (tTest (tOp (rEqU K) (tOp (rIx K) (tVar 7) (tC (.int 0))) (tC (.str "make")))) (tAugS (tVar 5) (tOp rSubU (tC (.int 1)) (tVar 4)) (tC (.int 1)) (rGetL K) (ipI fun i j => i + j) rSetL) (tAugS (tVar 5) (tVar 4) (tC (.int 1)) (rGetL K) (ipI fun i j => i - j) rSetL)) (tSeq (tDrop (tBM K "list" rPopAt (tOp (rIx K) (tVar 2) (tVar 4)) (tCons (tC (.int 0)) tNil))) (tDrop (tBM K "list" rAppend (tVar 6) (tCons (tVar 7) tNil)))))))) (tRet (tVar 6)))))))
abbrev N__law_may_change : List Str := ["story", "k", "first", "second", "there", "event"]
def t__law_may_change (K : PySem.W.Frag) : TS := (tSeq (tPar 2 3 (tCons (tOp (rIx K) (tVar 0) (tVar 1)) (tCons (tOp (rIx K) (tVar 0) (tOp (rAddU K) (tVar 1) (tC (.int 1)))) tNil))) (tSeq (tIfS (tTest (tOp (rEqU K) (tOp (rIx K) (tVar 2) (tC (.int 1))) (tOp (rIx K) (tVar 3) (tC (.int 1))))) (tRet (tC (.bl false))) tNext) (tSeq (tIfS (tOr (tTest (tOp (rEqU K) (tOp (rIx K) (tVar 2) (tC (.int 0))) (tC (.str "come")))) (tTest (tOp (rEqU K) (tOp (rIx K) (tVar 3) (tC (.int 0))) (tC (.str "make"))))) (tRet (tC (.bl true))) tNext) (tSeq (tAsg (tC (.int 0)) (gName 4)) (tSeq (tFor (iList K (tSl (rSlU K) (tVar 0) tNoPart (tPart (tVar 1)))) (gName 5) (tSeq (tAsg (tOp (rAddU K) (tVar 4) (tCB rIntU (tCons (tAndV (tOp (rEqU K) (tOp (rIx K) (tVar 5) (tC (.int 0))) (tC (.str "make"))) (tOp (rEqU K) (tOp (rIx K) (tVar 5) (tC (.int 1))) (tOp (rIx K) (tVar 2) (tC (.int 1))))) tNil))) (gName 4)) (tAsg (tOp rSubU (tVar 4) (tCB rIntU (tCons (tAndV (tOp (rEqU K) (tOp (rIx K) (tVar 5) (tC (.int 0))) (tC (.str "come"))) (tOp (rEqU K) (tOp (rIx K) (tVar 5) (tC (.int 1))) (tOp (rIx K) (tVar 3) (tC (.int 1))))) tNil))) (gName 4)))) (tRet (tOp rGtU (tVar 4) (tC (.int 0)))))))))
namespace K82
abbrev N__law_own : List Str := ["line", "story", "at", "told", "found", "k", "event"]
def t__law_own (K : PySem.W.Frag) : TS := (tSeq (tAsg (tCall (sp_lines_of K) [] E0 (tCons (tVar 0) (tCons (tVar 1) (tCons (tVar 2) tNil)))) (gName 3)) (tSeq (tAsg (tLst tNil) (gName 4)) (tSeq (tFor (iEnum K (tCons (tVar 1) tNil)) (gTup K 2 (gCons (gName 5) (gCons (gName 6) gNil))) (tIfS (tTest (tOp (rEqU K) (tOp (rIx K) (tVar 6) (tC (.int 1))) (tVar 2))) (tDrop (tBM K "list" rAppend (tVar 4) (tCons (tTup (tCons (tVar 6) (tCons (tOp (rIx K) (tVar 3) (tOp (rAddU K) (tVar 5) (tC (.int 1)))) tNil))) tNil))) (tIfS (tTest (tOp (rNeU K) (tOp (rIx K) (tVar 3) (tOp (rAddU K) (tVar 5) (tC (.int 1)))) (tOp (rIx K) (tVar 3) (tVar 5)))) (tRet (tC .non)) tNext))) (tRet (tVar 4)))))
abbrev N__law_right : List Str := ["line", "story", "plain", "at", "due", "k"]
def t__law_right (K : PySem.W.Frag) : TS := (tSeq (tAsg (tCall (sp_plain_story K) [] E0 (tCons (tVar 0) (tCons (tVar 1) tNil))) (gName 2)) (tSeq (tIfS (tOr (tNot (tB (tCall (sp_is_story K) [] E0 (tCons (tVar 0) (tCons (tVar 2) tNil))))) (tOr (tTest (tOp (rNeU K) (tCall (sp_plain_story K) [] E0 (tCons (tVar 0) (tCons (tVar 2) tNil))) (tVar 2))) (tTest (tOp (rLtD K) (tVar 1) (tVar 2))))) (tRet (tC (.bl false))) tNext) (tSeq (tFor (iRng1 (tCons (tC (.int 2)) tNil)) (gName 3) (tSeq (tAsg (tCall (sp__law_own K) [] E0 (tCons (tVar 0) (tCons (tVar 1) (tCons (tVar 3) tNil)))) (gName 4)) (tIfS (tOr (tTest (tOp rIs (tVar 4) (tC .non))) (tTest (tOp (rNeU K) (tCall (sp__law_own K) [] E0 (tCons (tVar 0) (tCons (tVar 2) (tCons (tVar 3) tNil)))) (tVar 4)))) (tRet (tC (.bl false))) tNext))) (tSeq (tFor (iRng1 (tCons (tOp rSubU (tCB (rLenU K) (tCons (tVar 2) tNil)) (tC (.int 1))) tNil)) (gName 5) (tIfS (tAnd (tB (tCall (sp__law_may_change K) [] E0 (tCons (tVar 2) (tCons (tVar 5) tNil)))) (tTest (tOp (rLtD K) (tOp (rIx K) (tVar 2) (tOp (rAddU K) (tVar 5) (tC (.int 1)))) (tOp (rIx K) (tVar 2) (tVar 5))))) (tRet (tC (.bl false))) tNext)) (tRet (tOp (rEqU K) (tCB (rLenU K) (tCons (tVar 2) tNil)) (tCB (rLenU K) (tCons (tVar 1) tNil))))))))
abbrev N_law : List Str := ["script", "draws", "many", "line"]
def t_law (K : PySem.W.Frag) : TS := (tSeq (tAsg (tCall (sp__law_draws K) [] E0 (tCons (tVar 0) tNil)) (gName 1)) (tSeq (tAsg (tC (.int 0)) (gName 2)) (tSeq (tWhile (tOr (tTest (tOp rLtU (tVar 2) (tC (.int 1)))) (tAnd (tTest (tOp (rNeU K) (tVar 1) (tLst tNil))) (tTest (tOp rLtU (tVar 2) (tC (.int 4)))))) (tSeq (tAsg (tCall (sp__law_line K) [] E0 (tCons (tVar 1) tNil)) (gName 3)) (tSeq (tIfS (tNot (tB (tCall (sp__law_right K) [] E0 (tCons (tVar 3) (tCons (tCall (sp__law_story K) [] E0 (tCons (tVar 1) (tCons (tVar 3) (tCons (tOp (rIx K) (tLst (tCons (tCall (sp__law_take K) [] E0 (tCons (tVar 1) (tCons (tC (.int 9)) tNil))) (tCons (tC (.int 8)) tNil))) (tCall (sp__law_take K) [] E0 (tCons (tVar 1) (tCons (tC (.int 2)) tNil)))) tNil)))) tNil))))) (tRet (tC (.bl false))) tNext) (tAsg (tOp (rAddU K) (tVar 2) (tC (.int 1))) (gName 2))))) (tRet (tC (.bl true))))))
end K82
end FL

namespace FL
open PySem PySem.Spec PyProof.Rows L2 CwR TL
local macro_rules | `(tactic| walk_at "tls") => `(tactic| (simp only [TL.tl_append, TL.tl_num, tl_ofL, tl_sgn, tl_empty, List.nil_append, List.append_nil, List.cons_append, List.append_assoc]))
local macro_rules | `(tactic| walk_at "szt") => `(tactic| (simp only [len_ofL, TL.len_tl, TL.tl_append, TL.tl_num, tl_ofL, tl_sgn, tl_empty, List.length_append, List.length_cons, List.length_nil]; omega))
local macro_rules | `(tactic| walk_at "beta") => `(tactic| (try dsimp only [List.set_cons_zero, List.set_cons_succ]))
local macro_rules | `(tactic| walk_at "sq") => `(tactic| first | assumption | exact SqL.of upd_same | exact SqT.of upd_same | exact SqL.of (by assumption) | exact SqT.of (by assumption) | ((with_reducible refine' sq_updI ?h ?s); (case h => walk_at "lk"); (case s => walk_at "sq")) | ((with_reducible refine' sq_updL ?h ?s); (case h => walk_at "lk"); (case s => walk_at "sq")) | ((with_reducible refine' sq_new ?h ?s); (case h => assumption); (case s => walk_at "sq")) | exact SqL.of (by walk_at "lk"))
local macro_rules | `(tactic| walk_at "lk") => `(tactic| first | assumption | exact upd_same | (refine Eq.trans (upd_ne (by assumption)) ?_; walk_at "lk"))
local macro_rules | `(tactic| walk_at "fl") => `(tactic| first | with_reducible exact l_text | with_reducible exact l_ahead | with_reducible exact l_made | with_reducible exact l_taken | with_reducible exact l_heard | with_reducible exact l_wait | with_reducible exact l_own | with_reducible exact l_far | exact l_no (by decide +kernel) | exact two_l1 | exact two_l2 (by decide +kernel) | exact two_no (by decide +kernel) (by decide +kernel))
local macro_rules | `(tactic| walk_at "pl") => `(tactic| first | with_reducible exact p_text | with_reducible exact p_made | with_reducible exact p_taken | with_reducible exact p_heard | with_reducible exact p_wait | with_reducible exact p_own | with_reducible exact p_far | with_reducible exact i_1 | with_reducible exact i_2 | with_reducible exact i_3 | with_reducible exact i_4 | with_reducible exact i_5 | with_reducible exact i_6 | with_reducible exact i_7 | with_reducible exact i_8 | exact ⟨put_past (by decide +kernel), Nat.le_of_ble_eq_true rfl⟩ | exact ⟨rfl, Nat.le_of_ble_eq_true rfl⟩)
local macro_rules | `(tactic| walk_at "wp1") => `(tactic| first
  | with_reducible refine w_seq ?_
  | with_reducible refine w_set ?_
  | ((with_reducible refine' w_var ?e ?k); (case e => exact rfl))
  | with_reducible refine w_c ?_
  | with_reducible refine w_op ?_
  | with_reducible refine w_ret ?_
  | with_reducible refine w_if ?_
  | with_reducible refine w_test ?_
  | with_reducible refine w_bl ?_
  | with_reducible refine w_cons ?_
  | with_reducible refine w_nil ?_
  | with_reducible refine w_call ?_
  | with_reducible refine w_cb ?_
  | with_reducible refine w_next ?_
  | with_reducible refine w_drop ?_
  | with_reducible refine w_asg ?_
  | with_reducible refine w_and ?_
  | with_reducible refine w_or ?_
  | with_reducible refine w_not ?_
  | with_reducible refine w_ifE ?_
  | with_reducible refine w_tB ?_
  | with_reducible refine iteT ?_
  | with_reducible refine iteF ?_
  | with_reducible refine w_addI ?_
  | with_reducible refine w_subI ?_
  | with_reducible refine w_ltI ?_
  | with_reducible refine w_leI ?_
  | with_reducible refine w_gtI ?_
  | with_reducible refine w_geI ?_
  | with_reducible refine w_eqI ?_
  | with_reducible refine w_neI ?_
  | with_reducible refine w_eqS ?_
  | with_reducible refine w_neS ?_
  | with_reducible refine w_is ?_
  | with_reducible refine w_isNot ?_
  | with_reducible refine w_intI ?_
  | with_reducible refine w_intB ?_
  | with_reducible refine w_inC ?_
  | with_reducible refine w_niC ?_
  | ((with_reducible refine' w_ixL ?k ?h ?x); (case h => walk_at "sq"); (case x => rfl))
  | ((with_reducible refine' w_ixT ?k ?h ?x); (case h => walk_at "sq"); (case x => rfl))
  | ((with_reducible refine w_modI ?k ?c); (case c => first | omega | with_reducible assumption | decide))
  | ((with_reducible refine w_divI ?k ?c); (case c => exact ⟨by omega, by omega⟩))
  | ((with_reducible refine w_mulI ?k ?c); (case c => first | exact .inl ⟨by omega, by omega⟩ | exact .inr ⟨by omega, by omega⟩))
  | ((with_reducible refine w_powI ?k ?c); (case c => exact ⟨by decide, by decide, by decide⟩))
  | ((with_reducible refine' w_lenL ?k ?h); (case h => walk_at "sq"))
  | ((with_reducible refine' w_lenT ?k ?h); (case h => walk_at "sq"))
  | ((with_reducible refine w_len ?h ?k); (case h => exact Nat.le_of_ble_eq_true rfl))
  | ((with_reducible refine w_decTS ?h ?k); (case h => exact rfl))
  | ((with_reducible refine w_decFS ?h ?k); (case h => decide +kernel))
  | ((with_reducible refine w_ndecTS ?h ?k); (case h => exact rfl))
  | ((with_reducible refine w_ndecFS ?h ?k); (case h => decide +kernel))
  | ((with_reducible refine w_sz ?h ?k); (case h => walk_at "szt"))
  | ((with_reducible refine w_addS' ?k ?h); (case h => walk_at "szt"))
  | ((with_reducible refine w_strI' ?k ?h); (case h => omega))
  | ((with_reducible refine w_fmtN (A := True) ?h ?k); (case h => omega))
  | with_reducible refine w_chain ?_
  | with_reducible refine w_for ?_
  | with_reducible refine w_lc ?_
  | ((with_reducible refine w_rng ?h ?k); (case h => exact ⟨by omega, by omega⟩))
  | with_reducible refine w_iStr ?_
  | with_reducible refine w_iList ?_
  | with_reducible refine w_iRng1 ?_
  | with_reducible refine w_exR ?_
  | ((with_reducible refine' w_exSqL ?h ?k); (case h => walk_at "sq"))
  | ((with_reducible refine w_lenS ?k ?h); (case h => refine Nat.le_trans ?_ (by decide : 1000000 ≤ sizeLine); walk_at "szt"))
  | ((with_reducible refine w_slS ?k ?h); (case h => refine Nat.le_trans ?_ (by decide : 1000000 ≤ sizeLine); walk_at "szt"))
  | with_reducible refine w_nT ?_
  | with_reducible refine w_nF ?_
  | with_reducible refine w_un ?_
  | with_reducible refine w_negI ?_
  | with_reducible refine w_bm ?_
  | with_reducible refine w_bm0 ?_
  | ((with_reducible refine' w_tyL ?h ?k); (case h => walk_at "sq"))
  | ((with_reducible refine' w_append ?p ?l ?k); (case p => walk_at "lk"); (case l => first | exact Nat.le_of_ble_eq_true rfl | omega))
  | with_reducible refine w_gsub ?_
  | with_reducible refine w_gname ?_
  | ((with_reducible refine' w_set4_0 ?p ?k); (case p => walk_at "lk"))
  | ((with_reducible refine' w_set4_1 ?p ?k); (case p => walk_at "lk"))
  | ((with_reducible refine' w_set4_2 ?p ?k); (case p => walk_at "lk"))
  | ((with_reducible refine' w_set4_3 ?p ?k); (case p => walk_at "lk"))
  | ((with_reducible refine' w_setL ?p ?i ?k); (case p => walk_at "lk"); (case i => exact rfl))
  | with_reducible refine w_tup ?_
  | with_reducible refine w_lst ?_
  | with_reducible refine w_sl ?_
  | with_reducible refine w_noPart ?_
  | with_reducible refine w_part ?_
  | with_reducible refine w_exI ?_
  | with_reducible refine w_exS ?_
  | with_reducible refine w_join ?_
  | with_reducible refine w_split ?_
  | with_reducible refine w_isS ?_
  | with_reducible refine w_joined ?_
  | with_reducible refine w_jsNil ?_
  | with_reducible refine w_jsCons ?_
  | with_reducible refine w_fmt ?_
  | with_reducible refine w_fmtI ?_
  | with_reducible refine w_repl ?_
  | with_reducible refine w_andV ?_
  | with_reducible refine w_orV ?_
  | with_reducible refine w_notV ?_
  | with_reducible refine w_retN ?_
  | with_reducible refine w_brk ?_
  | with_reducible refine w_cont ?_
  | ((with_reducible refine' w_yes (p := ((List.length (_ : List V) : Nat) : Int) = _) ?h ?k); (case h => exact of_decide_eq_true rfl))
  | ((with_reducible refine' w_yes (p := ((List.length (_ : List V) : Nat) : Int) < _) ?h ?k); (case h => exact of_decide_eq_true rfl))
  | ((with_reducible refine' w_yes (p := _ < ((List.length (_ : List V) : Nat) : Int)) ?h ?k); (case h => exact of_decide_eq_true rfl))
  | ((with_reducible refine' w_yes (p := _ = ((List.length (_ : List V) : Nat) : Int)) ?h ?k); (case h => exact of_decide_eq_true rfl))
  | ((with_reducible refine' w_yes (p := ((Str.length (sgn _) : Nat) : Int) = _) ?h ?k); (case h => exact of_decide_eq_true rfl))
  | ((with_reducible refine' w_no (p := ((List.length (_ : List V) : Nat) : Int) = _) ?h ?k); (case h => exact of_decide_eq_false rfl))
  | ((with_reducible refine' w_no (p := ((List.length (_ : List V) : Nat) : Int) < _) ?h ?k); (case h => exact of_decide_eq_false rfl))
  | ((with_reducible refine' w_no (p := _ < ((List.length (_ : List V) : Nat) : Int)) ?h ?k); (case h => exact of_decide_eq_false rfl))
  | ((with_reducible refine' w_no (p := _ = ((List.length (_ : List V) : Nat) : Int)) ?h ?k); (case h => exact of_decide_eq_false rfl))
  | ((with_reducible refine' w_no (p := ((Str.length (sgn _) : Nat) : Int) = _) ?h ?k); (case h => exact of_decide_eq_false rfl))
  | ((with_reducible refine' w_nyes (p := ((List.length (_ : List V) : Nat) : Int) = _) ?h ?k); (case h => exact of_decide_eq_true rfl))
  | ((with_reducible refine' w_nyes (p := ((List.length (_ : List V) : Nat) : Int) < _) ?h ?k); (case h => exact of_decide_eq_true rfl))
  | ((with_reducible refine' w_nyes (p := _ < ((List.length (_ : List V) : Nat) : Int)) ?h ?k); (case h => exact of_decide_eq_true rfl))
  | ((with_reducible refine' w_nyes (p := _ = ((List.length (_ : List V) : Nat) : Int)) ?h ?k); (case h => exact of_decide_eq_true rfl))
  | ((with_reducible refine' w_nyes (p := ((Str.length (sgn _) : Nat) : Int) = _) ?h ?k); (case h => exact of_decide_eq_true rfl))
  | ((with_reducible refine' w_nno (p := ((List.length (_ : List V) : Nat) : Int) = _) ?h ?k); (case h => exact of_decide_eq_false rfl))
  | ((with_reducible refine' w_nno (p := ((List.length (_ : List V) : Nat) : Int) < _) ?h ?k); (case h => exact of_decide_eq_false rfl))
  | ((with_reducible refine' w_nno (p := _ < ((List.length (_ : List V) : Nat) : Int)) ?h ?k); (case h => exact of_decide_eq_false rfl))
  | ((with_reducible refine' w_nno (p := _ = ((List.length (_ : List V) : Nat) : Int)) ?h ?k); (case h => exact of_decide_eq_false rfl))
  | ((with_reducible refine' w_nno (p := ((Str.length (sgn _) : Nat) : Int) = _) ?h ?k); (case h => exact of_decide_eq_false rfl))
  | ((with_reducible refine' w_no (p := (V.ref _ = V.non)) ?h ?k); (case h => intro z9; cases z9))
  | ((with_reducible refine' w_yes (p := (V.non = V.non)) ?h ?k); (case h => rfl))
  | with_reducible refine w_fldC ?_
  | with_reducible refine w_make ?_
  | ((with_reducible refine' w_fldR ?h ?l ?k); (case h => walk_at "lk"); (case l => walk_at "fl"))
  | with_reducible refine w_sfldC ?_
  | ((with_reducible refine' w_sfldR ?h ?l ?k); (case h => walk_at "lk"); (case l => walk_at "pl"))
  | ((with_reducible refine' w_sfldR2 ?h ?l ?k); (case h => walk_at "lk"); (case l => first | exact p_len | exact Nat.le_of_ble_eq_true rfl); (first | rw [p_far.1] | rw [p_text.1] | rw [p_own.1] | rw [p_wait.1] | rw [p_heard.1] | rw [p_made.1] | rw [p_taken.1]))
  | with_reducible refine w_sfldaugC ?_
  | with_reducible refine w_addR ?_
  | with_reducible refine w_subR ?_
  | ((with_reducible refine' w_sfldQ ?h ?l ?k); (case h => walk_at "lk"); (case l => walk_at "pl"))
  | with_reducible refine w_meth ?_
  | ((with_reducible refine' w_methR ?h ?l ?k); (case h => walk_at "lk"); (case l => walk_at "fl"))
  | with_reducible refine w_kget ?_
  | ((with_reducible refine' w_gtup ?h ?l ?k); (case h => walk_at "sq"); (case l => exact rfl))
  | with_reducible refine w_gcons ?_
  | with_reducible refine w_gnil ?_
  | with_reducible refine w_isiII ?_
  | with_reducible refine w_isiIB ?_
  | with_reducible refine w_isiSS ?_
  | ((with_reducible refine' w_isiTT ?h ?k); (case h => walk_at "sq"))
  | ((with_reducible refine' w_isiLL ?h ?k); (case h => walk_at "sq"))
  | with_reducible refine w_ipI ?_
  | with_reducible refine w_par ?_
  | with_reducible refine w_par3 ?_
  | with_reducible refine w_parR ?_
  | with_reducible refine w_parR3 ?_
  | with_reducible refine w_aug ?_
  | ((with_reducible refine' w_var2 ?e ?k); (case e => exact rfl))
  | ((with_reducible refine' w_insL ?p ?l ?k); (case p => walk_at "lk"); (case l => first | omega | decide))
  | rw [kg_put]
  | rw [kg_cut]
  | rw [kg_non])
local macro_rules | `(tactic| walk_at "wp") => `(tactic| ((try dsimp only); (repeat walk_at "wp1"); (walk_at "beta")))
local macro_rules | `(tactic| walk_at "as") => `(tactic| with_reducible assumption)
local macro_rules | `(tactic| walk_at "sl") => `(tactic| (with_reducible refine' hd_eq ?h ?e; (case h => with_reducible assumption); (case e => walk_at "rp")))
local macro_rules | `(tactic| walk_at "rp") => `(tactic| first
  | with_reducible exact rfl
  | with_reducible exact rp1
  | with_reducible exact rp2
  | with_reducible exact rp3
  | with_reducible exact rp4
  | with_reducible exact rp5
  | with_reducible exact rp6
  | with_reducible exact rp7
  | with_reducible exact rp8
  | with_reducible exact rp9
  | with_reducible exact rp10
  | with_reducible exact rp11
  | with_reducible exact rp12
  | with_reducible exact rp13)
local macro_rules | `(tactic| walk_at "sl2") => `(tactic| (with_reducible refine' hd_q ?h ?e; (case h => walk_at "sl"); (case e => walk_at "rp")))
local macro_rules | `(tactic| walk_at "sl3") => `(tactic| (with_reducible refine' hd_q3 ?h ?e ?e2; (case h => walk_at "sl"); (case e => walk_at "rp"); (case e2 => walk_at "rp")))
local macro_rules | `(tactic| walk_at "sl4") => `(tactic| (with_reducible refine' hd_q4 ?h ?e ?e2 ?e3; (case h => walk_at "sl"); (case e => walk_at "rp"); (case e2 => walk_at "rp"); (case e3 => walk_at "rp")))
local macro_rules | `(tactic| walk_at "fs") => `(tactic| first
  | with_reducible exact sub_refl
  | with_reducible exact sub_emp
  | (with_reducible refine sub_keep ?_; walk_at "fs")
  | (with_reducible refine sub_eq rp1 (sub_keep ?_); walk_at "fs")
  | (with_reducible refine sub_eq rp2 (sub_keep ?_); walk_at "fs")
  | (with_reducible refine sub_eq rp3 (sub_keep ?_); walk_at "fs")
  | (with_reducible refine sub_eq rp4 (sub_keep ?_); walk_at "fs")
  | (with_reducible refine sub_eq rp5 (sub_keep ?_); walk_at "fs")
  | (with_reducible refine sub_eq rp6 (sub_keep ?_); walk_at "fs")
  | (with_reducible refine sub_eq rp7 (sub_keep ?_); walk_at "fs")
  | (with_reducible refine sub_eq rp8 (sub_keep ?_); walk_at "fs")
  | (with_reducible refine sub_eq rp9 (sub_keep ?_); walk_at "fs")
  | (with_reducible refine sub_eq rp10 (sub_keep ?_); walk_at "fs")
  | (with_reducible refine sub_eq rp11 (sub_keep ?_); walk_at "fs")
  | (with_reducible refine sub_eq rp12 (sub_keep ?_); walk_at "fs")
  | (with_reducible refine sub_eq rp13 (sub_keep ?_); walk_at "fs")
  | (with_reducible refine sub_drop ?_; walk_at "fs"))
local macro_rules | `(tactic| walk_at "fin") => `(tactic| first
  | with_reducible assumption
  | ((with_reducible refine' Hd.sub ?h ?s); (case h => with_reducible assumption); (case s => walk_at "fs")))
local macro_rules | `(tactic| walk_at "sq") => `(tactic| first | ((with_reducible refine' Hd.tp ?h); (case h => walk_at "sl")) | ((with_reducible refine' Hd.tqT ?h); (case h => walk_at "sl")) | ((with_reducible refine' Hd.fz ?h); (case h => walk_at "sl")) | ((with_reducible refine' SqL.of (Hd.pt ?h)); (case h => walk_at "sl")) | ((with_reducible refine' Hd.lsxq ?h); (case h => walk_at "sl")))
local macro_rules | `(tactic| walk_at "lk") => `(tactic| first | ((with_reducible refine' Hd.pt ?h); (case h => walk_at "sl")) | ((with_reducible refine' Hd.tq ?h); (case h => walk_at "sl")))
local macro_rules | `(tactic| walk_at "dp") => `(tactic| first | ((with_reducible refine' Hd.dv ?h); (case h => walk_at "sl")) | ((with_reducible refine' Hd.lsd ?h); (case h => walk_at "sl")) | with_reducible assumption | with_reducible exact .int _ | with_reducible exact .str _ | with_reducible exact .bl _ | with_reducible exact .non)
local macro_rules | `(tactic| walk_at "wp1") => `(tactic| first
  | with_reducible refine w_tupS ?_
  | with_reducible refine w_lstS ?_
  | with_reducible refine w_fldS ?_
  | with_reducible refine w_sfldS ?_
  | with_reducible refine w_methS ?_
  | with_reducible refine w_makeS ?_
  | ((with_reducible refine' w_sfldaugQ ?e ?k); (case e => exact rfl))
  | ((with_reducible refine' s_tup ?h ?k); (case h => with_reducible assumption); (intro _ _ _ _))
  | ((with_reducible refine' s_lst ?h ?k); (case h => with_reducible assumption); (intro _ _ _ _ _))
  | ((with_reducible refine' s_gf ?h ?l ?k); (case h => walk_at "sl"); (case l => walk_at "fl"))
  | ((with_reducible refine' s_gm ?h ?l ?k); (case h => walk_at "sl"); (case l => walk_at "fl"))
  | ((with_reducible refine' s_sf ?h ?l ?k); (case h => walk_at "sl"); (case l => walk_at "pl"); (intro _ _ _))
  | ((with_reducible refine' s_sq ?h ?l ?k); (case h => walk_at "sl"); (case l => walk_at "pl"); (intro _ _ _))
  | ((with_reducible refine' s_append ?h ?l ?k); (case h => walk_at "sl"); (case l => first | exact Nat.le_of_ble_eq_true rfl | omega); (intro _ _ _))
  | ((with_reducible refine' s_pop0 ?h ?k); (case h => walk_at "sl"); (intro _ _ _))
  | ((with_reducible refine' s_set4_0 ?h ?k); (case h => walk_at "sl"); (intro _ _ _))
  | ((with_reducible refine' s_set4_1 ?h ?k); (case h => walk_at "sl"); (intro _ _ _))
  | ((with_reducible refine' s_set4_2 ?h ?k); (case h => walk_at "sl"); (intro _ _ _))
  | ((with_reducible refine' s_set4_3 ?h ?k); (case h => walk_at "sl"); (intro _ _ _))
  | ((with_reducible refine' s_setL ?h ?l ?k); (case h => walk_at "sl"); (case l => exact rfl); (intro _ _ _))
  | ((with_reducible refine' s_ixR ?h ?k); (case h => walk_at "sl"))
  | ((with_reducible refine' s_ixO ?h ?k); (case h => walk_at "sl"))
  | ((with_reducible refine' s_ixS0 ?h ?k); (case h => walk_at "sl"))
  | ((with_reducible refine' s_ixS1 ?h ?k); (case h => walk_at "sl"))
  | ((with_reducible refine' s_ixS2 ?h ?k); (case h => walk_at "sl"))
  | ((with_reducible refine' s_pop0D ?h ?k); (case h => walk_at "sl"); (intro _ _ _ _))
  | ((with_reducible refine' s_tyD ?h ?k); (case h => walk_at "sl"))
  | ((with_reducible refine' s_gmY ?h ?a ?b ?k); (case h => walk_at "sl"); (case a => decide +kernel); (case b => decide +kernel))
  | ((with_reducible refine' s_appendD ?h ?v ?n ?l ?k); (case h => walk_at "sl"); (case v => walk_at "dp"); (case n => first | with_reducible rfl | with_reducible exact noL_deed _ | with_reducible exact noL_letter _ | with_reducible exact noL_letter3 _ | with_reducible exact noL_ev _ | exact rfl); (case l => walk_at "le"); (intro _ _ _)))
local macro_rules | `(tactic| walk_at "le") => `(tactic| first | omega | (simp only [List.length_map, List.length_append, List.length_cons, List.length_nil]; omega))
section
variable {K : PySem.W.Frag} {vs : List V} {H H0 H' : Hp} {Q : VK} {E : XK} {X Z : Res}
theorem pr_is_story (h : sp_is_story K vs H Q E) : t_is_story K { nx := fun _ H' => Q .non H', rt := Q } (start N_is_story vs) H := by
  obtain ⟨l, v, es, rfl, hl, hll, hv, he, hel, k⟩ := h
  unfold t_is_story
  walk_at "wp"
  refine ⟨l, v, es, rfl, hl, hll, hv, he, hel, ?_⟩
  cases c : runs (Yd.new l) es with
  | none =>
    rw [c] at k
    intro H' s
    walk_at "wp"
    exact k _ s
  | some p =>
    rw [c] at k
    intro q xs H' s _ _ _
    walk_at "wp"
    exact k _ s
theorem flt_take {z : Bool} {es : List Ev} {j : Nat} {e : Ev} (h : es[j]? = some e) : flt z (es.take (j + 1)) = if e.z = z then flt z (es.take j) ++ [e] else flt z (es.take j) := by
  rw [take_snoc h, flt_app, flt_cons]
  split <;> simp [flt]
theorem dv_z {v : V} {e : Ev} (h : Dp K H v e.d) : ∃ a xs, v = .ref a ∧ SqT K H a xs ∧ atI xs 1 = some (.int (ixZ e.z)) := by
  cases e with
  | come z => obtain ⟨a, rfl, hs⟩ := dp_come h; exact ⟨a, _, rfl, hs, rfl⟩
  | make z d => obtain ⟨a, x, rfl, hs, hx⟩ := dp_make h; exact ⟨a, _, rfl, hs, rfl⟩
theorem w_N' {W : Nat → L2.St → Hp → Prop} {m : Nat} {R : (L2.St → Hp → Prop) → Prop} (h : R fun σ' H' => ∃ m', m' < m ∧ W m' σ' H') : ∃ N : L2.St → Hp → Prop, (∀ σ' H', N σ' H' → ∃ m', m' < m ∧ W m' σ' H') ∧ R N := ⟨_, fun _ _ z => z, h⟩
theorem w_augS {σ : L2.St} {D : Ends} {to ti te : TE} {tget : V → V → Hp → VK → Prop} {tip : TIp} {tset : TSet} (h : to σ H fun o H1 => ti σ H1 fun i H2 => tget o i H2 fun x H3 => te σ H3 fun y H4 => tip x y H4 fun z H5 => tset o i z H5 fun H6 => D.nx σ H6) : tAugS to ti te tget tip tset D σ H := h
/-- the events of one seat -/
theorem ps_inner {σ : L2.St} {z : Bool} {a : Addr} {es : List Ev} {ws : List V} (hw : ∀ x, wipe ((wipe σ [3]).set 3 (some x)) [3] = wipe σ [3]) (h4 : ∀ x, ((wipe σ [3]).set 3 (some x))[4]? = some (some (.int (ixZ z)))) (h3 : ∀ x, ((wipe σ [3]).set 3 (some x))[3]? = some (some x)) (hel : es.length ≤ 1000)
    (h : Hd (lsx K a ws (es.map Ev.d) ^ X) H) (k : ∀ p H', Hd (ls K p ((flt z es).map Ev.d) ^ lsx K a ws (es.map Ev.d) ^ X) H' → Q (.ref p) H') :
    LcB (Itl K a) (gName 3) (tTest (tOp (rEqU K) (tOp (rIx K) (tVar 3) (tC (.int 1))) (tVar 4))) (tVar 3) [3] σ Q H := by
  have hlen := dps_len h.lsx.2
  rw [List.length_map] at hlen
  refine lcs_Lt (xs := ws) (fun j zs => dvA K zs ((flt z (es.take j)).map Ev.d) ^ lsx K a ws (es.map Ev.d) ^ X) hw (h.addA .nil rfl) (fun i ys H1 Z h => (by
      have h' : Hd (lsx K a ws (es.map Ev.d) ^ dvA K ys ((flt z (es.take i)).map Ev.d) ^ X ^ Z) H1 := hd_eq h (by ac_rfl)
      exact h'.lsxq)) (by omega) (fun j x ys H1 T N Z hj hl h hT hN => ?_) (fun p ys H1 hl h => ?_)
  · have h' : Hd (lsx K a ws (es.map Ev.d) ^ dvA K ys ((flt z (es.take j)).map Ev.d) ^ X ^ Z) H1 := hd_eq h (by ac_rfl)
    obtain ⟨e, he, hx⟩ := dps_at h'.lsx.2 hj
    obtain ⟨b, xs, rfl, hs, h1⟩ := dv_z hx
    refine w_test (w_op (w_op (w_var (h3 _) (w_c (w_ixT ?_ hs h1)))))
    refine w_var (h4 _) (w_eqI (w_bl ?_))
    have hz : (ixZ e.z = ixZ z) ↔ e.z = z := by cases e.z <;> cases z <;> simp [ixZ]
    refine w_dec (fun c => ?_) fun c => ?_
    · refine w_var (h3 _) (hT _ _ ?_)
      rw [flt_take he, if_pos (hz.mp c), List.map_append]
      have ha := h'.tail.dvA
      have g2 : Hd (dvA K (ys ++ [.ref b]) ((flt z (es.take j)).map Ev.d ++ [e.d]) ^ lsx K a ws (es.map Ev.d) ^ dvA K ys ((flt z (es.take j)).map Ev.d) ^ X ^ Z) H1 := h'.addA (dps_app ha (.cons hx .nil)) (by rw [noLs_app, noLs_map noL_ev, noLs, noL_ev]; rfl)
      exact hd_eq (g2.sub (sub_keep (sub_keep (sub_drop sub_refl)))) (by rw [List.map_cons, List.map_nil]; ac_rfl)
    · refine hN _ ?_
      rw [flt_take he, if_neg (fun q => c (hz.mpr q))]
      exact h
  · rw [hlen, List.take_length] at h
    have d := h.tail.dvA
    have n : noLs ((flt z es).map Ev.d) = true := noLs_map noL_ev _
    exact k p H1 ((Hd.toL h d n).sub (sub_keep (sub_drop sub_refl)))
/-- both seats' events -/
def outS (K : PySem.W.Frag) (es : List Ev) (X : Res) : Nat → List V → Res
  | 0, _ => X
  | 1, [.ref p] => ls K p ((flt true es).map Ev.d) ^ X
  | 2, [.ref p, .ref q] => ls K p ((flt true es).map Ev.d) ^ ls K q ((flt false es).map Ev.d) ^ X
  | _, _ => prR False ^ X
theorem ps_outer {x0 x2 x3 x4 x5 x6 x7 x8 : Option V} {a : Addr} {es : List Ev} {ws : List V} (hel : es.length ≤ 1000) (h : Hd (lsx K a ws (es.map Ev.d) ^ X) H) (k : ∀ p H', Hd (roR K p (fun z => (flt z es).map Ev.d) ^ lsx K a ws (es.map Ev.d) ^ X) H' → Q (.ref p) H') :
    LcB (Itr 0 (Int.toNat 2)) (gName 4) tYes (tLc (iList K (tVar 1)) (gName 3) (tTest (tOp (rEqU K) (tOp (rIx K) (tVar 3) (tC (.int 1))) (tVar 4))) (tVar 3) [3]) [4] [x0, some (.ref a), x2, x3, x4, x5, x6, x7, x8] Q H := by
  refine lcs_R (n := 2) (outS K es (lsx K a ws (es.map Ev.d) ^ X)) (fun _ => rfl) h (by decide) (fun i ys H1 T Z hi hl h hT => ?_) (fun p ys H1 hl h => ?_)
  · have i01 : i = 0 ∨ i = 1 := by omega
    rcases i01 with rfl | rfl
    · have : ys = [] := List.length_eq_zero_iff.mp hl
      subst this
      have h0 : Hd ((lsx K a ws (es.map Ev.d) ^ X) ^ Z) H1 := h
      have h' : Hd (lsx K a ws (es.map Ev.d) ^ X ^ Z) H1 := hd_eq h0 (by ac_rfl)
      refine w_lc (w_iList (w_var rfl (w_exR (w_exSqL h'.lsxq ?_))))
      refine ps_inner (z := true) (fun _ => rfl) (fun _ => rfl) (fun _ => rfl) hel h' fun p H2 h2 => hT _ _ ?_
      exact hd_eq h2 (by show _ = (ls K p _ ^ lsx K a ws _ ^ X) ^ Z; ac_rfl)
    · obtain ⟨y, rfl⟩ : ∃ y, ys = [y] := by
        match ys, hl with
        | [y], _ => exact ⟨y, rfl⟩
      cases y with
      | ref p0 =>
        have h0 : Hd ((ls K p0 ((flt true es).map Ev.d) ^ lsx K a ws (es.map Ev.d) ^ X) ^ Z) H1 := h
        have h' : Hd (lsx K a ws (es.map Ev.d) ^ ls K p0 ((flt true es).map Ev.d) ^ X ^ Z) H1 := hd_eq h0 (by ac_rfl)
        refine w_lc (w_iList (w_var rfl (w_exR (w_exSqL h'.lsxq ?_))))
        refine ps_inner (z := false) (fun _ => rfl) (fun _ => rfl) (fun _ => rfl) hel h' fun p H2 h2 => hT _ _ ?_
        exact hd_eq h2 (by show _ = (ls K p0 _ ^ ls K p _ ^ lsx K a ws _ ^ X) ^ Z; ac_rfl)
      | _ => exact (Hd.pr (hd_eq h (star_assoc ..))).1.elim
  · obtain ⟨y, y2, rfl⟩ : ∃ y y2, ys = [y, y2] := by
      match ys, hl with
      | [y, y2], _ => exact ⟨y, y2, rfl⟩
    cases y with
    | ref p0 =>
      cases y2 with
      | ref p1 =>
        refine k p H1 (Hd.mkEx (fun z => if z then p0 else p1) (hd_eq h ?_))
        show pt p _ ^ (ls K p0 _ ^ ls K p1 _ ^ lsx K a ws _ ^ X) = _
        simp only [if_true, Bool.false_eq_true, if_false]
        ac_rfl
      | _ => exact (Hd.pr (Hd.tail h)).1.elim
    | _ => exact (Hd.pr (Hd.tail h)).1.elim
theorem ly_evs {es : List Ev} (h : ∀ e ∈ es, e.okc = true) : Ly 3 (.list (es.map Ev.d)) := ly_map fun e he => ly_ev (h e he)
theorem eqv_two (a b : List PyData) : PyData.eqv (.list [.list a, .list b]) (.list [.list [], .list []]) = (a.isEmpty && b.isEmpty) := by
  cases a <;> cases b <;> simp [PyData.eqv, PyData.eqvAll]
/-- the candidates so far -/
def cds (left : Bool → List Ev) (c : Bool → Nat) : Nat → List Ev
  | 0 => []
  | 1 => (cand left c true).toList
  | _ => (cand left c true).toList ++ (cand left c false).toList
theorem cds_s {left : Bool → List Ev} {c : Bool → Nat} {z : Bool} {i : Nat} (h : (i : Int) = ixZ z) : cds left c (i + 1) = cds left c i ++ (cand left c z).toList := by
  cases z
  · obtain rfl : i = 1 := Int.ofNat_inj.mp h; rfl
  · obtain rfl : i = 0 := Int.ofNat_inj.mp h; rfl
theorem ps_cands {x0 x1 x3 x4 x6 x7 x8 : Option V} {lf rd : Addr} {left : Bool → List Ev} {c : Bool → Nat} (hl : ∀ z, ∀ e ∈ left z, e.okc = true ∧ e.z = z) (h : Hd (roR K lf (fun z => (left z).map Ev.d) ^ i2 rd c ^ X) H)
    (k : ∀ p zs H', Hd (pt p (.lst zs) ^ dvA K zs ((cds left c 2).map Ev.d) ^ roR K lf (fun z => (left z).map Ev.d) ^ i2 rd c ^ X) H' → Q (.ref p) H') :
    (∃ xs, SqL K H lf xs) ∧ LcB (Itl K lf) (gName 8) (tAnd (tTest (tOp (rNeU K) (tVar 8) (tLst tNil))) (tOr (tTest (tOp (rEqU K) (tOp (rIx K) (tOp (rIx K) (tVar 8) (tC (.int 0))) (tC (.int 0))) (tC (.str "make")))) (tTest (tOp rGtU (tOp (rIx K) (tVar 5) (tOp (rIx K) (tOp (rIx K) (tVar 8) (tC (.int 0))) (tC (.int 1)))) (tC (.int 0)))))) (tOp (rIx K) (tVar 8) (tC (.int 0))) [8] [x0, x1, some (.ref lf), x3, x4, some (.ref rd), x6, x7, x8] Q H := by
  obtain ⟨r, h⟩ := h.ro true
  refine ⟨⟨_, SqL.of h.pt⟩, ?_⟩
  refine lcs_Lt (xs := [.ref (r true), .ref (r false)]) (fun i zs => dvA K zs ((cds left c i).map Ev.d) ^ pt lf (.lst [.ref (r true), .ref (r false)]) ^ ls K (r true) ((left true).map Ev.d) ^ ls K (r false) ((left false).map Ev.d) ^ i2 rd c ^ X) (fun _ => rfl) (h.addA .nil rfl) (fun i ys H1 Z h => (by
    have h' : Hd (pt lf (.lst [.ref (r true), .ref (r false)]) ^ dvA K ys ((cds left c i).map Ev.d) ^ ls K (r true) ((left true).map Ev.d) ^ ls K (r false) ((left false).map Ev.d) ^ i2 rd c ^ X ^ Z) H1 := hd_eq h (by ac_rfl)
    exact SqL.of h'.pt)) (by simp) (fun i x ys H1 T N Z hi hyl h hT hN => ?_) (fun p ys H1 hl h => ?_)
  · have h : Hd (dvA K ys ((cds left c i).map Ev.d) ^ pt lf (.lst [.ref (r true), .ref (r false)]) ^ ls K (r true) ((left true).map Ev.d) ^ ls K (r false) ((left false).map Ev.d) ^ i2 rd c ^ X ^ Z) H1 := hd_eq h (by ac_rfl)
    obtain ⟨z, hz, rfl⟩ : ∃ z, (i : Int) = ixZ z ∧ x = .ref (r z) := by
      have : i = 0 ∨ i = 1 := by have := (List.getElem?_eq_some_iff.mp hi).1; simp at this; omega
      rcases this with rfl | rfl
      · exact ⟨true, rfl, by simpa using hi.symm⟩
      · exact ⟨false, rfl, by simpa using hi.symm⟩
    have done : ∀ H2, Hd (dvA K ys ((cds left c i).map Ev.d) ^ pt lf (.lst [.ref (r true), .ref (r false)]) ^ ls K (r true) ((left true).map Ev.d) ^ ls K (r false) ((left false).map Ev.d) ^ i2 rd c ^ X ^ Z) H2 → cand left c z = none → N H2 := fun H2 g hc => by
      refine hN _ ?_
      rw [cds_s hz, hc, Option.toList_none, List.append_nil]
      exact hd_eq g (by ac_rfl)
    have more : ∀ H2 e y, Hd (dvA K ys ((cds left c i).map Ev.d) ^ pt lf (.lst [.ref (r true), .ref (r false)]) ^ ls K (r true) ((left true).map Ev.d) ^ ls K (r false) ((left false).map Ev.d) ^ i2 rd c ^ X ^ Z) H2 → cand left c z = some e → Dp K H2 y e.d → T y H2 := fun H2 e y g hc hy => by
      refine hT _ _ ?_
      rw [cds_s hz, hc, Option.toList_some, List.map_append]
      have g2 := g.addA (dps_app g.dvA (.cons hy .nil)) (by rw [noLs_app, noLs_map noL_ev, noLs, noL_ev]; rfl)
      exact hd_eq (g2.sub (sub_keep (sub_drop sub_refl))) (by rw [List.map_cons, List.map_nil]; ac_rfl)
    have hls : Hd (ls K (r z) ((left z).map Ev.d) ^ ls K (r (!z)) ((left (!z)).map Ev.d) ^ dvA K ys ((cds left c i).map Ev.d) ^ pt lf (.lst [.ref (r true), .ref (r false)]) ^ i2 rd c ^ X ^ Z) H1 := by
      cases z
      · exact hd_eq h (by simp only [Bool.not_false]; ac_rfl)
      · exact hd_eq h (by simp only [Bool.not_true]; ac_rfl)
    have back : ∀ {H2}, Hd (ls K (r z) ((left z).map Ev.d) ^ ls K (r (!z)) ((left (!z)).map Ev.d) ^ dvA K ys ((cds left c i).map Ev.d) ^ pt lf (.lst [.ref (r true), .ref (r false)]) ^ i2 rd c ^ X ^ Z) H2 → Hd (dvA K ys ((cds left c i).map Ev.d) ^ pt lf (.lst [.ref (r true), .ref (r false)]) ^ ls K (r true) ((left true).map Ev.d) ^ ls K (r false) ((left false).map Ev.d) ^ i2 rd c ^ X ^ Z) H2 := fun {H2} g => by
      cases z
      · exact hd_eq g (by simp only [Bool.not_false]; ac_rfl)
      · exact hd_eq g (by simp only [Bool.not_true]; ac_rfl)
    clear h
    walk_at "wp"
    rename_i e0 H2 s2 n2 h2
    have lyz : Ly 3 (.list ((left z).map Ev.d)) := ly_evs fun e he => (hl z e he).1
    refine w_neLy (k := 3) ?_ (by walk_at "dp") (.lst (SqL.of h2.pt) .nil) lyz (ly_lst fun d hd => (List.not_mem_nil hd).elim) (by decide)
    rw [eqv_nil]
    have h3 := h2.tail
    cases hc : left z with
    | nil =>
      walk_at "wp"
      exact done _ (back h3) (by unfold cand; rw [hc])
    | cons e l =>
      have heo := (hl z e (by rw [hc]; exact List.mem_cons_self ..))
      rw [hc] at h3 back
      rw [List.map_cons, List.isEmpty_cons]
      clear h2
      walk_at "wp"
      refine s_ixD (n := 0) h3 rfl rfl fun y hy => ?_
      clear h3
      cases e with
      | make w d =>
        obtain ⟨ea, xd, rfl, hs, hxd⟩ := dp_make hy.dv
        walk_at "wp"
        refine s_ixD (n := 0) hy.tail rfl rfl fun y2 hy2 => ?_
        exact more _ _ y2 (back hy2.tail) (by unfold cand; rw [hc]; rfl) hy2.dv
      | come w =>
        obtain ⟨ea, rfl, hs⟩ := dp_come hy.dv
        walk_at "wp"
        refine s_ixD (n := 0) hy.tail rfl rfl fun y2 hy2 => ?_
        obtain ⟨ea2, rfl, hs2⟩ := dp_come hy2.dv
        walk_at "wp"
        refine s_i2 (p := rd) (c := c) (by walk_at "sl") ?_
        walk_at "wp"
        refine w_dec (fun hp => ?_) fun hp => ?_
        · walk_at "wp"
          refine s_ixD (n := 0) hy2.tail rfl rfl fun y3 hy3 => ?_
          have hp' : 0 < c w := by omega
          exact more _ _ y3 (back hy3.tail) (by unfold cand; rw [hc]; simp only [rdy, decide_eq_true hp', if_true]) hy3.dv
        · walk_at "wp"
          have hp' : ¬ 0 < c w := by omega
          exact done _ (back hy2.tail) (by unfold cand; rw [hc]; simp only [rdy, decide_eq_false hp', Bool.false_eq_true, if_false])
  · have h' : Hd (pt p (.lst ys) ^ dvA K ys ((cds left c 2).map Ev.d) ^ pt lf (.lst [.ref (r true), .ref (r false)]) ^ ls K (r true) ((left true).map Ev.d) ^ ls K (r false) ((left false).map Ev.d) ^ i2 rd c ^ X) H1 := h
    have h2 : Hd (roR K lf (fun z => (left z).map Ev.d) ^ pt p (.lst ys) ^ dvA K ys ((cds left c 2).map Ev.d) ^ i2 rd c ^ X) H1 := Hd.mkEx r (hd_eq h' (by ac_rfl))
    exact k p ys H1 (hd_eq h2 (by ac_rfl))
theorem cds_min {left : Bool → List Ev} {c : Bool → Nat} {e : Ev} (h : least left c = some e) : ∃ d ds, (cds left c 2).map Ev.d = d :: ds ∧ PySem.W.minD d ds = e.d := by
  unfold least at h
  unfold cds
  cases h1 : cand left c true with
  | none =>
    rw [h1] at h
    have h2 : cand left c false = some e := h
    rw [h2]
    exact ⟨e.d, [], rfl, rfl⟩
  | some a =>
    rw [h1] at h
    cases h2 : cand left c false with
    | none =>
      rw [h2] at h
      cases h
      exact ⟨e.d, [], rfl, rfl⟩
    | some b =>
      rw [h2] at h
      refine ⟨a.d, [b.d], rfl, ?_⟩
      simp only [pick] at h
      unfold PySem.W.minD
      simp only [List.foldl]
      split at h
      · rename_i hlt
        cases h
        exact if_pos hlt
      · rename_i hlt
        cases h
        exact if_neg hlt
theorem noR_flt (es : List Ev) : ∀ z, ∀ e ∈ flt z es, e ∈ es ∧ e.z = z := fun z e h => by
  unfold flt at h
  have := List.mem_filter.mp h
  exact ⟨this.1, by simpa using this.2⟩
theorem plain_step {n : Nat} {Y Z : Yd} {rest : List Ev} {x : Ev} (hn : rest.length = n + 1) (hf : fin Y rest = some Z) (hx : least (fun z => flt z rest) (cof Y) = some x) :
    ∃ rest', fin (Y.go x) rest' = some Z ∧ rest'.length = n ∧ Y.can x = true ∧ (∀ e ∈ rest', e ∈ rest) ∧ x ∈ rest ∧ flt x.z rest = x :: flt x.z rest' ∧ flt (!x.z) rest = flt (!x.z) rest' ∧ plainS (n + 1) (fun z => flt z rest) (cof Y) = x :: plainS n (fun z => flt z rest') (cof (Y.go x)) := by
  obtain ⟨z, hz⟩ : ∃ z, cand (fun z => flt z rest) (cof Y) z = some x := by
    rcases pick_or hx with h | h
    · exact ⟨_, h⟩
    · exact ⟨_, h⟩
  obtain ⟨a, b, h1, h2, h3, h4, h5, h6⟩ := cand_of hf hz
  subst h3
  have hA : ∃ Ya, fin Y a = some Ya := by
    rw [h1, fin_app] at hf
    cases c : fin Y a with
    | none => rw [c] at hf; cases hf
    | some Ya => exact ⟨Ya, rfl⟩
  obtain ⟨Ya, hYa⟩ := hA
  have m := to_front (b := b) h2 h4 hYa
  rw [← h1] at m
  have hf2 := m.fin hf
  rw [fin, if_pos h4] at hf2
  have f1 : flt x.z rest = x :: flt x.z (a ++ b) := by rw [h1, flt_app, flt_app, h6, flt_cons, if_pos rfl]; rfl
  have f2 : flt (!x.z) rest = flt (!x.z) (a ++ b) := by rw [h1, flt_app, flt_app, flt_cons, if_neg (by cases x.z <;> decide)]
  refine ⟨a ++ b, hf2, by have := m.len; simp at this ⊢; omega, h4, fun e he => ?_, by rw [h1]; simp, f1, f2, ?_⟩
  · rw [h1]
    rcases List.mem_append.mp he with he | he <;> simp [he]
  · rw [plainS, hx]
    show x :: plainS n (bset (fun z => flt z rest) x.z (flt x.z rest).tail) (cgo (cof Y) x) = _
    have e1 : bset (fun z => flt z rest) x.z (flt x.z rest).tail = fun z => flt z (a ++ b) := by
      funext z
      by_cases c : z = x.z
      · subst c; rw [bset_at, f1]; rfl
      · have : z = !x.z := bne_of (Ne.symm c)
        rw [this, bset_off, f2]
    rw [e1, ← cof_go h4]
/-- under way: what is done, what is left -/
def psI (K : PySem.W.Frag) (X : Res) (l : Ln) (a lf rd f : Addr) (es : List Ev) (ws : List V) (Z : Yd) (n : Nat) (σ : L2.St) (H' : Hp) : Prop := ∃ (done rest : List Ev) (Y : Yd) (x3 x4 x7 x8 : Option V), rest.length = n ∧ done.length + n = es.length ∧ fin Y rest = some Z ∧ (∀ e ∈ rest, e.okc = true) ∧ (∀ e ∈ done, e.okc = true) ∧ plainOf es = done ++ plainS n (fun z => flt z rest) (cof Y) ∧
  Hd (roR K lf (fun z => (flt z rest).map Ev.d) ^ i2 rd (cof Y) ^ ls K f (done.map Ev.d) ^ lsx K a ws (es.map Ev.d) ^ X) H' ∧ σ = [some (.str (ofL l)), some (.ref a), some (.ref lf), x3, x4, some (.ref rd), some (.ref f), x7, x8]
theorem pr_plain_story (h : sp_plain_story K vs H Q E) : t_plain_story K { nx := fun _ H' => Q .non H', rt := Q } (start N_plain_story vs) H := by
  obtain ⟨l, a, es, X, Z, rfl, hl, hll, h, he, hel, hf, k⟩ := h
  unfold t_plain_story
  walk_at "wp"
  refine ⟨l, _, es, rfl, hl, hll, by walk_at "dp", he, by omega, fun H1 s1 => ?_⟩
  obtain ⟨Ys, hr⟩ := some_fin hf
  rw [hr, Option.isSome_some]
  have h1 := h.same s1
  clear h
  obtain ⟨ws, h1⟩ := h1.lsX
  walk_at "wp"
  refine ps_outer (by omega) h1 fun lf H2 h2 => ?_
  walk_at "wp"
  rename_i rd _ _ _ _ f H3 _ _ h3
  have h3 : Hd (roR K lf (fun z => (flt z es).map Ev.d) ^ i2 rd (fun _ => 0) ^ ls K f (([] : List Ev).map Ev.d) ^ lsx K a ws (es.map Ev.d) ^ X) H3 := by
    have g : Hd (ls K f [] ^ pt rd (.lst [.int 0, .int 0]) ^ roR K lf (fun z => (flt z es).map Ev.d) ^ lsx K a ws (es.map Ev.d) ^ X) H3 := Hd.toL h3 .nil rfl
    have g2 : Hd (i2 rd (fun _ => 0) ^ roR K lf (fun z => (flt z es).map Ev.d) ^ ls K f [] ^ lsx K a ws (es.map Ev.d) ^ X) H3 := hd_eq g (by unfold i2; ac_rfl)
    exact hd_eq g2 (by rw [List.map_nil]; ac_rfl)
  refine w_while' (psI K X l a lf rd f es ws Z) es.length
    ⟨[], es, Yd.new l, _, _, _, _, rfl, by simp, hf, he, fun e h => (List.not_mem_nil h).elim, rfl, h3, rfl⟩ fun n σ H' p => ?_
  obtain ⟨done, rest, Y, x3, x4, x7, x8, hn, hdn, hfr, hro, hdo, hp, h4, rfl⟩ := p
  walk_at "wp"
  rename_i e1 _ _ _ _ e0 _ _ _ _ e2 G _ _ hG
  have hflo : ∀ z, ∀ e ∈ flt z rest, e.okc = true ∧ e.z = z := fun z e h => ⟨hro e (noR_flt rest z e h).1, (noR_flt rest z e h).2⟩
  have lyz : ∀ z, Ly 3 (.list ((flt z rest).map Ev.d)) := fun z => ly_evs fun e h => (hflo z e h).1
  have lye : Ly 3 (.list []) := ly_lst (k := 2) fun d hd => (List.not_mem_nil hd).elim
  refine w_neLy (k := 4) ?_ (Hd.roD (by walk_at "sl" : Hd (roR K lf (fun z => (flt z rest).map Ev.d) ^ _) G)) (.lst (SqL.of hG.pt) (.cons (.lst (SqL.of (hp2 hG).pt) .nil) (.cons (.lst (SqL.of (hp1 hG).pt) .nil) .nil)))
    (ly_lst fun d hd => by
      simp only [List.mem_cons, List.not_mem_nil, or_false] at hd
      rcases hd with rfl | rfl
      · exact lyz true
      · exact lyz false) (ly_lst fun d hd => by
      simp only [List.mem_cons, List.not_mem_nil, or_false] at hd
      rcases hd with rfl | rfl
      · exact lye
      · exact lye) (by decide)
  rw [eqv_two]
  have g : Hd (roR K lf (fun z => (flt z rest).map Ev.d) ^ i2 rd (cof Y) ^ ls K f (done.map Ev.d) ^ lsx K a ws (es.map Ev.d) ^ X) G := by walk_at "fin"
  clear hG h4
  cases rest with
  | nil =>
    rw [show (((flt true []).map Ev.d).isEmpty && ((flt false []).map Ev.d).isEmpty) = true from rfl]
    walk_at "wp"
    refine k f G ?_
    have hn0 : n = 0 := hn.symm
    rw [hn0] at hp
    rw [show plainOf es = done by rw [hp]; exact List.append_nil _]
    have g2 : Hd (lsx K a ws (es.map Ev.d) ^ ls K f (done.map Ev.d) ^ X) G := by walk_at "fin"
    exact hd_eq g2.lsI (star_left ..)
  | cons e rest =>
    obtain ⟨x, hx⟩ := least_some hfr (by simp)
    obtain ⟨z, hz⟩ : ∃ z, cand (fun z => flt z (e :: rest)) (cof Y) z = some x := by
      rcases pick_or hx with h | h
      · exact ⟨_, h⟩
      · exact ⟨_, h⟩
    obtain ⟨a', b', q1, q2, q3, q4, q5, q6⟩ := cand_of hfr hz
    subst q3
    have em : (((flt true (e :: rest)).map Ev.d).isEmpty && ((flt false (e :: rest)).map Ev.d).isEmpty) = false := by
      rw [flt_cons, flt_cons]
      cases e.z <;> simp
    rw [em]
    obtain ⟨n', rfl⟩ : ∃ n', n = n' + 1 := ⟨rest.length, hn.symm⟩
    walk_at "wp"
    refine w_N' ?_
    walk_at "wp"
    refine ps_cands hflo g fun p zs H5 h5 => ?_
    walk_at "wp"
    obtain ⟨d0, ds0, w1, w2⟩ := cds_min hx
    have hA := h5.tail.dvA
    have al := PySem.W.alikeAll_datum (cds (fun z => flt z (e :: rest)) (cof Y) 2)
    have al' : PySem.W.AlikeAll ((cds (fun z => flt z (e :: rest)) (cof Y) 2).map Ev.d) := al
    have hcm : ∀ y ∈ cds (fun z => flt z (e :: rest)) (cof Y) 2, y.okc = true := by
      intro y hy
      have hcz : ∀ z, ∀ y ∈ (cand (fun z => flt z (e :: rest)) (cof Y) z).toList, y.okc = true := fun z y hy => by
        cases c : cand (fun z => flt z (e :: rest)) (cof Y) z with
        | none => rw [c] at hy; exact (List.not_mem_nil hy).elim
        | some u =>
          rw [c] at hy
          have : y = u := by simpa using hy
          subst this
          obtain ⟨a1, b1, r1, _⟩ := cand_of hfr c
          exact hro y (by rw [r1]; simp)
      rcases List.mem_append.mp hy with hy | hy
      · exact hcz _ y hy
      · exact hcz _ y hy
    have dep : PyData.depthAll ((cds (fun z => flt z (e :: rest)) (cof Y) 2).map Ev.d) ≤ 2 := (ly_all (k := 2) fun d hd => by
      obtain ⟨y, hy, rfl⟩ := List.mem_map.mp hd
      exact ly_ev (hcm y hy)).2
    rw [w1] at hA al' dep
    refine ⟨p, zs, d0, ds0, rfl, SqL.of h5.pt, hA, al', by omega, fun i y hy hd => ?_⟩
    rw [w2] at hd
    obtain ⟨d1, u1, u2⟩ := dps_get hA hy
    rw [hd] at u1; cases u1
    have h6 := h5.addD u2 (noL_ev x)
    obtain ⟨rest', r1, r2, r3, r4, r5, r6, r7, r8⟩ := plain_step hn hfr hx
    have hxo := hro x r5
    have hfin : ∀ H6 v4, Hd (i2 rd (cgo (cof Y) x) ^ dv K y x.d ^ roR K lf (fun z => (flt z (e :: rest)).map Ev.d) ^ ls K f (done.map Ev.d) ^ lsx K a ws (es.map Ev.d) ^ X) H6 → (tSeq (tDrop (tBM K "list" rPopAt (tOp (rIx K) (tVar 2) (tVar 4)) (tCons (tC (.int 0)) tNil))) (tDrop (tBM K "list" rAppend (tVar 6) (tCons (tVar 7) tNil))))
        { nx := fun σ' H' => ∃ m', m' < n' + 1 ∧ psI K X l a lf rd f es ws Z m' σ' H', rt := Q, bk := tRet (tVar 6) { nx := fun x H' => Q V.non H', rt := Q }, ct := fun σ' H' => ∃ m', m' < n' + 1 ∧ psI K X l a lf rd f es ws Z m' σ' H' }
        [some (.str (ofL l)), some (.ref a), some (.ref lf), x3, some (.int (ixZ x.z)), some (.ref rd), some (.ref f), some y, v4] H6 := by
      intro H6 v4 h6
      obtain ⟨r, h6⟩ := Hd.ro x.z (by walk_at "sl" : Hd (roR K lf (fun z => (flt z (e :: rest)).map Ev.d) ^ _) H6)
      rw [r6, List.map_cons] at h6
      have hdl : (done.map Ev.d).length ≤ 100000 := by rw [List.length_map]; omega
      walk_at "wp"
      rename_i H7 t7 h7
      have h8 : Hd (roR K lf (bset (fun z => (flt z (e :: rest)).map Ev.d) x.z ((flt x.z rest').map Ev.d)) ^ i2 rd (cgo (cof Y) x) ^ ls K f (done.map Ev.d ++ [x.d]) ^ lsx K a ws (es.map Ev.d) ^ X) H7 := Hd.mkRo (r := r) (z := x.z) (by walk_at "fin")
      have eR : bset (fun z => (flt z (e :: rest)).map Ev.d) x.z ((flt x.z rest').map Ev.d) = fun z => (flt z rest').map Ev.d := by
        funext z
        by_cases c : z = x.z
        · subst c; rw [bset_at]
        · have : z = !x.z := bne_of (Ne.symm c)
          rw [this, bset_off, r7]
      rw [eR, ← cof_go r3, ← List.map_singleton (f := Ev.d), ← List.map_append] at h8
      refine ⟨n', by omega, done ++ [x], rest', Y.go x, _, _, _, _, r2, by simp; omega, r1, fun e he => hro e (r4 e he), fun e he => ?_, ?_, h8, rfl⟩
      · rcases List.mem_append.mp he with he | he
        · exact hdo e he
        · rw [List.mem_singleton.mp he]; exact hxo
      · rw [hp, r8]; simp
    have h7 : Hd (dv K y x.d ^ i2 rd (cof Y) ^ roR K lf (fun z => (flt z (e :: rest)).map Ev.d) ^ ls K f (done.map Ev.d) ^ lsx K a ws (es.map Ev.d) ^ X) H5 := by walk_at "fin"
    clear h6 h5
    cases x with
    | make w d =>
      obtain ⟨ea, xd, rfl, hs, hxd⟩ := dp_make u2
      have h8 := h7.addT hs
      clear h7
      generalize (tSeq (tDrop (tBM K "list" rPopAt (tOp (rIx K) (tVar 2) (tVar 4)) (tCons (tC (.int 0)) tNil))) (tDrop (tBM K "list" rAppend (tVar 6) (tCons (tVar 7) tNil)))) = T at hfin ⊢
      walk_at "wp"
      refine w_augS ?_
      walk_at "wp"
      refine s_getI2' (p := rd) (c := cof Y) (by walk_at "sl") ?_
      walk_at "wp"
      rw [show ((cof Y (!w) : Int) + 1) = ((cof Y (!w) + 1 : Nat) : Int) from rfl]
      refine s_setI2' (p := rd) (c := cof Y) (by walk_at "sl") fun H6 t6 h6 => ?_
      refine hfin H6 _ ?_
      have h6' : Hd (i2 rd (cgo (cof Y) (.make w d)) ^ tp K ea [.str "make", .int (ixZ w), xd] ^ dv K (.ref ea) (Ev.make w d).d ^ roR K lf (fun z => (flt z (e :: rest)).map Ev.d) ^ ls K f (done.map Ev.d) ^ lsx K a ws (es.map Ev.d) ^ X) H6 := h6
      walk_at "fin"
    | come w =>
      obtain ⟨ea, rfl, hs⟩ := dp_come u2
      have h8 := h7.addT hs
      clear h7
      generalize (tSeq (tDrop (tBM K "list" rPopAt (tOp (rIx K) (tVar 2) (tVar 4)) (tCons (tC (.int 0)) tNil))) (tDrop (tBM K "list" rAppend (tVar 6) (tCons (tVar 7) tNil)))) = T at hfin ⊢
      walk_at "wp"
      refine w_augS ?_
      walk_at "wp"
      refine s_getI2 (p := rd) (c := cof Y) (by walk_at "sl") ?_
      walk_at "wp"
      obtain ⟨x1, t1, hx1⟩ := can_come.mp r3
      have hpos : 0 < cof Y w := by unfold cof; rw [hx1]; simp
      rw [show ((cof Y w : Int) - 1) = ((cof Y w - 1 : Nat) : Int) by omega]
      refine s_setI2 (p := rd) (c := cof Y) (by walk_at "sl") fun H6 t6 h6 => ?_
      refine hfin H6 _ ?_
      have h6' : Hd (i2 rd (cgo (cof Y) (.come w)) ^ tp K ea [.str "come", .int (ixZ w)] ^ dv K (.ref ea) (Ev.come w).d ^ roR K lf (fun z => (flt z (e :: rest)).map Ev.d) ^ ls K f (done.map Ev.d) ^ lsx K a ws (es.map Ev.d) ^ X) H6 := h6
      walk_at "fin"
end
end FL

namespace FL
open PySem PySem.Spec PyProof.Rows L2 CwR TL
local macro_rules | `(tactic| walk_at "tls") => `(tactic| (simp only [TL.tl_append, TL.tl_num, tl_ofL, tl_sgn, tl_empty, List.nil_append, List.append_nil, List.cons_append, List.append_assoc]))
local macro_rules | `(tactic| walk_at "szt") => `(tactic| (simp only [len_ofL, TL.len_tl, TL.tl_append, TL.tl_num, tl_ofL, tl_sgn, tl_empty, List.length_append, List.length_cons, List.length_nil]; omega))
local macro_rules | `(tactic| walk_at "beta") => `(tactic| (try dsimp only [List.set_cons_zero, List.set_cons_succ]))
local macro_rules | `(tactic| walk_at "sq") => `(tactic| first | assumption | exact SqL.of upd_same | exact SqT.of upd_same | exact SqL.of (by assumption) | exact SqT.of (by assumption) | ((with_reducible refine' sq_updI ?h ?s); (case h => walk_at "lk"); (case s => walk_at "sq")) | ((with_reducible refine' sq_updL ?h ?s); (case h => walk_at "lk"); (case s => walk_at "sq")) | ((with_reducible refine' sq_new ?h ?s); (case h => assumption); (case s => walk_at "sq")) | exact SqL.of (by walk_at "lk"))
local macro_rules | `(tactic| walk_at "lk") => `(tactic| first | assumption | exact upd_same | (refine Eq.trans (upd_ne (by assumption)) ?_; walk_at "lk"))
local macro_rules | `(tactic| walk_at "fl") => `(tactic| first | with_reducible exact l_text | with_reducible exact l_ahead | with_reducible exact l_made | with_reducible exact l_taken | with_reducible exact l_heard | with_reducible exact l_wait | with_reducible exact l_own | with_reducible exact l_far | exact l_no (by decide +kernel) | exact two_l1 | exact two_l2 (by decide +kernel) | exact two_no (by decide +kernel) (by decide +kernel))
local macro_rules | `(tactic| walk_at "pl") => `(tactic| first | with_reducible exact p_text | with_reducible exact p_made | with_reducible exact p_taken | with_reducible exact p_heard | with_reducible exact p_wait | with_reducible exact p_own | with_reducible exact p_far | with_reducible exact i_1 | with_reducible exact i_2 | with_reducible exact i_3 | with_reducible exact i_4 | with_reducible exact i_5 | with_reducible exact i_6 | with_reducible exact i_7 | with_reducible exact i_8 | exact ⟨put_past (by decide +kernel), Nat.le_of_ble_eq_true rfl⟩ | exact ⟨rfl, Nat.le_of_ble_eq_true rfl⟩)
local macro_rules | `(tactic| walk_at "wp1") => `(tactic| first
  | with_reducible refine w_seq ?_
  | with_reducible refine w_set ?_
  | ((with_reducible refine' w_var ?e ?k); (case e => exact rfl))
  | with_reducible refine w_c ?_
  | with_reducible refine w_op ?_
  | with_reducible refine w_ret ?_
  | with_reducible refine w_if ?_
  | with_reducible refine w_test ?_
  | with_reducible refine w_bl ?_
  | with_reducible refine w_cons ?_
  | with_reducible refine w_nil ?_
  | with_reducible refine w_call ?_
  | with_reducible refine w_cb ?_
  | with_reducible refine w_next ?_
  | with_reducible refine w_drop ?_
  | with_reducible refine w_asg ?_
  | with_reducible refine w_and ?_
  | with_reducible refine w_or ?_
  | with_reducible refine w_not ?_
  | with_reducible refine w_ifE ?_
  | with_reducible refine w_tB ?_
  | with_reducible refine iteT ?_
  | with_reducible refine iteF ?_
  | with_reducible refine w_addI ?_
  | with_reducible refine w_subI ?_
  | with_reducible refine w_ltI ?_
  | with_reducible refine w_leI ?_
  | with_reducible refine w_gtI ?_
  | with_reducible refine w_geI ?_
  | with_reducible refine w_eqI ?_
  | with_reducible refine w_neI ?_
  | with_reducible refine w_eqS ?_
  | with_reducible refine w_neS ?_
  | with_reducible refine w_is ?_
  | with_reducible refine w_isNot ?_
  | with_reducible refine w_intI ?_
  | with_reducible refine w_intB ?_
  | with_reducible refine w_inC ?_
  | with_reducible refine w_niC ?_
  | ((with_reducible refine' w_ixL ?k ?h ?x); (case h => walk_at "sq"); (case x => rfl))
  | ((with_reducible refine' w_ixT ?k ?h ?x); (case h => walk_at "sq"); (case x => rfl))
  | ((with_reducible refine w_modI ?k ?c); (case c => first | omega | with_reducible assumption | decide))
  | ((with_reducible refine w_divI ?k ?c); (case c => exact ⟨by omega, by omega⟩))
  | ((with_reducible refine w_mulI ?k ?c); (case c => first | exact .inl ⟨by omega, by omega⟩ | exact .inr ⟨by omega, by omega⟩))
  | ((with_reducible refine w_powI ?k ?c); (case c => exact ⟨by decide, by decide, by decide⟩))
  | ((with_reducible refine' w_lenL ?k ?h); (case h => walk_at "sq"))
  | ((with_reducible refine' w_lenT ?k ?h); (case h => walk_at "sq"))
  | ((with_reducible refine w_len ?h ?k); (case h => exact Nat.le_of_ble_eq_true rfl))
  | ((with_reducible refine w_decTS ?h ?k); (case h => exact rfl))
  | ((with_reducible refine w_decFS ?h ?k); (case h => decide +kernel))
  | ((with_reducible refine w_ndecTS ?h ?k); (case h => exact rfl))
  | ((with_reducible refine w_ndecFS ?h ?k); (case h => decide +kernel))
  | ((with_reducible refine w_sz ?h ?k); (case h => walk_at "szt"))
  | ((with_reducible refine w_addS' ?k ?h); (case h => walk_at "szt"))
  | ((with_reducible refine w_strI' ?k ?h); (case h => omega))
  | ((with_reducible refine w_fmtN (A := True) ?h ?k); (case h => omega))
  | with_reducible refine w_chain ?_
  | with_reducible refine w_for ?_
  | with_reducible refine w_lc ?_
  | ((with_reducible refine w_rng ?h ?k); (case h => exact ⟨by omega, by omega⟩))
  | with_reducible refine w_iStr ?_
  | with_reducible refine w_iList ?_
  | with_reducible refine w_iRng1 ?_
  | with_reducible refine w_exR ?_
  | ((with_reducible refine' w_exSqL ?h ?k); (case h => walk_at "sq"))
  | ((with_reducible refine w_lenS ?k ?h); (case h => refine Nat.le_trans ?_ (by decide : 1000000 ≤ sizeLine); walk_at "szt"))
  | ((with_reducible refine w_slS ?k ?h); (case h => refine Nat.le_trans ?_ (by decide : 1000000 ≤ sizeLine); walk_at "szt"))
  | with_reducible refine w_nT ?_
  | with_reducible refine w_nF ?_
  | with_reducible refine w_un ?_
  | with_reducible refine w_negI ?_
  | with_reducible refine w_bm ?_
  | with_reducible refine w_bm0 ?_
  | ((with_reducible refine' w_tyL ?h ?k); (case h => walk_at "sq"))
  | ((with_reducible refine' w_append ?p ?l ?k); (case p => walk_at "lk"); (case l => first | exact Nat.le_of_ble_eq_true rfl | omega))
  | with_reducible refine w_gsub ?_
  | with_reducible refine w_gname ?_
  | ((with_reducible refine' w_set4_0 ?p ?k); (case p => walk_at "lk"))
  | ((with_reducible refine' w_set4_1 ?p ?k); (case p => walk_at "lk"))
  | ((with_reducible refine' w_set4_2 ?p ?k); (case p => walk_at "lk"))
  | ((with_reducible refine' w_set4_3 ?p ?k); (case p => walk_at "lk"))
  | ((with_reducible refine' w_setL ?p ?i ?k); (case p => walk_at "lk"); (case i => exact rfl))
  | with_reducible refine w_tup ?_
  | with_reducible refine w_lst ?_
  | with_reducible refine w_sl ?_
  | with_reducible refine w_noPart ?_
  | with_reducible refine w_part ?_
  | with_reducible refine w_exI ?_
  | with_reducible refine w_exS ?_
  | with_reducible refine w_join ?_
  | with_reducible refine w_split ?_
  | with_reducible refine w_isS ?_
  | with_reducible refine w_joined ?_
  | with_reducible refine w_jsNil ?_
  | with_reducible refine w_jsCons ?_
  | with_reducible refine w_fmt ?_
  | with_reducible refine w_fmtI ?_
  | with_reducible refine w_repl ?_
  | with_reducible refine w_andV ?_
  | with_reducible refine w_orV ?_
  | with_reducible refine w_notV ?_
  | with_reducible refine w_retN ?_
  | with_reducible refine w_brk ?_
  | with_reducible refine w_cont ?_
  | ((with_reducible refine' w_yes (p := ((List.length (_ : List V) : Nat) : Int) = _) ?h ?k); (case h => exact of_decide_eq_true rfl))
  | ((with_reducible refine' w_yes (p := ((List.length (_ : List V) : Nat) : Int) < _) ?h ?k); (case h => exact of_decide_eq_true rfl))
  | ((with_reducible refine' w_yes (p := _ < ((List.length (_ : List V) : Nat) : Int)) ?h ?k); (case h => exact of_decide_eq_true rfl))
  | ((with_reducible refine' w_yes (p := _ = ((List.length (_ : List V) : Nat) : Int)) ?h ?k); (case h => exact of_decide_eq_true rfl))
  | ((with_reducible refine' w_yes (p := ((Str.length (sgn _) : Nat) : Int) = _) ?h ?k); (case h => exact of_decide_eq_true rfl))
  | ((with_reducible refine' w_no (p := ((List.length (_ : List V) : Nat) : Int) = _) ?h ?k); (case h => exact of_decide_eq_false rfl))
  | ((with_reducible refine' w_no (p := ((List.length (_ : List V) : Nat) : Int) < _) ?h ?k); (case h => exact of_decide_eq_false rfl))
  | ((with_reducible refine' w_no (p := _ < ((List.length (_ : List V) : Nat) : Int)) ?h ?k); (case h => exact of_decide_eq_false rfl))
  | ((with_reducible refine' w_no (p := _ = ((List.length (_ : List V) : Nat) : Int)) ?h ?k); (case h => exact of_decide_eq_false rfl))
  | ((with_reducible refine' w_no (p := ((Str.length (sgn _) : Nat) : Int) = _) ?h ?k); (case h => exact of_decide_eq_false rfl))
  | ((with_reducible refine' w_nyes (p := ((List.length (_ : List V) : Nat) : Int) = _) ?h ?k); (case h => exact of_decide_eq_true rfl))
  | ((with_reducible refine' w_nyes (p := ((List.length (_ : List V) : Nat) : Int) < _) ?h ?k); (case h => exact of_decide_eq_true rfl))
  | ((with_reducible refine' w_nyes (p := _ < ((List.length (_ : List V) : Nat) : Int)) ?h ?k); (case h => exact of_decide_eq_true rfl))
  | ((with_reducible refine' w_nyes (p := _ = ((List.length (_ : List V) : Nat) : Int)) ?h ?k); (case h => exact of_decide_eq_true rfl))
  | ((with_reducible refine' w_nyes (p := ((Str.length (sgn _) : Nat) : Int) = _) ?h ?k); (case h => exact of_decide_eq_true rfl))
  | ((with_reducible refine' w_nno (p := ((List.length (_ : List V) : Nat) : Int) = _) ?h ?k); (case h => exact of_decide_eq_false rfl))
  | ((with_reducible refine' w_nno (p := ((List.length (_ : List V) : Nat) : Int) < _) ?h ?k); (case h => exact of_decide_eq_false rfl))
  | ((with_reducible refine' w_nno (p := _ < ((List.length (_ : List V) : Nat) : Int)) ?h ?k); (case h => exact of_decide_eq_false rfl))
  | ((with_reducible refine' w_nno (p := _ = ((List.length (_ : List V) : Nat) : Int)) ?h ?k); (case h => exact of_decide_eq_false rfl))
  | ((with_reducible refine' w_nno (p := ((Str.length (sgn _) : Nat) : Int) = _) ?h ?k); (case h => exact of_decide_eq_false rfl))
  | ((with_reducible refine' w_no (p := (V.ref _ = V.non)) ?h ?k); (case h => intro z9; cases z9))
  | ((with_reducible refine' w_yes (p := (V.non = V.non)) ?h ?k); (case h => rfl))
  | with_reducible refine w_fldC ?_
  | with_reducible refine w_make ?_
  | ((with_reducible refine' w_fldR ?h ?l ?k); (case h => walk_at "lk"); (case l => walk_at "fl"))
  | with_reducible refine w_sfldC ?_
  | ((with_reducible refine' w_sfldR ?h ?l ?k); (case h => walk_at "lk"); (case l => walk_at "pl"))
  | ((with_reducible refine' w_sfldR2 ?h ?l ?k); (case h => walk_at "lk"); (case l => first | exact p_len | exact Nat.le_of_ble_eq_true rfl); (first | rw [p_far.1] | rw [p_text.1] | rw [p_own.1] | rw [p_wait.1] | rw [p_heard.1] | rw [p_made.1] | rw [p_taken.1]))
  | with_reducible refine w_sfldaugC ?_
  | with_reducible refine w_addR ?_
  | with_reducible refine w_subR ?_
  | ((with_reducible refine' w_sfldQ ?h ?l ?k); (case h => walk_at "lk"); (case l => walk_at "pl"))
  | with_reducible refine w_meth ?_
  | ((with_reducible refine' w_methR ?h ?l ?k); (case h => walk_at "lk"); (case l => walk_at "fl"))
  | with_reducible refine w_kget ?_
  | ((with_reducible refine' w_gtup ?h ?l ?k); (case h => walk_at "sq"); (case l => exact rfl))
  | with_reducible refine w_gcons ?_
  | with_reducible refine w_gnil ?_
  | with_reducible refine w_isiII ?_
  | with_reducible refine w_isiIB ?_
  | with_reducible refine w_isiSS ?_
  | ((with_reducible refine' w_isiTT ?h ?k); (case h => walk_at "sq"))
  | ((with_reducible refine' w_isiLL ?h ?k); (case h => walk_at "sq"))
  | with_reducible refine w_ipI ?_
  | with_reducible refine w_par ?_
  | with_reducible refine w_par3 ?_
  | with_reducible refine w_parR ?_
  | with_reducible refine w_parR3 ?_
  | with_reducible refine w_aug ?_
  | ((with_reducible refine' w_var2 ?e ?k); (case e => exact rfl))
  | ((with_reducible refine' w_insL ?p ?l ?k); (case p => walk_at "lk"); (case l => first | omega | decide))
  | rw [kg_put]
  | rw [kg_cut]
  | rw [kg_non])
local macro_rules | `(tactic| walk_at "wp") => `(tactic| ((try dsimp only); (repeat walk_at "wp1"); (walk_at "beta")))
local macro_rules | `(tactic| walk_at "as") => `(tactic| with_reducible assumption)
local macro_rules | `(tactic| walk_at "sl") => `(tactic| (with_reducible refine' hd_eq ?h ?e; (case h => with_reducible assumption); (case e => walk_at "rp")))
local macro_rules | `(tactic| walk_at "rp") => `(tactic| first
  | with_reducible exact rfl
  | with_reducible exact rp1
  | with_reducible exact rp2
  | with_reducible exact rp3
  | with_reducible exact rp4
  | with_reducible exact rp5
  | with_reducible exact rp6
  | with_reducible exact rp7
  | with_reducible exact rp8
  | with_reducible exact rp9
  | with_reducible exact rp10
  | with_reducible exact rp11
  | with_reducible exact rp12
  | with_reducible exact rp13)
local macro_rules | `(tactic| walk_at "sl2") => `(tactic| (with_reducible refine' hd_q ?h ?e; (case h => walk_at "sl"); (case e => walk_at "rp")))
local macro_rules | `(tactic| walk_at "sl3") => `(tactic| (with_reducible refine' hd_q3 ?h ?e ?e2; (case h => walk_at "sl"); (case e => walk_at "rp"); (case e2 => walk_at "rp")))
local macro_rules | `(tactic| walk_at "sl4") => `(tactic| (with_reducible refine' hd_q4 ?h ?e ?e2 ?e3; (case h => walk_at "sl"); (case e => walk_at "rp"); (case e2 => walk_at "rp"); (case e3 => walk_at "rp")))
local macro_rules | `(tactic| walk_at "fs") => `(tactic| first
  | with_reducible exact sub_refl
  | with_reducible exact sub_emp
  | (with_reducible refine sub_keep ?_; walk_at "fs")
  | (with_reducible refine sub_eq rp1 (sub_keep ?_); walk_at "fs")
  | (with_reducible refine sub_eq rp2 (sub_keep ?_); walk_at "fs")
  | (with_reducible refine sub_eq rp3 (sub_keep ?_); walk_at "fs")
  | (with_reducible refine sub_eq rp4 (sub_keep ?_); walk_at "fs")
  | (with_reducible refine sub_eq rp5 (sub_keep ?_); walk_at "fs")
  | (with_reducible refine sub_eq rp6 (sub_keep ?_); walk_at "fs")
  | (with_reducible refine sub_eq rp7 (sub_keep ?_); walk_at "fs")
  | (with_reducible refine sub_eq rp8 (sub_keep ?_); walk_at "fs")
  | (with_reducible refine sub_eq rp9 (sub_keep ?_); walk_at "fs")
  | (with_reducible refine sub_eq rp10 (sub_keep ?_); walk_at "fs")
  | (with_reducible refine sub_eq rp11 (sub_keep ?_); walk_at "fs")
  | (with_reducible refine sub_eq rp12 (sub_keep ?_); walk_at "fs")
  | (with_reducible refine sub_eq rp13 (sub_keep ?_); walk_at "fs")
  | (with_reducible refine sub_drop ?_; walk_at "fs"))
local macro_rules | `(tactic| walk_at "fin") => `(tactic| first
  | with_reducible assumption
  | ((with_reducible refine' Hd.sub ?h ?s); (case h => with_reducible assumption); (case s => walk_at "fs")))
local macro_rules | `(tactic| walk_at "sq") => `(tactic| first | ((with_reducible refine' Hd.tp ?h); (case h => walk_at "sl")) | ((with_reducible refine' Hd.tqT ?h); (case h => walk_at "sl")) | ((with_reducible refine' Hd.fz ?h); (case h => walk_at "sl")) | ((with_reducible refine' SqL.of (Hd.pt ?h)); (case h => walk_at "sl")) | ((with_reducible refine' Hd.lsxq ?h); (case h => walk_at "sl")))
local macro_rules | `(tactic| walk_at "lk") => `(tactic| first | ((with_reducible refine' Hd.pt ?h); (case h => walk_at "sl")) | ((with_reducible refine' Hd.tq ?h); (case h => walk_at "sl")))
local macro_rules | `(tactic| walk_at "dp") => `(tactic| first | ((with_reducible refine' Hd.dv ?h); (case h => walk_at "sl")) | ((with_reducible refine' Hd.lsd ?h); (case h => walk_at "sl")) | with_reducible assumption | with_reducible exact .int _ | with_reducible exact .str _ | with_reducible exact .bl _ | with_reducible exact .non)
local macro_rules | `(tactic| walk_at "wp1") => `(tactic| first
  | with_reducible refine w_tupS ?_
  | with_reducible refine w_lstS ?_
  | with_reducible refine w_fldS ?_
  | with_reducible refine w_sfldS ?_
  | with_reducible refine w_methS ?_
  | with_reducible refine w_makeS ?_
  | ((with_reducible refine' w_sfldaugQ ?e ?k); (case e => exact rfl))
  | ((with_reducible refine' s_tup ?h ?k); (case h => with_reducible assumption); (intro _ _ _ _))
  | ((with_reducible refine' s_lst ?h ?k); (case h => with_reducible assumption); (intro _ _ _ _ _))
  | ((with_reducible refine' s_gf ?h ?l ?k); (case h => walk_at "sl"); (case l => walk_at "fl"))
  | ((with_reducible refine' s_gm ?h ?l ?k); (case h => walk_at "sl"); (case l => walk_at "fl"))
  | ((with_reducible refine' s_sf ?h ?l ?k); (case h => walk_at "sl"); (case l => walk_at "pl"); (intro _ _ _))
  | ((with_reducible refine' s_sq ?h ?l ?k); (case h => walk_at "sl"); (case l => walk_at "pl"); (intro _ _ _))
  | ((with_reducible refine' s_append ?h ?l ?k); (case h => walk_at "sl"); (case l => first | exact Nat.le_of_ble_eq_true rfl | omega); (intro _ _ _))
  | ((with_reducible refine' s_pop0 ?h ?k); (case h => walk_at "sl"); (intro _ _ _))
  | ((with_reducible refine' s_set4_0 ?h ?k); (case h => walk_at "sl"); (intro _ _ _))
  | ((with_reducible refine' s_set4_1 ?h ?k); (case h => walk_at "sl"); (intro _ _ _))
  | ((with_reducible refine' s_set4_2 ?h ?k); (case h => walk_at "sl"); (intro _ _ _))
  | ((with_reducible refine' s_set4_3 ?h ?k); (case h => walk_at "sl"); (intro _ _ _))
  | ((with_reducible refine' s_setL ?h ?l ?k); (case h => walk_at "sl"); (case l => exact rfl); (intro _ _ _))
  | ((with_reducible refine' s_ixR ?h ?k); (case h => walk_at "sl"))
  | ((with_reducible refine' s_ixO ?h ?k); (case h => walk_at "sl"))
  | ((with_reducible refine' s_ixS0 ?h ?k); (case h => walk_at "sl"))
  | ((with_reducible refine' s_ixS1 ?h ?k); (case h => walk_at "sl"))
  | ((with_reducible refine' s_ixS2 ?h ?k); (case h => walk_at "sl"))
  | ((with_reducible refine' s_pop0D ?h ?k); (case h => walk_at "sl"); (intro _ _ _ _))
  | ((with_reducible refine' s_tyD ?h ?k); (case h => walk_at "sl"))
  | ((with_reducible refine' s_gmY ?h ?a ?b ?k); (case h => walk_at "sl"); (case a => decide +kernel); (case b => decide +kernel))
  | ((with_reducible refine' s_appendD ?h ?v ?n ?l ?k); (case h => walk_at "sl"); (case v => walk_at "dp"); (case n => first | with_reducible rfl | with_reducible exact noL_deed _ | with_reducible exact noL_letter _ | with_reducible exact noL_letter3 _ | with_reducible exact noL_ev _ | exact rfl); (case l => walk_at "le"); (intro _ _ _)))
local macro_rules | `(tactic| walk_at "le") => `(tactic| first | omega | (simp only [List.length_map, List.length_append, List.length_cons, List.length_nil]; omega))
section
variable {K : PySem.W.Frag} {vs : List V} {H H0 H' : Hp} {Q : VK} {E : XK} {X Z : Res} {p : Addr} {ds : List PyData}
theorem cutV_to {xs : List V} {n : Nat} : cutV xs none (some (n : Int)) = xs.take n := by
  unfold cutV
  rw [HT.sIx_none, List.drop_zero, Nat.sub_zero, HT.sIx_nat]
  by_cases h : n ≤ xs.length
  · rw [Nat.min_eq_left h]
  · rw [Nat.min_eq_right (by omega), List.take_of_length_le (Nat.le_refl _), List.take_of_length_le (by omega)]
theorem cutV_from' {xs : List V} {n : Nat} : cutV xs (some (n : Int)) none = xs.drop n := cutV_from xs n
theorem noLs_mem {l : List PyData} : noLs l = true ↔ ∀ x ∈ l, noL x = true := by
  induction l with
  | nil => exact ⟨fun _ x h => (List.not_mem_nil h).elim, fun _ => rfl⟩
  | cons y l ih =>
    rw [noLs, Bool.and_eq_true, ih]
    exact ⟨fun h x hx => by
      rcases List.mem_cons.mp hx with rfl | hx
      · exact h.1
      · exact h.2 x hx, fun h => ⟨h y (List.mem_cons_self ..), fun x hx => h x (List.mem_cons_of_mem _ hx)⟩⟩
theorem s_slTo {n : Nat} (h : Hd (ls K p ds ^ X) H) (k : ∀ q H', Same H H' → Hd (ls K q (ds.take n) ^ ls K p ds ^ X) H' → Q (.ref q) H') : rSlU K (.ref p) none (some (n : Int)) H Q := by
  obtain ⟨xs, e, d⟩ := h.ls
  refine .inl ⟨p, xs, rfl, SqL.of e, fun q hq => k q _ (same_new hq) (h.newL hq (by rw [cutV_to]; exact dps_take n d) (noLs_mem.mpr fun x hx => noLs_mem.mp h.lsn x (List.mem_of_mem_take hx)))⟩
theorem s_slFrom {n : Nat} (h : Hd (ls K p ds ^ X) H) (k : ∀ q H', Same H H' → Hd (ls K q (ds.drop n) ^ ls K p ds ^ X) H' → Q (.ref q) H') : rSlU K (.ref p) (some (n : Int)) none H Q := by
  obtain ⟨xs, e, d⟩ := h.ls
  refine .inl ⟨p, xs, rfl, SqL.of e, fun q hq => k q _ (same_new hq) (h.newL hq (by rw [cutV_from']; exact dps_drop n d) (noLs_mem.mpr fun x hx => noLs_mem.mp h.lsn x (List.mem_of_mem_drop hx)))⟩
def kd : Ev → Str
  | .come _ => "come"
  | .make _ _ => "make"
theorem dv_kz {v : V} {e : Ev} (h : Dp K H v e.d) : ∃ a xs, v = .ref a ∧ SqT K H a xs ∧ atI xs 0 = some (.str (kd e)) ∧ atI xs 1 = some (.int (ixZ e.z)) := by
  cases e with
  | come z => obtain ⟨a, rfl, hs⟩ := dp_come h; exact ⟨a, _, rfl, hs, rfl, rfl⟩
  | make z d => obtain ⟨a, x, rfl, hs, hx⟩ := dp_make h; exact ⟨a, _, rfl, hs, rfl, rfl⟩
theorem ixZ_inj {a b : Bool} : ixZ a = ixZ b ↔ a = b := by cases a <;> cases b <;> simp [ixZ]
theorem ne_mc : ¬ Str.ofString "make" = Str.ofString "come" := by decide +kernel
theorem ne_cm : ¬ Str.ofString "come" = Str.ofString "make" := by decide +kernel
theorem dec_z {a b : Bool} : decide (ixZ a = ixZ b) = (a == b) := by cases a <;> cases b <;> rfl
theorem pr__law_may_change (h : sp__law_may_change K vs H Q E) : t__law_may_change K { nx := fun _ H' => Q .non H', rt := Q } (start N__law_may_change vs) H := by
  obtain ⟨a, es, k, X, rfl, h, hk, hel, kk⟩ := h
  obtain ⟨f, e, h1, h2, h3, h4⟩ := split_at hk
  have hm : mayC es k = mayE (es.take k) f e := by unfold mayC; rw [h1, h2]
  rw [hm] at kk
  unfold t__law_may_change
  walk_at "wp"
  refine s_ixD (n := k) h rfl (by rw [List.getElem?_map, h1]; rfl) fun v hv => ?_
  walk_at "wp"
  refine s_ixD (n := k + 1) hv.tail (by simp) (by rw [List.getElem?_map, h2]; rfl) fun w hw => ?_
  obtain ⟨va, fs, rfl, hs1, q0, q1⟩ := dv_kz hv.dv
  obtain ⟨wa, gs, rfl, hs2, r0, r1⟩ := dv_kz hw.dv
  have g := (hw.tail.addT hs1).addT hs2
  clear hv hw h
  walk_at "wp"
  refine w_ixT ?_ hs1 q1
  walk_at "wp"
  refine w_ixT ?_ hs2 r1
  walk_at "wp"
  refine w_dec (fun c => ?_) fun c => ?_
  · walk_at "wp"
    rw [show mayE (es.take k) f e = false by unfold mayE; rw [if_pos (ixZ_inj.mp c)]] at kk
    exact kk _ (by walk_at "fin")
  · have hz : f.z ≠ e.z := fun q => c (ixZ_inj.mpr q)
    walk_at "wp"
    refine w_ixT ?_ hs1 q0
    walk_at "wp"
    cases f with
    | come z =>
      refine w_decTS rfl ?_
      walk_at "wp"
      rw [show mayE (es.take k) (.come z) e = true by unfold mayE; rw [if_neg hz]] at kk
      exact kk _ (by walk_at "fin")
    | make z d =>
      refine w_decFS ne_mc ?_
      walk_at "wp"
      refine w_ixT ?_ hs2 r0
      walk_at "wp"
      cases e with
      | make w d' =>
        refine w_decTS rfl ?_
        walk_at "wp"
        rw [show mayE (es.take k) (.make z d) (.make w d') = true by unfold mayE; rw [if_neg hz]] at kk
        exact kk _ (by walk_at "fin")
      | come w =>
        refine w_decFS ne_cm ?_
        have hme : mayE (es.take k) (.make z d) (.come w) = decide (0 < there z w (es.take k)) := by unfold mayE; rw [if_neg hz]
        rw [hme] at kk
        walk_at "wp"
        refine s_slTo (n := k) (by walk_at "sl") fun q H2 s2 h2 => ?_
        have hs1' := same_t s2 hs1
        have hs2' := same_t s2 hs2
        rw [← List.map_take] at h2
        obtain ⟨ws, h2⟩ := h2.lsX
        have hlen := dps_len h2.lsx.2
        rw [List.length_map, List.length_take] at hlen
        walk_at "wp"
        refine frb_L (xs := ws) (fun j σ H' => ∃ u, Hd (lsx K q ws ((es.take k).map Ev.d) ^ tp K va fs ^ tp K wa gs ^ ls K a (es.map Ev.d) ^ X) H' ∧ σ = [some (.ref a), some (.int (k : Int)), some (.ref va), some (.ref wa), some (.int (there z w ((es.take k).take j))), u]) ⟨none, by walk_at "fin", rfl⟩ (fun j σ H' _ p => ?_) (fun j x σ H' hj p => ?_) (fun σ H' p => ?_)
        · obtain ⟨u, h, rfl⟩ := p
          exact h.lsxq
        · obtain ⟨u, h, rfl⟩ := p
          obtain ⟨y, hy, hyx⟩ := dps_at h.lsx.2 hj
          obtain ⟨xa, xs, rfl, xs1, x0, x1⟩ := dv_kz hyx
          have f1 := (hp1 h).tp
          have f2 := (hp2 h).tp
          have et : there z w ((es.take k).take (j + 1)) = there z w ((es.take k).take j) + (if isM z y then 1 else 0) - (if isC w y then 1 else 0) := by
            rw [take_snoc hy, there_app]; simp [there]; omega
          cases y with
          | make u d' =>
            walk_at "wp"
            refine w_ixT ?_ xs1 x0
            walk_at "wp"
            refine w_ixT ?_ xs1 x1
            walk_at "wp"
            refine w_ixT ?_ f1 q1
            walk_at "wp"
            refine w_ixT ?_ xs1 x0
            walk_at "wp"
            refine w_decFS ne_mc ?_
            walk_at "wp"
            refine ⟨some (.ref xa), h, ?_⟩
            rw [et]
            simp [isM, isC, Ev.z, ixZ_inj]
          | come u =>
            walk_at "wp"
            refine w_ixT ?_ xs1 x0
            walk_at "wp"
            refine w_decFS ne_cm ?_
            walk_at "wp"
            refine w_ixT ?_ xs1 x0
            walk_at "wp"
            refine w_ixT ?_ xs1 x1
            walk_at "wp"
            refine w_ixT ?_ f2 r1
            walk_at "wp"
            refine ⟨some (.ref xa), h, ?_⟩
            rw [et]
            simp [isM, isC, Ev.z, ixZ_inj]
        · obtain ⟨u, h, rfl⟩ := p
          walk_at "wp"
          rw [hlen, List.take_of_length_le (by rw [List.length_take]; omega)]
          exact kk _ (by walk_at "fin")
end
end FL

namespace FL
open PySem PySem.Spec PyProof.Rows L2 CwR TL
local macro_rules | `(tactic| walk_at "tls") => `(tactic| (simp only [TL.tl_append, TL.tl_num, tl_ofL, tl_sgn, tl_empty, List.nil_append, List.append_nil, List.cons_append, List.append_assoc]))
local macro_rules | `(tactic| walk_at "szt") => `(tactic| (simp only [len_ofL, TL.len_tl, TL.tl_append, TL.tl_num, tl_ofL, tl_sgn, tl_empty, List.length_append, List.length_cons, List.length_nil]; omega))
local macro_rules | `(tactic| walk_at "beta") => `(tactic| (try dsimp only [List.set_cons_zero, List.set_cons_succ]))
local macro_rules | `(tactic| walk_at "sq") => `(tactic| first | assumption | exact SqL.of upd_same | exact SqT.of upd_same | exact SqL.of (by assumption) | exact SqT.of (by assumption) | ((with_reducible refine' sq_updI ?h ?s); (case h => walk_at "lk"); (case s => walk_at "sq")) | ((with_reducible refine' sq_updL ?h ?s); (case h => walk_at "lk"); (case s => walk_at "sq")) | ((with_reducible refine' sq_new ?h ?s); (case h => assumption); (case s => walk_at "sq")) | exact SqL.of (by walk_at "lk"))
local macro_rules | `(tactic| walk_at "lk") => `(tactic| first | assumption | exact upd_same | (refine Eq.trans (upd_ne (by assumption)) ?_; walk_at "lk"))
local macro_rules | `(tactic| walk_at "fl") => `(tactic| first | with_reducible exact l_text | with_reducible exact l_ahead | with_reducible exact l_made | with_reducible exact l_taken | with_reducible exact l_heard | with_reducible exact l_wait | with_reducible exact l_own | with_reducible exact l_far | exact l_no (by decide +kernel) | exact two_l1 | exact two_l2 (by decide +kernel) | exact two_no (by decide +kernel) (by decide +kernel))
local macro_rules | `(tactic| walk_at "pl") => `(tactic| first | with_reducible exact p_text | with_reducible exact p_made | with_reducible exact p_taken | with_reducible exact p_heard | with_reducible exact p_wait | with_reducible exact p_own | with_reducible exact p_far | with_reducible exact i_1 | with_reducible exact i_2 | with_reducible exact i_3 | with_reducible exact i_4 | with_reducible exact i_5 | with_reducible exact i_6 | with_reducible exact i_7 | with_reducible exact i_8 | exact ⟨put_past (by decide +kernel), Nat.le_of_ble_eq_true rfl⟩ | exact ⟨rfl, Nat.le_of_ble_eq_true rfl⟩)
local macro_rules | `(tactic| walk_at "wp1") => `(tactic| first
  | with_reducible refine w_seq ?_
  | with_reducible refine w_set ?_
  | ((with_reducible refine' w_var ?e ?k); (case e => exact rfl))
  | with_reducible refine w_c ?_
  | with_reducible refine w_op ?_
  | with_reducible refine w_ret ?_
  | with_reducible refine w_if ?_
  | with_reducible refine w_test ?_
  | with_reducible refine w_bl ?_
  | with_reducible refine w_cons ?_
  | with_reducible refine w_nil ?_
  | with_reducible refine w_call ?_
  | with_reducible refine w_cb ?_
  | with_reducible refine w_next ?_
  | with_reducible refine w_drop ?_
  | with_reducible refine w_asg ?_
  | with_reducible refine w_and ?_
  | with_reducible refine w_or ?_
  | with_reducible refine w_not ?_
  | with_reducible refine w_ifE ?_
  | with_reducible refine w_tB ?_
  | with_reducible refine iteT ?_
  | with_reducible refine iteF ?_
  | with_reducible refine w_addI ?_
  | with_reducible refine w_subI ?_
  | with_reducible refine w_ltI ?_
  | with_reducible refine w_leI ?_
  | with_reducible refine w_gtI ?_
  | with_reducible refine w_geI ?_
  | with_reducible refine w_eqI ?_
  | with_reducible refine w_neI ?_
  | with_reducible refine w_eqS ?_
  | with_reducible refine w_neS ?_
  | with_reducible refine w_is ?_
  | with_reducible refine w_isNot ?_
  | with_reducible refine w_intI ?_
  | with_reducible refine w_intB ?_
  | with_reducible refine w_inC ?_
  | with_reducible refine w_niC ?_
  | ((with_reducible refine' w_ixL ?k ?h ?x); (case h => walk_at "sq"); (case x => rfl))
  | ((with_reducible refine' w_ixT ?k ?h ?x); (case h => walk_at "sq"); (case x => rfl))
  | ((with_reducible refine w_modI ?k ?c); (case c => first | omega | with_reducible assumption | decide))
  | ((with_reducible refine w_divI ?k ?c); (case c => exact ⟨by omega, by omega⟩))
  | ((with_reducible refine w_mulI ?k ?c); (case c => first | exact .inl ⟨by omega, by omega⟩ | exact .inr ⟨by omega, by omega⟩))
  | ((with_reducible refine w_powI ?k ?c); (case c => exact ⟨by decide, by decide, by decide⟩))
  | ((with_reducible refine' w_lenL ?k ?h); (case h => walk_at "sq"))
  | ((with_reducible refine' w_lenT ?k ?h); (case h => walk_at "sq"))
  | ((with_reducible refine w_len ?h ?k); (case h => exact Nat.le_of_ble_eq_true rfl))
  | ((with_reducible refine w_decTS ?h ?k); (case h => exact rfl))
  | ((with_reducible refine w_decFS ?h ?k); (case h => decide +kernel))
  | ((with_reducible refine w_ndecTS ?h ?k); (case h => exact rfl))
  | ((with_reducible refine w_ndecFS ?h ?k); (case h => decide +kernel))
  | ((with_reducible refine w_sz ?h ?k); (case h => walk_at "szt"))
  | ((with_reducible refine w_addS' ?k ?h); (case h => walk_at "szt"))
  | ((with_reducible refine w_strI' ?k ?h); (case h => omega))
  | ((with_reducible refine w_fmtN (A := True) ?h ?k); (case h => omega))
  | with_reducible refine w_chain ?_
  | with_reducible refine w_for ?_
  | with_reducible refine w_lc ?_
  | ((with_reducible refine w_rng ?h ?k); (case h => exact ⟨by omega, by omega⟩))
  | with_reducible refine w_iStr ?_
  | with_reducible refine w_iList ?_
  | with_reducible refine w_iRng1 ?_
  | with_reducible refine w_exR ?_
  | ((with_reducible refine' w_exSqL ?h ?k); (case h => walk_at "sq"))
  | ((with_reducible refine w_lenS ?k ?h); (case h => refine Nat.le_trans ?_ (by decide : 1000000 ≤ sizeLine); walk_at "szt"))
  | ((with_reducible refine w_slS ?k ?h); (case h => refine Nat.le_trans ?_ (by decide : 1000000 ≤ sizeLine); walk_at "szt"))
  | with_reducible refine w_nT ?_
  | with_reducible refine w_nF ?_
  | with_reducible refine w_un ?_
  | with_reducible refine w_negI ?_
  | with_reducible refine w_bm ?_
  | with_reducible refine w_bm0 ?_
  | ((with_reducible refine' w_tyL ?h ?k); (case h => walk_at "sq"))
  | ((with_reducible refine' w_append ?p ?l ?k); (case p => walk_at "lk"); (case l => first | exact Nat.le_of_ble_eq_true rfl | omega))
  | with_reducible refine w_gsub ?_
  | with_reducible refine w_gname ?_
  | ((with_reducible refine' w_set4_0 ?p ?k); (case p => walk_at "lk"))
  | ((with_reducible refine' w_set4_1 ?p ?k); (case p => walk_at "lk"))
  | ((with_reducible refine' w_set4_2 ?p ?k); (case p => walk_at "lk"))
  | ((with_reducible refine' w_set4_3 ?p ?k); (case p => walk_at "lk"))
  | ((with_reducible refine' w_setL ?p ?i ?k); (case p => walk_at "lk"); (case i => exact rfl))
  | with_reducible refine w_tup ?_
  | with_reducible refine w_lst ?_
  | with_reducible refine w_sl ?_
  | with_reducible refine w_noPart ?_
  | with_reducible refine w_part ?_
  | with_reducible refine w_exI ?_
  | with_reducible refine w_exS ?_
  | with_reducible refine w_join ?_
  | with_reducible refine w_split ?_
  | with_reducible refine w_isS ?_
  | with_reducible refine w_joined ?_
  | with_reducible refine w_jsNil ?_
  | with_reducible refine w_jsCons ?_
  | with_reducible refine w_fmt ?_
  | with_reducible refine w_fmtI ?_
  | with_reducible refine w_repl ?_
  | with_reducible refine w_andV ?_
  | with_reducible refine w_orV ?_
  | with_reducible refine w_notV ?_
  | with_reducible refine w_retN ?_
  | with_reducible refine w_brk ?_
  | with_reducible refine w_cont ?_
  | ((with_reducible refine' w_yes (p := ((List.length (_ : List V) : Nat) : Int) = _) ?h ?k); (case h => exact of_decide_eq_true rfl))
  | ((with_reducible refine' w_yes (p := ((List.length (_ : List V) : Nat) : Int) < _) ?h ?k); (case h => exact of_decide_eq_true rfl))
  | ((with_reducible refine' w_yes (p := _ < ((List.length (_ : List V) : Nat) : Int)) ?h ?k); (case h => exact of_decide_eq_true rfl))
  | ((with_reducible refine' w_yes (p := _ = ((List.length (_ : List V) : Nat) : Int)) ?h ?k); (case h => exact of_decide_eq_true rfl))
  | ((with_reducible refine' w_yes (p := ((Str.length (sgn _) : Nat) : Int) = _) ?h ?k); (case h => exact of_decide_eq_true rfl))
  | ((with_reducible refine' w_no (p := ((List.length (_ : List V) : Nat) : Int) = _) ?h ?k); (case h => exact of_decide_eq_false rfl))
  | ((with_reducible refine' w_no (p := ((List.length (_ : List V) : Nat) : Int) < _) ?h ?k); (case h => exact of_decide_eq_false rfl))
  | ((with_reducible refine' w_no (p := _ < ((List.length (_ : List V) : Nat) : Int)) ?h ?k); (case h => exact of_decide_eq_false rfl))
  | ((with_reducible refine' w_no (p := _ = ((List.length (_ : List V) : Nat) : Int)) ?h ?k); (case h => exact of_decide_eq_false rfl))
  | ((with_reducible refine' w_no (p := ((Str.length (sgn _) : Nat) : Int) = _) ?h ?k); (case h => exact of_decide_eq_false rfl))
  | ((with_reducible refine' w_nyes (p := ((List.length (_ : List V) : Nat) : Int) = _) ?h ?k); (case h => exact of_decide_eq_true rfl))
  | ((with_reducible refine' w_nyes (p := ((List.length (_ : List V) : Nat) : Int) < _) ?h ?k); (case h => exact of_decide_eq_true rfl))
  | ((with_reducible refine' w_nyes (p := _ < ((List.length (_ : List V) : Nat) : Int)) ?h ?k); (case h => exact of_decide_eq_true rfl))
  | ((with_reducible refine' w_nyes (p := _ = ((List.length (_ : List V) : Nat) : Int)) ?h ?k); (case h => exact of_decide_eq_true rfl))
  | ((with_reducible refine' w_nyes (p := ((Str.length (sgn _) : Nat) : Int) = _) ?h ?k); (case h => exact of_decide_eq_true rfl))
  | ((with_reducible refine' w_nno (p := ((List.length (_ : List V) : Nat) : Int) = _) ?h ?k); (case h => exact of_decide_eq_false rfl))
  | ((with_reducible refine' w_nno (p := ((List.length (_ : List V) : Nat) : Int) < _) ?h ?k); (case h => exact of_decide_eq_false rfl))
  | ((with_reducible refine' w_nno (p := _ < ((List.length (_ : List V) : Nat) : Int)) ?h ?k); (case h => exact of_decide_eq_false rfl))
  | ((with_reducible refine' w_nno (p := _ = ((List.length (_ : List V) : Nat) : Int)) ?h ?k); (case h => exact of_decide_eq_false rfl))
  | ((with_reducible refine' w_nno (p := ((Str.length (sgn _) : Nat) : Int) = _) ?h ?k); (case h => exact of_decide_eq_false rfl))
  | ((with_reducible refine' w_no (p := (V.ref _ = V.non)) ?h ?k); (case h => intro z9; cases z9))
  | ((with_reducible refine' w_yes (p := (V.non = V.non)) ?h ?k); (case h => rfl))
  | with_reducible refine w_fldC ?_
  | with_reducible refine w_make ?_
  | ((with_reducible refine' w_fldR ?h ?l ?k); (case h => walk_at "lk"); (case l => walk_at "fl"))
  | with_reducible refine w_sfldC ?_
  | ((with_reducible refine' w_sfldR ?h ?l ?k); (case h => walk_at "lk"); (case l => walk_at "pl"))
  | ((with_reducible refine' w_sfldR2 ?h ?l ?k); (case h => walk_at "lk"); (case l => first | exact p_len | exact Nat.le_of_ble_eq_true rfl); (first | rw [p_far.1] | rw [p_text.1] | rw [p_own.1] | rw [p_wait.1] | rw [p_heard.1] | rw [p_made.1] | rw [p_taken.1]))
  | with_reducible refine w_sfldaugC ?_
  | with_reducible refine w_addR ?_
  | with_reducible refine w_subR ?_
  | ((with_reducible refine' w_sfldQ ?h ?l ?k); (case h => walk_at "lk"); (case l => walk_at "pl"))
  | with_reducible refine w_meth ?_
  | ((with_reducible refine' w_methR ?h ?l ?k); (case h => walk_at "lk"); (case l => walk_at "fl"))
  | with_reducible refine w_kget ?_
  | ((with_reducible refine' w_gtup ?h ?l ?k); (case h => walk_at "sq"); (case l => exact rfl))
  | with_reducible refine w_gcons ?_
  | with_reducible refine w_gnil ?_
  | with_reducible refine w_isiII ?_
  | with_reducible refine w_isiIB ?_
  | with_reducible refine w_isiSS ?_
  | ((with_reducible refine' w_isiTT ?h ?k); (case h => walk_at "sq"))
  | ((with_reducible refine' w_isiLL ?h ?k); (case h => walk_at "sq"))
  | with_reducible refine w_ipI ?_
  | with_reducible refine w_par ?_
  | with_reducible refine w_par3 ?_
  | with_reducible refine w_parR ?_
  | with_reducible refine w_parR3 ?_
  | with_reducible refine w_aug ?_
  | ((with_reducible refine' w_var2 ?e ?k); (case e => exact rfl))
  | ((with_reducible refine' w_insL ?p ?l ?k); (case p => walk_at "lk"); (case l => first | omega | decide))
  | rw [kg_put]
  | rw [kg_cut]
  | rw [kg_non])
local macro_rules | `(tactic| walk_at "wp") => `(tactic| ((try dsimp only); (repeat walk_at "wp1"); (walk_at "beta")))
local macro_rules | `(tactic| walk_at "as") => `(tactic| with_reducible assumption)
local macro_rules | `(tactic| walk_at "sl") => `(tactic| (with_reducible refine' hd_eq ?h ?e; (case h => with_reducible assumption); (case e => walk_at "rp")))
local macro_rules | `(tactic| walk_at "rp") => `(tactic| first
  | with_reducible exact rfl
  | with_reducible exact rp1
  | with_reducible exact rp2
  | with_reducible exact rp3
  | with_reducible exact rp4
  | with_reducible exact rp5
  | with_reducible exact rp6
  | with_reducible exact rp7
  | with_reducible exact rp8
  | with_reducible exact rp9
  | with_reducible exact rp10
  | with_reducible exact rp11
  | with_reducible exact rp12
  | with_reducible exact rp13)
local macro_rules | `(tactic| walk_at "sl2") => `(tactic| (with_reducible refine' hd_q ?h ?e; (case h => walk_at "sl"); (case e => walk_at "rp")))
local macro_rules | `(tactic| walk_at "sl3") => `(tactic| (with_reducible refine' hd_q3 ?h ?e ?e2; (case h => walk_at "sl"); (case e => walk_at "rp"); (case e2 => walk_at "rp")))
local macro_rules | `(tactic| walk_at "sl4") => `(tactic| (with_reducible refine' hd_q4 ?h ?e ?e2 ?e3; (case h => walk_at "sl"); (case e => walk_at "rp"); (case e2 => walk_at "rp"); (case e3 => walk_at "rp")))
local macro_rules | `(tactic| walk_at "fs") => `(tactic| first
  | with_reducible exact sub_refl
  | with_reducible exact sub_emp
  | (with_reducible refine sub_keep ?_; walk_at "fs")
  | (with_reducible refine sub_eq rp1 (sub_keep ?_); walk_at "fs")
  | (with_reducible refine sub_eq rp2 (sub_keep ?_); walk_at "fs")
  | (with_reducible refine sub_eq rp3 (sub_keep ?_); walk_at "fs")
  | (with_reducible refine sub_eq rp4 (sub_keep ?_); walk_at "fs")
  | (with_reducible refine sub_eq rp5 (sub_keep ?_); walk_at "fs")
  | (with_reducible refine sub_eq rp6 (sub_keep ?_); walk_at "fs")
  | (with_reducible refine sub_eq rp7 (sub_keep ?_); walk_at "fs")
  | (with_reducible refine sub_eq rp8 (sub_keep ?_); walk_at "fs")
  | (with_reducible refine sub_eq rp9 (sub_keep ?_); walk_at "fs")
  | (with_reducible refine sub_eq rp10 (sub_keep ?_); walk_at "fs")
  | (with_reducible refine sub_eq rp11 (sub_keep ?_); walk_at "fs")
  | (with_reducible refine sub_eq rp12 (sub_keep ?_); walk_at "fs")
  | (with_reducible refine sub_eq rp13 (sub_keep ?_); walk_at "fs")
  | (with_reducible refine sub_drop ?_; walk_at "fs"))
local macro_rules | `(tactic| walk_at "fin") => `(tactic| first
  | with_reducible assumption
  | ((with_reducible refine' Hd.sub ?h ?s); (case h => with_reducible assumption); (case s => walk_at "fs")))
local macro_rules | `(tactic| walk_at "sq") => `(tactic| first | ((with_reducible refine' Hd.tp ?h); (case h => walk_at "sl")) | ((with_reducible refine' Hd.tqT ?h); (case h => walk_at "sl")) | ((with_reducible refine' Hd.fz ?h); (case h => walk_at "sl")) | ((with_reducible refine' SqL.of (Hd.pt ?h)); (case h => walk_at "sl")) | ((with_reducible refine' Hd.lsxq ?h); (case h => walk_at "sl")))
local macro_rules | `(tactic| walk_at "lk") => `(tactic| first | ((with_reducible refine' Hd.pt ?h); (case h => walk_at "sl")) | ((with_reducible refine' Hd.tq ?h); (case h => walk_at "sl")))
local macro_rules | `(tactic| walk_at "dp") => `(tactic| first | ((with_reducible refine' Hd.dv ?h); (case h => walk_at "sl")) | ((with_reducible refine' Hd.lsd ?h); (case h => walk_at "sl")) | with_reducible assumption | with_reducible exact .int _ | with_reducible exact .str _ | with_reducible exact .bl _ | with_reducible exact .non)
local macro_rules | `(tactic| walk_at "wp1") => `(tactic| first
  | with_reducible refine w_tupS ?_
  | with_reducible refine w_lstS ?_
  | with_reducible refine w_fldS ?_
  | with_reducible refine w_sfldS ?_
  | with_reducible refine w_methS ?_
  | with_reducible refine w_makeS ?_
  | ((with_reducible refine' w_sfldaugQ ?e ?k); (case e => exact rfl))
  | ((with_reducible refine' s_tup ?h ?k); (case h => with_reducible assumption); (intro _ _ _ _))
  | ((with_reducible refine' s_lst ?h ?k); (case h => with_reducible assumption); (intro _ _ _ _ _))
  | ((with_reducible refine' s_gf ?h ?l ?k); (case h => walk_at "sl"); (case l => walk_at "fl"))
  | ((with_reducible refine' s_gm ?h ?l ?k); (case h => walk_at "sl"); (case l => walk_at "fl"))
  | ((with_reducible refine' s_sf ?h ?l ?k); (case h => walk_at "sl"); (case l => walk_at "pl"); (intro _ _ _))
  | ((with_reducible refine' s_sq ?h ?l ?k); (case h => walk_at "sl"); (case l => walk_at "pl"); (intro _ _ _))
  | ((with_reducible refine' s_append ?h ?l ?k); (case h => walk_at "sl"); (case l => first | exact Nat.le_of_ble_eq_true rfl | omega); (intro _ _ _))
  | ((with_reducible refine' s_pop0 ?h ?k); (case h => walk_at "sl"); (intro _ _ _))
  | ((with_reducible refine' s_set4_0 ?h ?k); (case h => walk_at "sl"); (intro _ _ _))
  | ((with_reducible refine' s_set4_1 ?h ?k); (case h => walk_at "sl"); (intro _ _ _))
  | ((with_reducible refine' s_set4_2 ?h ?k); (case h => walk_at "sl"); (intro _ _ _))
  | ((with_reducible refine' s_set4_3 ?h ?k); (case h => walk_at "sl"); (intro _ _ _))
  | ((with_reducible refine' s_setL ?h ?l ?k); (case h => walk_at "sl"); (case l => exact rfl); (intro _ _ _))
  | ((with_reducible refine' s_ixR ?h ?k); (case h => walk_at "sl"))
  | ((with_reducible refine' s_ixO ?h ?k); (case h => walk_at "sl"))
  | ((with_reducible refine' s_ixS0 ?h ?k); (case h => walk_at "sl"))
  | ((with_reducible refine' s_ixS1 ?h ?k); (case h => walk_at "sl"))
  | ((with_reducible refine' s_ixS2 ?h ?k); (case h => walk_at "sl"))
  | ((with_reducible refine' s_pop0D ?h ?k); (case h => walk_at "sl"); (intro _ _ _ _))
  | ((with_reducible refine' s_tyD ?h ?k); (case h => walk_at "sl"))
  | ((with_reducible refine' s_gmY ?h ?a ?b ?k); (case h => walk_at "sl"); (case a => decide +kernel); (case b => decide +kernel))
  | ((with_reducible refine' s_appendD ?h ?v ?n ?l ?k); (case h => walk_at "sl"); (case v => walk_at "dp"); (case n => first | with_reducible rfl | with_reducible exact noL_deed _ | with_reducible exact noL_letter _ | with_reducible exact noL_letter3 _ | with_reducible exact noL_ev _ | exact rfl); (case l => walk_at "le"); (intro _ _ _)))
local macro_rules | `(tactic| walk_at "le") => `(tactic| first | omega | (simp only [List.length_map, List.length_append, List.length_cons, List.length_nil]; omega))
section
variable {K : PySem.W.Frag} {vs : List V} {H H0 H' : Hp} {Q : VK} {E : XK} {X : Res}
theorem dps_shw {z : Bool} : ∀ {Ys : List Yd}, DpAll K H (Ys.map fun Y => V.str (ofL (Y.s z).text)) (shw Ys z)
  | [] => .nil
  | Y :: Ys => .cons (.str _) dps_shw
theorem ly_shw {Ys : List Yd} {z : Bool} (h : ∀ Y ∈ Ys, okL (Y.s z).text = true) : Ly 1 (.list (shw Ys z)) := ly_map fun Y hY => ly_okL (h Y hY)
theorem runs_oks {Y : Yd} {n : Nat} (h : Y.ok n) : ∀ {es : List Ev} {p}, (∀ e ∈ es, e.okc = true) → runs Y es = some p → ∀ y ∈ p.1, y.ok (n + es.length) := by
  intro es
  refine rev_ind (p := fun es => ∀ {p}, (∀ e ∈ es, e.okc = true) → runs Y es = some p → ∀ y ∈ p.1, y.ok (n + es.length)) ?_ ?_ es
  · intro p _ e y hy; cases e; rw [List.mem_singleton.mp hy]; exact h
  · intro es e ih p ho hp y hy
    have hl := runs_ok h ho hp
    rw [runs_snoc] at hp
    cases c : runs Y es with
    | none => rw [c] at hp; cases hp
    | some p0 =>
      rw [c] at hp
      have i := ih (fun x hx => ho x (List.mem_append_left _ hx)) c
      cases c2 : step p0.2 e with
      | none => simp [c2] at hp
      | some y0 =>
        simp [c2] at hp; subst hp
        rcases List.mem_append.mp hy with hy | hy
        · exact (i y hy).mono (by simp)
        · rw [List.mem_singleton.mp hy]; exact hl
theorem wide_map {α : Type} {f : α → PyData} (h : ∀ x, wideD (f x) = true) : ∀ l : List α, wideA (l.map f) = true
  | [] => rfl
  | x :: l => by rw [List.map_cons, wideA, h x, wide_map h l]; rfl
theorem s_list {a : Addr} {ds : List PyData} (h : Hd (ls K a ds ^ X) H) (k : ∀ p H', Same H H' → Hd (ls K p ds ^ ls K a ds ^ X) H' → Q (.ref p) H') : rListW K [.ref a] H Q := by
  obtain ⟨xs, e, d⟩ := h.ls
  exact .inl ⟨a, xs, rfl, .inl (SqL.of e), fun p hp => k p _ (same_new hp) (h.newL hp d h.lsn)⟩
namespace K78
theorem pr__law_right (h : sp__law_right K vs H Q E) : t__law_right K { nx := fun _ H' => Q .non H', rt := Q } (start N__law_right vs) H := by
  obtain ⟨l, a, w, es, p, X, rfl, hl, hll, h, he, hel, hr, k⟩ := h
  unfold t__law_right
  walk_at "wp"
  refine s_list h fun kp H1 s1 h1 => ?_
  walk_at "wp"
  refine frb_R (fun i σ H' => ∃ u v, Hd (ls K kp (es.map Ev.d) ^ ls K a (es.map Ev.d) ^ roR K w (shw p.1) ^ X) H' ∧ σ = [some (.str (ofL l)), some (.ref a), some (.ref w), some (.ref kp), u, v]) ⟨none, none, h1, rfl⟩ (fun i σ H' hi p' => ?_) (fun σ H' p' => ?_)
  · obtain ⟨u, v, h2, rfl⟩ := p'
    obtain ⟨z, hz⟩ := seat_of hi
    rw [hz]
    have oks := runs_oks (n := 1000) (Yd.ok_new hl hll) he hr
    have lsh : Ly 1 (.list (shw p.1 z)) := ly_shw fun Y hY => ((oks Y hY).tx z).1
    have hpl := runs_len hr
    obtain ⟨r, h2⟩ := Hd.ro z (by walk_at "sl" : Hd (roR K w (shw p.1) ^ _) H')
    walk_at "wp"
    refine ⟨l, _, es, z, p, rfl, hl, hll, by walk_at "dp", he, hel, hr, fun q H3 s3 hq e3 => ?_⟩
    have h3 := h2.gotP s3 hq e3
    walk_at "wp"
    refine ⟨_, _, .list (shw p.1 z), rfl, .lst (SqL.of h3.pt) dps_shw, by walk_at "dp", lsh.mono (by decide), ?_, fun H4 s4 => ?_⟩
    · rw [wideD, Bool.and_eq_true]
      exact ⟨decide_eq_true (by unfold shw; rw [List.length_map]; omega), wide_map (fun _ => rfl) _⟩
    have h4 := h3.same s4
    walk_at "wp"
    have lyE : Ly 3 (.list (es.map Ev.d)) := ly_map fun e h => ly_ev (he e h)
    refine w_neLy (k := 3) ?_ (by walk_at "dp") (by walk_at "dp") lyE lyE (by decide)
    rw [lyE.self]
    obtain ⟨Y0, Yt, hY⟩ : ∃ Y0 Yt, p.1 = Y0 :: Yt := by
      cases c : p.1 with
      | nil => rw [c] at hpl; simp at hpl
      | cons a b => exact ⟨a, b, rfl⟩
    have hml : (p.1.map fun Y => V.str (ofL (Y.s z).text)).length ≤ 100000 := by rw [List.length_map]; omega
    walk_at "wp"
    rename_i H5 t5 h5
    refine s_setL (n := 0) h5 (by unfold ixN; rw [if_pos (by decide), if_pos (by simp; try omega)]; first | done | rfl) fun H6 t6 h6 => ?_
    walk_at "wp"
    refine ⟨l, _, es, z, p, rfl, hl, hll, by walk_at "dp", he, hel, hr, fun q' H7 s7 hq7 e7 => ?_⟩
    have h7 := h6.gotP s7 hq7 e7
    walk_at "wp"
    refine w_neLy (k := 1) ?_ (.lst (SqL.of h7.pt) dps_shw) (by walk_at "dp") lsh lsh (by decide)
    rw [lsh.self]
    walk_at "wp"
    exact ⟨_, _, hd_eq (Hd.mkRo' (z := z) (r := r) (K := K) (R := shw p.1) (X := ls K kp (es.map Ev.d) ^ ls K a (es.map Ev.d) ^ X) (by walk_at "fin")) (by ac_rfl), rfl⟩
  · obtain ⟨u, v, h2, rfl⟩ := p'
    walk_at "wp"
    exact k _ (by walk_at "fin")
theorem pr_law (h : sp_law K vs H Q E) : t_law K { nx := fun _ H' => Q .non H', rt := Q } (start N_law vs) H := by
  obtain ⟨a, ns, rfl, hs, hl, k⟩ := h
  have h0 := hd_fz hs
  unfold t_law
  walk_at "wp"
  refine c_draws h0 (by omega) fun d H1 h1 => ?_
  have h1 := h1.sub sub_fst
  walk_at "wp"
  refine w_drawn (d := d) (N := 4) (fun many σ H' => ∃ u v w, Hd (dr d ^ emp) H' ∧ σ = [some (.ref a), some (.ref d), some (.int (many : Int)), u, v, w]) (by decide) ⟨none, none, none, hd_eq (Hd.emp h1) (star_comm _ _), rfl⟩
    (fun many σ H h => ?_) (fun many σ H H' h s => ?_) (fun many σ H h hm => ?_) (fun many σ H h hm h1m => ?_)
  · obtain ⟨u, v, w, h, rfl⟩ := h
    exact ⟨rfl, rfl, _, h⟩
  · obtain ⟨u, v, w, h, rfl⟩ := h
    exact ⟨u, v, w, h.same s, rfl⟩
  · obtain ⟨u, v, w, h, rfl⟩ := h
    walk_at "wp"
    refine c_line h fun l H2 hl hll h2 => ?_
    walk_at "wp"
    refine c_take h2 (by decide) fun x H3 hx h3 => ?_
    walk_at "wp"
    refine c_take h3 (by decide) fun y H4 hy h4 => ?_
    walk_at "wp"
    rename_i p H5 s5 n5 h5
    refine c_take (by walk_at "sl") (by decide) fun t H6 ht h6 => ?_
    obtain ⟨m, hm, hm2⟩ : ∃ m : Nat, atI [V.int (x : Int), V.int (20 + (y : Int))] (if decide ((t : Int) = 1) = true then 1 else 0) = some (.int (m : Int)) ∧ m ≤ 100 := by
      by_cases c : (t : Int) = 1
      · rw [decide_eq_true c, if_pos rfl]
        exact ⟨20 + y, by simp [atI, ixN], by omega⟩
      · rw [decide_eq_false c, if_neg Bool.false_ne_true]
        exact ⟨x, by simp [atI, ixN], by omega⟩
    walk_at "wp"
    refine w_ixL ?_ (by walk_at "sq") hm
    walk_at "wp"
    refine c_story (by walk_at "sl") hl (by omega) (by omega) fun q es p H7 he hel hr h7 => ?_
    walk_at "wp"
    refine ⟨l, q, es, _, rfl, hl, by omega, by walk_at "sl", he, by omega, ?_⟩
    rw [hr]
    refine fun w H8 h8 => ?_
    walk_at "wp"
    refine ⟨l, q, w, es, p, _, rfl, hl, by omega, by walk_at "sl2", he, by omega, hr, fun H9 h9 => ?_⟩
    walk_at "wp"
    refine ⟨_, _, _, ?_, rfl⟩
    walk_at "fin"
  · obtain ⟨u, v, w, h, rfl⟩ := h
    walk_at "wp"
    rename_i p0 _ _ _ _ _ _ _ _ _ _ _ _ _ _ w' G _ _ hG
    have eab : Str.ofString "ab" = ofL [97, 98] := by decide +kernel
    rw [eab] at hG ⊢
    have g := hd_mkRo2 (K := K) (R := shw [Yd.new [97, 98]]) hG (.cons (.str _) .nil) (.cons (.str _) .nil) rfl rfl
    have g : Hd (ls K p0 (([] : List Ev).map Ev.d) ^ roR K w' (shw [Yd.new [97, 98]]) ^ emp) G := Hd.toL (by walk_at "fin") .nil rfl
    exact ⟨_, p0, w', [], ([Yd.new [97, 98]], Yd.new [97, 98]), emp, rfl, by decide, by decide, g, fun e he => (List.not_mem_nil he).elim, by decide, rfl, fun H' _ => k H'⟩
end K78
end
end FL

namespace FL
open PySem PySem.Spec PyProof.Rows L2 CwR TL
local macro_rules | `(tactic| walk_at "tls") => `(tactic| (simp only [TL.tl_append, TL.tl_num, tl_ofL, tl_sgn, tl_empty, List.nil_append, List.append_nil, List.cons_append, List.append_assoc]))
local macro_rules | `(tactic| walk_at "szt") => `(tactic| (simp only [len_ofL, TL.len_tl, TL.tl_append, TL.tl_num, tl_ofL, tl_sgn, tl_empty, List.length_append, List.length_cons, List.length_nil]; omega))
local macro_rules | `(tactic| walk_at "beta") => `(tactic| (try dsimp only [List.set_cons_zero, List.set_cons_succ]))
local macro_rules | `(tactic| walk_at "sq") => `(tactic| first | assumption | exact SqL.of upd_same | exact SqT.of upd_same | exact SqL.of (by assumption) | exact SqT.of (by assumption) | ((with_reducible refine' sq_updI ?h ?s); (case h => walk_at "lk"); (case s => walk_at "sq")) | ((with_reducible refine' sq_updL ?h ?s); (case h => walk_at "lk"); (case s => walk_at "sq")) | ((with_reducible refine' sq_new ?h ?s); (case h => assumption); (case s => walk_at "sq")) | exact SqL.of (by walk_at "lk"))
local macro_rules | `(tactic| walk_at "lk") => `(tactic| first | assumption | exact upd_same | (refine Eq.trans (upd_ne (by assumption)) ?_; walk_at "lk"))
local macro_rules | `(tactic| walk_at "fl") => `(tactic| first | with_reducible exact l_text | with_reducible exact l_ahead | with_reducible exact l_made | with_reducible exact l_taken | with_reducible exact l_heard | with_reducible exact l_wait | with_reducible exact l_own | with_reducible exact l_far | exact l_no (by decide +kernel) | exact two_l1 | exact two_l2 (by decide +kernel) | exact two_no (by decide +kernel) (by decide +kernel))
local macro_rules | `(tactic| walk_at "pl") => `(tactic| first | with_reducible exact p_text | with_reducible exact p_made | with_reducible exact p_taken | with_reducible exact p_heard | with_reducible exact p_wait | with_reducible exact p_own | with_reducible exact p_far | with_reducible exact i_1 | with_reducible exact i_2 | with_reducible exact i_3 | with_reducible exact i_4 | with_reducible exact i_5 | with_reducible exact i_6 | with_reducible exact i_7 | with_reducible exact i_8 | exact ⟨put_past (by decide +kernel), Nat.le_of_ble_eq_true rfl⟩ | exact ⟨rfl, Nat.le_of_ble_eq_true rfl⟩)
local macro_rules | `(tactic| walk_at "wp1") => `(tactic| first
  | with_reducible refine w_seq ?_
  | with_reducible refine w_set ?_
  | ((with_reducible refine' w_var ?e ?k); (case e => exact rfl))
  | with_reducible refine w_c ?_
  | with_reducible refine w_op ?_
  | with_reducible refine w_ret ?_
  | with_reducible refine w_if ?_
  | with_reducible refine w_test ?_
  | with_reducible refine w_bl ?_
  | with_reducible refine w_cons ?_
  | with_reducible refine w_nil ?_
  | with_reducible refine w_call ?_
  | with_reducible refine w_cb ?_
  | with_reducible refine w_next ?_
  | with_reducible refine w_drop ?_
  | with_reducible refine w_asg ?_
  | with_reducible refine w_and ?_
  | with_reducible refine w_or ?_
  | with_reducible refine w_not ?_
  | with_reducible refine w_ifE ?_
  | with_reducible refine w_tB ?_
  | with_reducible refine iteT ?_
  | with_reducible refine iteF ?_
  | with_reducible refine w_addI ?_
  | with_reducible refine w_subI ?_
  | with_reducible refine w_ltI ?_
  | with_reducible refine w_leI ?_
  | with_reducible refine w_gtI ?_
  | with_reducible refine w_geI ?_
  | with_reducible refine w_eqI ?_
  | with_reducible refine w_neI ?_
  | with_reducible refine w_eqS ?_
  | with_reducible refine w_neS ?_
  | with_reducible refine w_is ?_
  | with_reducible refine w_isNot ?_
  | with_reducible refine w_intI ?_
  | with_reducible refine w_intB ?_
  | with_reducible refine w_inC ?_
  | with_reducible refine w_niC ?_
  | ((with_reducible refine' w_ixL ?k ?h ?x); (case h => walk_at "sq"); (case x => rfl))
  | ((with_reducible refine' w_ixT ?k ?h ?x); (case h => walk_at "sq"); (case x => rfl))
  | ((with_reducible refine w_modI ?k ?c); (case c => first | omega | with_reducible assumption | decide))
  | ((with_reducible refine w_divI ?k ?c); (case c => exact ⟨by omega, by omega⟩))
  | ((with_reducible refine w_mulI ?k ?c); (case c => first | exact .inl ⟨by omega, by omega⟩ | exact .inr ⟨by omega, by omega⟩))
  | ((with_reducible refine w_powI ?k ?c); (case c => exact ⟨by decide, by decide, by decide⟩))
  | ((with_reducible refine' w_lenL ?k ?h); (case h => walk_at "sq"))
  | ((with_reducible refine' w_lenT ?k ?h); (case h => walk_at "sq"))
  | ((with_reducible refine w_len ?h ?k); (case h => exact Nat.le_of_ble_eq_true rfl))
  | ((with_reducible refine w_decTS ?h ?k); (case h => exact rfl))
  | ((with_reducible refine w_decFS ?h ?k); (case h => decide +kernel))
  | ((with_reducible refine w_ndecTS ?h ?k); (case h => exact rfl))
  | ((with_reducible refine w_ndecFS ?h ?k); (case h => decide +kernel))
  | ((with_reducible refine w_sz ?h ?k); (case h => walk_at "szt"))
  | ((with_reducible refine w_addS' ?k ?h); (case h => walk_at "szt"))
  | ((with_reducible refine w_strI' ?k ?h); (case h => omega))
  | ((with_reducible refine w_fmtN (A := True) ?h ?k); (case h => omega))
  | with_reducible refine w_chain ?_
  | with_reducible refine w_for ?_
  | with_reducible refine w_lc ?_
  | ((with_reducible refine w_rng ?h ?k); (case h => exact ⟨by omega, by omega⟩))
  | with_reducible refine w_iStr ?_
  | with_reducible refine w_iList ?_
  | with_reducible refine w_iRng1 ?_
  | with_reducible refine w_exR ?_
  | ((with_reducible refine' w_exSqL ?h ?k); (case h => walk_at "sq"))
  | ((with_reducible refine w_lenS ?k ?h); (case h => refine Nat.le_trans ?_ (by decide : 1000000 ≤ sizeLine); walk_at "szt"))
  | ((with_reducible refine w_slS ?k ?h); (case h => refine Nat.le_trans ?_ (by decide : 1000000 ≤ sizeLine); walk_at "szt"))
  | with_reducible refine w_nT ?_
  | with_reducible refine w_nF ?_
  | with_reducible refine w_un ?_
  | with_reducible refine w_negI ?_
  | with_reducible refine w_bm ?_
  | with_reducible refine w_bm0 ?_
  | ((with_reducible refine' w_tyL ?h ?k); (case h => walk_at "sq"))
  | ((with_reducible refine' w_append ?p ?l ?k); (case p => walk_at "lk"); (case l => first | exact Nat.le_of_ble_eq_true rfl | omega))
  | with_reducible refine w_gsub ?_
  | with_reducible refine w_gname ?_
  | ((with_reducible refine' w_set4_0 ?p ?k); (case p => walk_at "lk"))
  | ((with_reducible refine' w_set4_1 ?p ?k); (case p => walk_at "lk"))
  | ((with_reducible refine' w_set4_2 ?p ?k); (case p => walk_at "lk"))
  | ((with_reducible refine' w_set4_3 ?p ?k); (case p => walk_at "lk"))
  | ((with_reducible refine' w_setL ?p ?i ?k); (case p => walk_at "lk"); (case i => exact rfl))
  | with_reducible refine w_tup ?_
  | with_reducible refine w_lst ?_
  | with_reducible refine w_sl ?_
  | with_reducible refine w_noPart ?_
  | with_reducible refine w_part ?_
  | with_reducible refine w_exI ?_
  | with_reducible refine w_exS ?_
  | with_reducible refine w_join ?_
  | with_reducible refine w_split ?_
  | with_reducible refine w_isS ?_
  | with_reducible refine w_joined ?_
  | with_reducible refine w_jsNil ?_
  | with_reducible refine w_jsCons ?_
  | with_reducible refine w_fmt ?_
  | with_reducible refine w_fmtI ?_
  | with_reducible refine w_repl ?_
  | with_reducible refine w_andV ?_
  | with_reducible refine w_orV ?_
  | with_reducible refine w_notV ?_
  | with_reducible refine w_retN ?_
  | with_reducible refine w_brk ?_
  | with_reducible refine w_cont ?_
  | ((with_reducible refine' w_yes (p := ((List.length (_ : List V) : Nat) : Int) = _) ?h ?k); (case h => exact of_decide_eq_true rfl))
  | ((with_reducible refine' w_yes (p := ((List.length (_ : List V) : Nat) : Int) < _) ?h ?k); (case h => exact of_decide_eq_true rfl))
  | ((with_reducible refine' w_yes (p := _ < ((List.length (_ : List V) : Nat) : Int)) ?h ?k); (case h => exact of_decide_eq_true rfl))
  | ((with_reducible refine' w_yes (p := _ = ((List.length (_ : List V) : Nat) : Int)) ?h ?k); (case h => exact of_decide_eq_true rfl))
  | ((with_reducible refine' w_yes (p := ((Str.length (sgn _) : Nat) : Int) = _) ?h ?k); (case h => exact of_decide_eq_true rfl))
  | ((with_reducible refine' w_no (p := ((List.length (_ : List V) : Nat) : Int) = _) ?h ?k); (case h => exact of_decide_eq_false rfl))
  | ((with_reducible refine' w_no (p := ((List.length (_ : List V) : Nat) : Int) < _) ?h ?k); (case h => exact of_decide_eq_false rfl))
  | ((with_reducible refine' w_no (p := _ < ((List.length (_ : List V) : Nat) : Int)) ?h ?k); (case h => exact of_decide_eq_false rfl))
  | ((with_reducible refine' w_no (p := _ = ((List.length (_ : List V) : Nat) : Int)) ?h ?k); (case h => exact of_decide_eq_false rfl))
  | ((with_reducible refine' w_no (p := ((Str.length (sgn _) : Nat) : Int) = _) ?h ?k); (case h => exact of_decide_eq_false rfl))
  | ((with_reducible refine' w_nyes (p := ((List.length (_ : List V) : Nat) : Int) = _) ?h ?k); (case h => exact of_decide_eq_true rfl))
  | ((with_reducible refine' w_nyes (p := ((List.length (_ : List V) : Nat) : Int) < _) ?h ?k); (case h => exact of_decide_eq_true rfl))
  | ((with_reducible refine' w_nyes (p := _ < ((List.length (_ : List V) : Nat) : Int)) ?h ?k); (case h => exact of_decide_eq_true rfl))
  | ((with_reducible refine' w_nyes (p := _ = ((List.length (_ : List V) : Nat) : Int)) ?h ?k); (case h => exact of_decide_eq_true rfl))
  | ((with_reducible refine' w_nyes (p := ((Str.length (sgn _) : Nat) : Int) = _) ?h ?k); (case h => exact of_decide_eq_true rfl))
  | ((with_reducible refine' w_nno (p := ((List.length (_ : List V) : Nat) : Int) = _) ?h ?k); (case h => exact of_decide_eq_false rfl))
  | ((with_reducible refine' w_nno (p := ((List.length (_ : List V) : Nat) : Int) < _) ?h ?k); (case h => exact of_decide_eq_false rfl))
  | ((with_reducible refine' w_nno (p := _ < ((List.length (_ : List V) : Nat) : Int)) ?h ?k); (case h => exact of_decide_eq_false rfl))
  | ((with_reducible refine' w_nno (p := _ = ((List.length (_ : List V) : Nat) : Int)) ?h ?k); (case h => exact of_decide_eq_false rfl))
  | ((with_reducible refine' w_nno (p := ((Str.length (sgn _) : Nat) : Int) = _) ?h ?k); (case h => exact of_decide_eq_false rfl))
  | ((with_reducible refine' w_no (p := (V.ref _ = V.non)) ?h ?k); (case h => intro z9; cases z9))
  | ((with_reducible refine' w_yes (p := (V.non = V.non)) ?h ?k); (case h => rfl))
  | with_reducible refine w_fldC ?_
  | with_reducible refine w_make ?_
  | ((with_reducible refine' w_fldR ?h ?l ?k); (case h => walk_at "lk"); (case l => walk_at "fl"))
  | with_reducible refine w_sfldC ?_
  | ((with_reducible refine' w_sfldR ?h ?l ?k); (case h => walk_at "lk"); (case l => walk_at "pl"))
  | ((with_reducible refine' w_sfldR2 ?h ?l ?k); (case h => walk_at "lk"); (case l => first | exact p_len | exact Nat.le_of_ble_eq_true rfl); (first | rw [p_far.1] | rw [p_text.1] | rw [p_own.1] | rw [p_wait.1] | rw [p_heard.1] | rw [p_made.1] | rw [p_taken.1]))
  | with_reducible refine w_sfldaugC ?_
  | with_reducible refine w_addR ?_
  | with_reducible refine w_subR ?_
  | ((with_reducible refine' w_sfldQ ?h ?l ?k); (case h => walk_at "lk"); (case l => walk_at "pl"))
  | with_reducible refine w_meth ?_
  | ((with_reducible refine' w_methR ?h ?l ?k); (case h => walk_at "lk"); (case l => walk_at "fl"))
  | with_reducible refine w_kget ?_
  | ((with_reducible refine' w_gtup ?h ?l ?k); (case h => walk_at "sq"); (case l => exact rfl))
  | with_reducible refine w_gcons ?_
  | with_reducible refine w_gnil ?_
  | with_reducible refine w_isiII ?_
  | with_reducible refine w_isiIB ?_
  | with_reducible refine w_isiSS ?_
  | ((with_reducible refine' w_isiTT ?h ?k); (case h => walk_at "sq"))
  | ((with_reducible refine' w_isiLL ?h ?k); (case h => walk_at "sq"))
  | with_reducible refine w_ipI ?_
  | with_reducible refine w_par ?_
  | with_reducible refine w_par3 ?_
  | with_reducible refine w_parR ?_
  | with_reducible refine w_parR3 ?_
  | with_reducible refine w_aug ?_
  | ((with_reducible refine' w_var2 ?e ?k); (case e => exact rfl))
  | ((with_reducible refine' w_insL ?p ?l ?k); (case p => walk_at "lk"); (case l => first | omega | decide))
  | rw [kg_put]
  | rw [kg_cut]
  | rw [kg_non])
local macro_rules | `(tactic| walk_at "wp") => `(tactic| ((try dsimp only); (repeat walk_at "wp1"); (walk_at "beta")))
local macro_rules | `(tactic| walk_at "as") => `(tactic| with_reducible assumption)
local macro_rules | `(tactic| walk_at "sl") => `(tactic| (with_reducible refine' hd_eq ?h ?e; (case h => with_reducible assumption); (case e => walk_at "rp")))
local macro_rules | `(tactic| walk_at "rp") => `(tactic| first
  | with_reducible exact rfl
  | with_reducible exact rp1
  | with_reducible exact rp2
  | with_reducible exact rp3
  | with_reducible exact rp4
  | with_reducible exact rp5
  | with_reducible exact rp6
  | with_reducible exact rp7
  | with_reducible exact rp8
  | with_reducible exact rp9
  | with_reducible exact rp10
  | with_reducible exact rp11
  | with_reducible exact rp12
  | with_reducible exact rp13)
local macro_rules | `(tactic| walk_at "sl2") => `(tactic| (with_reducible refine' hd_q ?h ?e; (case h => walk_at "sl"); (case e => walk_at "rp")))
local macro_rules | `(tactic| walk_at "sl3") => `(tactic| (with_reducible refine' hd_q3 ?h ?e ?e2; (case h => walk_at "sl"); (case e => walk_at "rp"); (case e2 => walk_at "rp")))
local macro_rules | `(tactic| walk_at "sl4") => `(tactic| (with_reducible refine' hd_q4 ?h ?e ?e2 ?e3; (case h => walk_at "sl"); (case e => walk_at "rp"); (case e2 => walk_at "rp"); (case e3 => walk_at "rp")))
local macro_rules | `(tactic| walk_at "fs") => `(tactic| first
  | with_reducible exact sub_refl
  | with_reducible exact sub_emp
  | (with_reducible refine sub_keep ?_; walk_at "fs")
  | (with_reducible refine sub_eq rp1 (sub_keep ?_); walk_at "fs")
  | (with_reducible refine sub_eq rp2 (sub_keep ?_); walk_at "fs")
  | (with_reducible refine sub_eq rp3 (sub_keep ?_); walk_at "fs")
  | (with_reducible refine sub_eq rp4 (sub_keep ?_); walk_at "fs")
  | (with_reducible refine sub_eq rp5 (sub_keep ?_); walk_at "fs")
  | (with_reducible refine sub_eq rp6 (sub_keep ?_); walk_at "fs")
  | (with_reducible refine sub_eq rp7 (sub_keep ?_); walk_at "fs")
  | (with_reducible refine sub_eq rp8 (sub_keep ?_); walk_at "fs")
  | (with_reducible refine sub_eq rp9 (sub_keep ?_); walk_at "fs")
  | (with_reducible refine sub_eq rp10 (sub_keep ?_); walk_at "fs")
  | (with_reducible refine sub_eq rp11 (sub_keep ?_); walk_at "fs")
  | (with_reducible refine sub_eq rp12 (sub_keep ?_); walk_at "fs")
  | (with_reducible refine sub_eq rp13 (sub_keep ?_); walk_at "fs")
  | (with_reducible refine sub_drop ?_; walk_at "fs"))
local macro_rules | `(tactic| walk_at "fin") => `(tactic| first
  | with_reducible assumption
  | ((with_reducible refine' Hd.sub ?h ?s); (case h => with_reducible assumption); (case s => walk_at "fs")))
local macro_rules | `(tactic| walk_at "sq") => `(tactic| first | ((with_reducible refine' Hd.tp ?h); (case h => walk_at "sl")) | ((with_reducible refine' Hd.tqT ?h); (case h => walk_at "sl")) | ((with_reducible refine' Hd.fz ?h); (case h => walk_at "sl")) | ((with_reducible refine' SqL.of (Hd.pt ?h)); (case h => walk_at "sl")) | ((with_reducible refine' Hd.lsxq ?h); (case h => walk_at "sl")))
local macro_rules | `(tactic| walk_at "lk") => `(tactic| first | ((with_reducible refine' Hd.pt ?h); (case h => walk_at "sl")) | ((with_reducible refine' Hd.tq ?h); (case h => walk_at "sl")))
local macro_rules | `(tactic| walk_at "dp") => `(tactic| first | ((with_reducible refine' Hd.dv ?h); (case h => walk_at "sl")) | ((with_reducible refine' Hd.lsd ?h); (case h => walk_at "sl")) | with_reducible assumption | with_reducible exact .int _ | with_reducible exact .str _ | with_reducible exact .bl _ | with_reducible exact .non)
local macro_rules | `(tactic| walk_at "wp1") => `(tactic| first
  | with_reducible refine w_tupS ?_
  | with_reducible refine w_lstS ?_
  | with_reducible refine w_fldS ?_
  | with_reducible refine w_sfldS ?_
  | with_reducible refine w_methS ?_
  | with_reducible refine w_makeS ?_
  | ((with_reducible refine' w_sfldaugQ ?e ?k); (case e => exact rfl))
  | ((with_reducible refine' s_tup ?h ?k); (case h => with_reducible assumption); (intro _ _ _ _))
  | ((with_reducible refine' s_lst ?h ?k); (case h => with_reducible assumption); (intro _ _ _ _ _))
  | ((with_reducible refine' s_gf ?h ?l ?k); (case h => walk_at "sl"); (case l => walk_at "fl"))
  | ((with_reducible refine' s_gm ?h ?l ?k); (case h => walk_at "sl"); (case l => walk_at "fl"))
  | ((with_reducible refine' s_sf ?h ?l ?k); (case h => walk_at "sl"); (case l => walk_at "pl"); (intro _ _ _))
  | ((with_reducible refine' s_sq ?h ?l ?k); (case h => walk_at "sl"); (case l => walk_at "pl"); (intro _ _ _))
  | ((with_reducible refine' s_append ?h ?l ?k); (case h => walk_at "sl"); (case l => first | exact Nat.le_of_ble_eq_true rfl | omega); (intro _ _ _))
  | ((with_reducible refine' s_pop0 ?h ?k); (case h => walk_at "sl"); (intro _ _ _))
  | ((with_reducible refine' s_set4_0 ?h ?k); (case h => walk_at "sl"); (intro _ _ _))
  | ((with_reducible refine' s_set4_1 ?h ?k); (case h => walk_at "sl"); (intro _ _ _))
  | ((with_reducible refine' s_set4_2 ?h ?k); (case h => walk_at "sl"); (intro _ _ _))
  | ((with_reducible refine' s_set4_3 ?h ?k); (case h => walk_at "sl"); (intro _ _ _))
  | ((with_reducible refine' s_setL ?h ?l ?k); (case h => walk_at "sl"); (case l => exact rfl); (intro _ _ _))
  | ((with_reducible refine' s_ixR ?h ?k); (case h => walk_at "sl"))
  | ((with_reducible refine' s_ixO ?h ?k); (case h => walk_at "sl"))
  | ((with_reducible refine' s_ixS0 ?h ?k); (case h => walk_at "sl"))
  | ((with_reducible refine' s_ixS1 ?h ?k); (case h => walk_at "sl"))
  | ((with_reducible refine' s_ixS2 ?h ?k); (case h => walk_at "sl"))
  | ((with_reducible refine' s_pop0D ?h ?k); (case h => walk_at "sl"); (intro _ _ _ _))
  | ((with_reducible refine' s_tyD ?h ?k); (case h => walk_at "sl"))
  | ((with_reducible refine' s_gmY ?h ?a ?b ?k); (case h => walk_at "sl"); (case a => decide +kernel); (case b => decide +kernel))
  | ((with_reducible refine' s_appendD ?h ?v ?n ?l ?k); (case h => walk_at "sl"); (case v => walk_at "dp"); (case n => first | with_reducible rfl | with_reducible exact noL_deed _ | with_reducible exact noL_letter _ | with_reducible exact noL_letter3 _ | with_reducible exact noL_ev _ | exact rfl); (case l => walk_at "le"); (intro _ _ _)))
local macro_rules | `(tactic| walk_at "le") => `(tactic| first | omega | (simp only [List.length_map, List.length_append, List.length_cons, List.length_nil]; omega))
section
variable {K : PySem.W.Frag} {vs : List V} {H H0 H' : Hp} {Q : VK} {E : XK} {X Z : Res} {p : Addr} {ds : List PyData}
/-- over enumerate of a list -/
theorem frb_E {g : TG} {tb : TS} {D : Ends} {σ : L2.St} {a : Addr} {xs : List V} (Pv : Nat → L2.St → Hp → Prop) (h0 : Pv 0 σ H) (hl : ∀ i σ H, i ≤ xs.length → Pv i σ H → SqL K H a xs)
    (hs : ∀ (i : Nat) x σ H T, xs[i]? = some x → Pv i σ H → H T = none → g (.ref T) σ (upd H T (.tup [.int (i : Int), x])) fun σ2 H2 => tb { D with nx := Pv (i + 1), ct := Pv (i + 1), bk := D.nx } σ2 H2) (hd : ∀ σ H, Pv xs.length σ H → D.nx σ H) : FrB (Ite K a) g tb D σ H := by
  refine ⟨fun i m σ H => m = xs.length - i ∧ i ≤ xs.length ∧ Pv i σ H, ⟨xs.length, by simp, Nat.zero_le _, h0⟩, ?_⟩
  rintro i m σ H ⟨rfl, hi, p⟩
  have q := hl i σ H hi p
  by_cases hlt : i < xs.length
  · refine .inr ⟨⟨xs, xs[i], q, by simp [hlt]⟩, Pv (i + 1), fun σ' H' p' => ⟨xs.length - (i + 1), by omega, rfl, hlt, p'⟩, fun y H' e => ?_⟩
    obtain ⟨T, x, rfl, hT, rfl, hx⟩ := e
    exact hs i x σ H T (hx xs q) p hT
  · have e : i = xs.length := by omega
    subst e
    exact .inl ⟨⟨xs, q, Nat.le_refl _⟩, hd σ H p⟩
theorem w_iEnum {ta : TA} {σ : L2.St} {R : It → Hp → Prop} (h : ta σ H fun vs H1 => ∃ a xs, vs = [.ref a] ∧ SqL K H1 a xs ∧ R (Ite K a) H1) : iEnum K ta σ H R := h
theorem own_snoc {z : Bool} {Y Yi : Yd} {a : List Ev} {e : Ev} (h : fin Y a = some Yi) : own z Y (a ++ [e]) = own z Y a ++ if e.z = z then [(e, ((Yi.go e).s z).text)] else [] := by
  rw [own_app z a [e] h, own, own]
def pD (p : Ev × Ln) : PyData := .tuple [p.1.d, .str (ofL p.2)]
theorem noL_pD (p : Ev × Ln) : noL (pD p) = true := by unfold pD; rw [noL, noLs, noL_ev]; rfl
namespace K82
theorem pr__law_own (h : sp__law_own K vs H Q E) : t__law_own K { nx := fun _ H' => Q .non H', rt := Q } (start N__law_own vs) H := by
  obtain ⟨l, a, es, z, X, Z, rfl, hl, hll, h, he, hel, hf, k⟩ := h
  obtain ⟨Ys, hr⟩ := some_fin hf
  have hYl := runs_len hr
  simp only at hYl
  unfold t__law_own
  walk_at "wp"
  refine ⟨l, _, es, z, _, rfl, hl, hll, by walk_at "dp", he, hel, hr, fun t H1 s1 ht e1 => ?_⟩
  obtain ⟨ws, h1⟩ := (h.gotP s1 ht e1 |> hp1).lsX
  walk_at "wp"
  rename_i f H2 s2 nf h2
  have h2 : Hd (ls K f (((own z (Yd.new l) (es.take 0)).map pD)) ^ lsx K a ws (es.map Ev.d) ^ pt t (.lst (Ys.map fun Y => V.str (ofL (Y.s z).text))) ^ X) H2 := Hd.toL h2 .nil rfl
  refine w_iEnum ?_
  walk_at "wp"
  refine ⟨a, ws, rfl, (hp1 h2).lsxq, ?_⟩
  have hlen := dps_len (hp1 h2).lsx.2
  rw [List.length_map] at hlen
  refine frb_E (xs := ws) (fun i σ H' => ∃ u v, Hd (ls K f (((own z (Yd.new l) (es.take i)).map pD)) ^ lsx K a ws (es.map Ev.d) ^ pt t (.lst (Ys.map fun Y => V.str (ofL (Y.s z).text))) ^ X) H' ∧ σ = [some (.str (ofL l)), some (.ref a), some (.int (ixZ z)), some (.ref t), some (.ref f), u, v]) ⟨none, none, h2, rfl⟩ (fun i σ H' _ p => ?_) (fun i x σ H' T hi p hT => ?_) (fun σ H' p => ?_)
  · obtain ⟨u, v, h, rfl⟩ := p
    exact (hp1 h).lsxq
  · obtain ⟨u, v, h, rfl⟩ := p
    obtain ⟨e, hei, hex⟩ := dps_at (hp1 h).lsx.2 hi
    have ilt := (List.getElem?_eq_some_iff.mp hei).1
    obtain ⟨Yi, y1, y2⟩ := runs_at hr (Nat.le_of_lt ilt)
    obtain ⟨Yj, y3, y4⟩ := runs_at hr ilt
    have hcan : Yi.can e = true ∧ Yj = Yi.go e := by
      rw [take_snoc hei, fin_app, y2] at y4
      have y5 : fin Yi [e] = some Yj := y4
      rw [fin] at y5
      split at y5
      · rename_i hc; cases y5; exact ⟨hc, rfl⟩
      · cases y5
    obtain ⟨hc, rfl⟩ := hcan
    have hown := own_snoc (z := z) (e := e) y2
    rw [← take_snoc hei] at hown
    have hT2 := ((h.same (same_new (o := .tup [.int (i : Int), x]) hT)).addQ (a := T) (xs := [.int (i : Int), x]) upd_same)
    have hex2 := dp_same (same_new (o := .tup [.int (i : Int), x]) hT) hex
    have g := hT2.addD hex2 (noL_ev e)
    generalize upd H' T _ = G at hT2 hex2 g ⊢
    clear hT2 h
    have hown' : (own z (Yd.new l) (es.take i)).length ≤ i := by
      have : ∀ (l : List Ev) (Y : Yd), (own z Y l).length ≤ l.length := by
        intro l; induction l with
        | nil => intro Y; exact Nat.le_refl _
        | cons x l ih => intro Y; rw [own]; split <;> simp <;> (have := ih (Y.go x); omega)
      exact Nat.le_trans (this _ _) (by rw [List.length_take]; omega)
    obtain ⟨xa, xs, rfl, xs1, x0, x1⟩ := dv_kz hex2
    refine w_gtup (a := T) (xs := [.int (i : Int), .ref xa]) (by walk_at "sq") rfl ?_
    walk_at "wp"
    refine w_ixT ?_ xs1 x1
    walk_at "wp"
    have t1 : ((Ys.map fun Y => V.str (ofL (Y.s z).text)))[i]? = some (V.str (ofL (Yi.s z).text)) := by rw [List.getElem?_map, y1]; rfl
    have t2 : ((Ys.map fun Y => V.str (ofL (Y.s z).text)))[i + 1]? = some (V.str (ofL ((Yi.go e).s z).text)) := by rw [List.getElem?_map, y3]; rfl
    have t2' : atI (Ys.map fun Y => V.str (ofL (Y.s z).text)) ((i : Int) + 1) = some (V.str (ofL ((Yi.go e).s z).text)) := atI_nat (j := i + 1) t2
    refine w_dec (fun c => ?_) fun c => ?_
    · have hz : e.z = z := ixZ_inj.mp c
      rw [if_pos hz] at hown
      walk_at "wp"
      refine w_ixL ?_ (by walk_at "sq") t2'
      walk_at "wp"
      rename_i q G2 s3 g2
      have g3 := g2.addD (d := pD (e, ((Yi.go e).s z).text)) (.tup g2.tqT (.cons (dp_same s3 hex2) (.cons (.str _) .nil))) (noL_pD _)
      refine s_appendD (d := pD (e, ((Yi.go e).s z).text)) (ds := (own z (Yd.new l) (es.take i)).map pD) (by walk_at "sl") (by walk_at "dp") (noL_pD _) (by rw [List.length_map]; omega) fun G3 t3 g4 => ?_
      walk_at "wp"
      refine ⟨_, _, ?_, rfl⟩
      rw [hown, List.map_append, List.map_cons, List.map_nil]
      walk_at "fin"
    · have hz : e.z ≠ z := fun q => c (ixZ_inj.mpr q)
      rw [if_neg hz, List.append_nil] at hown
      walk_at "wp"
      refine w_ixL ?_ (by walk_at "sq") t2'
      walk_at "wp"
      refine w_ixL ?_ (by walk_at "sq") (atI_nat t1)
      rw [text_keep hc hz]
      walk_at "wp"
      refine ⟨_, _, ?_, rfl⟩
      rw [hown]
      walk_at "fin"
  · obtain ⟨u, v, h, rfl⟩ := p
    walk_at "wp"
    rw [hlen, List.take_length] at h
    refine k f H' ?_
    exact hd_eq (Hd.lsI (hd_eq h (star_left ..) |>.sub (sub_keep (sub_keep (sub_drop sub_refl))))) (star_left ..)
theorem own_len {z : Bool} : ∀ (l : List Ev) (Y : Yd), (own z Y l).length ≤ l.length := by
  intro l; induction l with
  | nil => intro Y; exact Nat.le_refl _
  | cons x l ih => intro Y; rw [own]; split <;> simp <;> (have := ih (Y.go x); omega)
theorem ly_own {z : Bool} {l : Ln} {es : List Ev} {Z : Yd} (hl : okL l = true) (hll : l.length ≤ 1000) (he : ∀ e ∈ es, e.okc = true) (hf : fin (Yd.new l) es = some Z) : Ly 4 (.list (ownD z l es)) := by
  have go : ∀ (fs : List Ev) (Y : Yd) (n : Nat), Y.ok n → (∀ e ∈ fs, e.okc = true) → (∃ W, fin Y fs = some W) → ∀ p ∈ own z Y fs, p.1.okc = true ∧ okL p.2 = true := by
    intro fs; induction fs with
    | nil => intro Y n _ _ _ p hp; exact (List.not_mem_nil hp).elim
    | cons x fs ih =>
      intro Y n ok hx ⟨W, hW⟩ p hp
      rw [fin] at hW
      split at hW
      · rename_i hc
        have ok' := Yd.ok_go ok (hx x (List.mem_cons_self ..)) hc
        have ih' := ih (Y.go x) (n + 1) ok' (fun e he => hx e (List.mem_cons_of_mem _ he)) ⟨W, hW⟩
        rw [own] at hp
        split at hp
        · rcases List.mem_cons.mp hp with rfl | hp
          · exact ⟨hx x (List.mem_cons_self ..), (ok'.tx z).1⟩
          · exact ih' p hp
        · exact ih' p hp
      · cases hW
  refine ly_map fun p hp => ?_
  obtain ⟨h1, h2⟩ := go es _ 1000 (Yd.ok_new hl hll) he ⟨Z, hf⟩ p hp
  refine ly_tup (k := 2) fun d hd => ?_
  simp only [List.mem_cons, List.not_mem_nil, or_false] at hd
  rcases hd with rfl | rfl
  · exact ly_ev h1
  · exact (ly_okL h2).mono (by decide)
theorem alike_evs (a b : List Ev) : PySem.W.alike (.list (a.map Ev.d)) (.list (b.map Ev.d)) = true := by
  have h : PySem.W.alikeAll (a.map Ev.d) (b.map Ev.d) = true := PySem.W.alikeAll_map a b
  simp only [PySem.W.alike]; exact h
theorem alike_ev (a b : Ev) : PySem.W.alike a.d b.d = true := PySem.W.DatumOrd.alike a b
theorem pr__law_right (h : sp__law_right K vs H Q E) : t__law_right K { nx := fun _ H' => Q .non H', rt := Q } (start N__law_right vs) H := by
  obtain ⟨l, a, es, X, Z, rfl, hl, hll, h, he, hel, hf, k⟩ := h
  have A := plainOf_alk hf
  have pf := A.fin hf
  have pl := A.len
  have po : ∀ e ∈ plainOf es, e.okc = true := fun e h => he e ((A.mem e).mp h)
  obtain ⟨Ps, hpr⟩ := some_fin pf
  have lyp : Ly 3 (.list ((plainOf es).map Ev.d)) := ly_evs po
  have lye : Ly 3 (.list (es.map Ev.d)) := ly_evs he
  unfold t__law_right
  walk_at "wp"
  refine ⟨l, a, es, X, Z, rfl, hl, hll, h, he, hel, hf, fun q H1 h1 => ?_⟩
  walk_at "wp"
  refine ⟨l, _, plainOf es, rfl, hl, hll, by walk_at "dp", po, by omega, fun H2 s2 => ?_⟩
  rw [hpr, Option.isSome_some]
  replace h1 := h1.same s2
  walk_at "wp"
  refine ⟨l, q, plainOf es, _, Z, rfl, hl, hll, h1, po, by omega, pf, fun q2 H3 h3 => ?_⟩
  rw [plainOf_self hf] at h3
  walk_at "wp"
  refine w_neLy (k := 3) ?_ (by walk_at "dp") (by walk_at "dp") lyp lyp (by decide)
  rw [lyp.self]
  walk_at "wp"
  refine ⟨_, _, by walk_at "dp", by walk_at "dp", alike_evs _ _, (by intro c; cases c), by have := lye.dep; omega, ?_⟩
  rw [ltL_eq, plainOf_least (.refl _) hf]
  have h4 : Hd (ls K q ((plainOf es).map Ev.d) ^ ls K a (es.map Ev.d) ^ X) H3 := by walk_at "fin"
  clear h3 h1
  walk_at "wp"
  refine frb_R (fun i σ H' => ∃ u v w, Hd (ls K q ((plainOf es).map Ev.d) ^ ls K a (es.map Ev.d) ^ X) H' ∧ σ = [some (.str (ofL l)), some (.ref a), some (.ref q), u, v, w]) ⟨none, none, none, h4, rfl⟩ (fun i σ H' hi p => ?_) (fun σ H' p => ?_)
  · obtain ⟨u, v, w, h, rfl⟩ := p
    obtain ⟨z, hz⟩ := seat_of hi
    rw [hz]
    walk_at "wp"
    refine ⟨l, a, es, z, _, Z, rfl, hl, hll, by walk_at "sl", he, by omega, hf, fun r1 H4 h5 => ?_⟩
    walk_at "wp"
    refine ⟨l, q, plainOf es, z, _, Z, rfl, hl, hll, by walk_at "sl", po, by omega, pf, fun r2 H5 h6 => ?_⟩
    rw [show ownD z l (plainOf es) = ownD z l es by unfold ownD; rw [A.own hf z]] at h6
    walk_at "wp"
    have lyo := ly_own (z := z) hl hll he hf
    refine w_neLy (k := 4) ?_ (by walk_at "dp") (by walk_at "dp") lyo lyo (by decide)
    rw [lyo.self]
    walk_at "wp"
    exact ⟨_, _, _, by walk_at "fin", rfl⟩
  · obtain ⟨u, v, w, h, rfl⟩ := p
    obtain ⟨ws, hx⟩ := h.lsX
    have hlen := dps_len hx.lsx.2
    rw [List.length_map] at hlen
    walk_at "wp"
    refine ⟨_, rfl, by omega, by omega, ?_⟩
    have hx := hx.lsI
    clear h
    refine frb_R (fun i σ H' => ∃ u v w, Hd (ls K q ((plainOf es).map Ev.d) ^ ls K a (es.map Ev.d) ^ X) H' ∧ σ = [some (.str (ofL l)), some (.ref a), some (.ref q), u, v, w]) ⟨u, v, w, hx, rfl⟩ (fun i σ H' hi p => ?_) (fun σ H' p => ?_)
    · obtain ⟨u, v, w, h, rfl⟩ := p
      have hi1 : i + 1 < (plainOf es).length := by omega
      walk_at "wp"
      refine ⟨q, plainOf es, i, _, rfl, h, hi1, by omega, fun H2 h2 => ?_⟩
      cases hm : mayC (plainOf es) i with
      | false =>
        walk_at "wp"
        exact ⟨_, _, _, h2, rfl⟩
      | true =>
        obtain ⟨f, e, e1, e2, e3, e4⟩ := split_at hi1
        have sw := mayC_sw pf hi1 hm
        have hch : chg (plainOf es) i = (plainOf es).take i ++ e :: f :: (plainOf es).drop (i + 2) := by unfold chg; rw [e1, e2]
        rw [hch] at sw
        have hlt := plainOf_sw hf e3 sw
        walk_at "wp"
        refine s_ixD (n := i + 1) h2 (by simp) (by rw [List.getElem?_map, e2]; rfl) fun x hx => ?_
        walk_at "wp"
        refine s_ixD (n := i) hx.tail rfl (by rw [List.getElem?_map, e1]; rfl) fun y hy => ?_
        walk_at "wp"
        have oe := po e (List.mem_of_getElem? e2)
        refine ⟨e.d, f.d, hx.dv, hy.dv, alike_ev e f, (by cases e <;> (intro c; cases c)), by have := (ly_ev oe).dep; omega, ?_⟩
        rw [show PySem.W.dataLt e.d f.d = false from hlt]
        walk_at "wp"
        exact ⟨_, _, _, hy.tail, rfl⟩
    · obtain ⟨u, v, w, h, rfl⟩ := p
      obtain ⟨ws1, h1⟩ := h.lsX
      obtain ⟨ws2, h2⟩ := (hp1 h1).lsX
      have l1 := dps_len h1.lsx.2
      have l2 := dps_len h2.lsx.2
      rw [List.length_map] at l1 l2
      walk_at "wp"
      rw [show decide ((ws1.length : Int) = (ws2.length : Int)) = true from decide_eq_true (by omega)]
      exact k H' ((h2.sub (sub_keep (sub_drop sub_refl))).lsI)
theorem pr_law (h : sp_law K vs H Q E) : t_law K { nx := fun _ H' => Q .non H', rt := Q } (start N_law vs) H := by
  obtain ⟨a, ns, rfl, hs, hl, k⟩ := h
  have h0 := hd_fz hs
  unfold t_law
  walk_at "wp"
  refine c_draws h0 (by omega) fun d H1 h1 => ?_
  have h1 := h1.sub sub_fst
  walk_at "wp"
  refine w_drawn (d := d) (N := 4) (fun many σ H' => ∃ u, Hd (dr d ^ emp) H' ∧ σ = [some (.ref a), some (.ref d), some (.int (many : Int)), u]) (by decide) ⟨none, hd_eq (Hd.emp h1) (star_comm _ _), rfl⟩
    (fun many σ H h => ?_) (fun many σ H H' h s => ?_) (fun many σ H h hm => ?_) (fun many σ H h hm h1m => ?_)
  · obtain ⟨u, h, rfl⟩ := h
    exact ⟨rfl, rfl, _, h⟩
  · obtain ⟨u, h, rfl⟩ := h
    exact ⟨u, h.same s, rfl⟩
  · obtain ⟨u, h, rfl⟩ := h
    walk_at "wp"
    refine c_line h fun l H2 hl hll h2 => ?_
    walk_at "wp"
    refine c_take h2 (by decide) fun x H3 hx h3 => ?_
    walk_at "wp"
    rename_i p H5 s5 n5 h5
    refine c_take (by walk_at "sl") (by decide) fun t H6 ht h6 => ?_
    obtain ⟨m, hm, hm2⟩ : ∃ m : Nat, atI [V.int (x : Int), V.int 8] (t : Int) = some (.int (m : Int)) ∧ m ≤ 8 := by
      have : t = 0 ∨ t = 1 := by omega
      rcases this with rfl | rfl
      · exact ⟨x, by simp [atI, ixN], by omega⟩
      · exact ⟨8, by simp [atI, ixN], by omega⟩
    refine w_ixL ?_ (by walk_at "sq") hm
    walk_at "wp"
    refine c_story (by walk_at "sl") hl (by omega) (by omega) fun q es p H7 he hel hr h7 => ?_
    walk_at "wp"
    refine ⟨l, q, es, _, p.2, rfl, hl, by omega, by walk_at "sl", he, by omega, fin_some hr, fun H8 h8 => ?_⟩
    walk_at "wp"
    refine ⟨_, ?_, rfl⟩
    walk_at "fin"
  · obtain ⟨u, h, rfl⟩ := h
    walk_at "wp"
    exact k _
end K82
end
end FL

namespace FL
open PySem PySem.Spec PyProof.Rows L2 CwR K82
def top (i : Nat) : Stmt := PySem.Challenge.pw_farline_k82_whole_plain_stories_tell_ali.main.body.getD i (.Pass ⟨0, 0, 0, 0⟩)
abbrev s__law_draws : Stmt := top 38
abbrev s__law_take : Stmt := top 39
abbrev s__law_sign : Stmt := top 40
abbrev s__law_line : Stmt := top 41
abbrev s_Seat___init__ : Stmt := inClass (top 25) 0
abbrev s_Yard___init__ : Stmt := inClass (top 29) 0
abbrev s_is_either : Stmt := top 31
abbrev s_is_place : Stmt := top 11
abbrev s_is_sign : Stmt := top 10
abbrev s_is_deed : Stmt := top 12
abbrev s_can_be_done : Stmt := top 13
abbrev s_is_seat : Stmt := top 27
abbrev s_need_seat : Stmt := top 28
abbrev s_Seat_shown : Stmt := inClass (top 25) 4
abbrev s_Yard_shown_at : Stmt := inClass (top 29) 3
abbrev s_Yard_road_to : Stmt := inClass (top 29) 4
abbrev s_may_be : Stmt := top 32
abbrev s_done : Stmt := top 14
abbrev s_moved : Stmt := top 16
abbrev s_mark_moved : Stmt := top 18
abbrev s_Seat_make_in : Stmt := inClass (top 25) 1
abbrev s_Yard_make_at : Stmt := inClass (top 29) 1
abbrev s_is_whole : Stmt := top 23
abbrev s_is_letter : Stmt := top 24
abbrev s_moved_behind : Stmt := top 20
abbrev s_rows_moved : Stmt := top 21
abbrev s_Seat_past : Stmt := inClass (top 25) 3
abbrev s_Seat_take_in : Stmt := inClass (top 25) 2
abbrev s_Yard_come_to : Stmt := inClass (top 29) 2
abbrev s_lines_behind : Stmt := top 33
abbrev s_is_story : Stmt := top 34
abbrev s_plain_story : Stmt := top 36
abbrev s_lines_of : Stmt := top 35
abbrev s__law_own : Stmt := top 56
abbrev s__law_may_change : Stmt := top 54
abbrev s__law_right : Stmt := top 57
abbrev s__law_seats : Stmt := top 45
abbrev s__law_behind : Stmt := top 43
abbrev s__law_after : Stmt := top 44
abbrev s__law_come : Stmt := top 47
abbrev s__law_deed : Stmt := top 42
abbrev s__law_make : Stmt := top 46
abbrev s__law_story : Stmt := top 50
abbrev s_law : Stmt := top 58
section
variable {P : Program} {w : World} {K : PySem.W.Frag} {mg : Str → Option Value} {base : Heap}
theorem sc__law_draws : FnScope N__law_draws ["script"] (defScope s__law_draws) := ⟨rfl, rfl, rfl, by decide +kernel, rfl, by decide +kernel, by decide +kernel⟩
theorem ok__law_draws {f : Addr} {fd : FuncData} (F : Fun K "_law_draws" "_law_draws" s__law_draws f fd) (n_abs : mg "abs" = none) (n_len : mg "len" = none) (n_min : mg "min" = none) (n_range : mg "range" = none) : FnOk P w K mg base CX0 1 f fd ["script"] (sp__law_draws K) := by
  have nd := sc__law_draws.nd
  refine F.ok sc__law_draws (fun vs H Q E h => ?_) (fun cdv A o s H vs Q E hr h => ⟨t__law_draws K, ?_, pr__law_draws h⟩)
  · first | (obtain ⟨rfl, _⟩ := h; rfl) | (obtain ⟨_, rfl, _⟩ := h; rfl) | (obtain ⟨_, _, rfl, _⟩ := h; rfl) | (obtain ⟨_, _, _, rfl, _⟩ := h; rfl) | (obtain ⟨_, _, _, _, rfl, _⟩ := h; rfl) | (obtain ⟨_, _, _, _, _, rfl, _⟩ := h; rfl) | (obtain ⟨_, _, _, _, _, _, rfl, _⟩ := h; rfl) | (obtain ⟨_, _, _, _, _, _, _, rfl, _⟩ := h; rfl) | (obtain ⟨_, _, _, _, _, _, _, _, rfl, _⟩ := h; rfl) | (obtain ⟨_, _, _, _, _, _, _, _, _, rfl, _⟩ := h; rfl) | (obtain ⟨_, _, _, _, _, _, _, _, _, _, rfl, _⟩ := h; rfl)
  · exact (pss_cons (ps_set (i := 1) nd rfl (by first | exact Or.inl rfl | exact Or.inr rfl) (pe_lst pa_nil)) (pss_cons (ps_for PassesOwn.never rfl (pi_range1 (by rfl) n_range (pa_cons (pe_callB (u_min rfl) (by rfl) n_min (by decide +kernel) (pa_cons (pe_callB u_len (by rfl) n_len (by decide +kernel) (pa_cons (pv 0) pa_nil)) (pa_cons pe_int pa_nil))) pa_nil)) (pg_name (i := 2) nd rfl (by first | exact Or.inl rfl | exact Or.inr rfl)) (pss_cons (ps_set (i := 3) nd rfl (by first | exact Or.inl rfl | exact Or.inr rfl) (pe_callB call_abs (by rfl) n_abs (by decide +kernel) (pa_cons (pe_ix ix_seq (pv 0) (pv 2) (fun _ _ => rfl)) pa_nil))) (pss_one (ps_if (pt_cmpR u_lt (pv 3) (pe_op u_pow pe_int pe_int) (nomark _)) (pss_cons (ps_set (i := 4) nd rfl (by first | exact Or.inl rfl | exact Or.inr rfl) (pe_op u_mod (pe_op u_mul (pe_op u_mod (pe_op u_add (pe_op u_add (pv 3) (pe_op u_mul pe_int (pv 2))) pe_int) pe_int) pe_int) pe_int)) (pss_cons (ps_set (i := 4) nd rfl (by first | exact Or.inl rfl | exact Or.inr rfl) (pe_op u_mod (pe_op u_mul (pv 4) (pv 4)) pe_int)) (pss_cons (ps_expr (pe_bm PySem.F.plainAttrs_list PySem.F.slot_list_append PySem.F.type_list_append mt_append (pv 1) (pa_cons (pe_op u_mod (pe_op u_div (pv 4) pe_int) pe_int) pa_nil))) (pss_cons (ps_expr (pe_bm PySem.F.plainAttrs_list PySem.F.slot_list_append PySem.F.type_list_append mt_append (pv 1) (pa_cons (pe_op u_mod (pe_op u_div (pv 4) pe_int) pe_int) pa_nil))) (pss_cons (ps_set (i := 4) nd rfl (by first | exact Or.inl rfl | exact Or.inr rfl) (pe_op u_mod (pe_op u_add (pv 4) (pe_op u_mul pe_int (pe_op u_add (pv 2) pe_int))) pe_int)) (pss_one (ps_expr (pe_bm PySem.F.plainAttrs_list PySem.F.slot_list_append PySem.F.type_list_append mt_append (pv 1) (pa_cons (pe_op u_mod (pe_op u_div (pe_op u_mod (pe_op u_mul (pv 4) (pv 4)) pe_int) pe_int) pe_int) pa_nil))))))))) (pss_cons (ps_set (i := 5) nd rfl (by first | exact Or.inl rfl | exact Or.inr rfl) pe_int) (pss_one (ps_while PassesOwn.never (PW.pt (pw_and (pt_cmpR u_ge (pv 3) pe_int (nomark _)) (pw_and1 (pt_cmpR u_lt (pv 5) pe_int (nomark _))))) (pss_cons (ps_expr (pe_bm PySem.F.plainAttrs_list PySem.F.slot_list_append PySem.F.type_list_append mt_append (pv 1) (pa_cons (pe_op u_mod (pv 3) pe_int) pa_nil))) (pss_cons (ps_set (i := 3) nd rfl (by first | exact Or.inl rfl | exact Or.inr rfl) (pe_op u_div (pv 3) pe_int)) (pss_one (ps_set (i := 5) nd rfl (by first | exact Or.inl rfl | exact Or.inr rfl) (pe_op u_add (pv 5) pe_int)))))))))))) (pss_one (ps_ret (pe_slice u_sl (pv 1) po_none (po_some pe_int))))))
theorem sc__law_take : FnScope N__law_take ["draws", "many"] (defScope s__law_take) := ⟨rfl, rfl, rfl, by decide +kernel, rfl, by decide +kernel, by decide +kernel⟩
theorem ok__law_take {f : Addr} {fd : FuncData} (F : Fun K "_law_take" "_law_take" s__law_take f fd)  : FnOk P w K mg base CX0 1 f fd ["draws", "many"] (sp__law_take K) := by
  have nd := sc__law_take.nd
  refine F.ok sc__law_take (fun vs H Q E h => ?_) (fun cdv A o s H vs Q E hr h => ⟨t__law_take K, ?_, pr__law_take h⟩)
  · first | (obtain ⟨rfl, _⟩ := h; rfl) | (obtain ⟨_, rfl, _⟩ := h; rfl) | (obtain ⟨_, _, rfl, _⟩ := h; rfl) | (obtain ⟨_, _, _, rfl, _⟩ := h; rfl) | (obtain ⟨_, _, _, _, rfl, _⟩ := h; rfl) | (obtain ⟨_, _, _, _, _, rfl, _⟩ := h; rfl) | (obtain ⟨_, _, _, _, _, _, rfl, _⟩ := h; rfl) | (obtain ⟨_, _, _, _, _, _, _, rfl, _⟩ := h; rfl) | (obtain ⟨_, _, _, _, _, _, _, _, rfl, _⟩ := h; rfl) | (obtain ⟨_, _, _, _, _, _, _, _, _, rfl, _⟩ := h; rfl) | (obtain ⟨_, _, _, _, _, _, _, _, _, _, rfl, _⟩ := h; rfl)
  · exact (pss_cons (ps_if (pt_cmpR (u_eq hr.units) (pv 0) (pe_lst pa_nil) (nomark _)) (pss_one (ps_ret pe_int)) pss_nil) (pss_one (ps_ret (pe_op u_mod (pe_bm PySem.F.plainAttrs_list PySem.F.slot_list_pop PySem.F.type_list_pop mt_popAt (pv 0) (pa_cons pe_int pa_nil)) (pv 1)))))
theorem sc__law_sign : FnScope N__law_sign ["draws"] (defScope s__law_sign) := ⟨rfl, rfl, rfl, by decide +kernel, rfl, by decide +kernel, by decide +kernel⟩
theorem ok__law_sign {f : Addr} {fd : FuncData} (F : Fun K "_law_sign" "_law_sign" s__law_sign f fd) {f__law_take : Addr} {fd__law_take : FuncData} (G__law_take : FnOk P w K mg base CX0 1 f__law_take fd__law_take ["draws", "many"] (sp__law_take K)) (g__law_take : mg "_law_take" = some (.ref f__law_take)) (k__law_take : PySem.W.keepIn K (.ref f__law_take) = true) (b__law_take : Binds K fd__law_take ["draws", "many"] []) (n_len : mg "len" = none) : FnOk P w K mg base CX0 2 f fd ["draws"] (sp__law_sign K) := by
  have nd := sc__law_sign.nd
  refine F.ok sc__law_sign (fun vs H Q E h => ?_) (fun cdv A o s H vs Q E hr h => ⟨t__law_sign K, ?_, pr__law_sign h⟩)
  · first | (obtain ⟨rfl, _⟩ := h; rfl) | (obtain ⟨_, rfl, _⟩ := h; rfl) | (obtain ⟨_, _, rfl, _⟩ := h; rfl) | (obtain ⟨_, _, _, rfl, _⟩ := h; rfl) | (obtain ⟨_, _, _, _, rfl, _⟩ := h; rfl) | (obtain ⟨_, _, _, _, _, rfl, _⟩ := h; rfl) | (obtain ⟨_, _, _, _, _, _, rfl, _⟩ := h; rfl) | (obtain ⟨_, _, _, _, _, _, _, rfl, _⟩ := h; rfl) | (obtain ⟨_, _, _, _, _, _, _, _, rfl, _⟩ := h; rfl) | (obtain ⟨_, _, _, _, _, _, _, _, _, rfl, _⟩ := h; rfl) | (obtain ⟨_, _, _, _, _, _, _, _, _, _, rfl, _⟩ := h; rfl)
  · exact (pss_cons (ps_set (i := 1) nd rfl (by first | exact Or.inl rfl | exact Or.inr rfl) (pe_ix ix_seq (pe_lst (pa_cons pe_str (pa_cons pe_str pa_nil))) (pe_call G__law_take (hr.mono (by decide)) rfl g__law_take k__law_take b__law_take .nil pass0 (pa_cons (pv 0) (pa_cons pe_int pa_nil))) (fun _ _ => rfl))) (pss_one (ps_ret (pe_ix ix_seq (pv 1) (pe_call G__law_take (hr.mono (by decide)) rfl g__law_take k__law_take b__law_take .nil pass0 (pa_cons (pv 0) (pa_cons (pe_callB u_len (by rfl) n_len (by decide +kernel) (pa_cons (pv 1) pa_nil)) pa_nil))) (fun _ _ => rfl)))))
theorem sc__law_line : FnScope N__law_line ["draws"] (defScope s__law_line) := ⟨rfl, rfl, rfl, by decide +kernel, rfl, by decide +kernel, by decide +kernel⟩
theorem ok__law_line {f : Addr} {fd : FuncData} (F : Fun K "_law_line" "_law_line" s__law_line f fd) {f__law_sign : Addr} {fd__law_sign : FuncData} (G__law_sign : FnOk P w K mg base CX0 2 f__law_sign fd__law_sign ["draws"] (sp__law_sign K)) (g__law_sign : mg "_law_sign" = some (.ref f__law_sign)) (k__law_sign : PySem.W.keepIn K (.ref f__law_sign) = true) (b__law_sign : Binds K fd__law_sign ["draws"] []) {f__law_take : Addr} {fd__law_take : FuncData} (G__law_take : FnOk P w K mg base CX0 1 f__law_take fd__law_take ["draws", "many"] (sp__law_take K)) (g__law_take : mg "_law_take" = some (.ref f__law_take)) (k__law_take : PySem.W.keepIn K (.ref f__law_take) = true) (b__law_take : Binds K fd__law_take ["draws", "many"] []) (n_range : mg "range" = none) : FnOk P w K mg base CX0 3 f fd ["draws"] (sp__law_line K) := by
  have nd := sc__law_line.nd
  refine F.ok sc__law_line (fun vs H Q E h => ?_) (fun cdv A o s H vs Q E hr h => ⟨t__law_line K, ?_, pr__law_line h⟩)
  · first | (obtain ⟨rfl, _⟩ := h; rfl) | (obtain ⟨_, rfl, _⟩ := h; rfl) | (obtain ⟨_, _, rfl, _⟩ := h; rfl) | (obtain ⟨_, _, _, rfl, _⟩ := h; rfl) | (obtain ⟨_, _, _, _, rfl, _⟩ := h; rfl) | (obtain ⟨_, _, _, _, _, rfl, _⟩ := h; rfl) | (obtain ⟨_, _, _, _, _, _, rfl, _⟩ := h; rfl) | (obtain ⟨_, _, _, _, _, _, _, rfl, _⟩ := h; rfl) | (obtain ⟨_, _, _, _, _, _, _, _, rfl, _⟩ := h; rfl) | (obtain ⟨_, _, _, _, _, _, _, _, _, rfl, _⟩ := h; rfl) | (obtain ⟨_, _, _, _, _, _, _, _, _, _, rfl, _⟩ := h; rfl)
  · exact (pss_cons (ps_set (i := 1) nd rfl (by first | exact Or.inl rfl | exact Or.inr rfl) (pe_ix ix_seq (pe_lst (pa_cons (pe_call G__law_take (hr.mono (by decide)) rfl g__law_take k__law_take b__law_take .nil pass0 (pa_cons (pv 0) (pa_cons pe_int pa_nil))) (pa_cons (pe_call G__law_take (hr.mono (by decide)) rfl g__law_take k__law_take b__law_take .nil pass0 (pa_cons (pv 0) (pa_cons pe_int pa_nil))) (pa_cons pe_int pa_nil)))) (pe_call G__law_take (hr.mono (by decide)) rfl g__law_take k__law_take b__law_take .nil pass0 (pa_cons (pv 0) (pa_cons pe_int pa_nil))) (fun _ _ => rfl))) (pss_cons (ps_set (i := 2) nd rfl (by first | exact Or.inl rfl | exact Or.inr rfl) (pe_lc (own := [("k", 3)]) (g := (gName 3)) (tt := tYes) (te := (tCall (sp__law_sign K) [] E0 (tCons (tVar 0) tNil))) rfl nd (pi_range1 (by rfl) n_range (pa_cons pe_int pa_nil)) (blkOk_by (own := [("k", 3)]) (N := N__law_line) (sc := defScope s__law_line) (by decide +kernel)) (fun _ _ _ _ _ => (pg_name (i := 3) nd rfl (by first | exact Or.inl rfl | exact Or.inr rfl))) (fun _ _ _ _ _ => pts_nil) (fun _ _ _ _ _ => (pe_call G__law_sign (hr.mono (by decide)) rfl g__law_sign k__law_sign b__law_sign .nil pass0 (pa_cons (pv 0) pa_nil))))) (pss_cons (ps_set (i := 4) nd rfl (by first | exact Or.inl rfl | exact Or.inr rfl) (pe_op u_add pe_int (pe_call G__law_take (hr.mono (by decide)) rfl g__law_take k__law_take b__law_take .nil pass0 (pa_cons (pv 0) (pa_cons pe_int pa_nil))))) (pss_one (ps_ret (pe_join pe_str (pe_lc (own := [("k", 3)]) (g := (gName 3)) (tt := tYes) (te := (tOp (rIx K) (tVar 2) (tOp rModU (tOp (rAddU K) (tOp rMulU (tVar 3) (tVar 4)) (tOp rMulU (tVar 3) (tVar 3))) (tC (.int 6))))) rfl nd (pi_range1 (by rfl) n_range (pa_cons (pv 1) pa_nil)) (blkOk_by (own := [("k", 3)]) (N := N__law_line) (sc := defScope s__law_line) (by decide +kernel)) (fun _ _ _ _ _ => (pg_name (i := 3) nd rfl (by first | exact Or.inl rfl | exact Or.inr rfl))) (fun _ _ _ _ _ => pts_nil) (fun _ _ _ _ _ => (pe_ix ix_seq (pv 2) (pe_op u_mod (pe_op u_add (pe_op u_mul (pv 3) (pv 4)) (pe_op u_mul (pv 3) (pv 3))) pe_int) (fun _ _ => rfl))))))))))
theorem sc_Seat___init__ : FnScope N_Seat___init__ ["self", "number", "line"] (defScope s_Seat___init__) := ⟨rfl, rfl, rfl, by decide +kernel, rfl, by decide +kernel, by decide +kernel⟩
theorem ok_Seat___init__ {f : Addr} {fd : FuncData} (F : Fun K "__init__" "Seat.__init__" s_Seat___init__ f fd) (cl_Seat : Cls K (gloA K "Seat")) (na_Seat_ahead : NoAttr K (gloA K "Seat") "ahead") (na_Seat_text : NoAttr K (gloA K "Seat") "text") (na_Seat_many_made : NoAttr K (gloA K "Seat") "many_made") (na_Seat_many_taken : NoAttr K (gloA K "Seat") "many_taken") (na_Seat_heard : NoAttr K (gloA K "Seat") "heard") (na_Seat_waiting : NoAttr K (gloA K "Seat") "waiting") (na_Seat_own_mark : NoAttr K (gloA K "Seat") "own_mark") (na_Seat_far_mark : NoAttr K (gloA K "Seat") "far_mark") (n_len : mg "len" = none) : FnOk P w K mg base CX0 1 f fd ["self", "number", "line"] (sp_Seat___init__ K) := by
  have nd := sc_Seat___init__.nd
  refine F.ok sc_Seat___init__ (fun vs H Q E h => ?_) (fun cdv A o s H vs Q E hr h => ⟨t_Seat___init__ K, ?_, pr_Seat___init__ h⟩)
  · first | (obtain ⟨rfl, _⟩ := h; rfl) | (obtain ⟨_, rfl, _⟩ := h; rfl) | (obtain ⟨_, _, rfl, _⟩ := h; rfl) | (obtain ⟨_, _, _, rfl, _⟩ := h; rfl) | (obtain ⟨_, _, _, _, rfl, _⟩ := h; rfl) | (obtain ⟨_, _, _, _, _, rfl, _⟩ := h; rfl) | (obtain ⟨_, _, _, _, _, _, rfl, _⟩ := h; rfl) | (obtain ⟨_, _, _, _, _, _, _, rfl, _⟩ := h; rfl) | (obtain ⟨_, _, _, _, _, _, _, _, rfl, _⟩ := h; rfl) | (obtain ⟨_, _, _, _, _, _, _, _, _, rfl, _⟩ := h; rfl) | (obtain ⟨_, _, _, _, _, _, _, _, _, _, rfl, _⟩ := h; rfl)
  · exact (pss_cons (ps_fldC cl_Seat na_Seat_ahead (pv 0) (pe_cmpR (u_eq hr.units) (pv 1) pe_int (nomark _))) (pss_cons (ps_fldC cl_Seat na_Seat_text (pv 0) (pv 2)) (pss_cons (ps_fldC cl_Seat na_Seat_many_made (pv 0) pe_int) (pss_cons (ps_fldC cl_Seat na_Seat_many_taken (pv 0) pe_int) (pss_cons (ps_fldC cl_Seat na_Seat_heard (pv 0) pe_int) (pss_cons (ps_fldC cl_Seat na_Seat_waiting (pv 0) (pe_lst pa_nil)) (pss_cons (ps_fldC cl_Seat na_Seat_own_mark (pv 0) (pe_callB u_len (by rfl) n_len (by decide +kernel) (pa_cons (pv 2) pa_nil))) (pss_one (ps_fldC cl_Seat na_Seat_far_mark (pv 0) (pe_callB u_len (by rfl) n_len (by decide +kernel) (pa_cons (pv 2) pa_nil)))))))))))
theorem sc_Yard___init__ : FnScope N_Yard___init__ ["self", "line"] (defScope s_Yard___init__) := ⟨rfl, rfl, rfl, by decide +kernel, rfl, by decide +kernel, by decide +kernel⟩
theorem ok_Yard___init__ {f : Addr} {fd : FuncData} (F : Fun K "__init__" "Yard.__init__" s_Yard___init__ f fd) {f_Seat___init__ : Addr} {fd_Seat___init__ : FuncData} (G_Seat___init__ : FnOk P w K mg base CX0 1 f_Seat___init__ fd_Seat___init__ ["self", "number", "line"] (sp_Seat___init__ K)) (M_Seat : Mk K (gloA K "Seat") f_Seat___init__) (b_Seat___init__ : Binds K fd_Seat___init__ ["self", "number", "line"] []) (cl_Seat : Cls K (gloA K "Seat")) (cl_Yard : Cls K (gloA K "Yard")) (g_Seat : mg "Seat" = some (.ref (gloA K "Seat"))) (na_Yard_seats : NoAttr K (gloA K "Yard") "seats") (na_Yard_roads : NoAttr K (gloA K "Yard") "roads") (n_range : mg "range" = none) : FnOk P w K mg base CX0 3 f fd ["self", "line"] (sp_Yard___init__ K) := by
  have nd := sc_Yard___init__.nd
  refine F.ok sc_Yard___init__ (fun vs H Q E h => ?_) (fun cdv A o s H vs Q E hr h => ⟨t_Yard___init__ K, ?_, pr_Yard___init__ h⟩)
  · first | (obtain ⟨rfl, _⟩ := h; rfl) | (obtain ⟨_, rfl, _⟩ := h; rfl) | (obtain ⟨_, _, rfl, _⟩ := h; rfl) | (obtain ⟨_, _, _, rfl, _⟩ := h; rfl) | (obtain ⟨_, _, _, _, rfl, _⟩ := h; rfl) | (obtain ⟨_, _, _, _, _, rfl, _⟩ := h; rfl) | (obtain ⟨_, _, _, _, _, _, rfl, _⟩ := h; rfl) | (obtain ⟨_, _, _, _, _, _, _, rfl, _⟩ := h; rfl) | (obtain ⟨_, _, _, _, _, _, _, _, rfl, _⟩ := h; rfl) | (obtain ⟨_, _, _, _, _, _, _, _, _, rfl, _⟩ := h; rfl) | (obtain ⟨_, _, _, _, _, _, _, _, _, _, rfl, _⟩ := h; rfl)
  · exact (pss_cons (ps_fldC cl_Yard na_Yard_seats (pv 0) (pe_lc (own := [("number", 2)]) (g := (gName 2)) (tt := tYes) (te := (tMake (gloA K "Seat") (sp_Seat___init__ K) [] E0 (tCons (tVar 2) (tCons (tVar 1) tNil)))) rfl nd (pi_range1 (by rfl) n_range (pa_cons pe_int pa_nil)) (blkOk_by (own := [("number", 2)]) (N := N_Yard___init__) (sc := defScope s_Yard___init__) (by decide +kernel)) (fun _ _ _ _ _ => (pg_name (i := 2) nd rfl (by first | exact Or.inl rfl | exact Or.inr rfl))) (fun _ _ _ _ _ => pts_nil) (fun _ _ _ _ _ => (pe_make M_Seat G_Seat___init__ (hr.mono (by decide)) rfl g_Seat b_Seat___init__ .nil pass0 (pa_cons (pv 2) (pa_cons (pv 1) pa_nil)))))) (pss_one (ps_fldC cl_Yard na_Yard_roads (pv 0) (pe_lst (pa_cons (pe_lst pa_nil) (pa_cons (pe_lst pa_nil) pa_nil))))))
theorem sc_is_either : FnScope N_is_either ["thing"] (defScope s_is_either) := ⟨rfl, rfl, rfl, by decide +kernel, rfl, by decide +kernel, by decide +kernel⟩
theorem ok_is_either {f : Addr} {fd : FuncData} (F : Fun K "is_either" "is_either" s_is_either f fd) (n_bool : mg "bool" = none) (n_int : mg "int" = none) (n_isinstance : mg "isinstance" = none) : FnOk P w K mg base CX0 1 f fd ["thing"] (sp_is_either K) := by
  have nd := sc_is_either.nd
  refine F.ok sc_is_either (fun vs H Q E h => ?_) (fun cdv A o s H vs Q E hr h => ⟨t_is_either K, ?_, pr_is_either h⟩)
  · first | (obtain ⟨rfl, _⟩ := h; rfl) | (obtain ⟨_, rfl, _⟩ := h; rfl) | (obtain ⟨_, _, rfl, _⟩ := h; rfl) | (obtain ⟨_, _, _, rfl, _⟩ := h; rfl) | (obtain ⟨_, _, _, _, rfl, _⟩ := h; rfl) | (obtain ⟨_, _, _, _, _, rfl, _⟩ := h; rfl) | (obtain ⟨_, _, _, _, _, _, rfl, _⟩ := h; rfl) | (obtain ⟨_, _, _, _, _, _, _, rfl, _⟩ := h; rfl) | (obtain ⟨_, _, _, _, _, _, _, _, rfl, _⟩ := h; rfl) | (obtain ⟨_, _, _, _, _, _, _, _, _, rfl, _⟩ := h; rfl) | (obtain ⟨_, _, _, _, _, _, _, _, _, _, rfl, _⟩ := h; rfl)
  · exact (pss_one (ps_ret (pe_and (pe_callB u_isi (by rfl) n_isinstance (by decide +kernel) (pa_cons (pv 0) (pa_cons (pe_bltn (by rfl) n_int (by decide +kernel) rfl) pa_nil))) (pe_and (pe_not (pe_callB u_isi (by rfl) n_isinstance (by decide +kernel) (pa_cons (pv 0) (pa_cons (pe_bltn (by rfl) n_bool (by decide +kernel) rfl) pa_nil)))) (pe_one (pe_chain u_le u_le pe_int (pv 0) pe_int))))))
theorem sc_is_place : FnScope N_is_place ["thing"] (defScope s_is_place) := ⟨rfl, rfl, rfl, by decide +kernel, rfl, by decide +kernel, by decide +kernel⟩
theorem ok_is_place {f : Addr} {fd : FuncData} (F : Fun K "is_place" "is_place" s_is_place f fd) (n_bool : mg "bool" = none) (n_int : mg "int" = none) (n_isinstance : mg "isinstance" = none) : FnOk P w K mg base CX0 1 f fd ["thing"] (sp_is_place K) := by
  have nd := sc_is_place.nd
  refine F.ok sc_is_place (fun vs H Q E h => ?_) (fun cdv A o s H vs Q E hr h => ⟨t_is_place K, ?_, pr_is_place h⟩)
  · first | (obtain ⟨rfl, _⟩ := h; rfl) | (obtain ⟨_, rfl, _⟩ := h; rfl) | (obtain ⟨_, _, rfl, _⟩ := h; rfl) | (obtain ⟨_, _, _, rfl, _⟩ := h; rfl) | (obtain ⟨_, _, _, _, rfl, _⟩ := h; rfl) | (obtain ⟨_, _, _, _, _, rfl, _⟩ := h; rfl) | (obtain ⟨_, _, _, _, _, _, rfl, _⟩ := h; rfl) | (obtain ⟨_, _, _, _, _, _, _, rfl, _⟩ := h; rfl) | (obtain ⟨_, _, _, _, _, _, _, _, rfl, _⟩ := h; rfl) | (obtain ⟨_, _, _, _, _, _, _, _, _, rfl, _⟩ := h; rfl) | (obtain ⟨_, _, _, _, _, _, _, _, _, _, rfl, _⟩ := h; rfl)
  · exact (pss_one (ps_ret (pe_and (pe_callB u_isi (by rfl) n_isinstance (by decide +kernel) (pa_cons (pv 0) (pa_cons (pe_bltn (by rfl) n_int (by decide +kernel) rfl) pa_nil))) (pe_and (pe_not (pe_callB u_isi (by rfl) n_isinstance (by decide +kernel) (pa_cons (pv 0) (pa_cons (pe_bltn (by rfl) n_bool (by decide +kernel) rfl) pa_nil)))) (pe_one (pe_cmpR u_ge (pv 0) pe_int (nomark _)))))))
theorem sc_is_sign : FnScope N_is_sign ["thing"] (defScope s_is_sign) := ⟨rfl, rfl, rfl, by decide +kernel, rfl, by decide +kernel, by decide +kernel⟩
theorem ok_is_sign {f : Addr} {fd : FuncData} (F : Fun K "is_sign" "is_sign" s_is_sign f fd) {t_SIGNS : Tok} (g_SIGNS : mg "SIGNS" = some (Value.str "abcdefghijklmnopqrstuvwxyz " t_SIGNS)) (n_isinstance : mg "isinstance" = none) (n_len : mg "len" = none) (n_str : mg "str" = none) : FnOk P w K mg base CX0 1 f fd ["thing"] (sp_is_sign K) := by
  have nd := sc_is_sign.nd
  refine F.ok sc_is_sign (fun vs H Q E h => ?_) (fun cdv A o s H vs Q E hr h => ⟨t_is_sign K, ?_, pr_is_sign h⟩)
  · first | (obtain ⟨rfl, _⟩ := h; rfl) | (obtain ⟨_, rfl, _⟩ := h; rfl) | (obtain ⟨_, _, rfl, _⟩ := h; rfl) | (obtain ⟨_, _, _, rfl, _⟩ := h; rfl) | (obtain ⟨_, _, _, _, rfl, _⟩ := h; rfl) | (obtain ⟨_, _, _, _, _, rfl, _⟩ := h; rfl) | (obtain ⟨_, _, _, _, _, _, rfl, _⟩ := h; rfl) | (obtain ⟨_, _, _, _, _, _, _, rfl, _⟩ := h; rfl) | (obtain ⟨_, _, _, _, _, _, _, _, rfl, _⟩ := h; rfl) | (obtain ⟨_, _, _, _, _, _, _, _, _, rfl, _⟩ := h; rfl) | (obtain ⟨_, _, _, _, _, _, _, _, _, _, rfl, _⟩ := h; rfl)
  · exact (pss_one (ps_ret (pe_and (pe_callB u_isi (by rfl) n_isinstance (by decide +kernel) (pa_cons (pv 0) (pa_cons (pe_bltn (by rfl) n_str (by decide +kernel) rfl) pa_nil))) (pe_and (pe_cmpR (u_eq hr.units) (pe_callB u_len (by rfl) n_len (by decide +kernel) (pa_cons (pv 0) pa_nil)) pe_int (nomark _)) (pe_one (pe_cmpR u_in (pv 0) (pe_glob rfl g_SIGNS ⟨_, rfl⟩) (by rfl)))))))
theorem sc_is_deed : FnScope N_is_deed ["thing"] (defScope s_is_deed) := ⟨rfl, rfl, rfl, by decide +kernel, rfl, by decide +kernel, by decide +kernel⟩
theorem ok_is_deed {f : Addr} {fd : FuncData} (F : Fun K "is_deed" "is_deed" s_is_deed f fd) {f_is_place : Addr} {fd_is_place : FuncData} (G_is_place : FnOk P w K mg base CX0 1 f_is_place fd_is_place ["thing"] (sp_is_place K)) (g_is_place : mg "is_place" = some (.ref f_is_place)) (k_is_place : PySem.W.keepIn K (.ref f_is_place) = true) (b_is_place : Binds K fd_is_place ["thing"] []) {f_is_sign : Addr} {fd_is_sign : FuncData} (G_is_sign : FnOk P w K mg base CX0 1 f_is_sign fd_is_sign ["thing"] (sp_is_sign K)) (g_is_sign : mg "is_sign" = some (.ref f_is_sign)) (k_is_sign : PySem.W.keepIn K (.ref f_is_sign) = true) (b_is_sign : Binds K fd_is_sign ["thing"] []) (g_PARTS : mg "PARTS" = some (.ref (gloA K "PARTS"))) (D_PARTS : KInts K w (gloA K "PARTS") [("put", 3), ("cut", 2), ("none", 1)]) (n_isinstance : mg "isinstance" = none) (n_len : mg "len" = none) (n_str : mg "str" = none) (n_tuple : mg "tuple" = none) : FnOk P w K mg base CX0 2 f fd ["thing"] (sp_is_deed K) := by
  have nd := sc_is_deed.nd
  refine F.ok sc_is_deed (fun vs H Q E h => ?_) (fun cdv A o s H vs Q E hr h => ⟨t_is_deed K, ?_, pr_is_deed h⟩)
  · first | (obtain ⟨rfl, _⟩ := h; rfl) | (obtain ⟨_, rfl, _⟩ := h; rfl) | (obtain ⟨_, _, rfl, _⟩ := h; rfl) | (obtain ⟨_, _, _, rfl, _⟩ := h; rfl) | (obtain ⟨_, _, _, _, rfl, _⟩ := h; rfl) | (obtain ⟨_, _, _, _, _, rfl, _⟩ := h; rfl) | (obtain ⟨_, _, _, _, _, _, rfl, _⟩ := h; rfl) | (obtain ⟨_, _, _, _, _, _, _, rfl, _⟩ := h; rfl) | (obtain ⟨_, _, _, _, _, _, _, _, rfl, _⟩ := h; rfl) | (obtain ⟨_, _, _, _, _, _, _, _, _, rfl, _⟩ := h; rfl) | (obtain ⟨_, _, _, _, _, _, _, _, _, _, rfl, _⟩ := h; rfl)
  · exact (pss_cons (ps_if (PW.pt (pw_or (pt_not (pt_val (pe_callB u_isi (by rfl) n_isinstance (by decide +kernel) (pa_cons (pv 0) (pa_cons (pe_bltn (by rfl) n_tuple (by decide +kernel) rfl) pa_nil))))) (pw_or (pt_cmpR (u_eq hr.units) (pe_callB u_len (by rfl) n_len (by decide +kernel) (pa_cons (pv 0) pa_nil)) pe_int (nomark _)) (pw_or1 (pt_not (pt_val (pe_callB u_isi (by rfl) n_isinstance (by decide +kernel) (pa_cons (pe_ix ix_seq (pv 0) pe_int (fun _ _ => rfl)) (pa_cons (pe_bltn (by rfl) n_str (by decide +kernel) rfl) pa_nil))))))))) (pss_one (ps_ret pe_bl)) pss_nil) (pss_cons (ps_if (pt_cmpR (u_ne hr.units) (pe_kget D_PARTS (pe_glob rfl g_PARTS rfl) (pe_ix ix_seq (pv 0) pe_int (fun _ _ => rfl)) pe_int ⟨rfl, rfl, rfl, rfl⟩) (pe_callB u_len (by rfl) n_len (by decide +kernel) (pa_cons (pv 0) pa_nil)) (nomark _)) (pss_one (ps_ret pe_bl)) pss_nil) (pss_cons (ps_if (PW.pt (pw_and (pt_cmpR u_gt (pe_callB u_len (by rfl) n_len (by decide +kernel) (pa_cons (pv 0) pa_nil)) pe_int (nomark _)) (pw_and1 (pt_not (pt_val (pe_call G_is_place (hr.mono (by decide)) rfl g_is_place k_is_place b_is_place .nil pass0 (pa_cons (pe_ix ix_seq (pv 0) pe_int (fun _ _ => rfl)) pa_nil))))))) (pss_one (ps_ret pe_bl)) pss_nil) (pss_one (ps_ret (pe_or (pe_cmpR u_lt (pe_callB u_len (by rfl) n_len (by decide +kernel) (pa_cons (pv 0) pa_nil)) pe_int (nomark _)) (pe_one (pe_call G_is_sign (hr.mono (by decide)) rfl g_is_sign k_is_sign b_is_sign .nil pass0 (pa_cons (pe_ix ix_seq (pv 0) pe_int (fun _ _ => rfl)) pa_nil)))))))))
theorem sc_can_be_done : FnScope N_can_be_done ["line", "deed"] (defScope s_can_be_done) := ⟨rfl, rfl, rfl, by decide +kernel, rfl, by decide +kernel, by decide +kernel⟩
theorem ok_can_be_done {f : Addr} {fd : FuncData} (F : Fun K "can_be_done" "can_be_done" s_can_be_done f fd) {f_is_deed : Addr} {fd_is_deed : FuncData} (G_is_deed : FnOk P w K mg base CX0 2 f_is_deed fd_is_deed ["thing"] (sp_is_deed K)) (g_is_deed : mg "is_deed" = some (.ref f_is_deed)) (k_is_deed : PySem.W.keepIn K (.ref f_is_deed) = true) (b_is_deed : Binds K fd_is_deed ["thing"] []) (n_len : mg "len" = none) : FnOk P w K mg base CX0 3 f fd ["line", "deed"] (sp_can_be_done K) := by
  have nd := sc_can_be_done.nd
  refine F.ok sc_can_be_done (fun vs H Q E h => ?_) (fun cdv A o s H vs Q E hr h => ⟨t_can_be_done K, ?_, pr_can_be_done h⟩)
  · first | (obtain ⟨rfl, _⟩ := h; rfl) | (obtain ⟨_, rfl, _⟩ := h; rfl) | (obtain ⟨_, _, rfl, _⟩ := h; rfl) | (obtain ⟨_, _, _, rfl, _⟩ := h; rfl) | (obtain ⟨_, _, _, _, rfl, _⟩ := h; rfl) | (obtain ⟨_, _, _, _, _, rfl, _⟩ := h; rfl) | (obtain ⟨_, _, _, _, _, _, rfl, _⟩ := h; rfl) | (obtain ⟨_, _, _, _, _, _, _, rfl, _⟩ := h; rfl) | (obtain ⟨_, _, _, _, _, _, _, _, rfl, _⟩ := h; rfl) | (obtain ⟨_, _, _, _, _, _, _, _, _, rfl, _⟩ := h; rfl) | (obtain ⟨_, _, _, _, _, _, _, _, _, _, rfl, _⟩ := h; rfl)
  · exact (pss_cons (ps_if (pt_not (pt_val (pe_call G_is_deed (hr.mono (by decide)) rfl g_is_deed k_is_deed b_is_deed .nil pass0 (pa_cons (pv 1) pa_nil)))) (pss_one (ps_ret pe_bl)) pss_nil) (pss_cons (ps_if (pt_cmpR (u_eq hr.units) (pe_ix ix_seq (pv 1) pe_int (fun _ _ => rfl)) pe_str (nomark _)) (pss_one (ps_ret (pe_cmpR u_le (pe_ix ix_seq (pv 1) pe_int (fun _ _ => rfl)) (pe_callB u_len (by rfl) n_len (by decide +kernel) (pa_cons (pv 0) pa_nil)) (nomark _)))) pss_nil) (pss_one (ps_ret (pe_or (pe_cmpR (u_eq hr.units) (pe_ix ix_seq (pv 1) pe_int (fun _ _ => rfl)) pe_str (nomark _)) (pe_one (pe_cmpR u_lt (pe_ix ix_seq (pv 1) pe_int (fun _ _ => rfl)) (pe_callB u_len (by rfl) n_len (by decide +kernel) (pa_cons (pv 0) pa_nil)) (nomark _))))))))
theorem sc_is_seat : FnScope N_is_seat ["thing"] (defScope s_is_seat) := ⟨rfl, rfl, rfl, by decide +kernel, rfl, by decide +kernel, by decide +kernel⟩
theorem ok_is_seat {f : Addr} {fd : FuncData} (F : Fun K "is_seat" "is_seat" s_is_seat f fd) (n_bool : mg "bool" = none) (n_int : mg "int" = none) (n_isinstance : mg "isinstance" = none) : FnOk P w K mg base CX0 1 f fd ["thing"] (sp_is_seat K) := by
  have nd := sc_is_seat.nd
  refine F.ok sc_is_seat (fun vs H Q E h => ?_) (fun cdv A o s H vs Q E hr h => ⟨t_is_seat K, ?_, pr_is_seat h⟩)
  · first | (obtain ⟨rfl, _⟩ := h; rfl) | (obtain ⟨_, rfl, _⟩ := h; rfl) | (obtain ⟨_, _, rfl, _⟩ := h; rfl) | (obtain ⟨_, _, _, rfl, _⟩ := h; rfl) | (obtain ⟨_, _, _, _, rfl, _⟩ := h; rfl) | (obtain ⟨_, _, _, _, _, rfl, _⟩ := h; rfl) | (obtain ⟨_, _, _, _, _, _, rfl, _⟩ := h; rfl) | (obtain ⟨_, _, _, _, _, _, _, rfl, _⟩ := h; rfl) | (obtain ⟨_, _, _, _, _, _, _, _, rfl, _⟩ := h; rfl) | (obtain ⟨_, _, _, _, _, _, _, _, _, rfl, _⟩ := h; rfl) | (obtain ⟨_, _, _, _, _, _, _, _, _, _, rfl, _⟩ := h; rfl)
  · exact (pss_one (ps_ret (pe_and (pe_callB u_isi (by rfl) n_isinstance (by decide +kernel) (pa_cons (pv 0) (pa_cons (pe_bltn (by rfl) n_int (by decide +kernel) rfl) pa_nil))) (pe_and (pe_not (pe_callB u_isi (by rfl) n_isinstance (by decide +kernel) (pa_cons (pv 0) (pa_cons (pe_bltn (by rfl) n_bool (by decide +kernel) rfl) pa_nil)))) (pe_one (pe_cmpR u_in (pv 0) (pe_tup (pa_cons pe_int (pa_cons pe_int pa_nil))) (by rfl)))))))
theorem sc_need_seat : FnScope N_need_seat ["thing"] (defScope s_need_seat) := ⟨rfl, rfl, rfl, by decide +kernel, rfl, by decide +kernel, by decide +kernel⟩
theorem ok_need_seat {f : Addr} {fd : FuncData} (F : Fun K "need_seat" "need_seat" s_need_seat f fd) {f_is_seat : Addr} {fd_is_seat : FuncData} (G_is_seat : FnOk P w K mg base CX0 1 f_is_seat fd_is_seat ["thing"] (sp_is_seat K)) (g_is_seat : mg "is_seat" = some (.ref f_is_seat)) (k_is_seat : PySem.W.keepIn K (.ref f_is_seat) = true) (b_is_seat : Binds K fd_is_seat ["thing"] []) : FnOk P w K mg base CX0 2 f fd ["thing"] (sp_need_seat K) := by
  have nd := sc_need_seat.nd
  refine F.ok sc_need_seat (fun vs H Q E h => ?_) (fun cdv A o s H vs Q E hr h => ⟨t_need_seat K, ?_, pr_need_seat h⟩)
  · first | (obtain ⟨rfl, _⟩ := h; rfl) | (obtain ⟨_, rfl, _⟩ := h; rfl) | (obtain ⟨_, _, rfl, _⟩ := h; rfl) | (obtain ⟨_, _, _, rfl, _⟩ := h; rfl) | (obtain ⟨_, _, _, _, rfl, _⟩ := h; rfl) | (obtain ⟨_, _, _, _, _, rfl, _⟩ := h; rfl) | (obtain ⟨_, _, _, _, _, _, rfl, _⟩ := h; rfl) | (obtain ⟨_, _, _, _, _, _, _, rfl, _⟩ := h; rfl) | (obtain ⟨_, _, _, _, _, _, _, _, rfl, _⟩ := h; rfl) | (obtain ⟨_, _, _, _, _, _, _, _, _, rfl, _⟩ := h; rfl) | (obtain ⟨_, _, _, _, _, _, _, _, _, _, rfl, _⟩ := h; rfl)
  · exact (pss_one (ps_if (pt_not (pt_val (pe_call G_is_seat (hr.mono (by decide)) rfl g_is_seat k_is_seat b_is_seat .nil pass0 (pa_cons (pv 0) pa_nil)))) (pss_one ps_never) pss_nil))
theorem sc_Seat_shown : FnScope N_Seat_shown ["self"] (defScope s_Seat_shown) := ⟨rfl, rfl, rfl, by decide +kernel, rfl, by decide +kernel, by decide +kernel⟩
theorem ok_Seat_shown {f : Addr} {fd : FuncData} (F : Fun K "shown" "Seat.shown" s_Seat_shown f fd) (cl_Seat : Cls K (gloA K "Seat")) (na_Seat_text : NoAttr K (gloA K "Seat") "text") : FnOk P w K mg base CX0 1 f fd ["self"] (sp_Seat_shown K) := by
  have nd := sc_Seat_shown.nd
  refine F.ok sc_Seat_shown (fun vs H Q E h => ?_) (fun cdv A o s H vs Q E hr h => ⟨t_Seat_shown K, ?_, pr_Seat_shown h⟩)
  · first | (obtain ⟨rfl, _⟩ := h; rfl) | (obtain ⟨_, rfl, _⟩ := h; rfl) | (obtain ⟨_, _, rfl, _⟩ := h; rfl) | (obtain ⟨_, _, _, rfl, _⟩ := h; rfl) | (obtain ⟨_, _, _, _, rfl, _⟩ := h; rfl) | (obtain ⟨_, _, _, _, _, rfl, _⟩ := h; rfl) | (obtain ⟨_, _, _, _, _, _, rfl, _⟩ := h; rfl) | (obtain ⟨_, _, _, _, _, _, _, rfl, _⟩ := h; rfl) | (obtain ⟨_, _, _, _, _, _, _, _, rfl, _⟩ := h; rfl) | (obtain ⟨_, _, _, _, _, _, _, _, _, rfl, _⟩ := h; rfl) | (obtain ⟨_, _, _, _, _, _, _, _, _, _, rfl, _⟩ := h; rfl)
  · exact (pss_one (ps_ret (pe_fldC cl_Seat na_Seat_text (pv 0))))
theorem sc_Yard_shown_at : FnScope N_Yard_shown_at ["self", "seat"] (defScope s_Yard_shown_at) := ⟨rfl, rfl, rfl, by decide +kernel, rfl, by decide +kernel, by decide +kernel⟩
theorem ok_Yard_shown_at {f : Addr} {fd : FuncData} (F : Fun K "shown_at" "Yard.shown_at" s_Yard_shown_at f fd) {f_Seat_shown : Addr} {fd_Seat_shown : FuncData} (G_Seat_shown : FnOk P w K mg base CX0 1 f_Seat_shown fd_Seat_shown ["self"] (sp_Seat_shown K)) (m_Seat_shown : Meth K (gloA K "Seat") "shown" f_Seat_shown) (b_Seat_shown : Binds K fd_Seat_shown ["self"] []) {f_need_seat : Addr} {fd_need_seat : FuncData} (G_need_seat : FnOk P w K mg base CX0 2 f_need_seat fd_need_seat ["thing"] (sp_need_seat K)) (g_need_seat : mg "need_seat" = some (.ref f_need_seat)) (k_need_seat : PySem.W.keepIn K (.ref f_need_seat) = true) (b_need_seat : Binds K fd_need_seat ["thing"] []) (cl_Seat : Cls K (gloA K "Seat")) (cl_Yard : Cls K (gloA K "Yard")) (na_Yard_seats : NoAttr K (gloA K "Yard") "seats") : FnOk P w K mg base CX0 3 f fd ["self", "seat"] (sp_Yard_shown_at K) := by
  have nd := sc_Yard_shown_at.nd
  refine F.ok sc_Yard_shown_at (fun vs H Q E h => ?_) (fun cdv A o s H vs Q E hr h => ⟨t_Yard_shown_at K, ?_, pr_Yard_shown_at h⟩)
  · first | (obtain ⟨rfl, _⟩ := h; rfl) | (obtain ⟨_, rfl, _⟩ := h; rfl) | (obtain ⟨_, _, rfl, _⟩ := h; rfl) | (obtain ⟨_, _, _, rfl, _⟩ := h; rfl) | (obtain ⟨_, _, _, _, rfl, _⟩ := h; rfl) | (obtain ⟨_, _, _, _, _, rfl, _⟩ := h; rfl) | (obtain ⟨_, _, _, _, _, _, rfl, _⟩ := h; rfl) | (obtain ⟨_, _, _, _, _, _, _, rfl, _⟩ := h; rfl) | (obtain ⟨_, _, _, _, _, _, _, _, rfl, _⟩ := h; rfl) | (obtain ⟨_, _, _, _, _, _, _, _, _, rfl, _⟩ := h; rfl) | (obtain ⟨_, _, _, _, _, _, _, _, _, _, rfl, _⟩ := h; rfl)
  · exact (pss_cons (ps_expr (pe_call G_need_seat (hr.mono (by decide)) rfl g_need_seat k_need_seat b_need_seat .nil pass0 (pa_cons (pv 1) pa_nil))) (pss_one (ps_ret (pe_meth0 (pe_ix ix_seq (pe_fldC cl_Yard na_Yard_seats (pv 0)) (pv 1) (fun _ _ => rfl)) cl_Seat m_Seat_shown G_Seat_shown (hr.mono (by decide)) b_Seat_shown .nil pass0))))
theorem sc_Yard_road_to : FnScope N_Yard_road_to ["self", "seat"] (defScope s_Yard_road_to) := ⟨rfl, rfl, rfl, by decide +kernel, rfl, by decide +kernel, by decide +kernel⟩
theorem ok_Yard_road_to {f : Addr} {fd : FuncData} (F : Fun K "road_to" "Yard.road_to" s_Yard_road_to f fd) {f_need_seat : Addr} {fd_need_seat : FuncData} (G_need_seat : FnOk P w K mg base CX0 2 f_need_seat fd_need_seat ["thing"] (sp_need_seat K)) (g_need_seat : mg "need_seat" = some (.ref f_need_seat)) (k_need_seat : PySem.W.keepIn K (.ref f_need_seat) = true) (b_need_seat : Binds K fd_need_seat ["thing"] []) (cl_Yard : Cls K (gloA K "Yard")) (na_Yard_roads : NoAttr K (gloA K "Yard") "roads") (n_list : mg "list" = none) : FnOk P w K mg base CX0 3 f fd ["self", "seat"] (sp_Yard_road_to K) := by
  have nd := sc_Yard_road_to.nd
  refine F.ok sc_Yard_road_to (fun vs H Q E h => ?_) (fun cdv A o s H vs Q E hr h => ⟨t_Yard_road_to K, ?_, pr_Yard_road_to h⟩)
  · first | (obtain ⟨rfl, _⟩ := h; rfl) | (obtain ⟨_, rfl, _⟩ := h; rfl) | (obtain ⟨_, _, rfl, _⟩ := h; rfl) | (obtain ⟨_, _, _, rfl, _⟩ := h; rfl) | (obtain ⟨_, _, _, _, rfl, _⟩ := h; rfl) | (obtain ⟨_, _, _, _, _, rfl, _⟩ := h; rfl) | (obtain ⟨_, _, _, _, _, _, rfl, _⟩ := h; rfl) | (obtain ⟨_, _, _, _, _, _, _, rfl, _⟩ := h; rfl) | (obtain ⟨_, _, _, _, _, _, _, _, rfl, _⟩ := h; rfl) | (obtain ⟨_, _, _, _, _, _, _, _, _, rfl, _⟩ := h; rfl) | (obtain ⟨_, _, _, _, _, _, _, _, _, _, rfl, _⟩ := h; rfl)
  · exact (pss_cons (ps_expr (pe_call G_need_seat (hr.mono (by decide)) rfl g_need_seat k_need_seat b_need_seat .nil pass0 (pa_cons (pv 1) pa_nil))) (pss_one (ps_ret (pe_callTy (u_listW rfl) (by rfl) n_list (by decide +kernel) (pa_cons (pe_ix ix_seq (pe_fldC cl_Yard na_Yard_roads (pv 0)) (pv 1) (fun _ _ => rfl)) pa_nil)))))
theorem sc_may_be : FnScope N_may_be ["yard", "event"] (defScope s_may_be) := ⟨rfl, rfl, rfl, by decide +kernel, rfl, by decide +kernel, by decide +kernel⟩
theorem ok_may_be {f : Addr} {fd : FuncData} (F : Fun K "may_be" "may_be" s_may_be f fd) {f_Yard_road_to : Addr} {fd_Yard_road_to : FuncData} (G_Yard_road_to : FnOk P w K mg base CX0 3 f_Yard_road_to fd_Yard_road_to ["self", "seat"] (sp_Yard_road_to K)) (m_Yard_road_to : Meth K (gloA K "Yard") "road_to" f_Yard_road_to) (b_Yard_road_to : Binds K fd_Yard_road_to ["self", "seat"] []) {f_Yard_shown_at : Addr} {fd_Yard_shown_at : FuncData} (G_Yard_shown_at : FnOk P w K mg base CX0 3 f_Yard_shown_at fd_Yard_shown_at ["self", "seat"] (sp_Yard_shown_at K)) (m_Yard_shown_at : Meth K (gloA K "Yard") "shown_at" f_Yard_shown_at) (b_Yard_shown_at : Binds K fd_Yard_shown_at ["self", "seat"] []) {f_can_be_done : Addr} {fd_can_be_done : FuncData} (G_can_be_done : FnOk P w K mg base CX0 3 f_can_be_done fd_can_be_done ["line", "deed"] (sp_can_be_done K)) (g_can_be_done : mg "can_be_done" = some (.ref f_can_be_done)) (k_can_be_done : PySem.W.keepIn K (.ref f_can_be_done) = true) (b_can_be_done : Binds K fd_can_be_done ["line", "deed"] []) {f_is_either : Addr} {fd_is_either : FuncData} (G_is_either : FnOk P w K mg base CX0 1 f_is_either fd_is_either ["thing"] (sp_is_either K)) (g_is_either : mg "is_either" = some (.ref f_is_either)) (k_is_either : PySem.W.keepIn K (.ref f_is_either) = true) (b_is_either : Binds K fd_is_either ["thing"] []) (cl_Yard : Cls K (gloA K "Yard")) (n_isinstance : mg "isinstance" = none) (n_len : mg "len" = none) (n_tuple : mg "tuple" = none) : FnOk P w K mg base CX0 4 f fd ["yard", "event"] (sp_may_be K) := by
  have nd := sc_may_be.nd
  refine F.ok sc_may_be (fun vs H Q E h => ?_) (fun cdv A o s H vs Q E hr h => ⟨t_may_be K, ?_, pr_may_be h⟩)
  · first | (obtain ⟨rfl, _⟩ := h; rfl) | (obtain ⟨_, rfl, _⟩ := h; rfl) | (obtain ⟨_, _, rfl, _⟩ := h; rfl) | (obtain ⟨_, _, _, rfl, _⟩ := h; rfl) | (obtain ⟨_, _, _, _, rfl, _⟩ := h; rfl) | (obtain ⟨_, _, _, _, _, rfl, _⟩ := h; rfl) | (obtain ⟨_, _, _, _, _, _, rfl, _⟩ := h; rfl) | (obtain ⟨_, _, _, _, _, _, _, rfl, _⟩ := h; rfl) | (obtain ⟨_, _, _, _, _, _, _, _, rfl, _⟩ := h; rfl) | (obtain ⟨_, _, _, _, _, _, _, _, _, rfl, _⟩ := h; rfl) | (obtain ⟨_, _, _, _, _, _, _, _, _, _, rfl, _⟩ := h; rfl)
  · exact (pss_cons (ps_if (PW.pt (pw_or (pt_not (pt_val (pe_callB u_isi (by rfl) n_isinstance (by decide +kernel) (pa_cons (pv 1) (pa_cons (pe_bltn (by rfl) n_tuple (by decide +kernel) rfl) pa_nil))))) (pw_or (pt_cmpR u_lt (pe_callB u_len (by rfl) n_len (by decide +kernel) (pa_cons (pv 1) pa_nil)) pe_int (nomark _)) (pw_or1 (pt_not (pt_val (pe_call G_is_either (hr.mono (by decide)) rfl g_is_either k_is_either b_is_either .nil pass0 (pa_cons (pe_ix ix_seq (pv 1) pe_int (fun _ _ => rfl)) pa_nil)))))))) (pss_one (ps_ret pe_bl)) pss_nil) (pss_cons (ps_if (pt_cmpR (u_eq hr.units) (pe_callB u_len (by rfl) n_len (by decide +kernel) (pa_cons (pv 1) pa_nil)) pe_int (nomark _)) (pss_one (ps_ret (pe_and (pe_cmpR (u_eq hr.units) (pe_ix ix_seq (pv 1) pe_int (fun _ _ => rfl)) pe_str (nomark _)) (pe_one (pe_call G_can_be_done (hr.mono (by decide)) rfl g_can_be_done k_can_be_done b_can_be_done .nil pass0 (pa_cons (pe_meth (pv 0) cl_Yard m_Yard_shown_at G_Yard_shown_at (hr.mono (by decide)) b_Yard_shown_at .nil pass0 (pa_cons (pe_ix ix_seq (pv 1) pe_int (fun _ _ => rfl)) pa_nil)) (pa_cons (pe_ix ix_seq (pv 1) pe_int (fun _ _ => rfl)) pa_nil))))))) pss_nil) (pss_one (ps_ret (pe_and (pe_cmpR (u_eq hr.units) (pe_callB u_len (by rfl) n_len (by decide +kernel) (pa_cons (pv 1) pa_nil)) pe_int (nomark _)) (pe_and (pe_cmpR (u_eq hr.units) (pe_ix ix_seq (pv 1) pe_int (fun _ _ => rfl)) pe_str (nomark _)) (pe_one (pe_cmpR (u_ne hr.units) (pe_meth (pv 0) cl_Yard m_Yard_road_to G_Yard_road_to (hr.mono (by decide)) b_Yard_road_to .nil pass0 (pa_cons (pe_ix ix_seq (pv 1) pe_int (fun _ _ => rfl)) pa_nil)) (pe_lst pa_nil) (nomark _)))))))))
theorem sc_done : FnScope N_done ["line", "deed"] (defScope s_done) := ⟨rfl, rfl, rfl, by decide +kernel, rfl, by decide +kernel, by decide +kernel⟩
theorem ok_done {f : Addr} {fd : FuncData} (F : Fun K "done" "done" s_done f fd) {f_can_be_done : Addr} {fd_can_be_done : FuncData} (G_can_be_done : FnOk P w K mg base CX0 3 f_can_be_done fd_can_be_done ["line", "deed"] (sp_can_be_done K)) (g_can_be_done : mg "can_be_done" = some (.ref f_can_be_done)) (k_can_be_done : PySem.W.keepIn K (.ref f_can_be_done) = true) (b_can_be_done : Binds K fd_can_be_done ["line", "deed"] []) : FnOk P w K mg base CX0 4 f fd ["line", "deed"] (sp_done K) := by
  have nd := sc_done.nd
  refine F.ok sc_done (fun vs H Q E h => ?_) (fun cdv A o s H vs Q E hr h => ⟨t_done K, ?_, pr_done h⟩)
  · first | (obtain ⟨rfl, _⟩ := h; rfl) | (obtain ⟨_, rfl, _⟩ := h; rfl) | (obtain ⟨_, _, rfl, _⟩ := h; rfl) | (obtain ⟨_, _, _, rfl, _⟩ := h; rfl) | (obtain ⟨_, _, _, _, rfl, _⟩ := h; rfl) | (obtain ⟨_, _, _, _, _, rfl, _⟩ := h; rfl) | (obtain ⟨_, _, _, _, _, _, rfl, _⟩ := h; rfl) | (obtain ⟨_, _, _, _, _, _, _, rfl, _⟩ := h; rfl) | (obtain ⟨_, _, _, _, _, _, _, _, rfl, _⟩ := h; rfl) | (obtain ⟨_, _, _, _, _, _, _, _, _, rfl, _⟩ := h; rfl) | (obtain ⟨_, _, _, _, _, _, _, _, _, _, rfl, _⟩ := h; rfl)
  · exact (pss_cons (ps_if (pt_not (pt_val (pe_call G_can_be_done (hr.mono (by decide)) rfl g_can_be_done k_can_be_done b_can_be_done .nil pass0 (pa_cons (pv 0) (pa_cons (pv 1) pa_nil))))) (pss_one ps_never) pss_nil) (pss_cons (ps_if (pt_cmpR (u_eq hr.units) (pe_ix ix_seq (pv 1) pe_int (fun _ _ => rfl)) pe_str (nomark _)) (pss_one (ps_ret (pe_op u_add (pe_op u_add (pe_slice u_sl (pv 0) po_none (po_some (pe_ix ix_seq (pv 1) pe_int (fun _ _ => rfl)))) (pe_ix ix_seq (pv 1) pe_int (fun _ _ => rfl))) (pe_slice u_sl (pv 0) (po_some (pe_ix ix_seq (pv 1) pe_int (fun _ _ => rfl))) po_none)))) pss_nil) (pss_cons (ps_if (pt_cmpR (u_eq hr.units) (pe_ix ix_seq (pv 1) pe_int (fun _ _ => rfl)) pe_str (nomark _)) (pss_one (ps_ret (pe_op u_add (pe_slice u_sl (pv 0) po_none (po_some (pe_ix ix_seq (pv 1) pe_int (fun _ _ => rfl)))) (pe_slice u_sl (pv 0) (po_some (pe_op u_add (pe_ix ix_seq (pv 1) pe_int (fun _ _ => rfl)) pe_int)) po_none)))) pss_nil) (pss_one (ps_ret (pv 0))))))
theorem sc_moved : FnScope N_moved ["deed", "other", "first"] (defScope s_moved) := ⟨rfl, rfl, rfl, by decide +kernel, rfl, by decide +kernel, by decide +kernel⟩
theorem ok_moved {f : Addr} {fd : FuncData} (F : Fun K "moved" "moved" s_moved f fd)  : FnOk P w K mg base CX0 1 f fd ["deed", "other", "first"] (sp_moved K) := by
  have nd := sc_moved.nd
  refine F.ok sc_moved (fun vs H Q E h => ?_) (fun cdv A o s H vs Q E hr h => ⟨t_moved K, ?_, pr_moved h⟩)
  · first | (obtain ⟨rfl, _⟩ := h; rfl) | (obtain ⟨_, rfl, _⟩ := h; rfl) | (obtain ⟨_, _, rfl, _⟩ := h; rfl) | (obtain ⟨_, _, _, rfl, _⟩ := h; rfl) | (obtain ⟨_, _, _, _, rfl, _⟩ := h; rfl) | (obtain ⟨_, _, _, _, _, rfl, _⟩ := h; rfl) | (obtain ⟨_, _, _, _, _, _, rfl, _⟩ := h; rfl) | (obtain ⟨_, _, _, _, _, _, _, rfl, _⟩ := h; rfl) | (obtain ⟨_, _, _, _, _, _, _, _, rfl, _⟩ := h; rfl) | (obtain ⟨_, _, _, _, _, _, _, _, _, rfl, _⟩ := h; rfl) | (obtain ⟨_, _, _, _, _, _, _, _, _, _, rfl, _⟩ := h; rfl)
  · exact (pss_cons (ps_if (PW.pt (pw_or (pt_cmpR (u_eq hr.units) (pe_ix ix_seq (pv 0) pe_int (fun _ _ => rfl)) pe_str (nomark _)) (pw_or1 (pt_cmpR (u_eq hr.units) (pe_ix ix_seq (pv 1) pe_int (fun _ _ => rfl)) pe_str (nomark _))))) (pss_one (ps_ret (pv 0))) pss_nil) (pss_cons (ps_set (i := 3) nd rfl (by first | exact Or.inl rfl | exact Or.inr rfl) (pe_ix ix_seq (pv 0) pe_int (fun _ _ => rfl))) (pss_cons (ps_set (i := 4) nd rfl (by first | exact Or.inl rfl | exact Or.inr rfl) (pe_ix ix_seq (pv 1) pe_int (fun _ _ => rfl))) (pss_cons (ps_if (pt_cmpR (u_eq hr.units) (pe_ix ix_seq (pv 1) pe_int (fun _ _ => rfl)) pe_str (nomark _)) (pss_one (ps_if (PW.pt (pw_or (pt_cmpR u_lt (pv 4) (pv 3) (nomark _)) (pw_or1 (PW.pt (pw_and (pt_cmpR (u_eq hr.units) (pv 4) (pv 3) (nomark _)) (pw_and1 (PW.pt (pw_or (pt_cmpR (u_eq hr.units) (pe_ix ix_seq (pv 0) pe_int (fun _ _ => rfl)) pe_str (nomark _)) (pw_or1 (pt_not (pt_val (pv 2)))))))))))) (pss_one (ps_aug (i := 3) nd rfl (by first | exact Or.inl rfl | exact Or.inr rfl) pe_int ip_add)) pss_nil)) (pss_one (ps_if (pt_cmpR u_lt (pv 4) (pv 3) (nomark _)) (pss_one (ps_aug (i := 3) nd rfl (by first | exact Or.inl rfl | exact Or.inr rfl) pe_int ip_sub)) (pss_one (ps_if (PW.pt (pw_and (pt_cmpR (u_eq hr.units) (pv 4) (pv 3) (nomark _)) (pw_and1 (pt_cmpR (u_eq hr.units) (pe_ix ix_seq (pv 0) pe_int (fun _ _ => rfl)) pe_str (nomark _))))) (pss_one (ps_ret (pe_tup (pa_cons pe_str pa_nil)))) pss_nil))))) (pss_one (ps_ret (pe_op u_add (pe_tup (pa_cons (pe_ix ix_seq (pv 0) pe_int (fun _ _ => rfl)) (pa_cons (pv 3) pa_nil))) (pe_slice u_sl (pv 0) (po_some pe_int) po_none))))))))
theorem sc_mark_moved : FnScope N_mark_moved ["place", "deed", "first"] (defScope s_mark_moved) := ⟨rfl, rfl, rfl, by decide +kernel, rfl, by decide +kernel, by decide +kernel⟩
theorem ok_mark_moved {f : Addr} {fd : FuncData} (F : Fun K "mark_moved" "mark_moved" s_mark_moved f fd) {f_moved : Addr} {fd_moved : FuncData} (G_moved : FnOk P w K mg base CX0 1 f_moved fd_moved ["deed", "other", "first"] (sp_moved K)) (g_moved : mg "moved" = some (.ref f_moved)) (k_moved : PySem.W.keepIn K (.ref f_moved) = true) (b_moved : Binds K fd_moved ["deed", "other", "first"] []) : FnOk P w K mg base CX0 2 f fd ["place", "deed", "first"] (sp_mark_moved K) := by
  have nd := sc_mark_moved.nd
  refine F.ok sc_mark_moved (fun vs H Q E h => ?_) (fun cdv A o s H vs Q E hr h => ⟨t_mark_moved K, ?_, pr_mark_moved h⟩)
  · first | (obtain ⟨rfl, _⟩ := h; rfl) | (obtain ⟨_, rfl, _⟩ := h; rfl) | (obtain ⟨_, _, rfl, _⟩ := h; rfl) | (obtain ⟨_, _, _, rfl, _⟩ := h; rfl) | (obtain ⟨_, _, _, _, rfl, _⟩ := h; rfl) | (obtain ⟨_, _, _, _, _, rfl, _⟩ := h; rfl) | (obtain ⟨_, _, _, _, _, _, rfl, _⟩ := h; rfl) | (obtain ⟨_, _, _, _, _, _, _, rfl, _⟩ := h; rfl) | (obtain ⟨_, _, _, _, _, _, _, _, rfl, _⟩ := h; rfl) | (obtain ⟨_, _, _, _, _, _, _, _, _, rfl, _⟩ := h; rfl) | (obtain ⟨_, _, _, _, _, _, _, _, _, _, rfl, _⟩ := h; rfl)
  · exact (pss_one (ps_ret (pe_ix ix_seq (pe_call G_moved (hr.mono (by decide)) rfl g_moved k_moved b_moved .nil pass0 (pa_cons (pe_tup (pa_cons pe_str (pa_cons (pv 0) (pa_cons pe_str pa_nil)))) (pa_cons (pv 1) (pa_cons (pv 2) pa_nil)))) pe_int (fun _ _ => rfl))))
theorem sc_Seat_make_in : FnScope N_Seat_make_in ["self", "deed"] (defScope s_Seat_make_in) := ⟨rfl, rfl, rfl, by decide +kernel, rfl, by decide +kernel, by decide +kernel⟩
theorem ok_Seat_make_in {f : Addr} {fd : FuncData} (F : Fun K "make_in" "Seat.make_in" s_Seat_make_in f fd) {f_done : Addr} {fd_done : FuncData} (G_done : FnOk P w K mg base CX0 4 f_done fd_done ["line", "deed"] (sp_done K)) (g_done : mg "done" = some (.ref f_done)) (k_done : PySem.W.keepIn K (.ref f_done) = true) (b_done : Binds K fd_done ["line", "deed"] []) {f_mark_moved : Addr} {fd_mark_moved : FuncData} (G_mark_moved : FnOk P w K mg base CX0 2 f_mark_moved fd_mark_moved ["place", "deed", "first"] (sp_mark_moved K)) (g_mark_moved : mg "mark_moved" = some (.ref f_mark_moved)) (k_mark_moved : PySem.W.keepIn K (.ref f_mark_moved) = true) (b_mark_moved : Binds K fd_mark_moved ["place", "deed", "first"] []) (cl_Seat : Cls K (gloA K "Seat")) (na_Seat_text : NoAttr K (gloA K "Seat") "text") (na_Seat_own_mark : NoAttr K (gloA K "Seat") "own_mark") (na_Seat_far_mark : NoAttr K (gloA K "Seat") "far_mark") (na_Seat_ahead : NoAttr K (gloA K "Seat") "ahead") (na_Seat_waiting : NoAttr K (gloA K "Seat") "waiting") (na_Seat_many_made : NoAttr K (gloA K "Seat") "many_made") (na_Seat_many_taken : NoAttr K (gloA K "Seat") "many_taken") : FnOk P w K mg base CX0 5 f fd ["self", "deed"] (sp_Seat_make_in K) := by
  have nd := sc_Seat_make_in.nd
  refine F.ok sc_Seat_make_in (fun vs H Q E h => ?_) (fun cdv A o s H vs Q E hr h => ⟨t_Seat_make_in K, ?_, pr_Seat_make_in h⟩)
  · first | (obtain ⟨rfl, _⟩ := h; rfl) | (obtain ⟨_, rfl, _⟩ := h; rfl) | (obtain ⟨_, _, rfl, _⟩ := h; rfl) | (obtain ⟨_, _, _, rfl, _⟩ := h; rfl) | (obtain ⟨_, _, _, _, rfl, _⟩ := h; rfl) | (obtain ⟨_, _, _, _, _, rfl, _⟩ := h; rfl) | (obtain ⟨_, _, _, _, _, _, rfl, _⟩ := h; rfl) | (obtain ⟨_, _, _, _, _, _, _, rfl, _⟩ := h; rfl) | (obtain ⟨_, _, _, _, _, _, _, _, rfl, _⟩ := h; rfl) | (obtain ⟨_, _, _, _, _, _, _, _, _, rfl, _⟩ := h; rfl) | (obtain ⟨_, _, _, _, _, _, _, _, _, _, rfl, _⟩ := h; rfl)
  · exact (pss_cons (ps_fldC cl_Seat na_Seat_text (pv 0) (pe_call G_done (hr.mono (by decide)) rfl g_done k_done b_done .nil pass0 (pa_cons (pe_fldC cl_Seat na_Seat_text (pv 0)) (pa_cons (pv 1) pa_nil)))) (pss_cons (ps_if (pt_cmpR (u_eq hr.units) (pe_ix ix_seq (pv 1) pe_int (fun _ _ => rfl)) pe_str (nomark _)) (pss_one (ps_fldC cl_Seat na_Seat_own_mark (pv 0) (pe_op u_add (pe_ix ix_seq (pv 1) pe_int (fun _ _ => rfl)) pe_int))) (pss_one (ps_if (pt_cmpR (u_eq hr.units) (pe_ix ix_seq (pv 1) pe_int (fun _ _ => rfl)) pe_str (nomark _)) (pss_one (ps_fldC cl_Seat na_Seat_own_mark (pv 0) (pe_ix ix_seq (pv 1) pe_int (fun _ _ => rfl)))) pss_nil))) (pss_cons (ps_fldC cl_Seat na_Seat_far_mark (pv 0) (pe_call G_mark_moved (hr.mono (by decide)) rfl g_mark_moved k_mark_moved b_mark_moved .nil pass0 (pa_cons (pe_fldC cl_Seat na_Seat_far_mark (pv 0)) (pa_cons (pv 1) (pa_cons (pe_not (pe_fldC cl_Seat na_Seat_ahead (pv 0))) pa_nil))))) (pss_cons (ps_expr (pe_bm PySem.F.plainAttrs_list PySem.F.slot_list_append PySem.F.type_list_append mt_append (pe_fldC cl_Seat na_Seat_waiting (pv 0)) (pa_cons (pv 1) pa_nil))) (pss_cons (ps_set (i := 2) nd rfl (by first | exact Or.inl rfl | exact Or.inr rfl) (pe_tup (pa_cons (pe_fldC cl_Seat na_Seat_many_made (pv 0)) (pa_cons (pe_fldC cl_Seat na_Seat_many_taken (pv 0)) (pa_cons (pv 1) (pa_cons (pe_fldC cl_Seat na_Seat_own_mark (pv 0)) pa_nil)))))) (pss_cons (ps_fldaugC cl_Seat na_Seat_many_made (pv 0) pe_int in_add) (pss_one (ps_ret (pv 2)))))))))
theorem sc_Yard_make_at : FnScope N_Yard_make_at ["self", "seat", "deed"] (defScope s_Yard_make_at) := ⟨rfl, rfl, rfl, by decide +kernel, rfl, by decide +kernel, by decide +kernel⟩
theorem ok_Yard_make_at {f : Addr} {fd : FuncData} (F : Fun K "make_at" "Yard.make_at" s_Yard_make_at f fd) {f_Seat_make_in : Addr} {fd_Seat_make_in : FuncData} (G_Seat_make_in : FnOk P w K mg base CX0 5 f_Seat_make_in fd_Seat_make_in ["self", "deed"] (sp_Seat_make_in K)) (m_Seat_make_in : Meth K (gloA K "Seat") "make_in" f_Seat_make_in) (b_Seat_make_in : Binds K fd_Seat_make_in ["self", "deed"] []) {f_need_seat : Addr} {fd_need_seat : FuncData} (G_need_seat : FnOk P w K mg base CX0 2 f_need_seat fd_need_seat ["thing"] (sp_need_seat K)) (g_need_seat : mg "need_seat" = some (.ref f_need_seat)) (k_need_seat : PySem.W.keepIn K (.ref f_need_seat) = true) (b_need_seat : Binds K fd_need_seat ["thing"] []) (cl_Seat : Cls K (gloA K "Seat")) (cl_Yard : Cls K (gloA K "Yard")) (na_Yard_seats : NoAttr K (gloA K "Yard") "seats") (na_Yard_roads : NoAttr K (gloA K "Yard") "roads") : FnOk P w K mg base CX0 6 f fd ["self", "seat", "deed"] (sp_Yard_make_at K) := by
  have nd := sc_Yard_make_at.nd
  refine F.ok sc_Yard_make_at (fun vs H Q E h => ?_) (fun cdv A o s H vs Q E hr h => ⟨t_Yard_make_at K, ?_, pr_Yard_make_at h⟩)
  · first | (obtain ⟨rfl, _⟩ := h; rfl) | (obtain ⟨_, rfl, _⟩ := h; rfl) | (obtain ⟨_, _, rfl, _⟩ := h; rfl) | (obtain ⟨_, _, _, rfl, _⟩ := h; rfl) | (obtain ⟨_, _, _, _, rfl, _⟩ := h; rfl) | (obtain ⟨_, _, _, _, _, rfl, _⟩ := h; rfl) | (obtain ⟨_, _, _, _, _, _, rfl, _⟩ := h; rfl) | (obtain ⟨_, _, _, _, _, _, _, rfl, _⟩ := h; rfl) | (obtain ⟨_, _, _, _, _, _, _, _, rfl, _⟩ := h; rfl) | (obtain ⟨_, _, _, _, _, _, _, _, _, rfl, _⟩ := h; rfl) | (obtain ⟨_, _, _, _, _, _, _, _, _, _, rfl, _⟩ := h; rfl)
  · exact (pss_cons (ps_expr (pe_call G_need_seat (hr.mono (by decide)) rfl g_need_seat k_need_seat b_need_seat .nil pass0 (pa_cons (pv 1) pa_nil))) (pss_cons (ps_set (i := 3) nd rfl (by first | exact Or.inl rfl | exact Or.inr rfl) (pe_meth (pe_ix ix_seq (pe_fldC cl_Yard na_Yard_seats (pv 0)) (pv 1) (fun _ _ => rfl)) cl_Seat m_Seat_make_in G_Seat_make_in (hr.mono (by decide)) b_Seat_make_in .nil pass0 (pa_cons (pv 2) pa_nil))) (pss_cons (ps_expr (pe_bm PySem.F.plainAttrs_list PySem.F.slot_list_append PySem.F.type_list_append mt_append (pe_ix ix_seq (pe_fldC cl_Yard na_Yard_roads (pv 0)) (pe_op u_sub pe_int (pv 1)) (fun _ _ => rfl)) (pa_cons (pv 3) pa_nil))) (pss_one (ps_ret (pv 3))))))
theorem sc_is_whole : FnScope N_is_whole ["thing"] (defScope s_is_whole) := ⟨rfl, rfl, rfl, by decide +kernel, rfl, by decide +kernel, by decide +kernel⟩
theorem ok_is_whole {f : Addr} {fd : FuncData} (F : Fun K "is_whole" "is_whole" s_is_whole f fd) (n_bool : mg "bool" = none) (n_int : mg "int" = none) (n_isinstance : mg "isinstance" = none) : FnOk P w K mg base CX0 1 f fd ["thing"] (sp_is_whole K) := by
  have nd := sc_is_whole.nd
  refine F.ok sc_is_whole (fun vs H Q E h => ?_) (fun cdv A o s H vs Q E hr h => ⟨t_is_whole K, ?_, pr_is_whole h⟩)
  · first | (obtain ⟨rfl, _⟩ := h; rfl) | (obtain ⟨_, rfl, _⟩ := h; rfl) | (obtain ⟨_, _, rfl, _⟩ := h; rfl) | (obtain ⟨_, _, _, rfl, _⟩ := h; rfl) | (obtain ⟨_, _, _, _, rfl, _⟩ := h; rfl) | (obtain ⟨_, _, _, _, _, rfl, _⟩ := h; rfl) | (obtain ⟨_, _, _, _, _, _, rfl, _⟩ := h; rfl) | (obtain ⟨_, _, _, _, _, _, _, rfl, _⟩ := h; rfl) | (obtain ⟨_, _, _, _, _, _, _, _, rfl, _⟩ := h; rfl) | (obtain ⟨_, _, _, _, _, _, _, _, _, rfl, _⟩ := h; rfl) | (obtain ⟨_, _, _, _, _, _, _, _, _, _, rfl, _⟩ := h; rfl)
  · exact (pss_one (ps_ret (pe_and (pe_callB u_isi (by rfl) n_isinstance (by decide +kernel) (pa_cons (pv 0) (pa_cons (pe_bltn (by rfl) n_int (by decide +kernel) rfl) pa_nil))) (pe_and (pe_not (pe_callB u_isi (by rfl) n_isinstance (by decide +kernel) (pa_cons (pv 0) (pa_cons (pe_bltn (by rfl) n_bool (by decide +kernel) rfl) pa_nil)))) (pe_one (pe_cmpR u_ge (pv 0) pe_int (nomark _)))))))
theorem sc_is_letter : FnScope N_is_letter ["thing"] (defScope s_is_letter) := ⟨rfl, rfl, rfl, by decide +kernel, rfl, by decide +kernel, by decide +kernel⟩
theorem ok_is_letter {f : Addr} {fd : FuncData} (F : Fun K "is_letter" "is_letter" s_is_letter f fd) {f_is_deed : Addr} {fd_is_deed : FuncData} (G_is_deed : FnOk P w K mg base CX0 2 f_is_deed fd_is_deed ["thing"] (sp_is_deed K)) (g_is_deed : mg "is_deed" = some (.ref f_is_deed)) (k_is_deed : PySem.W.keepIn K (.ref f_is_deed) = true) (b_is_deed : Binds K fd_is_deed ["thing"] []) {f_is_whole : Addr} {fd_is_whole : FuncData} (G_is_whole : FnOk P w K mg base CX0 1 f_is_whole fd_is_whole ["thing"] (sp_is_whole K)) (g_is_whole : mg "is_whole" = some (.ref f_is_whole)) (k_is_whole : PySem.W.keepIn K (.ref f_is_whole) = true) (b_is_whole : Binds K fd_is_whole ["thing"] []) (n_isinstance : mg "isinstance" = none) (n_len : mg "len" = none) (n_tuple : mg "tuple" = none) : FnOk P w K mg base CX0 3 f fd ["thing"] (sp_is_letter K) := by
  have nd := sc_is_letter.nd
  refine F.ok sc_is_letter (fun vs H Q E h => ?_) (fun cdv A o s H vs Q E hr h => ⟨t_is_letter K, ?_, pr_is_letter h⟩)
  · first | (obtain ⟨rfl, _⟩ := h; rfl) | (obtain ⟨_, rfl, _⟩ := h; rfl) | (obtain ⟨_, _, rfl, _⟩ := h; rfl) | (obtain ⟨_, _, _, rfl, _⟩ := h; rfl) | (obtain ⟨_, _, _, _, rfl, _⟩ := h; rfl) | (obtain ⟨_, _, _, _, _, rfl, _⟩ := h; rfl) | (obtain ⟨_, _, _, _, _, _, rfl, _⟩ := h; rfl) | (obtain ⟨_, _, _, _, _, _, _, rfl, _⟩ := h; rfl) | (obtain ⟨_, _, _, _, _, _, _, _, rfl, _⟩ := h; rfl) | (obtain ⟨_, _, _, _, _, _, _, _, _, rfl, _⟩ := h; rfl) | (obtain ⟨_, _, _, _, _, _, _, _, _, _, rfl, _⟩ := h; rfl)
  · exact (pss_cons (ps_if (PW.pt (pw_or (pt_not (pt_val (pe_callB u_isi (by rfl) n_isinstance (by decide +kernel) (pa_cons (pv 0) (pa_cons (pe_bltn (by rfl) n_tuple (by decide +kernel) rfl) pa_nil))))) (pw_or (pt_cmpR (u_ne hr.units) (pe_callB u_len (by rfl) n_len (by decide +kernel) (pa_cons (pv 0) pa_nil)) pe_int (nomark _)) (pw_or1 (pt_not (pt_val (pe_call G_is_deed (hr.mono (by decide)) rfl g_is_deed k_is_deed b_is_deed .nil pass0 (pa_cons (pe_ix ix_seq (pv 0) pe_int (fun _ _ => rfl)) pa_nil)))))))) (pss_one (ps_ret pe_bl)) pss_nil) (pss_one (ps_ret (pe_and (pe_call G_is_whole (hr.mono (by decide)) rfl g_is_whole k_is_whole b_is_whole .nil pass0 (pa_cons (pe_ix ix_seq (pv 0) pe_int (fun _ _ => rfl)) pa_nil)) (pe_and (pe_call G_is_whole (hr.mono (by decide)) rfl g_is_whole k_is_whole b_is_whole .nil pass0 (pa_cons (pe_ix ix_seq (pv 0) pe_int (fun _ _ => rfl)) pa_nil)) (pe_one (pe_call G_is_whole (hr.mono (by decide)) rfl g_is_whole k_is_whole b_is_whole .nil pass0 (pa_cons (pe_ix ix_seq (pv 0) pe_int (fun _ _ => rfl)) pa_nil))))))))
theorem sc_moved_behind : FnScope N_moved_behind ["deed", "row", "first"] (defScope s_moved_behind) := ⟨rfl, rfl, rfl, by decide +kernel, rfl, by decide +kernel, by decide +kernel⟩
theorem ok_moved_behind {f : Addr} {fd : FuncData} (F : Fun K "moved_behind" "moved_behind" s_moved_behind f fd) {f_moved : Addr} {fd_moved : FuncData} (G_moved : FnOk P w K mg base CX0 1 f_moved fd_moved ["deed", "other", "first"] (sp_moved K)) (g_moved : mg "moved" = some (.ref f_moved)) (k_moved : PySem.W.keepIn K (.ref f_moved) = true) (b_moved : Binds K fd_moved ["deed", "other", "first"] []) : FnOk P w K mg base CX0 2 f fd ["deed", "row", "first"] (sp_moved_behind K) := by
  have nd := sc_moved_behind.nd
  refine F.ok sc_moved_behind (fun vs H Q E h => ?_) (fun cdv A o s H vs Q E hr h => ⟨t_moved_behind K, ?_, pr_moved_behind h⟩)
  · first | (obtain ⟨rfl, _⟩ := h; rfl) | (obtain ⟨_, rfl, _⟩ := h; rfl) | (obtain ⟨_, _, rfl, _⟩ := h; rfl) | (obtain ⟨_, _, _, rfl, _⟩ := h; rfl) | (obtain ⟨_, _, _, _, rfl, _⟩ := h; rfl) | (obtain ⟨_, _, _, _, _, rfl, _⟩ := h; rfl) | (obtain ⟨_, _, _, _, _, _, rfl, _⟩ := h; rfl) | (obtain ⟨_, _, _, _, _, _, _, rfl, _⟩ := h; rfl) | (obtain ⟨_, _, _, _, _, _, _, _, rfl, _⟩ := h; rfl) | (obtain ⟨_, _, _, _, _, _, _, _, _, rfl, _⟩ := h; rfl) | (obtain ⟨_, _, _, _, _, _, _, _, _, _, rfl, _⟩ := h; rfl)
  · exact (pss_cons (ps_set (i := 3) nd rfl (by first | exact Or.inl rfl | exact Or.inr rfl) (pe_lst pa_nil)) (pss_cons (ps_for PassesOwn.never rfl (pi_list (pv 1)) (pg_name (i := 4) nd rfl (by first | exact Or.inl rfl | exact Or.inr rfl)) (pss_cons (ps_expr (pe_bm PySem.F.plainAttrs_list PySem.F.slot_list_append PySem.F.type_list_append mt_append (pv 3) (pa_cons (pe_call G_moved (hr.mono (by decide)) rfl g_moved k_moved b_moved .nil pass0 (pa_cons (pv 4) (pa_cons (pv 0) (pa_cons (pe_not (pv 2)) pa_nil)))) pa_nil))) (pss_one (ps_set (i := 0) nd rfl (by first | exact Or.inl rfl | exact Or.inr rfl) (pe_call G_moved (hr.mono (by decide)) rfl g_moved k_moved b_moved .nil pass0 (pa_cons (pv 0) (pa_cons (pv 4) (pa_cons (pv 2) pa_nil)))))))) (pss_one (ps_ret (pe_tup (pa_cons (pv 0) (pa_cons (pv 3) pa_nil)))))))
theorem sc_rows_moved : FnScope N_rows_moved ["one", "other"] (defScope s_rows_moved) := ⟨rfl, rfl, rfl, by decide +kernel, rfl, by decide +kernel, by decide +kernel⟩
theorem ok_rows_moved {f : Addr} {fd : FuncData} (F : Fun K "rows_moved" "rows_moved" s_rows_moved f fd) {f_moved_behind : Addr} {fd_moved_behind : FuncData} (G_moved_behind : FnOk P w K mg base CX0 2 f_moved_behind fd_moved_behind ["deed", "row", "first"] (sp_moved_behind K)) (g_moved_behind : mg "moved_behind" = some (.ref f_moved_behind)) (k_moved_behind : PySem.W.keepIn K (.ref f_moved_behind) = true) (b_moved_behind : Binds K fd_moved_behind ["deed", "row", "first"] []) (n_list : mg "list" = none) : FnOk P w K mg base CX0 3 f fd ["one", "other"] (sp_rows_moved K) := by
  have nd := sc_rows_moved.nd
  refine F.ok sc_rows_moved (fun vs H Q E h => ?_) (fun cdv A o s H vs Q E hr h => ⟨t_rows_moved K, ?_, pr_rows_moved h⟩)
  · first | (obtain ⟨rfl, _⟩ := h; rfl) | (obtain ⟨_, rfl, _⟩ := h; rfl) | (obtain ⟨_, _, rfl, _⟩ := h; rfl) | (obtain ⟨_, _, _, rfl, _⟩ := h; rfl) | (obtain ⟨_, _, _, _, rfl, _⟩ := h; rfl) | (obtain ⟨_, _, _, _, _, rfl, _⟩ := h; rfl) | (obtain ⟨_, _, _, _, _, _, rfl, _⟩ := h; rfl) | (obtain ⟨_, _, _, _, _, _, _, rfl, _⟩ := h; rfl) | (obtain ⟨_, _, _, _, _, _, _, _, rfl, _⟩ := h; rfl) | (obtain ⟨_, _, _, _, _, _, _, _, _, rfl, _⟩ := h; rfl) | (obtain ⟨_, _, _, _, _, _, _, _, _, _, rfl, _⟩ := h; rfl)
  · exact (pss_cons (ps_set (i := 2) nd rfl (by first | exact Or.inl rfl | exact Or.inr rfl) (pe_lst pa_nil)) (pss_cons (ps_set (i := 3) nd rfl (by first | exact Or.inl rfl | exact Or.inr rfl) (pe_callTy (u_listW rfl) (by rfl) n_list (by decide +kernel) (pa_cons (pv 1) pa_nil))) (pss_cons (ps_for PassesOwn.never rfl (pi_list (pv 0)) (pg_name (i := 4) nd rfl (by first | exact Or.inl rfl | exact Or.inr rfl)) (pss_cons (ps_asg (pe_call G_moved_behind (hr.mono (by decide)) rfl g_moved_behind k_moved_behind b_moved_behind .nil pass0 (pa_cons (pv 4) (pa_cons (pv 3) (pa_cons pe_bl pa_nil)))) (pg_tup rfl (pgs_cons (pg_name (i := 5) nd rfl (by first | exact Or.inl rfl | exact Or.inr rfl)) (pgs_cons (pg_name (i := 3) nd rfl (by first | exact Or.inl rfl | exact Or.inr rfl)) pgs_nil)))) (pss_one (ps_expr (pe_bm PySem.F.plainAttrs_list PySem.F.slot_list_append PySem.F.type_list_append mt_append (pv 2) (pa_cons (pv 5) pa_nil)))))) (pss_one (ps_ret (pe_tup (pa_cons (pv 2) (pa_cons (pv 3) pa_nil))))))))
theorem sc_Seat_past : FnScope N_Seat_past ["self", "deed", "waiting"] (defScope s_Seat_past) := ⟨rfl, rfl, rfl, by decide +kernel, rfl, by decide +kernel, by decide +kernel⟩
theorem ok_Seat_past {f : Addr} {fd : FuncData} (F : Fun K "past" "Seat.past" s_Seat_past f fd) {f_rows_moved : Addr} {fd_rows_moved : FuncData} (G_rows_moved : FnOk P w K mg base CX0 3 f_rows_moved fd_rows_moved ["one", "other"] (sp_rows_moved K)) (g_rows_moved : mg "rows_moved" = some (.ref f_rows_moved)) (k_rows_moved : PySem.W.keepIn K (.ref f_rows_moved) = true) (b_rows_moved : Binds K fd_rows_moved ["one", "other"] []) (cl_Seat : Cls K (gloA K "Seat")) (na_Seat_ahead : NoAttr K (gloA K "Seat") "ahead") : FnOk P w K mg base CX0 4 f fd ["self", "deed", "waiting"] (sp_Seat_past K) := by
  have nd := sc_Seat_past.nd
  refine F.ok sc_Seat_past (fun vs H Q E h => ?_) (fun cdv A o s H vs Q E hr h => ⟨t_Seat_past K, ?_, pr_Seat_past h⟩)
  · first | (obtain ⟨rfl, _⟩ := h; rfl) | (obtain ⟨_, rfl, _⟩ := h; rfl) | (obtain ⟨_, _, rfl, _⟩ := h; rfl) | (obtain ⟨_, _, _, rfl, _⟩ := h; rfl) | (obtain ⟨_, _, _, _, rfl, _⟩ := h; rfl) | (obtain ⟨_, _, _, _, _, rfl, _⟩ := h; rfl) | (obtain ⟨_, _, _, _, _, _, rfl, _⟩ := h; rfl) | (obtain ⟨_, _, _, _, _, _, _, rfl, _⟩ := h; rfl) | (obtain ⟨_, _, _, _, _, _, _, _, rfl, _⟩ := h; rfl) | (obtain ⟨_, _, _, _, _, _, _, _, _, rfl, _⟩ := h; rfl) | (obtain ⟨_, _, _, _, _, _, _, _, _, _, rfl, _⟩ := h; rfl)
  · exact (pss_cons (ps_if (pt_val (pe_fldC cl_Seat na_Seat_ahead (pv 0))) (pss_one (ps_asg (pe_call G_rows_moved (hr.mono (by decide)) rfl g_rows_moved k_rows_moved b_rows_moved .nil pass0 (pa_cons (pv 2) (pa_cons (pe_lst (pa_cons (pv 1) pa_nil)) pa_nil))) (pg_tup rfl (pgs_cons (pg_name (i := 2) nd rfl (by first | exact Or.inl rfl | exact Or.inr rfl)) (pgs_cons (pg_name (i := 3) nd rfl (by first | exact Or.inl rfl | exact Or.inr rfl)) pgs_nil))))) (pss_one (ps_asg (pe_call G_rows_moved (hr.mono (by decide)) rfl g_rows_moved k_rows_moved b_rows_moved .nil pass0 (pa_cons (pe_lst (pa_cons (pv 1) pa_nil)) (pa_cons (pv 2) pa_nil))) (pg_tup rfl (pgs_cons (pg_name (i := 3) nd rfl (by first | exact Or.inl rfl | exact Or.inr rfl)) (pgs_cons (pg_name (i := 2) nd rfl (by first | exact Or.inl rfl | exact Or.inr rfl)) pgs_nil)))))) (pss_one (ps_ret (pe_tup (pa_cons (pe_ix ix_seq (pv 3) pe_int (fun _ _ => rfl)) (pa_cons (pv 2) pa_nil))))))
theorem sc_Seat_take_in : FnScope N_Seat_take_in ["self", "letter"] (defScope s_Seat_take_in) := ⟨rfl, rfl, rfl, by decide +kernel, rfl, by decide +kernel, by decide +kernel⟩
theorem ok_Seat_take_in {f : Addr} {fd : FuncData} (F : Fun K "take_in" "Seat.take_in" s_Seat_take_in f fd) {f_Seat_past : Addr} {fd_Seat_past : FuncData} (G_Seat_past : FnOk P w K mg base CX0 4 f_Seat_past fd_Seat_past ["self", "deed", "waiting"] (sp_Seat_past K)) (m_Seat_past : Meth K (gloA K "Seat") "past" f_Seat_past) (b_Seat_past : Binds K fd_Seat_past ["self", "deed", "waiting"] []) {f_can_be_done : Addr} {fd_can_be_done : FuncData} (G_can_be_done : FnOk P w K mg base CX0 3 f_can_be_done fd_can_be_done ["line", "deed"] (sp_can_be_done K)) (g_can_be_done : mg "can_be_done" = some (.ref f_can_be_done)) (k_can_be_done : PySem.W.keepIn K (.ref f_can_be_done) = true) (b_can_be_done : Binds K fd_can_be_done ["line", "deed"] []) {f_done : Addr} {fd_done : FuncData} (G_done : FnOk P w K mg base CX0 4 f_done fd_done ["line", "deed"] (sp_done K)) (g_done : mg "done" = some (.ref f_done)) (k_done : PySem.W.keepIn K (.ref f_done) = true) (b_done : Binds K fd_done ["line", "deed"] []) {f_is_letter : Addr} {fd_is_letter : FuncData} (G_is_letter : FnOk P w K mg base CX0 3 f_is_letter fd_is_letter ["thing"] (sp_is_letter K)) (g_is_letter : mg "is_letter" = some (.ref f_is_letter)) (k_is_letter : PySem.W.keepIn K (.ref f_is_letter) = true) (b_is_letter : Binds K fd_is_letter ["thing"] []) {f_mark_moved : Addr} {fd_mark_moved : FuncData} (G_mark_moved : FnOk P w K mg base CX0 2 f_mark_moved fd_mark_moved ["place", "deed", "first"] (sp_mark_moved K)) (g_mark_moved : mg "mark_moved" = some (.ref f_mark_moved)) (k_mark_moved : PySem.W.keepIn K (.ref f_mark_moved) = true) (b_mark_moved : Binds K fd_mark_moved ["place", "deed", "first"] []) (cl_Seat : Cls K (gloA K "Seat")) (na_Seat_many_taken : NoAttr K (gloA K "Seat") "many_taken") (na_Seat_heard : NoAttr K (gloA K "Seat") "heard") (na_Seat_many_made : NoAttr K (gloA K "Seat") "many_made") (na_Seat_waiting : NoAttr K (gloA K "Seat") "waiting") (na_Seat_text : NoAttr K (gloA K "Seat") "text") (na_Seat_own_mark : NoAttr K (gloA K "Seat") "own_mark") (na_Seat_ahead : NoAttr K (gloA K "Seat") "ahead") (na_Seat_far_mark : NoAttr K (gloA K "Seat") "far_mark") : FnOk P w K mg base CX0 5 f fd ["self", "letter"] (sp_Seat_take_in K) := by
  have nd := sc_Seat_take_in.nd
  refine F.ok sc_Seat_take_in (fun vs H Q E h => ?_) (fun cdv A o s H vs Q E hr h => ⟨t_Seat_take_in K, ?_, pr_Seat_take_in h⟩)
  · first | (obtain ⟨rfl, _⟩ := h; rfl) | (obtain ⟨_, rfl, _⟩ := h; rfl) | (obtain ⟨_, _, rfl, _⟩ := h; rfl) | (obtain ⟨_, _, _, rfl, _⟩ := h; rfl) | (obtain ⟨_, _, _, _, rfl, _⟩ := h; rfl) | (obtain ⟨_, _, _, _, _, rfl, _⟩ := h; rfl) | (obtain ⟨_, _, _, _, _, _, rfl, _⟩ := h; rfl) | (obtain ⟨_, _, _, _, _, _, _, rfl, _⟩ := h; rfl) | (obtain ⟨_, _, _, _, _, _, _, _, rfl, _⟩ := h; rfl) | (obtain ⟨_, _, _, _, _, _, _, _, _, rfl, _⟩ := h; rfl) | (obtain ⟨_, _, _, _, _, _, _, _, _, _, rfl, _⟩ := h; rfl)
  · exact (pss_cons (ps_if (PW.pt (pw_or (pt_not (pt_val (pe_call G_is_letter (hr.mono (by decide)) rfl g_is_letter k_is_letter b_is_letter .nil pass0 (pa_cons (pv 1) pa_nil)))) (pw_or1 (pt_cmpR (u_ne hr.units) (pe_ix ix_seq (pv 1) pe_int (fun _ _ => rfl)) (pe_fldC cl_Seat na_Seat_many_taken (pv 0)) (nomark _))))) (pss_one ps_never) pss_nil) (pss_cons (ps_if (pt_not (pt_chain u_le u_le (pe_fldC cl_Seat na_Seat_heard (pv 0)) (pe_ix ix_seq (pv 1) pe_int (fun _ _ => rfl)) (pe_fldC cl_Seat na_Seat_many_made (pv 0)))) (pss_one ps_never) pss_nil) (pss_cons (ps_asg (pe_meth (pv 0) cl_Seat m_Seat_past G_Seat_past (hr.mono (by decide)) b_Seat_past .nil pass0 (pa_cons (pe_ix ix_seq (pv 1) pe_int (fun _ _ => rfl)) (pa_cons (pe_slice u_sl (pe_fldC cl_Seat na_Seat_waiting (pv 0)) (po_some (pe_op u_sub (pe_ix ix_seq (pv 1) pe_int (fun _ _ => rfl)) (pe_fldC cl_Seat na_Seat_heard (pv 0)))) po_none) pa_nil))) (pg_tup rfl (pgs_cons (pg_name (i := 2) nd rfl (by first | exact Or.inl rfl | exact Or.inr rfl)) (pgs_cons (pg_name (i := 3) nd rfl (by first | exact Or.inl rfl | exact Or.inr rfl)) pgs_nil)))) (pss_cons (ps_if (pt_not (pt_val (pe_call G_can_be_done (hr.mono (by decide)) rfl g_can_be_done k_can_be_done b_can_be_done .nil pass0 (pa_cons (pe_fldC cl_Seat na_Seat_text (pv 0)) (pa_cons (pv 2) pa_nil))))) (pss_one ps_never) pss_nil) (pss_cons (ps_fldC cl_Seat na_Seat_text (pv 0) (pe_call G_done (hr.mono (by decide)) rfl g_done k_done b_done .nil pass0 (pa_cons (pe_fldC cl_Seat na_Seat_text (pv 0)) (pa_cons (pv 2) pa_nil)))) (pss_cons (ps_fldC cl_Seat na_Seat_own_mark (pv 0) (pe_call G_mark_moved (hr.mono (by decide)) rfl g_mark_moved k_mark_moved b_mark_moved .nil pass0 (pa_cons (pe_fldC cl_Seat na_Seat_own_mark (pv 0)) (pa_cons (pv 2) (pa_cons (pe_fldC cl_Seat na_Seat_ahead (pv 0)) pa_nil))))) (pss_cons (ps_fldC cl_Seat na_Seat_far_mark (pv 0) (pe_ix ix_seq (pv 1) pe_int (fun _ _ => rfl))) (pss_cons (ps_for PassesOwn.never rfl (pi_list (pv 3)) (pg_name (i := 4) nd rfl (by first | exact Or.inl rfl | exact Or.inr rfl)) (pss_one (ps_fldC cl_Seat na_Seat_far_mark (pv 0) (pe_call G_mark_moved (hr.mono (by decide)) rfl g_mark_moved k_mark_moved b_mark_moved .nil pass0 (pa_cons (pe_fldC cl_Seat na_Seat_far_mark (pv 0)) (pa_cons (pv 4) (pa_cons (pe_not (pe_fldC cl_Seat na_Seat_ahead (pv 0))) pa_nil))))))) (pss_cons (ps_fldC cl_Seat na_Seat_heard (pv 0) (pe_ix ix_seq (pv 1) pe_int (fun _ _ => rfl))) (pss_cons (ps_fldaugC cl_Seat na_Seat_many_taken (pv 0) pe_int in_add) (pss_cons (ps_fldC cl_Seat na_Seat_waiting (pv 0) (pv 3)) (pss_one (ps_ret (pv 2))))))))))))))
theorem sc_Yard_come_to : FnScope N_Yard_come_to ["self", "seat"] (defScope s_Yard_come_to) := ⟨rfl, rfl, rfl, by decide +kernel, rfl, by decide +kernel, by decide +kernel⟩
theorem ok_Yard_come_to {f : Addr} {fd : FuncData} (F : Fun K "come_to" "Yard.come_to" s_Yard_come_to f fd) {f_Seat_take_in : Addr} {fd_Seat_take_in : FuncData} (G_Seat_take_in : FnOk P w K mg base CX0 5 f_Seat_take_in fd_Seat_take_in ["self", "letter"] (sp_Seat_take_in K)) (m_Seat_take_in : Meth K (gloA K "Seat") "take_in" f_Seat_take_in) (b_Seat_take_in : Binds K fd_Seat_take_in ["self", "letter"] []) {f_need_seat : Addr} {fd_need_seat : FuncData} (G_need_seat : FnOk P w K mg base CX0 2 f_need_seat fd_need_seat ["thing"] (sp_need_seat K)) (g_need_seat : mg "need_seat" = some (.ref f_need_seat)) (k_need_seat : PySem.W.keepIn K (.ref f_need_seat) = true) (b_need_seat : Binds K fd_need_seat ["thing"] []) (cl_Seat : Cls K (gloA K "Seat")) (cl_Yard : Cls K (gloA K "Yard")) (na_Yard_roads : NoAttr K (gloA K "Yard") "roads") (na_Yard_seats : NoAttr K (gloA K "Yard") "seats") : FnOk P w K mg base CX0 6 f fd ["self", "seat"] (sp_Yard_come_to K) := by
  have nd := sc_Yard_come_to.nd
  refine F.ok sc_Yard_come_to (fun vs H Q E h => ?_) (fun cdv A o s H vs Q E hr h => ⟨t_Yard_come_to K, ?_, pr_Yard_come_to h⟩)
  · first | (obtain ⟨rfl, _⟩ := h; rfl) | (obtain ⟨_, rfl, _⟩ := h; rfl) | (obtain ⟨_, _, rfl, _⟩ := h; rfl) | (obtain ⟨_, _, _, rfl, _⟩ := h; rfl) | (obtain ⟨_, _, _, _, rfl, _⟩ := h; rfl) | (obtain ⟨_, _, _, _, _, rfl, _⟩ := h; rfl) | (obtain ⟨_, _, _, _, _, _, rfl, _⟩ := h; rfl) | (obtain ⟨_, _, _, _, _, _, _, rfl, _⟩ := h; rfl) | (obtain ⟨_, _, _, _, _, _, _, _, rfl, _⟩ := h; rfl) | (obtain ⟨_, _, _, _, _, _, _, _, _, rfl, _⟩ := h; rfl) | (obtain ⟨_, _, _, _, _, _, _, _, _, _, rfl, _⟩ := h; rfl)
  · exact (pss_cons (ps_expr (pe_call G_need_seat (hr.mono (by decide)) rfl g_need_seat k_need_seat b_need_seat .nil pass0 (pa_cons (pv 1) pa_nil))) (pss_cons (ps_if (pt_cmpR (u_eq hr.units) (pe_ix ix_seq (pe_fldC cl_Yard na_Yard_roads (pv 0)) (pv 1) (fun _ _ => rfl)) (pe_lst pa_nil) (nomark _)) (pss_one ps_never) pss_nil) (pss_one (ps_ret (pe_meth (pe_ix ix_seq (pe_fldC cl_Yard na_Yard_seats (pv 0)) (pv 1) (fun _ _ => rfl)) cl_Seat m_Seat_take_in G_Seat_take_in (hr.mono (by decide)) b_Seat_take_in .nil pass0 (pa_cons (pe_bm PySem.F.plainAttrs_list PySem.F.slot_list_pop PySem.F.type_list_pop mt_popAt (pe_ix ix_seq (pe_fldC cl_Yard na_Yard_roads (pv 0)) (pv 1) (fun _ _ => rfl)) (pa_cons pe_int pa_nil)) pa_nil))))))
theorem sc_lines_behind : FnScope N_lines_behind ["line", "thing"] (defScope s_lines_behind) := ⟨rfl, rfl, rfl, by decide +kernel, rfl, by decide +kernel, by decide +kernel⟩
theorem ok_lines_behind {f : Addr} {fd : FuncData} (F : Fun K "lines_behind" "lines_behind" s_lines_behind f fd) {f_Yard___init__ : Addr} {fd_Yard___init__ : FuncData} (G_Yard___init__ : FnOk P w K mg base CX0 3 f_Yard___init__ fd_Yard___init__ ["self", "line"] (sp_Yard___init__ K)) (M_Yard : Mk K (gloA K "Yard") f_Yard___init__) (b_Yard___init__ : Binds K fd_Yard___init__ ["self", "line"] []) {f_Yard_come_to : Addr} {fd_Yard_come_to : FuncData} (G_Yard_come_to : FnOk P w K mg base CX0 6 f_Yard_come_to fd_Yard_come_to ["self", "seat"] (sp_Yard_come_to K)) (m_Yard_come_to : Meth K (gloA K "Yard") "come_to" f_Yard_come_to) (b_Yard_come_to : Binds K fd_Yard_come_to ["self", "seat"] []) {f_Yard_make_at : Addr} {fd_Yard_make_at : FuncData} (G_Yard_make_at : FnOk P w K mg base CX0 6 f_Yard_make_at fd_Yard_make_at ["self", "seat", "deed"] (sp_Yard_make_at K)) (m_Yard_make_at : Meth K (gloA K "Yard") "make_at" f_Yard_make_at) (b_Yard_make_at : Binds K fd_Yard_make_at ["self", "seat", "deed"] []) {f_Yard_shown_at : Addr} {fd_Yard_shown_at : FuncData} (G_Yard_shown_at : FnOk P w K mg base CX0 3 f_Yard_shown_at fd_Yard_shown_at ["self", "seat"] (sp_Yard_shown_at K)) (m_Yard_shown_at : Meth K (gloA K "Yard") "shown_at" f_Yard_shown_at) (b_Yard_shown_at : Binds K fd_Yard_shown_at ["self", "seat"] []) {f_may_be : Addr} {fd_may_be : FuncData} (G_may_be : FnOk P w K mg base CX0 4 f_may_be fd_may_be ["yard", "event"] (sp_may_be K)) (g_may_be : mg "may_be" = some (.ref f_may_be)) (k_may_be : PySem.W.keepIn K (.ref f_may_be) = true) (b_may_be : Binds K fd_may_be ["yard", "event"] []) (cl_Yard : Cls K (gloA K "Yard")) (g_Yard : mg "Yard" = some (.ref (gloA K "Yard"))) (n_isinstance : mg "isinstance" = none) (n_list : mg "list" = none) : FnOk P w K mg base CX0 7 f fd ["line", "thing"] (sp_lines_behind K) := by
  have nd := sc_lines_behind.nd
  refine F.ok sc_lines_behind (fun vs H Q E h => ?_) (fun cdv A o s H vs Q E hr h => ⟨t_lines_behind K, ?_, pr_lines_behind h⟩)
  · first | (obtain ⟨rfl, _⟩ := h; rfl) | (obtain ⟨_, rfl, _⟩ := h; rfl) | (obtain ⟨_, _, rfl, _⟩ := h; rfl) | (obtain ⟨_, _, _, rfl, _⟩ := h; rfl) | (obtain ⟨_, _, _, _, rfl, _⟩ := h; rfl) | (obtain ⟨_, _, _, _, _, rfl, _⟩ := h; rfl) | (obtain ⟨_, _, _, _, _, _, rfl, _⟩ := h; rfl) | (obtain ⟨_, _, _, _, _, _, _, rfl, _⟩ := h; rfl) | (obtain ⟨_, _, _, _, _, _, _, _, rfl, _⟩ := h; rfl) | (obtain ⟨_, _, _, _, _, _, _, _, _, rfl, _⟩ := h; rfl) | (obtain ⟨_, _, _, _, _, _, _, _, _, _, rfl, _⟩ := h; rfl)
  · exact (pss_cons (ps_if (pt_not (pt_val (pe_callB u_isi (by rfl) n_isinstance (by decide +kernel) (pa_cons (pv 1) (pa_cons (pe_bltn (by rfl) n_list (by decide +kernel) rfl) pa_nil))))) (pss_one (ps_ret pe_non)) pss_nil) (pss_cons (ps_set (i := 2) nd rfl (by first | exact Or.inl rfl | exact Or.inr rfl) (pe_make M_Yard G_Yard___init__ (hr.mono (by decide)) rfl g_Yard b_Yard___init__ .nil pass0 (pa_cons (pv 0) pa_nil))) (pss_cons (ps_set (i := 3) nd rfl (by first | exact Or.inl rfl | exact Or.inr rfl) (pe_lst (pa_cons (pe_tup (pa_cons (pv 0) (pa_cons (pv 0) pa_nil))) pa_nil))) (pss_cons (ps_for PassesOwn.never rfl (pi_list (pv 1)) (pg_name (i := 4) nd rfl (by first | exact Or.inl rfl | exact Or.inr rfl)) (pss_cons (ps_if (pt_not (pt_val (pe_call G_may_be (hr.mono (by decide)) rfl g_may_be k_may_be b_may_be .nil pass0 (pa_cons (pv 2) (pa_cons (pv 4) pa_nil))))) (pss_one (ps_ret pe_non)) pss_nil) (pss_cons (ps_if (pt_cmpR (u_eq hr.units) (pe_ix ix_seq (pv 4) pe_int (fun _ _ => rfl)) pe_str (nomark _)) (pss_one (ps_expr (pe_meth (pv 2) cl_Yard m_Yard_make_at G_Yard_make_at (hr.mono (by decide)) b_Yard_make_at .nil pass0 (pa_cons (pe_ix ix_seq (pv 4) pe_int (fun _ _ => rfl)) (pa_cons (pe_ix ix_seq (pv 4) pe_int (fun _ _ => rfl)) pa_nil))))) (pss_one (ps_expr (pe_meth (pv 2) cl_Yard m_Yard_come_to G_Yard_come_to (hr.mono (by decide)) b_Yard_come_to .nil pass0 (pa_cons (pe_ix ix_seq (pv 4) pe_int (fun _ _ => rfl)) pa_nil))))) (pss_one (ps_expr (pe_bm PySem.F.plainAttrs_list PySem.F.slot_list_append PySem.F.type_list_append mt_append (pv 3) (pa_cons (pe_tup (pa_cons (pe_meth (pv 2) cl_Yard m_Yard_shown_at G_Yard_shown_at (hr.mono (by decide)) b_Yard_shown_at .nil pass0 (pa_cons pe_int pa_nil)) (pa_cons (pe_meth (pv 2) cl_Yard m_Yard_shown_at G_Yard_shown_at (hr.mono (by decide)) b_Yard_shown_at .nil pass0 (pa_cons pe_int pa_nil)) pa_nil))) pa_nil))))))) (pss_one (ps_ret (pv 3)))))))
theorem sc_is_story : FnScope N_is_story ["line", "thing"] (defScope s_is_story) := ⟨rfl, rfl, rfl, by decide +kernel, rfl, by decide +kernel, by decide +kernel⟩
theorem ok_is_story {f : Addr} {fd : FuncData} (F : Fun K "is_story" "is_story" s_is_story f fd) {f_lines_behind : Addr} {fd_lines_behind : FuncData} (G_lines_behind : FnOk P w K mg base CX0 7 f_lines_behind fd_lines_behind ["line", "thing"] (sp_lines_behind K)) (g_lines_behind : mg "lines_behind" = some (.ref f_lines_behind)) (k_lines_behind : PySem.W.keepIn K (.ref f_lines_behind) = true) (b_lines_behind : Binds K fd_lines_behind ["line", "thing"] []) : FnOk P w K mg base CX0 8 f fd ["line", "thing"] (sp_is_story K) := by
  have nd := sc_is_story.nd
  refine F.ok sc_is_story (fun vs H Q E h => ?_) (fun cdv A o s H vs Q E hr h => ⟨t_is_story K, ?_, pr_is_story h⟩)
  · first | (obtain ⟨rfl, _⟩ := h; rfl) | (obtain ⟨_, rfl, _⟩ := h; rfl) | (obtain ⟨_, _, rfl, _⟩ := h; rfl) | (obtain ⟨_, _, _, rfl, _⟩ := h; rfl) | (obtain ⟨_, _, _, _, rfl, _⟩ := h; rfl) | (obtain ⟨_, _, _, _, _, rfl, _⟩ := h; rfl) | (obtain ⟨_, _, _, _, _, _, rfl, _⟩ := h; rfl) | (obtain ⟨_, _, _, _, _, _, _, rfl, _⟩ := h; rfl) | (obtain ⟨_, _, _, _, _, _, _, _, rfl, _⟩ := h; rfl) | (obtain ⟨_, _, _, _, _, _, _, _, _, rfl, _⟩ := h; rfl) | (obtain ⟨_, _, _, _, _, _, _, _, _, _, rfl, _⟩ := h; rfl)
  · exact (pss_one (ps_ret (pe_cmpR u_isnot (pe_call G_lines_behind (hr.mono (by decide)) rfl g_lines_behind k_lines_behind b_lines_behind .nil pass0 (pa_cons (pv 0) (pa_cons (pv 1) pa_nil))) pe_non (nomark _))))
theorem sc_plain_story : FnScope N_plain_story ["line", "story"] (defScope s_plain_story) := ⟨rfl, rfl, rfl, by decide +kernel, rfl, by decide +kernel, by decide +kernel⟩
theorem ok_plain_story {f : Addr} {fd : FuncData} (F : Fun K "plain_story" "plain_story" s_plain_story f fd) {f_is_story : Addr} {fd_is_story : FuncData} (G_is_story : FnOk P w K mg base CX0 8 f_is_story fd_is_story ["line", "thing"] (sp_is_story K)) (g_is_story : mg "is_story" = some (.ref f_is_story)) (k_is_story : PySem.W.keepIn K (.ref f_is_story) = true) (b_is_story : Binds K fd_is_story ["line", "thing"] []) (n_min : mg "min" = none) (n_range : mg "range" = none) : FnOk P w K mg base CX0 9 f fd ["line", "story"] (sp_plain_story K) := by
  have nd := sc_plain_story.nd
  refine F.ok sc_plain_story (fun vs H Q E h => ?_) (fun cdv A o s H vs Q E hr h => ⟨t_plain_story K, ?_, pr_plain_story h⟩)
  · first | (obtain ⟨rfl, _⟩ := h; rfl) | (obtain ⟨_, rfl, _⟩ := h; rfl) | (obtain ⟨_, _, rfl, _⟩ := h; rfl) | (obtain ⟨_, _, _, rfl, _⟩ := h; rfl) | (obtain ⟨_, _, _, _, rfl, _⟩ := h; rfl) | (obtain ⟨_, _, _, _, _, rfl, _⟩ := h; rfl) | (obtain ⟨_, _, _, _, _, _, rfl, _⟩ := h; rfl) | (obtain ⟨_, _, _, _, _, _, _, rfl, _⟩ := h; rfl) | (obtain ⟨_, _, _, _, _, _, _, _, rfl, _⟩ := h; rfl) | (obtain ⟨_, _, _, _, _, _, _, _, _, rfl, _⟩ := h; rfl) | (obtain ⟨_, _, _, _, _, _, _, _, _, _, rfl, _⟩ := h; rfl)
  · exact (pss_cons (ps_if (pt_not (pt_val (pe_call G_is_story (hr.mono (by decide)) rfl g_is_story k_is_story b_is_story .nil pass0 (pa_cons (pv 0) (pa_cons (pv 1) pa_nil))))) (pss_one ps_never) pss_nil) (pss_cons (ps_setLc (i := 2) (own := [("seat", 4)]) (g := (gName 4)) (tt := tYes) (te := (tLc (iList K (tVar 1)) (gName 3) (tTest (tOp (rEqU K) (tOp (rIx K) (tVar 3) (tC (.int 1))) (tVar 4))) (tVar 3) [3])) rfl nd rfl rfl (sw_true rfl rfl rfl (by decide +kernel)) (pi_range1 (by rfl) n_range (pa_cons pe_int pa_nil)) (blkOk_by (own := [("seat", 4)]) (N := N_plain_story) (sc := defScope s_plain_story) (by decide +kernel)) (fun _ _ _ _ _ => (pg_name (i := 4) nd rfl (by first | exact Or.inl rfl | exact Or.inr rfl))) (fun _ _ _ _ _ => pts_nil) (fun _ _ _ _ _ => (pe_lc (own := [("event", 3)]) (g := (gName 3)) (tt := (tTest (tOp (rEqU K) (tOp (rIx K) (tVar 3) (tC (.int 1))) (tVar 4)))) (te := (tVar 3)) rfl nd (pi_list (pv 1)) (by show BlkOk N_plain_story ⟨_, _, _, _, _⟩ _ _; exact blkOk_by (own := [("event", 3)]) (by first | rfl | kernel_rfl)) (fun _ _ _ _ _ => (pg_name (i := 3) nd rfl (by first | exact Or.inl rfl | exact Or.inr rfl))) (fun _ _ _ _ _ => (pts_one (pt_cmpR (u_eq hr.units) (pe_ix ix_seq (pv 3) pe_int (fun _ _ => rfl)) (pv 4) (nomark _)))) (fun _ _ _ _ _ => (pv 3))))) (pss_cons (ps_set (i := 5) nd rfl (by first | exact Or.inl rfl | exact Or.inr rfl) (pe_lst (pa_cons pe_int (pa_cons pe_int pa_nil)))) (pss_cons (ps_set (i := 6) nd rfl (by first | exact Or.inl rfl | exact Or.inr rfl) (pe_lst pa_nil)) (pss_cons (ps_while PassesOwn.never (pt_cmpR (u_ne hr.units) (pv 2) (pe_lst (pa_cons (pe_lst pa_nil) (pa_cons (pe_lst pa_nil) pa_nil))) (nomark _)) (pss_cons (ps_set (i := 7) nd rfl (by first | exact Or.inl rfl | exact Or.inr rfl) (pe_callB (u_minD rfl hr.units) (by rfl) n_min (by decide +kernel) (pa_cons (pe_lc (own := [("row", 8)]) (g := (gName 8)) (tt := (tAnd (tTest (tOp (rNeU K) (tVar 8) (tLst tNil))) (tOr (tTest (tOp (rEqU K) (tOp (rIx K) (tOp (rIx K) (tVar 8) (tC (.int 0))) (tC (.int 0))) (tC (.str "make")))) (tTest (tOp rGtU (tOp (rIx K) (tVar 5) (tOp (rIx K) (tOp (rIx K) (tVar 8) (tC (.int 0))) (tC (.int 1)))) (tC (.int 0))))))) (te := (tOp (rIx K) (tVar 8) (tC (.int 0)))) rfl nd (pi_list (pv 2)) (blkOk_by (own := [("row", 8)]) (N := N_plain_story) (sc := defScope s_plain_story) (by decide +kernel)) (fun _ _ _ _ _ => (pg_name (i := 8) nd rfl (by first | exact Or.inl rfl | exact Or.inr rfl))) (fun _ _ _ _ _ => (pts_one (PW.pt (pw_and (pt_cmpR (u_ne hr.units) (pv 8) (pe_lst pa_nil) (nomark _)) (pw_and1 (PW.pt (pw_or (pt_cmpR (u_eq hr.units) (pe_ix ix_seq (pe_ix ix_seq (pv 8) pe_int (fun _ _ => rfl)) pe_int (fun _ _ => rfl)) pe_str (nomark _)) (pw_or1 (pt_cmpR u_gt (pe_ix ix_seq (pv 5) (pe_ix ix_seq (pe_ix ix_seq (pv 8) pe_int (fun _ _ => rfl)) pe_int (fun _ _ => rfl)) (fun _ _ => rfl)) pe_int (nomark _)))))))))) (fun _ _ _ _ _ => (pe_ix ix_seq (pv 8) pe_int (fun _ _ => rfl)))) pa_nil))) (pss_cons (ps_set (i := 4) nd rfl (by first | exact Or.inl rfl | exact Or.inr rfl) (pe_ix ix_seq (pv 7) pe_int (fun _ _ => rfl))) (pss_cons (ps_if (pt_cmpR (u_eq hr.units) (pe_ix ix_seq (pv 7) pe_int (fun _ _ => rfl)) pe_str (nomark _)) (pss_one (ps_augS (pv 5) (pe_op u_sub pe_int (pv 4)) get_list pe_int ip_add set_list)) (pss_one (ps_augS (pv 5) (pv 4) get_list pe_int ip_sub set_list))) (pss_cons (ps_expr (pe_bm PySem.F.plainAttrs_list PySem.F.slot_list_pop PySem.F.type_list_pop mt_popAt (pe_ix ix_seq (pv 2) (pv 4) (fun _ _ => rfl)) (pa_cons pe_int pa_nil))) (pss_one (ps_expr (pe_bm PySem.F.plainAttrs_list PySem.F.slot_list_append PySem.F.type_list_append mt_append (pv 6) (pa_cons (pv 7) pa_nil))))))))) (pss_one (ps_ret (pv 6))))))))
theorem sc_lines_of : FnScope N_lines_of ["line", "story", "seat"] (defScope s_lines_of) := ⟨rfl, rfl, rfl, by decide +kernel, rfl, by decide +kernel, by decide +kernel⟩
theorem ok_lines_of {f : Addr} {fd : FuncData} (F : Fun K "lines_of" "lines_of" s_lines_of f fd) {f_lines_behind : Addr} {fd_lines_behind : FuncData} (G_lines_behind : FnOk P w K mg base CX0 7 f_lines_behind fd_lines_behind ["line", "thing"] (sp_lines_behind K)) (g_lines_behind : mg "lines_behind" = some (.ref f_lines_behind)) (k_lines_behind : PySem.W.keepIn K (.ref f_lines_behind) = true) (b_lines_behind : Binds K fd_lines_behind ["line", "thing"] []) : FnOk P w K mg base CX0 8 f fd ["line", "story", "seat"] (sp_lines_of K) := by
  have nd := sc_lines_of.nd
  refine F.ok sc_lines_of (fun vs H Q E h => ?_) (fun cdv A o s H vs Q E hr h => ⟨t_lines_of K, ?_, pr_lines_of h⟩)
  · first | (obtain ⟨rfl, _⟩ := h; rfl) | (obtain ⟨_, rfl, _⟩ := h; rfl) | (obtain ⟨_, _, rfl, _⟩ := h; rfl) | (obtain ⟨_, _, _, rfl, _⟩ := h; rfl) | (obtain ⟨_, _, _, _, rfl, _⟩ := h; rfl) | (obtain ⟨_, _, _, _, _, rfl, _⟩ := h; rfl) | (obtain ⟨_, _, _, _, _, _, rfl, _⟩ := h; rfl) | (obtain ⟨_, _, _, _, _, _, _, rfl, _⟩ := h; rfl) | (obtain ⟨_, _, _, _, _, _, _, _, rfl, _⟩ := h; rfl) | (obtain ⟨_, _, _, _, _, _, _, _, _, rfl, _⟩ := h; rfl) | (obtain ⟨_, _, _, _, _, _, _, _, _, _, rfl, _⟩ := h; rfl)
  · exact (pss_cons (ps_set (i := 3) nd rfl (by first | exact Or.inl rfl | exact Or.inr rfl) (pe_call G_lines_behind (hr.mono (by decide)) rfl g_lines_behind k_lines_behind b_lines_behind .nil pass0 (pa_cons (pv 0) (pa_cons (pv 1) pa_nil)))) (pss_cons (ps_if (pt_cmpR u_is (pv 3) pe_non (nomark _)) (pss_one ps_never) pss_nil) (pss_one (ps_ret (pe_lc (own := [("both", 4)]) (g := (gName 4)) (tt := tYes) (te := (tOp (rIx K) (tVar 4) (tVar 2))) rfl nd (pi_list (pv 3)) (blkOk_by (own := [("both", 4)]) (N := N_lines_of) (sc := defScope s_lines_of) (by decide +kernel)) (fun _ _ _ _ _ => (pg_name (i := 4) nd rfl (by first | exact Or.inl rfl | exact Or.inr rfl))) (fun _ _ _ _ _ => pts_nil) (fun _ _ _ _ _ => (pe_ix ix_seq (pv 4) (pv 2) (fun _ _ => rfl))))))))
theorem sc__law_own : FnScope N__law_own ["line", "story", "at"] (defScope s__law_own) := ⟨rfl, rfl, rfl, by decide +kernel, rfl, by decide +kernel, by decide +kernel⟩
theorem ok__law_own {f : Addr} {fd : FuncData} (F : Fun K "_law_own" "_law_own" s__law_own f fd) {f_lines_of : Addr} {fd_lines_of : FuncData} (G_lines_of : FnOk P w K mg base CX0 8 f_lines_of fd_lines_of ["line", "story", "seat"] (sp_lines_of K)) (g_lines_of : mg "lines_of" = some (.ref f_lines_of)) (k_lines_of : PySem.W.keepIn K (.ref f_lines_of) = true) (b_lines_of : Binds K fd_lines_of ["line", "story", "seat"] []) (n_enumerate : mg "enumerate" = none) : FnOk P w K mg base CX0 9 f fd ["line", "story", "at"] (sp__law_own K) := by
  have nd := sc__law_own.nd
  refine F.ok sc__law_own (fun vs H Q E h => ?_) (fun cdv A o s H vs Q E hr h => ⟨t__law_own K, ?_, pr__law_own h⟩)
  · first | (obtain ⟨rfl, _⟩ := h; rfl) | (obtain ⟨_, rfl, _⟩ := h; rfl) | (obtain ⟨_, _, rfl, _⟩ := h; rfl) | (obtain ⟨_, _, _, rfl, _⟩ := h; rfl) | (obtain ⟨_, _, _, _, rfl, _⟩ := h; rfl) | (obtain ⟨_, _, _, _, _, rfl, _⟩ := h; rfl) | (obtain ⟨_, _, _, _, _, _, rfl, _⟩ := h; rfl) | (obtain ⟨_, _, _, _, _, _, _, rfl, _⟩ := h; rfl) | (obtain ⟨_, _, _, _, _, _, _, _, rfl, _⟩ := h; rfl) | (obtain ⟨_, _, _, _, _, _, _, _, _, rfl, _⟩ := h; rfl) | (obtain ⟨_, _, _, _, _, _, _, _, _, _, rfl, _⟩ := h; rfl)
  · exact (pss_cons (ps_set (i := 3) nd rfl (by first | exact Or.inl rfl | exact Or.inr rfl) (pe_call G_lines_of (hr.mono (by decide)) rfl g_lines_of k_lines_of b_lines_of .nil pass0 (pa_cons (pv 0) (pa_cons (pv 1) (pa_cons (pv 2) pa_nil))))) (pss_cons (ps_set (i := 4) nd rfl (by first | exact Or.inl rfl | exact Or.inr rfl) (pe_lst pa_nil)) (pss_cons (ps_for PassesOwn.never rfl (pi_enum (by rfl) n_enumerate (pa_cons (pv 1) pa_nil)) (pg_tup rfl (pgs_cons (pg_name (i := 5) nd rfl (by first | exact Or.inl rfl | exact Or.inr rfl)) (pgs_cons (pg_name (i := 6) nd rfl (by first | exact Or.inl rfl | exact Or.inr rfl)) pgs_nil))) (pss_one (ps_if (pt_cmpR (u_eq hr.units) (pe_ix ix_seq (pv 6) pe_int (fun _ _ => rfl)) (pv 2) (nomark _)) (pss_one (ps_expr (pe_bm PySem.F.plainAttrs_list PySem.F.slot_list_append PySem.F.type_list_append mt_append (pv 4) (pa_cons (pe_tup (pa_cons (pv 6) (pa_cons (pe_ix ix_seq (pv 3) (pe_op u_add (pv 5) pe_int) (fun _ _ => rfl)) pa_nil))) pa_nil)))) (pss_one (ps_if (pt_cmpR (u_ne hr.units) (pe_ix ix_seq (pv 3) (pe_op u_add (pv 5) pe_int) (fun _ _ => rfl)) (pe_ix ix_seq (pv 3) (pv 5) (fun _ _ => rfl)) (nomark _)) (pss_one (ps_ret pe_non)) pss_nil))))) (pss_one (ps_ret (pv 4))))))
theorem sc__law_may_change : FnScope N__law_may_change ["story", "k"] (defScope s__law_may_change) := ⟨rfl, rfl, rfl, by decide +kernel, rfl, by decide +kernel, by decide +kernel⟩
theorem ok__law_may_change {f : Addr} {fd : FuncData} (F : Fun K "_law_may_change" "_law_may_change" s__law_may_change f fd) (n_int : mg "int" = none) : FnOk P w K mg base CX0 1 f fd ["story", "k"] (sp__law_may_change K) := by
  have nd := sc__law_may_change.nd
  refine F.ok sc__law_may_change (fun vs H Q E h => ?_) (fun cdv A o s H vs Q E hr h => ⟨t__law_may_change K, ?_, pr__law_may_change h⟩)
  · first | (obtain ⟨rfl, _⟩ := h; rfl) | (obtain ⟨_, rfl, _⟩ := h; rfl) | (obtain ⟨_, _, rfl, _⟩ := h; rfl) | (obtain ⟨_, _, _, rfl, _⟩ := h; rfl) | (obtain ⟨_, _, _, _, rfl, _⟩ := h; rfl) | (obtain ⟨_, _, _, _, _, rfl, _⟩ := h; rfl) | (obtain ⟨_, _, _, _, _, _, rfl, _⟩ := h; rfl) | (obtain ⟨_, _, _, _, _, _, _, rfl, _⟩ := h; rfl) | (obtain ⟨_, _, _, _, _, _, _, _, rfl, _⟩ := h; rfl) | (obtain ⟨_, _, _, _, _, _, _, _, _, rfl, _⟩ := h; rfl) | (obtain ⟨_, _, _, _, _, _, _, _, _, _, rfl, _⟩ := h; rfl)
  · exact (pss_cons (ps_par (i := 2) (j := 3) rfl nd rfl rfl (by decide) rfl rfl (pa_cons (pe_ix ix_seq (pv 0) (pv 1) (fun _ _ => rfl)) (pa_cons (pe_ix ix_seq (pv 0) (pe_op u_add (pv 1) pe_int) (fun _ _ => rfl)) pa_nil)) rfl) (pss_cons (ps_if (pt_cmpR (u_eq hr.units) (pe_ix ix_seq (pv 2) pe_int (fun _ _ => rfl)) (pe_ix ix_seq (pv 3) pe_int (fun _ _ => rfl)) (nomark _)) (pss_one (ps_ret pe_bl)) pss_nil) (pss_cons (ps_if (PW.pt (pw_or (pt_cmpR (u_eq hr.units) (pe_ix ix_seq (pv 2) pe_int (fun _ _ => rfl)) pe_str (nomark _)) (pw_or1 (pt_cmpR (u_eq hr.units) (pe_ix ix_seq (pv 3) pe_int (fun _ _ => rfl)) pe_str (nomark _))))) (pss_one (ps_ret pe_bl)) pss_nil) (pss_cons (ps_set (i := 4) nd rfl (by first | exact Or.inl rfl | exact Or.inr rfl) pe_int) (pss_cons (ps_for PassesOwn.never rfl (pi_list (pe_slice u_sl (pv 0) po_none (po_some (pv 1)))) (pg_name (i := 5) nd rfl (by first | exact Or.inl rfl | exact Or.inr rfl)) (pss_cons (ps_set (i := 4) nd rfl (by first | exact Or.inl rfl | exact Or.inr rfl) (pe_op u_add (pv 4) (pe_callTy u_int (by rfl) n_int (by decide +kernel) (pa_cons (pe_and (pe_cmpR (u_eq hr.units) (pe_ix ix_seq (pv 5) pe_int (fun _ _ => rfl)) pe_str (nomark _)) (pe_one (pe_cmpR (u_eq hr.units) (pe_ix ix_seq (pv 5) pe_int (fun _ _ => rfl)) (pe_ix ix_seq (pv 2) pe_int (fun _ _ => rfl)) (nomark _)))) pa_nil)))) (pss_one (ps_set (i := 4) nd rfl (by first | exact Or.inl rfl | exact Or.inr rfl) (pe_op u_sub (pv 4) (pe_callTy u_int (by rfl) n_int (by decide +kernel) (pa_cons (pe_and (pe_cmpR (u_eq hr.units) (pe_ix ix_seq (pv 5) pe_int (fun _ _ => rfl)) pe_str (nomark _)) (pe_one (pe_cmpR (u_eq hr.units) (pe_ix ix_seq (pv 5) pe_int (fun _ _ => rfl)) (pe_ix ix_seq (pv 3) pe_int (fun _ _ => rfl)) (nomark _)))) pa_nil))))))) (pss_one (ps_ret (pe_cmpR u_gt (pv 4) pe_int (nomark _)))))))))
theorem sc__law_right : FnScope N__law_right ["line", "story"] (defScope s__law_right) := ⟨rfl, rfl, rfl, by decide +kernel, rfl, by decide +kernel, by decide +kernel⟩
theorem ok__law_right {f : Addr} {fd : FuncData} (F : Fun K "_law_right" "_law_right" s__law_right f fd) {f__law_may_change : Addr} {fd__law_may_change : FuncData} (G__law_may_change : FnOk P w K mg base CX0 1 f__law_may_change fd__law_may_change ["story", "k"] (sp__law_may_change K)) (g__law_may_change : mg "_law_may_change" = some (.ref f__law_may_change)) (k__law_may_change : PySem.W.keepIn K (.ref f__law_may_change) = true) (b__law_may_change : Binds K fd__law_may_change ["story", "k"] []) {f__law_own : Addr} {fd__law_own : FuncData} (G__law_own : FnOk P w K mg base CX0 9 f__law_own fd__law_own ["line", "story", "at"] (sp__law_own K)) (g__law_own : mg "_law_own" = some (.ref f__law_own)) (k__law_own : PySem.W.keepIn K (.ref f__law_own) = true) (b__law_own : Binds K fd__law_own ["line", "story", "at"] []) {f_is_story : Addr} {fd_is_story : FuncData} (G_is_story : FnOk P w K mg base CX0 8 f_is_story fd_is_story ["line", "thing"] (sp_is_story K)) (g_is_story : mg "is_story" = some (.ref f_is_story)) (k_is_story : PySem.W.keepIn K (.ref f_is_story) = true) (b_is_story : Binds K fd_is_story ["line", "thing"] []) {f_plain_story : Addr} {fd_plain_story : FuncData} (G_plain_story : FnOk P w K mg base CX0 9 f_plain_story fd_plain_story ["line", "story"] (sp_plain_story K)) (g_plain_story : mg "plain_story" = some (.ref f_plain_story)) (k_plain_story : PySem.W.keepIn K (.ref f_plain_story) = true) (b_plain_story : Binds K fd_plain_story ["line", "story"] []) (n_len : mg "len" = none) (n_range : mg "range" = none) : FnOk P w K mg base CX0 10 f fd ["line", "story"] (sp__law_right K) := by
  have nd := sc__law_right.nd
  refine F.ok sc__law_right (fun vs H Q E h => ?_) (fun cdv A o s H vs Q E hr h => ⟨t__law_right K, ?_, pr__law_right h⟩)
  · first | (obtain ⟨rfl, _⟩ := h; rfl) | (obtain ⟨_, rfl, _⟩ := h; rfl) | (obtain ⟨_, _, rfl, _⟩ := h; rfl) | (obtain ⟨_, _, _, rfl, _⟩ := h; rfl) | (obtain ⟨_, _, _, _, rfl, _⟩ := h; rfl) | (obtain ⟨_, _, _, _, _, rfl, _⟩ := h; rfl) | (obtain ⟨_, _, _, _, _, _, rfl, _⟩ := h; rfl) | (obtain ⟨_, _, _, _, _, _, _, rfl, _⟩ := h; rfl) | (obtain ⟨_, _, _, _, _, _, _, _, rfl, _⟩ := h; rfl) | (obtain ⟨_, _, _, _, _, _, _, _, _, rfl, _⟩ := h; rfl) | (obtain ⟨_, _, _, _, _, _, _, _, _, _, rfl, _⟩ := h; rfl)
  · exact (pss_cons (ps_set (i := 2) nd rfl (by first | exact Or.inl rfl | exact Or.inr rfl) (pe_call G_plain_story (hr.mono (by decide)) rfl g_plain_story k_plain_story b_plain_story .nil pass0 (pa_cons (pv 0) (pa_cons (pv 1) pa_nil)))) (pss_cons (ps_if (PW.pt (pw_or (pt_not (pt_val (pe_call G_is_story (hr.mono (by decide)) rfl g_is_story k_is_story b_is_story .nil pass0 (pa_cons (pv 0) (pa_cons (pv 2) pa_nil))))) (pw_or (pt_cmpR (u_ne hr.units) (pe_call G_plain_story (hr.mono (by decide)) rfl g_plain_story k_plain_story b_plain_story .nil pass0 (pa_cons (pv 0) (pa_cons (pv 2) pa_nil))) (pv 2) (nomark _)) (pw_or1 (pt_cmpR (u_ltD hr.units) (pv 1) (pv 2) (nomark _)))))) (pss_one (ps_ret pe_bl)) pss_nil) (pss_cons (ps_for PassesOwn.never rfl (pi_range1 (by rfl) n_range (pa_cons pe_int pa_nil)) (pg_name (i := 3) nd rfl (by first | exact Or.inl rfl | exact Or.inr rfl)) (pss_cons (ps_set (i := 4) nd rfl (by first | exact Or.inl rfl | exact Or.inr rfl) (pe_call G__law_own (hr.mono (by decide)) rfl g__law_own k__law_own b__law_own .nil pass0 (pa_cons (pv 0) (pa_cons (pv 1) (pa_cons (pv 3) pa_nil))))) (pss_one (ps_if (PW.pt (pw_or (pt_cmpR u_is (pv 4) pe_non (nomark _)) (pw_or1 (pt_cmpR (u_ne hr.units) (pe_call G__law_own (hr.mono (by decide)) rfl g__law_own k__law_own b__law_own .nil pass0 (pa_cons (pv 0) (pa_cons (pv 2) (pa_cons (pv 3) pa_nil)))) (pv 4) (nomark _))))) (pss_one (ps_ret pe_bl)) pss_nil)))) (pss_cons (ps_for PassesOwn.never rfl (pi_range1 (by rfl) n_range (pa_cons (pe_op u_sub (pe_callB u_len (by rfl) n_len (by decide +kernel) (pa_cons (pv 2) pa_nil)) pe_int) pa_nil)) (pg_name (i := 5) nd rfl (by first | exact Or.inl rfl | exact Or.inr rfl)) (pss_one (ps_if (PW.pt (pw_and (pt_val (pe_call G__law_may_change (hr.mono (by decide)) rfl g__law_may_change k__law_may_change b__law_may_change .nil pass0 (pa_cons (pv 2) (pa_cons (pv 5) pa_nil)))) (pw_and1 (pt_cmpR (u_ltD hr.units) (pe_ix ix_seq (pv 2) (pe_op u_add (pv 5) pe_int) (fun _ _ => rfl)) (pe_ix ix_seq (pv 2) (pv 5) (fun _ _ => rfl)) (nomark _))))) (pss_one (ps_ret pe_bl)) pss_nil))) (pss_one (ps_ret (pe_cmpR (u_eq hr.units) (pe_callB u_len (by rfl) n_len (by decide +kernel) (pa_cons (pv 2) pa_nil)) (pe_callB u_len (by rfl) n_len (by decide +kernel) (pa_cons (pv 1) pa_nil)) (nomark _))))))))
theorem sc__law_seats : FnScope N__law_seats ["line"] (defScope s__law_seats) := ⟨rfl, rfl, rfl, by decide +kernel, rfl, by decide +kernel, by decide +kernel⟩
theorem ok__law_seats {f : Addr} {fd : FuncData} (F : Fun K "_law_seats" "_law_seats" s__law_seats f fd)  : FnOk P w K mg base CX0 1 f fd ["line"] (sp__law_seats K) := by
  have nd := sc__law_seats.nd
  refine F.ok sc__law_seats (fun vs H Q E h => ?_) (fun cdv A o s H vs Q E hr h => ⟨t__law_seats K, ?_, pr__law_seats h⟩)
  · first | (obtain ⟨rfl, _⟩ := h; rfl) | (obtain ⟨_, rfl, _⟩ := h; rfl) | (obtain ⟨_, _, rfl, _⟩ := h; rfl) | (obtain ⟨_, _, _, rfl, _⟩ := h; rfl) | (obtain ⟨_, _, _, _, rfl, _⟩ := h; rfl) | (obtain ⟨_, _, _, _, _, rfl, _⟩ := h; rfl) | (obtain ⟨_, _, _, _, _, _, rfl, _⟩ := h; rfl) | (obtain ⟨_, _, _, _, _, _, _, rfl, _⟩ := h; rfl) | (obtain ⟨_, _, _, _, _, _, _, _, rfl, _⟩ := h; rfl) | (obtain ⟨_, _, _, _, _, _, _, _, _, rfl, _⟩ := h; rfl) | (obtain ⟨_, _, _, _, _, _, _, _, _, _, rfl, _⟩ := h; rfl)
  · exact (pss_one (ps_ret (pe_lst (pa_cons (pe_lst (pa_cons (pv 0) (pa_cons pe_int (pa_cons pe_int (pa_cons (pe_lst pa_nil) pa_nil))))) (pa_cons (pe_lst (pa_cons (pv 0) (pa_cons pe_int (pa_cons pe_int (pa_cons (pe_lst pa_nil) pa_nil))))) pa_nil)))))
theorem sc__law_behind : FnScope N__law_behind ["deed", "other", "ahead"] (defScope s__law_behind) := ⟨rfl, rfl, rfl, by decide +kernel, rfl, by decide +kernel, by decide +kernel⟩
theorem ok__law_behind {f : Addr} {fd : FuncData} (F : Fun K "_law_behind" "_law_behind" s__law_behind f fd) (n_int : mg "int" = none) : FnOk P w K mg base CX0 1 f fd ["deed", "other", "ahead"] (sp__law_behind K) := by
  have nd := sc__law_behind.nd
  refine F.ok sc__law_behind (fun vs H Q E h => ?_) (fun cdv A o s H vs Q E hr h => ⟨t__law_behind K, ?_, pr__law_behind h⟩)
  · first | (obtain ⟨rfl, _⟩ := h; rfl) | (obtain ⟨_, rfl, _⟩ := h; rfl) | (obtain ⟨_, _, rfl, _⟩ := h; rfl) | (obtain ⟨_, _, _, rfl, _⟩ := h; rfl) | (obtain ⟨_, _, _, _, rfl, _⟩ := h; rfl) | (obtain ⟨_, _, _, _, _, rfl, _⟩ := h; rfl) | (obtain ⟨_, _, _, _, _, _, rfl, _⟩ := h; rfl) | (obtain ⟨_, _, _, _, _, _, _, rfl, _⟩ := h; rfl) | (obtain ⟨_, _, _, _, _, _, _, _, rfl, _⟩ := h; rfl) | (obtain ⟨_, _, _, _, _, _, _, _, _, rfl, _⟩ := h; rfl) | (obtain ⟨_, _, _, _, _, _, _, _, _, _, rfl, _⟩ := h; rfl)
  · exact (pss_cons (ps_if (PW.pt (pw_or (pt_cmpR (u_eq hr.units) (pe_ix ix_seq (pv 0) pe_int (fun _ _ => rfl)) pe_str (nomark _)) (pw_or1 (pt_cmpR (u_eq hr.units) (pe_ix ix_seq (pv 1) pe_int (fun _ _ => rfl)) pe_str (nomark _))))) (pss_one (ps_ret (pv 0))) pss_nil) (pss_cons (ps_asg (pe_slice sl_tupA (pv 0) po_none (po_some pe_int)) (pg_tup rfl (pgs_cons (pg_name (i := 3) nd rfl (by first | exact Or.inl rfl | exact Or.inr rfl)) (pgs_cons (pg_name (i := 4) nd rfl (by first | exact Or.inl rfl | exact Or.inr rfl)) pgs_nil)))) (pss_cons (ps_if (pt_cmpR (u_eq hr.units) (pe_ix ix_seq (pv 1) pe_int (fun _ _ => rfl)) pe_str (nomark _)) (pss_cons (ps_if (PW.pt (pw_and (pt_cmpR (u_eq hr.units) (pv 3) pe_str (nomark _)) (pw_and1 (pt_cmpR (u_eq hr.units) (pv 4) (pe_ix ix_seq (pv 1) pe_int (fun _ _ => rfl)) (nomark _))))) (pss_one (ps_ret (pe_tup (pa_cons pe_str pa_nil)))) pss_nil) (pss_one (ps_ret (pe_op u_add (pe_tup (pa_cons (pv 3) (pa_cons (pe_op u_sub (pv 4) (pe_callTy u_int (by rfl) n_int (by decide +kernel) (pa_cons (pe_cmpR u_lt (pe_ix ix_seq (pv 1) pe_int (fun _ _ => rfl)) (pv 4) (nomark _)) pa_nil))) pa_nil))) (pe_slice u_sl (pv 0) (po_some pe_int) po_none))))) pss_nil) (pss_cons (ps_set (i := 5) nd rfl (by first | exact Or.inl rfl | exact Or.inr rfl) (pe_or (pe_cmpR u_lt (pe_ix ix_seq (pv 1) pe_int (fun _ _ => rfl)) (pv 4) (nomark _)) (pe_one (pe_and (pe_cmpR (u_eq hr.units) (pe_ix ix_seq (pv 1) pe_int (fun _ _ => rfl)) (pv 4) (nomark _)) (pe_one (pe_or (pe_cmpR (u_eq hr.units) (pv 3) pe_str (nomark _)) (pe_one (pe_not (pv 2))))))))) (pss_one (ps_ret (pe_op u_add (pe_tup (pa_cons (pv 3) (pa_cons (pe_op u_add (pv 4) (pe_callTy u_int (by rfl) n_int (by decide +kernel) (pa_cons (pv 5) pa_nil))) pa_nil))) (pe_slice u_sl (pv 0) (po_some pe_int) po_none))))))))
theorem sc__law_after : FnScope N__law_after ["line", "deed"] (defScope s__law_after) := ⟨rfl, rfl, rfl, by decide +kernel, rfl, by decide +kernel, by decide +kernel⟩
theorem ok__law_after {f : Addr} {fd : FuncData} (F : Fun K "_law_after" "_law_after" s__law_after f fd) (n_int : mg "int" = none) : FnOk P w K mg base CX0 1 f fd ["line", "deed"] (sp__law_after K) := by
  have nd := sc__law_after.nd
  refine F.ok sc__law_after (fun vs H Q E h => ?_) (fun cdv A o s H vs Q E hr h => ⟨t__law_after K, ?_, pr__law_after h⟩)
  · first | (obtain ⟨rfl, _⟩ := h; rfl) | (obtain ⟨_, rfl, _⟩ := h; rfl) | (obtain ⟨_, _, rfl, _⟩ := h; rfl) | (obtain ⟨_, _, _, rfl, _⟩ := h; rfl) | (obtain ⟨_, _, _, _, rfl, _⟩ := h; rfl) | (obtain ⟨_, _, _, _, _, rfl, _⟩ := h; rfl) | (obtain ⟨_, _, _, _, _, _, rfl, _⟩ := h; rfl) | (obtain ⟨_, _, _, _, _, _, _, rfl, _⟩ := h; rfl) | (obtain ⟨_, _, _, _, _, _, _, _, rfl, _⟩ := h; rfl) | (obtain ⟨_, _, _, _, _, _, _, _, _, rfl, _⟩ := h; rfl) | (obtain ⟨_, _, _, _, _, _, _, _, _, _, rfl, _⟩ := h; rfl)
  · exact (pss_cons (ps_if (pt_cmpR (u_eq hr.units) (pe_ix ix_seq (pv 1) pe_int (fun _ _ => rfl)) pe_str (nomark _)) (pss_one (ps_ret (pv 0))) pss_nil) (pss_cons (ps_set (i := 2) nd rfl (by first | exact Or.inl rfl | exact Or.inr rfl) (pe_ix ix_seq (pv 1) pe_int (fun _ _ => rfl))) (pss_cons (ps_set (i := 3) nd rfl (by first | exact Or.inl rfl | exact Or.inr rfl) (pe_slice u_sl (pv 0) (po_some (pe_op u_add (pv 2) (pe_callTy u_int (by rfl) n_int (by decide +kernel) (pa_cons (pe_cmpR (u_eq hr.units) (pe_ix ix_seq (pv 1) pe_int (fun _ _ => rfl)) pe_str (nomark _)) pa_nil)))) po_none)) (pss_one (ps_ret (pe_op u_add (pe_op u_add (pe_slice u_sl (pv 0) po_none (po_some (pv 2))) (pe_join pe_str (pe_slice u_sl (pv 1) (po_some pe_int) po_none))) (pv 3)))))))
theorem sc__law_come : FnScope N__law_come ["seats", "at", "letter"] (defScope s__law_come) := ⟨rfl, rfl, rfl, by decide +kernel, rfl, by decide +kernel, by decide +kernel⟩
theorem ok__law_come {f : Addr} {fd : FuncData} (F : Fun K "_law_come" "_law_come" s__law_come f fd) {f__law_after : Addr} {fd__law_after : FuncData} (G__law_after : FnOk P w K mg base CX0 1 f__law_after fd__law_after ["line", "deed"] (sp__law_after K)) (g__law_after : mg "_law_after" = some (.ref f__law_after)) (k__law_after : PySem.W.keepIn K (.ref f__law_after) = true) (b__law_after : Binds K fd__law_after ["line", "deed"] []) {f__law_behind : Addr} {fd__law_behind : FuncData} (G__law_behind : FnOk P w K mg base CX0 1 f__law_behind fd__law_behind ["deed", "other", "ahead"] (sp__law_behind K)) (g__law_behind : mg "_law_behind" = some (.ref f__law_behind)) (k__law_behind : PySem.W.keepIn K (.ref f__law_behind) = true) (b__law_behind : Binds K fd__law_behind ["deed", "other", "ahead"] []) : FnOk P w K mg base CX0 2 f fd ["seats", "at", "letter"] (sp__law_come K) := by
  have nd := sc__law_come.nd
  refine F.ok sc__law_come (fun vs H Q E h => ?_) (fun cdv A o s H vs Q E hr h => ⟨t__law_come K, ?_, pr__law_come h⟩)
  · first | (obtain ⟨rfl, _⟩ := h; rfl) | (obtain ⟨_, rfl, _⟩ := h; rfl) | (obtain ⟨_, _, rfl, _⟩ := h; rfl) | (obtain ⟨_, _, _, rfl, _⟩ := h; rfl) | (obtain ⟨_, _, _, _, rfl, _⟩ := h; rfl) | (obtain ⟨_, _, _, _, _, rfl, _⟩ := h; rfl) | (obtain ⟨_, _, _, _, _, _, rfl, _⟩ := h; rfl) | (obtain ⟨_, _, _, _, _, _, _, rfl, _⟩ := h; rfl) | (obtain ⟨_, _, _, _, _, _, _, _, rfl, _⟩ := h; rfl) | (obtain ⟨_, _, _, _, _, _, _, _, _, rfl, _⟩ := h; rfl) | (obtain ⟨_, _, _, _, _, _, _, _, _, _, rfl, _⟩ := h; rfl)
  · exact (pss_cons (ps_set (i := 3) nd rfl (by first | exact Or.inl rfl | exact Or.inr rfl) (pe_ix ix_seq (pv 0) (pv 1) (fun _ _ => rfl))) (pss_cons (ps_set (i := 4) nd rfl (by first | exact Or.inl rfl | exact Or.inr rfl) (pe_ix ix_seq (pv 2) pe_int (fun _ _ => rfl))) (pss_cons (ps_set (i := 5) nd rfl (by first | exact Or.inl rfl | exact Or.inr rfl) (pe_lst pa_nil)) (pss_cons (ps_for PassesOwn.never rfl (pi_list (pe_ix ix_seq (pv 3) pe_int (fun _ _ => rfl))) (pg_tup rfl (pgs_cons (pg_name (i := 6) nd rfl (by first | exact Or.inl rfl | exact Or.inr rfl)) (pgs_cons (pg_name (i := 7) nd rfl (by first | exact Or.inl rfl | exact Or.inr rfl)) pgs_nil))) (pss_one (ps_if (pt_cmpR u_ge (pv 6) (pe_ix ix_seq (pv 2) pe_int (fun _ _ => rfl)) (nomark _)) (pss_cons (ps_expr (pe_bm PySem.F.plainAttrs_list PySem.F.slot_list_append PySem.F.type_list_append mt_append (pv 5) (pa_cons (pe_tup (pa_cons (pv 6) (pa_cons (pe_call G__law_behind (hr.mono (by decide)) rfl g__law_behind k__law_behind b__law_behind .nil pass0 (pa_cons (pv 7) (pa_cons (pv 4) (pa_cons (pe_cmpR (u_eq hr.units) (pv 1) pe_int (nomark _)) pa_nil)))) pa_nil))) pa_nil))) (pss_one (ps_set (i := 4) nd rfl (by first | exact Or.inl rfl | exact Or.inr rfl) (pe_call G__law_behind (hr.mono (by decide)) rfl g__law_behind k__law_behind b__law_behind .nil pass0 (pa_cons (pv 4) (pa_cons (pv 7) (pa_cons (pe_cmpR (u_eq hr.units) (pv 1) pe_int (nomark _)) pa_nil))))))) pss_nil))) (pss_cons (ps_asg (pe_call G__law_after (hr.mono (by decide)) rfl g__law_after k__law_after b__law_after .nil pass0 (pa_cons (pe_ix ix_seq (pv 3) pe_int (fun _ _ => rfl)) (pa_cons (pv 4) pa_nil))) (pg_sub (pv 3) pe_int set_list)) (pss_cons (ps_asg (pe_op u_add (pe_ix ix_seq (pv 3) pe_int (fun _ _ => rfl)) pe_int) (pg_sub (pv 3) pe_int set_list)) (pss_cons (ps_asg (pv 5) (pg_sub (pv 3) pe_int set_list)) (pss_one (ps_ret (pv 4))))))))))
theorem sc__law_deed : FnScope N__law_deed ["draws", "line"] (defScope s__law_deed) := ⟨rfl, rfl, rfl, by decide +kernel, rfl, by decide +kernel, by decide +kernel⟩
theorem ok__law_deed {f : Addr} {fd : FuncData} (F : Fun K "_law_deed" "_law_deed" s__law_deed f fd) {f__law_sign : Addr} {fd__law_sign : FuncData} (G__law_sign : FnOk P w K mg base CX0 2 f__law_sign fd__law_sign ["draws"] (sp__law_sign K)) (g__law_sign : mg "_law_sign" = some (.ref f__law_sign)) (k__law_sign : PySem.W.keepIn K (.ref f__law_sign) = true) (b__law_sign : Binds K fd__law_sign ["draws"] []) {f__law_take : Addr} {fd__law_take : FuncData} (G__law_take : FnOk P w K mg base CX0 1 f__law_take fd__law_take ["draws", "many"] (sp__law_take K)) (g__law_take : mg "_law_take" = some (.ref f__law_take)) (k__law_take : PySem.W.keepIn K (.ref f__law_take) = true) (b__law_take : Binds K fd__law_take ["draws", "many"] []) (n_len : mg "len" = none) : FnOk P w K mg base CX0 3 f fd ["draws", "line"] (sp__law_deed K) := by
  have nd := sc__law_deed.nd
  refine F.ok sc__law_deed (fun vs H Q E h => ?_) (fun cdv A o s H vs Q E hr h => ⟨t__law_deed K, ?_, pr__law_deed h⟩)
  · first | (obtain ⟨rfl, _⟩ := h; rfl) | (obtain ⟨_, rfl, _⟩ := h; rfl) | (obtain ⟨_, _, rfl, _⟩ := h; rfl) | (obtain ⟨_, _, _, rfl, _⟩ := h; rfl) | (obtain ⟨_, _, _, _, rfl, _⟩ := h; rfl) | (obtain ⟨_, _, _, _, _, rfl, _⟩ := h; rfl) | (obtain ⟨_, _, _, _, _, _, rfl, _⟩ := h; rfl) | (obtain ⟨_, _, _, _, _, _, _, rfl, _⟩ := h; rfl) | (obtain ⟨_, _, _, _, _, _, _, _, rfl, _⟩ := h; rfl) | (obtain ⟨_, _, _, _, _, _, _, _, _, rfl, _⟩ := h; rfl) | (obtain ⟨_, _, _, _, _, _, _, _, _, _, rfl, _⟩ := h; rfl)
  · exact (pss_cons (ps_set (i := 2) nd rfl (by first | exact Or.inl rfl | exact Or.inr rfl) (pe_call G__law_take (hr.mono (by decide)) rfl g__law_take k__law_take b__law_take .nil pass0 (pa_cons (pv 0) (pa_cons pe_int pa_nil)))) (pss_cons (ps_if (pt_cmpR (u_eq hr.units) (pv 2) pe_int (nomark _)) (pss_one (ps_ret (pe_tup (pa_cons pe_str pa_nil)))) pss_nil) (pss_cons (ps_if (PW.pt (pw_and (pt_cmpR u_lt (pv 2) pe_int (nomark _)) (pw_and1 (pt_cmpR (u_ne hr.units) (pv 1) pe_str (nomark _))))) (pss_one (ps_ret (pe_tup (pa_cons pe_str (pa_cons (pe_ix ix_seq (pe_lst (pa_cons pe_int (pa_cons (pe_op u_sub (pe_callB u_len (by rfl) n_len (by decide +kernel) (pa_cons (pv 1) pa_nil)) pe_int) (pa_cons (pe_op u_mod (pe_call G__law_take (hr.mono (by decide)) rfl g__law_take k__law_take b__law_take .nil pass0 (pa_cons (pv 0) (pa_cons pe_int pa_nil))) (pe_callB u_len (by rfl) n_len (by decide +kernel) (pa_cons (pv 1) pa_nil))) pa_nil)))) (pe_call G__law_take (hr.mono (by decide)) rfl g__law_take k__law_take b__law_take .nil pass0 (pa_cons (pv 0) (pa_cons pe_int pa_nil))) (fun _ _ => rfl)) pa_nil))))) pss_nil) (pss_cons (ps_set (i := 3) nd rfl (by first | exact Or.inl rfl | exact Or.inr rfl) (pe_ix ix_seq (pe_lst (pa_cons pe_int (pa_cons (pe_callB u_len (by rfl) n_len (by decide +kernel) (pa_cons (pv 1) pa_nil)) (pa_cons (pe_op u_mod (pe_call G__law_take (hr.mono (by decide)) rfl g__law_take k__law_take b__law_take .nil pass0 (pa_cons (pv 0) (pa_cons pe_int pa_nil))) (pe_op u_add (pe_callB u_len (by rfl) n_len (by decide +kernel) (pa_cons (pv 1) pa_nil)) pe_int)) pa_nil)))) (pe_call G__law_take (hr.mono (by decide)) rfl g__law_take k__law_take b__law_take .nil pass0 (pa_cons (pv 0) (pa_cons pe_int pa_nil))) (fun _ _ => rfl))) (pss_one (ps_ret (pe_tup (pa_cons pe_str (pa_cons (pv 3) (pa_cons (pe_call G__law_sign (hr.mono (by decide)) rfl g__law_sign k__law_sign b__law_sign .nil pass0 (pa_cons (pv 0) pa_nil)) pa_nil))))))))))
theorem sc__law_make : FnScope N__law_make ["seats", "at", "deed"] (defScope s__law_make) := ⟨rfl, rfl, rfl, by decide +kernel, rfl, by decide +kernel, by decide +kernel⟩
theorem ok__law_make {f : Addr} {fd : FuncData} (F : Fun K "_law_make" "_law_make" s__law_make f fd) {f__law_after : Addr} {fd__law_after : FuncData} (G__law_after : FnOk P w K mg base CX0 1 f__law_after fd__law_after ["line", "deed"] (sp__law_after K)) (g__law_after : mg "_law_after" = some (.ref f__law_after)) (k__law_after : PySem.W.keepIn K (.ref f__law_after) = true) (b__law_after : Binds K fd__law_after ["line", "deed"] []) : FnOk P w K mg base CX0 2 f fd ["seats", "at", "deed"] (sp__law_make K) := by
  have nd := sc__law_make.nd
  refine F.ok sc__law_make (fun vs H Q E h => ?_) (fun cdv A o s H vs Q E hr h => ⟨t__law_make K, ?_, pr__law_make h⟩)
  · first | (obtain ⟨rfl, _⟩ := h; rfl) | (obtain ⟨_, rfl, _⟩ := h; rfl) | (obtain ⟨_, _, rfl, _⟩ := h; rfl) | (obtain ⟨_, _, _, rfl, _⟩ := h; rfl) | (obtain ⟨_, _, _, _, rfl, _⟩ := h; rfl) | (obtain ⟨_, _, _, _, _, rfl, _⟩ := h; rfl) | (obtain ⟨_, _, _, _, _, _, rfl, _⟩ := h; rfl) | (obtain ⟨_, _, _, _, _, _, _, rfl, _⟩ := h; rfl) | (obtain ⟨_, _, _, _, _, _, _, _, rfl, _⟩ := h; rfl) | (obtain ⟨_, _, _, _, _, _, _, _, _, rfl, _⟩ := h; rfl) | (obtain ⟨_, _, _, _, _, _, _, _, _, _, rfl, _⟩ := h; rfl)
  · exact (pss_cons (ps_set (i := 3) nd rfl (by first | exact Or.inl rfl | exact Or.inr rfl) (pe_ix ix_seq (pv 0) (pv 1) (fun _ _ => rfl))) (pss_cons (ps_asg (pe_call G__law_after (hr.mono (by decide)) rfl g__law_after k__law_after b__law_after .nil pass0 (pa_cons (pe_ix ix_seq (pv 3) pe_int (fun _ _ => rfl)) (pa_cons (pv 2) pa_nil))) (pg_sub (pv 3) pe_int set_list)) (pss_cons (ps_expr (pe_bm PySem.F.plainAttrs_list PySem.F.slot_list_append PySem.F.type_list_append mt_append (pe_ix ix_seq (pv 3) pe_int (fun _ _ => rfl)) (pa_cons (pe_tup (pa_cons (pe_ix ix_seq (pv 3) pe_int (fun _ _ => rfl)) (pa_cons (pv 2) pa_nil))) pa_nil))) (pss_cons (ps_asg (pe_op u_add (pe_ix ix_seq (pv 3) pe_int (fun _ _ => rfl)) pe_int) (pg_sub (pv 3) pe_int set_list)) (pss_one (ps_ret (pe_tup (pa_cons (pe_op u_sub (pe_ix ix_seq (pv 3) pe_int (fun _ _ => rfl)) pe_int) (pa_cons (pe_ix ix_seq (pv 3) pe_int (fun _ _ => rfl)) (pa_cons (pv 2) pa_nil))))))))))
theorem sc__law_story : FnScope N__law_story ["draws", "line", "most"] (defScope s__law_story) := ⟨rfl, rfl, rfl, by decide +kernel, rfl, by decide +kernel, by decide +kernel⟩
theorem ok__law_story {f : Addr} {fd : FuncData} (F : Fun K "_law_story" "_law_story" s__law_story f fd) {f__law_come : Addr} {fd__law_come : FuncData} (G__law_come : FnOk P w K mg base CX0 2 f__law_come fd__law_come ["seats", "at", "letter"] (sp__law_come K)) (g__law_come : mg "_law_come" = some (.ref f__law_come)) (k__law_come : PySem.W.keepIn K (.ref f__law_come) = true) (b__law_come : Binds K fd__law_come ["seats", "at", "letter"] []) {f__law_deed : Addr} {fd__law_deed : FuncData} (G__law_deed : FnOk P w K mg base CX0 3 f__law_deed fd__law_deed ["draws", "line"] (sp__law_deed K)) (g__law_deed : mg "_law_deed" = some (.ref f__law_deed)) (k__law_deed : PySem.W.keepIn K (.ref f__law_deed) = true) (b__law_deed : Binds K fd__law_deed ["draws", "line"] []) {f__law_make : Addr} {fd__law_make : FuncData} (G__law_make : FnOk P w K mg base CX0 2 f__law_make fd__law_make ["seats", "at", "deed"] (sp__law_make K)) (g__law_make : mg "_law_make" = some (.ref f__law_make)) (k__law_make : PySem.W.keepIn K (.ref f__law_make) = true) (b__law_make : Binds K fd__law_make ["seats", "at", "deed"] []) {f__law_seats : Addr} {fd__law_seats : FuncData} (G__law_seats : FnOk P w K mg base CX0 1 f__law_seats fd__law_seats ["line"] (sp__law_seats K)) (g__law_seats : mg "_law_seats" = some (.ref f__law_seats)) (k__law_seats : PySem.W.keepIn K (.ref f__law_seats) = true) (b__law_seats : Binds K fd__law_seats ["line"] []) {f__law_take : Addr} {fd__law_take : FuncData} (G__law_take : FnOk P w K mg base CX0 1 f__law_take fd__law_take ["draws", "many"] (sp__law_take K)) (g__law_take : mg "_law_take" = some (.ref f__law_take)) (k__law_take : PySem.W.keepIn K (.ref f__law_take) = true) (b__law_take : Binds K fd__law_take ["draws", "many"] []) (n_range : mg "range" = none) : FnOk P w K mg base CX0 4 f fd ["draws", "line", "most"] (sp__law_story K) := by
  have nd := sc__law_story.nd
  refine F.ok sc__law_story (fun vs H Q E h => ?_) (fun cdv A o s H vs Q E hr h => ⟨t__law_story K, ?_, pr__law_story h⟩)
  · first | (obtain ⟨rfl, _⟩ := h; rfl) | (obtain ⟨_, rfl, _⟩ := h; rfl) | (obtain ⟨_, _, rfl, _⟩ := h; rfl) | (obtain ⟨_, _, _, rfl, _⟩ := h; rfl) | (obtain ⟨_, _, _, _, rfl, _⟩ := h; rfl) | (obtain ⟨_, _, _, _, _, rfl, _⟩ := h; rfl) | (obtain ⟨_, _, _, _, _, _, rfl, _⟩ := h; rfl) | (obtain ⟨_, _, _, _, _, _, _, rfl, _⟩ := h; rfl) | (obtain ⟨_, _, _, _, _, _, _, _, rfl, _⟩ := h; rfl) | (obtain ⟨_, _, _, _, _, _, _, _, _, rfl, _⟩ := h; rfl) | (obtain ⟨_, _, _, _, _, _, _, _, _, _, rfl, _⟩ := h; rfl)
  · exact (pss_cons (ps_par (i := 3) (j := 4) rfl nd rfl rfl (by decide) rfl rfl (pa_cons (pe_call G__law_seats (hr.mono (by decide)) rfl g__law_seats k__law_seats b__law_seats .nil pass0 (pa_cons (pv 1) pa_nil)) (pa_cons (pe_lst (pa_cons (pe_lst pa_nil) (pa_cons (pe_lst pa_nil) pa_nil))) pa_nil)) rfl) (pss_cons (ps_set (i := 5) nd rfl (by first | exact Or.inl rfl | exact Or.inr rfl) (pe_lst pa_nil)) (pss_cons (ps_for PassesOwn.never rfl (pi_range1 (by rfl) n_range (pa_cons (pv 2) pa_nil)) (pg_name (i := 6) nd rfl (by first | exact Or.inl rfl | exact Or.inr rfl)) (pss_cons (ps_set (i := 7) nd rfl (by first | exact Or.inl rfl | exact Or.inr rfl) (pe_call G__law_take (hr.mono (by decide)) rfl g__law_take k__law_take b__law_take .nil pass0 (pa_cons (pv 0) (pa_cons pe_int pa_nil)))) (pss_one (ps_if (PW.pt (pw_and (pt_cmpR (u_ne hr.units) (pe_ix ix_seq (pv 4) (pv 7) (fun _ _ => rfl)) (pe_lst pa_nil) (nomark _)) (pw_and1 (pt_cmpR (u_eq hr.units) (pe_call G__law_take (hr.mono (by decide)) rfl g__law_take k__law_take b__law_take .nil pass0 (pa_cons (pv 0) (pa_cons pe_int pa_nil))) pe_int (nomark _))))) (pss_cons (ps_expr (pe_call G__law_come (hr.mono (by decide)) rfl g__law_come k__law_come b__law_come .nil pass0 (pa_cons (pv 3) (pa_cons (pv 7) (pa_cons (pe_bm PySem.F.plainAttrs_list PySem.F.slot_list_pop PySem.F.type_list_pop mt_popAt (pe_ix ix_seq (pv 4) (pv 7) (fun _ _ => rfl)) (pa_cons pe_int pa_nil)) pa_nil))))) (pss_one (ps_expr (pe_bm PySem.F.plainAttrs_list PySem.F.slot_list_append PySem.F.type_list_append mt_append (pv 5) (pa_cons (pe_tup (pa_cons pe_str (pa_cons (pv 7) pa_nil))) pa_nil))))) (pss_cons (ps_set (i := 8) nd rfl (by first | exact Or.inl rfl | exact Or.inr rfl) (pe_call G__law_deed (hr.mono (by decide)) rfl g__law_deed k__law_deed b__law_deed .nil pass0 (pa_cons (pv 0) (pa_cons (pe_ix ix_seq (pe_ix ix_seq (pv 3) (pv 7) (fun _ _ => rfl)) pe_int (fun _ _ => rfl)) pa_nil)))) (pss_cons (ps_expr (pe_bm PySem.F.plainAttrs_list PySem.F.slot_list_append PySem.F.type_list_append mt_append (pe_ix ix_seq (pv 4) (pe_op u_sub pe_int (pv 7)) (fun _ _ => rfl)) (pa_cons (pe_call G__law_make (hr.mono (by decide)) rfl g__law_make k__law_make b__law_make .nil pass0 (pa_cons (pv 3) (pa_cons (pv 7) (pa_cons (pv 8) pa_nil)))) pa_nil))) (pss_one (ps_expr (pe_bm PySem.F.plainAttrs_list PySem.F.slot_list_append PySem.F.type_list_append mt_append (pv 5) (pa_cons (pe_tup (pa_cons pe_str (pa_cons (pv 7) (pa_cons (pv 8) pa_nil)))) pa_nil)))))))))) (pss_one (ps_ret (pv 5))))))
theorem sc_law : FnScope N_law ["script"] (defScope s_law) := ⟨rfl, rfl, rfl, by decide +kernel, rfl, by decide +kernel, by decide +kernel⟩
theorem ok_law {f : Addr} {fd : FuncData} (F : Fun K "law" "law" s_law f fd) {f__law_draws : Addr} {fd__law_draws : FuncData} (G__law_draws : FnOk P w K mg base CX0 1 f__law_draws fd__law_draws ["script"] (sp__law_draws K)) (g__law_draws : mg "_law_draws" = some (.ref f__law_draws)) (k__law_draws : PySem.W.keepIn K (.ref f__law_draws) = true) (b__law_draws : Binds K fd__law_draws ["script"] []) {f__law_line : Addr} {fd__law_line : FuncData} (G__law_line : FnOk P w K mg base CX0 3 f__law_line fd__law_line ["draws"] (sp__law_line K)) (g__law_line : mg "_law_line" = some (.ref f__law_line)) (k__law_line : PySem.W.keepIn K (.ref f__law_line) = true) (b__law_line : Binds K fd__law_line ["draws"] []) {f__law_right : Addr} {fd__law_right : FuncData} (G__law_right : FnOk P w K mg base CX0 10 f__law_right fd__law_right ["line", "story"] (sp__law_right K)) (g__law_right : mg "_law_right" = some (.ref f__law_right)) (k__law_right : PySem.W.keepIn K (.ref f__law_right) = true) (b__law_right : Binds K fd__law_right ["line", "story"] []) {f__law_story : Addr} {fd__law_story : FuncData} (G__law_story : FnOk P w K mg base CX0 4 f__law_story fd__law_story ["draws", "line", "most"] (sp__law_story K)) (g__law_story : mg "_law_story" = some (.ref f__law_story)) (k__law_story : PySem.W.keepIn K (.ref f__law_story) = true) (b__law_story : Binds K fd__law_story ["draws", "line", "most"] []) {f__law_take : Addr} {fd__law_take : FuncData} (G__law_take : FnOk P w K mg base CX0 1 f__law_take fd__law_take ["draws", "many"] (sp__law_take K)) (g__law_take : mg "_law_take" = some (.ref f__law_take)) (k__law_take : PySem.W.keepIn K (.ref f__law_take) = true) (b__law_take : Binds K fd__law_take ["draws", "many"] []) : OkG P w K mg base CX0 11 f fd ["script"] (sp_law K) := by
  have nd := sc_law.nd
  refine okG_of F sc_law (fun vs H Q E h => ?_) (fun cdv A o s H vs Q E hG hr h => ⟨t_law K, PSs.nox ?_, pr_law h⟩)
  · first | (obtain ⟨rfl, _⟩ := h; rfl) | (obtain ⟨_, rfl, _⟩ := h; rfl) | (obtain ⟨_, _, rfl, _⟩ := h; rfl) | (obtain ⟨_, _, _, rfl, _⟩ := h; rfl) | (obtain ⟨_, _, _, _, rfl, _⟩ := h; rfl) | (obtain ⟨_, _, _, _, _, rfl, _⟩ := h; rfl) | (obtain ⟨_, _, _, _, _, _, rfl, _⟩ := h; rfl) | (obtain ⟨_, _, _, _, _, _, _, rfl, _⟩ := h; rfl) | (obtain ⟨_, _, _, _, _, _, _, _, rfl, _⟩ := h; rfl) | (obtain ⟨_, _, _, _, _, _, _, _, _, rfl, _⟩ := h; rfl) | (obtain ⟨_, _, _, _, _, _, _, _, _, _, rfl, _⟩ := h; rfl)
  · exact (pss_cons (ps_set (i := 1) nd rfl (by first | exact Or.inl rfl | exact Or.inr rfl) (pe_call G__law_draws (hr.mono (by decide)) rfl g__law_draws k__law_draws b__law_draws .nil pass0 (pa_cons (pv 0) pa_nil))) (pss_cons (ps_set (i := 2) nd rfl (by first | exact Or.inl rfl | exact Or.inr rfl) pe_int) (pss_cons (ps_while PassesOwn.never (PW.pt (pw_or (pt_cmpR u_lt (pv 2) pe_int (nomark _)) (pw_or1 (PW.pt (pw_and (pt_cmpR (u_ne hr.units) (pv 1) (pe_lst pa_nil) (nomark _)) (pw_and1 (pt_cmpR u_lt (pv 2) pe_int (nomark _)))))))) (pss_cons (ps_set (i := 3) nd rfl (by first | exact Or.inl rfl | exact Or.inr rfl) (pe_call G__law_line (hr.mono (by decide)) rfl g__law_line k__law_line b__law_line .nil pass0 (pa_cons (pv 1) pa_nil))) (pss_cons (ps_if (pt_not (pt_val (pe_call G__law_right (hr.mono (by decide)) rfl g__law_right k__law_right b__law_right .nil pass0 (pa_cons (pv 3) (pa_cons (pe_call G__law_story (hr.mono (by decide)) rfl g__law_story k__law_story b__law_story .nil pass0 (pa_cons (pv 1) (pa_cons (pv 3) (pa_cons (pe_ix ix_seq (pe_lst (pa_cons (pe_call G__law_take (hr.mono (by decide)) rfl g__law_take k__law_take b__law_take .nil pass0 (pa_cons (pv 1) (pa_cons pe_int pa_nil))) (pa_cons pe_int pa_nil))) (pe_call G__law_take (hr.mono (by decide)) rfl g__law_take k__law_take b__law_take .nil pass0 (pa_cons (pv 1) (pa_cons pe_int pa_nil))) (fun _ _ => rfl)) pa_nil)))) pa_nil))))) (pss_one (ps_ret pe_bl)) pss_nil) (pss_one (ps_set (i := 2) nd rfl (by first | exact Or.inl rfl | exact Or.inr rfl) (pe_op u_add (pv 2) pe_int)))))) (pss_one (ps_ret pe_bl)))))
end
theorem all_mk {l : PySem.W.OpenLaw} {w : World} {K : PySem.W.Frag} {h : Heap} {mg : Str → Option Value} {fa : Addr} (X : K.In h) (G : h.Ns mainGlobals mg) (hfa : mg "law" = some (.ref fa))
    {C_Seat : Addr}
    {C_Yard : Addr}
    {f0 : Addr} {od0 an0 : Option Addr} {sl0 : Array (Option Value)} {oc0 kV0 dc0 pm0 cd0 ct0 : Value}
    {f1 : Addr} {od1 an1 : Option Addr} {sl1 : Array (Option Value)} {oc1 kV1 dc1 pm1 cd1 ct1 : Value}
    {f2 : Addr} {od2 an2 : Option Addr} {sl2 : Array (Option Value)} {oc2 kV2 dc2 pm2 cd2 ct2 : Value}
    {f3 : Addr} {od3 an3 : Option Addr} {sl3 : Array (Option Value)} {oc3 kV3 dc3 pm3 cd3 ct3 : Value}
    {f4 : Addr} {od4 an4 : Option Addr} {sl4 : Array (Option Value)} {oc4 kV4 dc4 pm4 cd4 ct4 : Value}
    {f5 : Addr} {od5 an5 : Option Addr} {sl5 : Array (Option Value)} {oc5 kV5 dc5 pm5 cd5 ct5 : Value}
    {f6 : Addr} {od6 an6 : Option Addr} {sl6 : Array (Option Value)} {oc6 kV6 dc6 pm6 cd6 ct6 : Value}
    {f7 : Addr} {od7 an7 : Option Addr} {sl7 : Array (Option Value)} {oc7 kV7 dc7 pm7 cd7 ct7 : Value}
    {f8 : Addr} {od8 an8 : Option Addr} {sl8 : Array (Option Value)} {oc8 kV8 dc8 pm8 cd8 ct8 : Value}
    {f9 : Addr} {od9 an9 : Option Addr} {sl9 : Array (Option Value)} {oc9 kV9 dc9 pm9 cd9 ct9 : Value}
    {f10 : Addr} {od10 an10 : Option Addr} {sl10 : Array (Option Value)} {oc10 kV10 dc10 pm10 cd10 ct10 : Value}
    {f11 : Addr} {od11 an11 : Option Addr} {sl11 : Array (Option Value)} {oc11 kV11 dc11 pm11 cd11 ct11 : Value}
    {f12 : Addr} {od12 an12 : Option Addr} {sl12 : Array (Option Value)} {oc12 kV12 dc12 pm12 cd12 ct12 : Value}
    {f13 : Addr} {od13 an13 : Option Addr} {sl13 : Array (Option Value)} {oc13 kV13 dc13 pm13 cd13 ct13 : Value}
    {f14 : Addr} {od14 an14 : Option Addr} {sl14 : Array (Option Value)} {oc14 kV14 dc14 pm14 cd14 ct14 : Value}
    {f15 : Addr} {od15 an15 : Option Addr} {sl15 : Array (Option Value)} {oc15 kV15 dc15 pm15 cd15 ct15 : Value}
    {f16 : Addr} {od16 an16 : Option Addr} {sl16 : Array (Option Value)} {oc16 kV16 dc16 pm16 cd16 ct16 : Value}
    {f17 : Addr} {od17 an17 : Option Addr} {sl17 : Array (Option Value)} {oc17 kV17 dc17 pm17 cd17 ct17 : Value}
    {f18 : Addr} {od18 an18 : Option Addr} {sl18 : Array (Option Value)} {oc18 kV18 dc18 pm18 cd18 ct18 : Value}
    {f19 : Addr} {od19 an19 : Option Addr} {sl19 : Array (Option Value)} {oc19 kV19 dc19 pm19 cd19 ct19 : Value}
    {f20 : Addr} {od20 an20 : Option Addr} {sl20 : Array (Option Value)} {oc20 kV20 dc20 pm20 cd20 ct20 : Value}
    {f21 : Addr} {od21 an21 : Option Addr} {sl21 : Array (Option Value)} {oc21 kV21 dc21 pm21 cd21 ct21 : Value}
    {f22 : Addr} {od22 an22 : Option Addr} {sl22 : Array (Option Value)} {oc22 kV22 dc22 pm22 cd22 ct22 : Value}
    {f23 : Addr} {od23 an23 : Option Addr} {sl23 : Array (Option Value)} {oc23 kV23 dc23 pm23 cd23 ct23 : Value}
    {f24 : Addr} {od24 an24 : Option Addr} {sl24 : Array (Option Value)} {oc24 kV24 dc24 pm24 cd24 ct24 : Value}
    {f25 : Addr} {od25 an25 : Option Addr} {sl25 : Array (Option Value)} {oc25 kV25 dc25 pm25 cd25 ct25 : Value}
    {f26 : Addr} {od26 an26 : Option Addr} {sl26 : Array (Option Value)} {oc26 kV26 dc26 pm26 cd26 ct26 : Value}
    {f27 : Addr} {od27 an27 : Option Addr} {sl27 : Array (Option Value)} {oc27 kV27 dc27 pm27 cd27 ct27 : Value}
    {f28 : Addr} {od28 an28 : Option Addr} {sl28 : Array (Option Value)} {oc28 kV28 dc28 pm28 cd28 ct28 : Value}
    {f29 : Addr} {od29 an29 : Option Addr} {sl29 : Array (Option Value)} {oc29 kV29 dc29 pm29 cd29 ct29 : Value}
    {f30 : Addr} {od30 an30 : Option Addr} {sl30 : Array (Option Value)} {oc30 kV30 dc30 pm30 cd30 ct30 : Value}
    {f31 : Addr} {od31 an31 : Option Addr} {sl31 : Array (Option Value)} {oc31 kV31 dc31 pm31 cd31 ct31 : Value}
    {f32 : Addr} {od32 an32 : Option Addr} {sl32 : Array (Option Value)} {oc32 kV32 dc32 pm32 cd32 ct32 : Value}
    {f33 : Addr} {od33 an33 : Option Addr} {sl33 : Array (Option Value)} {oc33 kV33 dc33 pm33 cd33 ct33 : Value}
    {f34 : Addr} {od34 an34 : Option Addr} {sl34 : Array (Option Value)} {oc34 kV34 dc34 pm34 cd34 ct34 : Value}
    {f35 : Addr} {od35 an35 : Option Addr} {sl35 : Array (Option Value)} {oc35 kV35 dc35 pm35 cd35 ct35 : Value}
    {f36 : Addr} {od36 an36 : Option Addr} {sl36 : Array (Option Value)} {oc36 kV36 dc36 pm36 cd36 ct36 : Value}
    {f37 : Addr} {od37 an37 : Option Addr} {sl37 : Array (Option Value)} {oc37 kV37 dc37 pm37 cd37 ct37 : Value}
    {f38 : Addr} {od38 an38 : Option Addr} {sl38 : Array (Option Value)} {oc38 kV38 dc38 pm38 cd38 ct38 : Value}
    {f39 : Addr} {od39 an39 : Option Addr} {sl39 : Array (Option Value)} {oc39 kV39 dc39 pm39 cd39 ct39 : Value}
    {f40 : Addr} {od40 an40 : Option Addr} {sl40 : Array (Option Value)} {oc40 kV40 dc40 pm40 cd40 ct40 : Value}
    {f41 : Addr} {od41 an41 : Option Addr} {sl41 : Array (Option Value)} {oc41 kV41 dc41 pm41 cd41 ct41 : Value}
    {f42 : Addr} {od42 an42 : Option Addr} {sl42 : Array (Option Value)} {oc42 kV42 dc42 pm42 cd42 ct42 : Value}
    {f43 : Addr} {od43 an43 : Option Addr} {sl43 : Array (Option Value)} {oc43 kV43 dc43 pm43 cd43 ct43 : Value}
    {C_PARTS : Addr} {es_PARTS : Array DictEntry} {n_PARTS : Nat}
    {t_SIGNS : Tok}
    (q_Seat : PySem.W.nsIn K mainGlobals "Seat" = some (some (.ref C_Seat)))
    (q_Yard : PySem.W.nsIn K mainGlobals "Yard" = some (some (.ref C_Yard)))
    (a0 : PySem.W.nsIn K mainGlobals "_law_draws" = some (some (.ref f0)))
    (l0 : K.lookup f0 = some ⟨oc0, od0, .func (PySem.W.fnOf "_law_draws" "_law_draws" (defArgs s__law_draws) (defBody s__law_draws) (defScope s__law_draws) .none kV0 dc0 pm0 an0 cd0 ct0), sl0⟩)
    (c0 : PySem.W.codeIn K cd0 "_law_draws" = true)
    (k0 : PySem.W.keepIn K (.ref f0) = true)
    (a1 : PySem.W.nsIn K mainGlobals "_law_take" = some (some (.ref f1)))
    (l1 : K.lookup f1 = some ⟨oc1, od1, .func (PySem.W.fnOf "_law_take" "_law_take" (defArgs s__law_take) (defBody s__law_take) (defScope s__law_take) .none kV1 dc1 pm1 an1 cd1 ct1), sl1⟩)
    (c1 : PySem.W.codeIn K cd1 "_law_take" = true)
    (k1 : PySem.W.keepIn K (.ref f1) = true)
    (a2 : PySem.W.nsIn K mainGlobals "_law_sign" = some (some (.ref f2)))
    (l2 : K.lookup f2 = some ⟨oc2, od2, .func (PySem.W.fnOf "_law_sign" "_law_sign" (defArgs s__law_sign) (defBody s__law_sign) (defScope s__law_sign) .none kV2 dc2 pm2 an2 cd2 ct2), sl2⟩)
    (c2 : PySem.W.codeIn K cd2 "_law_sign" = true)
    (k2 : PySem.W.keepIn K (.ref f2) = true)
    (a3 : PySem.W.nsIn K mainGlobals "_law_line" = some (some (.ref f3)))
    (l3 : K.lookup f3 = some ⟨oc3, od3, .func (PySem.W.fnOf "_law_line" "_law_line" (defArgs s__law_line) (defBody s__law_line) (defScope s__law_line) .none kV3 dc3 pm3 an3 cd3 ct3), sl3⟩)
    (c3 : PySem.W.codeIn K cd3 "_law_line" = true)
    (k3 : PySem.W.keepIn K (.ref f3) = true)
    (a4 : PySem.W.findIn K (.ref C_Seat) "__init__" = some (some (.ref f4)))
    (i4 : PySem.W.isFn K (.ref f4) = true)
    (l4 : K.lookup f4 = some ⟨oc4, od4, .func (PySem.W.fnOf "__init__" "Seat.__init__" (defArgs s_Seat___init__) (defBody s_Seat___init__) (defScope s_Seat___init__) .none kV4 dc4 pm4 an4 cd4 ct4), sl4⟩)
    (c4 : PySem.W.codeIn K cd4 "Seat.__init__" = true)
    (k4 : PySem.W.keepIn K (.ref f4) = true)
    (a5 : PySem.W.findIn K (.ref C_Yard) "__init__" = some (some (.ref f5)))
    (i5 : PySem.W.isFn K (.ref f5) = true)
    (l5 : K.lookup f5 = some ⟨oc5, od5, .func (PySem.W.fnOf "__init__" "Yard.__init__" (defArgs s_Yard___init__) (defBody s_Yard___init__) (defScope s_Yard___init__) .none kV5 dc5 pm5 an5 cd5 ct5), sl5⟩)
    (c5 : PySem.W.codeIn K cd5 "Yard.__init__" = true)
    (k5 : PySem.W.keepIn K (.ref f5) = true)
    (a6 : PySem.W.nsIn K mainGlobals "is_either" = some (some (.ref f6)))
    (l6 : K.lookup f6 = some ⟨oc6, od6, .func (PySem.W.fnOf "is_either" "is_either" (defArgs s_is_either) (defBody s_is_either) (defScope s_is_either) .none kV6 dc6 pm6 an6 cd6 ct6), sl6⟩)
    (c6 : PySem.W.codeIn K cd6 "is_either" = true)
    (k6 : PySem.W.keepIn K (.ref f6) = true)
    (a7 : PySem.W.nsIn K mainGlobals "is_place" = some (some (.ref f7)))
    (l7 : K.lookup f7 = some ⟨oc7, od7, .func (PySem.W.fnOf "is_place" "is_place" (defArgs s_is_place) (defBody s_is_place) (defScope s_is_place) .none kV7 dc7 pm7 an7 cd7 ct7), sl7⟩)
    (c7 : PySem.W.codeIn K cd7 "is_place" = true)
    (k7 : PySem.W.keepIn K (.ref f7) = true)
    (a8 : PySem.W.nsIn K mainGlobals "is_sign" = some (some (.ref f8)))
    (l8 : K.lookup f8 = some ⟨oc8, od8, .func (PySem.W.fnOf "is_sign" "is_sign" (defArgs s_is_sign) (defBody s_is_sign) (defScope s_is_sign) .none kV8 dc8 pm8 an8 cd8 ct8), sl8⟩)
    (c8 : PySem.W.codeIn K cd8 "is_sign" = true)
    (k8 : PySem.W.keepIn K (.ref f8) = true)
    (a9 : PySem.W.nsIn K mainGlobals "is_deed" = some (some (.ref f9)))
    (l9 : K.lookup f9 = some ⟨oc9, od9, .func (PySem.W.fnOf "is_deed" "is_deed" (defArgs s_is_deed) (defBody s_is_deed) (defScope s_is_deed) .none kV9 dc9 pm9 an9 cd9 ct9), sl9⟩)
    (c9 : PySem.W.codeIn K cd9 "is_deed" = true)
    (k9 : PySem.W.keepIn K (.ref f9) = true)
    (a10 : PySem.W.nsIn K mainGlobals "can_be_done" = some (some (.ref f10)))
    (l10 : K.lookup f10 = some ⟨oc10, od10, .func (PySem.W.fnOf "can_be_done" "can_be_done" (defArgs s_can_be_done) (defBody s_can_be_done) (defScope s_can_be_done) .none kV10 dc10 pm10 an10 cd10 ct10), sl10⟩)
    (c10 : PySem.W.codeIn K cd10 "can_be_done" = true)
    (k10 : PySem.W.keepIn K (.ref f10) = true)
    (a11 : PySem.W.nsIn K mainGlobals "is_seat" = some (some (.ref f11)))
    (l11 : K.lookup f11 = some ⟨oc11, od11, .func (PySem.W.fnOf "is_seat" "is_seat" (defArgs s_is_seat) (defBody s_is_seat) (defScope s_is_seat) .none kV11 dc11 pm11 an11 cd11 ct11), sl11⟩)
    (c11 : PySem.W.codeIn K cd11 "is_seat" = true)
    (k11 : PySem.W.keepIn K (.ref f11) = true)
    (a12 : PySem.W.nsIn K mainGlobals "need_seat" = some (some (.ref f12)))
    (l12 : K.lookup f12 = some ⟨oc12, od12, .func (PySem.W.fnOf "need_seat" "need_seat" (defArgs s_need_seat) (defBody s_need_seat) (defScope s_need_seat) .none kV12 dc12 pm12 an12 cd12 ct12), sl12⟩)
    (c12 : PySem.W.codeIn K cd12 "need_seat" = true)
    (k12 : PySem.W.keepIn K (.ref f12) = true)
    (a13 : PySem.W.findIn K (.ref C_Seat) "shown" = some (some (.ref f13)))
    (i13 : PySem.W.isFn K (.ref f13) = true)
    (l13 : K.lookup f13 = some ⟨oc13, od13, .func (PySem.W.fnOf "shown" "Seat.shown" (defArgs s_Seat_shown) (defBody s_Seat_shown) (defScope s_Seat_shown) .none kV13 dc13 pm13 an13 cd13 ct13), sl13⟩)
    (c13 : PySem.W.codeIn K cd13 "Seat.shown" = true)
    (k13 : PySem.W.keepIn K (.ref f13) = true)
    (a14 : PySem.W.findIn K (.ref C_Yard) "shown_at" = some (some (.ref f14)))
    (i14 : PySem.W.isFn K (.ref f14) = true)
    (l14 : K.lookup f14 = some ⟨oc14, od14, .func (PySem.W.fnOf "shown_at" "Yard.shown_at" (defArgs s_Yard_shown_at) (defBody s_Yard_shown_at) (defScope s_Yard_shown_at) .none kV14 dc14 pm14 an14 cd14 ct14), sl14⟩)
    (c14 : PySem.W.codeIn K cd14 "Yard.shown_at" = true)
    (k14 : PySem.W.keepIn K (.ref f14) = true)
    (a15 : PySem.W.findIn K (.ref C_Yard) "road_to" = some (some (.ref f15)))
    (i15 : PySem.W.isFn K (.ref f15) = true)
    (l15 : K.lookup f15 = some ⟨oc15, od15, .func (PySem.W.fnOf "road_to" "Yard.road_to" (defArgs s_Yard_road_to) (defBody s_Yard_road_to) (defScope s_Yard_road_to) .none kV15 dc15 pm15 an15 cd15 ct15), sl15⟩)
    (c15 : PySem.W.codeIn K cd15 "Yard.road_to" = true)
    (k15 : PySem.W.keepIn K (.ref f15) = true)
    (a16 : PySem.W.nsIn K mainGlobals "may_be" = some (some (.ref f16)))
    (l16 : K.lookup f16 = some ⟨oc16, od16, .func (PySem.W.fnOf "may_be" "may_be" (defArgs s_may_be) (defBody s_may_be) (defScope s_may_be) .none kV16 dc16 pm16 an16 cd16 ct16), sl16⟩)
    (c16 : PySem.W.codeIn K cd16 "may_be" = true)
    (k16 : PySem.W.keepIn K (.ref f16) = true)
    (a17 : PySem.W.nsIn K mainGlobals "done" = some (some (.ref f17)))
    (l17 : K.lookup f17 = some ⟨oc17, od17, .func (PySem.W.fnOf "done" "done" (defArgs s_done) (defBody s_done) (defScope s_done) .none kV17 dc17 pm17 an17 cd17 ct17), sl17⟩)
    (c17 : PySem.W.codeIn K cd17 "done" = true)
    (k17 : PySem.W.keepIn K (.ref f17) = true)
    (a18 : PySem.W.nsIn K mainGlobals "moved" = some (some (.ref f18)))
    (l18 : K.lookup f18 = some ⟨oc18, od18, .func (PySem.W.fnOf "moved" "moved" (defArgs s_moved) (defBody s_moved) (defScope s_moved) .none kV18 dc18 pm18 an18 cd18 ct18), sl18⟩)
    (c18 : PySem.W.codeIn K cd18 "moved" = true)
    (k18 : PySem.W.keepIn K (.ref f18) = true)
    (a19 : PySem.W.nsIn K mainGlobals "mark_moved" = some (some (.ref f19)))
    (l19 : K.lookup f19 = some ⟨oc19, od19, .func (PySem.W.fnOf "mark_moved" "mark_moved" (defArgs s_mark_moved) (defBody s_mark_moved) (defScope s_mark_moved) .none kV19 dc19 pm19 an19 cd19 ct19), sl19⟩)
    (c19 : PySem.W.codeIn K cd19 "mark_moved" = true)
    (k19 : PySem.W.keepIn K (.ref f19) = true)
    (a20 : PySem.W.findIn K (.ref C_Seat) "make_in" = some (some (.ref f20)))
    (i20 : PySem.W.isFn K (.ref f20) = true)
    (l20 : K.lookup f20 = some ⟨oc20, od20, .func (PySem.W.fnOf "make_in" "Seat.make_in" (defArgs s_Seat_make_in) (defBody s_Seat_make_in) (defScope s_Seat_make_in) .none kV20 dc20 pm20 an20 cd20 ct20), sl20⟩)
    (c20 : PySem.W.codeIn K cd20 "Seat.make_in" = true)
    (k20 : PySem.W.keepIn K (.ref f20) = true)
    (a21 : PySem.W.findIn K (.ref C_Yard) "make_at" = some (some (.ref f21)))
    (i21 : PySem.W.isFn K (.ref f21) = true)
    (l21 : K.lookup f21 = some ⟨oc21, od21, .func (PySem.W.fnOf "make_at" "Yard.make_at" (defArgs s_Yard_make_at) (defBody s_Yard_make_at) (defScope s_Yard_make_at) .none kV21 dc21 pm21 an21 cd21 ct21), sl21⟩)
    (c21 : PySem.W.codeIn K cd21 "Yard.make_at" = true)
    (k21 : PySem.W.keepIn K (.ref f21) = true)
    (a22 : PySem.W.nsIn K mainGlobals "is_whole" = some (some (.ref f22)))
    (l22 : K.lookup f22 = some ⟨oc22, od22, .func (PySem.W.fnOf "is_whole" "is_whole" (defArgs s_is_whole) (defBody s_is_whole) (defScope s_is_whole) .none kV22 dc22 pm22 an22 cd22 ct22), sl22⟩)
    (c22 : PySem.W.codeIn K cd22 "is_whole" = true)
    (k22 : PySem.W.keepIn K (.ref f22) = true)
    (a23 : PySem.W.nsIn K mainGlobals "is_letter" = some (some (.ref f23)))
    (l23 : K.lookup f23 = some ⟨oc23, od23, .func (PySem.W.fnOf "is_letter" "is_letter" (defArgs s_is_letter) (defBody s_is_letter) (defScope s_is_letter) .none kV23 dc23 pm23 an23 cd23 ct23), sl23⟩)
    (c23 : PySem.W.codeIn K cd23 "is_letter" = true)
    (k23 : PySem.W.keepIn K (.ref f23) = true)
    (a24 : PySem.W.nsIn K mainGlobals "moved_behind" = some (some (.ref f24)))
    (l24 : K.lookup f24 = some ⟨oc24, od24, .func (PySem.W.fnOf "moved_behind" "moved_behind" (defArgs s_moved_behind) (defBody s_moved_behind) (defScope s_moved_behind) .none kV24 dc24 pm24 an24 cd24 ct24), sl24⟩)
    (c24 : PySem.W.codeIn K cd24 "moved_behind" = true)
    (k24 : PySem.W.keepIn K (.ref f24) = true)
    (a25 : PySem.W.nsIn K mainGlobals "rows_moved" = some (some (.ref f25)))
    (l25 : K.lookup f25 = some ⟨oc25, od25, .func (PySem.W.fnOf "rows_moved" "rows_moved" (defArgs s_rows_moved) (defBody s_rows_moved) (defScope s_rows_moved) .none kV25 dc25 pm25 an25 cd25 ct25), sl25⟩)
    (c25 : PySem.W.codeIn K cd25 "rows_moved" = true)
    (k25 : PySem.W.keepIn K (.ref f25) = true)
    (a26 : PySem.W.findIn K (.ref C_Seat) "past" = some (some (.ref f26)))
    (i26 : PySem.W.isFn K (.ref f26) = true)
    (l26 : K.lookup f26 = some ⟨oc26, od26, .func (PySem.W.fnOf "past" "Seat.past" (defArgs s_Seat_past) (defBody s_Seat_past) (defScope s_Seat_past) .none kV26 dc26 pm26 an26 cd26 ct26), sl26⟩)
    (c26 : PySem.W.codeIn K cd26 "Seat.past" = true)
    (k26 : PySem.W.keepIn K (.ref f26) = true)
    (a27 : PySem.W.findIn K (.ref C_Seat) "take_in" = some (some (.ref f27)))
    (i27 : PySem.W.isFn K (.ref f27) = true)
    (l27 : K.lookup f27 = some ⟨oc27, od27, .func (PySem.W.fnOf "take_in" "Seat.take_in" (defArgs s_Seat_take_in) (defBody s_Seat_take_in) (defScope s_Seat_take_in) .none kV27 dc27 pm27 an27 cd27 ct27), sl27⟩)
    (c27 : PySem.W.codeIn K cd27 "Seat.take_in" = true)
    (k27 : PySem.W.keepIn K (.ref f27) = true)
    (a28 : PySem.W.findIn K (.ref C_Yard) "come_to" = some (some (.ref f28)))
    (i28 : PySem.W.isFn K (.ref f28) = true)
    (l28 : K.lookup f28 = some ⟨oc28, od28, .func (PySem.W.fnOf "come_to" "Yard.come_to" (defArgs s_Yard_come_to) (defBody s_Yard_come_to) (defScope s_Yard_come_to) .none kV28 dc28 pm28 an28 cd28 ct28), sl28⟩)
    (c28 : PySem.W.codeIn K cd28 "Yard.come_to" = true)
    (k28 : PySem.W.keepIn K (.ref f28) = true)
    (a29 : PySem.W.nsIn K mainGlobals "lines_behind" = some (some (.ref f29)))
    (l29 : K.lookup f29 = some ⟨oc29, od29, .func (PySem.W.fnOf "lines_behind" "lines_behind" (defArgs s_lines_behind) (defBody s_lines_behind) (defScope s_lines_behind) .none kV29 dc29 pm29 an29 cd29 ct29), sl29⟩)
    (c29 : PySem.W.codeIn K cd29 "lines_behind" = true)
    (k29 : PySem.W.keepIn K (.ref f29) = true)
    (a30 : PySem.W.nsIn K mainGlobals "is_story" = some (some (.ref f30)))
    (l30 : K.lookup f30 = some ⟨oc30, od30, .func (PySem.W.fnOf "is_story" "is_story" (defArgs s_is_story) (defBody s_is_story) (defScope s_is_story) .none kV30 dc30 pm30 an30 cd30 ct30), sl30⟩)
    (c30 : PySem.W.codeIn K cd30 "is_story" = true)
    (k30 : PySem.W.keepIn K (.ref f30) = true)
    (a31 : PySem.W.nsIn K mainGlobals "plain_story" = some (some (.ref f31)))
    (l31 : K.lookup f31 = some ⟨oc31, od31, .func (PySem.W.fnOf "plain_story" "plain_story" (defArgs s_plain_story) (defBody s_plain_story) (defScope s_plain_story) .none kV31 dc31 pm31 an31 cd31 ct31), sl31⟩)
    (c31 : PySem.W.codeIn K cd31 "plain_story" = true)
    (k31 : PySem.W.keepIn K (.ref f31) = true)
    (a32 : PySem.W.nsIn K mainGlobals "lines_of" = some (some (.ref f32)))
    (l32 : K.lookup f32 = some ⟨oc32, od32, .func (PySem.W.fnOf "lines_of" "lines_of" (defArgs s_lines_of) (defBody s_lines_of) (defScope s_lines_of) .none kV32 dc32 pm32 an32 cd32 ct32), sl32⟩)
    (c32 : PySem.W.codeIn K cd32 "lines_of" = true)
    (k32 : PySem.W.keepIn K (.ref f32) = true)
    (a33 : PySem.W.nsIn K mainGlobals "_law_own" = some (some (.ref f33)))
    (l33 : K.lookup f33 = some ⟨oc33, od33, .func (PySem.W.fnOf "_law_own" "_law_own" (defArgs s__law_own) (defBody s__law_own) (defScope s__law_own) .none kV33 dc33 pm33 an33 cd33 ct33), sl33⟩)
    (c33 : PySem.W.codeIn K cd33 "_law_own" = true)
    (k33 : PySem.W.keepIn K (.ref f33) = true)
    (a34 : PySem.W.nsIn K mainGlobals "_law_may_change" = some (some (.ref f34)))
    (l34 : K.lookup f34 = some ⟨oc34, od34, .func (PySem.W.fnOf "_law_may_change" "_law_may_change" (defArgs s__law_may_change) (defBody s__law_may_change) (defScope s__law_may_change) .none kV34 dc34 pm34 an34 cd34 ct34), sl34⟩)
    (c34 : PySem.W.codeIn K cd34 "_law_may_change" = true)
    (k34 : PySem.W.keepIn K (.ref f34) = true)
    (a35 : PySem.W.nsIn K mainGlobals "_law_right" = some (some (.ref f35)))
    (l35 : K.lookup f35 = some ⟨oc35, od35, .func (PySem.W.fnOf "_law_right" "_law_right" (defArgs s__law_right) (defBody s__law_right) (defScope s__law_right) .none kV35 dc35 pm35 an35 cd35 ct35), sl35⟩)
    (c35 : PySem.W.codeIn K cd35 "_law_right" = true)
    (k35 : PySem.W.keepIn K (.ref f35) = true)
    (a36 : PySem.W.nsIn K mainGlobals "_law_seats" = some (some (.ref f36)))
    (l36 : K.lookup f36 = some ⟨oc36, od36, .func (PySem.W.fnOf "_law_seats" "_law_seats" (defArgs s__law_seats) (defBody s__law_seats) (defScope s__law_seats) .none kV36 dc36 pm36 an36 cd36 ct36), sl36⟩)
    (c36 : PySem.W.codeIn K cd36 "_law_seats" = true)
    (k36 : PySem.W.keepIn K (.ref f36) = true)
    (a37 : PySem.W.nsIn K mainGlobals "_law_behind" = some (some (.ref f37)))
    (l37 : K.lookup f37 = some ⟨oc37, od37, .func (PySem.W.fnOf "_law_behind" "_law_behind" (defArgs s__law_behind) (defBody s__law_behind) (defScope s__law_behind) .none kV37 dc37 pm37 an37 cd37 ct37), sl37⟩)
    (c37 : PySem.W.codeIn K cd37 "_law_behind" = true)
    (k37 : PySem.W.keepIn K (.ref f37) = true)
    (a38 : PySem.W.nsIn K mainGlobals "_law_after" = some (some (.ref f38)))
    (l38 : K.lookup f38 = some ⟨oc38, od38, .func (PySem.W.fnOf "_law_after" "_law_after" (defArgs s__law_after) (defBody s__law_after) (defScope s__law_after) .none kV38 dc38 pm38 an38 cd38 ct38), sl38⟩)
    (c38 : PySem.W.codeIn K cd38 "_law_after" = true)
    (k38 : PySem.W.keepIn K (.ref f38) = true)
    (a39 : PySem.W.nsIn K mainGlobals "_law_come" = some (some (.ref f39)))
    (l39 : K.lookup f39 = some ⟨oc39, od39, .func (PySem.W.fnOf "_law_come" "_law_come" (defArgs s__law_come) (defBody s__law_come) (defScope s__law_come) .none kV39 dc39 pm39 an39 cd39 ct39), sl39⟩)
    (c39 : PySem.W.codeIn K cd39 "_law_come" = true)
    (k39 : PySem.W.keepIn K (.ref f39) = true)
    (a40 : PySem.W.nsIn K mainGlobals "_law_deed" = some (some (.ref f40)))
    (l40 : K.lookup f40 = some ⟨oc40, od40, .func (PySem.W.fnOf "_law_deed" "_law_deed" (defArgs s__law_deed) (defBody s__law_deed) (defScope s__law_deed) .none kV40 dc40 pm40 an40 cd40 ct40), sl40⟩)
    (c40 : PySem.W.codeIn K cd40 "_law_deed" = true)
    (k40 : PySem.W.keepIn K (.ref f40) = true)
    (a41 : PySem.W.nsIn K mainGlobals "_law_make" = some (some (.ref f41)))
    (l41 : K.lookup f41 = some ⟨oc41, od41, .func (PySem.W.fnOf "_law_make" "_law_make" (defArgs s__law_make) (defBody s__law_make) (defScope s__law_make) .none kV41 dc41 pm41 an41 cd41 ct41), sl41⟩)
    (c41 : PySem.W.codeIn K cd41 "_law_make" = true)
    (k41 : PySem.W.keepIn K (.ref f41) = true)
    (a42 : PySem.W.nsIn K mainGlobals "_law_story" = some (some (.ref f42)))
    (l42 : K.lookup f42 = some ⟨oc42, od42, .func (PySem.W.fnOf "_law_story" "_law_story" (defArgs s__law_story) (defBody s__law_story) (defScope s__law_story) .none kV42 dc42 pm42 an42 cd42 ct42), sl42⟩)
    (c42 : PySem.W.codeIn K cd42 "_law_story" = true)
    (k42 : PySem.W.keepIn K (.ref f42) = true)
    (a43 : PySem.W.nsIn K mainGlobals "law" = some (some (.ref f43)))
    (l43 : K.lookup f43 = some ⟨oc43, od43, .func (PySem.W.fnOf "law" "law" (defArgs s_law) (defBody s_law) (defScope s_law) .none kV43 dc43 pm43 an43 cd43 ct43), sl43⟩)
    (c43 : PySem.W.codeIn K cd43 "law" = true)
    (k43 : PySem.W.keepIn K (.ref f43) = true)
    (pg_Seat : PySem.W.plainGet K C_Seat Str.empty = true)
    (hd_Seat : PySem.W.hasDictIn K C_Seat = true)
    (po_Seat : PySem.W.plainOver K C_Seat = true)
    (sa_Seat : PySem.W.findIn K (.ref C_Seat) "__setattr__" = some (some (.builtin "object.__setattr__")))
    (pg_Yard : PySem.W.plainGet K C_Yard Str.empty = true)
    (hd_Yard : PySem.W.hasDictIn K C_Yard = true)
    (po_Yard : PySem.W.plainOver K C_Yard = true)
    (sa_Yard : PySem.W.findIn K (.ref C_Yard) "__setattr__" = some (some (.builtin "object.__setattr__")))
    (mk_Seat : PySem.W.makesIn K C_Seat = true)
    (kc_Seat : PySem.W.keepIn K (.ref C_Seat) = true)
    (mk_Yard : PySem.W.makesIn K C_Yard = true)
    (kc_Yard : PySem.W.keepIn K (.ref C_Yard) = true)
    (nf_Seat_ahead : PySem.W.findIn K (.ref C_Seat) "ahead" = some none)
    (nf_Seat_far_mark : PySem.W.findIn K (.ref C_Seat) "far_mark" = some none)
    (nf_Seat_heard : PySem.W.findIn K (.ref C_Seat) "heard" = some none)
    (nf_Seat_many_made : PySem.W.findIn K (.ref C_Seat) "many_made" = some none)
    (nf_Seat_many_taken : PySem.W.findIn K (.ref C_Seat) "many_taken" = some none)
    (nf_Seat_own_mark : PySem.W.findIn K (.ref C_Seat) "own_mark" = some none)
    (nf_Seat_text : PySem.W.findIn K (.ref C_Seat) "text" = some none)
    (nf_Seat_waiting : PySem.W.findIn K (.ref C_Seat) "waiting" = some none)
    (nf_Yard_roads : PySem.W.findIn K (.ref C_Yard) "roads" = some none)
    (nf_Yard_seats : PySem.W.findIn K (.ref C_Yard) "seats" = some none)
    (z_abs : PySem.W.nsIn K mainGlobals "abs" = some none)
    (z_bool : PySem.W.nsIn K mainGlobals "bool" = some none)
    (z_enumerate : PySem.W.nsIn K mainGlobals "enumerate" = some none)
    (z_int : PySem.W.nsIn K mainGlobals "int" = some none)
    (z_isinstance : PySem.W.nsIn K mainGlobals "isinstance" = some none)
    (z_len : PySem.W.nsIn K mainGlobals "len" = some none)
    (z_list : PySem.W.nsIn K mainGlobals "list" = some none)
    (z_min : PySem.W.nsIn K mainGlobals "min" = some none)
    (z_range : PySem.W.nsIn K mainGlobals "range" = some none)
    (z_str : PySem.W.nsIn K mainGlobals "str" = some none)
    (z_tuple : PySem.W.nsIn K mainGlobals "tuple" = some none)
    (q_PARTS : PySem.W.nsIn K mainGlobals "PARTS" = some (some (.ref C_PARTS)))
    (dl_PARTS : (K.lookup C_PARTS) = some ⟨.type "dict", none, .dict es_PARTS n_PARTS, #[]⟩)
    (dk_PARTS : PySem.W.KeysLit w.params es_PARTS.toList)
    (ds_PARTS : (C_PARTS == sysModules) = false)
    (di_PARTS : KIs es_PARTS.toList [("put", 3), ("cut", 2), ("none", 1)])
    (y_SIGNS : PySem.W.nsIn K mainGlobals "SIGNS" = some (some (Value.str "abcdefghijklmnopqrstuvwxyz " t_SIGNS)))
    : ∃ fd : FuncData, (∀ (s : Shared) (v : Value), BindsTo s fd ⟨[v], []⟩ [("script", v)]) ∧ ∀ base : Heap, K.In base → base.Ns mainGlobals mg → OkG l.prog w K mg base CX0 11 fa fd ["script"] (sp_law K) := by
  have e := hfa.symm.trans (PySem.W.mg_of X G a43)
  cases e
  have e_Seat := gloA_of q_Seat
  have g_Seat := PySem.W.mg_of X G q_Seat
  clear q_Seat
  subst e_Seat
  have e_Yard := gloA_of q_Yard
  have g_Yard := PySem.W.mg_of X G q_Yard
  clear q_Yard
  subst e_Yard
  have e_PARTS := gloA_of q_PARTS
  have g_PARTS := PySem.W.mg_of X G q_PARTS
  clear q_PARTS
  subst e_PARTS
  have n_abs := PySem.W.mg_none_of X G z_abs
  have n_bool := PySem.W.mg_none_of X G z_bool
  have n_enumerate := PySem.W.mg_none_of X G z_enumerate
  have n_int := PySem.W.mg_none_of X G z_int
  have n_isinstance := PySem.W.mg_none_of X G z_isinstance
  have n_len := PySem.W.mg_none_of X G z_len
  have n_list := PySem.W.mg_none_of X G z_list
  have n_min := PySem.W.mg_none_of X G z_min
  have n_range := PySem.W.mg_none_of X G z_range
  have n_str := PySem.W.mg_none_of X G z_str
  have n_tuple := PySem.W.mg_none_of X G z_tuple
  have D_PARTS : KInts K w (gloA K "PARTS") [("put", 3), ("cut", 2), ("none", 1)] := ⟨_, _, dl_PARTS, dk_PARTS, ds_PARTS, di_PARTS⟩
  have g_SIGNS := PySem.W.mg_of X G y_SIGNS
  have cl_Seat : Cls K (gloA K "Seat") := ⟨pg_Seat, hd_Seat, po_Seat, sa_Seat⟩
  have cl_Yard : Cls K (gloA K "Yard") := ⟨pg_Yard, hd_Yard, po_Yard, sa_Yard⟩
  have na_Seat_ahead : NoAttr K (gloA K "Seat") "ahead" := nf_Seat_ahead
  have na_Seat_far_mark : NoAttr K (gloA K "Seat") "far_mark" := nf_Seat_far_mark
  have na_Seat_heard : NoAttr K (gloA K "Seat") "heard" := nf_Seat_heard
  have na_Seat_many_made : NoAttr K (gloA K "Seat") "many_made" := nf_Seat_many_made
  have na_Seat_many_taken : NoAttr K (gloA K "Seat") "many_taken" := nf_Seat_many_taken
  have na_Seat_own_mark : NoAttr K (gloA K "Seat") "own_mark" := nf_Seat_own_mark
  have na_Seat_text : NoAttr K (gloA K "Seat") "text" := nf_Seat_text
  have na_Seat_waiting : NoAttr K (gloA K "Seat") "waiting" := nf_Seat_waiting
  have na_Yard_roads : NoAttr K (gloA K "Yard") "roads" := nf_Yard_roads
  have na_Yard_seats : NoAttr K (gloA K "Yard") "seats" := nf_Yard_seats
  have F0 := fun_mk (st := s__law_draws) l0 c0 k0
  have b__law_draws := F0.binds (ps := ["script"]) fun _ _ _ _ _ _ us hl => match us, hl with | [_], _ => rfl
  have g__law_draws := PySem.W.mg_of X G a0
  have k__law_draws := k0
  have F1 := fun_mk (st := s__law_take) l1 c1 k1
  have b__law_take := F1.binds (ps := ["draws", "many"]) fun _ _ _ _ _ _ us hl => match us, hl with | [_, _], _ => rfl
  have g__law_take := PySem.W.mg_of X G a1
  have k__law_take := k1
  have F2 := fun_mk (st := s__law_sign) l2 c2 k2
  have b__law_sign := F2.binds (ps := ["draws"]) fun _ _ _ _ _ _ us hl => match us, hl with | [_], _ => rfl
  have g__law_sign := PySem.W.mg_of X G a2
  have k__law_sign := k2
  have F3 := fun_mk (st := s__law_line) l3 c3 k3
  have b__law_line := F3.binds (ps := ["draws"]) fun _ _ _ _ _ _ us hl => match us, hl with | [_], _ => rfl
  have g__law_line := PySem.W.mg_of X G a3
  have k__law_line := k3
  have F4 := fun_mk (st := s_Seat___init__) l4 c4 k4
  have b_Seat___init__ := F4.binds (ps := ["self", "number", "line"]) fun _ _ _ _ _ _ us hl => match us, hl with | [_, _, _], _ => rfl
  have M_Seat : Mk K (gloA K "Seat") f4 := ⟨mk_Seat, a4, i4, kc_Seat⟩
  have F5 := fun_mk (st := s_Yard___init__) l5 c5 k5
  have b_Yard___init__ := F5.binds (ps := ["self", "line"]) fun _ _ _ _ _ _ us hl => match us, hl with | [_, _], _ => rfl
  have M_Yard : Mk K (gloA K "Yard") f5 := ⟨mk_Yard, a5, i5, kc_Yard⟩
  have F6 := fun_mk (st := s_is_either) l6 c6 k6
  have b_is_either := F6.binds (ps := ["thing"]) fun _ _ _ _ _ _ us hl => match us, hl with | [_], _ => rfl
  have g_is_either := PySem.W.mg_of X G a6
  have k_is_either := k6
  have F7 := fun_mk (st := s_is_place) l7 c7 k7
  have b_is_place := F7.binds (ps := ["thing"]) fun _ _ _ _ _ _ us hl => match us, hl with | [_], _ => rfl
  have g_is_place := PySem.W.mg_of X G a7
  have k_is_place := k7
  have F8 := fun_mk (st := s_is_sign) l8 c8 k8
  have b_is_sign := F8.binds (ps := ["thing"]) fun _ _ _ _ _ _ us hl => match us, hl with | [_], _ => rfl
  have g_is_sign := PySem.W.mg_of X G a8
  have k_is_sign := k8
  have F9 := fun_mk (st := s_is_deed) l9 c9 k9
  have b_is_deed := F9.binds (ps := ["thing"]) fun _ _ _ _ _ _ us hl => match us, hl with | [_], _ => rfl
  have g_is_deed := PySem.W.mg_of X G a9
  have k_is_deed := k9
  have F10 := fun_mk (st := s_can_be_done) l10 c10 k10
  have b_can_be_done := F10.binds (ps := ["line", "deed"]) fun _ _ _ _ _ _ us hl => match us, hl with | [_, _], _ => rfl
  have g_can_be_done := PySem.W.mg_of X G a10
  have k_can_be_done := k10
  have F11 := fun_mk (st := s_is_seat) l11 c11 k11
  have b_is_seat := F11.binds (ps := ["thing"]) fun _ _ _ _ _ _ us hl => match us, hl with | [_], _ => rfl
  have g_is_seat := PySem.W.mg_of X G a11
  have k_is_seat := k11
  have F12 := fun_mk (st := s_need_seat) l12 c12 k12
  have b_need_seat := F12.binds (ps := ["thing"]) fun _ _ _ _ _ _ us hl => match us, hl with | [_], _ => rfl
  have g_need_seat := PySem.W.mg_of X G a12
  have k_need_seat := k12
  have F13 := fun_mk (st := s_Seat_shown) l13 c13 k13
  have b_Seat_shown := F13.binds (ps := ["self"]) fun _ _ _ _ _ _ us hl => match us, hl with | [_], _ => rfl
  have m_Seat_shown : Meth K (gloA K "Seat") "shown" f13 := ⟨a13, i13, k13⟩
  have F14 := fun_mk (st := s_Yard_shown_at) l14 c14 k14
  have b_Yard_shown_at := F14.binds (ps := ["self", "seat"]) fun _ _ _ _ _ _ us hl => match us, hl with | [_, _], _ => rfl
  have m_Yard_shown_at : Meth K (gloA K "Yard") "shown_at" f14 := ⟨a14, i14, k14⟩
  have F15 := fun_mk (st := s_Yard_road_to) l15 c15 k15
  have b_Yard_road_to := F15.binds (ps := ["self", "seat"]) fun _ _ _ _ _ _ us hl => match us, hl with | [_, _], _ => rfl
  have m_Yard_road_to : Meth K (gloA K "Yard") "road_to" f15 := ⟨a15, i15, k15⟩
  have F16 := fun_mk (st := s_may_be) l16 c16 k16
  have b_may_be := F16.binds (ps := ["yard", "event"]) fun _ _ _ _ _ _ us hl => match us, hl with | [_, _], _ => rfl
  have g_may_be := PySem.W.mg_of X G a16
  have k_may_be := k16
  have F17 := fun_mk (st := s_done) l17 c17 k17
  have b_done := F17.binds (ps := ["line", "deed"]) fun _ _ _ _ _ _ us hl => match us, hl with | [_, _], _ => rfl
  have g_done := PySem.W.mg_of X G a17
  have k_done := k17
  have F18 := fun_mk (st := s_moved) l18 c18 k18
  have b_moved := F18.binds (ps := ["deed", "other", "first"]) fun _ _ _ _ _ _ us hl => match us, hl with | [_, _, _], _ => rfl
  have g_moved := PySem.W.mg_of X G a18
  have k_moved := k18
  have F19 := fun_mk (st := s_mark_moved) l19 c19 k19
  have b_mark_moved := F19.binds (ps := ["place", "deed", "first"]) fun _ _ _ _ _ _ us hl => match us, hl with | [_, _, _], _ => rfl
  have g_mark_moved := PySem.W.mg_of X G a19
  have k_mark_moved := k19
  have F20 := fun_mk (st := s_Seat_make_in) l20 c20 k20
  have b_Seat_make_in := F20.binds (ps := ["self", "deed"]) fun _ _ _ _ _ _ us hl => match us, hl with | [_, _], _ => rfl
  have m_Seat_make_in : Meth K (gloA K "Seat") "make_in" f20 := ⟨a20, i20, k20⟩
  have F21 := fun_mk (st := s_Yard_make_at) l21 c21 k21
  have b_Yard_make_at := F21.binds (ps := ["self", "seat", "deed"]) fun _ _ _ _ _ _ us hl => match us, hl with | [_, _, _], _ => rfl
  have m_Yard_make_at : Meth K (gloA K "Yard") "make_at" f21 := ⟨a21, i21, k21⟩
  have F22 := fun_mk (st := s_is_whole) l22 c22 k22
  have b_is_whole := F22.binds (ps := ["thing"]) fun _ _ _ _ _ _ us hl => match us, hl with | [_], _ => rfl
  have g_is_whole := PySem.W.mg_of X G a22
  have k_is_whole := k22
  have F23 := fun_mk (st := s_is_letter) l23 c23 k23
  have b_is_letter := F23.binds (ps := ["thing"]) fun _ _ _ _ _ _ us hl => match us, hl with | [_], _ => rfl
  have g_is_letter := PySem.W.mg_of X G a23
  have k_is_letter := k23
  have F24 := fun_mk (st := s_moved_behind) l24 c24 k24
  have b_moved_behind := F24.binds (ps := ["deed", "row", "first"]) fun _ _ _ _ _ _ us hl => match us, hl with | [_, _, _], _ => rfl
  have g_moved_behind := PySem.W.mg_of X G a24
  have k_moved_behind := k24
  have F25 := fun_mk (st := s_rows_moved) l25 c25 k25
  have b_rows_moved := F25.binds (ps := ["one", "other"]) fun _ _ _ _ _ _ us hl => match us, hl with | [_, _], _ => rfl
  have g_rows_moved := PySem.W.mg_of X G a25
  have k_rows_moved := k25
  have F26 := fun_mk (st := s_Seat_past) l26 c26 k26
  have b_Seat_past := F26.binds (ps := ["self", "deed", "waiting"]) fun _ _ _ _ _ _ us hl => match us, hl with | [_, _, _], _ => rfl
  have m_Seat_past : Meth K (gloA K "Seat") "past" f26 := ⟨a26, i26, k26⟩
  have F27 := fun_mk (st := s_Seat_take_in) l27 c27 k27
  have b_Seat_take_in := F27.binds (ps := ["self", "letter"]) fun _ _ _ _ _ _ us hl => match us, hl with | [_, _], _ => rfl
  have m_Seat_take_in : Meth K (gloA K "Seat") "take_in" f27 := ⟨a27, i27, k27⟩
  have F28 := fun_mk (st := s_Yard_come_to) l28 c28 k28
  have b_Yard_come_to := F28.binds (ps := ["self", "seat"]) fun _ _ _ _ _ _ us hl => match us, hl with | [_, _], _ => rfl
  have m_Yard_come_to : Meth K (gloA K "Yard") "come_to" f28 := ⟨a28, i28, k28⟩
  have F29 := fun_mk (st := s_lines_behind) l29 c29 k29
  have b_lines_behind := F29.binds (ps := ["line", "thing"]) fun _ _ _ _ _ _ us hl => match us, hl with | [_, _], _ => rfl
  have g_lines_behind := PySem.W.mg_of X G a29
  have k_lines_behind := k29
  have F30 := fun_mk (st := s_is_story) l30 c30 k30
  have b_is_story := F30.binds (ps := ["line", "thing"]) fun _ _ _ _ _ _ us hl => match us, hl with | [_, _], _ => rfl
  have g_is_story := PySem.W.mg_of X G a30
  have k_is_story := k30
  have F31 := fun_mk (st := s_plain_story) l31 c31 k31
  have b_plain_story := F31.binds (ps := ["line", "story"]) fun _ _ _ _ _ _ us hl => match us, hl with | [_, _], _ => rfl
  have g_plain_story := PySem.W.mg_of X G a31
  have k_plain_story := k31
  have F32 := fun_mk (st := s_lines_of) l32 c32 k32
  have b_lines_of := F32.binds (ps := ["line", "story", "seat"]) fun _ _ _ _ _ _ us hl => match us, hl with | [_, _, _], _ => rfl
  have g_lines_of := PySem.W.mg_of X G a32
  have k_lines_of := k32
  have F33 := fun_mk (st := s__law_own) l33 c33 k33
  have b__law_own := F33.binds (ps := ["line", "story", "at"]) fun _ _ _ _ _ _ us hl => match us, hl with | [_, _, _], _ => rfl
  have g__law_own := PySem.W.mg_of X G a33
  have k__law_own := k33
  have F34 := fun_mk (st := s__law_may_change) l34 c34 k34
  have b__law_may_change := F34.binds (ps := ["story", "k"]) fun _ _ _ _ _ _ us hl => match us, hl with | [_, _], _ => rfl
  have g__law_may_change := PySem.W.mg_of X G a34
  have k__law_may_change := k34
  have F35 := fun_mk (st := s__law_right) l35 c35 k35
  have b__law_right := F35.binds (ps := ["line", "story"]) fun _ _ _ _ _ _ us hl => match us, hl with | [_, _], _ => rfl
  have g__law_right := PySem.W.mg_of X G a35
  have k__law_right := k35
  have F36 := fun_mk (st := s__law_seats) l36 c36 k36
  have b__law_seats := F36.binds (ps := ["line"]) fun _ _ _ _ _ _ us hl => match us, hl with | [_], _ => rfl
  have g__law_seats := PySem.W.mg_of X G a36
  have k__law_seats := k36
  have F37 := fun_mk (st := s__law_behind) l37 c37 k37
  have b__law_behind := F37.binds (ps := ["deed", "other", "ahead"]) fun _ _ _ _ _ _ us hl => match us, hl with | [_, _, _], _ => rfl
  have g__law_behind := PySem.W.mg_of X G a37
  have k__law_behind := k37
  have F38 := fun_mk (st := s__law_after) l38 c38 k38
  have b__law_after := F38.binds (ps := ["line", "deed"]) fun _ _ _ _ _ _ us hl => match us, hl with | [_, _], _ => rfl
  have g__law_after := PySem.W.mg_of X G a38
  have k__law_after := k38
  have F39 := fun_mk (st := s__law_come) l39 c39 k39
  have b__law_come := F39.binds (ps := ["seats", "at", "letter"]) fun _ _ _ _ _ _ us hl => match us, hl with | [_, _, _], _ => rfl
  have g__law_come := PySem.W.mg_of X G a39
  have k__law_come := k39
  have F40 := fun_mk (st := s__law_deed) l40 c40 k40
  have b__law_deed := F40.binds (ps := ["draws", "line"]) fun _ _ _ _ _ _ us hl => match us, hl with | [_, _], _ => rfl
  have g__law_deed := PySem.W.mg_of X G a40
  have k__law_deed := k40
  have F41 := fun_mk (st := s__law_make) l41 c41 k41
  have b__law_make := F41.binds (ps := ["seats", "at", "deed"]) fun _ _ _ _ _ _ us hl => match us, hl with | [_, _, _], _ => rfl
  have g__law_make := PySem.W.mg_of X G a41
  have k__law_make := k41
  have F42 := fun_mk (st := s__law_story) l42 c42 k42
  have b__law_story := F42.binds (ps := ["draws", "line", "most"]) fun _ _ _ _ _ _ us hl => match us, hl with | [_, _, _], _ => rfl
  have g__law_story := PySem.W.mg_of X G a42
  have k__law_story := k42
  have F43 := fun_mk (st := s_law) l43 c43 k43
  refine ⟨PySem.W.fnOf "law" "law" (defArgs s_law) (defBody s_law) (defScope s_law) .none kV43 dc43 pm43 an43 cd43 ct43, fun s v => .of_eq rfl, fun base _ _ => ?_⟩
  have G__law_draws := ok__law_draws (P := l.prog) (w := w) (mg := mg) (base := base) F0 n_abs n_len n_min n_range
  have G__law_take := ok__law_take (P := l.prog) (w := w) (mg := mg) (base := base) F1
  have G__law_sign := ok__law_sign (P := l.prog) (w := w) (mg := mg) (base := base) F2 G__law_take g__law_take k__law_take b__law_take n_len
  have G__law_line := ok__law_line (P := l.prog) (w := w) (mg := mg) (base := base) F3 G__law_sign g__law_sign k__law_sign b__law_sign G__law_take g__law_take k__law_take b__law_take n_range
  have G_Seat___init__ := ok_Seat___init__ (P := l.prog) (w := w) (mg := mg) (base := base) F4 cl_Seat na_Seat_ahead na_Seat_text na_Seat_many_made na_Seat_many_taken na_Seat_heard na_Seat_waiting na_Seat_own_mark na_Seat_far_mark n_len
  have G_Yard___init__ := ok_Yard___init__ (P := l.prog) (w := w) (mg := mg) (base := base) F5 G_Seat___init__ M_Seat b_Seat___init__ cl_Seat cl_Yard g_Seat na_Yard_seats na_Yard_roads n_range
  have G_is_either := ok_is_either (P := l.prog) (w := w) (mg := mg) (base := base) F6 n_bool n_int n_isinstance
  have G_is_place := ok_is_place (P := l.prog) (w := w) (mg := mg) (base := base) F7 n_bool n_int n_isinstance
  have G_is_sign := ok_is_sign (P := l.prog) (w := w) (mg := mg) (base := base) F8 g_SIGNS n_isinstance n_len n_str
  have G_is_deed := ok_is_deed (P := l.prog) (w := w) (mg := mg) (base := base) F9 G_is_place g_is_place k_is_place b_is_place G_is_sign g_is_sign k_is_sign b_is_sign g_PARTS D_PARTS n_isinstance n_len n_str n_tuple
  have G_can_be_done := ok_can_be_done (P := l.prog) (w := w) (mg := mg) (base := base) F10 G_is_deed g_is_deed k_is_deed b_is_deed n_len
  have G_is_seat := ok_is_seat (P := l.prog) (w := w) (mg := mg) (base := base) F11 n_bool n_int n_isinstance
  have G_need_seat := ok_need_seat (P := l.prog) (w := w) (mg := mg) (base := base) F12 G_is_seat g_is_seat k_is_seat b_is_seat
  have G_Seat_shown := ok_Seat_shown (P := l.prog) (w := w) (mg := mg) (base := base) F13 cl_Seat na_Seat_text
  have G_Yard_shown_at := ok_Yard_shown_at (P := l.prog) (w := w) (mg := mg) (base := base) F14 G_Seat_shown m_Seat_shown b_Seat_shown G_need_seat g_need_seat k_need_seat b_need_seat cl_Seat cl_Yard na_Yard_seats
  have G_Yard_road_to := ok_Yard_road_to (P := l.prog) (w := w) (mg := mg) (base := base) F15 G_need_seat g_need_seat k_need_seat b_need_seat cl_Yard na_Yard_roads n_list
  have G_may_be := ok_may_be (P := l.prog) (w := w) (mg := mg) (base := base) F16 G_Yard_road_to m_Yard_road_to b_Yard_road_to G_Yard_shown_at m_Yard_shown_at b_Yard_shown_at G_can_be_done g_can_be_done k_can_be_done b_can_be_done G_is_either g_is_either k_is_either b_is_either cl_Yard n_isinstance n_len n_tuple
  have G_done := ok_done (P := l.prog) (w := w) (mg := mg) (base := base) F17 G_can_be_done g_can_be_done k_can_be_done b_can_be_done
  have G_moved := ok_moved (P := l.prog) (w := w) (mg := mg) (base := base) F18
  have G_mark_moved := ok_mark_moved (P := l.prog) (w := w) (mg := mg) (base := base) F19 G_moved g_moved k_moved b_moved
  have G_Seat_make_in := ok_Seat_make_in (P := l.prog) (w := w) (mg := mg) (base := base) F20 G_done g_done k_done b_done G_mark_moved g_mark_moved k_mark_moved b_mark_moved cl_Seat na_Seat_text na_Seat_own_mark na_Seat_far_mark na_Seat_ahead na_Seat_waiting na_Seat_many_made na_Seat_many_taken
  have G_Yard_make_at := ok_Yard_make_at (P := l.prog) (w := w) (mg := mg) (base := base) F21 G_Seat_make_in m_Seat_make_in b_Seat_make_in G_need_seat g_need_seat k_need_seat b_need_seat cl_Seat cl_Yard na_Yard_seats na_Yard_roads
  have G_is_whole := ok_is_whole (P := l.prog) (w := w) (mg := mg) (base := base) F22 n_bool n_int n_isinstance
  have G_is_letter := ok_is_letter (P := l.prog) (w := w) (mg := mg) (base := base) F23 G_is_deed g_is_deed k_is_deed b_is_deed G_is_whole g_is_whole k_is_whole b_is_whole n_isinstance n_len n_tuple
  have G_moved_behind := ok_moved_behind (P := l.prog) (w := w) (mg := mg) (base := base) F24 G_moved g_moved k_moved b_moved
  have G_rows_moved := ok_rows_moved (P := l.prog) (w := w) (mg := mg) (base := base) F25 G_moved_behind g_moved_behind k_moved_behind b_moved_behind n_list
  have G_Seat_past := ok_Seat_past (P := l.prog) (w := w) (mg := mg) (base := base) F26 G_rows_moved g_rows_moved k_rows_moved b_rows_moved cl_Seat na_Seat_ahead
  have G_Seat_take_in := ok_Seat_take_in (P := l.prog) (w := w) (mg := mg) (base := base) F27 G_Seat_past m_Seat_past b_Seat_past G_can_be_done g_can_be_done k_can_be_done b_can_be_done G_done g_done k_done b_done G_is_letter g_is_letter k_is_letter b_is_letter G_mark_moved g_mark_moved k_mark_moved b_mark_moved cl_Seat na_Seat_many_taken na_Seat_heard na_Seat_many_made na_Seat_waiting na_Seat_text na_Seat_own_mark na_Seat_ahead na_Seat_far_mark
  have G_Yard_come_to := ok_Yard_come_to (P := l.prog) (w := w) (mg := mg) (base := base) F28 G_Seat_take_in m_Seat_take_in b_Seat_take_in G_need_seat g_need_seat k_need_seat b_need_seat cl_Seat cl_Yard na_Yard_roads na_Yard_seats
  have G_lines_behind := ok_lines_behind (P := l.prog) (w := w) (mg := mg) (base := base) F29 G_Yard___init__ M_Yard b_Yard___init__ G_Yard_come_to m_Yard_come_to b_Yard_come_to G_Yard_make_at m_Yard_make_at b_Yard_make_at G_Yard_shown_at m_Yard_shown_at b_Yard_shown_at G_may_be g_may_be k_may_be b_may_be cl_Yard g_Yard n_isinstance n_list
  have G_is_story := ok_is_story (P := l.prog) (w := w) (mg := mg) (base := base) F30 G_lines_behind g_lines_behind k_lines_behind b_lines_behind
  have G_plain_story := ok_plain_story (P := l.prog) (w := w) (mg := mg) (base := base) F31 G_is_story g_is_story k_is_story b_is_story n_min n_range
  have G_lines_of := ok_lines_of (P := l.prog) (w := w) (mg := mg) (base := base) F32 G_lines_behind g_lines_behind k_lines_behind b_lines_behind
  have G__law_own := ok__law_own (P := l.prog) (w := w) (mg := mg) (base := base) F33 G_lines_of g_lines_of k_lines_of b_lines_of n_enumerate
  have G__law_may_change := ok__law_may_change (P := l.prog) (w := w) (mg := mg) (base := base) F34 n_int
  have G__law_right := ok__law_right (P := l.prog) (w := w) (mg := mg) (base := base) F35 G__law_may_change g__law_may_change k__law_may_change b__law_may_change G__law_own g__law_own k__law_own b__law_own G_is_story g_is_story k_is_story b_is_story G_plain_story g_plain_story k_plain_story b_plain_story n_len n_range
  have G__law_seats := ok__law_seats (P := l.prog) (w := w) (mg := mg) (base := base) F36
  have G__law_behind := ok__law_behind (P := l.prog) (w := w) (mg := mg) (base := base) F37 n_int
  have G__law_after := ok__law_after (P := l.prog) (w := w) (mg := mg) (base := base) F38 n_int
  have G__law_come := ok__law_come (P := l.prog) (w := w) (mg := mg) (base := base) F39 G__law_after g__law_after k__law_after b__law_after G__law_behind g__law_behind k__law_behind b__law_behind
  have G__law_deed := ok__law_deed (P := l.prog) (w := w) (mg := mg) (base := base) F40 G__law_sign g__law_sign k__law_sign b__law_sign G__law_take g__law_take k__law_take b__law_take n_len
  have G__law_make := ok__law_make (P := l.prog) (w := w) (mg := mg) (base := base) F41 G__law_after g__law_after k__law_after b__law_after
  have G__law_story := ok__law_story (P := l.prog) (w := w) (mg := mg) (base := base) F42 G__law_come g__law_come k__law_come b__law_come G__law_deed g__law_deed k__law_deed b__law_deed G__law_make g__law_make k__law_make b__law_make G__law_seats g__law_seats k__law_seats b__law_seats G__law_take g__law_take k__law_take b__law_take n_range
  exact ok_law (P := l.prog) (w := w) (mg := mg) (base := base) F43 G__law_draws g__law_draws k__law_draws b__law_draws G__law_line g__law_line k__law_line b__law_line G__law_right g__law_right k__law_right b__law_right G__law_story g__law_story k__law_story b__law_story G__law_take g__law_take k__law_take b__law_take
end FL
open PySem PySem.W PyProof.Rows in
set_option maxRecDepth 100000 in
set_option maxHeartbeats 0 in
theorem PySem.Challenge.cw_farline_k82_whole_plain_stories_tell_ali_holds : PySem.Challenge.rw_farline_k82_whole_plain_stories_tell_ali.Holds := by
  w_on; o_law; k_head; (case hw => w_witness2)
  k_fill
  refine FL.walk_ofG (l := PySem.Challenge.rw_farline_k82_whole_plain_stories_tell_ali) (n := 63) (k := 11) (x := "script") (CX := L2.CX0) (sp := FL.K82.sp_law) rfl (by decide) rfl ⟨rfl, by decide, by decide⟩ (fun w h Y => PySem.W.kIn_of Y) ?F (fun K H a ns hl _ hS => ⟨a, ns, rfl, hS, hl, fun _ => rfl⟩) fun _ _ _ _ z => z
  case F =>
    intro w mg fa h KX G hmg
    refine' FL.all_mk KX G hmg ?q_Seat ?q_Yard ?a0 ?l0 ?c0 ?k0 ?a1 ?l1 ?c1 ?k1 ?a2 ?l2 ?c2 ?k2 ?a3 ?l3 ?c3 ?k3 ?a4 ?i4 ?l4 ?c4 ?k4 ?a5 ?i5 ?l5 ?c5 ?k5 ?a6 ?l6 ?c6 ?k6 ?a7 ?l7 ?c7 ?k7 ?a8 ?l8 ?c8 ?k8 ?a9 ?l9 ?c9 ?k9 ?a10 ?l10 ?c10 ?k10 ?a11 ?l11 ?c11 ?k11 ?a12 ?l12 ?c12 ?k12 ?a13 ?i13 ?l13 ?c13 ?k13 ?a14 ?i14 ?l14 ?c14 ?k14 ?a15 ?i15 ?l15 ?c15 ?k15 ?a16 ?l16 ?c16 ?k16 ?a17 ?l17 ?c17 ?k17 ?a18 ?l18 ?c18 ?k18 ?a19 ?l19 ?c19 ?k19 ?a20 ?i20 ?l20 ?c20 ?k20 ?a21 ?i21 ?l21 ?c21 ?k21 ?a22 ?l22 ?c22 ?k22 ?a23 ?l23 ?c23 ?k23 ?a24 ?l24 ?c24 ?k24 ?a25 ?l25 ?c25 ?k25 ?a26 ?i26 ?l26 ?c26 ?k26 ?a27 ?i27 ?l27 ?c27 ?k27 ?a28 ?i28 ?l28 ?c28 ?k28 ?a29 ?l29 ?c29 ?k29 ?a30 ?l30 ?c30 ?k30 ?a31 ?l31 ?c31 ?k31 ?a32 ?l32 ?c32 ?k32 ?a33 ?l33 ?c33 ?k33 ?a34 ?l34 ?c34 ?k34 ?a35 ?l35 ?c35 ?k35 ?a36 ?l36 ?c36 ?k36 ?a37 ?l37 ?c37 ?k37 ?a38 ?l38 ?c38 ?k38 ?a39 ?l39 ?c39 ?k39 ?a40 ?l40 ?c40 ?k40 ?a41 ?l41 ?c41 ?k41 ?a42 ?l42 ?c42 ?k42 ?a43 ?l43 ?c43 ?k43 ?pg_Seat ?hd_Seat ?po_Seat ?sa_Seat ?pg_Yard ?hd_Yard ?po_Yard ?sa_Yard ?mk_Seat ?kc_Seat ?mk_Yard ?kc_Yard ?nf_Seat_ahead ?nf_Seat_far_mark ?nf_Seat_heard ?nf_Seat_many_made ?nf_Seat_many_taken ?nf_Seat_own_mark ?nf_Seat_text ?nf_Seat_waiting ?nf_Yard_roads ?nf_Yard_seats ?z_abs ?z_bool ?z_enumerate ?z_int ?z_isinstance ?z_len ?z_list ?z_min ?z_range ?z_str ?z_tuple ?q_PARTS ?dl_PARTS ?dk_PARTS ?ds_PARTS ?di_PARTS ?y_SIGNS
    (case q_Seat => k_is)
    (case q_Yard => k_is)
    (case a0 => k_is)
    (case l0 => k_is)
    (case c0 => k_is)
    (case k0 => k_is)
    (case a1 => k_is)
    (case l1 => k_is)
    (case c1 => k_is)
    (case k1 => k_is)
    (case a2 => k_is)
    (case l2 => k_is)
    (case c2 => k_is)
    (case k2 => k_is)
    (case a3 => k_is)
    (case l3 => k_is)
    (case c3 => k_is)
    (case k3 => k_is)
    (case a4 => k_is)
    (case i4 => k_is)
    (case l4 => k_is)
    (case c4 => k_is)
    (case k4 => k_is)
    (case a5 => k_is)
    (case i5 => k_is)
    (case l5 => k_is)
    (case c5 => k_is)
    (case k5 => k_is)
    (case a6 => k_is)
    (case l6 => k_is)
    (case c6 => k_is)
    (case k6 => k_is)
    (case a7 => k_is)
    (case l7 => k_is)
    (case c7 => k_is)
    (case k7 => k_is)
    (case a8 => k_is)
    (case l8 => k_is)
    (case c8 => k_is)
    (case k8 => k_is)
    (case a9 => k_is)
    (case l9 => k_is)
    (case c9 => k_is)
    (case k9 => k_is)
    (case a10 => k_is)
    (case l10 => k_is)
    (case c10 => k_is)
    (case k10 => k_is)
    (case a11 => k_is)
    (case l11 => k_is)
    (case c11 => k_is)
    (case k11 => k_is)
    (case a12 => k_is)
    (case l12 => k_is)
    (case c12 => k_is)
    (case k12 => k_is)
    (case a13 => k_is)
    (case i13 => k_is)
    (case l13 => k_is)
    (case c13 => k_is)
    (case k13 => k_is)
    (case a14 => k_is)
    (case i14 => k_is)
    (case l14 => k_is)
    (case c14 => k_is)
    (case k14 => k_is)
    (case a15 => k_is)
    (case i15 => k_is)
    (case l15 => k_is)
    (case c15 => k_is)
    (case k15 => k_is)
    (case a16 => k_is)
    (case l16 => k_is)
    (case c16 => k_is)
    (case k16 => k_is)
    (case a17 => k_is)
    (case l17 => k_is)
    (case c17 => k_is)
    (case k17 => k_is)
    (case a18 => k_is)
    (case l18 => k_is)
    (case c18 => k_is)
    (case k18 => k_is)
    (case a19 => k_is)
    (case l19 => k_is)
    (case c19 => k_is)
    (case k19 => k_is)
    (case a20 => k_is)
    (case i20 => k_is)
    (case l20 => k_is)
    (case c20 => k_is)
    (case k20 => k_is)
    (case a21 => k_is)
    (case i21 => k_is)
    (case l21 => k_is)
    (case c21 => k_is)
    (case k21 => k_is)
    (case a22 => k_is)
    (case l22 => k_is)
    (case c22 => k_is)
    (case k22 => k_is)
    (case a23 => k_is)
    (case l23 => k_is)
    (case c23 => k_is)
    (case k23 => k_is)
    (case a24 => k_is)
    (case l24 => k_is)
    (case c24 => k_is)
    (case k24 => k_is)
    (case a25 => k_is)
    (case l25 => k_is)
    (case c25 => k_is)
    (case k25 => k_is)
    (case a26 => k_is)
    (case i26 => k_is)
    (case l26 => k_is)
    (case c26 => k_is)
    (case k26 => k_is)
    (case a27 => k_is)
    (case i27 => k_is)
    (case l27 => k_is)
    (case c27 => k_is)
    (case k27 => k_is)
    (case a28 => k_is)
    (case i28 => k_is)
    (case l28 => k_is)
    (case c28 => k_is)
    (case k28 => k_is)
    (case a29 => k_is)
    (case l29 => k_is)
    (case c29 => k_is)
    (case k29 => k_is)
    (case a30 => k_is)
    (case l30 => k_is)
    (case c30 => k_is)
    (case k30 => k_is)
    (case a31 => k_is)
    (case l31 => k_is)
    (case c31 => k_is)
    (case k31 => k_is)
    (case a32 => k_is)
    (case l32 => k_is)
    (case c32 => k_is)
    (case k32 => k_is)
    (case a33 => k_is)
    (case l33 => k_is)
    (case c33 => k_is)
    (case k33 => k_is)
    (case a34 => k_is)
    (case l34 => k_is)
    (case c34 => k_is)
    (case k34 => k_is)
    (case a35 => k_is)
    (case l35 => k_is)
    (case c35 => k_is)
    (case k35 => k_is)
    (case a36 => k_is)
    (case l36 => k_is)
    (case c36 => k_is)
    (case k36 => k_is)
    (case a37 => k_is)
    (case l37 => k_is)
    (case c37 => k_is)
    (case k37 => k_is)
    (case a38 => k_is)
    (case l38 => k_is)
    (case c38 => k_is)
    (case k38 => k_is)
    (case a39 => k_is)
    (case l39 => k_is)
    (case c39 => k_is)
    (case k39 => k_is)
    (case a40 => k_is)
    (case l40 => k_is)
    (case c40 => k_is)
    (case k40 => k_is)
    (case a41 => k_is)
    (case l41 => k_is)
    (case c41 => k_is)
    (case k41 => k_is)
    (case a42 => k_is)
    (case l42 => k_is)
    (case c42 => k_is)
    (case k42 => k_is)
    (case a43 => k_is)
    (case l43 => k_is)
    (case c43 => k_is)
    (case k43 => k_is)
    (case pg_Seat => k_is)
    (case hd_Seat => k_is)
    (case po_Seat => k_is)
    (case sa_Seat => k_is)
    (case pg_Yard => k_is)
    (case hd_Yard => k_is)
    (case po_Yard => k_is)
    (case sa_Yard => k_is)
    (case mk_Seat => k_is)
    (case kc_Seat => k_is)
    (case mk_Yard => k_is)
    (case kc_Yard => k_is)
    (case nf_Seat_ahead => k_is)
    (case nf_Seat_far_mark => k_is)
    (case nf_Seat_heard => k_is)
    (case nf_Seat_many_made => k_is)
    (case nf_Seat_many_taken => k_is)
    (case nf_Seat_own_mark => k_is)
    (case nf_Seat_text => k_is)
    (case nf_Seat_waiting => k_is)
    (case nf_Yard_roads => k_is)
    (case nf_Yard_seats => k_is)
    (case z_abs => k_is)
    (case z_bool => k_is)
    (case z_enumerate => k_is)
    (case z_int => k_is)
    (case z_isinstance => k_is)
    (case z_len => k_is)
    (case z_list => k_is)
    (case z_min => k_is)
    (case z_range => k_is)
    (case z_str => k_is)
    (case z_tuple => k_is)
    (case q_PARTS => k_is)
    (case dl_PARTS => k_is)
    (case dk_PARTS => exact ⟨⟨_, _, rfl, rfl⟩, ⟨_, _, rfl, rfl⟩, ⟨_, _, rfl, rfl⟩, trivial⟩)
    (case ds_PARTS => first | rfl | k_is)
    (case di_PARTS => exact ⟨⟨⟨_, rfl⟩, ⟨_, rfl⟩⟩, ⟨⟨_, rfl⟩, ⟨_, rfl⟩⟩, ⟨⟨_, rfl⟩, ⟨_, rfl⟩⟩, trivial⟩)
    (case y_SIGNS => k_is)

