import PyProof.Rows.All
import Wide.All
import OpenK.AllK
import Wide.FinOn
import HandS.ForMost
import HandS.ForExc
import HandS.IsInst
import HandS.Style
import HandS.StrMore
import HandS.WideBits
import HandS.Flow
import HandS.Steps
import PySem.Challenge.RW_narrowing_k01_integers_written
set_option Elab.async false
set_option linter.all false
set_option maxRecDepth 100000
set_option maxHeartbeats 4000000
namespace Nv
open PySem PySem.Spec PyProof.Rows L2
/-! ### stepping lemmas over the readings -/
section
variable {D : Ends} {σ : L2.St} {H : Hp} {Q : VK} {K : PySem.W.Frag}
theorem x_seq {t1 t2 : TS} (h : t1 { D with nx := t2 D } σ H) : tSeq t1 t2 D σ H := h
theorem x_asg {te : TE} {g : TG} (h : te σ H fun x H1 => g x σ H1 D.nx) : tAsg te g D σ H := h
theorem x_name {i : Nat} {v : V} {Q : L2.St → Hp → Prop} (h : Q (σ.set i (some v)) H) : gName i v σ H Q := h
theorem x_var {i : Nat} {v : V} (e : σ[i]? = some (some v)) (h : Q v H) : tVar i σ H Q := ⟨v, e, h⟩
theorem x_c {v : V} (h : Q v H) : tC v σ H Q := h
theorem x_op {r : R2} {ta tb : TE} (h : ta σ H fun x H1 => tb σ H1 fun y H2 => r x y H2 Q) : tOp r ta tb σ H Q := h
theorem x_un {r : V → Hp → VK → Prop} {ta : TE} (h : ta σ H fun x H1 => r x H1 Q) : tUn r ta σ H Q := h
theorem x_drop {te : TE} (h : te σ H fun _ H1 => D.nx σ H1) : tDrop te D σ H := h
theorem x_ret {te : TE} (h : te σ H D.rt) : tRet te D σ H := h
theorem x_retN (h : D.rt .non H) : tRetN D σ H := h
theorem x_next (h : D.nx σ H) : tNext D σ H := h
theorem x_ifS {c : TT} {t u : TS} (h : c σ H fun b H1 => if b = true then t D σ H1 else u D σ H1) : tIfS c t u D σ H := h
theorem x_if {c : TT} {ta tb : TE} (h : c σ H fun b H1 => if b = true then ta σ H1 Q else tb σ H1 Q) : tIf c ta tb σ H Q := h
theorem x_test {t : TE} {R : Bool → Hp → Prop} (h : t σ H fun x H' => ∃ k, x = .bl k ∧ R k H') : tTest t σ H R := h
theorem x_blk {k : Bool} {R : Bool → Prop} (h : R k) : ∃ k', V.bl k = .bl k' ∧ R k' := ⟨k, rfl, h⟩
theorem x_and {t u : TT} {R : Bool → Hp → Prop} (h : t σ H fun c H1 => if c = true then u σ H1 R else R false H1) : tAnd t u σ H R := h
theorem x_or {t u : TT} {R : Bool → Hp → Prop} (h : t σ H fun c H1 => if c = true then R true H1 else u σ H1 R) : tOr t u σ H R := h
theorem x_not {t : TT} {R : Bool → Hp → Prop} (h : t σ H fun c H1 => R (!c) H1) : tNot t σ H R := h
theorem x_nil {R : List V → Hp → Prop} (h : R [] H) : tNil σ H R := h
theorem x_cons {ta : TE} {tr : TA} {R : List V → Hp → Prop} (h : ta σ H fun x H1 => tr σ H1 fun xs H2 => R (x :: xs) H2) : tCons ta tr σ H R := h
theorem x_cb {r : List V → Hp → VK → Prop} {t : TA} (h : t σ H fun vs H1 => r vs H1 Q) : tCB r t σ H Q := h
theorem x_call {sp : Sp} {E : L2.St → XK} {t : TA} (h : t σ H fun vs H1 => sp vs H1 Q (E σ)) : tCallS sp E t σ H Q := h
theorem x_lst {t : TA} (h : t σ H fun xs H1 => xs.length ≤ sizeLine ∧ ∀ p, H1 p = none → Q (.ref p) (upd H1 p (.lst xs))) : tLst t σ H Q := h
theorem x_tup {t : TA} (h : t σ H fun xs H1 => xs.length ≤ sizeLine ∧ ∀ p, H1 p = none → Q (.ref p) (upd H1 p (.tup xs))) : tTup t σ H Q := h
theorem x_sub {to ti : TE} {t : TSet} {v : V} {R : L2.St → Hp → Prop} (h : to σ H fun o H1 => ti σ H1 fun i H2 => t o i v H2 fun H3 => R σ H3) : gSub to ti t v σ H R := h
theorem x_bm {T : String} {r : V → List V → Hp → VK → Prop} {to : TE} {t : TA} (h : to σ H fun x H1 => tyV K T x H1 ∧ t σ H1 fun xs H2 => r x xs H2 Q) : tBM K T r to t σ H Q := h
theorem x_bm0 {T : String} {r : V → List V → Hp → VK → Prop} {to : TE} (h : to σ H fun x H1 => tyV K T x H1 ∧ r x [] H1 Q) : tBM0 K T r to σ H Q := h
theorem x_sl {r : V → Option Int → Option Int → Hp → VK → Prop} {te : TE} {tl th : TO} (h : te σ H fun x H1 => tl σ H1 fun l H2 => th σ H2 fun u H3 => r x l u H3 Q) : tSl r te tl th σ H Q := h
theorem x_noPart {R : Option Int → Hp → Prop} (h : R none H) : tNoPart σ H R := h
theorem x_part {t : TE} {R : Option Int → Hp → Prop} (h : t σ H fun x H1 => ∃ i, x = .int i ∧ R (some i) H1) : tPart t σ H R := h
theorem x_intk {k : Int} {R : Int → Prop} (h : R k) : ∃ k', V.int k = .int k' ∧ R k' := ⟨k, rfl, h⟩
end
/-! ### operators by values -/
section
variable {X : Cx} {K : PySem.W.Frag} {H : Hp} {Q : VK}
def rAddU (K : PySem.W.Frag) : R2 := fun x y H Q => match x, y with
  | .int i, .int j => Q (.int (i + j)) H
  | .str a, .str b => a.length + b.length ≤ sizeLine ∧ Q (.str (a ++ b)) H
  | .ref l, .ref b => rCat (.ref l) (.ref b) H Q
  | _, _ => False
theorem op_addU : OpR X (binaryOp .Add) (rAddU X.K) := by
  intro pins s σ H x y v u Q I rx ry h
  cases x <;> cases y <;> first | exact h.elim | exact op_add pins s σ H _ _ v u Q I rx ry ⟨_, _, rfl, rfl, h⟩ | exact op_add_str pins s σ H _ _ v u Q I rx ry ⟨_, _, rfl, rfl, h⟩ | exact op_cat pins s σ H _ _ v u Q I rx ry h
def rSubU : R2 := fun x y H Q => match x, y with
  | .int i, .int j => Q (.int (i - j)) H
  | _, _ => False
theorem op_subU : OpR X (binaryOp .Sub) rSubU := by
  intro pins s σ H x y v u Q I rx ry h
  cases x <;> cases y <;> first | exact h.elim | exact op_sub pins s σ H _ _ v u Q I rx ry ⟨_, _, rfl, rfl, h⟩
def rMulU : R2 := fun x y H Q => match x, y with
  | .int i, .int j => CMul i j ∧ Q (.int (i * j)) H
  | _, _ => False
theorem op_mulU : OpR X (binaryOp .Mult) rMulU := by
  intro pins s σ H x y v u Q I rx ry h
  cases x <;> cases y <;> first | exact h.elim | exact op_mul pins s σ H _ _ v u Q I rx ry ⟨_, _, rfl, rfl, h.1, h.2⟩
def rModU : R2 := fun x y H Q => match x, y with
  | .int i, .int j => 0 < j ∧ Q (.int (i % j)) H
  | _, _ => False
theorem op_modU : OpR X (binaryOp .Mod) rModU := by
  intro pins s σ H x y v u Q I rx ry h
  cases x <;> cases y <;> first | exact h.elim | exact op_mod pins s σ H _ _ v u Q I rx ry ⟨_, _, rfl, rfl, h.1, h.2⟩
def rFdivU : R2 := fun x y H Q => match x, y with
  | .int i, .int j => CDiv i j ∧ Q (.int (i / j)) H
  | _, _ => False
theorem op_fdivU : OpR X (binaryOp .FloorDiv) rFdivU := by
  intro pins s σ H x y v u Q I rx ry h
  cases x <;> cases y <;> first | exact h.elim | exact op_fdiv pins s σ H _ _ v u Q I rx ry ⟨_, _, rfl, rfl, h.1, h.2⟩
def rPowU : R2 := fun x y H Q => match x, y with
  | .int i, .int j => CPow i j ∧ Q (.int (i ^ j.toNat)) H
  | _, _ => False
theorem op_powU : OpR X (binaryOp .Pow) rPowU := by
  intro pins s σ H x y v u Q I rx ry h
  cases x <;> cases y <;> first | exact h.elim | exact op_pow pins s σ H _ _ v u Q I rx ry ⟨_, _, rfl, rfl, h.1, h.2⟩
def rLtU : R2 := fun x y H Q => match x, y with
  | .int i, .int j => Q (.bl (decide (i < j))) H
  | .str a, .str b => Q (.bl (decide (a.cps.toList < b.cps.toList))) H
  | _, _ => False
theorem op_ltU : OpR X (compareOp .Lt) rLtU := by
  intro pins s σ H x y v u Q I rx ry h
  cases x <;> cases y <;> first | exact h.elim | exact op_lt pins s σ H _ _ v u Q I rx ry ⟨_, _, rfl, rfl, h⟩ | exact op_lt_str pins s σ H _ _ v u Q I rx ry ⟨_, _, rfl, rfl, h⟩
def rLeU : R2 := fun x y H Q => match x, y with
  | .int i, .int j => Q (.bl (decide (i ≤ j))) H
  | .str a, .str b => Q (.bl (!decide (b.cps.toList < a.cps.toList))) H
  | _, _ => False
theorem op_leU : OpR X (compareOp .LtE) rLeU := by
  intro pins s σ H x y v u Q I rx ry h
  cases x <;> cases y <;> first | exact h.elim | exact op_le pins s σ H _ _ v u Q I rx ry ⟨_, _, rfl, rfl, h⟩ | exact op_le_str pins s σ H _ _ v u Q I rx ry ⟨_, _, rfl, rfl, h⟩
def rGtU : R2 := fun x y H Q => match x, y with
  | .int i, .int j => Q (.bl (decide (j < i))) H
  | _, _ => False
theorem op_gtU : OpR X (compareOp .Gt) rGtU := by
  intro pins s σ H x y v u Q I rx ry h
  cases x <;> cases y <;> first | exact h.elim | exact op_gt pins s σ H _ _ v u Q I rx ry ⟨_, _, rfl, rfl, h⟩
def rGeU : R2 := fun x y H Q => match x, y with
  | .int i, .int j => Q (.bl (decide (j ≤ i))) H
  | _, _ => False
theorem op_geU : OpR X (compareOp .GtE) rGeU := by
  intro pins s σ H x y v u Q I rx ry h
  cases x <;> cases y <;> first | exact h.elim | exact op_ge pins s σ H _ _ v u Q I rx ry ⟨_, _, rfl, rfl, h⟩
theorem x_addI {i j : Int} (h : Q (.int (i + j)) H) : rAddU K (.int i) (.int j) H Q := h
theorem x_addS {a b : Str} (l : a.length + b.length ≤ sizeLine) (h : Q (.str (a ++ b)) H) : rAddU K (.str a) (.str b) H Q := ⟨l, h⟩
theorem x_subI {i j : Int} (h : Q (.int (i - j)) H) : rSubU (.int i) (.int j) H Q := h
theorem x_mulI {i j : Int} (l : CMul i j) (h : Q (.int (i * j)) H) : rMulU (.int i) (.int j) H Q := ⟨l, h⟩
theorem x_mulR {i j : Int} (l : -18446744073709551616 < j) (l2 : j < 18446744073709551616) (h : Q (.int (i * j)) H) : rMulU (.int i) (.int j) H Q := ⟨.inr ⟨l, l2⟩, h⟩
theorem x_mulL {i j : Int} (l : -18446744073709551616 < i) (l2 : i < 18446744073709551616) (h : Q (.int (i * j)) H) : rMulU (.int i) (.int j) H Q := ⟨.inl ⟨l, l2⟩, h⟩
theorem x_modI {i j : Int} (l : 0 < j) (h : Q (.int (i % j)) H) : rModU (.int i) (.int j) H Q := ⟨l, h⟩
theorem x_fdivI {i j : Int} (l : 0 < j) (l2 : j < 1073741824) (h : Q (.int (i / j)) H) : rFdivU (.int i) (.int j) H Q := ⟨⟨l, l2⟩, h⟩
theorem x_powI {i j : Int} (l : CPow i j) (h : Q (.int (i ^ j.toNat)) H) : rPowU (.int i) (.int j) H Q := ⟨l, h⟩
theorem x_ltI {i j : Int} (h : Q (.bl (decide (i < j))) H) : rLtU (.int i) (.int j) H Q := h
theorem x_leI {i j : Int} (h : Q (.bl (decide (i ≤ j))) H) : rLeU (.int i) (.int j) H Q := h
theorem x_gtI {i j : Int} (h : Q (.bl (decide (j < i))) H) : rGtU (.int i) (.int j) H Q := h
theorem x_geI {i j : Int} (h : Q (.bl (decide (j ≤ i))) H) : rGeU (.int i) (.int j) H Q := h
theorem x_eq {x y : V} (l : scal x y = true) (h : Q (.bl (decide (x = y))) H) : rEq x y H Q := ⟨l, h⟩
theorem x_ne {x y : V} (l : scal x y = true) (h : Q (.bl (!decide (x = y))) H) : rNe x y H Q := ⟨l, h⟩
theorem x_ixL {p : Addr} {xs : List V} {i : Int} {v : V} (h : SqL K H p xs) (a : atI xs i = some v) (q : Q v H) : rIx K (.ref p) (.int i) H Q := .inl ⟨p, xs, i, v, rfl, rfl, h, a, q⟩
theorem x_ixT {p : Addr} {xs : List V} {i : Int} {v : V} (h : SqT K H p xs) (a : atI xs i = some v) (q : Q v H) : rIx K (.ref p) (.int i) H Q := .inr (.inl ⟨p, xs, i, v, rfl, rfl, h, a, q⟩)
theorem x_ixS {z : Str} {i : Int} {c : Nat} (h : z.length ≤ sizeLine) (a : atI z.cps.toList i = some c) (q : Q (.str ⟨#[c]⟩) H) : rIx K (.str z) (.int i) H Q := .inr (.inr ⟨z, i, c, rfl, rfl, h, a, q⟩)
theorem x_setL {p : Addr} {xs : List V} {i : Int} {j : Nat} {v : V} {Q : Hp → Prop} (h : H p = some (.lst xs)) (a : ixN xs.length i = some j) (q : Q (upd H p (.lst (xs.set j v)))) : rSetL (.ref p) (.int i) v H Q := ⟨p, xs, i, j, rfl, rfl, h, a, q⟩
theorem x_set4_1 {p : Addr} {a b c d v : V} {Q : Hp → Prop} (h : H p = some (.lst [a, b, c, d])) (q : Q (upd H p (.lst [a, v, c, d]))) : rSetL (.ref p) (.int 1) v H Q := ⟨p, _, 1, 1, rfl, rfl, h, rfl, q⟩
theorem x_set4_2 {p : Addr} {a b c d v : V} {Q : Hp → Prop} (h : H p = some (.lst [a, b, c, d])) (q : Q (upd H p (.lst [a, b, v, d]))) : rSetL (.ref p) (.int 2) v H Q := ⟨p, _, 2, 2, rfl, rfl, h, rfl, q⟩
theorem x_set4_3 {p : Addr} {a b c d v : V} {Q : Hp → Prop} (h : H p = some (.lst [a, b, c, d])) (q : Q (upd H p (.lst [a, b, c, v]))) : rSetL (.ref p) (.int 3) v H Q := ⟨p, _, 3, 3, rfl, rfl, h, rfl, q⟩
/-! len, int of an int, by values -/
def rLenU (K : PySem.W.Frag) : List V → Hp → VK → Prop := fun xs H Q => match xs with
  | [.str z] => z.length ≤ sizeLine ∧ Q (.int z.length) H
  | [.ref p] => (∃ ys, (SqL K H p ys ∨ SqT K H p ys) ∧ Q (.int ys.length) H)
  | _ => False
theorem call_lenU : CallR X (.builtin "len") (rLenU X.K) := by
  intro pins s σ H xs us Q I r h
  match xs, h with
  | [.str z], h => exact call_len_str pins s σ H _ us Q I r ⟨z, rfl, h.1, h.2⟩
  | [.ref p], h =>
    obtain ⟨ys, h1, h2⟩ := h
    exact call_len_seq pins s σ H _ us Q I r ⟨p, ys, rfl, h1, h2⟩
def rIntU : List V → Hp → VK → Prop := fun xs H Q => match xs with
  | [.int i] => Q (.int i) H
  | [.bl b] => Q (.int (if b then 1 else 0)) H
  | [.str a] => ∃ n, PySem.intText? a = some n ∧ a.length ≤ 640 ∧ Q (.int n) H
  | _ => False
theorem call_intU : CallR X (.type "int") rIntU := by
  intro pins s σ H xs us Q I r h
  match xs, h with
  | [.int i], h => exact call_int1 pins s σ H _ us Q I r (.inl ⟨i, rfl, h⟩)
  | [.bl b], h => exact call_int1 pins s σ H _ us Q I r (.inr ⟨b, rfl, h⟩)
  | [.str a], h =>
    obtain ⟨n, h1, h2, h3⟩ := h
    exact call_int_str pins s σ H _ us Q I r ⟨a, n, rfl, h1, h2, h3⟩
def rStrU : List V → Hp → VK → Prop := fun xs H Q => match xs with
  | [.int i] => i.natAbs.log2 < 1920 ∧ Q (.str (toString i)) H
  | _ => False
theorem call_strU : CallR X (.type "str") rStrU := by
  intro pins s σ H xs us Q I r h
  match xs, h with
  | [.int i], h => exact call_str_int pins s σ H _ us Q I r ⟨i, rfl, h.1, h.2⟩
theorem x_lenS {z : Str} (l : z.length ≤ sizeLine) (h : Q (.int z.length) H) : rLenU K [.str z] H Q := ⟨l, h⟩
theorem x_lenL {p : Addr} {ys : List V} (l : SqL K H p ys) (h : Q (.int ys.length) H) : rLenU K [.ref p] H Q := ⟨ys, .inl l, h⟩
theorem x_lenT {p : Addr} {ys : List V} (l : SqT K H p ys) (h : Q (.int ys.length) H) : rLenU K [.ref p] H Q := ⟨ys, .inr l, h⟩
theorem x_intI {i : Int} (h : Q (.int i) H) : rIntU [.int i] H Q := h
end

section
variable {X : Cx} {K : PySem.W.Frag} {H : Hp} {Q : VK} {σ : L2.St} {D : Ends}
def rAbsU : List V → Hp → VK → Prop := fun xs H Q => match xs with
  | [.int i] => Q (.int (if i < 0 then -i else i)) H
  | _ => False
theorem call_absU : CallR X (.builtin "abs") rAbsU := by
  intro pins s σ H xs us Q I r h
  match xs, h with
  | [.int i], h => exact call_abs pins s σ H _ us Q I r ⟨i, rfl, h⟩
theorem x_abs {i : Int} (h : Q (.int (if i < 0 then -i else i)) H) : rAbsU [.int i] H Q := h
def rDivmodW : List V → Hp → VK → Prop := fun xs H Q => match xs with
  | [.int i, .int j] => CDivP i j ∧ ∀ p, H p = none → Q (.ref p) (upd H p (.tup [.int (i / j), .int (i % j)]))
  | _ => False
theorem call_divmodU : CallR X (.builtin "divmod") rDivmodW := by
  intro pins s σ H xs us Q I r h
  match xs, h with
  | [.int i, .int j], h => exact call_divmodW pins s σ H _ us Q I r ⟨i, j, rfl, h.1, h.2⟩
/-! truth of a value, as a test -/
def truU (K : PySem.W.Frag) (x : V) (H : Hp) (R : Bool → Hp → Prop) : Prop := match x with
  | .bl b => R b H
  | .non => R false H
  | .int i => R (i != 0) H
  | .str z => z.length ≤ sizeLine ∧ R ((z.length : Int) != 0) H
  | .ref p => ∃ k, TruV K (.ref p) H k ∧ R k H
  | _ => False
def tTruU (K : PySem.W.Frag) (te : TE) : TT := fun σ H R => te σ H fun x H1 => truU K x H1 R
theorem PT.weak {e : Expr} {t t' : TT} (h : PT X e t) (w : ∀ σ H R, t' σ H R → t σ H R) : PT X e t' := ⟨fun pins s σ H R I q => h.run pins s σ H R I (w σ H R q)⟩
theorem PE.weak {e : Expr} {t t' : TE} (h : PE X e t) (w : ∀ σ H R, t' σ H R → t σ H R) : PE X e t' := ⟨fun pins s σ H R I q => h.run pins s σ H R I (w σ H R q)⟩
theorem PE.mono {e : Expr} {t : TE} (h : PE X e t) {t' : TE} (w : ∀ σ H Q, t' σ H Q → t σ H Q) : PE X e t' := PE.weak h w
/-- the value under another wish: pt_truth's reading, by cases -/
theorem pt_truU {a : Expr} {ta : TE} (ha : PE X a ta) (he : ∀ whole, isTrue a X.env whole = (do let v ← whole; standAt a.pos; holding [v] (truthy v))) : PT X a (tTruU X.K ta) := by
  refine ⟨fun pins s σ H R I q => ?_⟩
  refine isTrue_plain (thn (ha.run pins s σ H _ I q) fun v s1 ⟨x, H1, I1, r1, q1⟩ => ?_) (he _)
  have key : ∀ k, TruV X.K x H1 k → R k H1 → wpAny (model X.prog X.w) X.A (truthy v) (TP X pins σ R) X.xe s1 := fun k hk hR => tru_ok pins s1 σ H1 x v R I1 r1 ⟨k, hk, hR⟩
  cases x with
  | non => exact key false rfl q1
  | bl b => exact key b rfl q1
  | int i => exact key _ rfl q1
  | str z => exact key _ ⟨q1.1, rfl⟩ q1.2
  | ref p => obtain ⟨k, h1, h2⟩ := q1; exact key k h1 h2
  | byt _ => exact q1.elim
  | flt _ => exact q1.elim
  | ty _ => exact q1.elim
theorem x_tru {te : TE} {R : Bool → Hp → Prop} (h : te σ H fun x H1 => truU K x H1 R) : tTruU K te σ H R := h
theorem x_truB {b : Bool} {R : Bool → Hp → Prop} (h : R b H) : truU K (.bl b) H R := h
theorem x_truN {R : Bool → Hp → Prop} (h : R false H) : truU K .non H R := h
theorem x_truI {i : Int} {R : Bool → Hp → Prop} (h : R (decide (i ≠ 0)) H) : truU K (.int i) H R := by
  show R (i != 0) H
  have e : (i != 0) = decide (i ≠ 0) := by
    by_cases q : i = 0
    · subst q; rfl
    · rw [decide_eq_true q]; exact bne_iff_ne.mpr q
  rw [e]; exact h
theorem x_truS {z : Str} {R : Bool → Hp → Prop} (l : z.length ≤ sizeLine) (h : R ((z.length : Int) != 0) H) : truU K (.str z) H R := ⟨l, h⟩
/-! tests decided -/
theorem x_dec {c : Prop} [Decidable c] {A B : Prop} (h1 : c → A) (h2 : ¬ c → B) : if decide c = true then A else B := by
  by_cases h : c
  · rw [decide_eq_true h, if_pos rfl]; exact h1 h
  · rw [decide_eq_false h, if_neg Bool.false_ne_true]; exact h2 h
theorem x_decT {c : Prop} [Decidable c] {A B : Prop} (h : c) (h1 : A) : if decide c = true then A else B := by
  rw [decide_eq_true h, if_pos rfl]; exact h1
theorem x_decF {c : Prop} [Decidable c] {A B : Prop} (h : ¬ c) (h1 : B) : if decide c = true then A else B := by
  rw [decide_eq_false h, if_neg Bool.false_ne_true]; exact h1
theorem x_decNT {c : Prop} [Decidable c] {A B : Prop} (h : ¬ c) (h1 : A) : if (!decide c) = true then A else B := by
  rw [decide_eq_false h]; exact h1
theorem x_decNF {c : Prop} [Decidable c] {A B : Prop} (h : c) (h1 : B) : if (!decide c) = true then A else B := by
  rw [decide_eq_true h]; exact h1
theorem x_decN {c : Prop} [Decidable c] {A B : Prop} (h1 : ¬ c → A) (h2 : c → B) : if (!decide c) = true then A else B := by
  by_cases h : c
  · exact x_decNF h (h2 h)
  · exact x_decNT h (h1 h)
theorem x_true {A B : Prop} (h : A) : if true = true then A else B := by rw [if_pos rfl]; exact h
theorem x_false {A B : Prop} (h : B) : if false = true then A else B := by rw [if_neg Bool.false_ne_true]; exact h
theorem x_ntrue {A B : Prop} (h : B) : if (!true) = true then A else B := h
theorem x_nfalse {A B : Prop} (h : A) : if (!false) = true then A else B := h
theorem x_bool {b : Bool} {A B : Prop} (h1 : b = true → A) (h2 : b = false → B) : if b = true then A else B := by
  cases b
  · exact x_false (h2 rfl)
  · exact x_true (h1 rfl)
theorem x_eqI {i j : Int} (h : Q (.bl (decide (i = j))) H) : rEq (.int i) (.int j) H Q := by
  refine ⟨rfl, ?_⟩
  have e : decide (V.int i = V.int j) = decide (i = j) := by
    by_cases q : i = j
    · subst q; rw [decide_eq_true rfl, decide_eq_true rfl]
    · rw [decide_eq_false q, decide_eq_false fun z => q (V.int.inj z)]
  rw [e]; exact h
theorem x_neI {i j : Int} (h : Q (.bl (!decide (i = j))) H) : rNe (.int i) (.int j) H Q := by
  refine ⟨rfl, ?_⟩
  have e : decide (V.int i = V.int j) = decide (i = j) := by
    by_cases q : i = j
    · subst q; rw [decide_eq_true rfl, decide_eq_true rfl]
    · rw [decide_eq_false q, decide_eq_false fun z => q (V.int.inj z)]
  rw [e]; exact h
theorem dec_strP {i j : Str} : decide (V.str i = V.str j) = decide (i = j) := by
  by_cases q : i = j
  · subst q; rw [decide_eq_true rfl, decide_eq_true rfl]
  · rw [decide_eq_false q, decide_eq_false fun z => q (V.str.inj z)]
theorem x_eqS {i j : Str} (h : Q (.bl (decide (i = j))) H) : rEq (.str i) (.str j) H Q := ⟨rfl, by rw [dec_strP]; exact h⟩
theorem x_neS {i j : Str} (h : Q (.bl (!decide (i = j))) H) : rNe (.str i) (.str j) H Q := ⟨rfl, by rw [dec_strP]; exact h⟩
theorem x_powL {i j k : Int} (l0 : 0 ≤ j) (l1 : j ≤ 1000000) (l2 : i.natAbs < 18446744073709551616) (e : i ^ j.toNat = k) (h : Q (.int k) H) : rPowU (.int i) (.int j) H Q := ⟨⟨l0, l1, l2⟩, by rw [e]; exact h⟩
theorem cmul_r {i j : Int} (h : -(2 ^ 64) < j ∧ j < 2 ^ 64) : CMul i j := .inr h
theorem cmul_l {i j : Int} (h : -(2 ^ 64) < i ∧ i < 2 ^ 64) : CMul i j := .inl h
/-! isinstance against a built-in type -/
def rIsiU (K : PySem.W.Frag) : List V → Hp → VK → Prop := rIsi K
theorem call_isiU : CallR X (.builtin "isinstance") (rIsiU X.K) := call_isi
theorem x_isi {x : V} {n m : String} {b : Bool} (t : TyX K H x (.type m)) (k : kitB m n = some b) (h : Q (.bl b) H) : rIsiU K [x, .ty n] H Q := ⟨x, .ty n, .type m, .type n, b, rfl, .ty n, t, kit_ty k, h⟩
/-! slices of texts and lists -/
def rSlU (K : PySem.W.Frag) : V → Option Int → Option Int → Hp → VK → Prop := fun x lo hi H Q => match x with
  | .str z => z.length ≤ sizeLine ∧ Q (.str (cutS z lo hi)) H
  | .ref a => rSlL K (.ref a) lo hi H Q
  | _ => False
theorem SlR.weak {r r' : V → Option Int → Option Int → Hp → VK → Prop} (h : SlR X r) (w : ∀ x lo hi H Q, r' x lo hi H Q → r x lo hi H Q) : SlR X r' := by
  intro pins s σ H x v vl vu lo hi sl Q I rx hs pl pu q
  exact h pins s σ H x v vl vu lo hi sl Q I rx hs pl pu (w _ _ _ _ _ q)
theorem sl_U : SlR X (rSlU X.K) := SlR.weak (SlR.or sl_str sl_list) fun x lo hi H Q h => by
  cases x with
  | str z => exact .inl ⟨z, rfl, h.1, h.2⟩
  | ref a => exact .inr h
  | _ => exact h.elim
theorem x_slS {z : Str} {lo hi : Option Int} (l : z.length ≤ sizeLine) (h : Q (.str (cutS z lo hi)) H) : rSlU K (.str z) lo hi H Q := ⟨l, h⟩
theorem x_slL {a : Addr} {xs : List V} {lo hi : Option Int} (l : SqL K H a xs) (h : ∀ p, H p = none → Q (.ref p) (upd H p (.lst (cutV xs lo hi)))) : rSlU K (.ref a) lo hi H Q := ⟨a, xs, rfl, l, h⟩
/-! in, not in -/
def rInG (K : PySem.W.Frag) (neg : Bool) : R2 := fun x y H Q => match y with
  | .str z => ∃ c, x = .str ⟨#[c]⟩ ∧ Q (.bl (if neg then !decide (c ∈ z.cps.toList) else decide (c ∈ z.cps.toList))) H
  | .ref _ => rIn K neg x y H Q
  | _ => False
def rInU (K : PySem.W.Frag) : R2 := rInG K false
def rNotInU (K : PySem.W.Frag) : R2 := rInG K true
theorem op_inU : OpR X (compareOp .In) (rInU X.K) := by
  intro pins s σ H x y v u Q I rx ry h
  cases y with
  | str z => obtain ⟨c, rfl, h⟩ := h; exact op_in_sign pins s σ H _ _ v u Q I rx ry ⟨c, z, rfl, rfl, h⟩
  | ref a => exact op_in_seq pins s σ H _ _ v u Q I rx ry h
  | _ => exact h.elim
theorem op_notInU : OpR X (compareOp .NotIn) (rNotInU X.K) := by
  intro pins s σ H x y v u Q I rx ry h
  cases y with
  | str z => obtain ⟨c, rfl, h⟩ := h; exact op_notIn_sign pins s σ H _ _ v u Q I rx ry ⟨c, z, rfl, rfl, h⟩
  | ref a => exact op_notIn_seq pins s σ H _ _ v u Q I rx ry h
  | _ => exact h.elim
theorem x_inS {c : Nat} {z : Str} (h : Q (.bl (decide (c ∈ z.cps.toList))) H) : rInU K (.str ⟨#[c]⟩) (.str z) H Q := ⟨c, rfl, h⟩
theorem x_notInS {c : Nat} {z : Str} (h : Q (.bl (!decide (c ∈ z.cps.toList))) H) : rNotInU K (.str ⟨#[c]⟩) (.str z) H Q := ⟨c, rfl, h⟩
theorem x_inL {x : V} {p : Addr} {xs : List V} (l : SqL K H p xs) (fx : flatV x = true) (fs : xs.all flatV = true) (h : Q (.bl (inV x xs)) H) : rInU K x (.ref p) H Q := ⟨p, xs, rfl, .inl l, fx, fs, h⟩
theorem x_inT {x : V} {p : Addr} {xs : List V} (l : SqT K H p xs) (fx : flatV x = true) (fs : xs.all flatV = true) (h : Q (.bl (inV x xs)) H) : rInU K x (.ref p) H Q := ⟨p, xs, rfl, .inr l, fx, fs, h⟩
theorem x_notInL {x : V} {p : Addr} {xs : List V} (l : SqL K H p xs) (fx : flatV x = true) (fs : xs.all flatV = true) (h : Q (.bl (!inV x xs)) H) : rNotInU K x (.ref p) H Q := ⟨p, xs, rfl, .inl l, fx, fs, h⟩
theorem x_notInT {x : V} {p : Addr} {xs : List V} (l : SqT K H p xs) (fx : flatV x = true) (fs : xs.all flatV = true) (h : Q (.bl (!inV x xs)) H) : rNotInU K x (.ref p) H Q := ⟨p, xs, rfl, .inr l, fx, fs, h⟩
/-! methods of texts -/
def rZfillU : V → List V → Hp → VK → Prop := fun x xs H Q => match x, xs with
  | .str a, [.int i] => PadOk i = true ∧ Q (.str (Txt.zfill a i)) H
  | _, _ => False
theorem mt_zfillU : MtR X "str.zfill" rZfillU := by
  intro pins s σ H x xs v us Q I rx rs h
  match x, xs, h with
  | .str a, [.int i], h => exact mt_zfill pins s σ H _ _ v us Q I rx rs ⟨a, i, rfl, rfl, h.1, h.2⟩
def rJoinU (K : PySem.W.Frag) : V → List V → Hp → VK → Prop := fun x xs H Q => match x, xs with
  | .str a, [.ref p] => ∃ ys : List Str, (SqL K H p (ys.map V.str) ∨ SqT K H p (ys.map V.str)) ∧ (ys.map (·.length)).sum + ys.length * a.length ≤ 16777216 ∧ Q (.str (Txt.join a ys)) H
  | _, _ => False
theorem mt_joinU : MtR X "str.join" (rJoinU X.K) := by
  intro pins s σ H x xs v us Q I rx rs h
  match x, xs, h with
  | .str a, [.ref p], h =>
    obtain ⟨ys, h1, h2, h3⟩ := h
    exact mt_join pins s σ H _ _ v us Q I rx rs ⟨a, p, ys, rfl, rfl, h1, h2, h3⟩
theorem x_zfill {a : Str} {i : Int} (l : PadOk i = true) (h : Q (.str (Txt.zfill a i)) H) : rZfillU (.str a) [.int i] H Q := ⟨l, h⟩
theorem x_join {a : Str} {p : Addr} {ys : List Str} (l : SqL K H p (ys.map V.str)) (z : (ys.map (·.length)).sum + ys.length * a.length ≤ 16777216) (h : Q (.str (Txt.join a ys)) H) : rJoinU K (.str a) [.ref p] H Q := ⟨ys, .inl l, z, h⟩
theorem x_append {p : Addr} {xs : List V} {y : V} (l : H p = some (.lst xs)) (z : xs.length < sizeLine) (h : Q .non (upd H p (.lst (xs ++ [y])))) : rAppend (.ref p) [y] H Q := ⟨p, xs, y, rfl, rfl, l, z, h⟩
/-! a def of the text that is called -/
structure Cal (P : Program) (w : World) (K : PySem.W.Frag) (mg : Str → Option Value) (base : Heap) (k : Nat) (x : Str) (ps : List Str) (sp : Sp) : Prop where
  ex : ∃ (f : Addr) (fd : FuncData), FnOk P w K mg base (L2.CX P w) k f fd ps sp ∧ mg x = some (.ref f) ∧ PySem.W.keepIn K (.ref f) = true ∧ Binds K fd ps []
theorem Cal.mono {P : Program} {w : World} {mg : Str → Option Value} {base : Heap} {j k : Nat} {x : Str} {ps : List Str} {sp : Sp} (c : Cal P w K mg base j x ps sp) (h : j ≤ k) : Cal P w K mg base k x ps sp := by
  obtain ⟨f, fd, a, b⟩ := c.ex
  exact ⟨f, fd, a.mono h, b⟩
section
variable {k : Nat} {x : Str} {ps : List Str} {sp : Sp} {W : WX} {p pos : Pos} {e : Expr} {es : List Expr} {t : TA}
theorem pe_cal (C : Cal X.prog X.w X.K X.mg X.base k x ps sp) (hr : Room k X.A) (tk : Takes X W) (hg : Gl X x) (ha : PA X (e :: es) t)
    (hdb : (x == ("__debug__" : Str)) = false := by decide) (he : starEach (e :: es) X.env = (false, eval e X.env) :: starEach es X.env := by rfl) (hpl : (backTo pos (starEach es X.env)).any (·.1) = false := by rfl) :
    PE X (.Call (.Name x p) (e :: es) [] pos) (tCallS sp (WE W) t) := by
  obtain ⟨f, fd, G, hm, hk, hb⟩ := C.ex
  exact pe_callS G hr hg hm hk hb (fun σ => passAt tk σ) ha hdb he hpl
end
end
section
variable {K : PySem.W.Frag} {H : Hp} {Q : VK} {σ : L2.St} {D : Ends}
theorem x_for {wi : TI} {g : TG} {tb : TS} (h : wi σ H fun J H1 => ∃ W : Nat → Nat → L2.St → Hp → Prop, (∃ m, W 0 m σ H1) ∧ ∀ i m σ H, W i m σ H →
  (J.stop i H ∧ D.nx σ H) ∨ (J.go i H ∧ ∃ N : L2.St → Hp → Prop, (∀ σ' H', N σ' H' → ∃ m', m' < m ∧ W (i + 1) m' σ' H') ∧ ∀ x H', J.yld i H x H' → g x σ H' fun σ2 H2 => tb { D with nx := N, ct := N, bk := D.nx } σ2 H2)) : tFor wi g tb D σ H := h
theorem x_rng1 {ta : TA} {R : It → Hp → Prop} (h : ta σ H fun vs H1 => ∃ j : Int, vs = [.int j] ∧ -(2 ^ 62) ≤ j ∧ j < 2 ^ 62 ∧ R (Itr 0 j.toNat) H1) : iRng1 ta σ H R := h
theorem x_rngk1 {j : Int} {R : Int → Prop} (h1 : -4611686018427387904 ≤ j) (h2 : j < 4611686018427387904) (h : R j) : ∃ j' : Int, [V.int j] = [.int j'] ∧ -(2 ^ 62) ≤ j' ∧ j' < 2 ^ 62 ∧ R j' := ⟨j, rfl, h1, h2, h⟩
theorem x_rng2 {ta : TA} {R : It → Hp → Prop} (h : ta σ H fun vs H1 => ∃ i j : Int, vs = [.int i, .int j] ∧ (-(2 ^ 62) ≤ i ∧ i < 2 ^ 62 ∧ -(2 ^ 62) ≤ j ∧ j < 2 ^ 62) ∧ R (Itr i (j - i).toNat) H1) : iRng2 ta σ H R := h
theorem x_rngk2 {i j : Int} {R : Int → Int → Prop} (h1 : -4611686018427387904 ≤ i) (h2 : i < 4611686018427387904) (h3 : -4611686018427387904 ≤ j) (h4 : j < 4611686018427387904) (h : R i j) :
    ∃ i' j' : Int, [V.int i, V.int j] = [.int i', .int j'] ∧ (-(2 ^ 62) ≤ i' ∧ i' < 2 ^ 62 ∧ -(2 ^ 62) ≤ j' ∧ j' < 2 ^ 62) ∧ R i' j' := ⟨i, j, rfl, ⟨h1, h2, h3, h4⟩, h⟩
theorem x_rng3 {ta : TA} {R : It → Hp → Prop} (h : ta σ H fun vs H1 => ∃ (i j c : Int) (n : Nat), vs = [.int i, .int j, .int c] ∧ RgC i j c n ∧ R (Itc i c n) H1) : iRng3 ta σ H R := h
theorem x_iList {tl : TE} {R : It → Hp → Prop} (h : tl σ H fun x H1 => ∃ a, x = .ref a ∧ (∃ xs, SqL K H1 a xs) ∧ R (Itl K a) H1) : iList K tl σ H R := h
theorem x_iListk {a : Addr} {xs : List V} {R : Addr → Prop} (l : SqL K H a xs) (h : R a) : ∃ a', V.ref a = .ref a' ∧ (∃ xs, SqL K H a' xs) ∧ R a' := ⟨a, rfl, ⟨xs, l⟩, h⟩
theorem x_iTup {tl : TE} {R : It → Hp → Prop} (h : tl σ H fun x H1 => ∃ a, x = .ref a ∧ (∃ xs, SqT K H1 a xs) ∧ R (Itt K a) H1) : iTup K tl σ H R := h
theorem x_iTupk {a : Addr} {xs : List V} {R : Addr → Prop} (l : SqT K H a xs) (h : R a) : ∃ a', V.ref a = .ref a' ∧ (∃ xs, SqT K H a' xs) ∧ R a' := ⟨a, rfl, ⟨xs, l⟩, h⟩
theorem x_while {c : TT} {tb : TS} (Pv : Nat → L2.St → Hp → Prop) (h0 : ∃ m, Pv m σ H) (hs : ∀ m σ H, Pv m σ H → c σ H fun b H1 => if b = true then ∃ N : L2.St → Hp → Prop, (∀ σ' H', N σ' H' → ∃ m', m' < m ∧ Pv m' σ' H') ∧ tb { D with nx := N, ct := N, bk := D.nx } σ H1 else D.nx σ H1) : tWhile c tb D σ H := ⟨Pv, h0, hs⟩
theorem x_turn {Pv : Nat → L2.St → Hp → Prop} {m : Nat} {R : (L2.St → Hp → Prop) → Prop} (h : R fun σ' H' => ∃ m', m' < m ∧ Pv m' σ' H') : ∃ N : L2.St → Hp → Prop, (∀ σ' H', N σ' H' → ∃ m', m' < m ∧ Pv m' σ' H') ∧ R N := ⟨_, fun _ _ q => q, h⟩
theorem x_gtup {n : Nat} {t : TGs} {a : Addr} {xs : List V} {R : L2.St → Hp → Prop} (l : SqT K H a xs) (e : xs.length = n) (h : t xs σ H R) : gTup K n t (.ref a) σ H R := ⟨a, xs, rfl, l, e, h⟩
theorem x_gcons {t : TG} {u : TGs} {v : V} {r : List V} {R : L2.St → Hp → Prop} (h : t v σ H fun σ' H' => u r σ' H' R) : gCons t u (v :: r) σ H R := ⟨v, r, rfl, h⟩
theorem x_gnil {R : L2.St → Hp → Prop} (h : R σ H) : gNil [] σ H R := ⟨rfl, h⟩
theorem x_divmod {i j : Int} (l : CDivP i j) (h : ∀ p, H p = none → Q (.ref p) (upd H p (.tup [.int (i / j), .int (i % j)]))) : rDivmodW [.int i, .int j] H Q := ⟨l, h⟩
theorem x_revL {te : TE} (h : te σ H fun x H1 => ∃ a xs, x = .ref a ∧ SqL K H1 a xs ∧ ∀ p, H1 p = none → Q (.ref p) (upd H1 p (.lst xs.reverse))) : tRevL K te σ H Q := h
theorem x_revLk {a : Addr} {xs : List V} {R : Addr → List V → Prop} (l : SqL K H a xs) (h : ∀ p, H p = none → R p xs) : ∃ a' xs, V.ref a = .ref a' ∧ SqL K H a' xs ∧ ∀ p, H p = none → R p xs := ⟨a, xs, rfl, l, h⟩
theorem x_strI {i : Int} (l : i.natAbs.log2 < 1920) (h : Q (.str (toString i)) H) : rStrU [.int i] H Q := ⟨l, h⟩
theorem x_intS {a : Str} {n : Int} (e : PySem.intText? a = some n) (l : a.length ≤ 640) (h : Q (.int n) H) : rIntU [.str a] H Q := ⟨n, e, l, h⟩
theorem x_isN {x : V} (h : Q (.bl (decide (x = .non))) H) : rIsN x .non H Q := ⟨rfl, h⟩
theorem x_notN {x : V} (h : Q (.bl (!decide (x = .non))) H) : rNotN x .non H Q := ⟨rfl, h⟩
theorem x_unNeg {i : Int} (h : Q (.int (-i)) H) : rU (fun i => .int (-i)) (.int i) H Q := ⟨i, rfl, h⟩
theorem tyV_str {z : Str} : tyV K "str" (.str z) H := rfl
theorem tyV_lst {p : Addr} {xs : List V} (h : H p = some (.lst xs)) : tyV K "list" (.ref p) H := .inl ⟨rfl, xs, .inl (.inl h)⟩
theorem x_bms {T : Prop} {R : Prop} (t : T) (h : R) : T ∧ R := ⟨t, h⟩
/-! heaps that grow -/
theorem upd_new {a p : Addr} {o u : HO} (h : H a = some u) (n : H p = none) : upd H p o a = some u := by rw [upd_ne (ne_of_none h n)]; exact h
theorem same_new {p : Addr} {o : HO} (n : H p = none) : Same H (upd H p o) := fun b x e => upd_new e n
theorem same_mut {H0 : Hp} {p : Addr} {o : HO} (s : Same H0 H) (n : H0 p = none) : Same H0 (upd H p o) := fun b x e => by rw [upd_ne (ne_of_none e n)]; exact s b x e
theorem same_none {H0 : Hp} {p : Addr} (s : Same H0 H) (n : H p = none) : H0 p = none := s.free n
theorem Same.seqT {H' : Hp} {a : Addr} {xs : List V} (e : Same H H') (h : SqT K H a xs) : SqT K H' a xs := by
  rcases h with (h | ⟨o, h⟩) | h
  · exact .inl (.inl (e _ _ h))
  · exact .inl (.inr ⟨o, e _ _ h⟩)
  · exact .inr h
/-- a constant of the module -/
theorem pe_const {X : Cx} {x : Str} {v : V} {pos : Pos} (c : ∃ u, X.mg x = some u ∧ RelV v u) (hg : Gl X x) (hd : (x == ("__debug__" : Str)) = false := by decide) : PE X (.Name x pos) (tC v) := by
  obtain ⟨u, h, r⟩ := c
  exact pe_glob hg h r hd
/-! ranges with a step of 18 -/
theorem RgC.by18 {i j : Int} (hi : 0 ≤ i) (hj2 : j < 4611686018427387904) (hij : i ≤ j) (hd : (j - i) % 18 = 0) : RgC i j 18 ((j - i) / 18).toNat := by
  have e : Builtin.Range.rangeSize i j 18 = (j - i) / 18 := by
    unfold Builtin.Range.rangeSize
    rw [if_pos (by decide)]
    split <;> omega
  refine ⟨by decide, by decide, ?_, by rw [e]; omega⟩
  unfold Builtin.Range.small
  rw [e]
  simp only [Builtin.Range.rangeFitsLong, Bool.and_eq_true, Bool.or_eq_true, decide_eq_true_eq, beq_iff_eq, show ((18 : Int) > 0) by decide, if_true]
  omega
/-- both ways of a conditional expression give v -/
theorem x_ifE {c : Prop} [Decidable c] {ta tb : TE} {v : V} (h1 : c → ∀ Q : VK, Q v H → ta σ H Q) (h2 : ¬ c → ∀ Q : VK, Q v H → tb σ H Q) (h : Q v H) : if decide c = true then ta σ H Q else tb σ H Q :=
  x_dec (fun c => h1 c Q h) (fun c => h2 c Q h)
theorem at_g {α : Type} {xs : List α} {z : Int} {v : α} (j : Nat) (e : z = (j : Int)) (h : xs[j]? = some v) : atI xs z = some v := by
  rw [e]
  exact atI_nat h
theorem szL {xs : List V} (h : Nat.ble xs.length 100 = true) : xs.length ≤ sizeLine := Nat.le_trans (Nat.le_of_ble_eq_true h) (by decide)
end
end Nv

namespace Nv
open PySem PySem.Spec PyProof.Rows L2 TL
/-! ### texts as lists of codes -/
def S (l : List Nat) : Str := ⟨l.toArray⟩
theorem tl_S (l : List Nat) : tl (S l) = l := rfl
theorem S_tl (x : Str) : S (tl x) = x := ext_tl rfl
theorem S_app (a b : List Nat) : S (a ++ b) = S a ++ S b := ext_tl (by rw [tl_append]; rfl)
theorem S_len (l : List Nat) : (S l).length = l.length := by rw [len_tl]; rfl
theorem S_inj {a b : List Nat} (h : S a = S b) : a = b := congrArg tl h
theorem sizeOf_line {n : Nat} (h : n ≤ 16777216) : n ≤ sizeLine := by rw [sizeLine_eq]; exact h
theorem sizeLt_line {n : Nat} (h : n < 16777216) : n < sizeLine := by rw [sizeLine_eq]; exact h
theorem cut_pre (l : List Nat) (n : Nat) : cutS (S l) none (some (n : Int)) = S (l.take n) := by
  refine ext_tl ?_
  show (l.drop 0).take (HT.sIx (S l).length (S l).length (some (n : Int)) - 0) = l.take n
  rw [List.drop_zero, HT.sIx_nat, S_len, Nat.sub_zero]
  by_cases h : n ≤ l.length
  · rw [Nat.min_eq_left h]
  · rw [Nat.min_eq_right (by omega), List.take_of_length_le (Nat.le_refl _), List.take_of_length_le (by omega)]
theorem cut_suf (l : List Nat) (n : Nat) : cutS (S l) (some (n : Int)) none = S (l.drop n) := by
  refine ext_tl ?_
  show (l.drop (HT.sIx (S l).length 0 (some (n : Int)))).take (HT.sIx (S l).length (S l).length none - HT.sIx (S l).length 0 (some (n : Int))) = l.drop n
  rw [HT.sIx_nat, HT.sIx_none, S_len]
  by_cases h : n ≤ l.length
  · rw [Nat.min_eq_left h, List.take_of_length_le (by rw [List.length_drop]; omega)]
  · rw [Nat.min_eq_right (by omega), List.drop_of_length_le (Nat.le_refl _), List.drop_of_length_le (by omega), List.take_nil]
theorem cut_mid (l : List Nat) (a b : Nat) (h : a ≤ b) : cutS (S l) (some (a : Int)) (some (b : Int)) = S ((l.drop a).take (b - a)) := by
  refine ext_tl ?_
  show (l.drop (HT.sIx (S l).length 0 (some (a : Int)))).take (HT.sIx (S l).length (S l).length (some (b : Int)) - HT.sIx (S l).length 0 (some (a : Int))) = (l.drop a).take (b - a)
  rw [HT.sIx_nat, HT.sIx_nat, S_len]
  by_cases ha : a ≤ l.length
  · rw [Nat.min_eq_left ha]
    by_cases hb : b ≤ l.length
    · rw [Nat.min_eq_left hb]
    · rw [Nat.min_eq_right (by omega), List.take_of_length_le (by rw [List.length_drop]; omega), List.take_of_length_le (by rw [List.length_drop]; omega)]
  · rw [Nat.min_eq_right (by omega), Nat.min_eq_right (by omega), List.drop_of_length_le (Nat.le_refl _), List.drop_of_length_le (by omega), List.take_nil, List.take_nil]
/-! ### decimal digits -/
def padL : Nat → Nat → List Nat
  | 0, _ => []
  | k + 1, g => padL k (g / 10) ++ [48 + g % 10]
theorem padL_len : ∀ k g, (padL k g).length = k
  | 0, _ => rfl
  | k + 1, g => by
    show (padL k (g / 10) ++ [48 + g % 10]).length = k + 1
    rw [List.length_append, padL_len k]
    rfl
theorem padL_zero : ∀ k, padL k 0 = List.replicate k 48
  | 0 => rfl
  | k + 1 => by
    show padL k 0 ++ [48] = _
    rw [padL_zero k, List.replicate_succ']
theorem numL_pad {v : Nat} (hv : 0 < v) : ∀ k g, g < 10 ^ k → numL (v * 10 ^ k + g) = numL v ++ padL k g
  | 0, g, h => by
    have e : g = 0 := by simpa using h
    subst e
    show numL (v * 1 + 0) = numL v ++ []
    rw [List.append_nil, Nat.mul_one]
    rfl
  | k + 1, g, h => by
    have h1 : g / 10 < 10 ^ k := by
      rw [Nat.pow_succ] at h
      omega
    have p : 0 < 10 ^ k := Nat.pow_pos (by decide)
    have big : 10 ≤ v * 10 ^ (k + 1) := by
      have q : 1 * 1 ≤ v * 10 ^ k := Nat.mul_le_mul hv p
      rw [Nat.pow_succ, ← Nat.mul_assoc]
      omega
    have e1 : (v * 10 ^ (k + 1) + g) / 10 = v * 10 ^ k + g / 10 := by
      rw [Nat.pow_succ, ← Nat.mul_assoc]
      omega
    have e2 : (v * 10 ^ (k + 1) + g) % 10 = g % 10 := by
      rw [Nat.pow_succ, ← Nat.mul_assoc]
      omega
    rw [numL_step (by omega), e1, e2, numL_pad hv k _ h1, List.append_assoc]
    rfl
theorem pad_num : ∀ k g, g < 10 ^ k → 0 < k → padL k g = List.replicate (k - (numL g).length) 48 ++ numL g
  | 0, g, _, h => absurd h (by decide)
  | k + 1, g, hg, _ => by
    show padL k (g / 10) ++ [48 + g % 10] = _
    by_cases h : g < 10
    · rw [numL_lt h, show g / 10 = 0 by omega, padL_zero, Nat.mod_eq_of_lt h]
      rfl
    · have h1 : g / 10 < 10 ^ k := by
        rw [Nat.pow_succ] at hg
        omega
      have hk : 0 < k := by
        cases k with
        | zero =>
          rw [Nat.pow_zero] at h1
          omega
        | succ k => exact Nat.succ_pos k
      rw [pad_num k _ h1 hk, numL_step (n := g) (by omega), List.length_append, List.append_assoc]
      show List.replicate (k - (numL (g / 10)).length) 48 ++ _ = List.replicate (k + 1 - ((numL (g / 10)).length + 1)) 48 ++ _
      rw [Nat.add_sub_add_right]
theorem zfill_num {k g : Nat} (h : g < 10 ^ k) (hk : 0 < k) : Txt.zfill (Str.ofString (toString ((g : Nat) : Int))) (k : Int) = S (padL k g) := by
  refine ext_tl ?_
  have e : tl (Str.ofString (toString ((g : Nat) : Int))) = numL g := tl_num g
  have el : (Str.ofString (toString ((g : Nat) : Int))).length = (numL g).length := by rw [len_tl, e]
  have p := pad_num k g h hk
  have hl := padL_len k g
  unfold Txt.zfill
  rw [tl_S, el]
  by_cases c : (k : Int) ≤ ((numL g).length : Int)
  · rw [if_pos c, e, p, show k - (numL g).length = 0 by omega]
    rfl
  · rw [if_neg c]
    have hd : ∃ c r, numL g = c :: r ∧ c ≠ 43 ∧ c ≠ 45 := by
      have dg := numL_digits g
      cases q : numL g with
      | nil => exact absurd q (numL_ne g)
      | cons c r =>
        rw [q] at dg
        have := dg.head
        exact ⟨c, r, rfl, by omega, by omega⟩
    obtain ⟨c0, r0, q, n1, n2⟩ := hd
    have z : (Str.ofString (toString ((g : Nat) : Int))).cps[0]? = some c0 := by
      have : (Str.ofString (toString ((g : Nat) : Int))).cps.toList[0]? = some c0 := by
        show (tl _)[0]? = _
        rw [e, q]
        rfl
      simpa using this
    unfold zfilled
    rw [z]
    have fin : tl (Builtin.Str.padded (Str.ofString (toString ((g : Nat) : Int))) ((k : Int).toNat - (numL g).length) 0 48) = padL k g := by
      unfold Builtin.Str.padded
      show (Array.replicate ((k : Int).toNat - (numL g).length) 48 ++ (Str.ofString (toString ((g : Nat) : Int))).cps ++ Array.replicate 0 48).toList = _
      rw [Array.toList_append, Array.toList_append, Array.toList_replicate, Array.toList_replicate]
      show List.replicate ((k : Int).toNat - (numL g).length) 48 ++ tl (Str.ofString (toString ((g : Nat) : Int))) ++ List.replicate 0 48 = _
      rw [e, p, List.replicate_zero, List.append_nil]
      rfl
    split
    · rename_i y; cases y; exact absurd rfl n1
    · rename_i y; cases y; exact absurd rfl n2
    · exact fin
/-- the text of an integer -/
def decS (v : Int) : Str := if v < 0 then S (45 :: numL v.natAbs) else S (numL v.natAbs)
theorem str_num (n : Nat) : Str.ofString (toString ((n : Nat) : Int)) = S (numL n) := ext_tl (tl_num n)
theorem str_nn {v : Int} (h : 0 ≤ v) : Str.ofString (toString v) = S (numL v.natAbs) := by
  obtain ⟨n, rfl⟩ := Int.eq_ofNat_of_zero_le h
  exact str_num n
/-! ### values of digits -/
def vald (l : List Nat) : Nat := NumText.digitsVal l
theorem foldl_val (l : List Nat) : ∀ a : Nat, l.foldl (fun acc c => acc * 10 + (c - 48)) a = a * 10 ^ l.length + l.foldl (fun acc c => acc * 10 + (c - 48)) 0 := by
  induction l with
  | nil => intro a; simp
  | cons c r ih =>
    intro a
    rw [List.foldl_cons, List.foldl_cons, ih (a * 10 + (c - 48)), ih (0 * 10 + (c - 48)), List.length_cons, Nat.pow_succ, Nat.zero_mul, Nat.zero_add, Nat.add_mul, Nat.mul_assoc, Nat.add_assoc]
    congr 1
    rw [Nat.mul_comm 10]
theorem vald_app (a b : List Nat) : vald (a ++ b) = vald a * 10 ^ b.length + vald b := by
  unfold vald NumText.digitsVal
  rw [List.foldl_append, foldl_val]
theorem vald_num (n : Nat) : vald (numL n) = n := numL_val n
theorem int_S {l : List Nat} (h : NumText.AllDigits l) (h1 : l ≠ []) (h2 : l.length ≤ 640) : PySem.intText? (S l) = some ((vald l : Nat) : Int) :=
  intText_digits (x := S l) h h1 (by rw [S_len]; omega)
theorem all_take {l : List Nat} (h : NumText.AllDigits l) (n : Nat) : NumText.AllDigits (l.take n) := fun c hc => h c (List.mem_of_mem_take hc)
theorem all_drop {l : List Nat} (h : NumText.AllDigits l) (n : Nat) : NumText.AllDigits (l.drop n) := fun c hc => h c (List.mem_of_mem_drop hc)
/-! ### where a text of an integer breaks -/
def isDig (c : Nat) : Bool := 48 ≤ c && c ≤ 57
def fbeg (l : List Nat) : Nat := if l.take 1 = [45] then 1 else 0
def fbad (l : List Nat) (i : Nat) : Bool := match l[i]? with
  | none => false
  | some c => !isDig c || (i == fbeg l && c == 48 && fbeg l == 1) || (i == fbeg l + 1 && l[fbeg l]? == some 48)
/-- the index of the first bad place at or behind i, n places being left -/
def fscan (l : List Nat) : Nat → Nat → Option Nat
  | 0, _ => none
  | n + 1, i => if fbad l i = true then some i else fscan l n (i + 1)
def ferr (l : List Nat) : Option Nat := match fscan l (l.length - fbeg l) (fbeg l) with
  | some i => some (i + 1)
  | none => if l.length = fbeg l then some (fbeg l + 1) else none
theorem fscan_none {l : List Nat} : ∀ {n i : Nat}, (∀ j, i ≤ j → j < i + n → fbad l j = false) → fscan l n i = none
  | 0, _, _ => rfl
  | n + 1, i, h => by
    show (if fbad l i = true then some i else fscan l n (i + 1)) = none
    rw [h i (Nat.le_refl _) (by omega), if_neg Bool.false_ne_true]
    exact fscan_none fun j h1 h2 => h j (by omega) (by omega)
theorem fscan_some {l : List Nat} : ∀ {n i j : Nat}, (∀ k, i ≤ k → k < j → fbad l k = false) → fbad l j = true → i ≤ j → j < i + n → fscan l n i = some j
  | 0, i, j, _, _, h1, h2 => by omega
  | n + 1, i, j, h, hb, h1, h2 => by
    show (if fbad l i = true then some i else fscan l n (i + 1)) = some j
    by_cases e : i = j
    · subst e
      rw [if_pos hb]
    · rw [h i (Nat.le_refl _) (by omega), if_neg Bool.false_ne_true]
      exact fscan_some (fun k h3 h4 => h k (by omega) h4) hb (by omega) (by omega)
theorem numL_head {n : Nat} (h : 0 < n) : ∃ c r, numL n = c :: r ∧ c ≠ 48 := by
  induction n using Nat.strongRecOn with
  | _ n ih =>
    by_cases q : n < 10
    · exact ⟨48 + n, [], numL_lt q, by omega⟩
    · obtain ⟨c, r, e, hc⟩ := ih (n / 10) (by omega) (by omega)
      exact ⟨c, r ++ [48 + n % 10], by rw [numL_step (by omega), e]; rfl, hc⟩
theorem isDig_of {c : Nat} (h : 48 ≤ c ∧ c ≤ 57) : isDig c = true := by
  unfold isDig
  rw [decide_eq_true h.1, decide_eq_true h.2]
  rfl
theorem ferr_num (n : Nat) : ferr (numL n) = none := by
  have dg := numL_digits n
  have ne := numL_ne n
  have b0 : fbeg (numL n) = 0 := by
    unfold fbeg
    rw [if_neg]
    intro e
    have : 45 ∈ numL n := List.mem_of_mem_take (by rw [e]; exact List.mem_cons_self)
    have := dg 45 this
    omega
  unfold ferr
  rw [b0]
  have s : fscan (numL n) ((numL n).length - 0) 0 = none := fscan_none fun j _ hj => by
    unfold fbad
    rw [b0]
    have hl : j < (numL n).length := by omega
    rw [List.getElem?_eq_getElem hl]
    show (!isDig (numL n)[j] || (j == 0 && (numL n)[j] == 48 && (0 : Nat) == 1) || (j == 0 + 1 && (numL n)[0]? == some 48)) = false
    rw [isDig_of (dg _ (List.getElem_mem hl))]
    by_cases h0 : n < 10
    · have hl' : (numL n).length = 1 := by rw [numL_lt h0]; rfl
      have : j = 0 := by omega
      subst this
      simp
    · obtain ⟨c, r, e, hc⟩ := numL_head (n := n) (by omega)
      have h2 : ((numL n)[0]? == some 48) = false := by
        rw [e]
        show (some c == some 48) = false
        simpa using hc
      rw [h2, Bool.and_false]
      simp
  rw [s]
  have : ¬ (numL n).length = 0 := fun e => ne (List.length_eq_zero_iff.mp e)
  show (if (numL n).length = 0 then some (0 + 1) else none) = none
  rw [if_neg this]
theorem ferr_neg {n : Nat} (h : 0 < n) : ferr (45 :: numL n) = none := by
  have dg := numL_digits n
  have ne := numL_ne n
  have b0 : fbeg (45 :: numL n) = 1 := rfl
  obtain ⟨c, r, e, hc⟩ := numL_head h
  unfold ferr
  rw [b0]
  have s : fscan (45 :: numL n) ((45 :: numL n).length - 1) 1 = none := fscan_none fun j h1 hj => by
    unfold fbad
    rw [b0]
    obtain ⟨i, rfl⟩ : ∃ i, j = i + 1 := ⟨j - 1, by omega⟩
    have hl : i < (numL n).length := by
      rw [List.length_cons] at hj
      omega
    rw [List.getElem?_cons_succ, List.getElem?_eq_getElem hl]
    show (!isDig (numL n)[i] || (i + 1 == 1 && (numL n)[i] == 48 && (1 : Nat) == 1) || (i + 1 == 1 + 1 && (45 :: numL n)[1]? == some 48)) = false
    rw [isDig_of (dg _ (List.getElem_mem hl))]
    have h2 : ((45 :: numL n)[1]? == some 48) = false := by
      rw [e]
      show (some c == some 48) = false
      simpa using hc
    rw [h2, Bool.and_false]
    by_cases hi : i = 0
    · subst hi
      have h3 : (numL n)[0] = c := by simp [e]
      rw [h3]
      have : (c == 48) = false := by simpa using hc
      rw [this]
      rfl
    · have : (i + 1 == 1) = false := by simpa using hi
      rw [this]
      rfl
  rw [s]
  show (if (45 :: numL n).length = 1 then some (1 + 1) else none) = none
  rw [if_neg]
  rw [List.length_cons]
  intro q
  exact ne (List.length_eq_zero_iff.mp (by omega))
end Nv

namespace Nv
open PySem PySem.Spec PyProof.Rows L2 TL
local macro_rules | `(tactic| walk_at "sx") => `(tactic| repeat (first
  | with_reducible refine x_seq ?_ | with_reducible refine x_asg ?_ | with_reducible refine x_name ?_ | ((with_reducible show tVar _ _ _ _); refine x_var rfl ?_) | with_reducible refine x_c ?_ | with_reducible refine x_op ?_
  | with_reducible refine x_un ?_ | with_reducible refine x_drop ?_ | with_reducible refine x_ret ?_ | with_reducible refine x_retN ?_ | with_reducible refine x_next ?_ | with_reducible refine x_ifS ?_ | with_reducible refine x_if ?_
  | with_reducible refine x_test ?_ | with_reducible refine x_blk ?_ | with_reducible refine x_and ?_ | with_reducible refine x_or ?_ | with_reducible refine x_not ?_ | with_reducible refine x_nil ?_ | with_reducible refine x_cons ?_
  | with_reducible refine x_cb ?_ | with_reducible refine x_call ?_ | with_reducible refine x_lst ?_ | with_reducible refine x_tup ?_ | with_reducible refine x_sub ?_ | with_reducible refine x_bm ?_ | with_reducible refine x_bm0 ?_
  | with_reducible refine x_sl ?_ | with_reducible refine x_noPart ?_ | with_reducible refine x_part ?_ | with_reducible refine x_intk ?_ | with_reducible refine x_tru ?_ | with_reducible refine x_truB ?_ | with_reducible refine x_truN ?_ | with_reducible refine x_truI ?_
  | with_reducible refine x_addI ?_ | with_reducible refine x_subI ?_ | with_reducible refine x_ltI ?_ | with_reducible refine x_leI ?_ | with_reducible refine x_gtI ?_ | with_reducible refine x_geI ?_ | with_reducible refine x_eqI ?_ | with_reducible refine x_neI ?_
  | with_reducible refine x_eqS ?_ | with_reducible refine x_neS ?_ | with_reducible refine x_intI ?_ | with_reducible refine x_abs ?_ | with_reducible refine x_inS ?_ | with_reducible refine x_notInS ?_
  | with_reducible refine x_true ?_ | with_reducible refine x_false ?_ | with_reducible refine x_ntrue ?_ | with_reducible refine x_nfalse ?_
  | with_reducible refine x_mulR (by first | decide | omega) (by first | decide | omega) ?_
  | with_reducible refine x_mulL (by first | decide | omega) (by first | decide | omega) ?_
  | with_reducible refine x_modI (by first | decide | assumption | omega) ?_
  | with_reducible refine x_fdivI (by first | decide | assumption | omega) (by first | decide | assumption | omega) ?_
  | with_reducible refine x_powL (k := 1000000000000000000) (by decide) (by decide) (by decide) (by decide) ?_
  | with_reducible refine x_powL (k := 1000000000) (by decide) (by decide) (by decide) (by decide) ?_
  | with_reducible refine x_for ?_ | with_reducible refine x_rng1 ?_ | with_reducible refine x_rng2 ?_ | with_reducible refine x_rng3 ?_ | with_reducible refine x_iList ?_ | with_reducible refine x_iTup ?_
  | with_reducible refine x_rngk1 (by first | decide | omega) (by first | decide | omega) ?_
  | with_reducible refine x_rngk2 (by first | decide | omega) (by first | decide | omega) (by first | decide | omega) (by first | decide | omega) ?_
  | with_reducible refine x_gcons ?_ | with_reducible refine x_gnil ?_ | with_reducible refine x_revL ?_ | with_reducible refine x_isN ?_ | with_reducible refine x_notN ?_ | with_reducible refine x_unNeg ?_
  | with_reducible refine x_bms tyV_str ?_))
def optV : Option Nat → V
  | none => .non
  | some p => .int (p : Int)
def sp_first_error (K : PySem.W.Frag) : Sp := fun vs H Q _ => ∃ l : List Nat, vs = [.str (S l)] ∧ l.length ≤ 16000000 ∧ Q (optV (ferr l)) H
def valI (l : List Nat) : Int := if l.take 1 = [45] then -((vald (l.drop 1) : Nat) : Int) else ((vald l : Nat) : Int)
def sp_read_integer (K : PySem.W.Frag) : Sp := fun vs H Q _ => ∃ l : List Nat, vs = [.str (S l)] ∧ l.length ≤ 16000000 ∧ ferr l = none ∧ Q (.int (valI l)) H
def sp_write_integer (K : PySem.W.Frag) : Sp := fun vs H Q _ => ∃ v : Int, vs = [.int v] ∧ (numL v.natAbs).length ≤ 1000000 ∧ ∀ H', Same H H' → Q (.str (decS v)) H'
/-- write_integer, slots ['value', 'rest', 'parts', 'part', 'text'] -/
def t_write_integer (K : PySem.W.Frag) (E : XK) : TS :=
  (tSeq (tAsg (tCB rAbsU (tCons (tVar 0) tNil)) (gName 1))
  (tSeq (tAsg (tLst tNil) (gName 2))
  (tSeq (tWhile (tTest (tOp rGeU (tVar 1) (tC (.int 1000000000000000000)))) (tSeq (tAsg (tCB rDivmodW (tCons (tVar 1) (tCons (tC (.int 1000000000000000000)) tNil))) (gTup K 2 (gCons (gName 1) (gCons (gName 3) gNil))))
  (tDrop (tBM K "list" rAppend (tVar 2) (tCons (tBM K "str" rZfillU (tCB rStrU (tCons (tVar 3) tNil)) (tCons (tC (.int 18)) tNil)) tNil)))))
  (tSeq (tDrop (tBM K "list" rAppend (tVar 2) (tCons (tCB rStrU (tCons (tVar 1) tNil)) tNil)))
  (tSeq (tAsg (tBM K "str" (rJoinU K) (tC (.str "")) (tCons (tRevL K (tVar 2)) tNil)) (gName 4))
  (tRet (tIf (tTest (tOp rLtU (tVar 0) (tC (.int 0)))) (tOp (rAddU K) (tC (.str "-")) (tVar 4)) (tVar 4))))))))
abbrev N_write_integer : List Str := ["value", "rest", "parts", "part", "text"]
/-- first_error, slots ['text', 'begin', 'index'] -/
def t_first_error (K : PySem.W.Frag) (E : XK) : TS :=
  (tSeq (tAsg (tIf (tTest (tOp rEq (tSl (rSlU K) (tVar 0) tNoPart (tPart (tC (.int 1)))) (tC (.str "-")))) (tC (.int 1)) (tC (.int 0))) (gName 1))
  (tSeq (tFor (iRng2 (tCons (tVar 1) (tCons (tCB (rLenU K) (tCons (tVar 0) tNil)) tNil))) (gName 2) (tSeq (tIfS (tTest (tOp (rNotInU K) (tOp (rIx K) (tVar 0) (tVar 2)) (tC (.str "0123456789")))) (tRet (tOp (rAddU K) (tVar 2) (tC (.int 1)))) tNext)
  (tSeq (tIfS (tAnd (tTest (tOp rEq (tVar 2) (tVar 1))) (tAnd (tTest (tOp rEq (tOp (rIx K) (tVar 0) (tVar 2)) (tC (.str "0")))) (tTest (tOp rEq (tVar 1) (tC (.int 1)))))) (tRet (tOp (rAddU K) (tVar 2) (tC (.int 1)))) tNext)
  (tIfS (tAnd (tTest (tOp rEq (tVar 2) (tOp (rAddU K) (tVar 1) (tC (.int 1))))) (tTest (tOp rEq (tOp (rIx K) (tVar 0) (tVar 1)) (tC (.str "0"))))) (tRet (tOp (rAddU K) (tVar 2) (tC (.int 1)))) tNext))))
  (tSeq (tIfS (tTest (tOp rEq (tCB (rLenU K) (tCons (tVar 0) tNil)) (tVar 1))) (tRet (tOp (rAddU K) (tVar 1) (tC (.int 1)))) tNext)
  (tRet (tC .non)))))
abbrev N_first_error : List Str := ["text", "begin", "index"]
/-- read_integer, slots ['text', 'position', 'digits', 'head', 'value', 'index'] -/
def t_read_integer (K : PySem.W.Frag) (E : XK) : TS :=
  (tSeq (tIfS (tNot (tTruU K (tCB (rIsiU K) (tCons (tVar 0) (tCons (tC (.ty "str")) tNil))))) tNever tNext)
  (tSeq (tAsg (tCallS (sp_first_error K) (WE (fun cls d _ H => E cls d H)) (tCons (tVar 0) tNil)) (gName 1))
  (tSeq (tIfS (tTest (tOp rNotN (tVar 1) (tC .non))) tNever tNext)
  (tSeq (tAsg (tIf (tTest (tOp rEq (tOp (rIx K) (tVar 0) (tC (.int 0))) (tC (.str "-")))) (tSl (rSlU K) (tVar 0) (tPart (tC (.int 1))) tNoPart) (tVar 0)) (gName 2))
  (tSeq (tAsg (tOp rModU (tCB (rLenU K) (tCons (tVar 2) tNil)) (tC (.int 18))) (gName 3))
  (tSeq (tAsg (tIf (tTest (tOp rGtU (tVar 3) (tC (.int 0)))) (tCB rIntU (tCons (tSl (rSlU K) (tVar 2) tNoPart (tPart (tVar 3))) tNil)) (tC (.int 0))) (gName 4))
  (tSeq (tFor (iRng3 (tCons (tVar 3) (tCons (tCB (rLenU K) (tCons (tVar 2) tNil)) (tCons (tC (.int 18)) tNil)))) (gName 5) (tAsg (tOp (rAddU K) (tOp rMulU (tVar 4) (tC (.int 1000000000000000000))) (tCB rIntU (tCons (tSl (rSlU K) (tVar 2) (tPart (tVar 5)) (tPart (tOp (rAddU K) (tVar 5) (tC (.int 18))))) tNil))) (gName 4)))
  (tRet (tIf (tTest (tOp rEq (tOp (rIx K) (tVar 0) (tC (.int 0))) (tC (.str "-")))) (tUn (rU fun i => .int (-i)) (tVar 4)) (tVar 4))))))))))
abbrev N_read_integer : List Str := ["text", "position", "digits", "head", "value", "index"]
theorem one_eq (c : Nat) (s : String) (d : Nat) (h : Str.ofString s = ⟨#[d]⟩) : (⟨#[c]⟩ : Str) = Str.ofString s ↔ c = d := by
  rw [h]
  constructor
  · intro e
    have := congrArg Str.cps e
    simpa using this
  · intro e
    rw [e]
theorem take1_eq (l : List Nat) : S (l.take 1) = Str.ofString "-" ↔ l.take 1 = [45] := by
  rw [show Str.ofString "-" = S [45] from rfl]
  exact ⟨S_inj, fun e => by rw [e]⟩
theorem digits_mem (c : Nat) : c ∈ (Str.ofString "0123456789").cps.toList ↔ isDig c = true := by
  rw [show (Str.ofString "0123456789").cps.toList = [48, 49, 50, 51, 52, 53, 54, 55, 56, 57] from rfl]
  unfold isDig
  simp only [List.mem_cons, List.not_mem_nil, or_false, Bool.and_eq_true, decide_eq_true_eq]
  omega
theorem ferr_at {l : List Nat} {k : Nat} (h : ∀ j, fbeg l ≤ j → j < k → fbad l j = false) (hb : fbad l k = true) (h1 : fbeg l ≤ k) (h2 : k < l.length) : ferr l = some (k + 1) := by
  unfold ferr
  rw [fscan_some h hb h1 (by omega)]
theorem ferr_end {l : List Nat} (h : ∀ j, fbeg l ≤ j → j < l.length → fbad l j = false) (hb : fbeg l ≤ l.length) : ferr l = if l.length = fbeg l then some (fbeg l + 1) else none := by
  unfold ferr
  rw [fscan_none fun j h1 h2 => h j h1 (by omega)]
theorem fbeg_le (l : List Nat) : fbeg l ≤ l.length := by
  unfold fbeg
  split
  · rename_i h
    cases l with
    | nil => cases h
    | cons a r => simp
  · omega
theorem fbeg_le1 (l : List Nat) : fbeg l ≤ 1 := by
  unfold fbeg
  split <;> omega
theorem fbad_eq {l : List Nat} {k c : Nat} (h : l[k]? = some c) : fbad l k = (!isDig c || (k == fbeg l && c == 48 && fbeg l == 1) || (k == fbeg l + 1 && l[fbeg l]? == some 48)) := by
  unfold fbad
  rw [h]
theorem r_first_error (K : PySem.W.Frag) (vs : List V) (H : Hp) (Q : VK) (E : XK) (h : sp_first_error K vs H Q E) :
    t_first_error K E { nx := fun _ H' => Q .non H', rt := Q } (start N_first_error vs) H := by
  obtain ⟨l, rfl, hl, q⟩ := h
  show t_first_error K E _ [some (.str (S l)), none, none] H
  have sl : (S l).length ≤ sizeLine := sizeOf_line (by rw [S_len]; omega)
  have b1 := fbeg_le1 l
  have b2 := fbeg_le l
  unfold t_first_error
  walk_at "sx"
  refine x_slS sl ?_
  rw [show cutS (S l) none (some 1) = S (l.take 1) from cut_pre l 1]
  walk_at "sx"
  refine x_ifE (v := .int (fbeg l : Nat)) (fun c Q' q' => ?_) (fun c Q' q' => ?_) ?_
  · have : fbeg l = 1 := by unfold fbeg; rw [if_pos ((take1_eq l).mp c)]
    rw [this] at q'
    exact q'
  · have : fbeg l = 0 := by unfold fbeg; rw [if_neg fun e => c ((take1_eq l).mpr e)]
    rw [this] at q'
    exact q'
  walk_at "sx"
  refine x_lenS sl ?_
  rw [S_len]
  walk_at "sx"
  refine for_range (fun i σ' H' => H' = H ∧ (∃ z, σ' = [some (.str (S l)), some (.int (fbeg l : Nat)), z]) ∧ ∀ j, fbeg l ≤ j → j < fbeg l + i → fbad l j = false) ⟨rfl, ⟨none, rfl⟩, fun j h1 h2 => by omega⟩ ?_ ?_
  · rintro i σ' H' hi ⟨rfl, ⟨z, rfl⟩, hp⟩
    obtain ⟨k, hk⟩ : ∃ k, k = fbeg l + i := ⟨_, rfl⟩
    have hkl : k < l.length := by omega
    obtain ⟨c, hc⟩ : ∃ c, l[k]? = some c := ⟨_, List.getElem?_eq_getElem hkl⟩
    have hb := fbad_eq hc
    have hat : atI (S l).cps.toList ((fbeg l : Int) + (i : Int)) = some c := at_g k (by omega) hc
    have done : fbad l k = true → Q (.int ((fbeg l : Int) + (i : Int) + 1)) H' := fun e => by
      have := ferr_at (fun j h1 h2 => hp j h1 (by omega)) e (by omega) hkl
      rw [this] at q
      have e2 : (fbeg l : Int) + (i : Int) + 1 = ((k + 1 : Nat) : Int) := by omega
      rw [e2]
      exact q
    have next : fbad l k = false → ∀ j, fbeg l ≤ j → j < fbeg l + (i + 1) → fbad l j = false := fun e j h1 h2 => by
      by_cases hj : j = k
      · rw [hj]; exact e
      · exact hp j h1 (by omega)
    have at0 : fbeg l < l.length → ∃ c0, l[fbeg l]? = some c0 := fun h => ⟨_, List.getElem?_eq_getElem h⟩
    walk_at "sx"
    refine x_ixS sl hat ?_
    walk_at "sx"
    refine x_decN (fun nd => ?_) (fun yd => ?_)
    · walk_at "sx"
      refine done ?_
      rw [hb, Bool.eq_false_iff.mpr fun z => nd ((digits_mem c).mpr z)]
      rfl
    have hd := (digits_mem c).mp yd
    walk_at "sx"
    refine x_dec (fun e1 => ?_) (fun e1 => ?_)
    · have hkb : k = fbeg l := by omega
      walk_at "sx"
      refine x_ixS sl hat ?_
      walk_at "sx"
      refine x_dec (fun e2 => ?_) (fun e2 => ?_)
      · have hc0 : c = 48 := (one_eq c "0" 48 rfl).mp e2
        walk_at "sx"
        refine x_dec (fun e3 => ?_) (fun e3 => ?_)
        · walk_at "sx"
          refine done ?_
          rw [hb, hkb, hc0, show fbeg l = 1 by omega]
          simp
        · walk_at "sx"
          refine x_decF (by omega) ?_
          walk_at "sx"
          refine ⟨rfl, ⟨_, rfl⟩, next ?_⟩
          rw [hb, hd, hkb, show fbeg l = 0 by omega]
          simp
      · have hc0 : c ≠ 48 := fun z => e2 ((one_eq c "0" 48 rfl).mpr z)
        walk_at "sx"
        refine x_decF (by omega) ?_
        walk_at "sx"
        refine ⟨rfl, ⟨_, rfl⟩, next ?_⟩
        rw [hb, hd, hkb]
        simp [hc0]
    · have hkb : k ≠ fbeg l := by omega
      walk_at "sx"
      refine x_dec (fun e2 => ?_) (fun e2 => ?_)
      · obtain ⟨c0, h0⟩ := at0 (by omega)
        walk_at "sx"
        refine x_ixS sl (at_g (fbeg l) rfl h0) ?_
        walk_at "sx"
        refine x_dec (fun e3 => ?_) (fun e3 => ?_)
        · have hc0 : c0 = 48 := (one_eq c0 "0" 48 rfl).mp e3
          walk_at "sx"
          refine done ?_
          rw [hb, h0, hc0, show k = fbeg l + 1 by omega]
          simp
        · have hc0 : c0 ≠ 48 := fun z => e3 ((one_eq c0 "0" 48 rfl).mpr z)
          walk_at "sx"
          refine ⟨rfl, ⟨_, rfl⟩, next ?_⟩
          rw [hb, hd, h0]
          simp [hc0, hkb]
      · walk_at "sx"
        refine ⟨rfl, ⟨_, rfl⟩, next ?_⟩
        have : k ≠ fbeg l + 1 := by omega
        rw [hb, hd]
        simp [hkb, this]
  · rintro σ' H' ⟨rfl, ⟨z, rfl⟩, hp⟩
    have hf := ferr_end (fun j h1 h2 => hp j h1 (by omega)) b2
    walk_at "sx"
    refine x_lenS sl ?_
    rw [S_len]
    walk_at "sx"
    refine x_dec (fun e => ?_) (fun e => ?_)
    · walk_at "sx"
      rw [hf, if_pos (by omega)] at q
      exact q
    · walk_at "sx"
      rw [hf, if_neg (by omega)] at q
      exact q

/-! ### write_integer -/
theorem cdivp_scale (r : Int) : CDivP r 1000000000000000000 := ⟨by decide, by
  unfold Builtin.divisionGoesByPylong
  show (decide ((if ((1000000000000000000 : Int) == 0) = true then 0 else (1000000000000000000 : Int).natAbs.log2 / 30 + 1) > 300) && _) = false
  rw [show decide ((if ((1000000000000000000 : Int) == 0) = true then 0 else (1000000000000000000 : Int).natAbs.log2 / 30 + 1) > 300) = false by decide +kernel]
  rfl⟩
theorem log2_small {n : Nat} (h : n < 2 ^ 1919) : n.log2 < 1920 := by
  by_cases z : n = 0
  · rw [z]; decide
  · exact Nat.lt_of_lt_of_le ((Nat.log2_lt z).mpr h) (by decide)
theorem joinL_nil : ∀ ls : List (List Nat), joinL [] ls = ls.flatten
  | [] => rfl
  | [p] => by show p = p ++ []; rw [List.append_nil]
  | p :: q :: r => by
    show p ++ ([] ++ joinL [] (q :: r)) = p ++ (q :: r).flatten
    rw [List.nil_append, joinL_nil (q :: r)]
theorem join_empty (ls : List (List Nat)) : Txt.join (Str.ofString "") (ls.map S) = S ls.flatten := by
  refine ext_tl ?_
  rw [join_eq, tl_join, show tl (Str.ofString "") = [] from rfl, joinL_nil, List.map_map]
  show (ls.map (fun l => l)).flatten = _
  rw [List.map_id']
  rfl
theorem lens_S (ls : List (List Nat)) : ((ls.map S).map (·.length)).sum = ls.flatten.length := by
  induction ls with
  | nil => rfl
  | cons a r ih =>
    rw [List.map_cons, List.map_cons, List.sum_cons, ih, List.flatten_cons, List.length_append, S_len]
theorem r_write_integer (K : PySem.W.Frag) (vs : List V) (H : Hp) (Q : VK) (E : XK) (h : sp_write_integer K vs H Q E) :
    t_write_integer K E { nx := fun _ H' => Q .non H', rt := Q } (start N_write_integer vs) H := by
  obtain ⟨v, rfl, hl, q⟩ := h
  show t_write_integer K E _ [some (.int v), none, none, none, none] H
  have ea : (if v < 0 then -v else v) = ((v.natAbs : Nat) : Int) := by split <;> omega
  unfold t_write_integer
  walk_at "sx"
  rw [ea]
  refine ⟨Nat.zero_le _, fun p hp => ?_⟩
  walk_at "sx"
  refine x_while (fun m σ' H' => ∃ (r : Nat) (ps : List (List Nat)) (z3 : Option V), m = r ∧ σ' = [some (.int v), some (.int r), some (.ref p), z3, none] ∧ Same H H' ∧
    H' p = some (.lst (ps.map fun l => V.str (S l))) ∧ numL v.natAbs = numL r ++ ps.reverse.flatten ∧ (numL r).length + 18 * ps.length = (numL v.natAbs).length)
    ⟨v.natAbs, v.natAbs, [], none, rfl, rfl, same_new hp, upd_same, by simp, by simp⟩ ?_
  rintro m σ' H' ⟨r, ps, z3, rfl, rfl, sm, hP, hn, hs⟩
  walk_at "sx"
  refine x_dec (fun c => ?_) (fun c => ?_)
  · refine x_turn ?_
    walk_at "sx"
    refine x_divmod (cdivp_scale _) fun p2 hp2 => ?_
    refine x_gtup (SqT.of upd_same) rfl ?_
    walk_at "sx"
    have hP2 := upd_new (o := .tup [.int ((m : Int) / 1000000000000000000), .int ((m : Int) % 1000000000000000000)]) hP hp2
    refine x_bms (tyV_lst hP2) ?_
    walk_at "sx"
    have e2 : (m : Int) % 1000000000000000000 = ((m % 10 ^ 18 : Nat) : Int) := by omega
    have e1 : (m : Int) / 1000000000000000000 = ((m / 10 ^ 18 : Nat) : Int) := by omega
    have lt : m % 10 ^ 18 < 10 ^ 18 := Nat.mod_lt _ (by decide)
    rw [e1, e2] at hP2 ⊢
    refine x_strI (log2_small (Nat.lt_trans (by show ((m % 10 ^ 18 : Nat) : Int).natAbs < 10 ^ 18; exact lt) (by decide +kernel))) ?_
    walk_at "sx"
    refine x_zfill rfl ?_
    rw [show Txt.zfill (Str.ofString (toString ((m % 10 ^ 18 : Nat) : Int))) 18 = S (padL 18 (m % 10 ^ 18)) from zfill_num (k := 18) lt (by decide)]
    walk_at "sx"
    have hd : m = m / 10 ^ 18 * 10 ^ 18 + m % 10 ^ 18 := by omega
    have hnum : numL m = numL (m / 10 ^ 18) ++ padL 18 (m % 10 ^ 18) := by
      have := numL_pad (v := m / 10 ^ 18) (by omega) 18 (m % 10 ^ 18) lt
      rw [← hd] at this
      exact this
    refine x_append hP2 (sizeLt_line (by rw [List.length_map]; omega)) ?_
    refine ⟨m / 10 ^ 18, by omega, m / 10 ^ 18, ps ++ [padL 18 (m % 10 ^ 18)], _, rfl, rfl, ?_, ?_, ?_, ?_⟩
    · exact same_mut (Same.trans sm (same_new hp2)) hp
    · rw [upd_same, List.map_append]
      rfl
    · rw [hn, hnum, List.reverse_append, List.append_assoc]
      rfl
    · rw [← hs, hnum, List.length_append, List.length_append, padL_len]
      show _ + 18 * (ps.length + 1) = _
      omega
  · walk_at "sx"
    refine x_bms (tyV_lst hP) ?_
    walk_at "sx"
    refine x_strI (log2_small (Nat.lt_trans (by show ((m : Nat) : Int).natAbs < 10 ^ 18; omega) (by decide +kernel))) ?_
    walk_at "sx"
    rw [str_num]
    refine x_append hP (sizeLt_line (by rw [List.length_map]; omega)) ?_
    walk_at "sx"
    refine x_revLk (SqL.of upd_same) fun q2 hq2 => ?_
    walk_at "sx"
    have el : ((ps.map fun l => V.str (S l)) ++ [V.str (S (numL m))]).reverse = ((numL m :: ps.reverse).map S).map V.str := by
      rw [List.reverse_append, ← List.map_reverse, List.map_cons, List.map_cons, List.map_map]
      rfl
    have ef : (numL m :: ps.reverse).flatten = numL v.natAbs := by rw [hn]; rfl
    refine x_join (ys := (numL m :: ps.reverse).map S) (by rw [el]; exact SqL.of upd_same) ?_ ?_
    · rw [lens_S, ef, show (Str.ofString "").length = 0 from rfl, Nat.mul_zero]
      omega
    rw [join_empty, ef]
    walk_at "sx"
    have fin : Same H (upd (upd H' p (.lst ((ps.map fun l => V.str (S l)) ++ [V.str (S (numL m))]))) q2 (.lst ((ps.map fun l => V.str (S l)) ++ [V.str (S (numL m))]).reverse)) :=
      Same.trans (same_mut sm hp) (same_new hq2)
    have q' := q _ fin
    refine x_dec (fun c2 => ?_) (fun c2 => ?_)
    · walk_at "sx"
      refine x_addS (sizeOf_line ?_) ?_
      · rw [S_len, show (Str.ofString "-").length = 1 from rfl]
        omega
      · rw [show Str.ofString "-" ++ S (numL v.natAbs) = S (45 :: numL v.natAbs) from (S_app [45] _).symm]
        unfold decS at q'
        rw [if_pos c2] at q'
        exact q'
    · walk_at "sx"
      unfold decS at q'
      rw [if_neg c2] at q'
      exact q'

/-! ### read_integer -/
theorem ferr_shape {l : List Nat} (h : ferr l = none) : ∃ ds : List Nat, NumText.AllDigits ds ∧ ds ≠ [] ∧ ((fbeg l = 1 ∧ l = 45 :: ds) ∨ (fbeg l = 0 ∧ l.take 1 ≠ [45] ∧ l = ds)) := by
  have hb := fbeg_le l
  have all : ∀ j, fbeg l ≤ j → j < l.length → fbad l j = false := fun j h1 h2 => by
    cases e : fbad l j with
    | false => rfl
    | true =>
      exfalso
      unfold ferr at h
      have key : ∀ n i, i ≤ j → j < i + n → fscan l n i ≠ none := by
        intro n
        induction n with
        | zero => intro i a b; omega
        | succ n ih =>
          intro i a b
          show (if fbad l i = true then some i else fscan l n (i + 1)) ≠ none
          by_cases c : fbad l i = true
          · rw [if_pos c]; exact fun z => nomatch z
          · rw [if_neg c]
            have : i ≠ j := fun z => c (z ▸ e)
            exact ih (i + 1) (by omega) (by omega)
      cases q : fscan l (l.length - fbeg l) (fbeg l) with
      | none => exact key _ _ h1 (by omega) q
      | some i => rw [q] at h; cases h
  have he := ferr_end all hb
  rw [h] at he
  have hlen : l.length ≠ fbeg l := fun z => by rw [if_pos z] at he; cases he
  have dig : ∀ j c, fbeg l ≤ j → l[j]? = some c → isDig c = true := fun j c h1 hc => by
    have := all j h1 (List.getElem?_eq_some_iff.mp hc).1
    rw [fbad_eq hc] at this
    cases e : isDig c with
    | true => rfl
    | false => rw [e] at this; simp at this
  have dd : ∀ c, isDig c = true → 48 ≤ c ∧ c ≤ 57 := fun c e => by
    unfold isDig at e
    simpa using e
  by_cases t : l.take 1 = [45]
  · have b1 : fbeg l = 1 := by unfold fbeg; rw [if_pos t]
    cases l with
    | nil => cases t
    | cons a r =>
      have : a = 45 := by simpa using t
      subst this
      refine ⟨r, fun c hc => ?_, fun z => hlen (by rw [b1, z]; rfl), .inl ⟨b1, rfl⟩⟩
      obtain ⟨j, hj, e⟩ := List.getElem_of_mem hc
      exact dd c (dig (j + 1) c (by omega) (by rw [List.getElem?_cons_succ, ← e]; exact List.getElem?_eq_getElem hj))
  · have b0 : fbeg l = 0 := by unfold fbeg; rw [if_neg t]
    refine ⟨l, fun c hc => ?_, fun z => hlen (by rw [b0, z]; rfl), .inr ⟨b0, t, rfl⟩⟩
    obtain ⟨j, hj, e⟩ := List.getElem_of_mem hc
    exact dd c (dig j c (by omega) (by rw [← e]; exact List.getElem?_eq_getElem hj))
theorem read_digits {K : PySem.W.Frag} {E : XK} {ds : List Nat} {l : List Nat} {H : Hp} {D : Ends} {rest : TS} {z1 : Option V} (hd : NumText.AllDigits ds) (hn : ds ≠ []) (hl : ds.length ≤ 16000000)
    (hq : ∀ z5, rest D [some (.str (S l)), z1, some (.str (S ds)), some (.int ((ds.length : Int) % 18)), some (.int ((vald ds : Nat) : Int)), z5] H) :
    tSeq (tAsg (tOp rModU (tCB (rLenU K) (tCons (tVar 2) tNil)) (tC (.int 18))) (gName 3))
  (tSeq (tAsg (tIf (tTest (tOp rGtU (tVar 3) (tC (.int 0)))) (tCB rIntU (tCons (tSl (rSlU K) (tVar 2) tNoPart (tPart (tVar 3))) tNil)) (tC (.int 0))) (gName 4))
  (tSeq (tFor (iRng3 (tCons (tVar 3) (tCons (tCB (rLenU K) (tCons (tVar 2) tNil)) (tCons (tC (.int 18)) tNil)))) (gName 5) (tAsg (tOp (rAddU K) (tOp rMulU (tVar 4) (tC (.int 1000000000000000000))) (tCB rIntU (tCons (tSl (rSlU K) (tVar 2) (tPart (tVar 5)) (tPart (tOp (rAddU K) (tVar 5) (tC (.int 18))))) tNil))) (gName 4))) rest)) D [some (.str (S l)), z1, some (.str (S ds)), none, none, none] H := by
  have sl : (S ds).length ≤ sizeLine := sizeOf_line (by rw [S_len]; omega)
  obtain ⟨hh, ehh⟩ : ∃ hh, hh = ds.length % 18 := ⟨_, rfl⟩
  have ei : (ds.length : Int) % 18 = (hh : Int) := by omega
  rw [ei] at hq
  walk_at "sx"
  refine x_lenS sl ?_
  rw [S_len]
  walk_at "sx"
  rw [ei]
  refine x_ifE (v := .int ((vald (ds.take hh) : Nat) : Int)) (fun c Q' q' => ?_) (fun c Q' q' => ?_) ?_
  · walk_at "sx"
    refine x_slS sl ?_
    rw [cut_pre]
    walk_at "sx"
    have hlen : (ds.take hh).length = hh := by rw [List.length_take]; omega
    refine x_intS (int_S (all_take hd hh) (fun z => ?_) (by omega)) (by rw [S_len]; omega) q'
    rw [z] at hlen
    have : hh = 0 := hlen.symm
    omega
  · have : hh = 0 := by omega
    rw [this] at q'
    exact q'
  walk_at "sx"
  refine x_lenS sl ?_
  rw [S_len]
  walk_at "sx"
  refine ⟨_, _, _, _, rfl, RgC.by18 (by omega) (by omega) (by omega) (by omega), ?_⟩
  have en : (((ds.length : Int) - (hh : Int)) / 18).toNat = ds.length / 18 := by omega
  refine for_rangeC (fun i σ' H' => H' = H ∧ ∃ z5, σ' = [some (.str (S l)), z1, some (.str (S ds)), some (.int (hh : Int)), some (.int ((vald (ds.take (hh + 18 * i)) : Nat) : Int)), z5]) ⟨rfl, none, rfl⟩ ?_ ?_
  · rintro i σ' H' hi ⟨rfl, z5, rfl⟩
    walk_at "sx"
    refine x_slS sl ?_
    rw [show (hh : Int) + (i : Int) * 18 = ((hh + 18 * i : Nat) : Int) by omega, show ((hh + 18 * i : Nat) : Int) + 18 = ((hh + 18 * i + 18 : Nat) : Int) by omega, cut_mid _ _ _ (by omega), show hh + 18 * i + 18 - (hh + 18 * i) = 18 by omega]
    walk_at "sx"
    have hlen : ((ds.drop (hh + 18 * i)).take 18).length = 18 := by rw [List.length_take, List.length_drop]; omega
    refine x_intS (int_S (all_take (all_drop hd _) 18) (fun z => ?_) (by omega)) (by rw [S_len]; omega) ?_
    · rw [z] at hlen
      exact absurd hlen (by decide)
    walk_at "sx"
    refine ⟨rfl, some (V.int ((hh + 18 * i : Nat) : Int)), ?_⟩
    have e : ds.take (hh + 18 * (i + 1)) = ds.take (hh + 18 * i) ++ (ds.drop (hh + 18 * i)).take 18 := by
      rw [show hh + 18 * (i + 1) = hh + 18 * i + 18 by omega, List.take_add]
    rw [e, vald_app, hlen]
    show [_, _, _, _, some (V.int (((vald (ds.take (hh + 18 * i)) : Nat) : Int) * 1000000000000000000 + ((vald ((ds.drop (hh + 18 * i)).take 18) : Nat) : Int))), _] = _
    rw [show (((vald (ds.take (hh + 18 * i)) * 10 ^ 18 + vald ((ds.drop (hh + 18 * i)).take 18) : Nat)) : Int) = ((vald (ds.take (hh + 18 * i)) : Nat) : Int) * 1000000000000000000 + ((vald ((ds.drop (hh + 18 * i)).take 18) : Nat) : Int) by omega]
  · rintro σ' H' ⟨rfl, z5, rfl⟩
    have := hq z5
    rw [en, show hh + 18 * (ds.length / 18) = ds.length by omega, List.take_length]
    exact this
theorem r_read_integer (K : PySem.W.Frag) (vs : List V) (H : Hp) (Q : VK) (E : XK) (h : sp_read_integer K vs H Q E) :
    t_read_integer K E { nx := fun _ H' => Q .non H', rt := Q } (start N_read_integer vs) H := by
  obtain ⟨l, rfl, hl, hf, q⟩ := h
  show t_read_integer K E _ [some (.str (S l)), none, none, none, none, none] H
  have sl : (S l).length ≤ sizeLine := sizeOf_line (by rw [S_len]; omega)
  obtain ⟨ds, hd, hn, hc⟩ := ferr_shape hf
  unfold t_read_integer
  walk_at "sx"
  refine x_isi (m := "str") (b := true) (.base (.str _)) (by decide +kernel) ?_
  walk_at "sx"
  refine ⟨l, rfl, hl, ?_⟩
  rw [hf]
  walk_at "sx"
  refine x_decNF rfl ?_
  walk_at "sx"
  rcases hc with ⟨b, rfl⟩ | ⟨b, t, rfl⟩
  · have ix : atI (S (45 :: ds)).cps.toList 0 = some 45 := at_g 0 rfl rfl
    refine x_ixS sl ix ?_
    walk_at "sx"
    refine x_decT rfl ?_
    walk_at "sx"
    refine x_slS sl ?_
    rw [show cutS (S (45 :: ds)) (some 1) none = S ds from cut_suf (45 :: ds) 1]
    refine x_name ?_
    refine read_digits (K := K) (E := E) hd hn (by rw [List.length_cons] at hl; omega) fun z5 => ?_
    walk_at "sx"
    refine x_ixS sl ix ?_
    walk_at "sx"
    refine x_decT rfl ?_
    walk_at "sx"
    exact q
  · obtain ⟨c, r, rfl⟩ : ∃ c r, l = c :: r := by
      cases l with
      | nil => exact absurd rfl hn
      | cons c r => exact ⟨c, r, rfl⟩
    have hc := hd.head
    have ix : atI (S (c :: r)).cps.toList 0 = some c := at_g 0 rfl rfl
    have ne : ¬ (⟨#[c]⟩ : Str) = Str.ofString "-" := fun z => by
      have := (one_eq c "-" 45 rfl).mp z
      omega
    refine x_ixS sl ix ?_
    walk_at "sx"
    refine x_decF ne ?_
    refine x_var rfl ?_
    refine x_name ?_
    refine read_digits (K := K) (E := E) hd hn hl fun z5 => ?_
    walk_at "sx"
    refine x_ixS sl ix ?_
    walk_at "sx"
    refine x_decF ne ?_
    walk_at "sx"
    unfold valI at q
    rw [if_neg t] at q
    exact q
end Nv

namespace Nv
open PySem PySem.Spec PyProof.Rows L2 TL
local macro_rules | `(tactic| walk_at "sx") => `(tactic| repeat (first
  | with_reducible refine x_seq ?_ | with_reducible refine x_asg ?_ | with_reducible refine x_name ?_ | ((with_reducible show tVar _ _ _ _); refine x_var rfl ?_) | with_reducible refine x_c ?_ | with_reducible refine x_op ?_
  | with_reducible refine x_un ?_ | with_reducible refine x_drop ?_ | with_reducible refine x_ret ?_ | with_reducible refine x_retN ?_ | with_reducible refine x_next ?_ | with_reducible refine x_ifS ?_ | with_reducible refine x_if ?_
  | with_reducible refine x_test ?_ | with_reducible refine x_blk ?_ | with_reducible refine x_and ?_ | with_reducible refine x_or ?_ | with_reducible refine x_not ?_ | with_reducible refine x_nil ?_ | with_reducible refine x_cons ?_
  | with_reducible refine x_cb ?_ | with_reducible refine x_call ?_ | with_reducible refine x_lst ?_ | with_reducible refine x_tup ?_ | with_reducible refine x_sub ?_ | with_reducible refine x_bm ?_ | with_reducible refine x_bm0 ?_
  | with_reducible refine x_sl ?_ | with_reducible refine x_noPart ?_ | with_reducible refine x_part ?_ | with_reducible refine x_intk ?_ | with_reducible refine x_tru ?_ | with_reducible refine x_truB ?_ | with_reducible refine x_truN ?_ | with_reducible refine x_truI ?_
  | with_reducible refine x_addI ?_ | with_reducible refine x_subI ?_ | with_reducible refine x_ltI ?_ | with_reducible refine x_leI ?_ | with_reducible refine x_gtI ?_ | with_reducible refine x_geI ?_ | with_reducible refine x_eqI ?_ | with_reducible refine x_neI ?_
  | with_reducible refine x_eqS ?_ | with_reducible refine x_neS ?_ | with_reducible refine x_intI ?_ | with_reducible refine x_abs ?_ | with_reducible refine x_inS ?_ | with_reducible refine x_notInS ?_
  | with_reducible refine x_true ?_ | with_reducible refine x_false ?_ | with_reducible refine x_ntrue ?_ | with_reducible refine x_nfalse ?_
  | with_reducible refine x_mulR (by first | decide | omega) (by first | decide | omega) ?_
  | with_reducible refine x_mulL (by first | decide | omega) (by first | decide | omega) ?_
  | with_reducible refine x_modI (by first | decide | assumption | omega) ?_
  | with_reducible refine x_fdivI (by first | decide | assumption | omega) (by first | decide | assumption | omega) ?_
  | with_reducible refine x_powL (k := 1000000000000000000) (by decide) (by decide) (by decide) (by decide) ?_
  | with_reducible refine x_powL (k := 1000000000) (by decide) (by decide) (by decide) (by decide) ?_
  | with_reducible refine x_for ?_ | with_reducible refine x_rng1 ?_ | with_reducible refine x_rng2 ?_ | with_reducible refine x_rng3 ?_ | with_reducible refine x_iList ?_ | with_reducible refine x_iTup ?_
  | with_reducible refine x_rngk1 (by first | decide | omega) (by first | decide | omega) ?_
  | with_reducible refine x_rngk2 (by first | decide | omega) (by first | decide | omega) (by first | decide | omega) (by first | decide | omega) ?_
  | with_reducible refine x_gcons ?_ | with_reducible refine x_gnil ?_ | with_reducible refine x_revL ?_ | with_reducible refine x_isN ?_ | with_reducible refine x_notN ?_ | with_reducible refine x_unNeg ?_
  | with_reducible refine x_bms tyV_str ?_))
/-- _law_taken, slots ['_law_row', '_law_many', '_law_found', '_law_cell'] -/
def t__law_taken (K : PySem.W.Frag) (E : XK) : TS :=
  (tSeq (tIfS (tTest (tOp rGtU (tOp (rIx K) (tVar 0) (tC (.int 3))) (tC (.int 0)))) (tSeq (tAsg (tOp rModU (tCB rIntU (tCons (tOp (rIx K) (tVar 0) (tC (.int 3))) tNil)) (tVar 1)) (gName 2))
  (tSeq (tAsg (tOp rFdivU (tOp (rIx K) (tVar 0) (tC (.int 3))) (tVar 1)) (gSub (tVar 0) (tC (.int 3)) rSetL))
  (tRet (tVar 2)))) tNext)
  (tSeq (tAsg (tOp (rAddU K) (tOp (rIx K) (tVar 0) (tC (.int 1))) (tC (.int 1))) (gSub (tVar 0) (tC (.int 1)) rSetL))
  (tSeq (tIfS (tTest (tOp rGtU (tOp (rIx K) (tVar 0) (tC (.int 1))) (tCB (rLenU K) (tCons (tOp (rIx K) (tVar 0) (tC (.int 0))) tNil)))) (tSeq (tAsg (tOp rModU (tCB rIntU (tCons (tOp (rAddU K) (tOp rMulU (tOp (rIx K) (tVar 0) (tC (.int 2))) (tC (.int 48271))) (tC (.int 11))) tNil)) (tC (.int 2147483647))) (gSub (tVar 0) (tC (.int 2)) rSetL))
  (tRet (tOp rModU (tCB rIntU (tCons (tOp rFdivU (tOp (rIx K) (tVar 0) (tC (.int 2))) (tC (.int 7))) tNil)) (tVar 1)))) tNext)
  (tSeq (tAsg (tOp (rIx K) (tOp (rIx K) (tVar 0) (tC (.int 0))) (tOp rSubU (tOp (rIx K) (tVar 0) (tC (.int 1))) (tC (.int 1)))) (gName 3))
  (tSeq (tAsg (tOp rModU (tCB rIntU (tCons (tOp (rAddU K) (tOp (rAddU K) (tOp rMulU (tOp (rIx K) (tVar 0) (tC (.int 2))) (tC (.int 48271))) (tVar 3)) (tC (.int 11))) tNil)) (tC (.int 2147483647))) (gSub (tVar 0) (tC (.int 2)) rSetL))
  (tSeq (tIfS (tTest (tOp rGeU (tVar 3) (tOp rPowU (tC (.int 10)) (tC (.int 18))))) (tAsg (tOp rFdivU (tVar 3) (tVar 1)) (gSub (tVar 0) (tC (.int 3)) rSetL)) tNext)
  (tRet (tOp rModU (tCB rIntU (tCons (tVar 3) tNil)) (tVar 1)))))))))
abbrev N__law_taken : List Str := ["_law_row", "_law_many", "_law_found", "_law_cell"]
/-- the law's row of draws -/
def RowOk (K : PySem.W.Frag) (H : Hp) (r : Addr) : Prop := ∃ (a : Addr) (ns : List Int) (i x d : Int), H r = some (.lst [.ref a, .int i, .int x, .int d]) ∧ SqL K H a (ns.map V.int) ∧ 0 ≤ i ∧ 0 ≤ d
theorem row_seq {K : PySem.W.Frag} {H : Hp} {r a b : Addr} {ns : List Int} {vs : List V} {o : HO} (h : H r = some (.lst (.ref b :: vs))) (l : SqL K H a (ns.map V.int)) : SqL K (upd H r o) a (ns.map V.int) := by
  rcases l with (l | ⟨u, l⟩) | l
  · have ne : a ≠ r := fun e => by
      rw [e, h] at l
      cases ns with
      | nil => cases l
      | cons n ns => cases l
    exact .inl (.inl (by rw [upd_ne ne]; exact l))
  · have ne : a ≠ r := fun e => by
      rw [e, h] at l
      cases l
    exact .inl (.inr ⟨u, by rw [upd_ne ne]; exact l⟩)
  · exact .inr l
def sp__law_taken (K : PySem.W.Frag) : Sp := fun vs H Q _ => ∃ (r : Addr) (m : Int), vs = [.ref r, .int m] ∧ RowOk K H r ∧ 0 < m ∧ m < 1073741824 ∧
  ∀ (v : Int) (o : HO), 0 ≤ v → v < m → RowOk K (upd H r o) r → Q (.int v) (upd H r o)
theorem r__law_taken (K : PySem.W.Frag) (vs : List V) (H : Hp) (Q : VK) (E : XK) (h : sp__law_taken K vs H Q E) :
    t__law_taken K E { nx := fun _ H' => Q .non H', rt := Q } (start N__law_taken vs) H := by
  obtain ⟨r, m, rfl, ⟨a, ns, i, x, d, hr, hs, hi, hd⟩, hm, hm2, q⟩ := h
  have ix0 : ∀ {i x d : Int}, atI [V.ref a, .int i, .int x, .int d] 0 = some (.ref a) := fun {_ _ _} => rfl
  have ix1 : ∀ {i x d : Int}, atI [V.ref a, .int i, .int x, .int d] 1 = some (.int i) := fun {_ _ _} => rfl
  have ix2 : ∀ {i x d : Int}, atI [V.ref a, .int i, .int x, .int d] 2 = some (.int x) := fun {_ _ _} => rfl
  have ix3 : ∀ {i x d : Int}, atI [V.ref a, .int i, .int x, .int d] 3 = some (.int d) := fun {_ _ _} => rfl
  show t__law_taken K E _ [some (.ref r), some (.int m), none, none] H
  unfold t__law_taken
  walk_at "sx"
  refine x_ixL (SqL.of hr) ix3 ?_
  walk_at "sx"
  refine x_dec (fun c => ?_) (fun c => ?_)
  · walk_at "sx"
    refine x_ixL (SqL.of hr) ix3 ?_
    walk_at "sx"
    refine x_ixL (SqL.of hr) ix3 ?_
    walk_at "sx"
    refine x_set4_3 hr ?_
    walk_at "sx"
    exact q _ _ (Int.emod_nonneg _ (by omega)) (Int.emod_lt_of_pos _ hm) ⟨a, ns, i, x, d / m, upd_same, row_seq hr hs, hi, Int.ediv_nonneg hd (by omega)⟩
  · walk_at "sx"
    refine x_ixL (SqL.of hr) ix1 ?_
    walk_at "sx"
    refine x_set4_1 hr ?_
    walk_at "sx"
    have h1 : (upd H r (.lst [.ref a, .int (i + 1), .int x, .int d])) r = some (.lst [.ref a, .int (i + 1), .int x, .int d]) := upd_same
    have s1 := row_seq (o := .lst [.ref a, .int (i + 1), .int x, .int d]) hr hs
    generalize hH : upd H r (.lst [.ref a, .int (i + 1), .int x, .int d]) = H1 at h1 s1 ⊢
    refine x_ixL (SqL.of h1) ix1 ?_
    walk_at "sx"
    refine x_ixL (SqL.of h1) ix0 ?_
    walk_at "sx"
    refine x_lenL s1 ?_
    walk_at "sx"
    refine x_dec (fun c2 => ?_) (fun c2 => ?_)
    · walk_at "sx"
      refine x_ixL (SqL.of h1) ix2 ?_
      walk_at "sx"
      refine x_set4_2 h1 ?_
      walk_at "sx"
      refine x_ixL (SqL.of upd_same) ix2 ?_
      walk_at "sx"
      rw [← hH, upd_upd]
      exact q _ _ (Int.emod_nonneg _ (by omega)) (Int.emod_lt_of_pos _ hm) ⟨a, ns, _, _, d, upd_same, row_seq hr hs, by omega, hd⟩
    · walk_at "sx"
      refine x_ixL (SqL.of h1) ix0 ?_
      walk_at "sx"
      refine x_ixL (SqL.of h1) ix1 ?_
      walk_at "sx"
      have hl : (i + 1 - 1).toNat < ns.length := by
        rw [List.length_map] at c2
        omega
      refine x_ixL s1 (at_of (j := (i + 1 - 1).toNat) (by omega) (by rw [List.getElem?_map, List.getElem?_eq_getElem hl]; rfl)) ?_
      walk_at "sx"
      refine x_ixL (SqL.of h1) ix2 ?_
      walk_at "sx"
      refine x_set4_2 h1 ?_
      walk_at "sx"
      refine x_dec (fun c3 => ?_) (fun c3 => ?_)
      · walk_at "sx"
        refine x_set4_3 upd_same ?_
        walk_at "sx"
        rw [← hH, upd_upd, upd_upd]
        exact q _ _ (Int.emod_nonneg _ (by omega)) (Int.emod_lt_of_pos _ hm) ⟨a, ns, _, _, _, upd_same, row_seq hr hs, by omega, Int.ediv_nonneg (by omega) (by omega)⟩
      · walk_at "sx"
        rw [← hH, upd_upd]
        exact q _ _ (Int.emod_nonneg _ (by omega)) (Int.emod_lt_of_pos _ hm) ⟨a, ns, _, _, d, upd_same, row_seq hr hs, by omega, hd⟩

theorem use_taken {K : PySem.W.Frag} {H : Hp} {r : Addr} {m : Int} {Q : VK} {E : XK} (hr : RowOk K H r) (h1 : 0 < m) (h2 : m < 1073741824)
    (h : ∀ (v : Int) (H' : Hp), 0 ≤ v → v < m → RowOk K H' r → (∀ b, b ≠ r → H' b = H b) → Q (.int v) H') : sp__law_taken K [.ref r, .int m] H Q E :=
  ⟨r, m, rfl, hr, h1, h2, fun v o a b c => h v _ a b c fun _ n => upd_ne n⟩
theorem RowOk.same {K : PySem.W.Frag} {H H' : Hp} {r : Addr} (h : RowOk K H r) (s : Same H H') : RowOk K H' r := by
  obtain ⟨a, ns, i, x, d, h1, h2, h3, h4⟩ := h
  exact ⟨a, ns, i, x, d, s _ _ h1, s.seq h2, h3, h4⟩
theorem RowOk.new {K : PySem.W.Frag} {H : Hp} {r p : Addr} {o : HO} (h : RowOk K H r) (n : H p = none) : RowOk K (upd H p o) r := h.same (same_new n)
theorem RowOk.ne {K : PySem.W.Frag} {H : Hp} {r p : Addr} (h : RowOk K H r) (n : H p = none) : p ≠ r := fun e => by
  obtain ⟨a, ns, i, x, d, h1, _⟩ := h
  rw [e, h1] at n
  cases n
theorem at_mem {α : Type} {xs : List α} {v : Int} (h1 : 0 ≤ v) (h2 : v < xs.length) : ∃ x, atI xs v = some x ∧ x ∈ xs := by
  have hl : v.toNat < xs.length := by omega
  exact ⟨xs[v.toNat], at_g v.toNat (by omega) (List.getElem?_eq_getElem hl), List.getElem_mem hl⟩
end Nv

namespace Nv
open PySem PySem.Spec PyProof.Rows L2 TL
local macro_rules | `(tactic| walk_at "sx") => `(tactic| repeat (first
  | with_reducible refine x_seq ?_ | with_reducible refine x_asg ?_ | with_reducible refine x_name ?_ | ((with_reducible show tVar _ _ _ _); refine x_var rfl ?_) | with_reducible refine x_c ?_ | with_reducible refine x_op ?_
  | with_reducible refine x_un ?_ | with_reducible refine x_drop ?_ | with_reducible refine x_ret ?_ | with_reducible refine x_retN ?_ | with_reducible refine x_next ?_ | with_reducible refine x_ifS ?_ | with_reducible refine x_if ?_
  | with_reducible refine x_test ?_ | with_reducible refine x_blk ?_ | with_reducible refine x_and ?_ | with_reducible refine x_or ?_ | with_reducible refine x_not ?_ | with_reducible refine x_nil ?_ | with_reducible refine x_cons ?_
  | with_reducible refine x_cb ?_ | with_reducible refine x_call ?_ | with_reducible refine x_lst ?_ | with_reducible refine x_tup ?_ | with_reducible refine x_sub ?_ | with_reducible refine x_bm ?_ | with_reducible refine x_bm0 ?_
  | with_reducible refine x_sl ?_ | with_reducible refine x_noPart ?_ | with_reducible refine x_part ?_ | with_reducible refine x_intk ?_ | with_reducible refine x_tru ?_ | with_reducible refine x_truB ?_ | with_reducible refine x_truN ?_ | with_reducible refine x_truI ?_
  | with_reducible refine x_addI ?_ | with_reducible refine x_subI ?_ | with_reducible refine x_ltI ?_ | with_reducible refine x_leI ?_ | with_reducible refine x_gtI ?_ | with_reducible refine x_geI ?_ | with_reducible refine x_eqI ?_ | with_reducible refine x_neI ?_
  | with_reducible refine x_eqS ?_ | with_reducible refine x_neS ?_ | with_reducible refine x_intI ?_ | with_reducible refine x_abs ?_ | with_reducible refine x_inS ?_ | with_reducible refine x_notInS ?_
  | with_reducible refine x_true ?_ | with_reducible refine x_false ?_ | with_reducible refine x_ntrue ?_ | with_reducible refine x_nfalse ?_
  | with_reducible refine x_mulR (by first | decide | omega) (by first | decide | omega) ?_
  | with_reducible refine x_mulL (by first | decide | omega) (by first | decide | omega) ?_
  | with_reducible refine x_modI (by first | decide | assumption | omega) ?_
  | with_reducible refine x_fdivI (by first | decide | assumption | omega) (by first | decide | assumption | omega) ?_
  | with_reducible refine x_powL (k := 1000000000000000000) (by decide) (by decide) (by decide) (by decide) ?_
  | with_reducible refine x_powL (k := 1000000000) (by decide) (by decide) (by decide) (by decide) ?_
  | with_reducible refine x_for ?_ | with_reducible refine x_rng1 ?_ | with_reducible refine x_rng2 ?_ | with_reducible refine x_rng3 ?_ | with_reducible refine x_iList ?_ | with_reducible refine x_iTup ?_
  | with_reducible refine x_rngk1 (by first | decide | omega) (by first | decide | omega) ?_
  | with_reducible refine x_rngk2 (by first | decide | omega) (by first | decide | omega) (by first | decide | omega) (by first | decide | omega) ?_
  | with_reducible refine x_gcons ?_ | with_reducible refine x_gnil ?_ | with_reducible refine x_revL ?_ | with_reducible refine x_isN ?_ | with_reducible refine x_notN ?_ | with_reducible refine x_unNeg ?_
  | with_reducible refine x_bms tyV_str ?_))
def decL (v : Int) : List Nat := if v < 0 then 45 :: numL v.natAbs else numL v.natAbs
theorem decS_eq (v : Int) : decS v = S (decL v) := by
  unfold decS decL
  split <;> rfl
theorem ferr_dec (v : Int) : ferr (decL v) = none := by
  unfold decL
  split
  · exact ferr_neg (by omega)
  · exact ferr_num _
theorem valI_dec (v : Int) : valI (decL v) = v := by
  unfold decL valI
  split
  · rename_i h
    rw [if_pos (show List.take 1 (45 :: numL v.natAbs) = [45] from rfl)]
    show -((vald (numL v.natAbs) : Nat) : Int) = v
    rw [vald_num]
    omega
  · rename_i h
    rw [if_neg]
    · rw [vald_num]
      omega
    · intro e
      have : 45 ∈ numL v.natAbs := List.mem_of_mem_take (by rw [e]; exact List.mem_cons_self)
      have := numL_digits _ 45 this
      omega
theorem decL_len (v : Int) : (decL v).length ≤ (numL v.natAbs).length + 1 := by
  unfold decL
  split
  · rw [List.length_cons]; omega
  · omega
def sp__law_number (K : PySem.W.Frag) : Sp := fun vs H Q _ => ∃ r : Addr, vs = [.ref r] ∧ RowOk K H r ∧
  ∀ (H' : Hp) (p : Addr) (v : Nat), RowOk K H' r → H' p = some (.tup [.int (v : Int), .str (S (numL v))]) → (numL v).length ≤ 6000 → Q (.ref p) H'
def sp_law (K : PySem.W.Frag) : Sp := fun vs H Q _ => ∃ (a : Addr) (ns : List Int), vs = [.ref a] ∧ SqL K H a (ns.map V.int) ∧ ∀ H', Q (.bl true) H'
/-- _law_number, slots ['_law_row', '_law_many', '_law_value', '_law_text', '_law_k', '_law_group'] -/
def t__law_number (K : PySem.W.Frag) (E : XK) : TS :=
  (tSeq (tAsg (tIf (tTest (tOp rEq (tCallS (sp__law_taken K) (WE (fun cls d _ H => E cls d H)) (tCons (tVar 0) (tCons (tC (.int 3)) tNil))) (tC (.int 0)))) (tOp (rAddU K) (tC (.int 240)) (tCallS (sp__law_taken K) (WE (fun cls d _ H => E cls d H)) (tCons (tVar 0) (tCons (tC (.int 60)) tNil)))) (tCallS (sp__law_taken K) (WE (fun cls d _ H => E cls d H)) (tCons (tVar 0) (tCons (tC (.int 4)) tNil)))) (gName 1))
  (tSeq (tAsg (tOp (rIx K) (tLst (tCons (tC (.int 0)) (tCons (tC (.int 9)) (tCons (tC (.int 10)) (tCons (tOp (rAddU K) (tC (.int 1)) (tCallS (sp__law_taken K) (WE (fun cls d _ H => E cls d H)) (tCons (tVar 0) (tCons (tOp rPowU (tC (.int 10)) (tC (.int 9))) tNil)))) tNil))))) (tCallS (sp__law_taken K) (WE (fun cls d _ H => E cls d H)) (tCons (tVar 0) (tCons (tC (.int 4)) tNil)))) (gName 2))
  (tSeq (tAsg (tCB rStrU (tCons (tVar 2) tNil)) (gName 3))
  (tSeq (tFor (iRng1 (tCons (tVar 1) tNil)) (gName 4) (tSeq (tIfS (tTest (tOp rEq (tVar 2) (tC (.int 0)))) (tSeq (tAsg (tC (.int 1)) (gName 2))
  (tAsg (tC (.str "1")) (gName 3))) tNext)
  (tSeq (tAsg (tOp (rIx K) (tLst (tCons (tC (.int 0)) (tCons (tOp rSubU (tOp rPowU (tC (.int 10)) (tC (.int 18))) (tC (.int 1))) (tCons (tOp (rAddU K) (tOp rMulU (tCallS (sp__law_taken K) (WE (fun cls d _ H => E cls d H)) (tCons (tVar 0) (tCons (tOp rPowU (tC (.int 10)) (tC (.int 9))) tNil))) (tOp rPowU (tC (.int 10)) (tC (.int 9)))) (tCallS (sp__law_taken K) (WE (fun cls d _ H => E cls d H)) (tCons (tVar 0) (tCons (tOp rPowU (tC (.int 10)) (tC (.int 9))) tNil)))) tNil)))) (tCallS (sp__law_taken K) (WE (fun cls d _ H => E cls d H)) (tCons (tVar 0) (tCons (tC (.int 3)) tNil)))) (gName 5))
  (tSeq (tAsg (tOp (rAddU K) (tOp rMulU (tVar 2) (tOp rPowU (tC (.int 10)) (tC (.int 18)))) (tVar 5)) (gName 2))
  (tAsg (tOp (rAddU K) (tVar 3) (tBM K "str" rZfillU (tCB rStrU (tCons (tVar 5) tNil)) (tCons (tC (.int 18)) tNil))) (gName 3))))))
  (tRet (tTup (tCons (tVar 2) (tCons (tVar 3) tNil))))))))
abbrev N__law_number : List Str := ["_law_row", "_law_many", "_law_value", "_law_text", "_law_k", "_law_group"]
/-- law, slots ['_law_script', '_law_row', '_law_turn', '_law_value', '_law_text', '_law_again', '_law_found', '_law_number_here'] -/
def t_law (K : PySem.W.Frag) (E : XK) : TS :=
  (tSeq (tAsg (tLst (tCons (tVar 0) (tCons (tC (.int 0)) (tCons (tC (.int 0)) (tCons (tC (.int 0)) tNil))))) (gName 1))
  (tSeq (tFor (iRng1 (tCons (tC (.int 3)) tNil)) (gName 2) (tSeq (tAsg (tCallS (sp__law_number K) (WE (fun cls d _ H => E cls d H)) (tCons (tVar 1) tNil)) (gTup K 2 (gCons (gName 3) (gCons (gName 4) gNil))))
  (tSeq (tIfS (tAnd (tTest (tOp rGtU (tVar 3) (tC (.int 0)))) (tTest (tOp rEq (tCallS (sp__law_taken K) (WE (fun cls d _ H => E cls d H)) (tCons (tVar 1) (tCons (tC (.int 2)) tNil))) (tC (.int 0))))) (tSeq (tAsg (tOp rSubU (tC (.int 0)) (tVar 3)) (gName 3))
  (tAsg (tOp (rAddU K) (tC (.str "-")) (tVar 4)) (gName 4))) tNext)
  (tFor (iRng1 (tCons (tC (.int 2)) tNil)) (gName 5) (tSeq (tAsg (tCallS (sp_write_integer K) (WE (fun cls d _ H => E cls d H)) (tCons (tVar 3) tNil)) (gName 6))
  (tSeq (tIfS (tOr (tNot (tTruU K (tCB (rIsiU K) (tCons (tVar 6) (tCons (tC (.ty "str")) tNil))))) (tTest (tOp rNe (tVar 6) (tVar 4)))) (tRet (tC (.bl false))) tNext)
  (tSeq (tAsg (tCallS (sp_read_integer K) (WE (fun cls d _ H => E cls d H)) (tCons (tVar 4) tNil)) (gName 7))
  (tIfS (tOr (tNot (tTruU K (tCB (rIsiU K) (tCons (tVar 7) (tCons (tC (.ty "int")) tNil))))) (tOr (tTruU K (tCB (rIsiU K) (tCons (tVar 7) (tCons (tC (.ty "bool")) tNil)))) (tTest (tOp rNe (tVar 7) (tVar 3))))) (tRet (tC (.bl false))) tNext))))))))
  (tRet (tC (.bl true)))))
abbrev N_law : List Str := ["_law_script", "_law_row", "_law_turn", "_law_value", "_law_text", "_law_again", "_law_found", "_law_number_here"]
theorem r__law_number (K : PySem.W.Frag) (vs : List V) (H : Hp) (Q : VK) (E : XK) (h : sp__law_number K vs H Q E) :
    t__law_number K E { nx := fun _ H' => Q .non H', rt := Q } (start N__law_number vs) H := by
  obtain ⟨r, rfl, hr, q⟩ := h
  show t__law_number K E _ [some (.ref r), none, none, none, none, none] H
  unfold t__law_number
  -- many
  have A : ∀ (D : Ends), (∀ (many : Nat) (H' : Hp), many ≤ 300 → RowOk K H' r → D.nx [some (.ref r), some (.int (many : Int)), none, none, none, none] H') →
      tAsg (tIf (tTest (tOp rEq (tCallS (sp__law_taken K) (WE (fun cls d _ H => E cls d H)) (tCons (tVar 0) (tCons (tC (.int 3)) tNil))) (tC (.int 0)))) (tOp (rAddU K) (tC (.int 240)) (tCallS (sp__law_taken K) (WE (fun cls d _ H => E cls d H)) (tCons (tVar 0) (tCons (tC (.int 60)) tNil)))) (tCallS (sp__law_taken K) (WE (fun cls d _ H => E cls d H)) (tCons (tVar 0) (tCons (tC (.int 4)) tNil)))) (gName 1) D [some (.ref r), none, none, none, none, none] H := by
    intro D hD
    walk_at "sx"
    refine use_taken hr (by decide) (by decide) fun v H1 h0 h1 hr1 f1 => ?_
    walk_at "sx"
    refine x_dec (fun c => ?_) (fun c => ?_)
    · walk_at "sx"
      refine use_taken hr1 (by decide) (by decide) fun v2 H2 h3 h4 hr2 f2 => ?_
      walk_at "sx"
      obtain ⟨n, rfl⟩ := Int.eq_ofNat_of_zero_le h3
      exact hD (240 + n) H2 (by omega) hr2
    · walk_at "sx"
      refine use_taken hr1 (by decide) (by decide) fun v2 H2 h3 h4 hr2 f2 => ?_
      walk_at "sx"
      obtain ⟨n, rfl⟩ := Int.eq_ofNat_of_zero_le h3
      exact hD n H2 (by omega) hr2
  refine x_seq (A _ fun many H1 hm hr1 => ?_)
  walk_at "sx"
  refine use_taken hr1 (by decide) (by decide) fun v2 H2 h3 h4 hr2 f2 => ?_
  walk_at "sx"
  refine ⟨szL rfl, fun p hp => ?_⟩
  walk_at "sx"
  refine use_taken (hr2.new hp) (by decide) (by decide) fun v3 H3 h5 h6 hr3 f3 => ?_
  have hp3 : H3 p = some (.lst [.int 0, .int 9, .int 10, .int (1 + v2)]) := by rw [f3 p (hr2.ne hp), upd_same]
  obtain ⟨x, hx, hm3⟩ := at_mem (xs := [V.int 0, .int 9, .int 10, .int (1 + v2)]) h5 h6
  obtain ⟨v0, rfl, hv0⟩ : ∃ v0 : Nat, x = .int (v0 : Int) ∧ v0 ≤ 1000000000 := by
    simp only [List.mem_cons, List.not_mem_nil, or_false] at hm3
    rcases hm3 with rfl | rfl | rfl | rfl
    · exact ⟨0, rfl, by decide⟩
    · exact ⟨9, rfl, by decide⟩
    · exact ⟨10, rfl, by decide⟩
    · exact ⟨(1 + v2).toNat, by congr 1; omega, by omega⟩
  refine x_ixL (SqL.of hp3) hx ?_
  walk_at "sx"
  refine x_strI (log2_small (Nat.lt_of_le_of_lt (by show ((v0 : Nat) : Int).natAbs ≤ 10 ^ 18; omega) (by decide +kernel))) ?_
  rw [str_num]
  walk_at "sx"
  refine for_range (fun i σ' H' => RowOk K H' r ∧ ∃ (v : Nat) (z4 z5 : Option V), σ' = [some (.ref r), some (.int (many : Int)), some (.int (v : Int)), some (.str (S (numL v))), z4, z5] ∧ (numL v).length ≤ 10 + 18 * i)
    ⟨hr3, v0, none, none, rfl, numL_len (by decide) (Nat.lt_of_le_of_lt hv0 (by decide))⟩ ?_ ?_
  · rintro i σ' H' hi ⟨hr4, v, z4, z5, rfl, hlen⟩
    have hi2 : i < 300 := by omega
    -- a zero becomes a one
    have B : ∀ (D : Ends), (∀ (v' : Nat) (z4 : Option V), 0 < v' → (numL v').length ≤ 10 + 18 * i → D.nx [some (.ref r), some (.int (many : Int)), some (.int (v' : Int)), some (.str (S (numL v'))), z4, z5] H') →
        tIfS (tTest (tOp rEq (tVar 2) (tC (.int 0)))) (tSeq (tAsg (tC (.int 1)) (gName 2)) (tAsg (tC (.str "1")) (gName 3))) tNext D [some (.ref r), some (.int (many : Int)), some (.int (v : Int)), some (.str (S (numL v))), some (.int (0 + (i : Int))), z5] H' := by
      intro D hD
      walk_at "sx"
      refine x_dec (fun c => ?_) (fun c => ?_)
      · walk_at "sx"
        exact hD 1 _ (by decide) (by rw [numL_lt (by decide)]; show 1 ≤ _; omega)
      · walk_at "sx"
        exact hD v _ (by omega) hlen
    refine x_name ?_
    refine x_seq (B _ fun v z4 hv hlen => ?_)
    walk_at "sx"
    refine use_taken hr4 (by decide) (by decide) fun a1 H5 h7 h8 hr5 f5 => ?_
    walk_at "sx"
    refine use_taken hr5 (by decide) (by decide) fun a2 H6 h9 h10 hr6 f6 => ?_
    walk_at "sx"
    refine ⟨szL rfl, fun p hp => ?_⟩
    walk_at "sx"
    refine use_taken (hr6.new hp) (by decide) (by decide) fun a3 H7 h11 h12 hr7 f7 => ?_
    have hp7 : H7 p = some (.lst [.int 0, .int (1000000000000000000 - 1), .int (a1 * 1000000000 + a2)]) := by rw [f7 p (hr6.ne hp), upd_same]
    obtain ⟨x, hx, hm7⟩ := at_mem (xs := [V.int 0, .int (1000000000000000000 - 1), .int (a1 * 1000000000 + a2)]) h11 h12
    obtain ⟨g, rfl, hg⟩ : ∃ g : Nat, x = .int (g : Int) ∧ g < 10 ^ 18 := by
      simp only [List.mem_cons, List.not_mem_nil, or_false] at hm7
      rcases hm7 with rfl | rfl | rfl
      · exact ⟨0, rfl, by decide⟩
      · exact ⟨999999999999999999, rfl, by decide⟩
      · exact ⟨(a1 * 1000000000 + a2).toNat, by congr 1; omega, by omega⟩
    refine x_ixL (SqL.of hp7) hx ?_
    walk_at "sx"
    refine x_strI (log2_small (Nat.lt_trans (by show ((g : Nat) : Int).natAbs < 10 ^ 18; exact hg) (by decide +kernel))) ?_
    walk_at "sx"
    refine x_zfill rfl ?_
    rw [show Txt.zfill (Str.ofString (toString ((g : Nat) : Int))) 18 = S (padL 18 g) from zfill_num (k := 18) hg (by decide)]
    refine x_addS (sizeOf_line ?_) ?_
    · rw [S_len, S_len, padL_len]
      omega
    rw [← S_app, ← numL_pad hv 18 g hg]
    walk_at "sx"
    refine ⟨hr7, v * 10 ^ 18 + g, z4, some (.int (g : Int)), ?_, ?_⟩
    · show [_, _, some (V.int ((v : Int) * 1000000000000000000 + (g : Int))), _, _, _] = _
      rw [show ((v * 10 ^ 18 + g : Nat) : Int) = (v : Int) * 1000000000000000000 + (g : Int) by omega]
    · rw [numL_pad hv 18 g hg, List.length_append, padL_len]
      omega
  · rintro σ' H' ⟨hr4, v, z4, z5, rfl, hlen⟩
    walk_at "sx"
    refine ⟨szL rfl, fun p hp => ?_⟩
    exact q _ p v (hr4.new hp) upd_same (by omega)
theorem r_law (K : PySem.W.Frag) (vs : List V) (H : Hp) (Q : VK) (E : XK) (h : sp_law K vs H Q E) :
    t_law K E { nx := fun _ H' => Q .non H', rt := Q } (start N_law vs) H := by
  obtain ⟨a, ns, rfl, hs, q⟩ := h
  show t_law K E _ [some (.ref a), none, none, none, none, none, none, none] H
  unfold t_law
  walk_at "sx"
  refine ⟨szL rfl, fun r hp => ?_⟩
  walk_at "sx"
  have hr0 : RowOk K (upd H r (.lst [.ref a, .int 0, .int 0, .int 0])) r := ⟨a, ns, 0, 0, 0, upd_same, (same_new hp).seq hs, by decide, by decide⟩
  refine for_range (fun i σ' H' => RowOk K H' r ∧ ∃ z2 z3 z4 z5 z6 z7 : Option V, σ' = [some (.ref a), some (.ref r), z2, z3, z4, z5, z6, z7]) ⟨hr0, _, _, _, _, _, _, rfl⟩ ?_ ?_
  · rintro i σ' H' hi ⟨hr1, z2, z3, z4, z5, z6, z7, rfl⟩
    walk_at "sx"
    refine ⟨r, rfl, hr1, fun H2 p v hr2 hp2 hlen => ?_⟩
    refine x_gtup (SqT.of hp2) rfl ?_
    walk_at "sx"
    have B : ∀ (D : Ends), (∀ (H3 : Hp) (w : Int), RowOk K H3 r → (numL w.natAbs).length ≤ 6000 → D.nx [some (.ref a), some (.ref r), some (.int (0 + (i : Int))), some (.int w), some (.str (decS w)), z5, z6, z7] H3) →
        (if decide ((0 : Int) < (v : Int)) = true then tTest (tOp rEq (tCallS (sp__law_taken K) (WE (fun cls d _ H => E cls d H)) (tCons (tVar 1) (tCons (tC (.int 2)) tNil))) (tC (.int 0))) [some (.ref a), some (.ref r), some (.int (0 + (i : Int))), some (.int (v : Int)), some (.str (S (numL v))), z5, z6, z7] H2
          (fun b H1 => if b = true then (tSeq (tAsg (tOp rSubU (tC (.int 0)) (tVar 3)) (gName 3)) (tAsg (tOp (rAddU K) (tC (.str "-")) (tVar 4)) (gName 4))) D [some (.ref a), some (.ref r), some (.int (0 + (i : Int))), some (.int (v : Int)), some (.str (S (numL v))), z5, z6, z7] H1 else tNext D [some (.ref a), some (.ref r), some (.int (0 + (i : Int))), some (.int (v : Int)), some (.str (S (numL v))), z5, z6, z7] H1)
        else if false = true then (tSeq (tAsg (tOp rSubU (tC (.int 0)) (tVar 3)) (gName 3)) (tAsg (tOp (rAddU K) (tC (.str "-")) (tVar 4)) (gName 4))) D [some (.ref a), some (.ref r), some (.int (0 + (i : Int))), some (.int (v : Int)), some (.str (S (numL v))), z5, z6, z7] H2 else tNext D [some (.ref a), some (.ref r), some (.int (0 + (i : Int))), some (.int (v : Int)), some (.str (S (numL v))), z5, z6, z7] H2) := by
      intro D hD
      have pos : ∀ H3, RowOk K H3 r → D.nx [some (.ref a), some (.ref r), some (.int (0 + (i : Int))), some (.int (v : Int)), some (.str (S (numL v))), z5, z6, z7] H3 := fun H3 h3 => by
        have := hD H3 (v : Int) h3 hlen
        rw [decS_eq] at this
        unfold decL at this
        rw [if_neg (by omega)] at this
        exact this
      refine x_dec (fun c => ?_) (fun c => ?_)
      · walk_at "sx"
        refine use_taken hr2 (by decide) (by decide) fun b H3 h0 h1 hr3 f3 => ?_
        walk_at "sx"
        refine x_dec (fun c2 => ?_) (fun c2 => ?_)
        · walk_at "sx"
          refine x_addS (sizeOf_line ?_) ?_
          · rw [S_len, show (Str.ofString "-").length = 1 from rfl]
            omega
          walk_at "sx"
          have := hD H3 (-(v : Int)) hr3 (by rw [Int.natAbs_neg]; exact hlen)
          rw [decS_eq] at this
          unfold decL at this
          rw [if_pos (by omega), Int.natAbs_neg] at this
          show D.nx [_, _, _, some (V.int (0 - (v : Int))), some (V.str (Str.ofString "-" ++ S (numL v))), _, _, _] H3
          rw [show Str.ofString "-" ++ S (numL v) = S (45 :: numL v) from (S_app [45] _).symm, show (0 : Int) - (v : Int) = -(v : Int) by omega]
          exact this
        · walk_at "sx"
          exact pos H3 hr3
      · walk_at "sx"
        exact pos H2 hr2
    refine B _ fun H3 w hr3 hw => ?_
    have hdl := decL_len w
    walk_at "sx"
    refine for_range (fun j σ' H' => RowOk K H' r ∧ ∃ z2 z5 z6 z7 : Option V, σ' = [some (.ref a), some (.ref r), z2, some (.int w), some (.str (decS w)), z5, z6, z7]) ⟨hr3, _, _, _, _, rfl⟩ ?_ ?_
    · rintro j σ' H' hj ⟨hr4, y2, y5, y6, y7, rfl⟩
      walk_at "sx"
      refine ⟨w, rfl, by omega, fun H5 s5 => ?_⟩
      have hr5 := hr4.same s5
      walk_at "sx"
      refine x_isi (m := "str") (b := true) (.base (.str _)) (by decide +kernel) ?_
      walk_at "sx"
      refine x_decNF rfl ?_
      walk_at "sx"
      refine ⟨decL w, by rw [decS_eq], by omega, ferr_dec w, ?_⟩
      rw [valI_dec]
      walk_at "sx"
      refine x_isi (m := "int") (b := true) (.base (.int _)) (by decide +kernel) ?_
      walk_at "sx"
      refine x_isi (m := "int") (b := false) (.base (.int _)) (by decide +kernel) ?_
      walk_at "sx"
      refine x_decNF rfl ?_
      walk_at "sx"
      exact ⟨hr5, _, _, _, _, rfl⟩
    · rintro σ' H' ⟨hr4, y2, y5, y6, y7, rfl⟩
      exact ⟨hr4, _, _, _, _, _, _, rfl⟩
  · rintro σ' H' ⟨hr1, z2, z3, z4, z5, z6, z7, rfl⟩
    walk_at "sx"
    exact q _
end Nv

namespace Nv
open PySem PySem.Spec PyProof.Rows L2 TL
theorem l__law_taken {K : PySem.W.Frag} {vs : List V} {H : Hp} {Q : VK} {E : XK} (h : sp__law_taken K vs H Q E) : vs.length = 2 := by obtain ⟨_, _, rfl, _⟩ := h; rfl
theorem l_first_error {K : PySem.W.Frag} {vs : List V} {H : Hp} {Q : VK} {E : XK} (h : sp_first_error K vs H Q E) : vs.length = 1 := by obtain ⟨_, rfl, _⟩ := h; rfl
theorem l_read_integer {K : PySem.W.Frag} {vs : List V} {H : Hp} {Q : VK} {E : XK} (h : sp_read_integer K vs H Q E) : vs.length = 1 := by obtain ⟨_, rfl, _⟩ := h; rfl
theorem l_write_integer {K : PySem.W.Frag} {vs : List V} {H : Hp} {Q : VK} {E : XK} (h : sp_write_integer K vs H Q E) : vs.length = 1 := by obtain ⟨_, rfl, _⟩ := h; rfl
theorem l__law_number {K : PySem.W.Frag} {vs : List V} {H : Hp} {Q : VK} {E : XK} (h : sp__law_number K vs H Q E) : vs.length = 1 := by obtain ⟨_, rfl, _⟩ := h; rfl
theorem l_law {K : PySem.W.Frag} {vs : List V} {H : Hp} {Q : VK} {E : XK} (h : sp_law K vs H Q E) : vs.length = 1 := by obtain ⟨_, _, rfl, _⟩ := h; rfl
theorem law_pre {K : PySem.W.Frag} {H : Hp} {a : Addr} {ns : List Int} (hS : SqL K H a (ns.map V.int)) (hl : ns.length ≤ 63) : sp_law K [.ref a] H (fun v _ => v = .bl true) fun _ _ _ => False := ⟨a, ns, rfl, hS, fun _ => rfl⟩
theorem noX {P : Program} {w : World} {H : Hp} {s s' : Shared} {e : Value} (h : L2.CX P w [] H s (fun _ _ _ => False) e s') : False := by
  obtain ⟨_, _, _, _, _, _, _, _, _, _, _, _, z⟩ := h
  exact z.elim
end Nv
namespace NvK01
open PySem PySem.Spec PyProof.Rows L2 Nv
def topS (i : Nat) : Stmt := PySem.Challenge.pw_narrowing_k01_integers_written.main.body.getD i (.Pass ⟨0, 0, 0, 0⟩)
structure Txt (K : PySem.W.Frag) (mg : Str → Option Value) : Prop where
  n_abs : mg "abs" = none
  n_bool : mg "bool" = none
  n_divmod : mg "divmod" = none
  n_int : mg "int" = none
  n_isinstance : mg "isinstance" = none
  n_len : mg "len" = none
  n_range : mg "range" = none
  n_str : mg "str" = none
  g_CHUNK : ∃ u, mg "CHUNK" = some u ∧ RelV (.int 18) u
  g_DIGITS : ∃ u, mg "DIGITS" = some u ∧ RelV (.str "0123456789") u
  g_SCALE : ∃ u, mg "SCALE" = some u ∧ RelV (.int 1000000000000000000) u
section
variable {P : Program} {w : World} {K : PySem.W.Frag} {mg : Str → Option Value} {base : Heap}
abbrev s__law_taken : Stmt := topS 11
theorem sc__law_taken : FnScope N__law_taken ["_law_row", "_law_many"] (defScope s__law_taken) := ⟨rfl, rfl, rfl, by decide +kernel, rfl, by decide +kernel, by decide +kernel⟩
theorem ok__law_taken {f : Addr} {fd : FuncData} (F : Fun K "_law_taken" "_law_taken" s__law_taken f fd) (T : Txt K mg)  : FnOk P w K mg base (L2.CX P w) 1 f fd ["_law_row", "_law_many"] (sp__law_taken K) := by
  have sc := sc__law_taken
  refine F.okX sc (fun vs H Q E h => l__law_taken h) (fun cdv A outer s H vs Q E hr h => ⟨t__law_taken K E, ?_, r__law_taken K vs H Q E h⟩)
  have tk : Takes (cxOf (L2.CX P w) P w K mg base N__law_taken "_law_taken" (defScope s__law_taken) f cdv A outer s H E) (fun cls d _ H => E cls d H) := takes_of rfl rfl rfl rfl
  exact (pss_cons (ps_if (pt_cmpR op_gtU (pe_ix ix_seq (pv 0) pe_int (fun _ _ => rfl)) pe_int (nomark _)) (pss_cons (ps_asg (pe_op op_modU (pe_callTy call_intU (by rfl) T.n_int (by decide +kernel) (pa_cons (pe_ix ix_seq (pv 0) pe_int (fun _ _ => rfl)) pa_nil)) (pv 1)) (pg_name (i := 2) sc.nd rfl (.inl rfl)))
  (pss_cons (ps_asg (pe_op op_fdivU (pe_ix ix_seq (pv 0) pe_int (fun _ _ => rfl)) (pv 1)) (pg_sub (pv 0) pe_int set_list))
  (pss_one (ps_ret (pv 2))))) pss_nil)
  (pss_cons (ps_asg (pe_op op_addU (pe_ix ix_seq (pv 0) pe_int (fun _ _ => rfl)) pe_int) (pg_sub (pv 0) pe_int set_list))
  (pss_cons (ps_if (pt_cmpR op_gtU (pe_ix ix_seq (pv 0) pe_int (fun _ _ => rfl)) (pe_callB call_lenU (by rfl) T.n_len (by decide +kernel) (pa_cons (pe_ix ix_seq (pv 0) pe_int (fun _ _ => rfl)) pa_nil)) (nomark _)) (pss_cons (ps_asg (pe_op op_modU (pe_callTy call_intU (by rfl) T.n_int (by decide +kernel) (pa_cons (pe_op op_addU (pe_op op_mulU (pe_ix ix_seq (pv 0) pe_int (fun _ _ => rfl)) pe_int) pe_int) pa_nil)) pe_int) (pg_sub (pv 0) pe_int set_list))
  (pss_one (ps_ret (pe_op op_modU (pe_callTy call_intU (by rfl) T.n_int (by decide +kernel) (pa_cons (pe_op op_fdivU (pe_ix ix_seq (pv 0) pe_int (fun _ _ => rfl)) pe_int) pa_nil)) (pv 1))))) pss_nil)
  (pss_cons (ps_asg (pe_ix ix_seq (pe_ix ix_seq (pv 0) pe_int (fun _ _ => rfl)) (pe_op op_subU (pe_ix ix_seq (pv 0) pe_int (fun _ _ => rfl)) pe_int) (fun _ _ => rfl)) (pg_name (i := 3) sc.nd rfl (.inl rfl)))
  (pss_cons (ps_asg (pe_op op_modU (pe_callTy call_intU (by rfl) T.n_int (by decide +kernel) (pa_cons (pe_op op_addU (pe_op op_addU (pe_op op_mulU (pe_ix ix_seq (pv 0) pe_int (fun _ _ => rfl)) pe_int) (pv 3)) pe_int) pa_nil)) pe_int) (pg_sub (pv 0) pe_int set_list))
  (pss_cons (ps_if (pt_cmpR op_geU (pv 3) (pe_op op_powU pe_int pe_int) (nomark _)) (pss_one (ps_asg (pe_op op_fdivU (pv 3) (pv 1)) (pg_sub (pv 0) pe_int set_list))) pss_nil)
  (pss_one (ps_ret (pe_op op_modU (pe_callTy call_intU (by rfl) T.n_int (by decide +kernel) (pa_cons (pv 3) pa_nil)) (pv 1))))))))))
abbrev s__law_number : Stmt := topS 12
theorem sc__law_number : FnScope N__law_number ["_law_row"] (defScope s__law_number) := ⟨rfl, rfl, rfl, by decide +kernel, rfl, by decide +kernel, by decide +kernel⟩
theorem ok__law_number {f : Addr} {fd : FuncData} (F : Fun K "_law_number" "_law_number" s__law_number f fd) (T : Txt K mg) (C__law_taken : Cal P w K mg base 1 "_law_taken" ["_law_row", "_law_many"] (sp__law_taken K)) : FnOk P w K mg base (L2.CX P w) 2 f fd ["_law_row"] (sp__law_number K) := by
  have sc := sc__law_number
  refine F.okX sc (fun vs H Q E h => l__law_number h) (fun cdv A outer s H vs Q E hr h => ⟨t__law_number K E, ?_, r__law_number K vs H Q E h⟩)
  have tk : Takes (cxOf (L2.CX P w) P w K mg base N__law_number "_law_number" (defScope s__law_number) f cdv A outer s H E) (fun cls d _ H => E cls d H) := takes_of rfl rfl rfl rfl
  exact (pss_cons (ps_asg (pe_ifExp (pt_cmpR op_eq (pe_cal C__law_taken (hr.mono (by decide)) tk (by rfl) (pa_cons (pv 0) (pa_cons pe_int pa_nil))) pe_int (nomark _)) (pe_op op_addU pe_int (pe_cal C__law_taken (hr.mono (by decide)) tk (by rfl) (pa_cons (pv 0) (pa_cons pe_int pa_nil)))) (pe_cal C__law_taken (hr.mono (by decide)) tk (by rfl) (pa_cons (pv 0) (pa_cons pe_int pa_nil)))) (pg_name (i := 1) sc.nd rfl (.inl rfl)))
  (pss_cons (ps_asg (pe_ix ix_seq (pe_lst (pa_cons pe_int (pa_cons pe_int (pa_cons pe_int (pa_cons (pe_op op_addU pe_int (pe_cal C__law_taken (hr.mono (by decide)) tk (by rfl) (pa_cons (pv 0) (pa_cons (pe_op op_powU pe_int pe_int) pa_nil)))) pa_nil))))) (pe_cal C__law_taken (hr.mono (by decide)) tk (by rfl) (pa_cons (pv 0) (pa_cons pe_int pa_nil))) (fun _ _ => rfl)) (pg_name (i := 2) sc.nd rfl (.inl rfl)))
  (pss_cons (ps_asg (pe_callTy call_strU (by rfl) T.n_str (by decide +kernel) (pa_cons (pv 2) pa_nil)) (pg_name (i := 3) sc.nd rfl (.inl rfl)))
  (pss_cons (ps_for (passes_of rfl) rfl (pi_range1 (by rfl) T.n_range (pa_cons (pv 1) pa_nil)) (pg_name (i := 4) sc.nd rfl (.inl rfl)) (pss_cons (ps_if (pt_cmpR op_eq (pv 2) pe_int (nomark _)) (pss_cons (ps_asg pe_int (pg_name (i := 2) sc.nd rfl (.inl rfl)))
  (pss_one (ps_asg pe_str (pg_name (i := 3) sc.nd rfl (.inl rfl))))) pss_nil)
  (pss_cons (ps_asg (pe_ix ix_seq (pe_lst (pa_cons pe_int (pa_cons (pe_op op_subU (pe_op op_powU pe_int pe_int) pe_int) (pa_cons (pe_op op_addU (pe_op op_mulU (pe_cal C__law_taken (hr.mono (by decide)) tk (by rfl) (pa_cons (pv 0) (pa_cons (pe_op op_powU pe_int pe_int) pa_nil))) (pe_op op_powU pe_int pe_int)) (pe_cal C__law_taken (hr.mono (by decide)) tk (by rfl) (pa_cons (pv 0) (pa_cons (pe_op op_powU pe_int pe_int) pa_nil)))) pa_nil)))) (pe_cal C__law_taken (hr.mono (by decide)) tk (by rfl) (pa_cons (pv 0) (pa_cons pe_int pa_nil))) (fun _ _ => rfl)) (pg_name (i := 5) sc.nd rfl (.inl rfl)))
  (pss_cons (ps_asg (pe_op op_addU (pe_op op_mulU (pv 2) (pe_op op_powU pe_int pe_int)) (pv 5)) (pg_name (i := 2) sc.nd rfl (.inl rfl)))
  (pss_one (ps_asg (pe_op op_addU (pv 3) (pe_bm PySem.F.plainAttrs_str PySem.F.slot_str_zfill PySem.F.type_str_zfill mt_zfillU (pe_callTy call_strU (by rfl) T.n_str (by decide +kernel) (pa_cons (pv 5) pa_nil)) (pa_cons pe_int pa_nil))) (pg_name (i := 3) sc.nd rfl (.inl rfl))))))))
  (pss_one (ps_ret (pe_tup (pa_cons (pv 2) (pa_cons (pv 3) pa_nil)))))))))
abbrev s_first_error : Stmt := topS 8
theorem sc_first_error : FnScope N_first_error ["text"] (defScope s_first_error) := ⟨rfl, rfl, rfl, by decide +kernel, rfl, by decide +kernel, by decide +kernel⟩
theorem ok_first_error {f : Addr} {fd : FuncData} (F : Fun K "first_error" "first_error" s_first_error f fd) (T : Txt K mg)  : FnOk P w K mg base (L2.CX P w) 1 f fd ["text"] (sp_first_error K) := by
  have sc := sc_first_error
  refine F.okX sc (fun vs H Q E h => l_first_error h) (fun cdv A outer s H vs Q E hr h => ⟨t_first_error K E, ?_, r_first_error K vs H Q E h⟩)
  have tk : Takes (cxOf (L2.CX P w) P w K mg base N_first_error "first_error" (defScope s_first_error) f cdv A outer s H E) (fun cls d _ H => E cls d H) := takes_of rfl rfl rfl rfl
  exact (pss_cons (ps_asg (pe_ifExp (pt_cmpR op_eq (pe_slice sl_U (pv 0) po_none (po_some pe_int)) pe_str (nomark _)) pe_int pe_int) (pg_name (i := 1) sc.nd rfl (.inl rfl)))
  (pss_cons (ps_for (passes_of rfl) rfl (pi_range2 (by rfl) T.n_range (pa_cons (pv 1) (pa_cons (pe_callB call_lenU (by rfl) T.n_len (by decide +kernel) (pa_cons (pv 0) pa_nil)) pa_nil))) (pg_name (i := 2) sc.nd rfl (.inl rfl)) (pss_cons (ps_if (pt_cmpR op_notInU (pe_ix ix_seq (pv 0) (pv 2) (fun _ _ => rfl)) (pe_const T.g_DIGITS (by rfl)) (by rfl)) (pss_one (ps_ret (pe_op op_addU (pv 2) pe_int))) pss_nil)
  (pss_cons (ps_if (PW.pt (pw_and (pt_cmpR op_eq (pv 2) (pv 1) (nomark _)) (pw_and (pt_cmpR op_eq (pe_ix ix_seq (pv 0) (pv 2) (fun _ _ => rfl)) pe_str (nomark _)) (pw_and1 (pt_cmpR op_eq (pv 1) pe_int (nomark _)))))) (pss_one (ps_ret (pe_op op_addU (pv 2) pe_int))) pss_nil)
  (pss_one (ps_if (PW.pt (pw_and (pt_cmpR op_eq (pv 2) (pe_op op_addU (pv 1) pe_int) (nomark _)) (pw_and1 (pt_cmpR op_eq (pe_ix ix_seq (pv 0) (pv 1) (fun _ _ => rfl)) pe_str (nomark _))))) (pss_one (ps_ret (pe_op op_addU (pv 2) pe_int))) pss_nil)))))
  (pss_cons (ps_if (pt_cmpR op_eq (pe_callB call_lenU (by rfl) T.n_len (by decide +kernel) (pa_cons (pv 0) pa_nil)) (pv 1) (nomark _)) (pss_one (ps_ret (pe_op op_addU (pv 1) pe_int))) pss_nil)
  (pss_one (ps_ret pe_non)))))
abbrev s_read_integer : Stmt := topS 9
theorem sc_read_integer : FnScope N_read_integer ["text"] (defScope s_read_integer) := ⟨rfl, rfl, rfl, by decide +kernel, rfl, by decide +kernel, by decide +kernel⟩
theorem ok_read_integer {f : Addr} {fd : FuncData} (F : Fun K "read_integer" "read_integer" s_read_integer f fd) (T : Txt K mg) (C_first_error : Cal P w K mg base 1 "first_error" ["text"] (sp_first_error K)) : FnOk P w K mg base (L2.CX P w) 2 f fd ["text"] (sp_read_integer K) := by
  have sc := sc_read_integer
  refine F.okX sc (fun vs H Q E h => l_read_integer h) (fun cdv A outer s H vs Q E hr h => ⟨t_read_integer K E, ?_, r_read_integer K vs H Q E h⟩)
  have tk : Takes (cxOf (L2.CX P w) P w K mg base N_read_integer "read_integer" (defScope s_read_integer) f cdv A outer s H E) (fun cls d _ H => E cls d H) := takes_of rfl rfl rfl rfl
  exact (pss_cons (ps_if (pt_not (pt_truU (pe_callB call_isiU (by rfl) T.n_isinstance (by decide +kernel) (pa_cons (pv 0) (pa_cons (pe_bltn (by rfl) T.n_str (by decide +kernel) rfl) pa_nil))) (by intro _; rfl))) (pss_one ps_never) pss_nil)
  (pss_cons (ps_asg (pe_cal C_first_error (hr.mono (by decide)) tk (by rfl) (pa_cons (pv 0) pa_nil)) (pg_name (i := 1) sc.nd rfl (.inl rfl)))
  (pss_cons (ps_if (pt_cmpR op_notN1 (pv 1) pe_non (nomark _)) (pss_one ps_never) pss_nil)
  (pss_cons (ps_asg (pe_ifExp (pt_cmpR op_eq (pe_ix ix_seq (pv 0) pe_int (fun _ _ => rfl)) pe_str (nomark _)) (pe_slice sl_U (pv 0) (po_some pe_int) po_none) (pv 0)) (pg_name (i := 2) sc.nd rfl (.inl rfl)))
  (pss_cons (ps_asg (pe_op op_modU (pe_callB call_lenU (by rfl) T.n_len (by decide +kernel) (pa_cons (pv 2) pa_nil)) (pe_const T.g_CHUNK (by rfl))) (pg_name (i := 3) sc.nd rfl (.inl rfl)))
  (pss_cons (ps_asg (pe_ifExp (pt_cmpR op_gtU (pv 3) pe_int (nomark _)) (pe_callTy call_intU (by rfl) T.n_int (by decide +kernel) (pa_cons (pe_slice sl_U (pv 2) po_none (po_some (pv 3))) pa_nil)) pe_int) (pg_name (i := 4) sc.nd rfl (.inl rfl)))
  (pss_cons (ps_for (passes_of rfl) rfl (pi_range3 (by rfl) T.n_range (pa_cons (pv 3) (pa_cons (pe_callB call_lenU (by rfl) T.n_len (by decide +kernel) (pa_cons (pv 2) pa_nil)) (pa_cons (pe_const T.g_CHUNK (by rfl)) pa_nil)))) (pg_name (i := 5) sc.nd rfl (.inl rfl)) (pss_one (ps_asg (pe_op op_addU (pe_op op_mulU (pv 4) (pe_const T.g_SCALE (by rfl))) (pe_callTy call_intU (by rfl) T.n_int (by decide +kernel) (pa_cons (pe_slice sl_U (pv 2) (po_some (pv 5)) (po_some (pe_op op_addU (pv 5) (pe_const T.g_CHUNK (by rfl))))) pa_nil))) (pg_name (i := 4) sc.nd rfl (.inl rfl)))))
  (pss_one (ps_ret (pe_ifExp (pt_cmpR op_eq (pe_ix ix_seq (pv 0) pe_int (fun _ _ => rfl)) pe_str (nomark _)) (pe_un un_neg (pv 4)) (pv 4)))))))))))
abbrev s_write_integer : Stmt := topS 7
theorem sc_write_integer : FnScope N_write_integer ["value"] (defScope s_write_integer) := ⟨rfl, rfl, rfl, by decide +kernel, rfl, by decide +kernel, by decide +kernel⟩
theorem ok_write_integer {f : Addr} {fd : FuncData} (F : Fun K "write_integer" "write_integer" s_write_integer f fd) (T : Txt K mg)  : FnOk P w K mg base (L2.CX P w) 1 f fd ["value"] (sp_write_integer K) := by
  have sc := sc_write_integer
  refine F.okX sc (fun vs H Q E h => l_write_integer h) (fun cdv A outer s H vs Q E hr h => ⟨t_write_integer K E, ?_, r_write_integer K vs H Q E h⟩)
  have tk : Takes (cxOf (L2.CX P w) P w K mg base N_write_integer "write_integer" (defScope s_write_integer) f cdv A outer s H E) (fun cls d _ H => E cls d H) := takes_of rfl rfl rfl rfl
  exact (pss_cons (ps_asg (pe_callB call_absU (by rfl) T.n_abs (by decide +kernel) (pa_cons (pv 0) pa_nil)) (pg_name (i := 1) sc.nd rfl (.inl rfl)))
  (pss_cons (ps_asg (pe_lst pa_nil) (pg_name (i := 2) sc.nd rfl (.inl rfl)))
  (pss_cons (ps_while (passes_of rfl) (pt_cmpR op_geU (pv 1) (pe_const T.g_SCALE (by rfl)) (nomark _)) (pss_cons (ps_asg (pe_callB call_divmodU (by rfl) T.n_divmod (by decide +kernel) (pa_cons (pv 1) (pa_cons (pe_const T.g_SCALE (by rfl)) pa_nil))) (pg_tup rfl (pgs_cons (pg_name (i := 1) sc.nd rfl (.inl rfl)) (pgs_cons (pg_name (i := 3) sc.nd rfl (.inl rfl)) pgs_nil))))
  (pss_one (ps_expr (pe_bm PySem.F.plainAttrs_list PySem.F.slot_list_append PySem.F.type_list_append mt_append (pv 2) (pa_cons (pe_bm PySem.F.plainAttrs_str PySem.F.slot_str_zfill PySem.F.type_str_zfill mt_zfillU (pe_callTy call_strU (by rfl) T.n_str (by decide +kernel) (pa_cons (pv 3) pa_nil)) (pa_cons (pe_const T.g_CHUNK (by rfl)) pa_nil)) pa_nil))))))
  (pss_cons (ps_expr (pe_bm PySem.F.plainAttrs_list PySem.F.slot_list_append PySem.F.type_list_append mt_append (pv 2) (pa_cons (pe_callTy call_strU (by rfl) T.n_str (by decide +kernel) (pa_cons (pv 1) pa_nil)) pa_nil)))
  (pss_cons (ps_asg (pe_bm PySem.F.plainAttrs_str PySem.F.slot_str_join PySem.F.type_str_join mt_joinU pe_str (pa_cons (pe_revL (pv 2)) pa_nil)) (pg_name (i := 4) sc.nd rfl (.inl rfl)))
  (pss_one (ps_ret (pe_ifExp (pt_cmpR op_ltU (pv 0) pe_int (nomark _)) (pe_op op_addU pe_str (pv 4)) (pv 4)))))))))
abbrev s_law : Stmt := topS 13
theorem sc_law : FnScope N_law ["_law_script"] (defScope s_law) := ⟨rfl, rfl, rfl, by decide +kernel, rfl, by decide +kernel, by decide +kernel⟩
theorem ok_law {f : Addr} {fd : FuncData} (F : Fun K "law" "law" s_law f fd) (T : Txt K mg) (C__law_number : Cal P w K mg base 2 "_law_number" ["_law_row"] (sp__law_number K)) (C__law_taken : Cal P w K mg base 1 "_law_taken" ["_law_row", "_law_many"] (sp__law_taken K)) (C_read_integer : Cal P w K mg base 2 "read_integer" ["text"] (sp_read_integer K)) (C_write_integer : Cal P w K mg base 1 "write_integer" ["value"] (sp_write_integer K)) : FnOk P w K mg base (L2.CX P w) 3 f fd ["_law_script"] (sp_law K) := by
  have sc := sc_law
  refine F.okX sc (fun vs H Q E h => l_law h) (fun cdv A outer s H vs Q E hr h => ⟨t_law K E, ?_, r_law K vs H Q E h⟩)
  have tk : Takes (cxOf (L2.CX P w) P w K mg base N_law "law" (defScope s_law) f cdv A outer s H E) (fun cls d _ H => E cls d H) := takes_of rfl rfl rfl rfl
  exact (pss_cons (ps_asg (pe_lst (pa_cons (pv 0) (pa_cons pe_int (pa_cons pe_int (pa_cons pe_int pa_nil))))) (pg_name (i := 1) sc.nd rfl (.inl rfl)))
  (pss_cons (ps_for (passes_of rfl) rfl (pi_range1 (by rfl) T.n_range (pa_cons pe_int pa_nil)) (pg_name (i := 2) sc.nd rfl (.inl rfl)) (pss_cons (ps_asg (pe_cal C__law_number (hr.mono (by decide)) tk (by rfl) (pa_cons (pv 1) pa_nil)) (pg_tup rfl (pgs_cons (pg_name (i := 3) sc.nd rfl (.inl rfl)) (pgs_cons (pg_name (i := 4) sc.nd rfl (.inl rfl)) pgs_nil))))
  (pss_cons (ps_if (PW.pt (pw_and (pt_cmpR op_gtU (pv 3) pe_int (nomark _)) (pw_and1 (pt_cmpR op_eq (pe_cal C__law_taken (hr.mono (by decide)) tk (by rfl) (pa_cons (pv 1) (pa_cons pe_int pa_nil))) pe_int (nomark _))))) (pss_cons (ps_asg (pe_op op_subU pe_int (pv 3)) (pg_name (i := 3) sc.nd rfl (.inl rfl)))
  (pss_one (ps_asg (pe_op op_addU pe_str (pv 4)) (pg_name (i := 4) sc.nd rfl (.inl rfl))))) pss_nil)
  (pss_one (ps_for (passes_of rfl) rfl (pi_range1 (by rfl) T.n_range (pa_cons pe_int pa_nil)) (pg_name (i := 5) sc.nd rfl (.inl rfl)) (pss_cons (ps_asg (pe_cal C_write_integer (hr.mono (by decide)) tk (by rfl) (pa_cons (pv 3) pa_nil)) (pg_name (i := 6) sc.nd rfl (.inl rfl)))
  (pss_cons (ps_if (PW.pt (pw_or (pt_not (pt_truU (pe_callB call_isiU (by rfl) T.n_isinstance (by decide +kernel) (pa_cons (pv 6) (pa_cons (pe_bltn (by rfl) T.n_str (by decide +kernel) rfl) pa_nil))) (by intro _; rfl))) (pw_or1 (pt_cmpR op_ne (pv 6) (pv 4) (nomark _))))) (pss_one (ps_ret pe_bl)) pss_nil)
  (pss_cons (ps_asg (pe_cal C_read_integer (hr.mono (by decide)) tk (by rfl) (pa_cons (pv 4) pa_nil)) (pg_name (i := 7) sc.nd rfl (.inl rfl)))
  (pss_one (ps_if (PW.pt (pw_or (pt_not (pt_truU (pe_callB call_isiU (by rfl) T.n_isinstance (by decide +kernel) (pa_cons (pv 7) (pa_cons (pe_bltn (by rfl) T.n_int (by decide +kernel) rfl) pa_nil))) (by intro _; rfl))) (pw_or (pt_truU (pe_callB call_isiU (by rfl) T.n_isinstance (by decide +kernel) (pa_cons (pv 7) (pa_cons (pe_bltn (by rfl) T.n_bool (by decide +kernel) rfl) pa_nil))) (by intro _; rfl)) (pw_or1 (pt_cmpR op_ne (pv 7) (pv 3) (nomark _)))))) (pss_one (ps_ret pe_bl)) pss_nil))))))))))
  (pss_one (ps_ret pe_bl))))
end
theorem all_mk {P : Program} {w : World} {K : PySem.W.Frag} {h : Heap} {mg : Str → Option Value} {fa : Addr} (X : K.In h) (G : h.Ns mainGlobals mg) (hfa : mg "law" = some (.ref fa))
    {f0 : Addr} {od0 an0 : Option Addr} {sl0 : Array (Option Value)} {oc0 kV0 dc0 pm0 cd0 ct0 : Value}
    (a0 : PySem.W.nsIn K mainGlobals "_law_taken" = some (some (.ref f0))) (l0 : K.lookup f0 = some ⟨oc0, od0, .func (PySem.W.fnOf "_law_taken" "_law_taken" (defArgs s__law_taken) (defBody s__law_taken) (defScope s__law_taken) .none kV0 dc0 pm0 an0 cd0 ct0), sl0⟩) (c0 : PySem.W.codeIn K cd0 "_law_taken" = true) (k0 : PySem.W.keepIn K (.ref f0) = true)
    {f1 : Addr} {od1 an1 : Option Addr} {sl1 : Array (Option Value)} {oc1 kV1 dc1 pm1 cd1 ct1 : Value}
    (a1 : PySem.W.nsIn K mainGlobals "_law_number" = some (some (.ref f1))) (l1 : K.lookup f1 = some ⟨oc1, od1, .func (PySem.W.fnOf "_law_number" "_law_number" (defArgs s__law_number) (defBody s__law_number) (defScope s__law_number) .none kV1 dc1 pm1 an1 cd1 ct1), sl1⟩) (c1 : PySem.W.codeIn K cd1 "_law_number" = true) (k1 : PySem.W.keepIn K (.ref f1) = true)
    {f2 : Addr} {od2 an2 : Option Addr} {sl2 : Array (Option Value)} {oc2 kV2 dc2 pm2 cd2 ct2 : Value}
    (a2 : PySem.W.nsIn K mainGlobals "first_error" = some (some (.ref f2))) (l2 : K.lookup f2 = some ⟨oc2, od2, .func (PySem.W.fnOf "first_error" "first_error" (defArgs s_first_error) (defBody s_first_error) (defScope s_first_error) .none kV2 dc2 pm2 an2 cd2 ct2), sl2⟩) (c2 : PySem.W.codeIn K cd2 "first_error" = true) (k2 : PySem.W.keepIn K (.ref f2) = true)
    {f3 : Addr} {od3 an3 : Option Addr} {sl3 : Array (Option Value)} {oc3 kV3 dc3 pm3 cd3 ct3 : Value}
    (a3 : PySem.W.nsIn K mainGlobals "read_integer" = some (some (.ref f3))) (l3 : K.lookup f3 = some ⟨oc3, od3, .func (PySem.W.fnOf "read_integer" "read_integer" (defArgs s_read_integer) (defBody s_read_integer) (defScope s_read_integer) .none kV3 dc3 pm3 an3 cd3 ct3), sl3⟩) (c3 : PySem.W.codeIn K cd3 "read_integer" = true) (k3 : PySem.W.keepIn K (.ref f3) = true)
    {f4 : Addr} {od4 an4 : Option Addr} {sl4 : Array (Option Value)} {oc4 kV4 dc4 pm4 cd4 ct4 : Value}
    (a4 : PySem.W.nsIn K mainGlobals "write_integer" = some (some (.ref f4))) (l4 : K.lookup f4 = some ⟨oc4, od4, .func (PySem.W.fnOf "write_integer" "write_integer" (defArgs s_write_integer) (defBody s_write_integer) (defScope s_write_integer) .none kV4 dc4 pm4 an4 cd4 ct4), sl4⟩) (c4 : PySem.W.codeIn K cd4 "write_integer" = true) (k4 : PySem.W.keepIn K (.ref f4) = true)
    {f5 : Addr} {od5 an5 : Option Addr} {sl5 : Array (Option Value)} {oc5 kV5 dc5 pm5 cd5 ct5 : Value}
    (a5 : PySem.W.nsIn K mainGlobals "law" = some (some (.ref f5))) (l5 : K.lookup f5 = some ⟨oc5, od5, .func (PySem.W.fnOf "law" "law" (defArgs s_law) (defBody s_law) (defScope s_law) .none kV5 dc5 pm5 an5 cd5 ct5), sl5⟩) (c5 : PySem.W.codeIn K cd5 "law" = true) (k5 : PySem.W.keepIn K (.ref f5) = true)
    (z_abs : PySem.W.nsIn K mainGlobals "abs" = some none)
    (z_bool : PySem.W.nsIn K mainGlobals "bool" = some none)
    (z_divmod : PySem.W.nsIn K mainGlobals "divmod" = some none)
    (z_int : PySem.W.nsIn K mainGlobals "int" = some none)
    (z_isinstance : PySem.W.nsIn K mainGlobals "isinstance" = some none)
    (z_len : PySem.W.nsIn K mainGlobals "len" = some none)
    (z_range : PySem.W.nsIn K mainGlobals "range" = some none)
    (z_str : PySem.W.nsIn K mainGlobals "str" = some none)
    {t_CHUNK : Tok} (v_CHUNK : PySem.W.nsIn K mainGlobals "CHUNK" = some (some (.int 18 t_CHUNK)))
    {t_DIGITS : Tok} (v_DIGITS : PySem.W.nsIn K mainGlobals "DIGITS" = some (some (.str "0123456789" t_DIGITS)))
    {t_SCALE : Tok} (v_SCALE : PySem.W.nsIn K mainGlobals "SCALE" = some (some (.int 1000000000000000000 t_SCALE)))
    : ∃ fd : FuncData, (∀ (s : Shared) (v : Value), BindsTo s fd ⟨[v], []⟩ [("_law_script", v)]) ∧ ∀ base : Heap, K.In base → base.Ns mainGlobals mg → FnOk P w K mg base (L2.CX P w) 3 fa fd ["_law_script"] (sp_law K) := by
  have e := hfa.symm.trans (PySem.W.mg_of X G a5)
  cases e
  have T : Txt K mg := { n_abs := PySem.W.mg_none_of X G z_abs, n_bool := PySem.W.mg_none_of X G z_bool, n_divmod := PySem.W.mg_none_of X G z_divmod, n_int := PySem.W.mg_none_of X G z_int, n_isinstance := PySem.W.mg_none_of X G z_isinstance, n_len := PySem.W.mg_none_of X G z_len, n_range := PySem.W.mg_none_of X G z_range, n_str := PySem.W.mg_none_of X G z_str, g_CHUNK := ⟨_, PySem.W.mg_of X G v_CHUNK, ⟨_, rfl⟩⟩, g_DIGITS := ⟨_, PySem.W.mg_of X G v_DIGITS, ⟨_, rfl⟩⟩, g_SCALE := ⟨_, PySem.W.mg_of X G v_SCALE, ⟨_, rfl⟩⟩ }
  have F0 := fun_mk (st := s__law_taken) l0 c0 k0
  have b0 := F0.binds (ps := ["_law_row", "_law_many"]) fun _ _ _ _ _ _ us hl => match us, hl with | [_, _], _ => rfl
  have F1 := fun_mk (st := s__law_number) l1 c1 k1
  have b1 := F1.binds (ps := ["_law_row"]) fun _ _ _ _ _ _ us hl => match us, hl with | [_], _ => rfl
  have F2 := fun_mk (st := s_first_error) l2 c2 k2
  have b2 := F2.binds (ps := ["text"]) fun _ _ _ _ _ _ us hl => match us, hl with | [_], _ => rfl
  have F3 := fun_mk (st := s_read_integer) l3 c3 k3
  have b3 := F3.binds (ps := ["text"]) fun _ _ _ _ _ _ us hl => match us, hl with | [_], _ => rfl
  have F4 := fun_mk (st := s_write_integer) l4 c4 k4
  have b4 := F4.binds (ps := ["value"]) fun _ _ _ _ _ _ us hl => match us, hl with | [_], _ => rfl
  have F5 := fun_mk (st := s_law) l5 c5 k5
  refine ⟨PySem.W.fnOf "law" "law" (defArgs s_law) (defBody s_law) (defScope s_law) .none kV5 dc5 pm5 an5 cd5 ct5, fun s v => .of_eq rfl, fun base _ _ => ?_⟩
  have C0 : Cal P w K mg base 1 "_law_taken" ["_law_row", "_law_many"] (sp__law_taken K) := ⟨_, _, ok__law_taken F0 T , PySem.W.mg_of X G a0, k0, b0⟩
  have C1 : Cal P w K mg base 2 "_law_number" ["_law_row"] (sp__law_number K) := ⟨_, _, ok__law_number F1 T C0, PySem.W.mg_of X G a1, k1, b1⟩
  have C2 : Cal P w K mg base 1 "first_error" ["text"] (sp_first_error K) := ⟨_, _, ok_first_error F2 T , PySem.W.mg_of X G a2, k2, b2⟩
  have C3 : Cal P w K mg base 2 "read_integer" ["text"] (sp_read_integer K) := ⟨_, _, ok_read_integer F3 T C2, PySem.W.mg_of X G a3, k3, b3⟩
  have C4 : Cal P w K mg base 1 "write_integer" ["value"] (sp_write_integer K) := ⟨_, _, ok_write_integer F4 T , PySem.W.mg_of X G a4, k4, b4⟩
  exact ok_law F5 T C1 C0 C3 C4
end NvK01
open PySem PySem.W PyProof.Rows
set_option maxHeartbeats 0 in
theorem PySem.Challenge.cw_narrowing_k01_integers_written_holds : PySem.Challenge.rw_narrowing_k01_integers_written.Holds := by
  w_on; o_law; k_head; (case hw => w_witness2)
  k_fill
  refine L2.walk_of (l := PySem.Challenge.rw_narrowing_k01_integers_written) (n := 63) (k := 3) (x := "_law_script") (CX := fun w => L2.CX PySem.Challenge.rw_narrowing_k01_integers_written.prog w) (sp := fun w => Nv.sp_law _) rfl (by decide) rfl ⟨rfl, by decide, by decide⟩ (fun w h Y => PySem.W.kIn_of Y) ?F (fun _ _ a ns hl _ hS => Nv.law_pre hS hl) (fun _ _ _ _ _ h => Nv.noX h)
  case F =>
    intro w mg fa h KX G hmg
    refine' NvK01.all_mk KX G hmg ?a0 ?l0 ?c0 ?k0 ?a1 ?l1 ?c1 ?k1 ?a2 ?l2 ?c2 ?k2 ?a3 ?l3 ?c3 ?k3 ?a4 ?l4 ?c4 ?k4 ?a5 ?l5 ?c5 ?k5 ?z_abs ?z_bool ?z_divmod ?z_int ?z_isinstance ?z_len ?z_range ?z_str ?v_CHUNK ?v_DIGITS ?v_SCALE
    (case a0 => k_is); (case l0 => k_is); (case c0 => k_is); (case k0 => k_is); (case a1 => k_is); (case l1 => k_is); (case c1 => k_is); (case k1 => k_is); (case a2 => k_is); (case l2 => k_is); (case c2 => k_is); (case k2 => k_is); (case a3 => k_is); (case l3 => k_is); (case c3 => k_is); (case k3 => k_is); (case a4 => k_is); (case l4 => k_is); (case c4 => k_is); (case k4 => k_is); (case a5 => k_is); (case l5 => k_is); (case c5 => k_is); (case k5 => k_is); (case z_abs => k_is); (case z_bool => k_is); (case z_divmod => k_is); (case z_int => k_is); (case z_isinstance => k_is); (case z_len => k_is); (case z_range => k_is); (case z_str => k_is); (case v_CHUNK => k_is); (case v_DIGITS => k_is); (case v_SCALE => k_is)

